import PyProof.Rows.All
import Wide.All
import OpenK.AllK
import Wide.FinOn
import HandS.ForMost
import HandS.ForExc
import HandS.Star
import HandS.Defaults
import HandS.IsInst
import HandS.Wide
import HandS.Flow
import HandS.CallSlots
import HandS.ExcInit
import HandS.ExcField
import HandS.Evl
import HandS.TupAny
import HandS.TupMul
import HandS.Style
import HandS.WideBits
import HandS.Zip
import KE.GoesEnum
import KE.DatumOrd
import HandS.SortKw
import HandS.Lambda
import HandS.EndTab
import KE.KExcIs
import HandS.Deep
import HandS.Dict
import HandS.Text
import PyProof.ListStr
import HandS.SlotsOwn
import KE.KOpsOwn
import PyProof.InstNe
import HandS.ClsMeth
import HandS.MakeKw
import PyProof.ReprRoads
import HandS.EndOwn
import HandS.RaiseMore
import KE.KEqDict
import HandS.ExcValue
import PyProof.NeData
import HandS.TryMany
import PySem.Challenge.RW_thincoins_k00_errors_keep_their_fields
set_option Elab.async false
set_option linter.all false
set_option autoImplicit false
set_option maxRecDepth 100000
set_option maxHeartbeats 1000000
namespace TW
open PySem PySem.Spec PyProof.Rows L2

/-! ## data -/
inductive D where
  | non | bl (b : Bool) | int (i : Int) | str (x : Str) | dct
  | tup (ds : List D) | lst (ds : List D) | arg (ds : List D)
  | obj (c : Nat) (ds : List D)
  | exc (a : Nat) (x : Option Nat) (c : Nat) (ds : List D)
  | err (c : Nat) (ds : List D)
  | opq (i : Nat)
inductive Sl where
  | no | v (d : D) | l (ds : List D) | o (c : Nat) (ds : List D)
abbrev S := List Sl
inductive Out (α : Type) where
  | ok (a : α) (s : S) | ex (c : Nat) (ds : List D) (s : S) | bad
abbrev M (α : Type) := S → Out α
@[inline] def mret {α : Type} (a : α) : M α := fun s => .ok a s
def mbind {α β : Type} (f : M α) (k : α → M β) : M β := fun s => match f s with
  | .ok a s' => k a s'
  | .ex c ds s' => .ex c ds s'
  | .bad => .bad
def mbad {α : Type} : M α := fun _ => .bad
def mopt {α : Type} : Option α → M α
  | some a => mret a
  | none => mbad

/-- the text's classes and attributes, by numbers -/
structure G where
  K : PySem.W.Frag
  mg : Str → Option Value
  cn : Nat → Addr
  names : Nat → List Str
  rho : Nat → Option V := fun _ => none
/-- what the text says of an error's class whose errors are compared -/
structure EqC (K : PySem.W.Frag) (C : Addr) : Prop where
  he : PySem.W.findIn K (.ref C) "__eq__" = some (some (.builtin "object.__eq__"))
  hn : PySem.W.findIn K (.ref C) "__ne__" = some (some (.builtin "object.__ne__"))
  ho : PySem.W.subIn K (.ref C) (.type "object") = some true
/-- an error of the class at C stands at a, its dict (if any) beside it -/
def ErAt (H : Hp) (a C : Addr) (x : Option Addr) : Prop := H a = some (exo a C x) ∧ (x = none ∨ ∃ dd fs, x = some dd ∧ H dd = some (exd dd fs))
/-- a value that is equal to itself -/
def Slf (K : PySem.W.Frag) (B : Hp) (v : V) : Prop :=
  (∃ b, v = .bl b) ∨ (∃ i, v = .int i) ∨ (∃ x, v = .str x) ∨ (∃ a xs, v = .ref a ∧ SqT K B a xs) ∨ (∃ a xs, v = .ref a ∧ SqL K B a xs) ∨ (∃ a kvs, v = .ref a ∧ B a = some (.dK kvs)) ∨ (∃ a C x, v = .ref a ∧ ErAt B a C x ∧ EqC K C)

mutual
def Den (g : G) (B : Hp) : D → V → Prop
  | .non, v => v = .non
  | .bl b, v => v = .bl b
  | .int i, v => v = .int i
  | .str x, v => v = .str x
  | .dct, v => ∃ a kvs, v = .ref a ∧ B a = some (.dK kvs)
  | .tup ds, v => ∃ a vs, v = .ref a ∧ SqT g.K B a vs ∧ Dens g B ds vs
  | .lst ds, v => ∃ a vs, v = .ref a ∧ B a = some (.lst vs) ∧ Dens g B ds vs
  | .arg ds, v => ∃ a vs, v = .ref a ∧ SqL g.K B a vs ∧ Dens g B ds vs
  | .obj c ds, v => ∃ a dx vs, v = .ref a ∧ B a = some (.ins (g.cn c) dx ((g.names c).zip vs)) ∧ Dens g B ds vs
  | .exc a x c ds, v => v = .ref a ∧ (ds = [] ∨ ∃ dx fs vs, x = some dx ∧ B dx = some (.xd fs) ∧ Dens g B ds vs ∧ ∀ (j : Nat) (f : Str) (v : V), (g.names c)[j]? = some f → vs[j]? = some v → fs.lookup f = some v)
  | .err c ds, v => ∃ a x, v = .ref a ∧ B a = some (exo a (g.cn c) x) ∧ ((ds = [] ∧ x = none) ∨ ∃ dx fs vs, x = some dx ∧ B dx = some (exd dx fs) ∧ Dens g B ds vs ∧ ∀ (j : Nat) (f : Str) (v : V), (g.names c)[j]? = some f → vs[j]? = some v → fs.lookup f = some v)
  | .opq i, v => g.rho i = some v ∧ Slf g.K B v
def Dens (g : G) (B : Hp) : List D → List V → Prop
  | [], vs => vs = []
  | d :: ds, vs => ∃ v r, vs = v :: r ∧ Den g B d v ∧ Dens g B ds r
end

abbrev Ex := Evl.Ex
variable {g : G} {B B' H H' : Hp}

theorem Ex.rfl' : Ex B B := Evl.Ex.refl B
theorem ErAt.mono {a C : Addr} {x : Option Addr} (e : Ex B B') (h : ErAt B a C x) : ErAt B' a C x := by
  obtain ⟨h1, h2 | ⟨dd, fs, h2, h3⟩⟩ := h
  · exact ⟨e _ _ h1, .inl h2⟩
  · exact ⟨e _ _ h1, .inr ⟨dd, fs, h2, e _ _ h3⟩⟩
theorem Slf.mono {K : PySem.W.Frag} {v : V} (e : Ex B B') (h : Slf K B v) : Slf K B' v := by
  rcases h with h | h | h | ⟨a, xs, h1, h2⟩ | ⟨a, xs, h1, h2⟩ | ⟨a, kvs, h1, h2⟩ | ⟨a, C, x, h1, h2, h3⟩
  · exact .inl h
  · exact .inr (.inl h)
  · exact .inr (.inr (.inl h))
  · exact .inr (.inr (.inr (.inl ⟨a, xs, h1, Evl.ex_t e h2⟩)))
  · exact .inr (.inr (.inr (.inr (.inl ⟨a, xs, h1, Evl.ex_l e h2⟩))))
  · exact .inr (.inr (.inr (.inr (.inr (.inl ⟨a, kvs, h1, e _ _ h2⟩)))))
  · exact .inr (.inr (.inr (.inr (.inr (.inr ⟨a, C, x, h1, h2.mono e, h3⟩)))))

mutual
theorem Den.mono (e : Ex B B') : ∀ {d : D} {v : V}, Den g B d v → Den g B' d v
  | .non, _, h => h
  | .bl _, _, h => h
  | .int _, _, h => h
  | .str _, _, h => h
  | .dct, _, ⟨a, kvs, e1, h1⟩ => ⟨a, kvs, e1, e _ _ h1⟩
  | .tup ds, _, ⟨a, vs, e1, h1, h2⟩ => ⟨a, vs, e1, Evl.ex_t e h1, Dens.mono e h2⟩
  | .lst ds, _, ⟨a, vs, e1, h1, h2⟩ => ⟨a, vs, e1, e _ _ h1, Dens.mono e h2⟩
  | .arg ds, _, ⟨a, vs, e1, h1, h2⟩ => ⟨a, vs, e1, Evl.ex_l e h1, Dens.mono e h2⟩
  | .obj c ds, _, ⟨a, dx, vs, e1, h1, h3⟩ => ⟨a, dx, vs, e1, e _ _ h1, Dens.mono e h3⟩
  | .exc a x c ds, _, ⟨e1, .inl h⟩ => ⟨e1, .inl h⟩
  | .exc a x c ds, _, ⟨e1, .inr ⟨dx, fs, vs, h1, h2, h3, h4⟩⟩ => ⟨e1, .inr ⟨dx, fs, vs, h1, e _ _ h2, Dens.mono e h3, h4⟩⟩
  | .err c ds, _, ⟨a, x, e1, h1, .inl h⟩ => ⟨a, x, e1, e _ _ h1, .inl h⟩
  | .err c ds, _, ⟨a, x, e1, h0, .inr ⟨dx, fs, vs, h1, h2, h3, h4⟩⟩ => ⟨a, x, e1, e _ _ h0, .inr ⟨dx, fs, vs, h1, e _ _ h2, Dens.mono e h3, h4⟩⟩
  | .opq i, _, ⟨h1, h2⟩ => ⟨h1, Slf.mono e h2⟩
theorem Dens.mono (e : Ex B B') : ∀ {ds : List D} {vs : List V}, Dens g B ds vs → Dens g B' ds vs
  | [], _, h => h
  | d :: ds, _, ⟨v, r, e1, h1, h2⟩ => ⟨v, r, e1, Den.mono e h1, Dens.mono e h2⟩
end

theorem Dens.length : ∀ {ds : List D} {vs : List V}, Dens g B ds vs → vs.length = ds.length
  | [], _, h => by cases h; rfl
  | d :: ds, _, ⟨v, r, e1, h1, h2⟩ => by subst e1; simp [Dens.length h2]
theorem Dens.get : ∀ {ds : List D} {vs : List V} {i : Nat} {d : D}, Dens g B ds vs → ds[i]? = some d → ∃ v, vs[i]? = some v ∧ Den g B d v
  | [], _, i, d, h, e => by simp at e
  | d :: ds, _, 0, d', ⟨v, r, e1, h1, h2⟩, e => by
    simp at e; subst e; subst e1; exact ⟨v, rfl, h1⟩
  | d :: ds, _, i + 1, d', ⟨v, r, e1, h1, h2⟩, e => by
    subst e1
    have := Dens.get (i := i) h2 (by simpa using e)
    simpa using this
theorem Dens.cons {d : D} {v : V} {ds : List D} {vs : List V} (h : Den g B d v) (hs : Dens g B ds vs) : Dens g B (d :: ds) (v :: vs) := ⟨v, vs, rfl, h, hs⟩
theorem Dens.nil : Dens g B [] [] := rfl
theorem Dens.append : ∀ {ds es : List D} {vs us : List V}, Dens g B ds vs → Dens g B es us → Dens g B (ds ++ es) (vs ++ us)
  | [], _, _, _, h, h' => by cases h; exact h'
  | d :: ds, _, _, _, ⟨v, r, e1, h1, h2⟩, h' => by subst e1; exact ⟨v, _, rfl, h1, Dens.append h2 h'⟩
theorem Dens.take (n : Nat) : ∀ {ds : List D} {vs : List V}, Dens g B ds vs → Dens g B (ds.take n) (vs.take n) := by
  induction n with
  | zero => intro ds vs h; simp [Dens]
  | succ n ih =>
    intro ds vs h
    cases ds with
    | nil => cases h; simp [Dens]
    | cons d ds => obtain ⟨v, r, e1, h1, h2⟩ := h; subst e1; exact ⟨v, _, rfl, h1, ih h2⟩
theorem Dens.drop (n : Nat) : ∀ {ds : List D} {vs : List V}, Dens g B ds vs → Dens g B (ds.drop n) (vs.drop n) := by
  induction n with
  | zero => intro ds vs h; simpa using h
  | succ n ih =>
    intro ds vs h
    cases ds with
    | nil => cases h; simp [Dens]
    | cons d ds => obtain ⟨v, r, e1, h1, h2⟩ := h; subst e1; simpa using ih h2
theorem Dens.set {d : D} {v : V} (h : Den g B d v) : ∀ (i : Nat) {ds : List D} {vs : List V}, Dens g B ds vs → Dens g B (ds.set i d) (vs.set i v)
  | _, [], _, hs => by cases hs; simp [Dens]
  | 0, d' :: ds, _, ⟨v', r, e1, h1, h2⟩ => by subst e1; exact ⟨v, r, rfl, h, h2⟩
  | i + 1, d' :: ds, _, ⟨v', r, e1, h1, h2⟩ => by subst e1; exact ⟨v', _, rfl, h1, Dens.set h i h2⟩
theorem Dens.reverse : ∀ {ds : List D} {vs : List V}, Dens g B ds vs → Dens g B ds.reverse vs.reverse
  | [], _, h => by cases h; simp [Dens]
  | d :: ds, _, ⟨v, r, e1, h1, h2⟩ => by
    subst e1; rw [List.reverse_cons, List.reverse_cons]; exact Dens.append (Dens.reverse h2) (Dens.cons h1 Dens.nil)

/-- the value now: a list's, an instance's own top stands in H, what is within in B -/
def DenW (g : G) (B H : Hp) : D → V → Prop
  | .lst ds, v => ∃ a vs, v = .ref a ∧ H a = some (.lst vs) ∧ Dens g B ds vs
  | .obj c ds, v => ∃ a dx vs, v = .ref a ∧ H a = some (.ins (g.cn c) dx ((g.names c).zip vs)) ∧ Dens g B ds vs
  | d, v => Den g B d v
theorem Den.w (e : Ex B H) {d : D} {v : V} (h : Den g B d v) : DenW g B H d v := by
  cases d with
  | lst ds => obtain ⟨a, vs, e1, h1, h2⟩ := h; exact ⟨a, vs, e1, e _ _ h1, h2⟩
  | obj c ds => obtain ⟨a, dx, vs, e1, h1, h3⟩ := h; exact ⟨a, dx, vs, e1, e _ _ h1, h3⟩
  | _ => exact h

/-! ## states -/
/-- a def's run: what stood at its entry, where the lists and instances stand that it may change for its caller -/
structure Tx where
  B0 : Hp
  H0 : Hp
  io : Nat → Option Addr
  τ : L2.St
  t : S
abbrev Tx.tmp (T : Tx) (τ : L2.St) (t : S) : Tx := { T with τ := τ, t := t }

def SlOk (g : G) (B H : Hp) : Sl → Option V → Prop
  | .no, _ => True
  | .v d, x => ∃ v, x = some v ∧ Den g B d v
  | .l ds, x => ∃ a vs, x = some (.ref a) ∧ B a = none ∧ H a = some (.lst vs) ∧ Dens g B ds vs
  | .o c ds, x => ∃ a dx vs, x = some (.ref a) ∧ B a = none ∧ H a = some (.ins (g.cn c) dx ((g.names c).zip vs)) ∧ Dens g B ds vs
def Sl.own : Sl → Bool
  | .l _ => true
  | .o _ _ => true
  | _ => false

structure Rel0 (g : G) (T : Tx) (B H : Hp) (σ : L2.St) (s : S) : Prop where
  b0 : Ex T.B0 B
  bh : Ex B H
  nw : ∀ a, T.H0 a ≠ none → B a = T.B0 a
  hh : ∀ a o, T.H0 a = some o → (∀ j, T.io j ≠ some a) → H a = some o
  dom : ∀ a, T.H0 a ≠ none → H a ≠ none
  len : σ.length = s.length
  sl : ∀ (i : Nat) (x : Sl) (y : Option V), s[i]? = some x → σ[i]? = some y → SlOk g B H x y
  nd : ∀ (i j : Nat) (x x' : Sl) (a : Addr), s[i]? = some x → s[j]? = some x' → x.own = true → x'.own = true → σ[i]? = some (some (.ref a)) → σ[j]? = some (some (.ref a)) → i = j
  iok : ∀ (j : Nat) (a : Addr), T.io j = some a → σ[j]? = some (some (.ref a)) ∧ ∃ x, s[j]? = some x ∧ x.own = true
  ow : ∀ (i : Nat) (x : Sl) (a : Addr), s[i]? = some x → x.own = true → σ[i]? = some (some (.ref a)) → T.H0 a = none ∨ ∃ j, T.io j = some a
end TW

set_option Elab.async false
set_option linter.all false
set_option autoImplicit false
set_option maxRecDepth 100000
set_option maxHeartbeats 1000000
namespace TW
open PySem PySem.Spec PyProof.Rows L2
variable {g : G} {T : Tx} {B B' H H' : Hp} {σ : L2.St} {s : S}

/-! ## Rel0 -/
theorem Rel0.get (R : Rel0 g T B H σ s) {i : Nat} {x : Sl} (h : s[i]? = some x) : ∃ y, σ[i]? = some y ∧ SlOk g B H x y := by
  have hi : i < s.length := (List.getElem?_eq_some_iff.mp h).1
  have hs : i < σ.length := by rw [R.len]; exact hi
  exact ⟨σ[i], by simp [hs], R.sl i x _ h (by simp [hs])⟩
theorem Rel0.getv (R : Rel0 g T B H σ s) {i : Nat} {d : D} (h : s[i]? = some (.v d)) : ∃ v, σ[i]? = some (some v) ∧ Den g B d v := by
  obtain ⟨y, e, v, e1, h1⟩ := R.get h
  exact ⟨v, by rw [e, e1], h1⟩
theorem Rel0.getl (R : Rel0 g T B H σ s) {i : Nat} {ds : List D} (h : s[i]? = some (.l ds)) : ∃ a vs, σ[i]? = some (some (.ref a)) ∧ B a = none ∧ H a = some (.lst vs) ∧ Dens g B ds vs := by
  obtain ⟨y, e, a, vs, e1, h1, h2, h3⟩ := R.get h
  exact ⟨a, vs, by rw [e, e1], h1, h2, h3⟩
theorem Rel0.geto (R : Rel0 g T B H σ s) {i c : Nat} {ds : List D} (h : s[i]? = some (.o c ds)) : ∃ a dx vs, σ[i]? = some (some (.ref a)) ∧ B a = none ∧ H a = some (.ins (g.cn c) dx ((g.names c).zip vs)) ∧ Dens g B ds vs := by
  obtain ⟨y, e, a, dx, vs, e1, h1, h2, h3⟩ := R.get h
  exact ⟨a, dx, vs, by rw [e, e1], h1, h2, h3⟩
theorem Rel0.ownH (R : Rel0 g T B H σ s) {i : Nat} {x : Sl} {a : Addr} (h : s[i]? = some x) (ho : x.own = true) (ha : σ[i]? = some (some (.ref a))) : B a = none ∧ ∃ o, H a = some o := by
  cases x with
  | l ds => obtain ⟨b, vs, e, h1, h2, _⟩ := R.getl h; rw [ha] at e; cases e; exact ⟨h1, _, h2⟩
  | o c ds => obtain ⟨b, dx, vs, e, h1, h2, _⟩ := R.geto h; rw [ha] at e; cases e; exact ⟨h1, _, h2⟩
  | no => cases ho
  | v d => cases ho
/-- a slot's content, where B and H grow and its own object is kept -/
theorem SlOk.mono {x : Sl} {y : Option V} (h : SlOk g B H x y) (eB : Ex B B') (hn : ∀ a o, H a = some o → B a = none → B' a = none)
    (hk : ∀ a o, H a = some o → y = some (.ref a) → H' a = some o) : SlOk g B' H' x y := by
  cases x with
  | no => trivial
  | v d => obtain ⟨v, e, h1⟩ := h; exact ⟨v, e, h1.mono eB⟩
  | l ds =>
    obtain ⟨a, vs, e, h1, h2, h3⟩ := h
    exact ⟨a, vs, e, hn a _ h2 h1, hk a _ h2 e, h3.mono eB⟩
  | o c ds =>
    obtain ⟨a, dx, vs, e, h1, h2, h3⟩ := h
    exact ⟨a, dx, vs, e, hn a _ h2 h1, hk a _ h2 e, h3.mono eB⟩
/-- B and H grow by what H does not know -/
theorem Rel0.grow (R : Rel0 g T B H σ s) (eB : Ex B B') (eH : Ex H H') (eBH : Ex B' H') (hn : ∀ a, H a ≠ none → B' a = B a) : Rel0 g T B' H' σ s where
  b0 := R.b0.trans eB
  bh := eBH
  nw := fun a h => by rw [hn a (R.dom a h)]; exact R.nw a h
  hh := fun a o h hj => eH a o (R.hh a o h hj)
  dom := fun a h => by
    cases e : H a with
    | none => exact absurd e (R.dom a h)
    | some o => rw [eH a o e]; simp
  len := R.len
  sl := fun i x y hx hy => (R.sl i x y hx hy).mono eB (fun a o h hb => by rw [hn a (by rw [h]; simp)]; exact hb) fun a o h _ => eH a o h
  nd := R.nd
  iok := R.iok
  ow := R.ow
/-- a new object, laid and kept as data -/
theorem Rel0.new (R : Rel0 g T B H σ s) {p : Addr} {o : HO} (hp : H p = none) : Rel0 g T (upd B p o) (upd H p o) σ s := by
  have bp : B p = none := Evl.fresh_back R.bh hp
  refine R.grow (Evl.Ex.new bp) (Evl.Ex.new hp) (fun a u e => ?_) fun a h => ?_
  · by_cases z : a = p
    · subst z; rw [upd_same] at e ⊢; exact e
    · rw [upd_ne z] at e ⊢; exact R.bh a u e
  · have z : a ≠ p := fun z => h (by rw [z]; exact hp)
    rw [upd_ne z]
/-- a new object, not kept as data -/
theorem Rel0.newH (R : Rel0 g T B H σ s) {p : Addr} {o : HO} (hp : H p = none) : Rel0 g T B (upd H p o) σ s :=
  R.grow (Evl.Ex.refl B) (Evl.Ex.new hp) (R.bh.trans (Evl.Ex.new hp)) fun _ _ => rfl
/-- p is not known: not data, not of the entry, no slot's -/
structure Fsh0 (T : Tx) (B H : Hp) (σ : L2.St) (s : S) (p : Addr) (o : HO) : Prop where
  b : B p = none
  h0 : T.H0 p = none
  sl : ∀ (i : Nat) (x : Sl), s[i]? = some x → x.own = true → σ[i]? ≠ some (some (.ref p))
  at_ : H p = some o
theorem Rel0.h0_of (R : Rel0 g T B H σ s) {p : Addr} (hp : H p = none) : T.H0 p = none := by
  cases e : T.H0 p with
  | none => rfl
  | some o => exact absurd hp (R.dom p (by rw [e]; simp))
theorem Rel0.sl_of (R : Rel0 g T B H σ s) {p : Addr} (hp : H p = none) (i : Nat) (x : Sl) (h : s[i]? = some x) (ho : x.own = true) : σ[i]? ≠ some (some (.ref p)) := fun e => by
  obtain ⟨_, o, q⟩ := R.ownH h ho e
  rw [hp] at q; cases q
theorem Rel0.fsh (R : Rel0 g T B H σ s) {p : Addr} {o : HO} (hp : H p = none) : Fsh0 T B (upd H p o) σ s p o :=
  ⟨Evl.fresh_back R.bh hp, R.h0_of hp, R.sl_of hp, upd_same⟩
/-- what is fresh becomes data -/
theorem Rel0.freeze (R : Rel0 g T B H σ s) {p : Addr} {o : HO} (F : Fsh0 T B H σ s p o) : Rel0 g T (upd B p o) H σ s where
  b0 := R.b0.trans (Evl.Ex.new F.b)
  bh := fun a u e => by
    by_cases z : a = p
    · subst z; rw [upd_same] at e; cases e; exact F.at_
    · rw [upd_ne z] at e; exact R.bh a u e
  nw := fun a h => by
    have z : a ≠ p := fun z => h (by rw [z]; exact F.h0)
    rw [upd_ne z]; exact R.nw a h
  hh := R.hh
  dom := R.dom
  len := R.len
  sl := fun i x y hx hy => by
    have q := R.sl i x y hx hy
    have hσ := F.sl i x hx
    cases x with
    | no => trivial
    | v d => obtain ⟨v, e, h1⟩ := q; exact ⟨v, e, h1.mono (Evl.Ex.new F.b)⟩
    | l ds =>
      obtain ⟨a, vs, e, h1, h2, h3⟩ := q
      have z : a ≠ p := fun z => hσ rfl (by rw [hy, e, z])
      exact ⟨a, vs, e, by rw [upd_ne z]; exact h1, h2, h3.mono (Evl.Ex.new F.b)⟩
    | o c ds =>
      obtain ⟨a, dx, vs, e, h1, h2, h3⟩ := q
      have z : a ≠ p := fun z => hσ rfl (by rw [hy, e, z])
      exact ⟨a, dx, vs, e, by rw [upd_ne z]; exact h1, h2, h3.mono (Evl.Ex.new F.b)⟩
  nd := R.nd
  iok := R.iok
  ow := R.ow
/-- what is in an own slot is written -/
theorem Rel0.write (R : Rel0 g T B H σ s) {i : Nat} {x x' : Sl} {a : Addr} {o : HO} (hs : s[i]? = some x) (hx : x.own = true) (ha : σ[i]? = some (some (.ref a))) (hx' : x'.own = true)
    (new : SlOk g B (upd H a o) x' (some (.ref a))) : Rel0 g T B (upd H a o) σ (s.set i x') := by
  obtain ⟨b0, o0, h0⟩ := R.ownH hs hx ha
  have hi : i < s.length := (List.getElem?_eq_some_iff.mp hs).1
  have neB : ∀ b u, B b = some u → b ≠ a := fun b u e z => by rw [z, b0] at e; cases e
  have sets : ∀ j y, (s.set i x')[j]? = some y → (j = i ∧ y = x') ∨ (j ≠ i ∧ s[j]? = some y) := fun j y e => by
    by_cases z : j = i
    · subst z; rw [List.getElem?_set_self hi] at e; exact .inl ⟨rfl, (Option.some.inj e).symm⟩
    · rw [List.getElem?_set_ne (Ne.symm z)] at e; exact .inr ⟨z, e⟩
  refine ⟨R.b0, fun b u e => by rw [upd_ne (neB b u e)]; exact R.bh b u e, R.nw, fun b u e hj => ?_, fun b e => ?_, by simp [R.len], fun j y v hy hv => ?_, fun j k y y' b hy hy' ho ho' e1 e2 => ?_, fun j b hb => ?_, fun j y b hy ho e => ?_⟩
  · have q := R.hh b u e hj
    have z : b ≠ a := fun z => by
      subst z
      rcases R.ow i x b hs hx ha with z | ⟨j, z⟩
      · rw [z] at e; cases e
      · exact hj j z
    rw [upd_ne z]; exact q
  · by_cases z : b = a
    · rw [z, upd_same]; simp
    · rw [upd_ne z]; exact R.dom b e
  · rcases sets j y hy with ⟨rfl, rfl⟩ | ⟨z, hy⟩
    · rw [ha] at hv; cases hv; exact new
    · have q := R.sl j y v hy hv
      cases y with
      | no => trivial
      | v d => exact q
      | l ds =>
        obtain ⟨a', vs, e, h1, h2, h3⟩ := q
        have ne : a' ≠ a := fun w => z (R.nd j i _ _ a hy hs rfl hx (by rw [hv, e, w]) ha)
        exact ⟨a', vs, e, h1, by rw [upd_ne ne]; exact h2, h3⟩
      | o c ds =>
        obtain ⟨a', dx, vs, e, h1, h2, h3⟩ := q
        have ne : a' ≠ a := fun w => z (R.nd j i _ _ a hy hs rfl hx (by rw [hv, e, w]) ha)
        exact ⟨a', dx, vs, e, h1, by rw [upd_ne ne]; exact h2, h3⟩
  · have back : ∀ (j : Nat) (y : Sl), (s.set i x')[j]? = some y → y.own = true → ∃ y0 : Sl, s[j]? = some y0 ∧ y0.own = true := fun j y hy ho => by
      rcases sets j y hy with ⟨rfl, rfl⟩ | ⟨z, hy⟩
      · exact ⟨x, hs, hx⟩
      · exact ⟨y, hy, ho⟩
    obtain ⟨z1, q1, p1⟩ := back j y hy ho
    obtain ⟨z2, q2, p2⟩ := back k y' hy' ho'
    exact R.nd j k z1 z2 b q1 q2 p1 p2 e1 e2
  · obtain ⟨e, y, hy, ho⟩ := R.iok j b hb
    refine ⟨e, ?_⟩
    by_cases z : j = i
    · subst z; exact ⟨x', by rw [List.getElem?_set_self hi], hx'⟩
    · exact ⟨y, by rw [List.getElem?_set_ne (Ne.symm z)]; exact hy, ho⟩
  · rcases sets j y hy with ⟨rfl, rfl⟩ | ⟨z, hy⟩
    · exact R.ow j x b hs hx e
    · exact R.ow j y b hy ho e
theorem Rel0.wrl (R : Rel0 g T B H σ s) {i : Nat} {ds es : List D} {a : Addr} {us : List V} (hs : s[i]? = some (.l ds)) (ha : σ[i]? = some (some (.ref a))) (hd : Dens g B es us) : Rel0 g T B (upd H a (.lst us)) σ (s.set i (.l es)) :=
  R.write hs rfl ha rfl ⟨a, us, rfl, (R.ownH hs rfl ha).1, upd_same, hd⟩
/-- a slot is stored -/
theorem Rel0.store (R : Rel0 g T B H σ s) {i : Nat} {x : Sl} {v : V} (hio : T.io i = none) (ok : SlOk g B H x (some v))
    (hn : ∀ a, x.own = true → v = .ref a → (∀ (j : Nat) (y : Sl), s[j]? = some y → y.own = true → σ[j]? ≠ some (some (.ref a))) ∧ T.H0 a = none) : Rel0 g T B H (σ.set i (some v)) (s.set i x) := by
  have len := R.len
  have sets : ∀ j y, (s.set i x)[j]? = some y → (j = i ∧ y = x ∧ i < s.length) ∨ (j ≠ i ∧ s[j]? = some y) := fun j y e => by
    by_cases z : j = i
    · subst z
      by_cases hi : j < s.length
      · rw [List.getElem?_set_self hi] at e; exact .inl ⟨rfl, (Option.some.inj e).symm, hi⟩
      · rw [List.getElem?_eq_none (by simp; omega)] at e; cases e
    · rw [List.getElem?_set_ne (Ne.symm z)] at e; exact .inr ⟨z, e⟩
  have at_i : i < s.length → (σ.set i (some v))[i]? = some (some v) := fun hi => List.getElem?_set_self (by omega)
  refine ⟨R.b0, R.bh, R.nw, R.hh, R.dom, by simp [len], fun j y u hy hu => ?_, fun j k y y' b hy hy' ho ho' e1 e2 => ?_, fun j b hb => ?_, fun j y b hy ho e => ?_⟩
  · rcases sets j y hy with ⟨rfl, rfl, hi⟩ | ⟨z, hy⟩
    · rw [at_i hi] at hu; cases hu; exact ok
    · rw [List.getElem?_set_ne (Ne.symm z)] at hu; exact R.sl j y u hy hu
  · rcases sets j y hy with ⟨rfl, rfl, hi⟩ | ⟨z, hyj⟩
    · rw [at_i hi] at e1
      have ev : v = .ref b := Option.some.inj (Option.some.inj e1)
      rcases sets k y' hy' with ⟨rfl, _, _⟩ | ⟨z', hyk⟩
      · rfl
      · rw [List.getElem?_set_ne (Ne.symm z')] at e2; exact absurd e2 ((hn b ho ev).1 k y' hyk ho')
    · rw [List.getElem?_set_ne (Ne.symm z)] at e1
      rcases sets k y' hy' with ⟨rfl, rfl, hi⟩ | ⟨z', hyk⟩
      · rw [at_i hi] at e2
        have ev : v = .ref b := Option.some.inj (Option.some.inj e2)
        exact absurd e1 ((hn b ho' ev).1 j y hyj ho)
      · rw [List.getElem?_set_ne (Ne.symm z')] at e2
        exact R.nd j k y y' b hyj hyk ho ho' e1 e2
  · have z : j ≠ i := fun z => by rw [z, hio] at hb; cases hb
    obtain ⟨e, y, hy, ho⟩ := R.iok j b hb
    exact ⟨by rw [List.getElem?_set_ne (Ne.symm z)]; exact e, y, by rw [List.getElem?_set_ne (Ne.symm z)]; exact hy, ho⟩
  · rcases sets j y hy with ⟨rfl, rfl, hi⟩ | ⟨z, hy⟩
    · rw [at_i hi] at e
      have ev : v = .ref b := Option.some.inj (Option.some.inj e)
      exact .inl (hn b ho ev).2
    · rw [List.getElem?_set_ne (Ne.symm z)] at e; exact R.ow j y b hy ho e
theorem Rel0.storev (R : Rel0 g T B H σ s) {i : Nat} {d : D} {v : V} (hio : T.io i = none) (h : Den g B d v) : Rel0 g T B H (σ.set i (some v)) (s.set i (.v d)) :=
  R.store hio ⟨v, rfl, h⟩ fun _ z => by cases z
theorem Rel0.storel (R : Rel0 g T B H σ s) {i : Nat} {ds : List D} {p : Addr} {vs : List V} (hio : T.io i = none) (F : Fsh0 T B H σ s p (.lst vs)) (h : Dens g B ds vs) : Rel0 g T B H (σ.set i (some (.ref p))) (s.set i (.l ds)) :=
  R.store hio ⟨p, vs, rfl, F.b, F.at_, h⟩ fun a _ e => by cases e; exact ⟨F.sl, F.h0⟩
/-- an own slot (not the caller's) becomes data -/
theorem Rel0.frz (R : Rel0 g T B H σ s) {i : Nat} {ds : List D} (hs : s[i]? = some (.l ds)) (hio : T.io i = none) : ∃ B', Rel0 g T B' H σ (s.set i (.v (.lst ds))) ∧ Ex B B' := by
  obtain ⟨a, vs, ha, b0, h0, hd⟩ := R.getl hs
  have hi : i < s.length := (List.getElem?_eq_some_iff.mp hs).1
  have eB : Ex B (upd B a (.lst vs)) := Evl.Ex.new b0
  have hH0 : T.H0 a = none := by
    rcases R.ow i _ a hs rfl ha with z | ⟨j, z⟩
    · exact z
    · obtain ⟨e, x, hx, ho⟩ := R.iok j a z
      have := R.nd j i x _ a hx hs ho rfl e ha
      subst this; rw [hio] at z; cases z
  have sets : ∀ j y, (s.set i (.v (.lst ds)))[j]? = some y → (j = i ∧ y = .v (.lst ds)) ∨ (j ≠ i ∧ s[j]? = some y) := fun j y e => by
    by_cases z : j = i
    · subst z; rw [List.getElem?_set_self hi] at e; exact .inl ⟨rfl, (Option.some.inj e).symm⟩
    · rw [List.getElem?_set_ne (Ne.symm z)] at e; exact .inr ⟨z, e⟩
  refine ⟨upd B a (.lst vs), ⟨R.b0.trans eB, fun b u e => ?_, fun b e => ?_, R.hh, R.dom, by simp [R.len], fun j y u hy hu => ?_, fun j k y y' b hy hy' ho ho' e1 e2 => ?_, fun j b hb => ?_, fun j y b hy ho e => ?_⟩, eB⟩
  · by_cases z : b = a
    · subst z; rw [upd_same] at e; cases e; exact h0
    · rw [upd_ne z] at e; exact R.bh b u e
  · have z : b ≠ a := fun z => e (by rw [z]; exact hH0)
    rw [upd_ne z]; exact R.nw b e
  · rcases sets j y hy with ⟨rfl, rfl⟩ | ⟨z, hy⟩
    · rw [ha] at hu; cases hu
      exact ⟨.ref a, rfl, a, vs, rfl, upd_same, hd.mono eB⟩
    · have q := R.sl j y u hy hu
      cases y with
      | no => trivial
      | v d => obtain ⟨v, e, h1⟩ := q; exact ⟨v, e, h1.mono eB⟩
      | l es =>
        obtain ⟨a', vs', e, h1, h2, h3⟩ := q
        have ne : a' ≠ a := fun w => z (R.nd j i _ _ a hy hs rfl rfl (by rw [hu, e, w]) ha)
        exact ⟨a', vs', e, by rw [upd_ne ne]; exact h1, h2, h3.mono eB⟩
      | o c es =>
        obtain ⟨a', dx, vs', e, h1, h2, h3⟩ := q
        have ne : a' ≠ a := fun w => z (R.nd j i _ _ a hy hs rfl rfl (by rw [hu, e, w]) ha)
        exact ⟨a', dx, vs', e, by rw [upd_ne ne]; exact h1, h2, h3.mono eB⟩
  · rcases sets j y hy with ⟨rfl, rfl⟩ | ⟨z, hy⟩
    · cases ho
    · rcases sets k y' hy' with ⟨rfl, rfl⟩ | ⟨z', hy'⟩
      · cases ho'
      · exact R.nd j k y y' b hy hy' ho ho' e1 e2
  · have z : j ≠ i := fun z => by rw [z, hio] at hb; cases hb
    obtain ⟨e, y, hy, ho⟩ := R.iok j b hb
    exact ⟨e, y, by rw [List.getElem?_set_ne (Ne.symm z)]; exact hy, ho⟩
  · rcases sets j y hy with ⟨rfl, rfl⟩ | ⟨z, hy⟩
    · cases ho
    · exact R.ow j y b hy ho e
/-- an own instance (not the caller's) becomes data -/
theorem Rel0.frzo (R : Rel0 g T B H σ s) {i c : Nat} {ds : List D} (hs : s[i]? = some (.o c ds)) (hio : T.io i = none) : ∃ B', Rel0 g T B' H σ (s.set i (.v (.obj c ds))) ∧ Ex B B' := by
  obtain ⟨a, dx, vs, ha, b0, h0, hd⟩ := R.geto hs
  have hi : i < s.length := (List.getElem?_eq_some_iff.mp hs).1
  have eB : Ex B (upd B a (.ins (g.cn c) dx ((g.names c).zip vs))) := Evl.Ex.new b0
  have hH0 : T.H0 a = none := by
    rcases R.ow i _ a hs rfl ha with z | ⟨j, z⟩
    · exact z
    · obtain ⟨e, x, hx, ho⟩ := R.iok j a z
      have := R.nd j i x _ a hx hs ho rfl e ha
      subst this; rw [hio] at z; cases z
  have sets : ∀ j y, (s.set i (.v (.obj c ds)))[j]? = some y → (j = i ∧ y = .v (.obj c ds)) ∨ (j ≠ i ∧ s[j]? = some y) := fun j y e => by
    by_cases z : j = i
    · subst z; rw [List.getElem?_set_self hi] at e; exact .inl ⟨rfl, (Option.some.inj e).symm⟩
    · rw [List.getElem?_set_ne (Ne.symm z)] at e; exact .inr ⟨z, e⟩
  refine ⟨upd B a (.ins (g.cn c) dx ((g.names c).zip vs)), ⟨R.b0.trans eB, fun b u e => ?_, fun b e => ?_, R.hh, R.dom, by simp [R.len], fun j y u hy hu => ?_, fun j k y y' b hy hy' ho ho' e1 e2 => ?_, fun j b hb => ?_, fun j y b hy ho e => ?_⟩, eB⟩
  · by_cases z : b = a
    · subst z; rw [upd_same] at e; cases e; exact h0
    · rw [upd_ne z] at e; exact R.bh b u e
  · have z : b ≠ a := fun z => e (by rw [z]; exact hH0)
    rw [upd_ne z]; exact R.nw b e
  · rcases sets j y hy with ⟨rfl, rfl⟩ | ⟨z, hy⟩
    · rw [ha] at hu; cases hu
      exact ⟨.ref a, rfl, a, dx, vs, rfl, upd_same, hd.mono eB⟩
    · have q := R.sl j y u hy hu
      cases y with
      | no => trivial
      | v d => obtain ⟨v, e, h1⟩ := q; exact ⟨v, e, h1.mono eB⟩
      | l es =>
        obtain ⟨a', vs', e, h1, h2, h3⟩ := q
        have ne : a' ≠ a := fun w => z (R.nd j i _ _ a hy hs rfl rfl (by rw [hu, e, w]) ha)
        exact ⟨a', vs', e, by rw [upd_ne ne]; exact h1, h2, h3.mono eB⟩
      | o c es =>
        obtain ⟨a', dx, vs', e, h1, h2, h3⟩ := q
        have ne : a' ≠ a := fun w => z (R.nd j i _ _ a hy hs rfl rfl (by rw [hu, e, w]) ha)
        exact ⟨a', dx, vs', e, by rw [upd_ne ne]; exact h1, h2, h3.mono eB⟩
  · rcases sets j y hy with ⟨rfl, rfl⟩ | ⟨z, hy⟩
    · cases ho
    · rcases sets k y' hy' with ⟨rfl, rfl⟩ | ⟨z', hy'⟩
      · cases ho'
      · exact R.nd j k y y' b hy hy' ho ho' e1 e2
  · have z : j ≠ i := fun z => by rw [z, hio] at hb; cases hb
    obtain ⟨e, y, hy, ho⟩ := R.iok j b hb
    exact ⟨e, y, by rw [List.getElem?_set_ne (Ne.symm z)]; exact hy, ho⟩
  · rcases sets j y hy with ⟨rfl, rfl⟩ | ⟨z, hy⟩
    · cases ho
    · exact R.ow j y b hy ho e
/-- the last slot, own and fresh, is let go -/
theorem Rel0.pop {x : Sl} {p : Addr} (R : Rel0 g T B H (σ ++ [some (.ref p)]) (s ++ [x])) (hx : x.own = true) (hio : ∀ j a, T.io j = some a → j < σ.length) : Rel0 g T B H σ s ∧ T.H0 p = none ∧ (∀ (i : Nat) (y : Sl), s[i]? = some y → y.own = true → σ[i]? ≠ some (some (.ref p))) ∧ SlOk g B H x (some (.ref p)) := by
  have len : σ.length = s.length := by have := R.len; simp at this; exact this
  have ls : (s ++ [x])[s.length]? = some x := by simp
  have lσ : (σ ++ [some (.ref p)])[s.length]? = some (some (.ref p)) := by rw [← len]; simp
  have gs : ∀ (i : Nat) (y : Sl), s[i]? = some y → (s ++ [x])[i]? = some y := fun i y h => by
    rw [List.getElem?_append_left (List.getElem?_eq_some_iff.mp h).1]; exact h
  have gσ : ∀ (i : Nat) (y : Option V), σ[i]? = some y → (σ ++ [some (.ref p)])[i]? = some y := fun i y h => by
    rw [List.getElem?_append_left (List.getElem?_eq_some_iff.mp h).1]; exact h
  refine ⟨⟨R.b0, R.bh, R.nw, R.hh, R.dom, len, fun i y v h1 h2 => R.sl i y v (gs i y h1) (gσ i v h2), fun i j y y' a h1 h2 o1 o2 e1 e2 => R.nd i j y y' a (gs i y h1) (gs j y' h2) o1 o2 (gσ _ _ e1) (gσ _ _ e2), fun j a h => ?_, fun i y a h1 o1 e1 => R.ow i y a (gs i y h1) o1 (gσ _ _ e1)⟩, ?_, fun i y h1 o1 e1 => ?_, R.sl _ x _ ls lσ⟩
  · have hj := hio j a h
    obtain ⟨e, y, hy, ho⟩ := R.iok j a h
    rw [List.getElem?_append_left hj] at e
    rw [List.getElem?_append_left (by omega)] at hy
    exact ⟨e, y, hy, ho⟩
  · rcases R.ow _ x p ls hx lσ with z | ⟨j, z⟩
    · exact z
    · have hj := hio j p z
      obtain ⟨e, y, hy, ho⟩ := R.iok j p z
      have := R.nd j s.length y x p hy ls ho hx e lσ
      omega
  · have hi := (List.getElem?_eq_some_iff.mp h1).1
    have := R.nd i s.length y x p (gs i y h1) ls o1 hx (gσ _ _ e1) lσ
    omega
/-- a fresh one is held at the end -/
theorem Rel0.push {x : Sl} {p : Addr} (R : Rel0 g T B H σ s) (h0 : T.H0 p = none) (hsl : ∀ (i : Nat) (y : Sl), s[i]? = some y → y.own = true → σ[i]? ≠ some (some (.ref p))) (ok : SlOk g B H x (some (.ref p))) : Rel0 g T B H (σ ++ [some (.ref p)]) (s ++ [x]) := by
  have len := R.len
  have sp : ∀ (i : Nat) (y : Sl), (s ++ [x])[i]? = some y → (s[i]? = some y ∧ i < s.length) ∨ (i = s.length ∧ y = x) := fun i y h => by
    by_cases hi : i < s.length
    · rw [List.getElem?_append_left hi] at h; exact .inl ⟨h, hi⟩
    · rw [List.getElem?_append_right (by omega)] at h
      have hz : i - s.length = 0 := by
        cases q : i - s.length with
        | zero => rfl
        | succ n => rw [q] at h; simp at h
      rw [hz] at h
      exact .inr ⟨by omega, (Option.some.inj h).symm⟩
  have aσ : ∀ (i : Nat), i < s.length → (σ ++ [some (.ref p)])[i]? = σ[i]? := fun i hi => List.getElem?_append_left (by omega)
  have lσ : (σ ++ [some (.ref p)])[s.length]? = some (some (.ref p)) := by rw [← len]; simp
  refine ⟨R.b0, R.bh, R.nw, R.hh, R.dom, by simp [len], fun i y v h1 h2 => ?_, fun i j y y' a h1 h2 o1 o2 e1 e2 => ?_, fun j a h => ?_, fun i y a h1 o1 e1 => ?_⟩
  · rcases sp i y h1 with ⟨h1, hi⟩ | ⟨rfl, rfl⟩
    · rw [aσ i hi] at h2; exact R.sl i y v h1 h2
    · rw [lσ] at h2; cases h2; exact ok
  · rcases sp i y h1 with ⟨k1, hi⟩ | ⟨rfl, rfl⟩
    · rw [aσ i hi] at e1
      rcases sp j y' h2 with ⟨k2, hj⟩ | ⟨rfl, rfl⟩
      · rw [aσ j hj] at e2; exact R.nd i j y y' a k1 k2 o1 o2 e1 e2
      · rw [lσ] at e2; cases e2; exact absurd e1 (hsl i y k1 o1)
    · rw [lσ] at e1; cases e1
      rcases sp j y' h2 with ⟨k2, hj⟩ | ⟨rfl, _⟩
      · rw [aσ j hj] at e2; exact absurd e2 (hsl j y' k2 o2)
      · rfl
  · obtain ⟨e, y, hy, ho⟩ := R.iok j a h
    have hj := (List.getElem?_eq_some_iff.mp hy).1
    exact ⟨by rw [aσ j hj]; exact e, y, by rw [List.getElem?_append_left hj]; exact hy, ho⟩
  · rcases sp i y h1 with ⟨h1, hi⟩ | ⟨rfl, rfl⟩
    · rw [aσ i hi] at e1; exact R.ow i y a h1 o1 e1
    · rw [lσ] at e1; cases e1; exact .inl h0

/-! ## .. with what is held beside -/
structure Rel (g : G) (T : Tx) (B H : Hp) (σ : L2.St) (s : S) : Prop where
  r : Rel0 g T B H (σ ++ T.τ) (s ++ T.t)
  ln : σ.length = s.length
  iob : ∀ j a, T.io j = some a → j < σ.length
abbrev Fsh (T : Tx) (B H : Hp) (σ : L2.St) (s : S) (p : Addr) (o : HO) : Prop := Fsh0 T B H (σ ++ T.τ) (s ++ T.t) p o
theorem app_some {α : Type} {s t : List α} {i : Nat} {x : α} (h : s[i]? = some x) : (s ++ t)[i]? = some x := by
  rw [List.getElem?_append_left (List.getElem?_eq_some_iff.mp h).1]; exact h
theorem Rel.app (R : Rel g T B H σ s) {i : Nat} {x : Sl} {y : Option V} (h : s[i]? = some x) (h' : (σ ++ T.τ)[i]? = some y) : σ[i]? = some y := by
  have hi := (List.getElem?_eq_some_iff.mp h).1
  rwa [List.getElem?_append_left (by rw [R.ln]; exact hi)] at h'
theorem Rel.bh (R : Rel g T B H σ s) : Ex B H := R.r.bh
theorem Rel.b0 (R : Rel g T B H σ s) : Ex T.B0 B := R.r.b0
theorem Rel.dom (R : Rel g T B H σ s) : ∀ a, T.H0 a ≠ none → H a ≠ none := R.r.dom
theorem Rel.getv (R : Rel g T B H σ s) {i : Nat} {d : D} (h : s[i]? = some (.v d)) : ∃ v, σ[i]? = some (some v) ∧ Den g B d v := by
  obtain ⟨v, e, q⟩ := R.r.getv (app_some h); exact ⟨v, R.app h e, q⟩
theorem Rel.getl (R : Rel g T B H σ s) {i : Nat} {ds : List D} (h : s[i]? = some (.l ds)) : ∃ a vs, σ[i]? = some (some (.ref a)) ∧ B a = none ∧ H a = some (.lst vs) ∧ Dens g B ds vs := by
  obtain ⟨a, vs, e, q⟩ := R.r.getl (app_some h); exact ⟨a, vs, R.app h e, q⟩
theorem Rel.geto (R : Rel g T B H σ s) {i c : Nat} {ds : List D} (h : s[i]? = some (.o c ds)) : ∃ a dx vs, σ[i]? = some (some (.ref a)) ∧ B a = none ∧ H a = some (.ins (g.cn c) dx ((g.names c).zip vs)) ∧ Dens g B ds vs := by
  obtain ⟨a, dx, vs, e, q⟩ := R.r.geto (app_some h); exact ⟨a, dx, vs, R.app h e, q⟩
theorem Rel.grow (R : Rel g T B H σ s) (eB : Ex B B') (eH : Ex H H') (eBH : Ex B' H') (hn : ∀ a, H a ≠ none → B' a = B a) : Rel g T B' H' σ s := ⟨R.r.grow eB eH eBH hn, R.ln, R.iob⟩
theorem Rel.new (R : Rel g T B H σ s) {p : Addr} {o : HO} (hp : H p = none) : Rel g T (upd B p o) (upd H p o) σ s := ⟨R.r.new hp, R.ln, R.iob⟩
theorem Rel.newH (R : Rel g T B H σ s) {p : Addr} {o : HO} (hp : H p = none) : Rel g T B (upd H p o) σ s := ⟨R.r.newH hp, R.ln, R.iob⟩
theorem Rel.h0_of (R : Rel g T B H σ s) {p : Addr} (hp : H p = none) : T.H0 p = none := R.r.h0_of hp
theorem Rel.fsh (R : Rel g T B H σ s) {p : Addr} {o : HO} (hp : H p = none) : Fsh T B (upd H p o) σ s p o := R.r.fsh hp
theorem Rel.freeze (R : Rel g T B H σ s) {p : Addr} {o : HO} (F : Fsh T B H σ s p o) : Rel g T (upd B p o) H σ s := ⟨R.r.freeze F, R.ln, R.iob⟩
theorem set_app {α : Type} {s t : List α} {i : Nat} {x : α} (h : i < s.length) : (s ++ t).set i x = s.set i x ++ t := by
  rw [List.set_append_left _ _ h]
theorem Rel.write (R : Rel g T B H σ s) {i : Nat} {x x' : Sl} {a : Addr} {o : HO} (hs : s[i]? = some x) (hx : x.own = true) (ha : σ[i]? = some (some (.ref a))) (hx' : x'.own = true)
    (new : SlOk g B (upd H a o) x' (some (.ref a))) : Rel g T B (upd H a o) σ (s.set i x') := by
  have hi := (List.getElem?_eq_some_iff.mp hs).1
  have r := R.r.write (app_some hs) hx (app_some ha) hx' new
  rw [set_app hi] at r
  exact ⟨r, by simp [R.ln], R.iob⟩
theorem Rel.wrl (R : Rel g T B H σ s) {i : Nat} {ds es : List D} {a : Addr} {us : List V} (hs : s[i]? = some (.l ds)) (ha : σ[i]? = some (some (.ref a))) (hd : Dens g B es us) : Rel g T B (upd H a (.lst us)) σ (s.set i (.l es)) := by
  obtain ⟨a', _, e, b0, _⟩ := R.getl hs
  rw [ha] at e; cases e
  exact R.write hs rfl ha rfl ⟨a, us, rfl, b0, upd_same, hd⟩
theorem Rel.store (R : Rel g T B H σ s) {i : Nat} {x : Sl} {v : V} (hi : i < s.length) (hio : T.io i = none) (ok : SlOk g B H x (some v))
    (hn : ∀ a, x.own = true → v = .ref a → (∀ (j : Nat) (y : Sl), (s ++ T.t)[j]? = some y → y.own = true → (σ ++ T.τ)[j]? ≠ some (some (.ref a))) ∧ T.H0 a = none) : Rel g T B H (σ.set i (some v)) (s.set i x) := by
  have r := R.r.store hio ok hn
  rw [set_app hi, set_app (by rw [R.ln]; exact hi)] at r
  exact ⟨r, by simp [R.ln], fun j a h => by simpa using R.iob j a h⟩
theorem Rel.storev (R : Rel g T B H σ s) {i : Nat} {d : D} {v : V} (hi : i < s.length) (hio : T.io i = none) (h : Den g B d v) : Rel g T B H (σ.set i (some v)) (s.set i (.v d)) :=
  R.store hi hio ⟨v, rfl, h⟩ fun _ z => by cases z
theorem Rel.storel (R : Rel g T B H σ s) {i : Nat} {ds : List D} {p : Addr} {vs : List V} (hi : i < s.length) (hio : T.io i = none) (F : Fsh T B H σ s p (.lst vs)) (h : Dens g B ds vs) : Rel g T B H (σ.set i (some (.ref p))) (s.set i (.l ds)) :=
  R.store hi hio ⟨p, vs, rfl, F.b, F.at_, h⟩ fun a _ e => by cases e; exact ⟨F.sl, F.h0⟩
theorem Rel.frz (R : Rel g T B H σ s) {i : Nat} {ds : List D} (hs : s[i]? = some (.l ds)) (hio : T.io i = none) : ∃ B', Rel g T B' H σ (s.set i (.v (.lst ds))) ∧ Ex B B' := by
  obtain ⟨B', r, e⟩ := R.r.frz (app_some hs) hio
  rw [set_app (List.getElem?_eq_some_iff.mp hs).1] at r
  exact ⟨B', ⟨r, by simp [R.ln], R.iob⟩, e⟩
theorem Rel.frzo (R : Rel g T B H σ s) {i c : Nat} {ds : List D} (hs : s[i]? = some (.o c ds)) (hio : T.io i = none) : ∃ B', Rel g T B' H σ (s.set i (.v (.obj c ds))) ∧ Ex B B' := by
  obtain ⟨B', r, e⟩ := R.r.frzo (app_some hs) hio
  rw [set_app (List.getElem?_eq_some_iff.mp hs).1] at r
  exact ⟨B', ⟨r, by simp [R.ln], R.iob⟩, e⟩

/-! ## operands -/
inductive Opd where
  | d (x : D) | s (k : Nat)
def OpdOk (g : G) (B : Hp) (σ : L2.St) : Opd → V → Prop
  | .d x, v => Den g B x v
  | .s k, v => σ[k]? = some (some v)
def Sl.d? : Sl → Option D
  | .v d => some d
  | .l ds => some (.lst ds)
  | .o c ds => some (.obj c ds)
  | .no => none
/-- the operand's value where it is used -/
def res : Opd → M D
  | .d x => mret x
  | .s k => fun s => match s[k]? with
    | some (.v d) => .ok d s
    | some (.l ds) => .ok (.lst ds) s
    | some (.o c ds) => .ok (.obj c ds) s
    | _ => .bad
/-- .. as data -/
def strong : Opd → M D
  | .d x => mret x
  | .s k => fun s => match s[k]? with
    | some (.v d) => .ok d s
    | _ => .bad
theorem OpdOk.mono (e : Ex B B') {o : Opd} {v : V} (h : OpdOk g B σ o v) : OpdOk g B' σ o v := by
  cases o with
  | d x => exact Den.mono e h
  | s k => exact h
theorem res_ok (R : Rel g T B H σ s) {o : Opd} {v : V} {d : D} {s' : S} (h : OpdOk g B σ o v) (e : res o s = .ok d s') : s' = s ∧ DenW g B H d v := by
  cases o with
  | d x => cases e; exact ⟨rfl, Den.w R.bh h⟩
  | s k =>
    have h' : σ[k]? = some (some v) := h
    have e' : (match s[k]? with
      | some (.v d) => Out.ok d s
      | some (.l ds) => .ok (.lst ds) s
      | some (.o c ds) => .ok (.obj c ds) s
      | _ => .bad) = .ok d s' := e
    cases q : s[k]? with
    | none => rw [q] at e'; cases e'
    | some x =>
      rw [q] at e'
      cases x with
      | no => cases e'
      | v d0 =>
        cases e'
        obtain ⟨v', e1, d1⟩ := R.getv q
        rw [h'] at e1; cases e1
        exact ⟨rfl, Den.w R.bh d1⟩
      | l ds =>
        cases e'
        obtain ⟨a, vs, e1, _, h1, d1⟩ := R.getl q
        rw [h'] at e1; cases e1
        exact ⟨rfl, a, vs, rfl, h1, d1⟩
      | o c ds =>
        cases e'
        obtain ⟨a, dx, vs, e1, _, h1, d1⟩ := R.geto q
        rw [h'] at e1; cases e1
        exact ⟨rfl, a, dx, vs, rfl, h1, d1⟩
theorem res_cases {o : Opd} {s : S} : (∃ d, res o s = .ok d s) ∨ res o s = .bad := by
  cases o with
  | d x => exact .inl ⟨x, rfl⟩
  | s k =>
    show (∃ d, (match s[k]? with
      | some (.v d) => Out.ok d s
      | some (.l ds) => .ok (.lst ds) s
      | some (.o c ds) => .ok (.obj c ds) s
      | _ => .bad) = .ok d s) ∨ (match s[k]? with
      | some (.v d) => Out.ok d s
      | some (.l ds) => .ok (.lst ds) s
      | some (.o c ds) => .ok (.obj c ds) s
      | _ => .bad) = .bad
    cases q : s[k]? with
    | none => exact .inr rfl
    | some x => cases x <;> first | exact .inl ⟨_, rfl⟩ | exact .inr rfl
theorem strong_ok (R : Rel g T B H σ s) {o : Opd} {v : V} {d : D} {s' : S} (h : OpdOk g B σ o v) (e : strong o s = .ok d s') : s' = s ∧ Den g B d v := by
  cases o with
  | d x => cases e; exact ⟨rfl, h⟩
  | s k =>
    have h' : σ[k]? = some (some v) := h
    have e' : (match s[k]? with
      | some (.v d) => Out.ok d s
      | _ => .bad) = .ok d s' := e
    cases q : s[k]? with
    | none => rw [q] at e'; cases e'
    | some x =>
      rw [q] at e'
      cases x with
      | v d0 =>
        cases e'
        obtain ⟨v', e1, d1⟩ := R.getv q
        rw [h'] at e1; cases e1
        exact ⟨rfl, d1⟩
      | no => cases e'
      | l ds => cases e'
      | o c ds => cases e'
theorem strong_cases {o : Opd} {s : S} : (∃ d, strong o s = .ok d s) ∨ strong o s = .bad := by
  cases o with
  | d x => exact .inl ⟨x, rfl⟩
  | s k =>
    show (∃ d, (match s[k]? with
      | some (.v d) => Out.ok d s
      | _ => .bad) = .ok d s) ∨ (match s[k]? with
      | some (.v d) => Out.ok d s
      | _ => .bad) = .bad
    cases q : s[k]? with
    | none => exact .inr rfl
    | some x => cases x <;> first | exact .inl ⟨_, rfl⟩ | exact .inr rfl
end TW

set_option Elab.async false
set_option linter.all false
set_option autoImplicit false
set_option maxRecDepth 100000
set_option maxHeartbeats 1000000
namespace TW
open PySem PySem.Spec PyProof.Rows L2
variable {g : G} {T : Tx} {B B' H H' : Hp} {σ : L2.St} {s : S}

/-! ## readings -/
abbrev W0 : WX := fun _ _ _ _ => False
/-- an exception's own dict holds its fields -/
def XcOk (g : G) (B : Hp) (x : Option Addr) (c : Nat) (ds : List D) : Prop :=
  ds = [] ∨ ∃ dx fs vs, x = some dx ∧ B dx = some (.xd fs) ∧ Dens g B ds vs ∧ ∀ (j : Nat) (f : Str) (v : V), (g.names c)[j]? = some f → vs[j]? = some v → fs.lookup f = some v
abbrev PP (α β : Type) := L2.St → S → α → Hp → Hp → β → Prop
def PostM (g : G) (T : Tx) (W : WX) {α β : Type} (P : PP α β) (σ : L2.St) (B : Hp) : Out α → (β → Hp → Prop) → Prop
  | .ok a s', Q => ∀ v B' H', Rel g T B' H' σ s' → Ex B B' → P σ s' a B' H' v → Q v H'
  | .ex c ds s', _ => ∀ x B' H', Rel g T B' H' σ s' → Ex B B' → XcOk g B' x c ds → W (.ref (g.cn c)) x σ H'
  | .bad, _ => False
def RdM (g : G) (T : Tx) (W : WX) {α β : Type} (P : PP α β) (f : M α) : L2.St → Hp → (β → Hp → Prop) → Prop :=
  fun σ H Q => ∃ B s, Rel g T B H σ s ∧ PostM g T W P σ B (f s) Q
variable {W : WX} {α β γ δ : Type} {P : PP α β} {P' : PP γ δ}
theorem PostM.base {o : Out α} {Q : β → Hp → Prop} (e : Ex B B') (h : PostM g T W P σ B o Q) : PostM g T W P σ B' o Q := by
  cases o with
  | ok a s' => exact fun v B1 H1 R1 e1 p => h v B1 H1 R1 (e.trans e1) p
  | ex c ds s' => exact fun x B1 H1 R1 e1 p => h x B1 H1 R1 (e.trans e1) p
  | bad => exact h
theorem RdM.mono {f : M α} {Q Q' : β → Hp → Prop} (h : RdM g T W P f σ H Q) (hq : ∀ v H', Q v H' → Q' v H') : RdM g T W P f σ H Q' := by
  obtain ⟨B, s, R, p⟩ := h
  refine ⟨B, s, R, ?_⟩
  cases e : f s with
  | ok a s' => rw [e] at p; exact fun v B1 H1 R1 e1 q => hq _ _ (p v B1 H1 R1 e1 q)
  | ex c ds s' => rw [e] at p; exact p
  | bad => rw [e] at p; exact p
theorem PostM.bind {fa : M α} {k : α → M γ} {Q : δ → Hp → Prop} (R : Rel g T B H σ s) (h : PostM g T W P' σ B (mbind fa k s) Q) :
    RdM g T W P fa σ H fun v H1 => ∃ a B1 s1, Rel g T B1 H1 σ s1 ∧ Ex B B1 ∧ P σ s1 a B1 H1 v ∧ PostM g T W P' σ B1 (k a s1) Q := by
  refine ⟨B, s, R, ?_⟩
  unfold mbind at h
  cases e : fa s with
  | ok a s' =>
    rw [e] at h
    exact fun v B1 H1 R1 e1 p => ⟨a, B1, s', R1, e1, p, PostM.base e1 h⟩
  | ex c ds s' => rw [e] at h; exact h
  | bad => rw [e] at h; exact h

/-! ## judgements -/
inductive Rv where
  | v (d : D) | l (ds : List D) | o (c : Nat) (ds : List D)
def RvOk (g : G) (T : Tx) : PP Rv V := fun σ s r B H v => match r with
  | .v d => Den g B d v
  | .l ds => ∃ p vs, v = .ref p ∧ Fsh T B H σ s p (.lst vs) ∧ Dens g B ds vs
  | .o c ds => ∃ p dx vs, v = .ref p ∧ Fsh T B H σ s p (.ins (g.cn c) dx ((g.names c).zip vs)) ∧ Dens g B ds vs
abbrev PD (g : G) : PP D V := fun _ _ d B _ v => Den g B d v
abbrev PO' (g : G) : PP Opd V := fun σ _ o B _ v => OpdOk g B σ o v
abbrev PB : PP Bool Bool := fun _ _ b _ _ b' => b' = b
def PAs (g : G) : PP (List Opd) (List V) := fun σ _ os B _ vs => os.length = vs.length ∧ ∀ (i : Nat) (o : Opd) (v : V), os[i]? = some o → vs[i]? = some v → OpdOk g B σ o v
def JE (X : Cx) (g : G) (T : Tx) (W : WX) (e : Expr) (f : M D) : Prop := ∀ τ t, PE X e (RdM g (T.tmp τ t) W (PD g) f)
def JO (X : Cx) (g : G) (T : Tx) (W : WX) (e : Expr) (f : M Opd) : Prop := ∀ τ t, PE X e (RdM g (T.tmp τ t) W (PO' g) f)
def JR (X : Cx) (g : G) (T : Tx) (W : WX) (e : Expr) (f : M Rv) : Prop := ∀ τ t, PE X e (RdM g (T.tmp τ t) W (RvOk g (T.tmp τ t)) f)
def JT (X : Cx) (g : G) (T : Tx) (W : WX) (e : Expr) (f : M Bool) : Prop := ∀ τ t, PT X e (RdM g (T.tmp τ t) W PB f)
def JW (X : Cx) (g : G) (T : Tx) (W : WX) (e : Expr) (f : M Bool) : Prop := ∀ τ t, PW X e (RdM g (T.tmp τ t) W PB f)
def JA (X : Cx) (g : G) (T : Tx) (W : WX) (es : List Expr) (f : M (List Opd)) : Prop := ∀ τ t, PA X es (RdM g (T.tmp τ t) W (PAs g) f)
theorem PE.imp {X : Cx} {e : Expr} {t t' : TE} (h : PE X e t) (hi : ∀ σ H Q, t' σ H Q → t σ H Q) : PE X e t' := ⟨fun pins s σ H Q I q => h.run pins s σ H Q I (hi _ _ _ q)⟩
theorem PT.imp {X : Cx} {e : Expr} {t t' : TT} (h : PT X e t) (hi : ∀ σ H Q, t' σ H Q → t σ H Q) : PT X e t' := ⟨fun pins s σ H Q I q => h.run pins s σ H Q I (hi _ _ _ q)⟩
theorem PW.imp {X : Cx} {e : Expr} {t t' : TT} (h : PW X e t) (hi : ∀ σ H Q, t' σ H Q → t σ H Q) : PW X e t' := ⟨fun wh pins s σ H Q I q => h.run wh pins s σ H Q I (hi _ _ _ q)⟩
theorem PA.imp {X : Cx} {es : List Expr} {t t' : TA} (h : PA X es t) (hi : ∀ σ H Q, t' σ H Q → t σ H Q) : PA X es t' := ⟨fun pos pins s σ H Q I q => h.run pos pins s σ H Q I (hi _ _ _ q)⟩

variable {X : Cx} {e a b c : Expr} {es rest : List Expr} {pos : Pos}
/-! ### from one to another -/
theorem jo_of {f : M D} (h : JE X g T W e f) : JO X g T W e (mbind f fun d => mret (.d d)) := fun τ t => PE.imp (h τ t) fun σ H Q ⟨B, s, R, p⟩ =>
  (PostM.bind (P := PD g) R p).mono fun v H1 ⟨d, B1, s1, R1, e1, q, p1⟩ => p1 v B1 H1 R1 (Evl.Ex.refl _) q
theorem je_of {f : M Opd} (h : JO X g T W e f) : JE X g T W e (mbind f strong) := fun τ t => PE.imp (h τ t) fun σ H Q ⟨B, s, R, p⟩ =>
  (PostM.bind (P := PO' g) R p).mono fun v H1 ⟨o, B1, s1, R1, e1, q, p1⟩ => by
    rcases strong_cases (o := o) (s := s1) with ⟨d, q1⟩ | q1
    · rw [q1] at p1; exact p1 v B1 H1 R1 (Evl.Ex.refl _) (strong_ok R1 q q1).2
    · rw [q1] at p1; exact p1.elim
def Rv.d : Rv → D
  | .v d => d
  | .l ds => .lst ds
  | .o c ds => .obj c ds
theorem rv_frz {r : Rv} {v : V} (R : Rel g T B H σ s) (h : RvOk g T σ s r B H v) : ∃ B', Rel g T B' H σ s ∧ Ex B B' ∧ Den g B' r.d v := by
  cases r with
  | v d => exact ⟨B, R, Evl.Ex.refl B, h⟩
  | l ds =>
    obtain ⟨p, vs, rfl, F, hd⟩ := h
    exact ⟨_, R.freeze F, Evl.Ex.new F.b, p, vs, rfl, upd_same, hd.mono (Evl.Ex.new F.b)⟩
  | o c ds =>
    obtain ⟨p, dx, vs, rfl, F, hd⟩ := h
    exact ⟨_, R.freeze F, Evl.Ex.new F.b, p, dx, vs, rfl, upd_same, hd.mono (Evl.Ex.new F.b)⟩
theorem je_rv {f : M Rv} (h : JR X g T W e f) : JE X g T W e (mbind f fun r => mret r.d) := fun τ t => PE.imp (h τ t) fun σ H Q ⟨B, s, R, p⟩ =>
  (PostM.bind (P := RvOk g (T.tmp τ t)) R p).mono fun v H1 ⟨r, B1, s1, R1, e1, q, p1⟩ => by
    obtain ⟨B2, R2, e2, q2⟩ := rv_frz R1 q
    exact p1 v B2 H1 R2 e2 q2
theorem jr_of {f : M D} (h : JE X g T W e f) : JR X g T W e (mbind f fun d => mret (.v d)) := fun τ t => PE.imp (h τ t) fun σ H Q ⟨B, s, R, p⟩ =>
  (PostM.bind (P := PD g) R p).mono fun v H1 ⟨d, B1, s1, R1, e1, q, p1⟩ => p1 v B1 H1 R1 (Evl.Ex.refl _) q
/-! ### names, constants -/
def mvar (i : Nat) : M Opd := fun s => match s[i]? with
  | some .no => .bad
  | some _ => .ok (.s i) s
  | none => .bad
theorem jo_var {i : Nat} (h : PE X e (tVar i)) : JO X g T W e (mvar i) := fun τ t => PE.imp h fun σ H Q ⟨B, s, R, p⟩ => by
  unfold mvar at p
  cases q : s[i]? with
  | none => rw [q] at p; exact p.elim
  | some x =>
    rw [q] at p
    have key : ∀ v, σ[i]? = some (some v) → PostM g (T.tmp τ t) W (PO' g) σ B (.ok (.s i) s) Q → tVar i σ H Q := fun v hv p => ⟨v, hv, p v B H R (Evl.Ex.refl _) hv⟩
    cases x with
    | no => exact p.elim
    | v d => obtain ⟨v, hv, _⟩ := R.getv q; exact key v hv p
    | l ds => obtain ⟨a, vs, hv, _⟩ := R.getl q; exact key _ hv p
    | o c ds => obtain ⟨a, dx, vs, hv, _⟩ := R.geto q; exact key _ hv p
theorem je_c {v : V} {d : D} (h : PE X e (tC v)) (hd : ∀ B, Den g B d v) : JE X g T W e (mret d) := fun τ t => PE.imp h fun σ H Q ⟨B, s, R, p⟩ => p v B H R (Evl.Ex.refl _) (hd B)
theorem je_int {i : Int} {j} : JE X g T W (.Constant (.int i) j pos) (mret (.int i)) := je_c pe_int fun _ => rfl
theorem je_bl {b : Bool} {j} : JE X g T W (.Constant (.bool b) j pos) (mret (.bl b)) := je_c pe_bl fun _ => rfl
theorem je_non {j} : JE X g T W (.Constant .none j pos) (mret .non) := je_c pe_non fun _ => rfl
theorem je_str {x : Str} {j} : JE X g T W (.Constant (.str x) j pos) (mret (.str x)) := je_c pe_str fun _ => rfl
/-! ### two operands -/
def mbin (f : D → D → Option D) (fa fb : M Opd) : M D := mbind fa fun oa => mbind fb fun ob => mbind (res oa) fun x => mbind (res ob) fun y => mopt (f x y)
def OpD (X : Cx) (g : G) (f : Value → Value → Sem Value) (g2 : D → D → Option D) : Prop :=
  ∃ r : R2, OpR X f r ∧ ∀ (T : Tx) (B H : Hp) (σ : L2.St) (s : S) (x y : V) (dx dy d : D) (Q : VK), Rel g T B H σ s → DenW g B H dx x → DenW g B H dy y → g2 dx dy = some d →
    (∀ v B' H', Rel g T B' H' σ s → Ex B B' → Den g B' d v → Q v H') → r x y H Q
theorem bin_rd {r : R2} {f : D → D → Option D} {fa fb : M Opd} {Q : VK} (hr : ∀ (T : Tx) (B H : Hp) (σ : L2.St) (s : S) (x y : V) (dx dy d : D) (Q : VK), Rel g T B H σ s → DenW g B H dx x → DenW g B H dy y → f dx dy = some d →
    (∀ v B' H', Rel g T B' H' σ s → Ex B B' → Den g B' d v → Q v H') → r x y H Q) (h : RdM g T W (PD g) (mbin f fa fb) σ H Q) : tOp r (RdM g T W (PO' g) fa) (RdM g T W (PO' g) fb) σ H Q := by
  obtain ⟨B, s, R, p⟩ := h
  refine (PostM.bind (P := PO' g) R p).mono fun x H1 ⟨oa, B1, s1, R1, e1, q1, p1⟩ => ?_
  refine (PostM.bind (P := PO' g) R1 p1).mono fun y H2 ⟨ob, B2, s2, R2, e2, q2, p2⟩ => ?_
  rcases res_cases (o := oa) (s := s2) with ⟨dx, w1⟩ | w1
  · rcases res_cases (o := ob) (s := s2) with ⟨dy, w2⟩ | w2
    · have p2' : PostM g T W (PD g) σ B2 (mopt (f dx dy) s2) Q := by
        have z : mbind (res oa) (fun x => mbind (res ob) fun y => mopt (f x y)) s2 = mopt (f dx dy) s2 := by unfold mbind; rw [w1]; dsimp only; rw [w2]
        rw [z] at p2; exact p2
      cases ef : f dx dy with
      | none => rw [ef] at p2'; exact p2'.elim
      | some d =>
        rw [ef] at p2'
        exact hr T B2 H2 σ s2 x y dx dy d Q R2 (res_ok R2 (q1.mono e2) w1).2 (res_ok R2 q2 w2).2 ef fun v B' H' R' e' hd => p2' v B' H' R' e' hd
    · exfalso
      have z : mbind (res oa) (fun x => mbind (res ob) fun y => mopt (f x y)) s2 = .bad := by unfold mbind; rw [w1]; dsimp only; rw [w2]
      rw [z] at p2; exact p2
  · exfalso
    have z : mbind (res oa) (fun x => mbind (res ob) fun y => mopt (f x y)) s2 = .bad := by unfold mbind; rw [w1]
    rw [z] at p2; exact p2
theorem je_bin {op : Operator} {f : D → D → Option D} {fa fb : M Opd} (ho : OpD X g (binaryOp op) f) (ha : JO X g T W a fa) (hb : JO X g T W b fb) : JE X g T W (.BinOp a op b pos) (mbin f fa fb) := by
  obtain ⟨r, h1, h2⟩ := ho
  exact fun τ t => PE.imp (pe_op h1 (ha τ t) (hb τ t)) fun σ H Q h => bin_rd h2 h
theorem je_cmp {op : CmpOp} {f : D → D → Option D} {fa fb : M Opd} (ho : OpD X g (compareOp op) f) (ha : JO X g T W a fa) (hb : JO X g T W b fb) (hm : behindInMarks op b = false) : JE X g T W (.Compare a [op] [b] pos) (mbin f fa fb) := by
  obtain ⟨r, h1, h2⟩ := ho
  exact fun τ t => PE.imp (pe_cmpR h1 (ha τ t) (hb τ t) hm) fun σ H Q h => bin_rd h2 h
/-- a value's truth as a test of a bool -/
def tob : D → M Bool
  | .bl b => mret b
  | _ => mbad
theorem tob_rd {te : TE} {f : M D} {Q : Bool → Hp → Prop} (ht : ∀ Q, RdM g T W (PD g) f σ H Q → te σ H Q) (h : RdM g T W PB (mbind f tob) σ H Q) : tTest te σ H Q := by
  refine ht _ ?_
  obtain ⟨B, s, R, p⟩ := h
  refine (PostM.bind (P := PD g) R p).mono fun v H1 ⟨d, B1, s1, R1, e1, q, p1⟩ => ?_
  cases d with
  | bl b => exact ⟨b, q, p1 b B1 H1 R1 (Evl.Ex.refl _) rfl⟩
  | _ => exact p1.elim
theorem jt_cmp {op : CmpOp} {f : D → D → Option D} {fa fb : M Opd} (ho : OpD X g (compareOp op) f) (ha : JO X g T W a fa) (hb : JO X g T W b fb) (hm : behindInMarks op b = false) : JT X g T W (.Compare a [op] [b] pos) (mbind (mbin f fa fb) tob) := by
  obtain ⟨r, h1, h2⟩ := ho
  exact fun τ t => PT.imp (pt_cmpR h1 (ha τ t) (hb τ t) hm) fun σ H Q h => tob_rd (fun Q h => bin_rd h2 h) h
/-! ### and, or, not, if -/
theorem mbind_ok {fa : M α} {k : α → M γ} {a' : α} {s s' : S} (h : fa s = .ok a' s') : mbind fa k s = k a' s' := by unfold mbind; rw [h]
def mif {α : Type} (t : M Bool) (fa fb : M α) : M α := mbind t fun c => if c = true then fa else fb
theorem jt_not {f : M Bool} (h : JT X g T W a f) : JT X g T W (.UnaryOp .Not a pos) (mbind f fun b => mret (!b)) := fun τ t => PT.imp (pt_not (h τ t)) fun σ H Q ⟨B, s, R, p⟩ =>
  (PostM.bind (P := PB) R p).mono fun v H1 ⟨d, B1, s1, R1, e1, q, p1⟩ => p1 (!v) B1 H1 R1 (Evl.Ex.refl _) (by subst q; rfl)
theorem jw_and1 {f : M Bool} (h : JT X g T W a f) : JW X g T W (.BoolOp .And [a] pos) f := fun τ t => pw_and1 (h τ t)
theorem jw_or1 {f : M Bool} (h : JT X g T W a f) : JW X g T W (.BoolOp .Or [a] pos) f := fun τ t => pw_or1 (h τ t)
theorem jw_and {fa fb : M Bool} (ha : JT X g T W a fa) (hb : JW X g T W (.BoolOp .And (b :: rest) pos) fb) : JW X g T W (.BoolOp .And (a :: b :: rest) pos) (mif fa fb (mret false)) := fun τ t => PW.imp (pw_and (ha τ t) (hb τ t)) fun σ H Q ⟨B, s, R, p⟩ =>
  (PostM.bind (P := PB) R p).mono fun v H1 ⟨d, B1, s1, R1, e1, q, p1⟩ => by
    subst q
    cases v with
    | true => exact ⟨B1, s1, R1, p1⟩
    | false => exact p1 false B1 H1 R1 (Evl.Ex.refl _) rfl
theorem jw_or {fa fb : M Bool} (ha : JT X g T W a fa) (hb : JW X g T W (.BoolOp .Or (b :: rest) pos) fb) : JW X g T W (.BoolOp .Or (a :: b :: rest) pos) (mif fa (mret true) fb) := fun τ t => PW.imp (pw_or (ha τ t) (hb τ t)) fun σ H Q ⟨B, s, R, p⟩ =>
  (PostM.bind (P := PB) R p).mono fun v H1 ⟨d, B1, s1, R1, e1, q, p1⟩ => by
    subst q
    cases v with
    | true => exact p1 true B1 H1 R1 (Evl.Ex.refl _) rfl
    | false => exact ⟨B1, s1, R1, p1⟩
theorem jt_w {f : M Bool} (h : JW X g T W e f) : JT X g T W e f := fun τ t => PW.pt (h τ t)
/-- .. as values -/
def mandV (fa fb : M D) : M D := mbind fa fun x => match x with
  | .bl c => if c = true then fb else mret (.bl false)
  | _ => mbad
def morV (fa fb : M D) : M D := mbind fa fun x => match x with
  | .bl c => if c = true then mret (.bl true) else fb
  | _ => mbad
theorem je_one {op} {f : M D} (h : JE X g T W a f) : JE X g T W (.BoolOp op [a] pos) f := fun τ t => pe_one (h τ t)
theorem je_and {fa fb : M D} (ha : JE X g T W a fa) (hb : JE X g T W (.BoolOp .And (b :: rest) pos) fb) : JE X g T W (.BoolOp .And (a :: b :: rest) pos) (mandV fa fb) := fun τ t => PE.imp (pe_and (ha τ t) (hb τ t)) fun σ H Q ⟨B, s, R, p⟩ =>
  (PostM.bind (P := PD g) R p).mono fun v H1 ⟨d, B1, s1, R1, e1, q, p1⟩ => by
    cases d with
    | bl c =>
      refine ⟨c, q, ?_⟩
      cases c with
      | true => exact ⟨B1, s1, R1, p1⟩
      | false => exact p1 _ B1 H1 R1 (Evl.Ex.refl _) rfl
    | _ => exact p1.elim
theorem je_or {fa fb : M D} (ha : JE X g T W a fa) (hb : JE X g T W (.BoolOp .Or (b :: rest) pos) fb) : JE X g T W (.BoolOp .Or (a :: b :: rest) pos) (morV fa fb) := fun τ t => PE.imp (pe_or (ha τ t) (hb τ t)) fun σ H Q ⟨B, s, R, p⟩ =>
  (PostM.bind (P := PD g) R p).mono fun v H1 ⟨d, B1, s1, R1, e1, q, p1⟩ => by
    cases d with
    | bl c =>
      refine ⟨c, q, ?_⟩
      cases c with
      | true => exact p1 _ B1 H1 R1 (Evl.Ex.refl _) rfl
      | false => exact ⟨B1, s1, R1, p1⟩
    | _ => exact p1.elim
def mnotV (fa : M D) : M D := mbind fa fun x => match x with
  | .bl c => mret (.bl (!c))
  | _ => mbad
theorem je_not {fa : M D} (ha : JE X g T W a fa) : JE X g T W (.UnaryOp .Not a pos) (mnotV fa) := fun τ t => PE.imp (pe_not (ha τ t)) fun σ H Q ⟨B, s, R, p⟩ =>
  (PostM.bind (P := PD g) R p).mono fun v H1 ⟨d, B1, s1, R1, e1, q, p1⟩ => by
    cases d with
    | bl c => exact ⟨c, q, p1 _ B1 H1 R1 (Evl.Ex.refl _) rfl⟩
    | _ => exact p1.elim
theorem je_if {ft : M Bool} {fa fb : M D} (hc : JT X g T W c ft) (ha : JE X g T W a fa) (hb : JE X g T W b fb) : JE X g T W (.IfExp c a b pos) (mif ft fa fb) := fun τ t => PE.imp (pe_ifExp (hc τ t) (ha τ t) (hb τ t)) fun σ H Q ⟨B, s, R, p⟩ =>
  (PostM.bind (P := PB) R p).mono fun v H1 ⟨d, B1, s1, R1, e1, q, p1⟩ => by
    subst q
    cases v with
    | true => exact ⟨B1, s1, R1, p1⟩
    | false => exact ⟨B1, s1, R1, p1⟩
/-- any value's truth -/
def truD : D → Option Bool
  | .non => some false
  | .bl b => some b
  | .int i => some (i != 0)
  | .str y => if y.length ≤ 100000 then some (y.length != 0) else none
  | .tup ds => some (!ds.isEmpty)
  | .lst ds => some (!ds.isEmpty)
  | .arg ds => some (!ds.isEmpty)
  | .obj _ _ => none
  | .exc _ _ _ _ => none
  | .dct => none
  | .err _ _ => none
  | .opq _ => none
theorem isEmpty_dens {ds : List D} {vs : List V} (h : Dens g B ds vs) : vs.isEmpty = ds.isEmpty := by
  have := h.length
  cases ds <;> cases vs <;> simp at this ⊢
theorem tru_den {d : D} {v : V} {k : Bool} (eB : Ex B H) (h : DenW g B H d v) (e : truD d = some k) : TruV g.K v H k := by
  cases d with
  | non => cases h; cases e; rfl
  | bl b => cases h; cases e; rfl
  | int i => cases h; cases e; rfl
  | str y =>
    cases h
    have e' : (if y.length ≤ 100000 then some (y.length != 0) else none) = some k := e
    by_cases hy : y.length ≤ 100000
    · rw [if_pos hy] at e'
      cases e'
      refine ⟨Evl.sz_of hy, ?_⟩
      rw [Bool.eq_iff_iff]; simp
    · rw [if_neg hy] at e'
      cases e'
  | tup ds => obtain ⟨a, vs, rfl, h1, h2⟩ := h; cases e; exact .inr (.inl ⟨vs, Evl.ex_t eB h1, by rw [isEmpty_dens h2]⟩)
  | lst ds => obtain ⟨a, vs, rfl, h1, h2⟩ := h; cases e; exact .inl ⟨vs, .inl (.inl h1), by rw [isEmpty_dens h2]⟩
  | arg ds => obtain ⟨a, vs, rfl, h1, h2⟩ := h; cases e; exact .inl ⟨vs, Evl.ex_l eB h1, by rw [isEmpty_dens h2]⟩
  | obj c ds => cases e
  | exc a x c ds => cases e
  | dct => cases e
  | err c ds => cases e
  | opq i => cases e
theorem jt_tru {f : M Opd} (hK : X.K = g.K) (ha : JO X g T W a f) (he : ∀ whole, isTrue a X.env whole = (do let v ← whole; standAt a.pos; holding [v] (truthy v))) : JT X g T W a (mbind f fun o => mbind (res o) fun d => mopt (truD d)) :=
  fun τ t => PT.imp (pt_truth (ha τ t) he) fun σ H Q ⟨B, s, R, p⟩ =>
  (PostM.bind (P := PO' g) R p).mono fun v H1 ⟨o, B1, s1, R1, e1, q, p1⟩ => by
    rcases res_cases (o := o) (s := s1) with ⟨d, w⟩ | w
    · rw [mbind_ok w] at p1
      cases ek : truD d with
      | none => rw [ek] at p1; exact p1.elim
      | some k =>
        rw [ek] at p1
        refine ⟨k, ?_, p1 k B1 H1 R1 (Evl.Ex.refl _) rfl⟩
        rw [hK]
        exact tru_den R1.bh (res_ok R1 q w).2 ek
    · exfalso
      have z : mbind (res o) (fun d => mopt (truD d)) s1 = .bad := by unfold mbind; rw [w]
      rw [z] at p1; exact p1
end TW

set_option Elab.async false
set_option linter.all false
set_option autoImplicit false
set_option maxRecDepth 100000
set_option maxHeartbeats 1000000
namespace TW
open PySem PySem.Spec PyProof.Rows L2
variable {g : G} {T : Tx} {B B' H H' : Hp} {σ : L2.St} {s : S} {W : WX} {α β γ δ : Type} {P : PP α β}

/-! ## statements -/
inductive OutS where
  | nx (s : S) | rt (r : Rv) (s : S) | bk (s : S) | ct (s : S) | ex (c : Nat) (ds : List D) (s : S) | bad
abbrev MS := S → OutS
def PostS (g : G) (T : Tx) (W : WX) (B : Hp) : OutS → Ends → Prop
  | .nx s', D => ∀ σ' B' H', Rel g T B' H' σ' s' → Ex B B' → D.nx σ' H'
  | .bk s', D => ∀ σ' B' H', Rel g T B' H' σ' s' → Ex B B' → D.bk σ' H'
  | .ct s', D => ∀ σ' B' H', Rel g T B' H' σ' s' → Ex B B' → D.ct σ' H'
  | .rt r s', D => ∀ v σ' B' H', Rel g T B' H' σ' s' → Ex B B' → RvOk g T σ' s' r B' H' v → D.rt v H'
  | .ex c ds s', _ => ∀ x σ' B' H', Rel g T B' H' σ' s' → Ex B B' → XcOk g B' x c ds → W (.ref (g.cn c)) x σ' H'
  | .bad, _ => False
def RdS (g : G) (T : Tx) (W : WX) (f : MS) : TS := fun D σ H => ∃ B s, Rel g T B H σ s ∧ PostS g T W B (f s) D
def JS (X : Cx) (g : G) (T : Tx) (W : WX) (st : Stmt) (f : MS) : Prop := PS X st (RdS g T W f)
def JSs (X : Cx) (g : G) (T : Tx) (W : WX) (st : List Stmt) (f : MS) : Prop := PSs X st (RdS g T W f)
theorem PS.imp {X : Cx} {st : Stmt} {t t' : TS} (h : PS X st t) (hi : ∀ D σ H, t' D σ H → t D σ H) : PS X st t' := ⟨fun pins s σ H D I q => h.run pins s σ H D I (hi _ _ _ q)⟩
theorem PSs.imp {X : Cx} {st : List Stmt} {t t' : TS} (h : PSs X st t) (hi : ∀ D σ H, t' D σ H → t D σ H) : PSs X st t' := ⟨fun pins s σ H D I q => h.run pins s σ H D I (hi _ _ _ q)⟩
theorem PostS.base {o : OutS} {D : Ends} (e : Ex B B') (h : PostS g T W B o D) : PostS g T W B' o D := by
  cases o with
  | nx s' => exact fun σ' B1 H1 R1 e1 => h σ' B1 H1 R1 (e.trans e1)
  | bk s' => exact fun σ' B1 H1 R1 e1 => h σ' B1 H1 R1 (e.trans e1)
  | ct s' => exact fun σ' B1 H1 R1 e1 => h σ' B1 H1 R1 (e.trans e1)
  | rt r s' => exact fun v σ' B1 H1 R1 e1 p => h v σ' B1 H1 R1 (e.trans e1) p
  | ex c ds s' => exact fun x σ' B1 H1 R1 e1 p => h x σ' B1 H1 R1 (e.trans e1) p
  | bad => exact h
def mseq (f k : MS) : MS := fun s => match f s with
  | .nx s' => k s'
  | o => o
def ms {α : Type} (f : M α) (k : α → MS) : MS := fun s => match f s with
  | .ok a s' => k a s'
  | .ex c ds s' => .ex c ds s'
  | .bad => .bad
theorem PostS.bind {fa : M α} {k : α → MS} {D : Ends} (R : Rel g T B H σ s) (h : PostS g T W B (ms fa k s) D) :
    RdM g T W P fa σ H fun v H1 => ∃ a B1 s1, Rel g T B1 H1 σ s1 ∧ Ex B B1 ∧ P σ s1 a B1 H1 v ∧ PostS g T W B1 (k a s1) D := by
  refine ⟨B, s, R, ?_⟩
  unfold ms at h
  cases e : fa s with
  | ok a s' =>
    rw [e] at h
    exact fun v B1 H1 R1 e1 p => ⟨a, B1, s', R1, e1, p, PostS.base e1 h⟩
  | ex c ds s' => rw [e] at h; exact fun x B1 H1 R1 e1 p => h x σ B1 H1 R1 e1 p
  | bad => rw [e] at h; exact h
variable {X : Cx} {e a b c : Expr} {st : Stmt} {sts rest : List Stmt} {pos : Pos}
theorem jss_nil : JSs X g T W [] (fun s => .nx s) := PSs.imp pss_nil fun D σ H ⟨B, s, R, p⟩ => p σ B H R (Evl.Ex.refl _)
theorem jss_one {f : MS} (h : JS X g T W st f) : JSs X g T W [st] f := pss_one h
theorem jss_cons {f k : MS} (h : JS X g T W st f) (hr : JSs X g T W rest k) : JSs X g T W (st :: rest) (mseq f k) := PSs.imp (pss_cons h hr) fun D σ H ⟨B, s, R, p⟩ => by
  refine ⟨B, s, R, ?_⟩
  unfold mseq at p
  cases e : f s with
  | nx s' => rw [e] at p; exact fun σ' B' H' R' e' => ⟨B', s', R', PostS.base e' p⟩
  | bk s' => rw [e] at p; exact p
  | ct s' => rw [e] at p; exact p
  | rt r s' => rw [e] at p; exact p
  | ex c ds s' => rw [e] at p; exact p
  | bad => rw [e] at p; exact p
theorem js_pass : JS X g T W (.Pass pos) (fun s => .nx s) := PS.imp ps_pass fun D σ H ⟨B, s, R, p⟩ => p σ B H R (Evl.Ex.refl _)
theorem js_break : JS X g T W (.Break pos) (fun s => .bk s) := PS.imp ps_break fun D σ H ⟨B, s, R, p⟩ => p σ B H R (Evl.Ex.refl _)
theorem js_continue : JS X g T W (.Continue pos) (fun s => .ct s) := PS.imp ps_continue fun D σ H ⟨B, s, R, p⟩ => p σ B H R (Evl.Ex.refl _)
theorem js_doc {x j pos'} : JS X g T W (.Expr (.Constant (.str x) j pos) pos') (fun s => .nx s) := PS.imp ps_doc fun D σ H ⟨B, s, R, p⟩ => p σ B H R (Evl.Ex.refl _)
def Rv.sl : Rv → Sl
  | .v d => .v d
  | .l ds => .l ds
  | .o c ds => .o c ds
/-- a name that is no parameter; a parameter that is no list of the caller's -/
def stSet (i : Nat) (x : Sl) : MS := fun s => if i < s.length then .nx (s.set i x) else .bad
def stSetP (i : Nat) (x : Sl) : MS := fun s => match s[i]? with
  | some (.v _) => .nx (s.set i x)
  | _ => .bad
theorem Rel.stored (R : Rel g T B H σ s) {i : Nat} {r : Rv} {v : V} (hi : i < s.length) (hio : T.io i = none) (h : RvOk g T σ s r B H v) : Rel g T B H (σ.set i (some v)) (s.set i r.sl) := by
  cases r with
  | v d => exact R.storev hi hio h
  | l ds => obtain ⟨p, vs, rfl, F, hd⟩ := h; exact R.storel hi hio F hd
  | o c ds =>
    obtain ⟨p, dx, vs, rfl, F, hd⟩ := h
    exact R.store hi hio ⟨p, dx, vs, rfl, F.b, F.at_, hd⟩ fun a _ e => by cases e; exact ⟨F.sl, F.h0⟩
theorem js_set {i : Nat} {f : M Rv} (hps : ∀ te, PE X e te → PS X st (tAsg te (gName i))) (hio : T.io i = none) (he : JR X g T W e f) : JS X g T W st (ms f fun r => stSet i r.sl) :=
  PS.imp (hps _ (he T.τ T.t)) fun D σ H ⟨B, s, R, p⟩ => (PostS.bind (P := RvOk g T) R p).mono fun v H1 ⟨r, B1, s1, R1, e1, q, p1⟩ => by
    unfold stSet at p1
    by_cases hi : i < s1.length
    · rw [if_pos hi] at p1; exact p1 _ B1 H1 (R1.stored hi hio q) (Evl.Ex.refl _)
    · rw [if_neg hi] at p1; exact p1.elim
theorem js_setP {i : Nat} {f : M Rv} (hps : ∀ te, PE X e te → PS X st (tAsg te (gName i))) (he : JR X g T W e f) : JS X g T W st (ms f fun r => stSetP i r.sl) :=
  PS.imp (hps _ (he T.τ T.t)) fun D σ H ⟨B, s, R, p⟩ => (PostS.bind (P := RvOk g T) R p).mono fun v H1 ⟨r, B1, s1, R1, e1, q, p1⟩ => by
    unfold stSetP at p1
    cases hs : s1[i]? with
    | none => rw [hs] at p1; exact p1.elim
    | some x =>
      rw [hs] at p1
      cases x with
      | v d =>
        have hi := (List.getElem?_eq_some_iff.mp hs).1
        have hio : T.io i = none := by
          cases ei : T.io i with
          | none => rfl
          | some a =>
            obtain ⟨_, x, hx, ho⟩ := R1.r.iok i a ei
            rw [app_some hs] at hx; cases hx; cases ho
        exact p1 _ B1 H1 (R1.stored hi hio q) (Evl.Ex.refl _)
      | _ => exact p1.elim
theorem js_ret {f : M Rv} (he : JR X g T W e f) : JS X g T W (.Return (some e) pos) (ms f fun r s => .rt r s) :=
  PS.imp (ps_ret (he T.τ T.t)) fun D σ H ⟨B, s, R, p⟩ => (PostS.bind (P := RvOk g T) R p).mono fun v H1 ⟨r, B1, s1, R1, e1, q, p1⟩ => p1 v σ B1 H1 R1 (Evl.Ex.refl _) q
theorem js_retN : JS X g T W (.Return none pos) (fun s => .rt (.v .non) s) := PS.imp ps_retN fun D σ H ⟨B, s, R, p⟩ => p .non σ B H R (Evl.Ex.refl _) rfl
theorem js_expr {f : M D} (he : JE X g T W e f) (hs : swapsWith e none pos.line X.env = pure false) : JS X g T W (.Expr e pos) (ms f fun _ s => .nx s) :=
  PS.imp (ps_expr (he T.τ T.t) hs) fun D σ H ⟨B, s, R, p⟩ => (PostS.bind (P := PD g) R p).mono fun v H1 ⟨r, B1, s1, R1, e1, q, p1⟩ => p1 σ B1 H1 R1 (Evl.Ex.refl _)
def mcond (t : M Bool) (f k : MS) : MS := ms t fun c => if c = true then f else k
theorem js_if {ft : M Bool} {f k : MS} {l1 l2 : List Stmt} (hc : JT X g T W c ft) (h1 : JSs X g T W l1 f) (h2 : JSs X g T W l2 k) : JS X g T W (.If c l1 l2 pos) (mcond ft f k) :=
  PS.imp (ps_if (hc T.τ T.t) h1 h2) fun D σ H ⟨B, s, R, p⟩ => (PostS.bind (P := PB) R p).mono fun v H1 ⟨r, B1, s1, R1, e1, q, p1⟩ => by
    subst q
    cases v with
    | true => exact ⟨B1, s1, R1, p1⟩
    | false => exact ⟨B1, s1, R1, p1⟩

/-! ## defs -/
inductive OutF where
  | ret (r : Rv) (post : List Sl) | ex (c : Nat) (ds : List D) (post : List Sl) | bad
abbrev Fd := List Sl → OutF
structure ArgsOk (g : G) (B H : Hp) (as : List Sl) (vs : List V) : Prop where
  len : as.length = vs.length
  ok : ∀ (i : Nat) (x : Sl) (v : V), as[i]? = some x → vs[i]? = some v → SlOk g B H x (some v)
  nd : ∀ (i j : Nat) (x y : Sl) (a : Addr), as[i]? = some x → as[j]? = some y → x.own = true → y.own = true → vs[i]? = some (.ref a) → vs[j]? = some (.ref a) → i = j
structure After (g : G) (B H B' H' : Hp) (as : List Sl) (vs : List V) (post : List Sl) : Prop where
  eB : Ex B B'
  eBH : Ex B' H'
  nw : ∀ a, H a ≠ none → B' a = B a
  hh : ∀ a o, H a = some o → (∀ (j : Nat) (x : Sl), as[j]? = some x → x.own = true → vs[j]? ≠ some (.ref a)) → H' a = some o
  dom : ∀ a, H a ≠ none → H' a ≠ none
  io : ∀ (j : Nat) (x : Sl) (v : V), as[j]? = some x → x.own = true → vs[j]? = some v → ∃ x', post[j]? = some x' ∧ x'.own = true ∧ SlOk g B' H' x' (some v)
def RetOk (g : G) (H B' H' : Hp) : Rv → V → Prop
  | .v d, v => Den g B' d v
  | .l ds, v => ∃ p us, v = .ref p ∧ H p = none ∧ B' p = none ∧ H' p = some (.lst us) ∧ Dens g B' ds us
  | .o c ds, v => ∃ p dx us, v = .ref p ∧ H p = none ∧ B' p = none ∧ H' p = some (.ins (g.cn c) dx ((g.names c).zip us)) ∧ Dens g B' ds us
def PostF (g : G) (B H : Hp) (as : List Sl) (vs : List V) (Q : VK) (E : XK) : OutF → Prop
  | .ret r post => ∀ v B' H', After g B H B' H' as vs post → RetOk g H B' H' r v → Q v H'
  | .ex c ds post => ∀ x B' H', After g B H B' H' as vs post → XcOk g B' x c ds → E (.ref (g.cn c)) x H'
  | .bad => False
def spD (g : G) (f : Fd) : Sp := fun vs H Q E => ∃ B as, Ex B H ∧ ArgsOk g B H as vs ∧ PostF g B H as vs Q E (f as)
def fnD (n np : Nat) (body : MS) : Fd := fun as => if as.length = np then (match body (as ++ List.replicate (n - np) .no) with
  | .nx s => .ret (.v .non) (s.take np)
  | .rt r s => .ret r (s.take np)
  | .ex c ds s => .ex c ds (s.take np)
  | _ => .bad) else .bad
/-- what a def's run may change for its caller -/
def ioOf (as : List Sl) (vs : List V) : Nat → Option Addr := fun j => match as[j]?, vs[j]? with
  | some x, some (.ref a) => if x.own = true then some a else none
  | _, _ => none
theorem ioOf_some {as : List Sl} {vs : List V} {j : Nat} {a : Addr} (h : ioOf as vs j = some a) : ∃ x, as[j]? = some x ∧ x.own = true ∧ vs[j]? = some (.ref a) := by
  unfold ioOf at h
  cases e1 : as[j]? with
  | none => rw [e1] at h; cases h
  | some x =>
    cases e2 : vs[j]? with
    | none => rw [e1, e2] at h; cases h
    | some v =>
      rw [e1, e2] at h
      cases v with
      | ref b =>
        have h' : (if x.own = true then some b else none) = some a := h
        by_cases ho : x.own = true
        · rw [if_pos ho] at h'; cases h'; exact ⟨x, rfl, ho, rfl⟩
        · rw [if_neg ho] at h'; cases h'
      | _ => cases h
theorem ioOf_of {as : List Sl} {vs : List V} {j : Nat} {a : Addr} {x : Sl} (h1 : as[j]? = some x) (h2 : x.own = true) (h3 : vs[j]? = some (.ref a)) : ioOf as vs j = some a := by
  unfold ioOf; rw [h1, h3]; exact if_pos h2
theorem ioOf_ge {as : List Sl} {vs : List V} {j : Nat} (h : as.length ≤ j) : ioOf as vs j = none := by
  cases e : ioOf as vs j with
  | none => rfl
  | some a => obtain ⟨x, h1, _⟩ := ioOf_some e; have := (List.getElem?_eq_some_iff.mp h1).1; omega
abbrev tx0 (B H : Hp) (as : List Sl) (vs : List V) : Tx := ⟨B, H, ioOf as vs, [], []⟩
theorem Rel.start {as : List Sl} {vs : List V} {N : List Str} (e : Ex B H) (A : ArgsOk g B H as vs) (hN : vs.length ≤ N.length) : Rel g (tx0 B H as vs) B H (L2.start N vs) (as ++ List.replicate (N.length - vs.length) .no) := by
  have gs : ∀ (i : Nat) (x : Sl), (as ++ List.replicate (N.length - vs.length) .no)[i]? = some x → (as[i]? = some x) ∨ x = .no := fun i x h => by
    by_cases hi : i < as.length
    · rw [List.getElem?_append_left hi] at h; exact .inl h
    · rw [List.getElem?_append_right (by omega)] at h; exact .inr (List.eq_of_mem_replicate (List.mem_of_getElem? h))
  have gv : ∀ (i : Nat) (x : Sl), as[i]? = some x → ∃ v, vs[i]? = some v ∧ (L2.start N vs)[i]? = some (some v) := fun i x h => by
    have hi := (List.getElem?_eq_some_iff.mp h).1
    have hv : i < vs.length := by rw [← A.len]; exact hi
    refine ⟨vs[i], by simp [hv], ?_⟩
    unfold L2.start
    rw [List.getElem?_append_left (by simpa using hv)]
    simp [hv]
  have gr : ∀ (i : Nat) (x : Sl) (a : Addr), as[i]? = some x → (L2.start N vs)[i]? = some (some (.ref a)) → vs[i]? = some (.ref a) := fun i x a h h' => by
    obtain ⟨v, h1, h2⟩ := gv i x h; rw [h2] at h'; cases h'; exact h1
  have hl : (L2.start N vs).length = N.length := by unfold L2.start; simp; omega
  have hlen : (L2.start N vs).length = (as ++ List.replicate (N.length - vs.length) Sl.no).length := by rw [hl]; simp [A.len]; omega
  refine ⟨⟨Evl.Ex.refl B, e, fun _ _ => rfl, fun _ _ h _ => h, fun _ h => h, by simpa using hlen, fun i x y hx hy => ?_, fun i j x x' a hx hx' ho ho' e1 e2 => ?_, fun j a hj => ?_, fun i x a hx ho e1 => ?_⟩, hlen, fun j a hj => ?_⟩
  · simp only [List.append_nil] at hx hy
    rcases gs i x hx with h | h
    · obtain ⟨v, h1, h2⟩ := gv i x h
      rw [h2] at hy; cases hy
      exact A.ok i x v h h1
    · subst h; trivial
  · simp only [List.append_nil] at hx hx' e1 e2
    rcases gs i x hx with h | h
    · rcases gs j x' hx' with h' | h'
      · exact A.nd i j x x' a h h' ho ho' (gr i x a h e1) (gr j x' a h' e2)
      · subst h'; cases ho'
    · subst h; cases ho
  · simp only [List.append_nil]
    obtain ⟨x, h1, h2, h3⟩ := ioOf_some hj
    obtain ⟨v, h4, h5⟩ := gv j x h1
    rw [h3] at h4; cases h4
    exact ⟨h5, x, app_some h1, h2⟩
  · simp only [List.append_nil] at hx e1
    rcases gs i x hx with h | h
    · exact .inr ⟨i, ioOf_of h ho (gr i x a h e1)⟩
    · subst h; cases ho
  · obtain ⟨x, h1, _⟩ := ioOf_some hj
    have := (List.getElem?_eq_some_iff.mp h1).1
    rw [hl]; have := A.len; omega
theorem Rel.after {as : List Sl} {vs : List V} {B0 H0 : Hp} {np : Nat} (R : Rel g (tx0 B0 H0 as vs) B H σ s) (hn : as.length = np) (A : ArgsOk g B0 H0 as vs) : After g B0 H0 B H as vs (s.take np) where
  eB := R.b0
  eBH := R.bh
  nw := R.r.nw
  hh := fun a o h hj => R.r.hh a o h fun j z => by
    obtain ⟨x, h1, h2, h3⟩ := ioOf_some z
    exact hj j x h1 h2 h3
  dom := R.dom
  io := fun j x v h1 h2 h3 => by
    have hj := (List.getElem?_eq_some_iff.mp h1).1
    cases v with
    | ref a =>
      obtain ⟨e, y, hy, ho⟩ := R.r.iok j a (ioOf_of h1 h2 h3)
      simp only [List.append_nil] at e hy
      refine ⟨y, by rw [List.getElem?_take]; rw [if_pos (by omega)]; exact hy, ho, R.r.sl j y _ (by simpa using hy) (by simpa using e)⟩
    | _ =>
      exfalso
      have q := A.ok j x _ h1 h3
      cases x with
      | l ds => obtain ⟨_, _, e, _⟩ := q; cases e
      | o c ds => obtain ⟨_, _, _, e, _⟩ := q; cases e
      | _ => cases h2
end TW

set_option Elab.async false
set_option linter.all false
set_option autoImplicit false
set_option maxRecDepth 100000
set_option maxHeartbeats 1000000
namespace TW
open PySem PySem.Spec PyProof.Rows L2
variable {g : G} {T : Tx} {B B' H H' : Hp} {σ : L2.St} {s : S} {W : WX} {α β γ δ : Type} {P : PP α β}

theorem RvOk.ret {as : List Sl} {vs : List V} {B0 H0 : Hp} {r : Rv} {v : V} (R : Rel g (tx0 B0 H0 as vs) B H σ s) (h : RvOk g (tx0 B0 H0 as vs) σ s r B H v) : RetOk g H0 B H r v := by
  cases r with
  | v d => exact h
  | l ds => obtain ⟨p, us, rfl, F, hd⟩ := h; exact ⟨p, us, rfl, F.h0, F.b, F.at_, hd⟩
  | o c ds => obtain ⟨p, dx, us, rfl, F, hd⟩ := h; exact ⟨p, dx, us, rfl, F.h0, F.b, F.at_, hd⟩
/-- a def keeps the promise of what describes its body -/
theorem fnD_ok {P : Program} {w : World} {base : Heap} {x qual : Str} {st : Stmt} {f : Addr} {fd : FuncData} {N ps : List Str} {k : Nat} {body : MS} (F : Fun g.K x qual st f fd) (Sc : FnScope N ps (defScope st)) (hps : ps.length ≤ N.length)
    (hbody : ∀ (cdv : Value) (A : Around) (outer : List Env) (s : Shared) (H : Hp) (E : XK) (T : Tx), Room k (A.deeper (envOfC qual (defScope st) s.heap.objs.size f cdv)) → (∀ i, ps.length ≤ i → T.io i = none) →
      JSs (cxOf (L2.CX P w) P w g.K g.mg base N qual (defScope st) f cdv A outer s H E) g T (fun cls d _ H => E cls d H) (defBody st) body) :
    FnOk P w g.K g.mg base (L2.CX P w) (k + 1) f fd ps (spD g (fnD N.length ps.length body)) := by
  refine F.okX Sc (fun vs H Q E h => ?_) (fun cdv A outer s H vs Q E hr h => ?_)
  · obtain ⟨B, as, e, A, p⟩ := h
    unfold fnD at p
    by_cases hl : as.length = ps.length
    · rw [← A.len]; exact hl
    · rw [if_neg hl] at p; exact p.elim
  · obtain ⟨B, as, e, Ao, p⟩ := h
    unfold fnD at p
    by_cases hl : as.length = ps.length
    · rw [if_pos hl] at p
      refine ⟨_, hbody cdv A outer s H E (tx0 B H as vs) hr (fun i hi => ioOf_ge (by omega)), B, _, Rel.start e Ao (by rw [← Ao.len]; omega), ?_⟩
      have hv : N.length - vs.length = N.length - ps.length := by rw [← Ao.len]; omega
      rw [hv]
      cases q : body (as ++ List.replicate (N.length - ps.length) Sl.no) with
      | nx s' =>
        rw [q] at p
        intro σ' B' H' R' e'
        exact p .non B' H' (R'.after hl Ao) rfl
      | rt r s' =>
        rw [q] at p
        intro v σ' B' H' R' e' hr
        exact p v B' H' (R'.after hl Ao) (RvOk.ret R' hr)
      | ex c ds s' =>
        rw [q] at p
        intro x σ' B' H' R' e' hx
        exact p x B' H' (R'.after hl Ao) hx
      | bk s' => rw [q] at p; exact p.elim
      | ct s' => rw [q] at p; exact p.elim
      | bad => rw [q] at p; exact p.elim
    · rw [if_neg hl] at p; exact p.elim

/-! ## calls -/
def Opd.isS (k : Nat) : Opd → Bool
  | .s j => j == k
  | .d _ => false
def Sl.some? : Sl → Option Sl
  | .no => none
  | x => some x
def argOf (s : S) : Opd → Option Sl
  | .d x => some (.v x)
  | .s k => (s[k]?).bind Sl.some?
def argsOf (s : S) : List Opd → Option (List Sl)
  | [] => some []
  | o :: r => match argOf s o, argsOf s r with
    | some x, some xs => some (x :: xs)
    | _, _ => none
/-- no list goes to two parameters -/
def dupFree (s : S) : List Opd → Bool
  | [] => true
  | .d _ :: r => dupFree s r
  | .s k :: r => (!((s[k]?).getD .no).own || r.all fun o => !o.isS k) && dupFree s r
def putBack (s : S) (os : List Opd) (post : List Sl) : S := s.mapIdx fun i x => if x.own = true then (match os.findIdx? (Opd.isS i) with
  | some j => post.getD j .no
  | none => x) else x
def mcall (f : Fd) (dds : List D) (fa : M (List Opd)) : M Rv := mbind fa fun os s => if dupFree s os = true then (match argsOf s os with
  | none => .bad
  | some as => match f (as ++ dds.map .v) with
    | .ret r post => .ok r (putBack s os post)
    | .ex c ds post => .ex c ds (putBack s os post)
    | .bad => .bad) else .bad
theorem argsOf_get : ∀ {os : List Opd} {s : S} {as : List Sl}, argsOf s os = some as → as.length = os.length ∧ ∀ (i : Nat) (o : Opd), os[i]? = some o → argOf s o = as[i]?
  | [], s, as, h => by cases h; exact ⟨rfl, fun i o h => by simp at h⟩
  | o :: r, s, as, h => by
    unfold argsOf at h
    cases e1 : argOf s o with
    | none => rw [e1] at h; simp at h
    | some x =>
      cases e2 : argsOf s r with
      | none => rw [e1, e2] at h; simp at h
      | some xs =>
        rw [e1, e2] at h
        simp at h
        subst h
        obtain ⟨h1, h2⟩ := argsOf_get e2
        refine ⟨by simp [h1], fun i o' hi => ?_⟩
        cases i with
        | zero => simp at hi; subst hi; simpa using e1
        | succ i => simp at hi ⊢; exact h2 i o' hi
theorem argOf_own {o : Opd} {x : Sl} (h : argOf s o = some x) (ho : x.own = true) : ∃ k, o = .s k ∧ s[k]? = some x := by
  cases o with
  | d y => cases h; cases ho
  | s k =>
    cases e : s[k]? with
    | none => simp [argOf, e] at h
    | some y =>
      have h' : y.some? = some x := by simpa [argOf, e] using h
      cases y with
      | no => cases h'
      | v d => cases h'; cases ho
      | l ds => cases h'; exact ⟨k, rfl, e⟩
      | o c ds => cases h'; exact ⟨k, rfl, e⟩
theorem dup_at : ∀ {os : List Opd} {i j k : Nat} {x : Sl}, dupFree s os = true → s[k]? = some x → x.own = true → os[i]? = some (.s k) → os[j]? = some (.s k) → i = j
  | [], i, _, _, _, _, _, _, h, _ => by simp at h
  | o :: r, i, j, k, x, hd, hk, ho, hi, hj => by
    have key : ∀ (m : Nat), r[m]? = some (.s k) → o = .s k → False := fun m hm e => by
      subst e
      unfold dupFree at hd
      rw [hk] at hd
      simp only [Option.getD_some, ho, Bool.not_true, Bool.false_or, Bool.and_eq_true] at hd
      have := List.all_eq_true.mp hd.1 _ (List.mem_of_getElem? hm)
      simp [Opd.isS] at this
    have hd' : dupFree s r = true := by
      cases o with
      | d y => exact hd
      | s m => unfold dupFree at hd; exact (Bool.and_eq_true_iff.mp hd).2
    cases i with
    | zero =>
      cases j with
      | zero => rfl
      | succ j => simp at hi hj; exact (key j hj hi).elim
    | succ i =>
      cases j with
      | zero => simp at hi hj; exact (key i hi hj).elim
      | succ j => simp at hi hj; rw [dup_at hd' hk ho hi hj]
theorem Rel0.args_ok {os : List Opd} {vs : List V} {as : List Sl} {dds : List D} {dvs : List V} (R : Rel0 g T B H σ s) (hp : PAs g σ s os B H vs) (hd : dupFree s os = true) (ha : argsOf s os = some as) (hdd : Dens g B dds dvs) : ArgsOk g B H (as ++ dds.map .v) (vs ++ dvs) := by
  obtain ⟨hl, hg⟩ := argsOf_get ha
  have hl2 : as.length = vs.length := hl.trans hp.1
  have sp : ∀ (i : Nat) (x : Sl), (as ++ dds.map Sl.v)[i]? = some x → (as[i]? = some x ∧ i < as.length) ∨ (as.length ≤ i ∧ ∃ d, dds[i - as.length]? = some d ∧ x = .v d) := fun i x h => by
    by_cases hi : i < as.length
    · rw [List.getElem?_append_left hi] at h; exact .inl ⟨h, hi⟩
    · rw [List.getElem?_append_right (by omega), List.getElem?_map] at h
      cases e : dds[i - as.length]? with
      | none => rw [e] at h; cases h
      | some d => rw [e] at h; cases h; exact .inr ⟨by omega, d, rfl, rfl⟩
  have vl : ∀ (i : Nat), i < as.length → (vs ++ dvs)[i]? = vs[i]? := fun i hi => List.getElem?_append_left (by omega)
  have one : ∀ (i : Nat) (x : Sl) (v : V), as[i]? = some x → vs[i]? = some v → SlOk g B H x (some v) ∧ (x.own = true → ∃ k, os[i]? = some (.s k) ∧ s[k]? = some x ∧ σ[k]? = some (some v)) := fun i x v h1 h2 => by
    have hi := (List.getElem?_eq_some_iff.mp h1).1
    have ho : i < os.length := by omega
    have e1 := hg i os[i] (by simp [ho])
    rw [h1] at e1
    have q := hp.2 i os[i] v (by simp [ho]) h2
    cases eo : os[i] with
    | d y =>
      rw [eo] at e1 q
      cases e1
      exact ⟨⟨v, rfl, q⟩, fun z => by cases z⟩
    | s k =>
      rw [eo] at e1 q
      have q' : σ[k]? = some (some v) := q
      cases es : s[k]? with
      | none => simp [argOf, es] at e1
      | some y =>
        have e2 : y.some? = some x := by simpa [argOf, es] using e1
        have fin : y = x → SlOk g B H x (some v) ∧ (x.own = true → ∃ k, os[i]? = some (.s k) ∧ s[k]? = some x ∧ σ[k]? = some (some v)) := fun e => by
          subst e
          exact ⟨R.sl k y _ es q', fun _ => ⟨k, by simp [ho, eo], es, q'⟩⟩
        cases y with
        | no => cases e2
        | v d => cases e2; exact fin rfl
        | l ds => cases e2; exact fin rfl
        | o c ds => cases e2; exact fin rfl
  refine ⟨by simp [hl2, hdd.length], fun i x v h1 h2 => ?_, fun i j x y a h1 h2 o1 o2 e1 e2 => ?_⟩
  · rcases sp i x h1 with ⟨h, hi⟩ | ⟨hi, d, hd, rfl⟩
    · rw [vl i hi] at h2; exact (one i x v h h2).1
    · rw [List.getElem?_append_right (by omega), ← hl2] at h2
      obtain ⟨v', hv, q⟩ := hdd.get hd
      have ev : v' = v := by rw [hv] at h2; exact Option.some.inj h2
      subst ev
      exact ⟨_, rfl, q⟩
  · rcases sp i x h1 with ⟨h, hi⟩ | ⟨hi, d, _, rfl⟩
    · rcases sp j y h2 with ⟨h', hj⟩ | ⟨hj, d, _, rfl⟩
      · rw [vl i hi] at e1
        rw [vl j hj] at e2
        obtain ⟨k, k1, k2, k3⟩ := (one i x _ h e1).2 o1
        obtain ⟨m, m1, m2, m3⟩ := (one j y _ h' e2).2 o2
        have : k = m := R.nd k m x y a k2 m2 o1 o2 k3 m3
        subst this
        exact dup_at hd k2 o1 k1 m1
      · cases o2
    · cases o1
theorem putBack_get (s : S) (os : List Opd) (post : List Sl) (i : Nat) : (putBack s os post)[i]? = (s[i]?).map fun x => if x.own = true then (match os.findIdx? (Opd.isS i) with
    | some j => post.getD j .no
    | none => x) else x := by
  unfold putBack; rw [List.getElem?_mapIdx]
theorem putBack_own {s t : S} {os : List Opd} {post : List Sl} {i : Nat} {y : Sl} (h : (putBack s os post ++ t)[i]? = some y) (ho : y.own = true) : ∃ x, (s ++ t)[i]? = some x ∧ x.own = true := by
  have plen : (putBack s os post).length = s.length := by unfold putBack; simp
  by_cases hi : i < s.length
  · rw [List.getElem?_append_left (by omega), putBack_get] at h
    refine ⟨s[i], by rw [List.getElem?_append_left hi]; simp [hi], ?_⟩
    simp [hi] at h
    cases q : s[i].own with
    | true => rfl
    | false =>
      rw [if_neg (by simp [q])] at h
      rw [← h, q] at ho; cases ho
  · rw [List.getElem?_append_right (by omega), plen] at h
    exact ⟨y, by rw [List.getElem?_append_right (by omega)]; exact h, ho⟩
/-- behind a call -/
theorem Rel0.called {os : List Opd} {vs : List V} {as : List Sl} {dds : List D} {dvs : List V} {post : List Sl} (R : Rel0 g T B H σ s) (hp : PAs g σ s os B H vs) (hd : dupFree s os = true) (ha : argsOf s os = some as) (hdd : Dens g B dds dvs)
    (A : After g B H B' H' (as ++ dds.map .v) (vs ++ dvs) post) : Rel0 g T B' H' σ (putBack s os post) := by
  obtain ⟨hl, hg⟩ := argsOf_get ha
  have hl2 : as.length = vs.length := hl.trans hp.1
  -- an argument that is own is a slot
  have own_of : ∀ (j : Nat) (x : Sl) (a : Addr), (as ++ dds.map Sl.v)[j]? = some x → x.own = true → (vs ++ dvs)[j]? = some (.ref a) → ∃ k, os[j]? = some (.s k) ∧ s[k]? = some x ∧ σ[k]? = some (some (.ref a)) := fun j x a h1 h2 h3 => by
    by_cases hj : j < as.length
    · rw [List.getElem?_append_left hj] at h1
      rw [List.getElem?_append_left (by omega)] at h3
      have ho : j < os.length := by omega
      have e1 := hg j os[j] (by simp [ho])
      rw [h1] at e1
      obtain ⟨k, k1, k2⟩ := argOf_own e1 h2
      have q := hp.2 j os[j] _ (by simp [ho]) h3
      rw [k1] at q
      exact ⟨k, by rw [← k1]; simp [ho], k2, q⟩
    · rw [List.getElem?_append_right (by omega), List.getElem?_map] at h1
      cases e : dds[j - as.length]? with
      | none => rw [e] at h1; cases h1
      | some d => rw [e] at h1; cases h1; cases h2
  have pb : ∀ (i : Nat) (y : Sl), (putBack s os post)[i]? = some y → ∃ x, s[i]? = some x ∧ (x.own = false → y = x) ∧ (x.own = true → (y = x ∧ os.findIdx? (Opd.isS i) = none) ∨ ∃ j, os.findIdx? (Opd.isS i) = some j ∧ y = post.getD j .no) := fun i y h => by
    have plen : (putBack s os post).length = s.length := by unfold putBack; simp
    have hi : i < s.length := by rw [← plen]; exact (List.getElem?_eq_some_iff.mp h).1
    rw [putBack_get] at h
    refine ⟨s[i], by simp [hi], ?_⟩
    simp [hi] at h
    by_cases ho : s[i].own = true
    · rw [if_pos ho] at h
      refine ⟨fun z => (by rw [ho] at z; cases z), fun _ => ?_⟩
      cases q : os.findIdx? (Opd.isS i) with
      | none => rw [q] at h; exact .inl ⟨h.symm, rfl⟩
      | some j => rw [q] at h; exact .inr ⟨j, rfl, h.symm⟩
    · rw [if_neg ho] at h
      exact ⟨fun _ => h.symm, fun z => absurd z ho⟩
  -- the slot that goes to a parameter
  have slot_of : ∀ (i j : Nat) (x : Sl) (a : Addr), s[i]? = some x → x.own = true → σ[i]? = some (some (.ref a)) → os.findIdx? (Opd.isS i) = some j → (as ++ dds.map Sl.v)[j]? = some x ∧ (vs ++ dvs)[j]? = some (.ref a) := fun i j x a h1 h2 h3 hf => by
    obtain ⟨hj, hj2, _⟩ := List.findIdx?_eq_some_iff_getElem.mp hf
    have eo : os[j] = .s i := by
      cases q : os[j] with
      | d y => rw [q] at hj2; cases hj2
      | s k =>
        rw [q] at hj2
        have e : k = i := by simpa [Opd.isS] using hj2
        rw [e]
    have e1 := hg j os[j] (by simp [hj])
    rw [eo] at e1
    have e2 : argOf s (.s i) = some x := by
      show (s[i]?).bind Sl.some? = some x
      rw [h1]
      cases x <;> first | rfl | cases h2
    rw [e2] at e1
    have hv : j < vs.length := by rw [← hp.1]; exact hj
    have q := hp.2 j os[j] vs[j] (by simp [hj]) (by simp [hv])
    rw [eo] at q
    have q' : σ[i]? = some (some vs[j]) := q
    rw [h3] at q'
    have ev : vs[j] = .ref a := (Option.some.inj (Option.some.inj q')).symm
    refine ⟨by rw [List.getElem?_append_left (by omega)]; exact e1.symm, by rw [List.getElem?_append_left hv]; simp [hv, ev]⟩
  have keepA : ∀ (i : Nat) (x : Sl) (a : Addr), s[i]? = some x → x.own = true → σ[i]? = some (some (.ref a)) → os.findIdx? (Opd.isS i) = none → ∀ (j : Nat) (z : Sl), (as ++ dds.map Sl.v)[j]? = some z → z.own = true → (vs ++ dvs)[j]? ≠ some (.ref a) := fun i x a h1 h2 h3 hf j z hz1 hz2 hz3 => by
    obtain ⟨k, k1, k2, k3⟩ := own_of j z a hz1 hz2 hz3
    have : i = k := R.nd i k x z a h1 k2 h2 hz2 h3 k3
    subst this
    have := hf
    rw [List.findIdx?_eq_none_iff] at this
    have := this _ (List.mem_of_getElem? k1)
    simp [Opd.isS] at this
  have plen : (putBack s os post).length = s.length := by unfold putBack; simp
  refine ⟨R.b0.trans A.eB, A.eBH, fun a h => by rw [A.nw a (R.dom a h)]; exact R.nw a h, fun a o h hj => A.hh a o (R.hh a o h hj) fun j x h1 h2 h3 => ?_, fun a h => A.dom a (R.dom a h), by rw [plen]; exact R.len, fun i y v hy hv => ?_, fun i j y y' a h1 h2 o1 o2 e1 e2 => ?_, fun j a h => ?_, fun i y a h1 o1 e1 => ?_⟩
  · obtain ⟨k, k1, k2, k3⟩ := own_of j x a h1 h2 h3
    rcases R.ow k x a k2 h2 k3 with z | ⟨m, z⟩
    · rw [z] at h; cases h
    · exact hj m z
  · obtain ⟨x, hx, c1, c2⟩ := pb i y hy
    have q := R.sl i x v hx hv
    by_cases ho : x.own = true
    · rcases c2 ho with ⟨rfl, hf⟩ | ⟨j, hf, rfl⟩
      · cases y with
        | no => cases ho
        | v d => cases ho
        | l ds =>
          obtain ⟨a, us, rfl, b0, h0, hds⟩ := q
          exact ⟨a, us, rfl, by rw [A.nw a (by rw [h0]; simp)]; exact b0, A.hh a _ h0 (keepA i _ a hx ho hv hf), hds.mono A.eB⟩
        | o c ds =>
          obtain ⟨a, dx, us, rfl, b0, h0, hds⟩ := q
          exact ⟨a, dx, us, rfl, by rw [A.nw a (by rw [h0]; simp)]; exact b0, A.hh a _ h0 (keepA i _ a hx ho hv hf), hds.mono A.eB⟩
      · have hr : ∃ a, v = some (.ref a) := by
          cases x with
          | no => cases ho
          | v d => cases ho
          | l ds => obtain ⟨a, _, e, _⟩ := q; exact ⟨a, e⟩
          | o c ds => obtain ⟨a, _, _, e, _⟩ := q; exact ⟨a, e⟩
        obtain ⟨a, rfl⟩ := hr
        obtain ⟨e1, e2⟩ := slot_of i j x a hx ho hv hf
        obtain ⟨x', p1, p2, p3⟩ := A.io j x _ e1 ho e2
        rw [List.getD_eq_getElem?_getD, p1]
        exact p3
    · have : y = x := c1 (by simpa using ho)
      subst this
      cases y with
      | no => trivial
      | v d => obtain ⟨u, e, h1⟩ := q; exact ⟨u, e, h1.mono A.eB⟩
      | l ds => exact absurd rfl ho
      | o c ds => exact absurd rfl ho
  · obtain ⟨x, hx, c1, c2⟩ := pb i y h1
    obtain ⟨x', hx', c1', c2'⟩ := pb j y' h2
    have back : ∀ (m : Nat) (z z' : Sl), (z.own = false → z' = z) → z'.own = true → z.own = true := fun m z z' hh ho => by
      cases q : z.own with
      | true => rfl
      | false => rw [hh q, q] at ho; cases ho
    exact R.nd i j x x' a hx hx' (back i x y c1 o1) (back j x' y' c1' o2) e1 e2
  · obtain ⟨e, x, hx, ho⟩ := R.iok j a h
    refine ⟨e, ?_⟩
    have ea := e
    rw [putBack_get, hx]
    simp only [Option.map_some, ho, if_true]
    cases q : os.findIdx? (Opd.isS j) with
    | none => exact ⟨x, rfl, ho⟩
    | some m =>
      obtain ⟨f1, f2⟩ := slot_of j m x a hx ho ea q
      obtain ⟨x', p1, p2, p3⟩ := A.io m x _ f1 ho f2
      exact ⟨x', by simp [List.getD_eq_getElem?_getD, p1], p2⟩
  · obtain ⟨x, hx, c1, c2⟩ := pb i y h1
    have ho : x.own = true := by
      cases q : x.own with
      | true => rfl
      | false => rw [c1 q, q] at o1; cases o1
    exact R.ow i x a hx ho e1
theorem argsOf_app {s t : S} : ∀ {os : List Opd} {as : List Sl}, argsOf s os = some as → argsOf (s ++ t) os = some as ∧ ∀ k, Opd.s k ∈ os → k < s.length
  | [], as, h => by cases h; exact ⟨rfl, fun k h => by simp at h⟩
  | o :: r, as, h => by
    unfold argsOf at h
    cases e1 : argOf s o with
    | none => rw [e1] at h; simp at h
    | some x =>
      cases e2 : argsOf s r with
      | none => rw [e1, e2] at h; simp at h
      | some xs =>
        rw [e1, e2] at h
        simp at h
        subst h
        obtain ⟨h1, h2⟩ := argsOf_app (t := t) e2
        have one : argOf (s ++ t) o = some x ∧ ∀ k, o = .s k → k < s.length := by
          cases o with
          | d y => exact ⟨e1, fun k z => by cases z⟩
          | s k =>
            cases es : s[k]? with
            | none => simp [argOf, es] at e1
            | some y =>
              refine ⟨?_, fun m z => by cases z; exact (List.getElem?_eq_some_iff.mp es).1⟩
              have e3 : y.some? = some x := by simpa [argOf, es] using e1
              show ((s ++ t)[k]?).bind Sl.some? = some x
              rw [app_some es]; exact e3
        refine ⟨?_, fun k hk => ?_⟩
        · unfold argsOf; rw [one.1, h1]
        · rcases List.mem_cons.mp hk with z | z
          · exact one.2 k z.symm
          · exact h2 k z
theorem dupFree_app {s t : S} : ∀ {os : List Opd}, (∀ k, Opd.s k ∈ os → k < s.length) → dupFree s os = true → dupFree (s ++ t) os = true
  | [], _, _ => rfl
  | .d y :: r, hk, h => dupFree_app (os := r) (fun k z => hk k (List.mem_cons_of_mem _ z)) h
  | .s k :: r, hk, h => by
    unfold dupFree at h ⊢
    obtain ⟨h1, h2⟩ := Bool.and_eq_true_iff.mp h
    have hl := hk k List.mem_cons_self
    rw [List.getElem?_append_left hl, h1, dupFree_app (os := r) (fun k z => hk k (List.mem_cons_of_mem _ z)) h2]; rfl
theorem putBack_app {s t : S} {os : List Opd} {post : List Sl} (hk : ∀ k, Opd.s k ∈ os → k < s.length) : putBack (s ++ t) os post = putBack s os post ++ t := by
  have plen : (putBack s os post).length = s.length := by unfold putBack; simp
  apply List.ext_getElem?
  intro i
  rw [putBack_get]
  by_cases hi : i < s.length
  · rw [List.getElem?_append_left hi, List.getElem?_append_left (by omega), putBack_get]
  · rw [List.getElem?_append_right (by omega), List.getElem?_append_right (by omega), plen]
    have hn : os.findIdx? (Opd.isS i) = none := by
      rw [List.findIdx?_eq_none_iff]
      intro o ho
      cases o with
      | d y => rfl
      | s k =>
        have := hk k ho
        simp [Opd.isS]; omega
    rw [hn]
    cases t[i - s.length]? <;> simp
theorem PAs.app {os : List Opd} {vs : List V} {τ : L2.St} (h : PAs g σ s os B H vs) : PAs g (σ ++ τ) s os B H vs := ⟨h.1, fun i o v h1 h2 => by
  have q := h.2 i o v h1 h2
  cases o with
  | d y => exact q
  | s k => exact app_some q⟩
theorem args_ok {os : List Opd} {vs : List V} {as : List Sl} {dds : List D} {dvs : List V} (R : Rel g T B H σ s) (hp : PAs g σ s os B H vs) (hd : dupFree s os = true) (ha : argsOf s os = some as) (hdd : Dens g B dds dvs) : ArgsOk g B H (as ++ dds.map .v) (vs ++ dvs) := by
  obtain ⟨h1, h2⟩ := argsOf_app (t := T.t) ha
  exact R.r.args_ok (PAs.app hp) (dupFree_app h2 hd) h1 hdd
theorem Rel.called {os : List Opd} {vs : List V} {as : List Sl} {dds : List D} {dvs : List V} {post : List Sl} (R : Rel g T B H σ s) (hp : PAs g σ s os B H vs) (hd : dupFree s os = true) (ha : argsOf s os = some as) (hdd : Dens g B dds dvs)
    (A : After g B H B' H' (as ++ dds.map .v) (vs ++ dvs) post) : Rel g T B' H' σ (putBack s os post) := by
  obtain ⟨h1, h2⟩ := argsOf_app (t := T.t) ha
  have r := R.r.called (PAs.app hp) (dupFree_app h2 hd) h1 hdd A
  rw [putBack_app h2] at r
  exact ⟨r, by unfold putBack; simp [R.ln], R.iob⟩
theorem RetOk.rv {os : List Opd} {vs : List V} {as : List Sl} {post : List Sl} {r : Rv} {v : V} (R : Rel g T B H σ s) (R' : Rel g T B' H' σ (putBack s os post)) (h : RetOk g H B' H' r v)
    (sl : ∀ (i : Nat) (x : Sl) (p : Addr), (putBack s os post ++ T.t)[i]? = some x → x.own = true → (σ ++ T.τ)[i]? = some (some (.ref p)) → H p ≠ none) : RvOk g T σ (putBack s os post) r B' H' v := by
  cases r with
  | v d => exact h
  | l ds => obtain ⟨p, us, rfl, n, b, e, hd⟩ := h; exact ⟨p, us, rfl, ⟨b, R.h0_of n, fun i x h1 h2 h3 => sl i x p h1 h2 h3 n, e⟩, hd⟩
  | o c ds => obtain ⟨p, dx, us, rfl, n, b, e, hd⟩ := h; exact ⟨p, dx, us, rfl, ⟨b, R.h0_of n, fun i x h1 h2 h3 => sl i x p h1 h2 h3 n, e⟩, hd⟩
variable {X : Cx} {e : Expr} {es : List Expr}
/-- a call by values: what a rule of HandS leaves to show -/
theorem jr_call {f : Fd} {dds : List D} {dvs : List V} {fa : M (List Opd)} (hpe : ∀ ta, PA X es ta → PE X e (tCallSD (spD g f) dvs (WE W) ta)) (hdd : ∀ B, Dens g B dds dvs) (ha : JA X g T W es fa) : JR X g T W e (mcall f dds fa) :=
  fun τ t => PE.imp (hpe _ (ha τ t)) fun σ H Q ⟨B, s, R, p⟩ => (PostM.bind (P := PAs g) R p).mono fun vs H1 ⟨os, B1, s1, R1, e1, q, p1⟩ => by
    by_cases hd : dupFree s1 os = true
    · rw [if_pos hd] at p1
      cases ea : argsOf s1 os with
      | none => rw [ea] at p1; exact p1.elim
      | some as =>
        rw [ea] at p1
        dsimp only at p1
        refine ⟨B1, as ++ dds.map .v, R1.bh, args_ok R1 q hd ea (hdd B1), ?_⟩
        cases ef : f (as ++ dds.map .v) with
        | bad => rw [ef] at p1; exact p1.elim
        | ret r post =>
          rw [ef] at p1
          intro v B' H' A hr
          have R' := R1.called q hd ea (hdd B1) A
          refine p1 v B' H' R' A.eB (RetOk.rv (vs := vs) (as := as) R1 R' hr fun i x p h1 h2 h3 hn => ?_)
          obtain ⟨x0, k1, k2⟩ := putBack_own h1 h2
          obtain ⟨_, o, ho⟩ := R1.r.ownH k1 k2 h3
          rw [ho] at hn; cases hn
        | ex c ds post =>
          rw [ef] at p1
          intro x B' H' A hx
          exact p1 x B' H' (R1.called q hd ea (hdd B1) A) A.eB hx
    · rw [if_neg hd] at p1; exact p1.elim
end TW

set_option Elab.async false
set_option linter.all false
set_option autoImplicit false
set_option maxRecDepth 100000
set_option maxHeartbeats 1000000
namespace TW
open PySem PySem.Spec PyProof.Rows L2
variable {g : G} {T : Tx} {B B' H H' : Hp} {σ : L2.St} {s : S} {W : WX} {α β γ δ : Type} {P : PP α β}
variable {X : Cx} {e a b c : Expr} {es : List Expr} {pos : Pos}

/-! ## operations on ints -/
def dInt2 (c : Int → Int → Bool) (h : Int → Int → Int) : D → D → Option D
  | .int i, .int j => if c i j = true then some (.int (h i j)) else none
  | _, _ => none
def dCmp2 (h : Int → Int → Bool) : D → D → Option D
  | .int i, .int j => some (.bl (h i j))
  | _, _ => none
theorem opd_int {f : Value → Value → Sem Value} {C : Int → Int → Prop} {h : Int → Int → Int} {c : Int → Int → Bool} (hr : OpR X f (rI C fun i j => .int (h i j))) (hc : ∀ i j, c i j = true → C i j) : OpD X g f (dInt2 c h) :=
  ⟨_, hr, fun T B H σ s x y dx dy d Q R h1 h2 e q => by
    cases dx with
    | int i =>
      cases dy with
      | int j =>
        cases h1; cases h2
        have e' : (if c i j = true then some (D.int (h i j)) else none) = some d := e
        by_cases hij : c i j = true
        · rw [if_pos hij] at e'; cases e'
          exact ⟨i, j, rfl, rfl, hc i j hij, q _ B H R (Evl.Ex.refl _) rfl⟩
        · rw [if_neg hij] at e'; cases e'
      | _ => cases e
    | _ => cases e⟩
theorem opd_cmp {f : Value → Value → Sem Value} {h : Int → Int → Bool} (hr : OpR X f (rI0 fun i j => .bl (h i j))) : OpD X g f (dCmp2 h) :=
  ⟨_, hr, fun T B H σ s x y dx dy d Q R h1 h2 e q => by
    cases dx with
    | int i =>
      cases dy with
      | int j =>
        cases h1; cases h2
        cases e
        exact ⟨i, j, rfl, rfl, q _ B H R (Evl.Ex.refl _) rfl⟩
      | _ => cases e
    | _ => cases e⟩
theorem rI0_rI {f : Value → Value → Sem Value} {h : Int → Int → Int} (hr : OpR X f (rI0 fun i j => .int (h i j))) : OpR X f (rI (fun _ _ => True) fun i j => .int (h i j)) :=
  fun pins s σ H x y v u Q I rx ry ⟨i, j, e1, e2, _, q⟩ => hr pins s σ H x y v u Q I rx ry ⟨i, j, e1, e2, q⟩
abbrev ctt : Int → Int → Bool := fun _ _ => true
abbrev dAdd := dInt2 ctt (fun i j => i + j)
abbrev dSub := dInt2 ctt (fun i j => i - j)
abbrev cMul : Int → Int → Bool := fun i j => decide (i.natAbs.log2 + j.natAbs.log2 < 134217000)
theorem op_mulX : OpR X (binaryOp .Mult) (rI IntMulOk fun i j => .int (i * j)) := opI fun _ _ _ _ _ _ _ hc q => mul_int q hc
theorem mul_okX {i j : Int} (h3 : i.natAbs.log2 + j.natAbs.log2 < 134217000) : IntMulOk i j := by
  have b : ∀ x : Int, Builtin.Int.intBits x ≤ x.natAbs.log2 + 1 := fun x => by
    unfold Builtin.Int.intBits
    split <;> omega
  have h1 := b i
  have h2 := b j
  have e : bitsLine = 134217728 := by decide
  unfold IntMulOk
  intro z
  rw [Bool.and_eq_true] at z
  have z2 := z.2
  unfold Builtin.Int.intTooBig at z2
  have z3 := of_decide_eq_true z2
  rw [e] at z3
  omega
abbrev cDiv : Int → Int → Bool := fun i j => decide (0 < j) && decide (j.natAbs.log2 < 9000)
abbrev cMod : Int → Int → Bool := fun _ j => decide (0 < j)
abbrev cPow : Int → Int → Bool := fun i j => decide (0 ≤ j) && (decide (j ≤ 1000000) && decide (i.natAbs < 2 ^ 64))
abbrev dMul := dInt2 cMul (fun i j => i * j)
abbrev dDiv := dInt2 cDiv (fun i j => i / j)
abbrev dMod := dInt2 cMod (fun i j => i % j)
abbrev dPow := dInt2 cPow (fun i j => i ^ j.toNat)
theorem o_add : OpD X g (binaryOp .Add) dAdd := opd_int (rI0_rI op_add) fun _ _ _ => trivial
theorem o_sub : OpD X g (binaryOp .Sub) dSub := opd_int (rI0_rI op_sub) fun _ _ _ => trivial
theorem o_mul : OpD X g (binaryOp .Mult) dMul := opd_int op_mulX fun i j h => mul_okX (of_decide_eq_true h)
theorem o_div : OpD X g (binaryOp .FloorDiv) dDiv := opd_int op_fdivW fun _ _ h => by
  obtain ⟨h1, h2⟩ := Bool.and_eq_true_iff.mp h
  exact ⟨of_decide_eq_true h1, of_decide_eq_true h2⟩
theorem o_mod : OpD X g (binaryOp .Mod) dMod := opd_int op_mod fun _ _ h => of_decide_eq_true h
theorem o_pow : OpD X g (binaryOp .Pow) dPow := opd_int op_pow fun _ _ h => by
  obtain ⟨h1, h2⟩ := Bool.and_eq_true_iff.mp h
  obtain ⟨h3, h4⟩ := Bool.and_eq_true_iff.mp h2
  exact ⟨of_decide_eq_true h1, of_decide_eq_true h3, of_decide_eq_true h4⟩
abbrev dLt := dCmp2 (fun i j => decide (i < j))
abbrev dLe := dCmp2 (fun i j => decide (i ≤ j))
abbrev dGt := dCmp2 (fun i j => decide (j < i))
abbrev dGe := dCmp2 (fun i j => decide (j ≤ i))
theorem o_lt : OpD X g (compareOp .Lt) dLt := opd_cmp op_lt
theorem o_le : OpD X g (compareOp .LtE) dLe := opd_cmp op_le
theorem o_gt : OpD X g (compareOp .Gt) dGt := opd_cmp op_gt
theorem o_ge : OpD X g (compareOp .GtE) dGe := opd_cmp op_ge

/-! ## == of data -/
mutual
def toPy : D → Option PyData
  | .non => some .none
  | .bl b => some (.bool b)
  | .int i => some (.int i)
  | .str x => some (.str x)
  | .tup ds => (toPys ds).map .tuple
  | .lst ds => (toPys ds).map .list
  | .arg ds => (toPys ds).map .list
  | .obj _ _ => none
  | .exc _ _ _ _ => none
  | .dct => none
  | .err _ _ => none
  | .opq _ => none
def toPys : List D → Option (List PyData)
  | [] => some []
  | d :: ds => match toPy d, toPys ds with
    | some x, some xs => some (x :: xs)
    | _, _ => none
end
mutual
theorem dp_of {K : PySem.W.Frag} (hK : K = g.K) (eB : Ex B H) : ∀ {d : D} {p : PyData} {v : V}, toPy d = some p → Den g B d v → Dp K H v p
  | .non, p, v, e, h => by cases e; cases h; exact .non
  | .bl b, p, v, e, h => by cases e; cases h; exact .bl b
  | .int i, p, v, e, h => by cases e; cases h; exact .int i
  | .str x, p, v, e, h => by cases e; cases h; exact .str x
  | .tup ds, p, v, e, h => by
    subst hK
    obtain ⟨a, vs, rfl, h1, h2⟩ := h
    have e' : (toPys ds).map PyData.tuple = some p := e
    cases q : toPys ds with
    | none => rw [q] at e'; cases e'
    | some ps => rw [q] at e'; cases e'; exact .tup (Evl.ex_t eB h1) (dps_of rfl eB q h2)
  | .lst ds, p, v, e, h => by
    subst hK
    obtain ⟨a, vs, rfl, h1, h2⟩ := h
    have e' : (toPys ds).map PyData.list = some p := e
    cases q : toPys ds with
    | none => rw [q] at e'; cases e'
    | some ps => rw [q] at e'; cases e'; exact .lst (.inl (.inl (eB _ _ h1))) (dps_of rfl eB q h2)
  | .arg ds, p, v, e, h => by
    subst hK
    obtain ⟨a, vs, rfl, h1, h2⟩ := h
    have e' : (toPys ds).map PyData.list = some p := e
    cases q : toPys ds with
    | none => rw [q] at e'; cases e'
    | some ps => rw [q] at e'; cases e'; exact .lst (Evl.ex_l eB h1) (dps_of rfl eB q h2)
  | .obj _ _, p, v, e, h => by cases e
  | .exc _ _ _ _, p, v, e, h => by cases e
  | .dct, p, v, e, h => by cases e
  | .err _ _, p, v, e, h => by cases e
  | .opq _, p, v, e, h => by cases e
theorem dps_of {K : PySem.W.Frag} (hK : K = g.K) (eB : Ex B H) : ∀ {ds : List D} {ps : List PyData} {vs : List V}, toPys ds = some ps → Dens g B ds vs → DpAll K H vs ps
  | [], ps, vs, e, h => by cases e; cases h; exact .nil
  | d :: ds, ps, vs, e, h => by
    obtain ⟨v, r, rfl, h1, h2⟩ := h
    have e' : (match toPy d, toPys ds with
      | some x, some xs => some (x :: xs)
      | _, _ => none) = some ps := e
    cases q1 : toPy d with
    | none => rw [q1] at e'; cases e'
    | some x =>
      cases q2 : toPys ds with
      | none => rw [q1, q2] at e'; cases e'
      | some xs => rw [q1, q2] at e'; cases e'; exact .cons (dp_of hK eB q1 h1) (dps_of hK eB q2 h2)
end
theorem dpw_of {K : PySem.W.Frag} (hK : K = g.K) (eB : Ex B H) {d : D} {p : PyData} {v : V} (e : toPy d = some p) (h : DenW g B H d v) : Dp K H v p := by
  subst hK
  cases d with
  | lst ds =>
    obtain ⟨a, vs, rfl, h1, h2⟩ := h
    have e' : (toPys ds).map PyData.list = some p := e
    cases q : toPys ds with
    | none => rw [q] at e'; cases e'
    | some ps => rw [q] at e'; cases e'; exact .lst (.inl (.inl h1)) (dps_of rfl eB q h2)
  | obj c ds => cases e
  | _ => exact dp_of rfl eB e h
def eqP (x y : D) : Option Bool := match toPy x, toPy y with
  | some p, some q => if (SeqAt.shaped p && SeqAt.shaped q) = true then some (PyData.eqv p q) else none
  | _, _ => none
def dEq (x y : D) : Option D := (eqP x y).map .bl
def dNe (x y : D) : Option D := (eqP x y).map fun b => .bl (!b)
theorem eqP_some {x y : D} {b : Bool} (h : eqP x y = some b) : ∃ p q, toPy x = some p ∧ toPy y = some q ∧ SeqAt.shaped p = true ∧ SeqAt.shaped q = true ∧ b = PyData.eqv p q := by
  unfold eqP at h
  cases e1 : toPy x with
  | none => rw [e1] at h; cases h
  | some p =>
    cases e2 : toPy y with
    | none => rw [e1, e2] at h; cases h
    | some q =>
      rw [e1, e2] at h
      have h' : (if (SeqAt.shaped p && SeqAt.shaped q) = true then some (PyData.eqv p q) else none) = some b := h
      by_cases c : (SeqAt.shaped p && SeqAt.shaped q) = true
      · rw [if_pos c] at h'; cases h'
        obtain ⟨c1, c2⟩ := Bool.and_eq_true_iff.mp c
        exact ⟨p, q, rfl, rfl, c1, c2, rfl⟩
      · rw [if_neg c] at h'; cases h'
theorem o_eq (hK : X.K = g.K) (hu : X.A.units + 64 < cLine) : OpD X g (compareOp .Eq) dEq := ⟨_, op_eqD hu, fun T B H σ s x y dx dy d Q R h1 h2 e q => by
  unfold dEq at e
  cases eb : eqP dx dy with
  | none => rw [eb] at e; cases e
  | some b =>
    rw [eb] at e; cases e
    obtain ⟨p, p', e1, e2, s1, s2, rfl⟩ := eqP_some eb
    exact ⟨p, p', dpw_of hK R.bh e1 h1, dpw_of hK R.bh e2 h2, s1, s2, q _ B H R (Evl.Ex.refl _) rfl⟩⟩
theorem o_ne (hK : X.K = g.K) (hu : X.A.units + 64 < cLine) : OpD X g (compareOp .NotEq) dNe := ⟨_, op_neD hu, fun T B H σ s x y dx dy d Q R h1 h2 e q => by
  unfold dNe at e
  cases eb : eqP dx dy with
  | none => rw [eb] at e; cases e
  | some b =>
    rw [eb] at e; cases e
    obtain ⟨p, p', e1, e2, s1, s2, rfl⟩ := eqP_some eb
    exact ⟨p, p', dpw_of hK R.bh e1 h1, dpw_of hK R.bh e2 h2, s1, s2, q _ B H R (Evl.Ex.refl _) rfl⟩⟩
/-- is None -/
def D.isNon : D → Bool
  | .non => true
  | _ => false
theorem isNon_den {d : D} {v : V} (h : DenW g B H d v) : decide (v = .non) = d.isNon := by
  cases d with
  | non => cases h; rfl
  | bl b => cases h; rfl
  | int i => cases h; rfl
  | str x => cases h; rfl
  | tup ds => obtain ⟨a, vs, rfl, _⟩ := h; rfl
  | lst ds => obtain ⟨a, vs, rfl, _⟩ := h; rfl
  | arg ds => obtain ⟨a, vs, rfl, _⟩ := h; rfl
  | obj c ds => obtain ⟨a, dx, vs, rfl, _⟩ := h; rfl
  | exc a x c ds => obtain ⟨rfl, _⟩ := h; rfl
  | dct => obtain ⟨a, kvs, rfl, _⟩ := h; rfl
  | err c ds => obtain ⟨a, x, rfl, _⟩ := h; rfl
  | opq i =>
    obtain ⟨_, h | h | h | h | h | h | h⟩ := h
    · obtain ⟨b, rfl⟩ := h; rfl
    · obtain ⟨b, rfl⟩ := h; rfl
    · obtain ⟨b, rfl⟩ := h; rfl
    · obtain ⟨a, _, rfl, _⟩ := h; rfl
    · obtain ⟨a, _, rfl, _⟩ := h; rfl
    · obtain ⟨a, _, rfl, _⟩ := h; rfl
    · obtain ⟨a, _, _, rfl, _⟩ := h; rfl
def dIsN (x y : D) : Option D := if y.isNon = true then some (.bl x.isNon) else none
def dNotN (x y : D) : Option D := if y.isNon = true then some (.bl (!x.isNon)) else none
theorem o_isN : OpD X g (compareOp .Is) dIsN := ⟨_, op_isN, fun T B H σ s x y dx dy d Q R h1 h2 e q => by
  unfold dIsN at e
  by_cases c : dy.isNon = true
  · rw [if_pos c] at e; cases e
    refine ⟨of_decide_eq_true ((isNon_den h2).trans c), q _ B H R (Evl.Ex.refl _) ?_⟩
    show V.bl (decide (x = .non)) = .bl dx.isNon
    rw [isNon_den h1]
  · rw [if_neg c] at e; cases e⟩
theorem o_notN : OpD X g (compareOp .IsNot) dNotN := ⟨_, op_notN, fun T B H σ s x y dx dy d Q R h1 h2 e q => by
  unfold dNotN at e
  by_cases c : dy.isNon = true
  · rw [if_pos c] at e; cases e
    refine ⟨of_decide_eq_true ((isNon_den h2).trans c), q _ B H R (Evl.Ex.refl _) ?_⟩
    show V.bl (!decide (x = .non)) = .bl (!dx.isNon)
    rw [isNon_den h1]
  · rw [if_neg c] at e; cases e⟩
/-- one of two -/
def dOr (f f' : D → D → Option D) : D → D → Option D := fun x y => match f x y with
  | some d => some d
  | none => f' x y
theorem OpD.or {f : Value → Value → Sem Value} {h h' : D → D → Option D} (o : OpD X g f h) (o' : OpD X g f h') : OpD X g f (dOr h h') := by
  obtain ⟨r, h1, h2⟩ := o
  obtain ⟨r', h1', h2'⟩ := o'
  refine ⟨_, h1.or h1', fun T B H σ s x y dx dy d Q R a1 a2 e q => ?_⟩
  unfold dOr at e
  cases e1 : h dx dy with
  | some d' => rw [e1] at e; cases e; exact .inl (h2 T B H σ s x y dx dy _ Q R a1 a2 e1 q)
  | none => rw [e1] at e; exact .inr (h2' T B H σ s x y dx dy d Q R a1 a2 e q)

/-! ## operations that give a new list, a new tuple -/
def OpRv (X : Cx) (g : G) (f : Value → Value → Sem Value) (g2 : D → D → Option Rv) : Prop :=
  ∃ r : R2, OpR X f r ∧ ∀ (T : Tx) (B H : Hp) (σ : L2.St) (s : S) (x y : V) (dx dy : D) (d : Rv) (Q : VK), Rel g T B H σ s → DenW g B H dx x → DenW g B H dy y → g2 dx dy = some d →
    (∀ v B' H', Rel g T B' H' σ s → Ex B B' → RvOk g T σ s d B' H' v → Q v H') → r x y H Q
def mbinR (f : D → D → Option Rv) (fa fb : M Opd) : M Rv := mbind fa fun oa => mbind fb fun ob => mbind (res oa) fun x => mbind (res ob) fun y => mopt (f x y)
theorem jr_bin {op : Operator} {f : D → D → Option Rv} {fa fb : M Opd} (ho : OpRv X g (binaryOp op) f) (ha : JO X g T W a fa) (hb : JO X g T W b fb) : JR X g T W (.BinOp a op b pos) (mbinR f fa fb) := by
  obtain ⟨r, h1, hr⟩ := ho
  refine fun τ t => PE.imp (pe_op h1 (ha τ t) (hb τ t)) fun σ H Q ⟨B, s, R, p⟩ => ?_
  refine (PostM.bind (P := PO' g) R p).mono fun x H1 ⟨oa, B1, s1, R1, e1, q1, p1⟩ => ?_
  refine (PostM.bind (P := PO' g) R1 p1).mono fun y H2 ⟨ob, B2, s2, R2, e2, q2, p2⟩ => ?_
  rcases res_cases (o := oa) (s := s2) with ⟨dx, w1⟩ | w1
  · rw [mbind_ok w1] at p2
    rcases res_cases (o := ob) (s := s2) with ⟨dy, w2⟩ | w2
    · rw [mbind_ok w2] at p2
      cases ef : f dx dy with
      | none => rw [ef] at p2; exact p2.elim
      | some d =>
        rw [ef] at p2
        exact hr _ B2 H2 σ s2 x y dx dy d Q R2 (res_ok R2 (q1.mono e2) w1).2 (res_ok R2 q2 w2).2 ef fun v B' H' R' e' hd => p2 v B' H' R' e' hd
    · exfalso
      have z : mbind (res ob) (fun y => mopt (f dx y)) s2 = .bad := by unfold mbind; rw [w2]
      rw [z] at p2; exact p2
  · exfalso
    have z : mbind (res oa) (fun x => mbind (res ob) fun y => mopt (f x y)) s2 = .bad := by unfold mbind; rw [w1]
    rw [z] at p2; exact p2
theorem sz16 {n : Nat} (h : n ≤ 16000000) : n ≤ sizeLine := Nat.le_trans h (by decide)
theorem Rel.newl (R : Rel g T B H σ s) {p : Addr} {ds : List D} {vs : List V} (hp : H p = none) (hd : Dens g B ds vs) : Rel g T B (upd H p (.lst vs)) σ s ∧ RvOk g T σ s (.l ds) B (upd H p (.lst vs)) (.ref p) :=
  ⟨R.newH hp, p, vs, rfl, R.fsh hp, hd⟩
theorem Rel.newt (R : Rel g T B H σ s) {p : Addr} {ds : List D} {vs : List V} (hp : H p = none) (hd : Dens g B ds vs) : ∃ B', Rel g T B' (upd H p (.tup vs)) σ s ∧ Ex B B' ∧ Den g B' (.tup ds) (.ref p) :=
  ⟨_, R.new hp, Evl.Ex.new (Evl.fresh_back R.bh hp), p, vs, rfl, .inl (.inl upd_same), hd.mono (Evl.Ex.new (Evl.fresh_back R.bh hp))⟩
/-- list + list -/
def dCat : D → D → Option Rv
  | .lst xs, .lst ys => if xs.length + ys.length ≤ 16000000 then some (.l (xs ++ ys)) else none
  | _, _ => none
theorem o_cat : OpRv X g (binaryOp .Add) dCat := ⟨_, op_cat, fun T B H σ s x y dx dy d Q R h1 h2 e q => by
  cases dx with
  | lst xs =>
    cases dy with
    | lst ys =>
      have e' : (if xs.length + ys.length ≤ 16000000 then some (Rv.l (xs ++ ys)) else none) = some d := e
      by_cases c : xs.length + ys.length ≤ 16000000
      · rw [if_pos c] at e'; cases e'
        obtain ⟨a, vs, rfl, k1, k2⟩ := h1
        obtain ⟨b, us, rfl, k3, k4⟩ := h2
        refine ⟨a, b, vs, us, rfl, rfl, k1, k3, by rw [k2.length, k4.length]; exact sz16 c, fun p hp => ?_⟩
        obtain ⟨R', r⟩ := R.newl hp (k2.append k4)
        exact q _ B _ R' (Evl.Ex.refl _) r
      · rw [if_neg c] at e'; cases e'
    | _ => cases e
  | _ => cases e⟩
/-- list * int -/
def dRep : D → D → Option Rv
  | .lst xs, .int k => if (Nat.ble k.natAbs 15999999 && Nat.ble (xs.length * k.toNat) 16000000) = true then some (.l (List.replicate k.toNat xs).flatten) else none
  | _, _ => none
theorem Dens.rep {ds : List D} {vs : List V} (h : Dens g B ds vs) : ∀ n : Nat, Dens g B (List.replicate n ds).flatten (List.replicate n vs).flatten
  | 0 => by simp [Dens]
  | n + 1 => by rw [List.replicate_succ, List.replicate_succ, List.flatten_cons, List.flatten_cons]; exact h.append (Dens.rep h n)
theorem o_rep : OpRv X g (binaryOp .Mult) dRep := ⟨_, op_rep, fun T B H σ s x y dx dy d Q R h1 h2 e q => by
  cases dx with
  | lst xs =>
    cases dy with
    | int k =>
      have e' : (if (Nat.ble k.natAbs 15999999 && Nat.ble (xs.length * k.toNat) 16000000) = true then some (Rv.l (List.replicate k.toNat xs).flatten) else none) = some d := e
      by_cases c' : (Nat.ble k.natAbs 15999999 && Nat.ble (xs.length * k.toNat) 16000000) = true
      · rw [if_pos c'] at e'; cases e'
        have c : k < 16000000 ∧ -16000000 < k ∧ xs.length * k.toNat ≤ 16000000 := by
          rw [Bool.and_eq_true, Nat.ble_eq, Nat.ble_eq] at c'
          exact ⟨by omega, by omega, c'.2⟩
        obtain ⟨a, vs, rfl, k1, k2⟩ := h1
        cases h2
        refine ⟨a, k, vs, rfl, rfl, k1, by omega, by omega, by rw [k2.length]; exact sz16 c.2.2, fun p hp => ?_⟩
        obtain ⟨R', r⟩ := R.newl hp (k2.rep k.toNat)
        exact q _ B _ R' (Evl.Ex.refl _) r
      · rw [if_neg c'] at e'; cases e'
    | _ => cases e
  | _ => cases e⟩
/-- tuple + tuple -/
def dCatT : D → D → Option Rv
  | .tup xs, .tup ys => if xs.length + ys.length ≤ 16000000 then some (.v (.tup (xs ++ ys))) else none
  | _, _ => none
theorem dens_nil {ds : List D} (h : Dens g B ds []) : ds = [] := by have := h.length; cases ds; rfl; simp at this
theorem o_catT (hK : X.K = g.K) : OpRv X g (binaryOp .Add) dCatT := ⟨_, op_catA, fun T B H σ s x y dx dy d Q R h1 h2 e q => by
  cases dx with
  | tup xs =>
    cases dy with
    | tup ys =>
      have e' : (if xs.length + ys.length ≤ 16000000 then some (Rv.v (.tup (xs ++ ys))) else none) = some d := e
      by_cases c : xs.length + ys.length ≤ 16000000
      · rw [if_pos c] at e'; cases e'
        obtain ⟨a, vs, rfl, k1, k2⟩ := h1
        obtain ⟨b, us, rfl, k3, k4⟩ := h2
        have j1 := Evl.ex_t R.bh k1
        have j3 := Evl.ex_t R.bh k3
        rw [← hK] at j1 j3
        refine ⟨a, b, vs, us, rfl, rfl, j1, j3, by rw [k2.length, k4.length]; exact sz16 c, fun z => ?_, fun z z' => ?_, fun z z' p hp => ?_⟩
        · subst z
          have := dens_nil k2
          subst this
          exact q _ B H R (Evl.Ex.refl _) ⟨b, us, rfl, k3, k4⟩
        · subst z'
          have := dens_nil k4
          subst this
          rw [List.append_nil] at q
          exact q _ B H R (Evl.Ex.refl _) ⟨a, vs, rfl, k1, k2⟩
        · obtain ⟨B', R', e', r⟩ := R.newt hp (k2.append k4)
          exact q _ B' _ R' e' r
      · rw [if_neg c] at e'; cases e'
    | _ => cases e
  | _ => cases e⟩
/-- - i -/
def UnD (X : Cx) (g : G) (f : Value → Sem Value) (g2 : D → Option D) : Prop :=
  ∃ r : V → Hp → VK → Prop, UnR X f r ∧ ∀ (T : Tx) (B H : Hp) (σ : L2.St) (s : S) (x : V) (dx d : D) (Q : VK), Rel g T B H σ s → DenW g B H dx x → g2 dx = some d →
    (∀ v B' H', Rel g T B' H' σ s → Ex B B' → Den g B' d v → Q v H') → r x H Q
def mun (f : D → Option D) (fa : M Opd) : M D := mbind fa fun oa => mbind (res oa) fun x => mopt (f x)
theorem un_post {f : D → Option D} {o : Opd} {x : V} {r : V → Hp → VK → Prop} {Q : VK} (hr : ∀ (T : Tx) (B H : Hp) (σ : L2.St) (s : S) (x : V) (dx d : D) (Q : VK), Rel g T B H σ s → DenW g B H dx x → f dx = some d →
    (∀ v B' H', Rel g T B' H' σ s → Ex B B' → Den g B' d v → Q v H') → r x H Q) (R : Rel g T B H σ s) (q : OpdOk g B σ o x) (p : PostM g T W (PD g) σ B (mbind (res o) (fun x => mopt (f x)) s) Q) : r x H Q := by
  rcases res_cases (o := o) (s := s) with ⟨dx, w⟩ | w
  · rw [mbind_ok w] at p
    cases ef : f dx with
    | none => rw [ef] at p; exact p.elim
    | some d => rw [ef] at p; exact hr T B H σ s x dx d Q R (res_ok R q w).2 ef fun v B' H' R' e' hd => p v B' H' R' e' hd
  · exfalso
    have z : mbind (res o) (fun x => mopt (f x)) s = .bad := by unfold mbind; rw [w]
    rw [z] at p; exact p
theorem je_un {op : UnaryOp} {f : D → Option D} {fa : M Opd} (ho : UnD X g (unaryOp op) f) (ha : JO X g T W a fa) : JE X g T W (.UnaryOp op a pos) (mun f fa) := by
  obtain ⟨r, h1, hr⟩ := ho
  exact fun τ t => PE.imp (pe_un h1 (ha τ t)) fun σ H Q ⟨B, s, R, p⟩ => (PostM.bind (P := PO' g) R p).mono fun x H1 ⟨o, B1, s1, R1, e1, q1, p1⟩ => un_post hr R1 q1 p1
def dNeg : D → Option D
  | .int i => some (.int (-i))
  | _ => none
theorem o_neg : UnD X g (unaryOp .USub) dNeg := ⟨_, un_neg, fun T B H σ s x dx d Q R h e q => by
  cases dx with
  | int i => cases h; cases e; exact ⟨i, rfl, q _ B H R (Evl.Ex.refl _) rfl⟩
  | _ => cases e⟩
end TW

set_option Elab.async false
set_option linter.all false
set_option autoImplicit false
set_option maxRecDepth 100000
set_option maxHeartbeats 1000000
namespace TW
open PySem PySem.Spec PyProof.Rows L2
variable {g : G} {T : Tx} {B B' H H' : Hp} {σ : L2.St} {s : S} {W : WX} {α β γ δ : Type} {P : PP α β}
variable {X : Cx} {e a b c : Expr} {es : List Expr} {pos : Pos}

/-! ## argument lists -/
theorem PAs.nil : PAs g σ s [] B H [] := ⟨rfl, fun i o v h => by simp at h⟩
theorem PAs.cons {o : Opd} {v : V} {os : List Opd} {vs : List V} (h : OpdOk g B σ o v) (hs : PAs g σ s os B H vs) : PAs g σ s (o :: os) B H (v :: vs) := ⟨by simp [hs.1], fun i o' v' h1 h2 => by
  cases i with
  | zero => simp at h1 h2; subst h1; subst h2; exact h
  | succ i => simp at h1 h2; exact hs.2 i o' v' h1 h2⟩
theorem PAs.mono {os : List Opd} {vs : List V} {s' : S} {H' : Hp} (e : Ex B B') (h : PAs g σ s os B H vs) : PAs g σ s' os B' H' vs := ⟨h.1, fun i o v h1 h2 => (h.2 i o v h1 h2).mono e⟩
theorem PAs.append {os os' : List Opd} {vs vs' : List V} (h : PAs g σ s os B H vs) (h' : PAs g σ s os' B H vs') : PAs g σ s (os ++ os') B H (vs ++ vs') := ⟨by simp [h.1, h'.1], fun i o v h1 h2 => by
  by_cases hi : i < os.length
  · rw [List.getElem?_append_left hi] at h1
    rw [List.getElem?_append_left (by rw [← h.1]; exact hi)] at h2
    exact h.2 i o v h1 h2
  · rw [List.getElem?_append_right (by omega)] at h1
    rw [List.getElem?_append_right (by rw [← h.1]; omega), ← h.1] at h2
    exact h'.2 _ o v h1 h2⟩
theorem PAs.of_dens {ds : List D} {vs : List V} (h : Dens g B ds vs) : PAs g σ s (ds.map .d) B H vs := ⟨by simp [h.length], fun i o v h1 h2 => by
  rw [List.getElem?_map] at h1
  cases e : ds[i]? with
  | none => rw [e] at h1; cases h1
  | some d =>
    rw [e] at h1; cases h1
    obtain ⟨v', e', q⟩ := h.get e
    rw [h2] at e'; cases e'; exact q⟩
theorem ja_nil : JA X g T W [] (mret []) := fun τ t => PA.imp pa_nil fun σ H Q ⟨B, s, R, p⟩ => p [] B H R (Evl.Ex.refl _) .nil
def mcons (fa : M Opd) (fr : M (List Opd)) : M (List Opd) := mbind fa fun o => mbind fr fun os => mret (o :: os)
theorem ja_cons {fa : M Opd} {fr : M (List Opd)} (ha : JO X g T W e fa) (hr : JA X g T W es fr) (hs : starEach (e :: es) X.env = (false, eval e X.env) :: starEach es X.env := by rfl) : JA X g T W (e :: es) (mcons fa fr) :=
  fun τ t => PA.imp (pa_cons (ha τ t) (hr τ t) hs) fun σ H Q ⟨B, s, R, p⟩ => (PostM.bind (P := PO' g) R p).mono fun v H1 ⟨o, B1, s1, R1, e1, q1, p1⟩ =>
    (PostM.bind (P := PAs g) R1 p1).mono fun vs H2 ⟨os, B2, s2, R2, e2, q2, p2⟩ => p2 (v :: vs) B2 H2 R2 (Evl.Ex.refl _) ((q2.cons (q1.mono e2)))
def itemsD : D → Option (List D)
  | .tup ds => some ds
  | .lst ds => some ds
  | .arg ds => some ds
  | _ => none
def mstar (fa : M Opd) (fr : M (List Opd)) : M (List Opd) := mbind fa fun o => mbind (res o) fun d => mbind (mopt (itemsD d)) fun ds => mbind fr fun os => mret (ds.map .d ++ os)
theorem items_den {d : D} {v : V} {ds : List D} (eB : Ex B H) (h : DenW g B H d v) (e : itemsD d = some ds) : ∃ a vs, v = .ref a ∧ (SqT g.K H a vs ∨ SqL g.K H a vs) ∧ Dens g B ds vs := by
  cases d with
  | tup ds' => cases e; obtain ⟨a, vs, rfl, h1, h2⟩ := h; exact ⟨a, vs, rfl, .inl (Evl.ex_t eB h1), h2⟩
  | lst ds' => cases e; obtain ⟨a, vs, rfl, h1, h2⟩ := h; exact ⟨a, vs, rfl, .inr (.inl (.inl h1)), h2⟩
  | arg ds' => cases e; obtain ⟨a, vs, rfl, h1, h2⟩ := h; exact ⟨a, vs, rfl, .inr (Evl.ex_l eB h1), h2⟩
  | _ => cases e
theorem ja_star {fa : M Opd} {fr : M (List Opd)} {p' : Pos} (hK : X.K = g.K) (ha : JO X g T W e fa) (hr : JA X g T W es fr) (hs : starEach (.Starred e p' :: es) X.env = (true, eval e X.env) :: starEach es X.env := by rfl) : JA X g T W (.Starred e p' :: es) (mstar fa fr) :=
  fun τ t => PA.imp (StX.pa_star (ha τ t) (hr τ t) hs) fun σ H Q ⟨B, s, R, p⟩ => (PostM.bind (P := PO' g) R p).mono fun v H1 ⟨o, B1, s1, R1, e1, q1, p1⟩ => by
    rcases res_cases (o := o) (s := s1) with ⟨d, w⟩ | w
    · rw [mbind_ok w] at p1
      cases ei : itemsD d with
      | none => rw [ei] at p1; exact p1.elim
      | some ds =>
        rw [ei] at p1
        obtain ⟨a, vs, rfl, hv, hd⟩ := items_den R1.bh (res_ok R1 q1 w).2 ei
        rw [← hK] at hv
        refine ⟨a, vs, rfl, hv, ?_⟩
        exact (PostM.bind (P := PAs g) R1 p1).mono fun us H2 ⟨os, B2, s2, R2, e2, q2, p2⟩ => p2 _ B2 H2 R2 (Evl.Ex.refl _) ((PAs.of_dens (hd.mono e2)).append q2)
    · exfalso
      have z : mbind (res o) (fun d => mbind (mopt (itemsD d)) fun ds => mbind fr fun os => mret (ds.map Opd.d ++ os)) s1 = .bad := by unfold mbind; rw [w]
      rw [z] at p1; exact p1
/-! ### displays -/
def strongs : List Opd → M (List D)
  | [] => mret []
  | o :: r => mbind (strong o) fun d => mbind (strongs r) fun ds => mret (d :: ds)
theorem strongs_ok : ∀ {os : List Opd} {vs : List V} {ds : List D} {s' : S}, Rel g T B H σ s → PAs g σ s os B H vs → strongs os s = .ok ds s' → s' = s ∧ Dens g B ds vs
  | [], vs, ds, s', R, h, e => by
    cases e
    have : vs = [] := by have := h.1; cases vs; rfl; simp at this
    subst this
    exact ⟨rfl, Dens.nil⟩
  | o :: r, vs, ds, s', R, h, e => by
    cases vs with
    | nil => have := h.1; simp at this
    | cons v vs =>
      have h1 := h.2 0 o v rfl rfl
      have h2 : PAs g σ s r B H vs := ⟨by have := h.1; simpa using this, fun i o' v' a1 a2 => h.2 (i + 1) o' v' (by simpa using a1) (by simpa using a2)⟩
      unfold strongs at e
      rcases strong_cases (o := o) (s := s) with ⟨d, w⟩ | w
      · rw [mbind_ok w] at e
        cases er : strongs r s with
        | ok ds' s2 =>
          rw [mbind_ok er] at e
          cases e
          obtain ⟨rfl, q⟩ := strongs_ok R h2 er
          exact ⟨rfl, Dens.cons (strong_ok R h1 w).2 q⟩
        | ex c cs s2 => unfold mbind at e; rw [er] at e; cases e
        | bad => unfold mbind at e; rw [er] at e; cases e
      · unfold mbind at e; rw [w] at e; cases e
theorem strongs_ex : ∀ {os : List Opd}, (∃ ds, strongs os s = .ok ds s) ∨ strongs os s = .bad
  | [] => .inl ⟨[], rfl⟩
  | o :: r => by
    unfold strongs
    rcases strong_cases (o := o) (s := s) with ⟨d, w⟩ | w
    · rw [mbind_ok w]
      rcases strongs_ex (os := r) with ⟨ds, w2⟩ | w2
      · exact .inl ⟨_, by rw [mbind_ok w2]; rfl⟩
      · exact .inr (by unfold mbind; rw [w2])
    · exact .inr (by unfold mbind; rw [w])
def mlst (fa : M (List Opd)) : M Rv := mbind fa fun os => mbind (strongs os) fun ds => if ds.length ≤ 16000000 then mret (.l ds) else mbad
def mtup (fa : M (List Opd)) : M D := mbind fa fun os => mbind (strongs os) fun ds => if ds.length ≤ 16000000 then mret (.tup ds) else mbad
theorem jr_lst {fa : M (List Opd)} (ha : JA X g T W es fa) : JR X g T W (.List es pos) (mlst fa) :=
  fun τ t => PE.imp (pe_lst (ha τ t)) fun σ H Q ⟨B, s, R, p⟩ => (PostM.bind (P := PAs g) R p).mono fun vs H1 ⟨os, B1, s1, R1, e1, q1, p1⟩ => by
    rcases strongs_ex (s := s1) (os := os) with ⟨ds, w⟩ | w
    · rw [mbind_ok w] at p1
      have hd := (strongs_ok R1 q1 w).2
      by_cases c : ds.length ≤ 16000000
      · rw [if_pos c] at p1
        refine ⟨by rw [hd.length]; exact sz16 c, fun p hp => ?_⟩
        obtain ⟨R', r⟩ := R1.newl hp hd
        exact p1 _ B1 _ R' (Evl.Ex.refl _) r
      · rw [if_neg c] at p1; exact p1.elim
    · exfalso
      have z : mbind (strongs os) (fun ds => if ds.length ≤ 16000000 then mret (Rv.l ds) else mbad) s1 = .bad := by unfold mbind; rw [w]
      rw [z] at p1; exact p1
theorem je_tup {x1} {fa : M (List Opd)} (ha : JA X g T W es fa) : JE X g T W (.Tuple es x1 pos) (mtup fa) :=
  fun τ t => PE.imp (pe_tup (ha τ t)) fun σ H Q ⟨B, s, R, p⟩ => (PostM.bind (P := PAs g) R p).mono fun vs H1 ⟨os, B1, s1, R1, e1, q1, p1⟩ => by
    rcases strongs_ex (s := s1) (os := os) with ⟨ds, w⟩ | w
    · rw [mbind_ok w] at p1
      have hd := (strongs_ok R1 q1 w).2
      by_cases c : ds.length ≤ 16000000
      · rw [if_pos c] at p1
        refine ⟨by rw [hd.length]; exact sz16 c, fun p hp => ?_⟩
        obtain ⟨B', R', e', r⟩ := R1.newt hp hd
        exact p1 _ B' _ R' e' r
      · rw [if_neg c] at p1; exact p1.elim
    · exfalso
      have z : mbind (strongs os) (fun ds => if ds.length ≤ 16000000 then mret (D.tup ds) else mbad) s1 = .bad := by unfold mbind; rw [w]
      rw [z] at p1; exact p1
/-! ### subscripts -/
def dIx : D → D → Option D
  | .tup ds, .int i => atI ds i
  | .lst ds, .int i => atI ds i
  | .arg ds, .int i => atI ds i
  | .str x, .int i => if x.length ≤ 100000 then (atI x.cps.toList i).map fun c => .str ⟨#[c]⟩ else none
  | _, _ => none
theorem atI_dens {ds : List D} {vs : List V} {i : Int} {d : D} (h : Dens g B ds vs) (e : atI ds i = some d) : ∃ v, atI vs i = some v ∧ Den g B d v := by
  unfold atI at e ⊢
  rw [h.length]
  cases q : ixN ds.length i with
  | none => rw [q] at e; cases e
  | some j => rw [q] at e; exact h.get e
theorem ix_rd (hK : X.K = g.K) (T : Tx) (B H : Hp) (σ : L2.St) (s : S) (x y : V) (dx dy d : D) (Q : VK) (R : Rel g T B H σ s) (h1 : DenW g B H dx x) (h2 : DenW g B H dy y) (e : dIx dx dy = some d)
    (q : ∀ v B' H', Rel g T B' H' σ s → Ex B B' → Den g B' d v → Q v H') : rIx X.K x y H Q := by
  rw [hK]
  cases dx with
  | tup ds =>
    cases dy with
    | int i =>
      cases h2
      obtain ⟨a, vs, rfl, k1, k2⟩ := h1
      obtain ⟨v, e1, hv⟩ := atI_dens k2 e
      exact .inr (.inl ⟨a, vs, i, v, rfl, rfl, Evl.ex_t R.bh k1, e1, q v B H R (Evl.Ex.refl _) hv⟩)
    | _ => cases e
  | lst ds =>
    cases dy with
    | int i =>
      cases h2
      obtain ⟨a, vs, rfl, k1, k2⟩ := h1
      obtain ⟨v, e1, hv⟩ := atI_dens k2 e
      exact .inl ⟨a, vs, i, v, rfl, rfl, .inl (.inl k1), e1, q v B H R (Evl.Ex.refl _) hv⟩
    | _ => cases e
  | arg ds =>
    cases dy with
    | int i =>
      cases h2
      obtain ⟨a, vs, rfl, k1, k2⟩ := h1
      obtain ⟨v, e1, hv⟩ := atI_dens k2 e
      exact .inl ⟨a, vs, i, v, rfl, rfl, Evl.ex_l R.bh k1, e1, q v B H R (Evl.Ex.refl _) hv⟩
    | _ => cases e
  | str x =>
    cases dy with
    | int i =>
      cases h1; cases h2
      have e' : (if x.length ≤ 100000 then (atI x.cps.toList i).map fun c => D.str ⟨#[c]⟩ else none) = some d := e
      by_cases c : x.length ≤ 100000
      · rw [if_pos c] at e'
        cases q1 : atI x.cps.toList i with
        | none => rw [q1] at e'; cases e'
        | some ch =>
          rw [q1] at e'; cases e'
          exact .inr (.inr ⟨x, i, ch, rfl, rfl, Evl.sz_of c, q1, q _ B H R (Evl.Ex.refl _) rfl⟩)
      · rw [if_neg c] at e'; cases e'
    | _ => cases e
  | _ => cases dy <;> cases e
theorem je_ix {fa fb : M Opd} (hK : X.K = g.K) (ha : JO X g T W a fa) (hb : JO X g T W b fb) (hs : PlainIx b) : JE X g T W (.Subscript a b pos) (mbin dIx fa fb) :=
  fun τ t => PE.imp (pe_ix ix_seq (ha τ t) (hb τ t) hs) fun σ H Q h => bin_rd (ix_rd hK) h
/-- the parts of a slice -/
def POpt : PP (Option Int) (Option Int) := fun _ _ o _ _ o' => o' = o
def JP (X : Cx) (g : G) (T : Tx) (W : WX) (e : Option Expr) (f : M (Option Int)) : Prop := ∀ τ t, L2.PO X e (RdM g (T.tmp τ t) W POpt f)
theorem PO.imp {X : Cx} {e : Option Expr} {t t' : TO} (h : L2.PO X e t) (hi : ∀ σ H Q, t' σ H Q → t σ H Q) : L2.PO X e t' := ⟨fun pins s σ H Q I q => h.run pins s σ H Q I (hi _ _ _ q)⟩
theorem jp_none : JP X g T W none (mret none) := fun τ t => PO.imp po_none fun σ H Q ⟨B, s, R, p⟩ => p none B H R (Evl.Ex.refl _) rfl
def intD : D → Option Int
  | .int i => some i
  | _ => none
def mpart (f : M D) : M (Option Int) := mbind f fun d => mbind (mopt (intD d)) fun i => mret (some i)
theorem jp_some {f : M D} (h : JE X g T W e f) : JP X g T W (some e) (mpart f) := fun τ t => PO.imp (po_some (h τ t)) fun σ H Q ⟨B, s, R, p⟩ => (PostM.bind (P := PD g) R p).mono fun v H1 ⟨d, B1, s1, R1, e1, q1, p1⟩ => by
  cases d with
  | int i => exact ⟨i, q1, p1 (some i) B1 H1 R1 (Evl.Ex.refl _) rfl⟩
  | _ => exact p1.elim
def cutD {α : Type} (xs : List α) (lo hi : Option Int) : List α := (xs.drop (HT.sIx xs.length 0 lo)).take (HT.sIx xs.length xs.length hi - HT.sIx xs.length 0 lo)
theorem cut_dens {ds : List D} {vs : List V} (h : Dens g B ds vs) (lo hi : Option Int) : Dens g B (cutD ds lo hi) (cutV vs lo hi) := by
  unfold cutD cutV
  rw [h.length]
  exact (h.drop _).take _
def dSl : D → Option Int → Option Int → Option Rv
  | .tup ds, lo, hi => some (.v (.tup (cutD ds lo hi)))
  | .lst ds, lo, hi => some (.l (cutD ds lo hi))
  | .arg ds, lo, hi => some (.l (cutD ds lo hi))
  | _, _, _ => none
def mslice (fa : M Opd) (fl fh : M (Option Int)) : M Rv := mbind fa fun o => mbind fl fun lo => mbind fh fun hi => mbind (res o) fun d => mopt (dSl d lo hi)
theorem cutV_whole {xs : List V} {lo hi : Option Int} (h : HT.sIx xs.length 0 lo = 0 ∧ HT.sIx xs.length xs.length hi = xs.length) : cutV xs lo hi = xs := by
  unfold cutV; rw [h.1, h.2]; simp
theorem jr_slice {fa : M Opd} {fl fh : M (Option Int)} {lo hi : Option Expr} {p2 : Pos} (hK : X.K = g.K) (ha : JO X g T W a fa) (hl : JP X g T W lo fl) (hh : JP X g T W hi fh) : JR X g T W (.Subscript a (.Slice lo hi none p2) pos) (mslice fa fl fh) :=
  fun τ t => PE.imp (pe_slice (SlR.or sl_list sl_tupA) (ha τ t) (hl τ t) (hh τ t)) fun σ H Q ⟨B, s, R, p⟩ => (PostM.bind (P := PO' g) R p).mono fun v H1 ⟨o, B1, s1, R1, e1, q1, p1⟩ =>
    (PostM.bind (P := POpt) R1 p1).mono fun l H2 ⟨lo', B2, s2, R2, e2, q2, p2⟩ => (PostM.bind (P := POpt) R2 p2).mono fun u H3 ⟨hi', B3, s3, R3, e3, q3, p3⟩ => by
      subst q2; subst q3
      rcases res_cases (o := o) (s := s3) with ⟨d, w⟩ | w
      · rw [mbind_ok w] at p3
        have hd := (res_ok R3 ((q1.mono e2).mono e3) w).2
        cases d with
        | tup ds =>
          obtain ⟨b, vs, rfl, k1, k2⟩ := hd
          have j1 := Evl.ex_t R3.bh k1
          rw [← hK] at j1
          refine .inr ⟨b, vs, rfl, j1, fun c => ?_, fun c p hp => ?_⟩
          · have hc := cut_dens k2 l u
            rw [cutV_whole c] at hc
            exact p3 _ B3 H3 R3 (Evl.Ex.refl _) ⟨b, vs, rfl, k1, hc⟩
          · obtain ⟨B', R', e', r⟩ := R3.newt hp (cut_dens k2 l u)
            exact p3 _ B' _ R' e' r
        | lst ds =>
          obtain ⟨b, vs, rfl, k1, k2⟩ := hd
          refine .inl ⟨b, vs, rfl, .inl (.inl k1), fun p hp => ?_⟩
          obtain ⟨R', r⟩ := R3.newl hp (cut_dens k2 l u)
          exact p3 _ B3 _ R' (Evl.Ex.refl _) r
        | arg ds =>
          obtain ⟨b, vs, rfl, k1, k2⟩ := hd
          have j1 := Evl.ex_l R3.bh k1
          rw [← hK] at j1
          refine .inl ⟨b, vs, rfl, j1, fun p hp => ?_⟩
          obtain ⟨R', r⟩ := R3.newl hp (cut_dens k2 l u)
          exact p3 _ B3 _ R' (Evl.Ex.refl _) r
        | _ => exact p3.elim
      · exfalso
        have z : mbind (res o) (fun d => mopt (dSl d l u)) s3 = .bad := by unfold mbind; rw [w]
        rw [z] at p3; exact p3
/-! ### built-ins by values -/
def ress : List Opd → M (List D)
  | [] => mret []
  | o :: r => mbind (res o) fun d => mbind (ress r) fun ds => mret (d :: ds)
def DensW (g : G) (B H : Hp) : List D → List V → Prop
  | [], vs => vs = []
  | d :: ds, vs => ∃ v r, vs = v :: r ∧ DenW g B H d v ∧ DensW g B H ds r
theorem ress_ok : ∀ {os : List Opd} {vs : List V} {ds : List D} {s' : S}, Rel g T B H σ s → PAs g σ s os B H vs → ress os s = .ok ds s' → s' = s ∧ DensW g B H ds vs
  | [], vs, ds, s', R, h, e => by
    cases e
    have : vs = [] := by have := h.1; cases vs; rfl; simp at this
    exact ⟨rfl, this⟩
  | o :: r, vs, ds, s', R, h, e => by
    cases vs with
    | nil => have := h.1; simp at this
    | cons v vs =>
      have h1 := h.2 0 o v rfl rfl
      have h2 : PAs g σ s r B H vs := ⟨by have := h.1; simpa using this, fun i o' v' a1 a2 => h.2 (i + 1) o' v' (by simpa using a1) (by simpa using a2)⟩
      unfold ress at e
      rcases res_cases (o := o) (s := s) with ⟨d, w⟩ | w
      · rw [mbind_ok w] at e
        cases er : ress r s with
        | ok ds' s2 =>
          rw [mbind_ok er] at e
          cases e
          obtain ⟨rfl, q⟩ := ress_ok R h2 er
          exact ⟨rfl, v, vs, rfl, (res_ok R h1 w).2, q⟩
        | ex c cs s2 => unfold mbind at e; rw [er] at e; cases e
        | bad => unfold mbind at e; rw [er] at e; cases e
      · unfold mbind at e; rw [w] at e; cases e
theorem ress_ex : ∀ {os : List Opd}, (∃ ds, ress os s = .ok ds s) ∨ ress os s = .bad
  | [] => .inl ⟨[], rfl⟩
  | o :: r => by
    unfold ress
    rcases res_cases (o := o) (s := s) with ⟨d, w⟩ | w
    · rw [mbind_ok w]
      rcases ress_ex (os := r) with ⟨ds, w2⟩ | w2
      · exact .inl ⟨_, by rw [mbind_ok w2]; rfl⟩
      · exact .inr (by unfold mbind; rw [w2])
    · exact .inr (by unfold mbind; rw [w])
def CbD (X : Cx) (g : G) (f : Value) (h : List D → Option Rv) : Prop :=
  ∃ r, CallR X f r ∧ ∀ (T : Tx) (B H : Hp) (σ : L2.St) (s : S) (vs : List V) (ds : List D) (d : Rv) (Q : VK), Rel g T B H σ s → DensW g B H ds vs → h ds = some d →
    (∀ v B' H', Rel g T B' H' σ s → Ex B B' → RvOk g T σ s d B' H' v → Q v H') → r vs H Q
def mcb (h : List D → Option Rv) (fa : M (List Opd)) : M Rv := mbind fa fun os => mbind (ress os) fun ds => mopt (h ds)
theorem jr_cb {f : Value} {h : List D → Option Rv} {fa : M (List Opd)} (ho : CbD X g f h) (hpe : ∀ r ta, CallR X f r → PA X es ta → PE X e (tCB r ta)) (ha : JA X g T W es fa) : JR X g T W e (mcb h fa) := by
  obtain ⟨r, h1, hr⟩ := ho
  exact fun τ t => PE.imp (hpe r _ h1 (ha τ t)) fun σ H Q ⟨B, s, R, p⟩ => (PostM.bind (P := PAs g) R p).mono fun vs H1 ⟨os, B1, s1, R1, e1, q1, p1⟩ => by
    rcases ress_ex (s := s1) (os := os) with ⟨ds, w⟩ | w
    · rw [mbind_ok w] at p1
      cases ef : h ds with
      | none => rw [ef] at p1; exact p1.elim
      | some d => rw [ef] at p1; exact hr _ B1 H1 σ s1 vs ds d Q R1 (ress_ok R1 q1 w).2 ef fun v B' H' R' e' hd => p1 v B' H' R' e' hd
    · exfalso
      have z : mbind (ress os) (fun ds => mopt (h ds)) s1 = .bad := by unfold mbind; rw [w]
      rw [z] at p1; exact p1
theorem cb1 {f : Value} {h : D → Option Rv} {r : List V → Hp → VK → Prop} (hr : CallR X f r) (hq : ∀ (T : Tx) (B H : Hp) (σ : L2.St) (s : S) (v : V) (d : D) (o : Rv) (Q : VK), Rel g T B H σ s → DenW g B H d v → h d = some o →
    (∀ v B' H', Rel g T B' H' σ s → Ex B B' → RvOk g T σ s o B' H' v → Q v H') → r [v] H Q) : CbD X g f (fun ds => match ds with | [d] => h d | _ => none) :=
  ⟨r, hr, fun T B H σ s vs ds o Q R hd e q => by
    cases ds with
    | nil => cases e
    | cons d ds =>
      cases ds with
      | nil => obtain ⟨v, w, rfl, h1, h2⟩ := hd; cases h2; exact hq T B H σ s v d o Q R h1 e q
      | cons d' ds => cases e⟩
def lenD : D → Option Rv
  | .tup ds => some (.v (.int ds.length))
  | .lst ds => some (.v (.int ds.length))
  | .arg ds => some (.v (.int ds.length))
  | .str x => if x.length ≤ 100000 then some (.v (.int x.length)) else none
  | _ => none
abbrev on1 (h : D → Option Rv) : List D → Option Rv := fun ds => match ds with
  | [d] => h d
  | _ => none
theorem o_len (hK : X.K = g.K) : CbD X g (.builtin "len") (on1 lenD) := cb1 call_len fun T B H σ s v d o Q R h e q => by
  cases d with
  | tup ds => obtain ⟨a, vs, rfl, k1, k2⟩ := h; cases e; exact ⟨_, vs.length, rfl, .inr ⟨vs, by rw [hK]; exact Evl.ex_t R.bh k1, rfl⟩, q _ B H R (Evl.Ex.refl _) (by rw [k2.length]; rfl)⟩
  | lst ds => obtain ⟨a, vs, rfl, k1, k2⟩ := h; cases e; exact ⟨_, vs.length, rfl, .inl ⟨vs, .inl (.inl k1), rfl⟩, q _ B H R (Evl.Ex.refl _) (by rw [k2.length]; rfl)⟩
  | arg ds => obtain ⟨a, vs, rfl, k1, k2⟩ := h; cases e; exact ⟨_, vs.length, rfl, .inl ⟨vs, by rw [hK]; exact Evl.ex_l R.bh k1, rfl⟩, q _ B H R (Evl.Ex.refl _) (by rw [k2.length]; rfl)⟩
  | str x =>
    cases h
    have e' : (if x.length ≤ 100000 then some (Rv.v (.int x.length)) else none) = some o := e
    by_cases c : x.length ≤ 100000
    · rw [if_pos c] at e'; cases e'
      exact ⟨_, x.length, rfl, ⟨Evl.sz_of c, rfl⟩, q _ B H R (Evl.Ex.refl _) rfl⟩
    · rw [if_neg c] at e'; cases e'
  | _ => cases e
def absD : D → Option Rv
  | .int i => some (.v (.int (if i < 0 then -i else i)))
  | _ => none
theorem o_abs : CbD X g (.builtin "abs") (on1 absD) := cb1 call_abs fun T B H σ s v d o Q R h e q => by
  cases d with
  | int i => cases h; cases e; exact ⟨i, rfl, q _ B H R (Evl.Ex.refl _) rfl⟩
  | _ => cases e
def intOf : D → Option Rv
  | .int i => some (.v (.int i))
  | .bl b => some (.v (.int (if b then 1 else 0)))
  | _ => none
theorem o_int : CbD X g (.type "int") (on1 intOf) := cb1 call_int1 fun T B H σ s v d o Q R h e q => by
  cases d with
  | int i => cases h; cases e; exact .inl ⟨i, rfl, q _ B H R (Evl.Ex.refl _) rfl⟩
  | bl b => cases h; cases e; exact .inr ⟨b, rfl, q _ B H R (Evl.Ex.refl _) rfl⟩
  | _ => cases e
def listOf : D → Option Rv
  | .tup ds => some (.l ds)
  | .lst ds => some (.l ds)
  | .arg ds => some (.l ds)
  | _ => none
theorem o_list (hK : X.K = g.K) : CbD X g (.type "list") (on1 listOf) := cb1 call_list_of fun T B H σ s v d o Q R h e q => by
  cases d with
  | tup ds => obtain ⟨a, vs, rfl, k1, k2⟩ := h; cases e; exact ⟨a, vs, rfl, .inr (by rw [hK]; exact Evl.ex_t R.bh k1), fun p hp => q _ B _ (R.newl hp k2).1 (Evl.Ex.refl _) (R.newl hp k2).2⟩
  | lst ds => obtain ⟨a, vs, rfl, k1, k2⟩ := h; cases e; exact ⟨a, vs, rfl, .inl (.inl (.inl k1)), fun p hp => q _ B _ (R.newl hp k2).1 (Evl.Ex.refl _) (R.newl hp k2).2⟩
  | arg ds => obtain ⟨a, vs, rfl, k1, k2⟩ := h; cases e; exact ⟨a, vs, rfl, .inl (by rw [hK]; exact Evl.ex_l R.bh k1), fun p hp => q _ B _ (R.newl hp k2).1 (Evl.Ex.refl _) (R.newl hp k2).2⟩
  | _ => cases e
def tupOf : D → Option Rv
  | .tup ds => some (.v (.tup ds))
  | .lst ds => some (.v (.tup ds))
  | .arg ds => some (.v (.tup ds))
  | _ => none
theorem o_tuple (hK : X.K = g.K) : CbD X g (.type "tuple") (on1 tupOf) := cb1 call_tuple_of fun T B H σ s v d o Q R h e q => by
  cases d with
  | tup ds => obtain ⟨a, vs, rfl, k1, k2⟩ := h; cases e; exact ⟨a, vs, rfl, .inr ⟨by rw [hK]; exact Evl.ex_t R.bh k1, q _ B H R (Evl.Ex.refl _) ⟨a, vs, rfl, k1, k2⟩⟩⟩
  | lst ds => obtain ⟨a, vs, rfl, k1, k2⟩ := h; cases e; exact ⟨a, vs, rfl, .inl ⟨.inl (.inl k1), fun p hp => by obtain ⟨B', R', e', r⟩ := R.newt hp k2; exact q _ B' _ R' e' r⟩⟩
  | arg ds => obtain ⟨a, vs, rfl, k1, k2⟩ := h; cases e; exact ⟨a, vs, rfl, .inl ⟨by rw [hK]; exact Evl.ex_l R.bh k1, fun p hp => by obtain ⟨B', R', e', r⟩ := R.newt hp k2; exact q _ B' _ R' e' r⟩⟩
  | _ => cases e
/-- lists of ints, of bools -/
def intsD : List D → Option (List Int)
  | [] => some []
  | .int i :: r => (intsD r).map (i :: ·)
  | _ => none
def blsD : List D → Option (List Bool)
  | [] => some []
  | .bl b :: r => (blsD r).map (b :: ·)
  | _ => none
theorem ints_den : ∀ {ds : List D} {vs : List V} {ns : List Int}, Dens g B ds vs → intsD ds = some ns → vs = ns.map V.int
  | [], vs, ns, h, e => by cases h; cases e; rfl
  | .int i :: r, vs, ns, ⟨v, w, e1, h1, h2⟩, e => by
    subst e1; cases h1
    have e' : (intsD r).map (i :: ·) = some ns := e
    cases q : intsD r with
    | none => rw [q] at e'; cases e'
    | some ms => rw [q] at e'; cases e'; rw [ints_den h2 q]; rfl
  | .non :: _, _, _, _, e => by cases e
  | .bl _ :: _, _, _, _, e => by cases e
  | .str _ :: _, _, _, _, e => by cases e
  | .tup _ :: _, _, _, _, e => by cases e
  | .lst _ :: _, _, _, _, e => by cases e
  | .arg _ :: _, _, _, _, e => by cases e
  | .obj _ _ :: _, _, _, _, e => by cases e
  | .exc _ _ _ _ :: _, _, _, _, e => by cases e
  | .dct :: _, _, _, _, e => by cases e
  | .err _ _ :: _, _, _, _, e => by cases e
  | .opq _ :: _, _, _, _, e => by cases e
theorem bls_den : ∀ {ds : List D} {vs : List V} {ns : List Bool}, Dens g B ds vs → blsD ds = some ns → vs = ns.map V.bl
  | [], vs, ns, h, e => by cases h; cases e; rfl
  | .bl i :: r, vs, ns, ⟨v, w, e1, h1, h2⟩, e => by
    subst e1; cases h1
    have e' : (blsD r).map (i :: ·) = some ns := e
    cases q : blsD r with
    | none => rw [q] at e'; cases e'
    | some ms => rw [q] at e'; cases e'; rw [bls_den h2 q]; rfl
  | .non :: _, _, _, _, e => by cases e
  | .int _ :: _, _, _, _, e => by cases e
  | .str _ :: _, _, _, _, e => by cases e
  | .tup _ :: _, _, _, _, e => by cases e
  | .lst _ :: _, _, _, _, e => by cases e
  | .arg _ :: _, _, _, _, e => by cases e
  | .obj _ _ :: _, _, _, _, e => by cases e
  | .exc _ _ _ _ :: _, _, _, _, e => by cases e
  | .dct :: _, _, _, _, e => by cases e
  | .err _ _ :: _, _, _, _, e => by cases e
  | .opq _ :: _, _, _, _, e => by cases e
def onInts (h : List Int → Option Int) : D → Option Rv
  | .lst ds => (intsD ds).bind fun ns => (h ns).map fun i => .v (.int i)
  | _ => none
def onBls (h : List Bool → Bool) : D → Option Rv
  | .lst ds => (blsD ds).map fun ns => .v (.bl (h ns))
  | _ => none
theorem onInts_some {h : List Int → Option Int} {d : D} {o : Rv} (e : onInts h d = some o) : ∃ ds ns i, d = .lst ds ∧ intsD ds = some ns ∧ h ns = some i ∧ o = .v (.int i) := by
  cases d with
  | lst ds =>
    have e' : ((intsD ds).bind fun ns => (h ns).map fun i => Rv.v (.int i)) = some o := e
    cases q : intsD ds with
    | none => rw [q] at e'; cases e'
    | some ns =>
      rw [q] at e'
      cases q2 : h ns with
      | none => simp [q2] at e'
      | some i => simp [q2] at e'; exact ⟨ds, ns, i, rfl, q, q2, e'.symm⟩
  | _ => cases e
abbrev sumD := onInts fun ns => some ns.sum
def maxL (ns : List Int) : Option Int := ns.max?
def minL (ns : List Int) : Option Int := ns.min?
theorem o_sum (hc : X.calm = true) : CbD X g (.builtin "sum") (on1 sumD) := cb1 (cr_sum hc) fun T B H σ s v d o Q R h e q => by
  obtain ⟨ds, ns, i, rfl, e1, e2, rfl⟩ := onInts_some e
  obtain ⟨a, vs, rfl, k1, k2⟩ := h
  cases e2
  have := ints_den k2 e1
  subst this
  exact ⟨a, ns, rfl, .inl (.inl k1), q _ B H R (Evl.Ex.refl _) rfl⟩
theorem max_is {ns : List Int} {i m : Int} (h : ns.max? = some i) (h1 : m ∈ ns) (h2 : ∀ y, y ∈ ns → y ≤ m) : m = i := by
  obtain ⟨a1, a2⟩ := List.max?_eq_some_iff.mp h
  have := a2 m h1
  have := h2 i a1
  omega
theorem min_is {ns : List Int} {i m : Int} (h : ns.min? = some i) (h1 : m ∈ ns) (h2 : ∀ y, y ∈ ns → m ≤ y) : m = i := by
  obtain ⟨a1, a2⟩ := List.min?_eq_some_iff.mp h
  have := a2 m h1
  have := h2 i a1
  omega
theorem o_max1 (hc : X.calm = true) : CbD X g (.builtin "max") (on1 (onInts maxL)) := cb1 (cr_max hc) fun T B H σ s v d o Q R h e q => by
  obtain ⟨ds, ns, i, rfl, e1, e2, rfl⟩ := onInts_some e
  obtain ⟨a, vs, rfl, k1, k2⟩ := h
  have := ints_den k2 e1
  subst this
  refine ⟨a, ns, rfl, .inl (.inl k1), ?_, fun m h1 h2 => ?_⟩
  · cases ns with
    | nil => cases e2
    | cons x r => simp
  · have := max_is e2 h1 h2
    subst this
    exact q _ B H R (Evl.Ex.refl _) rfl
theorem o_min1 (hc : X.calm = true) : CbD X g (.builtin "min") (on1 (onInts minL)) := cb1 (cr_min hc) fun T B H σ s v d o Q R h e q => by
  obtain ⟨ds, ns, i, rfl, e1, e2, rfl⟩ := onInts_some e
  obtain ⟨a, vs, rfl, k1, k2⟩ := h
  have := ints_den k2 e1
  subst this
  refine ⟨a, ns, rfl, .inl (.inl k1), ?_, fun m h1 h2 => ?_⟩
  · cases ns with
    | nil => cases e2
    | cons x r => simp
  · have := min_is e2 h1 h2
    subst this
    exact q _ B H R (Evl.Ex.refl _) rfl
theorem o_all (hc : X.calm = true) : CbD X g (.builtin "all") (on1 (onBls fun bs => bs.all id)) := cb1 (cr_all hc) fun T B H σ s v d o Q R h e q => by
  cases d with
  | lst ds =>
    have e' : ((blsD ds).map fun ns => Rv.v (.bl (ns.all id))) = some o := e
    cases q1 : blsD ds with
    | none => rw [q1] at e'; cases e'
    | some bs =>
      rw [q1] at e'; cases e'
      obtain ⟨a, vs, rfl, k1, k2⟩ := h
      have := bls_den k2 q1
      subst this
      exact ⟨a, bs, rfl, .inl (.inl k1), q _ B H R (Evl.Ex.refl _) rfl⟩
  | _ => cases e
theorem o_any (hc : X.calm = true) : CbD X g (.builtin "any") (on1 (onBls fun bs => bs.any id)) := cb1 (cr_any hc) fun T B H σ s v d o Q R h e q => by
  cases d with
  | lst ds =>
    have e' : ((blsD ds).map fun ns => Rv.v (.bl (ns.any id))) = some o := e
    cases q1 : blsD ds with
    | none => rw [q1] at e'; cases e'
    | some bs =>
      rw [q1] at e'; cases e'
      obtain ⟨a, vs, rfl, k1, k2⟩ := h
      have := bls_den k2 q1
      subst this
      exact ⟨a, bs, rfl, .inl (.inl k1), q _ B H R (Evl.Ex.refl _) rfl⟩
  | _ => cases e
/-- two ints -/
def on2 (h : Int → Int → Int) : List D → Option Rv
  | [.int i, .int j] => some (.v (.int (h i j)))
  | _ => none
theorem on2_some {h : Int → Int → Int} {ds : List D} {vs : List V} {o : Rv} (e : on2 h ds = some o) (hd : DensW g B H ds vs) : ∃ i j, vs = [.int i, .int j] ∧ o = .v (.int (h i j)) := by
  unfold on2 at e
  split at e
  · cases e
    rename_i i j
    obtain ⟨v, r, rfl, h1, v', r', rfl, h2, h3⟩ := hd
    cases h1; cases h2; cases h3
    exact ⟨i, j, rfl, rfl⟩
  · cases e
theorem o_max2 (hc : X.calm = true) : CbD X g (.builtin "max") (on2 fun i j => if j > i then j else i) := ⟨_, call_max2 hc, fun T B H σ s vs ds o Q R hd e q => by
  obtain ⟨i, j, rfl, rfl⟩ := on2_some e hd
  exact ⟨i, j, rfl, q _ B H R (Evl.Ex.refl _) rfl⟩⟩
theorem o_min2 (hc : X.calm = true) : CbD X g (.builtin "min") (on2 fun i j => if j < i then j else i) := ⟨_, call_min2 hc, fun T B H σ s vs ds o Q R hd e q => by
  obtain ⟨i, j, rfl, rfl⟩ := on2_some e hd
  exact ⟨i, j, rfl, q _ B H R (Evl.Ex.refl _) rfl⟩⟩
end TW

set_option Elab.async false
set_option linter.all false
set_option autoImplicit false
set_option maxRecDepth 100000
set_option maxHeartbeats 1000000
namespace TW
open PySem PySem.Spec PyProof.Rows L2
variable {g : G} {T : Tx} {B B' H H' : Hp} {σ : L2.St} {s : S} {W : WX} {α β γ δ : Type} {P : PP α β}
variable {X : Cx} {e a b c tg iter : Expr} {es : List Expr} {pos : Pos}

/-! ## targets -/
/-- what a target leaves: all (none), or all slots but these -/
def Lvs : Option (List Nat) → L2.St → L2.St → Prop
  | none, _, _ => True
  | some vs, σ, σ' => wipe σ' vs = wipe σ vs
theorem Lvs.refl {o : Option (List Nat)} : Lvs o σ σ := by cases o; trivial; rfl
theorem Lvs.trans {o : Option (List Nat)} {σ1 σ2 : L2.St} (h : Lvs o σ σ1) (h' : Lvs o σ1 σ2) : Lvs o σ σ2 := by
  cases o with
  | none => trivial
  | some vs => exact Eq.trans (show wipe σ2 vs = wipe σ1 vs from h') h
theorem wipe_get {σ : L2.St} : ∀ {vs : List Nat} {i : Nat}, (wipe σ vs)[i]? = if i ∈ vs then (σ[i]?).map fun _ => none else σ[i]?
  | [], i => by simp [wipe]
  | v :: vs, i => by
    unfold wipe
    rw [List.getElem?_set, wipe_length, wipe_get]
    by_cases h : v = i
    · subst h
      by_cases hv : v < σ.length <;> simp [hv]
    · by_cases h2 : i ∈ vs
      · simp [h, h2]
      · simp [h, h2, Ne.symm h]
theorem Lvs.set {o : Option (List Nat)} {i : Nat} {x : Option V} (h : ∀ vs, o = some vs → i ∈ vs) : Lvs o σ (σ.set i x) := by
  cases o with
  | none => trivial
  | some vs =>
    have hi := h vs rfl
    show wipe (σ.set i x) vs = wipe σ vs
    apply List.ext_getElem?
    intro j
    rw [wipe_get, wipe_get]
    by_cases hj : j ∈ vs
    · rw [if_pos hj, if_pos hj, List.getElem?_set]
      by_cases e : i = j
      · subst e
        by_cases hl : i < σ.length <;> simp [hl]
      · simp [e]
    · rw [if_neg hj, if_neg hj, List.getElem?_set_ne (fun (e : i = j) => hj (by rw [← e]; exact hi))]
def PostG (g : G) (T : Tx) (o : Option (List Nat)) (σ : L2.St) (B : Hp) : Option S → (L2.St → Hp → Prop) → Prop
  | some s', Q => ∀ σ' B' H', Rel g T B' H' σ' s' → Ex B B' → Lvs o σ σ' → Q σ' H'
  | none, _ => False
def RdG (g : G) (T : Tx) (o : Option (List Nat)) (tm : D → S → Option S) : TG := fun v σ H Q => ∃ B s d, Rel g T B H σ s ∧ Den g B d v ∧ PostG g T o σ B (tm d s) Q
def RdGs (g : G) (T : Tx) (o : Option (List Nat)) (tm : List D → S → Option S) : TGs := fun vs σ H Q => ∃ B s ds, Rel g T B H σ s ∧ Dens g B ds vs ∧ PostG g T o σ B (tm ds s) Q
def JG (X : Cx) (g : G) (T : Tx) (o : Option (List Nat)) (tg : Expr) (tm : D → S → Option S) : Prop := ∀ τ t, PG X tg (RdG g (T.tmp τ t) o tm)
def JGs (X : Cx) (g : G) (T : Tx) (o : Option (List Nat)) (tgs : List Expr) (tm : List D → S → Option S) : Prop := ∀ τ t, PGs X tgs (RdGs g (T.tmp τ t) o tm)
variable {o : Option (List Nat)}
theorem PG.imp {tg : Expr} {t t' : TG} (h : PG X tg t) (hi : ∀ v σ H Q, t' v σ H Q → t v σ H Q) : PG X tg t' := ⟨fun pins s σ H v u Q I r q => h.run pins s σ H v u Q I r (hi _ _ _ _ q)⟩
theorem PGs.imp {tg : List Expr} {t t' : TGs} (h : PGs X tg t) (hi : ∀ v σ H Q, t' v σ H Q → t v σ H Q) : PGs X tg t' := ⟨fun pins s σ H v u Q I r q => h.run pins s σ H v u Q I r (hi _ _ _ _ q)⟩
theorem PG.or {tg : Expr} {t t' : TG} (h : PG X tg t) (h' : PG X tg t') : PG X tg (fun v σ H Q => t v σ H Q ∨ t' v σ H Q) := ⟨fun pins s σ H v u Q I r q => by
  rcases q with q | q
  · exact h.run pins s σ H v u Q I r q
  · exact h'.run pins s σ H v u Q I r q⟩
theorem PostG.base {r : Option S} {Q : L2.St → Hp → Prop} {σ1 : L2.St} (e : Ex B B') (l : Lvs o σ σ1) (h : PostG g T o σ B r Q) : PostG g T o σ1 B' r Q := by
  cases r with
  | none => exact h
  | some s' => exact fun σ' B1 H1 R1 e1 l1 => h σ' B1 H1 R1 (e.trans e1) (l.trans l1)
def tgName (i : Nat) : D → S → Option S := fun d s => if i < s.length then some (s.set i (.v d)) else none
theorem jg_name {i : Nat} (hpg : PG X tg (gName i)) (hio : T.io i = none) (ho : ∀ vs, o = some vs → i ∈ vs) : JG X g T o tg (tgName i) := fun τ t => PG.imp hpg fun v σ H Q ⟨B, s, d, R, hd, p⟩ => by
  unfold tgName at p
  by_cases hi : i < s.length
  · rw [if_pos hi] at p; exact p _ B H (R.storev hi hio hd) (Evl.Ex.refl _) (Lvs.set ho)
  · rw [if_neg hi] at p; exact p.elim
def tgNil : List D → S → Option S := fun ds s => match ds with
  | [] => some s
  | _ => none
def tgCons (f : D → S → Option S) (r : List D → S → Option S) : List D → S → Option S := fun ds s => match ds with
  | d :: ds => (f d s).bind fun s' => r ds s'
  | [] => none
theorem jgs_nil : JGs X g T o [] tgNil := fun τ t => PGs.imp pgs_nil fun vs σ H Q ⟨B, s, ds, R, hd, p⟩ => by
  cases ds with
  | nil => cases hd; exact ⟨rfl, p σ B H R (Evl.Ex.refl _) Lvs.refl⟩
  | cons d ds => exact p.elim
theorem jgs_cons {f : D → S → Option S} {r : List D → S → Option S} (h1 : JG X g T o e f) (h2 : JGs X g T o es r) (hs : (assignEach (e :: es) X.env).map (·.2) = assign e X.env :: (assignEach es X.env).map (·.2) := by rfl) : JGs X g T o (e :: es) (tgCons f r) :=
  fun τ t => PGs.imp (pgs_cons (h1 τ t) (h2 τ t) hs) fun vs σ H Q ⟨B, s, ds, R, hd, p⟩ => by
    cases ds with
    | nil => exact p.elim
    | cons d ds =>
      obtain ⟨v, w, rfl, q1, q2⟩ := hd
      refine ⟨v, w, rfl, B, s, d, R, q1, ?_⟩
      have p' : PostG g (T.tmp τ t) o σ B ((f d s).bind fun s' => r ds s') Q := p
      cases ef : f d s with
      | none => rw [ef] at p'; exact p'.elim
      | some s' =>
        rw [ef] at p'
        exact fun σ' B' H' R' e' l' => ⟨B', s', ds, R', q2.mono e', PostG.base e' l' p'⟩
def tgTup (n : Nat) (r : List D → S → Option S) : D → S → Option S := fun d s => match itemsD d with
  | some ds => if ds.length = n then r ds s else none
  | none => none
theorem jg_tup {n k : Nat} {r : List D → S → Option S} (hK : X.K = g.K) (hc : X.calm = true) (h : JGs X g T o es r) (hn : (assignEach es X.env).length = n := by rfl) (hst : (assignEach es X.env).findIdx? (·.1) = none := by rfl) : JG X g T o (.Tuple es k pos) (tgTup n r) :=
  fun τ t => PG.imp (PG.or (pg_tup (n := n) hc (h τ t) hn hst) (pg_lst (n := n) hc (h τ t) hn hst)) fun v σ H Q ⟨B, s, d, R, hd, p⟩ => by
    unfold tgTup at p
    cases ei : itemsD d with
    | none => rw [ei] at p; exact p.elim
    | some ds =>
      rw [ei] at p
      dsimp only at p
      by_cases hl : ds.length = n
      · rw [if_pos hl] at p
        cases d with
        | tup ds' => cases ei; obtain ⟨a, vs, rfl, k1, k2⟩ := hd; exact .inl ⟨a, vs, rfl, by rw [hK]; exact Evl.ex_t R.bh k1, by rw [k2.length, hl], B, s, ds, R, k2, p⟩
        | lst ds' => cases ei; obtain ⟨a, vs, rfl, k1, k2⟩ := hd; exact .inr ⟨a, vs, rfl, .inl (.inl (R.bh _ _ k1)), by rw [k2.length, hl], B, s, ds, R, k2, p⟩
        | arg ds' => cases ei; obtain ⟨a, vs, rfl, k1, k2⟩ := hd; exact .inr ⟨a, vs, rfl, by rw [hK]; exact Evl.ex_l R.bh k1, by rw [k2.length, hl], B, s, ds, R, k2, p⟩
        | _ => cases ei
      · rw [if_neg hl] at p; exact p.elim
/-- target = value, the value data -/
def masg (f : M D) (tm : D → S → Option S) : MS := ms f fun d s => match tm d s with
  | some s' => .nx s'
  | none => .bad
theorem js_asg {st : Stmt} {f : M D} {tm : D → S → Option S} (hps : ∀ te gt, PE X e te → PG X tg gt → PS X st (tAsg te gt)) (he : JE X g T W e f) (hg : JG X g T none tg tm) : JS X g T W st (masg f tm) :=
  PS.imp (hps _ _ (he T.τ T.t) (hg T.τ T.t)) fun D σ H ⟨B, s, R, p⟩ => (PostS.bind (P := PD g) R p).mono fun v H1 ⟨d, B1, s1, R1, e1, q, p1⟩ => by
    refine ⟨B1, s1, d, R1, q, ?_⟩
    cases et : tm d s1 with
    | none => rw [et] at p1; exact p1.elim
    | some s' => rw [et] at p1; exact fun σ' B' H' R' e' _ => p1 σ' B' H' R' e'

/-! ## what is walked -/
structure Wk (g : G) (B : Hp) (J : It) (ds : List D) : Prop where
  go : ∀ (B' H' : Hp) (i : Nat), Ex B B' → Ex B' H' → i < ds.length → J.go i H'
  stop : ∀ (B' H' : Hp), Ex B B' → Ex B' H' → J.stop ds.length H'
  yld : ∀ (B' H' : Hp) (i : Nat) (d : D) (x : V) (H2 : Hp), Ex B B' → Ex B' H' → ds[i]? = some d → J.yld i H' x H2 →
    (H2 = H' ∧ Den g B' d x) ∨ ∃ p o, H' p = none ∧ H2 = upd H' p o ∧ Den g (upd B' p o) d x
abbrev PI' (g : G) : PP (List D) It := fun _ _ ds B _ J => Wk g B J ds
def JI (X : Cx) (g : G) (T : Tx) (W : WX) (tg iter : Expr) (f : M (List D)) : Prop := ∀ τ t, PI X tg iter (RdM g (T.tmp τ t) W (PI' g) f)
theorem PI.imp {t t' : TI} (h : PI X tg iter t) (hi : ∀ σ H R, t' σ H R → t σ H R) : PI X tg iter t' := ⟨fun pins s σ H R I q => h.run pins s σ H R I (hi _ _ _ q)⟩
theorem Wk.list {K : PySem.W.Frag} (hK : K = g.K) {a : Addr} {vs : List V} {ds : List D} (h : SqL K B a vs) (hd : Dens g B ds vs) : Wk g B (Itl K a) ds where
  go := fun B' H' i e e' hi => ⟨vs, vs[i]'(by rw [hd.length]; exact hi), Evl.ex_l (e.trans e') h, by simp [hd.length, hi]⟩
  stop := fun B' H' e e' => ⟨vs, Evl.ex_l (e.trans e') h, by rw [hd.length]; exact Nat.le_refl _⟩
  yld := fun B' H' i d x H2 e e' hi hy => by
    obtain ⟨rfl, hy⟩ := hy
    obtain ⟨v, hv, q⟩ := hd.get hi
    have := hy vs (Evl.ex_l (e.trans e') h)
    rw [hv] at this; cases this
    exact .inl ⟨rfl, q.mono e⟩
theorem Wk.tup {K : PySem.W.Frag} (hK : K = g.K) {a : Addr} {vs : List V} {ds : List D} (h : SqT K B a vs) (hd : Dens g B ds vs) : Wk g B (Itt K a) ds where
  go := fun B' H' i e e' hi => ⟨vs, vs[i]'(by rw [hd.length]; exact hi), Evl.ex_t (e.trans e') h, by simp [hd.length, hi]⟩
  stop := fun B' H' e e' => ⟨vs, Evl.ex_t (e.trans e') h, by rw [hd.length]; exact Nat.le_refl _⟩
  yld := fun B' H' i d x H2 e e' hi hy => by
    obtain ⟨rfl, hy⟩ := hy
    obtain ⟨v, hv, q⟩ := hd.get hi
    have := hy vs (Evl.ex_t (e.trans e') h)
    rw [hv] at this; cases this
    exact .inl ⟨rfl, q.mono e⟩
theorem PI.or {t t' : TI} (h : PI X tg iter t) (h' : PI X tg iter t') : PI X tg iter (fun σ H R => t σ H R ∨ t' σ H R) := ⟨fun pins s σ H R I q => by
  rcases q with q | q
  · exact h.run pins s σ H R I q
  · exact h'.run pins s σ H R I q⟩
def strItems (x : Str) : List D := x.cps.toList.map fun c => .str ⟨#[c]⟩
def walkD : D → Option (List D)
  | .str x => some (strItems x)
  | d => itemsD d
def mwalk (f : M D) : M (List D) := mbind f fun d => mopt (walkD d)
theorem ji_seq {f : M D} (hK : X.K = g.K) (he : JE X g T W iter f) : JI X g T W tg iter (mwalk f) := fun τ t =>
  PI.imp (PI.or (pi_list (he τ t)) (PI.or (pi_tup (he τ t)) (pi_str (he τ t)))) fun σ H R ⟨B, s, Rl, p⟩ => by
    unfold mwalk at p
    cases ef : f s with
    | bad => unfold mbind at p; rw [ef] at p; exact p.elim
    | ex c ds s' => unfold mbind at p; rw [ef] at p; exact .inl ⟨B, s, Rl, by rw [ef]; exact p⟩
    | ok d s' =>
      rw [mbind_ok ef] at p
      cases d with
      | str x =>
        refine .inr (.inr ⟨B, s, Rl, ?_⟩)
        rw [ef]
        intro v B' H' R' e' hd
        cases hd
        refine ⟨x, rfl, p _ B' H' R' e' ⟨fun B2 H2 i _ _ hi => by show i < x.cps.size; simpa [strItems] using hi, fun B2 H2 _ _ => by show x.cps.size ≤ _; simp [strItems], fun B2 H2 i d v H3 _ _ hi hy => ?_⟩⟩
        obtain ⟨rfl, c, hc, rfl⟩ := hy
        refine .inl ⟨rfl, ?_⟩
        have : d = .str ⟨#[c]⟩ := by
          unfold strItems at hi
          rw [List.getElem?_map] at hi
          have h2 : x.cps.toList[i]? = some c := by simpa using hc
          rw [h2] at hi
          exact (Option.some.inj hi).symm
        subst this; rfl
      | tup ds =>
        refine .inr (.inl ⟨B, s, Rl, ?_⟩)
        rw [ef]
        intro v B' H' R' e' hd
        obtain ⟨a, vs, rfl, k1, k2⟩ := hd
        rw [← hK] at k1
        exact ⟨a, rfl, ⟨vs, Evl.ex_t R'.bh k1⟩, p _ B' H' R' e' (Wk.tup hK k1 k2)⟩
      | lst ds =>
        refine .inl ⟨B, s, Rl, ?_⟩
        rw [ef]
        intro v B' H' R' e' hd
        obtain ⟨a, vs, rfl, k1, k2⟩ := hd
        exact ⟨a, rfl, ⟨vs, .inl (.inl (R'.bh _ _ k1))⟩, p _ B' H' R' e' (Wk.list hK (.inl (.inl k1)) k2)⟩
      | arg ds =>
        refine .inl ⟨B, s, Rl, ?_⟩
        rw [ef]
        intro v B' H' R' e' hd
        obtain ⟨a, vs, rfl, k1, k2⟩ := hd
        rw [← hK] at k1
        exact ⟨a, rfl, ⟨vs, Evl.ex_l R'.bh k1⟩, p _ B' H' R' e' (Wk.list hK k1 k2)⟩
      | _ => exact p.elim
/-- range -/
def rangeD (lo : Int) (n : Nat) : List D := (List.range n).map fun i => .int (lo + (i : Nat))
theorem Wk.range {lo : Int} {n : Nat} : Wk g B (Itr lo n) (rangeD lo n) where
  go := fun B' H' i _ _ hi => by show i < n; simpa [rangeD] using hi
  stop := fun B' H' _ _ => by show n ≤ _; simp [rangeD]
  yld := fun B' H' i d x H2 _ _ hi hy => by
    obtain ⟨rfl, rfl⟩ := hy
    refine .inl ⟨rfl, ?_⟩
    unfold rangeD at hi
    rw [List.getElem?_map] at hi
    cases q : (List.range n)[i]? with
    | none => rw [q] at hi; cases hi
    | some j =>
      rw [q] at hi; cases hi
      have : j = i := by
        obtain ⟨h1, h2⟩ := List.getElem?_eq_some_iff.mp q
        simp at h2; exact h2.symm
      subst this; rfl
def rangeC (lo c : Int) (n : Nat) : List D := (List.range n).map fun i => .int (lo + (i : Nat) * c)
theorem Wk.rangeC {lo c : Int} {n : Nat} : Wk g B (Itc lo c n) (rangeC lo c n) where
  go := fun B' H' i _ _ hi => by show i < n; simpa [TW.rangeC] using hi
  stop := fun B' H' _ _ => by show n ≤ _; simp [TW.rangeC]
  yld := fun B' H' i d x H2 _ _ hi hy => by
    obtain ⟨rfl, rfl⟩ := hy
    refine .inl ⟨rfl, ?_⟩
    unfold TW.rangeC at hi
    rw [List.getElem?_map] at hi
    cases q : (List.range n)[i]? with
    | none => rw [q] at hi; cases hi
    | some j =>
      rw [q] at hi; cases hi
      have : j = i := by
        obtain ⟨h1, h2⟩ := List.getElem?_eq_some_iff.mp q
        simp at h2; exact h2.symm
      subst this; rfl
/-- by natAbs: the kernel must not unfold a great literal -/
def okR (i : Int) : Bool := Nat.ble i.natAbs 900000000000
theorem okR_ok {i : Int} (h : okR i = true) : -(2 ^ 62) ≤ i ∧ i < 2 ^ 62 := by
  have := Nat.le_of_ble_eq_true h
  omega
def rng1 : List D → Option (List D)
  | [.int j] => if okR j = true then some (rangeD 0 j.toNat) else none
  | _ => none
def rng2 : List D → Option (List D)
  | [.int i, .int j] => if (okR i && okR j) = true then some (rangeD i (j - i).toNat) else none
  | _ => none
def rng3 : List D → Option (List D)
  | [.int i, .int j, .int c] => if (okR i && okR j && decide (c = -1)) = true then some (rangeC i (-1) (i - j).toNat) else none
  | _ => none
def mrng (h : List D → Option (List D)) (f : M (List Opd)) : M (List D) := mbind f fun os => mbind (ress os) fun ds => mopt (h ds)
theorem ji_range1 {f : M (List Opd)} {p : Pos} (hg : Gl X "range") (hm : X.mg "range" = none) (ha : JA X g T W [a] f) (hs : starEach [a] X.env = [(false, eval a X.env)] := by rfl) : JI X g T W tg (.Call (.Name "range" p) [a] [] pos) (mrng rng1 f) := fun τ t =>
  PI.imp (pi_range1 hg hm (ha τ t) hs) fun σ H R ⟨B, s, Rl, p⟩ => (PostM.bind (P := PAs g) Rl p).mono fun vs H1 ⟨os, B1, s1, R1, e1, q1, p1⟩ => by
    rcases ress_ex (s := s1) (os := os) with ⟨ds, w⟩ | w
    · rw [mbind_ok w] at p1
      cases ef : rng1 ds with
      | none => rw [ef] at p1; exact p1.elim
      | some ws =>
        rw [ef] at p1
        have hd := (ress_ok R1 q1 w).2
        unfold rng1 at ef
        split at ef
        · rename_i j
          by_cases hj : okR j = true
          · rw [if_pos hj] at ef; cases ef
            obtain ⟨v, r, rfl, h1, h2⟩ := hd
            cases h1; cases h2
            obtain ⟨j1, j2⟩ := okR_ok hj
            exact ⟨j, rfl, j1, j2, p1 _ B1 H1 R1 (Evl.Ex.refl _) Wk.range⟩
          · rw [if_neg hj] at ef; cases ef
        · cases ef
    · exfalso
      have z : mbind (ress os) (fun ds => mopt (rng1 ds)) s1 = .bad := by unfold mbind; rw [w]
      rw [z] at p1; exact p1
theorem ji_range2 {f : M (List Opd)} {p : Pos} (hg : Gl X "range") (hm : X.mg "range" = none) (ha : JA X g T W [a, b] f) (hs : starEach [a, b] X.env = [(false, eval a X.env), (false, eval b X.env)] := by rfl) (hs2 : starEach [b] X.env = [(false, eval b X.env)] := by rfl) : JI X g T W tg (.Call (.Name "range" p) [a, b] [] pos) (mrng rng2 f) := fun τ t =>
  PI.imp (pi_range2 hg hm (ha τ t) hs hs2) fun σ H R ⟨B, s, Rl, p⟩ => (PostM.bind (P := PAs g) Rl p).mono fun vs H1 ⟨os, B1, s1, R1, e1, q1, p1⟩ => by
    rcases ress_ex (s := s1) (os := os) with ⟨ds, w⟩ | w
    · rw [mbind_ok w] at p1
      cases ef : rng2 ds with
      | none => rw [ef] at p1; exact p1.elim
      | some ws =>
        rw [ef] at p1
        have hd := (ress_ok R1 q1 w).2
        unfold rng2 at ef
        split at ef
        · rename_i i j
          by_cases hj : (okR i && okR j) = true
          · rw [if_pos hj] at ef; cases ef
            obtain ⟨v, r, rfl, h1, v', r', rfl, h2, h3⟩ := hd
            cases h1; cases h2; cases h3
            obtain ⟨c1, c2⟩ := Bool.and_eq_true_iff.mp hj
            obtain ⟨i1, i2⟩ := okR_ok c1
            obtain ⟨j1, j2⟩ := okR_ok c2
            exact ⟨i, j, rfl, ⟨i1, i2, j1, j2⟩, p1 _ B1 H1 R1 (Evl.Ex.refl _) Wk.range⟩
          · rw [if_neg hj] at ef; cases ef
        · cases ef
    · exfalso
      have z : mbind (ress os) (fun ds => mopt (rng2 ds)) s1 = .bad := by unfold mbind; rw [w]
      rw [z] at p1; exact p1
theorem ji_range3 {f : M (List Opd)} {p : Pos} (hg : Gl X "range") (hm : X.mg "range" = none) (ha : JA X g T W [a, b, c] f)
    (hs : starEach [a, b, c] X.env = (false, eval a X.env) :: starEach [b, c] X.env := by rfl) (hpl : (backTo pos (starEach [b, c] X.env)).any (·.1) = false := by rfl) : JI X g T W tg (.Call (.Name "range" p) [a, b, c] [] pos) (mrng rng3 f) := fun τ t =>
  PI.imp (pi_range3 hg hm (ha τ t) hs hpl) fun σ H R ⟨B, s, Rl, p⟩ => (PostM.bind (P := PAs g) Rl p).mono fun vs H1 ⟨os, B1, s1, R1, e1, q1, p1⟩ => by
    rcases ress_ex (s := s1) (os := os) with ⟨ds, w⟩ | w
    · rw [mbind_ok w] at p1
      cases ef : rng3 ds with
      | none => rw [ef] at p1; exact p1.elim
      | some ws =>
        rw [ef] at p1
        have hd := (ress_ok R1 q1 w).2
        unfold rng3 at ef
        split at ef
        · rename_i i j c
          by_cases hj : (okR i && okR j && decide (c = -1)) = true
          · rw [if_pos hj] at ef; cases ef
            obtain ⟨v, r, rfl, h1, v', r', rfl, h2, v2, r2, rfl, h3, h4⟩ := hd
            cases h1; cases h2; cases h3; cases h4
            obtain ⟨c1, c3⟩ := Bool.and_eq_true_iff.mp hj
            obtain ⟨c1, c2⟩ := Bool.and_eq_true_iff.mp c1
            have c3 := of_decide_eq_true c3
            subst c3
            obtain ⟨i1, i2⟩ := okR_ok c1
            obtain ⟨j1, j2⟩ := okR_ok c2
            exact ⟨i, j, -1, _, rfl, RgC.neg i1 i2 j1 j2, p1 _ B1 H1 R1 (Evl.Ex.refl _) Wk.rangeC⟩
          · rw [if_neg hj] at ef; cases ef
        · cases ef
    · exfalso
      have z : mbind (ress os) (fun ds => mopt (rng3 ds)) s1 = .bad := by unfold mbind; rw [w]
      rw [z] at p1; exact p1
/-! ## loops -/
def forD (tm : D → S → Option S) (bd : MS) : List D → MS
  | [] => fun s => .nx s
  | d :: r => fun s => match tm d s with
    | none => .bad
    | some s0 => match bd s0 with
      | .nx s' => forD tm bd r s'
      | .ct s' => forD tm bd r s'
      | .bk s' => .nx s'
      | o => o
def mfor (fi : M (List D)) (tm : D → S → Option S) (bd : MS) : MS := ms fi fun ds => forD tm bd ds
theorem js_for {fi : M (List D)} {tm : D → S → Option S} {bd : MS} {body : List Stmt} (hp : PassesOwn (model X.prog X.w) X.A X.env X.xe) (hc : X.calm = true) (hi : JI X g T W tg iter fi) (hg : JG X g T none tg tm) (hb : JSs X g T W body bd)
    (hs : ∀ x, foldedSetIterable iter X.env x = pure x := by intro _; rfl) : JS X g T W (.For tg iter body [] pos) (mfor fi tm bd) :=
  PS.imp (ps_for hp hc (hi T.τ T.t) (hg T.τ T.t) hb hs) fun D σ H ⟨B, s, R, p⟩ => (PostS.bind (P := PI' g) R p).mono fun J H1 ⟨ds, B1, s1, R1, e1, q, p1⟩ => by
    refine ⟨fun i m σ' H' => i ≤ ds.length ∧ m = ds.length - i ∧ ∃ B' s', Rel g T B' H' σ' s' ∧ Ex B1 B' ∧ PostS g T W B' (forD tm bd (ds.drop i) s') D, ⟨_, Nat.zero_le _, rfl, B1, s1, R1, Evl.Ex.refl _, p1⟩, ?_⟩
    rintro i m σ' H' ⟨hi, rfl, B', s', R', e', p'⟩
    by_cases hlt : i < ds.length
    · refine .inr ⟨q.go B' H' i e' R'.bh hlt, fun σ2 H2 => ∃ B2 s2, Rel g T B2 H2 σ2 s2 ∧ Ex B1 B2 ∧ PostS g T W B2 (forD tm bd (ds.drop (i + 1)) s2) D, fun σ2 H2 ⟨B2, s2, R2, e2, p2⟩ => ⟨_, by omega, hlt, rfl, B2, s2, R2, e2, p2⟩, fun x H2 hy => ?_⟩
      have hd : ds[i]? = some ds[i] := by simp [hlt]
      have hdrop : ds.drop i = ds[i] :: ds.drop (i + 1) := List.drop_eq_getElem_cons hlt
      rw [hdrop] at p'
      have step : ∀ B2 H2, Rel g T B2 H2 σ' s' → Ex B' B2 → Den g B2 ds[i] x → RdG g (T.tmp T.τ T.t) none tm x σ' H2 fun σ3 H3 => RdS g T W bd { D with nx := fun σ2 H2 => ∃ B2 s2, Rel g T B2 H2 σ2 s2 ∧ Ex B1 B2 ∧ PostS g T W B2 (forD tm bd (ds.drop (i + 1)) s2) D, ct := fun σ2 H2 => ∃ B2 s2, Rel g T B2 H2 σ2 s2 ∧ Ex B1 B2 ∧ PostS g T W B2 (forD tm bd (ds.drop (i + 1)) s2) D, bk := D.nx } σ3 H3 := fun B2 H2 R2 e2 hx => by
        refine ⟨B2, s', ds[i], R2, hx, ?_⟩
        have p2 := PostS.base e2 p'
        unfold forD at p2
        cases et : tm ds[i] s' with
        | none => rw [et] at p2; exact p2.elim
        | some s0 =>
          rw [et] at p2
          intro σ3 B3 H3 R3 e3 _
          refine ⟨B3, s0, R3, ?_⟩
          have p3 := PostS.base e3 p2
          dsimp only at p3
          cases eb : bd s0 with
          | nx s2 => rw [eb] at p3; exact fun σ4 B4 H4 R4 e4 => ⟨B4, s2, R4, ((e'.trans e2).trans e3).trans e4, PostS.base e4 p3⟩
          | ct s2 => rw [eb] at p3; exact fun σ4 B4 H4 R4 e4 => ⟨B4, s2, R4, ((e'.trans e2).trans e3).trans e4, PostS.base e4 p3⟩
          | bk s2 => rw [eb] at p3; exact p3
          | rt r s2 => rw [eb] at p3; exact p3
          | ex c cs s2 => rw [eb] at p3; exact p3
          | bad => rw [eb] at p3; exact p3
      rcases q.yld B' H' i ds[i] x H2 e' R'.bh hd hy with ⟨rfl, hx⟩ | ⟨p, o, hp, rfl, hx⟩
      · exact step B' _ R' (Evl.Ex.refl _) hx
      · exact step _ _ (R'.new hp) (Evl.Ex.new (Evl.fresh_back R'.bh hp)) hx
    · have : i = ds.length := by omega
      subst this
      refine .inl ⟨q.stop B' H' e' R'.bh, ?_⟩
      rw [List.drop_length] at p'
      exact p' σ' B' H' R' (Evl.Ex.refl _)
def whileD (ft : M Bool) (bd : MS) : Nat → MS
  | 0 => fun _ => .bad
  | n + 1 => fun s => match ft s with
    | .ok true s0 => (match bd s0 with
      | .nx s' => whileD ft bd n s'
      | .ct s' => whileD ft bd n s'
      | .bk s' => .nx s'
      | o => o)
    | .ok false s0 => .nx s0
    | .ex c ds s0 => .ex c ds s0
    | .bad => .bad
theorem js_while {ft : M Bool} {bd : MS} {body : List Stmt} (n : Nat) (hp : PassesOwn (model X.prog X.w) X.A X.env X.xe) (hc : JT X g T W c ft) (hb : JSs X g T W body bd) : JS X g T W (.While c body [] pos) (whileD ft bd n) :=
  PS.imp (ps_while hp (hc T.τ T.t) hb) fun D σ H ⟨B, s, R, p⟩ => by
    refine ⟨fun m σ' H' => ∃ B' s', Rel g T B' H' σ' s' ∧ PostS g T W B' (whileD ft bd m s') D, ⟨n, B, s, R, p⟩, ?_⟩
    rintro m σ' H' ⟨B', s', R', p'⟩
    cases m with
    | zero => exact p'.elim
    | succ m =>
      refine ⟨B', s', R', ?_⟩
      unfold whileD at p'
      cases et : ft s' with
      | bad => rw [et] at p'; exact p'.elim
      | ex c ds s0 => rw [et] at p'; exact fun x B2 H2 R2 e2 hx => p' x σ' B2 H2 R2 e2 hx
      | ok k s0 =>
        rw [et] at p'
        cases k with
        | false =>
          intro b B2 H2 R2 e2 hb
          subst hb
          exact p' σ' B2 H2 R2 e2
        | true =>
          intro b B2 H2 R2 e2 hb
          subst hb
          refine ⟨fun σ3 H3 => ∃ B3 s3, Rel g T B3 H3 σ3 s3 ∧ PostS g T W B3 (whileD ft bd m s3) D, fun σ3 H3 h => ⟨m, Nat.lt_succ_self _, h⟩, B2, s0, R2, ?_⟩
          have p3 := PostS.base e2 p'
          dsimp only at p3
          cases eb : bd s0 with
          | nx s2 => rw [eb] at p3; exact fun σ4 B4 H4 R4 e4 => ⟨B4, s2, R4, PostS.base e4 p3⟩
          | ct s2 => rw [eb] at p3; exact fun σ4 B4 H4 R4 e4 => ⟨B4, s2, R4, PostS.base e4 p3⟩
          | bk s2 => rw [eb] at p3; exact p3
          | rt r s2 => rw [eb] at p3; exact p3
          | ex c cs s2 => rw [eb] at p3; exact p3
          | bad => rw [eb] at p3; exact p3
end TW

set_option Elab.async false
set_option linter.all false
set_option autoImplicit false
set_option maxRecDepth 100000
set_option maxHeartbeats 1000000
namespace TW
open PySem PySem.Spec PyProof.Rows L2
variable {g : G} {T : Tx} {B B' H H' : Hp} {σ : L2.St} {s : S} {W : WX} {α β γ δ : Type} {P : PP α β}
variable {X : Cx} {e a b c tg iter elt : Expr} {es : List Expr} {pos : Pos}

/-! ## comprehensions -/
def wipeS (s : S) (vs : List Nat) : S := s.mapIdx fun i x => if i ∈ vs then .no else x
def restoreS (s0 s : S) (vs : List Nat) : S := s.mapIdx fun i x => if i ∈ vs then s0.getD i .no else x
/-- none of these slots is own -/
def plainS (s : S) (vs : List Nat) : Bool := vs.all fun i => !((s[i]?).getD .no).own
def compD (vs : List Nat) (tm : D → S → Option S) (tt : M Bool) (te : M D) : List D → List D → S → Out (List D)
  | [], acc, s => .ok acc s
  | d :: r, acc, s => match tm d s with
    | none => .bad
    | some s1 => match tt s1 with
      | .ok true s2 => (match te s2 with
        | .ok y s3 => if (decide (acc.length < 16000000) && plainS s3 vs) = true then compD vs tm tt te r (acc ++ [y]) (wipeS s3 vs) else .bad
        | _ => .bad)
      | .ok false s2 => if plainS s2 vs = true then compD vs tm tt te r acc (wipeS s2 vs) else .bad
      | _ => .bad
def mlc (vs : List Nat) (fi : M (List D)) (tm : D → S → Option S) (tt : M Bool) (te : M D) : M Rv := mbind fi fun ds s => if plainS s vs = true then (match compD vs tm tt te ds [] (wipeS s vs) with
  | .ok acc s' => .ok (.l acc) (restoreS s s' vs)
  | _ => .bad) else .bad
theorem wipeS_get {vs : List Nat} {i : Nat} : (wipeS s vs)[i]? = if i ∈ vs then (s[i]?).map fun _ => .no else s[i]? := by
  unfold wipeS; rw [List.getElem?_mapIdx]
  by_cases h : i ∈ vs
  · simp [h]
  · simp [h]
theorem restoreS_get {s0 : S} {vs : List Nat} {i : Nat} : (restoreS s0 s vs)[i]? = if i ∈ vs then (s[i]?).map fun _ => s0.getD i .no else s[i]? := by
  unfold restoreS; rw [List.getElem?_mapIdx]
  by_cases h : i ∈ vs
  · simp [h]
  · simp [h]
theorem plain_at {vs : List Nat} {i : Nat} {x : Sl} (h : plainS s vs = true) (hi : i ∈ vs) (hx : s[i]? = some x) : x.own = false := by
  have := List.all_eq_true.mp h i hi
  rw [hx] at this
  simpa using this
/-- the slots of a block forgotten -/
theorem Rel.wipe (R : Rel g T B H σ s) {vs : List Nat} (hp : ∀ (i : Nat) (x : Sl), i ∈ vs → s[i]? = some x → x.own = false) : Rel g T B H (L2.wipe σ vs) (wipeS s vs) := by
  have l1 : (L2.wipe σ vs).length = σ.length := wipe_length σ vs
  have l2 : (wipeS s vs).length = s.length := by unfold wipeS; simp
  have gs : ∀ (i : Nat) (x : Sl), (wipeS s vs ++ T.t)[i]? = some x → ((s ++ T.t)[i]? = some x ∧ (i < s.length → i ∉ vs)) ∨ (x = .no ∧ i < s.length ∧ i ∈ vs) := fun i x h => by
    by_cases hi : i < s.length
    · rw [List.getElem?_append_left (by omega), wipeS_get] at h
      by_cases hv : i ∈ vs
      · rw [if_pos hv] at h
        simp [hi] at h
        exact .inr ⟨h.symm, hi, hv⟩
      · rw [if_neg hv] at h
        exact .inl ⟨app_some h, fun _ => hv⟩
    · rw [List.getElem?_append_right (by omega), l2] at h
      exact .inl ⟨by rw [List.getElem?_append_right (by omega)]; exact h, fun z => absurd z hi⟩
  have gσ : ∀ (i : Nat), (i < s.length → i ∉ vs) → (L2.wipe σ vs ++ T.τ)[i]? = (σ ++ T.τ)[i]? := fun i hv => by
    by_cases hi : i < s.length
    · rw [List.getElem?_append_left (by rw [l1, R.ln]; exact hi), List.getElem?_append_left (by rw [R.ln]; exact hi), wipe_get, if_neg (hv hi)]
    · rw [List.getElem?_append_right (by rw [l1, R.ln]; omega), List.getElem?_append_right (by rw [R.ln]; omega), l1]
  refine ⟨⟨R.r.b0, R.r.bh, R.r.nw, R.r.hh, R.r.dom, by have := R.r.len; simp at this ⊢; omega, fun i x y hx hy => ?_, fun i j x x' a hx hx' ho ho' e1 e2 => ?_, fun j a h => ?_, fun i x a hx ho e1 => ?_⟩, by rw [l1, l2]; exact R.ln, fun j a h => by rw [l1]; exact R.iob j a h⟩
  · rcases gs i x hx with ⟨h, hv⟩ | ⟨rfl, _⟩
    · rw [gσ i hv] at hy; exact R.r.sl i x y h hy
    · trivial
  · rcases gs i x hx with ⟨h, hv⟩ | ⟨rfl, _⟩
    · rcases gs j x' hx' with ⟨h', hv'⟩ | ⟨rfl, _⟩
      · rw [gσ i hv] at e1; rw [gσ j hv'] at e2
        exact R.r.nd i j x x' a h h' ho ho' e1 e2
      · cases ho'
    · cases ho
  · obtain ⟨e, x, hx, ho⟩ := R.r.iok j a h
    have hj : j < s.length := by rw [← R.ln]; exact R.iob j a h
    rw [List.getElem?_append_left hj] at hx
    have hv : j ∉ vs := fun z => by rw [hp j x z hx] at ho; cases ho
    refine ⟨by rw [gσ j fun _ => hv]; exact e, x, ?_, ho⟩
    rw [List.getElem?_append_left (by omega), wipeS_get, if_neg hv]; exact hx
  · rcases gs i x hx with ⟨h, hv⟩ | ⟨rfl, _⟩
    · rw [gσ i hv] at e1; exact R.r.ow i x a h ho e1
    · cases ho
/-- .. and told again -/
theorem Rel.unwipe {B0 H0 : Hp} {s0 : S} {vs : List Nat} (R0 : Rel g T B0 H0 σ s0) (hp : plainS s0 vs = true) (e : Ex B0 B) (R : Rel g T B H (L2.wipe σ vs) s) : Rel g T B H σ (restoreS s0 s vs) := by
  have l1 : (L2.wipe σ vs).length = σ.length := wipe_length σ vs
  have l2 : (restoreS s0 s vs).length = s.length := by unfold restoreS; simp
  have l3 : s.length = σ.length := by rw [← R.ln, l1]
  have l4 : s0.length = σ.length := R0.ln.symm
  have gs : ∀ (i : Nat) (x : Sl), (restoreS s0 s vs ++ T.t)[i]? = some x → ((s ++ T.t)[i]? = some x ∧ (i < s.length → i ∉ vs)) ∨ (i ∈ vs ∧ s0[i]? = some x ∧ i < s.length) := fun i x h => by
    by_cases hi : i < s.length
    · rw [List.getElem?_append_left (by omega), restoreS_get] at h
      by_cases hv : i ∈ vs
      · rw [if_pos hv] at h
        simp [hi] at h
        have h0 : i < s0.length := by omega
        refine .inr ⟨hv, ?_, hi⟩
        rw [List.getElem?_eq_getElem h0] at h ⊢
        simpa using h
      · rw [if_neg hv] at h
        exact .inl ⟨app_some h, fun _ => hv⟩
    · rw [List.getElem?_append_right (by omega), l2] at h
      exact .inl ⟨by rw [List.getElem?_append_right (by omega)]; exact h, fun z => absurd z hi⟩
  have gσ : ∀ (i : Nat), (i < s.length → i ∉ vs) → (L2.wipe σ vs ++ T.τ)[i]? = (σ ++ T.τ)[i]? := fun i hv => by
    by_cases hi : i < s.length
    · rw [List.getElem?_append_left (by omega), List.getElem?_append_left (by omega), wipe_get, if_neg (hv hi)]
    · rw [List.getElem?_append_right (by omega), List.getElem?_append_right (by omega), l1]
  refine ⟨⟨R.r.b0, R.r.bh, R.r.nw, R.r.hh, R.r.dom, by have := R.r.len; simp at this ⊢; omega, fun i x y hx hy => ?_, fun i j x x' a hx hx' ho ho' e1 e2 => ?_, fun j a h => ?_, fun i x a hx ho e1 => ?_⟩, by omega, fun j a h => by have := R.iob j a h; omega⟩
  · rcases gs i x hx with ⟨h, hv⟩ | ⟨hv, h, hi⟩
    · rw [← gσ i hv] at hy; exact R.r.sl i x y h hy
    · have hy' : σ[i]? = some y := by rw [List.getElem?_append_left (by omega)] at hy; exact hy
      have q := R0.r.sl i x y (app_some h) (app_some hy')
      have ho := plain_at hp hv h
      cases x with
      | no => trivial
      | v d => obtain ⟨v, e', q'⟩ := q; exact ⟨v, e', q'.mono e⟩
      | l ds => cases ho
      | o c ds => cases ho
  · rcases gs i x hx with ⟨h, hv⟩ | ⟨hv, h, _⟩
    · rcases gs j x' hx' with ⟨h', hv'⟩ | ⟨hv', h', _⟩
      · rw [← gσ i hv] at e1; rw [← gσ j hv'] at e2
        exact R.r.nd i j x x' a h h' ho ho' e1 e2
      · rw [plain_at hp hv' h'] at ho'; cases ho'
    · rw [plain_at hp hv h] at ho; cases ho
  · obtain ⟨e1, x, hx, ho⟩ := R.r.iok j a h
    have hj : j < s.length := by rw [← R.ln]; exact R.iob j a h
    rw [List.getElem?_append_left hj] at hx
    have hv : j ∉ vs := fun z => by
      rw [List.getElem?_append_left (by omega), wipe_get, if_pos z] at e1
      simp at e1
    refine ⟨by rw [← gσ j fun _ => hv]; exact e1, x, ?_, ho⟩
    rw [List.getElem?_append_left (by omega), restoreS_get, if_neg hv]; exact hx
  · rcases gs i x hx with ⟨h, hv⟩ | ⟨hv, h, _⟩
    · rw [← gσ i hv] at e1; exact R.r.ow i x a h ho e1
    · rw [plain_at hp hv h] at ho; cases ho
/-- what is held last is let go, is written -/
theorem Rel.pop {τ : L2.St} {t : S} {x : Sl} {p : Addr} (R : Rel g (T.tmp (τ ++ [some (.ref p)]) (t ++ [x])) B H σ s) (hx : x.own = true) : Rel g (T.tmp τ t) B H σ s ∧ T.H0 p = none ∧
    (∀ (i : Nat) (y : Sl), (s ++ t)[i]? = some y → y.own = true → (σ ++ τ)[i]? ≠ some (some (.ref p))) ∧ SlOk g B H x (some (.ref p)) := by
  have r := R.r
  simp only [Tx.tmp, ← List.append_assoc] at r
  have r' : Rel0 g (T.tmp τ t) B H (σ ++ τ ++ [some (.ref p)]) (s ++ t ++ [x]) := ⟨r.b0, r.bh, r.nw, r.hh, r.dom, r.len, r.sl, r.nd, r.iok, r.ow⟩
  obtain ⟨h1, h2, h3, h4⟩ := r'.pop hx (fun j a h => by have := R.iob j a h; simp; omega)
  exact ⟨⟨h1, R.ln, R.iob⟩, h2, h3, h4⟩
theorem Rel.push {τ : L2.St} {t : S} {x : Sl} {p : Addr} (R : Rel g (T.tmp τ t) B H σ s) (h0 : T.H0 p = none) (hsl : ∀ (i : Nat) (y : Sl), (s ++ t)[i]? = some y → y.own = true → (σ ++ τ)[i]? ≠ some (some (.ref p))) (ok : SlOk g B H x (some (.ref p))) : Rel g (T.tmp (τ ++ [some (.ref p)]) (t ++ [x])) B H σ s := by
  have r := Rel0.push R.r h0 hsl ok
  have r' : Rel0 g (T.tmp (τ ++ [some (.ref p)]) (t ++ [x])) B H (σ ++ τ ++ [some (.ref p)]) (s ++ t ++ [x]) := ⟨r.b0, r.bh, r.nw, r.hh, r.dom, r.len, r.sl, r.nd, r.iok, r.ow⟩
  rw [List.append_assoc, List.append_assoc] at r'
  exact ⟨r', R.ln, R.iob⟩
theorem Rel.held {τ : L2.St} {t : S} {ds es : List D} {p : Addr} {us : List V} (R : Rel g (T.tmp (τ ++ [some (.ref p)]) (t ++ [.l ds])) B H σ s) (hd : Dens g B es us) : Rel g (T.tmp (τ ++ [some (.ref p)]) (t ++ [.l es])) B (upd H p (.lst us)) σ s := by
  have l := R.r.len
  simp at l
  have e1 : (s ++ (t ++ [Sl.l ds]))[s.length + t.length]? = some (.l ds) := by rw [← List.append_assoc]; simp
  have e2 : (σ ++ (τ ++ [some (V.ref p)]))[s.length + t.length]? = some (some (.ref p)) := by
    have : s.length + t.length = (σ ++ τ).length := by simp; have := R.ln; omega
    rw [← List.append_assoc, this]; simp
  have r := R.r.write e1 rfl e2 (x' := .l es) rfl ⟨p, us, rfl, (R.r.ownH e1 rfl e2).1, upd_same, hd⟩
  have e3 : (s ++ (t ++ [Sl.l ds])).set (s.length + t.length) (.l es) = s ++ (t ++ [.l es]) := by
    rw [← List.append_assoc, ← List.append_assoc]
    rw [List.set_append_right _ _ (by simp)]
    simp
  rw [e3] at r
  exact ⟨⟨r.b0, r.bh, r.nw, r.hh, r.dom, r.len, r.sl, r.nd, r.iok, r.ow⟩, R.ln, R.iob⟩
theorem pts_yes : PTs X [] (RdM g T W PB (mret true)) := ⟨fun pins s σ H Q I ⟨B, s', R, p⟩ => wpAny_tests_nil ⟨H, I, p true B H R (Evl.Ex.refl _) rfl⟩⟩
theorem wipe_wipe {vs : List Nat} : L2.wipe (L2.wipe σ vs) vs = L2.wipe σ vs := by
  apply List.ext_getElem?
  intro i
  rw [wipe_get, wipe_get]
  by_cases h : i ∈ vs
  · simp only [h, if_true]; cases σ[i]? <;> rfl
  · simp [h]
/-- [elt for tg in iter if ..] -/
theorem lc_rd {vs : List Nat} {fi : M (List D)} {tm : D → S → Option S} {tt : M Bool} {te : M D} {τ : L2.St} {t : S} {Q : VK} (h : RdM g (T.tmp τ t) W (RvOk g (T.tmp τ t)) (mlc vs fi tm tt te) σ H Q) :
    (RdM g (T.tmp τ t) W (PI' g) fi) σ H fun J H1 => ∀ D, H1 D = none → ∃ W' : Nat → Nat → Hp → Prop, (∃ m, W' 0 m (upd H1 D (.lst []))) ∧ ∀ i m H, W' i m H →
      (J.stop i H ∧ Q (.ref D) H) ∨ (J.go i H ∧ ∃ Nx : Hp → Prop, (∀ H', Nx H' → ∃ m', m' < m ∧ W' (i + 1) m' H') ∧ ∀ x H', J.yld i H x H' → ∃ q : L2.St × S, RdG g (T.tmp q.1 q.2) (some vs) tm x (L2.wipe σ vs) H' fun σ2 H2 => L2.wipe σ2 vs = L2.wipe σ vs ∧ ∃ q : L2.St × S, RdM g (T.tmp q.1 q.2) W0 PB tt σ2 H2 fun b H3 =>
        if b = true then ∃ q : L2.St × S, RdM g (T.tmp q.1 q.2) W0 (PD g) te σ2 H3 fun y H4 => ∃ acc, H4 D = some (.lst acc) ∧ acc.length < sizeLine ∧ Nx (upd H4 D (.lst (acc ++ [y]))) else Nx H3) := by
  obtain ⟨B, s, R, p⟩ := h
  refine (PostM.bind (P := PI' g) R p).mono fun J H1 ⟨ds, B1, s1, R1, e1, q, p1⟩ => ?_
  intro p0 hp0
  by_cases hpl : plainS s1 vs = true
  · rw [if_pos hpl] at p1
    -- the invariant
    refine ⟨fun i m H' => i ≤ ds.length ∧ m = ds.length - i ∧ ∃ B' s' acc, Rel g (T.tmp (τ ++ [some (.ref p0)]) (t ++ [.l acc])) B' H' (L2.wipe σ vs) s' ∧ Ex B1 B' ∧
      PostM g (T.tmp τ t) W (RvOk g (T.tmp τ t)) σ B1 (match compD vs tm tt te (ds.drop i) acc s' with | .ok acc s' => .ok (.l acc) (restoreS s1 s' vs) | _ => .bad) Q, ⟨_, Nat.zero_le _, rfl, B1, wipeS s1 vs, [], ?_, Evl.Ex.refl _, p1⟩, ?_⟩
    · have Rw := (R1.newH (o := .lst []) hp0).wipe (vs := vs) (fun i x hi hx => plain_at hpl hi hx)
      refine Rw.push (R1.h0_of hp0) (fun i y h1 h2 h3 => ?_) ⟨p0, [], rfl, Evl.fresh_back R1.bh hp0, upd_same, rfl⟩
      have Rw2 := R1.wipe (vs := vs) (fun i x hi hx => plain_at hpl hi hx)
      obtain ⟨_, o, z⟩ := Rw2.r.ownH h1 h2 h3
      rw [hp0] at z; cases z
    · rintro i m H' ⟨hi, rfl, B', s', acc, R', e', p'⟩
      by_cases hlt : i < ds.length
      · refine .inr ⟨q.go B' H' i e' R'.bh hlt, fun H2 => ∃ B2 s2 acc2, Rel g (T.tmp (τ ++ [some (.ref p0)]) (t ++ [.l acc2])) B2 H2 (L2.wipe σ vs) s2 ∧ Ex B1 B2 ∧
          PostM g (T.tmp τ t) W (RvOk g (T.tmp τ t)) σ B1 (match compD vs tm tt te (ds.drop (i + 1)) acc2 s2 with | .ok acc s' => .ok (.l acc) (restoreS s1 s' vs) | _ => .bad) Q,
          fun H2 ⟨B2, s2, acc2, R2, e2, p2⟩ => ⟨_, by omega, hlt, rfl, B2, s2, acc2, R2, e2, p2⟩, fun x H2 hy => ⟨(τ ++ [some (.ref p0)], t ++ [.l acc]), ?_⟩⟩
        have hd : ds[i]? = some ds[i] := by simp [hlt]
        have hdrop : ds.drop i = ds[i] :: ds.drop (i + 1) := List.drop_eq_getElem_cons hlt
        rw [hdrop] at p'
        have step : ∀ B2 H2, Rel g (T.tmp (τ ++ [some (.ref p0)]) (t ++ [.l acc])) B2 H2 (L2.wipe σ vs) s' → Ex B1 B2 → Den g B2 ds[i] x →
            RdG g (T.tmp (τ ++ [some (.ref p0)]) (t ++ [.l acc])) (some vs) tm x (L2.wipe σ vs) H2 fun σ2 H2 => L2.wipe σ2 vs = L2.wipe σ vs ∧ ∃ q : L2.St × S, RdM g (T.tmp q.1 q.2) W0 PB tt σ2 H2 fun b H3 =>
              if b = true then ∃ q : L2.St × S, RdM g (T.tmp q.1 q.2) W0 (PD g) te σ2 H3 fun y H4 => ∃ acc, H4 p0 = some (.lst acc) ∧ acc.length < sizeLine ∧ (∃ B2 s2 acc2, Rel g (T.tmp (τ ++ [some (.ref p0)]) (t ++ [.l acc2])) B2 (upd H4 p0 (.lst (acc ++ [y]))) (L2.wipe σ vs) s2 ∧ Ex B1 B2 ∧
                PostM g (T.tmp τ t) W (RvOk g (T.tmp τ t)) σ B1 (match compD vs tm tt te (ds.drop (i + 1)) acc2 s2 with | .ok acc s' => .ok (.l acc) (restoreS s1 s' vs) | _ => .bad) Q)
              else ∃ B2 s2 acc2, Rel g (T.tmp (τ ++ [some (.ref p0)]) (t ++ [.l acc2])) B2 H3 (L2.wipe σ vs) s2 ∧ Ex B1 B2 ∧
                PostM g (T.tmp τ t) W (RvOk g (T.tmp τ t)) σ B1 (match compD vs tm tt te (ds.drop (i + 1)) acc2 s2 with | .ok acc s' => .ok (.l acc) (restoreS s1 s' vs) | _ => .bad) Q := fun B2 H2 R2 e2 hx => by
          refine ⟨B2, s', ds[i], R2, hx, ?_⟩
          unfold compD at p'
          cases et : tm ds[i] s' with
          | none => rw [et] at p'; exact p'.elim
          | some s0 =>
            rw [et] at p'
            dsimp only at p'
            intro σ2 B3 H3 R3 e3 l3
            have hw : L2.wipe σ2 vs = L2.wipe σ vs := Eq.trans (show L2.wipe σ2 vs = L2.wipe (L2.wipe σ vs) vs from l3) wipe_wipe
            refine ⟨hw, (τ ++ [some (.ref p0)], t ++ [.l acc]), B3, s0, R3, ?_⟩
            cases ett : tt s0 with
            | bad => rw [ett] at p'; exact p'.elim
            | ex c cs s2 => rw [ett] at p'; exact p'.elim
            | ok k s2 =>
              rw [ett] at p'
              intro b B4 H4 R4 e4 hb
              subst hb
              cases b with
              | false =>
                dsimp only at p'
                by_cases hq : plainS s2 vs = true
                · rw [if_pos hq] at p'
                  rw [if_neg Bool.false_ne_true]
                  have Rw := R4.wipe (vs := vs) (fun i x hi hx => plain_at hq hi hx)
                  rw [hw] at Rw
                  exact ⟨B4, wipeS s2 vs, acc, Rw, (e2.trans e3).trans e4, p'⟩
                · rw [if_neg hq] at p'; exact p'.elim
              | true =>
                dsimp only at p'
                rw [if_pos rfl]
                refine ⟨(τ ++ [some (.ref p0)], t ++ [.l acc]), B4, s2, R4, ?_⟩
                cases ete : te s2 with
                | bad => rw [ete] at p'; exact p'.elim
                | ex c cs s3 => rw [ete] at p'; exact p'.elim
                | ok y s3 =>
                  rw [ete] at p'
                  dsimp only at p'
                  by_cases hq : (decide (acc.length < 16000000) && plainS s3 vs) = true
                  · rw [if_pos hq] at p'
                    obtain ⟨hq1, hq2⟩ := Bool.and_eq_true_iff.mp hq
                    have hq1 := of_decide_eq_true hq1
                    intro v B5 H5 R5 e5 hv
                    obtain ⟨_, _, _, a', us, ea, f1, f2, f3⟩ := R5.pop rfl
                    cases ea
                    refine ⟨us, f2, by rw [f3.length]; exact Nat.lt_of_lt_of_le hq1 (by decide), B5, wipeS s3 vs, acc ++ [y], ?_, ((e2.trans e3).trans e4).trans e5, p'⟩
                    have Rw := R5.wipe (vs := vs) (fun i x hi hx => plain_at hq2 hi hx)
                    rw [hw] at Rw
                    exact Rw.held (f3.append (Dens.cons hv Dens.nil))
                  · rw [if_neg hq] at p'; exact p'.elim
        rcases q.yld B' H' i ds[i] x H2 e' R'.bh hd hy with ⟨rfl, hx⟩ | ⟨p, o, hp, rfl, hx⟩
        · exact step B' _ R' e' hx
        · exact step _ _ (R'.new hp) (e'.trans (Evl.Ex.new (Evl.fresh_back R'.bh hp))) hx
      · have : i = ds.length := by omega
        subst this
        refine .inl ⟨q.stop B' H' e' R'.bh, ?_⟩
        rw [List.drop_length] at p'
        obtain ⟨k1, k2, k3, k4⟩ := R'.pop rfl
        obtain ⟨a', us, ea, f1, f2, f3⟩ := k4
        cases ea
        have Rf := Rel.unwipe R1 hpl e' k1
        refine p' (.ref p0) B' H' Rf e' ⟨p0, us, rfl, ⟨f1, k2, fun i y h1 h2 h3 => ?_, f2⟩, f3⟩
        have l2 : (restoreS s1 s' vs).length = s'.length := by unfold restoreS; simp
        have l3 : s'.length = σ.length := by rw [← k1.ln, wipe_length]
        by_cases hi : i < s'.length
        · rw [List.getElem?_append_left (by omega), restoreS_get] at h1
          by_cases hv : i ∈ vs
          · rw [if_pos hv] at h1
            simp [hi] at h1
            have h0 : i < s1.length := by have := R1.ln; omega
            rw [List.getElem?_eq_getElem h0] at h1
            have := plain_at hpl hv (x := y) (by rw [List.getElem?_eq_getElem h0]; simpa using h1)
            rw [h2] at this; cases this
          · rw [if_neg hv] at h1
            refine k3 i y (app_some h1) h2 ?_
            rw [List.getElem?_append_left (by rw [wipe_length]; omega), wipe_get, if_neg hv]
            rw [List.getElem?_append_left (by omega)] at h3
            exact h3
        · rw [List.getElem?_append_right (by omega), l2] at h1
          refine k3 i y (by rw [List.getElem?_append_right (by omega)]; exact h1) h2 ?_
          rw [List.getElem?_append_right (by rw [wipe_length]; omega), wipe_length]
          rw [List.getElem?_append_right (by omega)] at h3
          exact h3
  · rw [if_neg hpl] at p1; exact p1.elim
theorem PE.ex {ι : Type} {t : ι → TE} (h : ∀ i, PE X e (t i)) : PE X e (fun σ H Q => ∃ i, t i σ H Q) := ⟨fun pins s σ H Q I ⟨i, q⟩ => (h i).run pins s σ H Q I q⟩
theorem PTs.ex {ι : Type} {es : List Expr} {t : ι → TT} (h : ∀ i, PTs X es (t i)) : PTs X es (fun σ H Q => ∃ i, t i σ H Q) := ⟨fun pins s σ H Q I ⟨i, q⟩ => (h i).run pins s σ H Q I q⟩
theorem PG.ex {ι : Type} {t : ι → TG} (h : ∀ i, PG X tg (t i)) : PG X tg (fun v σ H Q => ∃ i, t i v σ H Q) := ⟨fun pins s σ H v u Q I r ⟨i, q⟩ => (h i).run pins s σ H v u Q I r q⟩
/-- a clause's tests -/
def JTs (X : Cx) (g : G) (T : Tx) (W : WX) (es : List Expr) (f : M Bool) : Prop := ∀ τ t, PTs X es (RdM g (T.tmp τ t) W PB f)
theorem jts_nil : JTs X g T W [] (mret true) := fun τ t => ⟨fun pins s σ H Q I ⟨B, s', R, p⟩ => wpAny_tests_nil ⟨H, I, p true B H R (Evl.Ex.refl _) rfl⟩⟩
theorem jts_one {f : M Bool} (h : JT X g T W e f) : JTs X g T W [e] f := fun τ t => pts_one (h τ t)
theorem jr_lc {vs : List Nat} {own : List (Str × Nat)} {ifs : List Expr} {scope : Scope} {fi : M (List D)} {tm : D → S → Option S} {tt : M Bool} {te : M D} (hc : X.calm = true) (hN : X.N.Nodup) (hi : JI X g T W tg iter fi) (ok : BlkOk X.N X.env.scope scope own) (hv : own.map (·.2) = vs)
    (hg : ∀ (s : Shared) (H : Hp) (C : Addr) (cl : List (Str × Addr)) (fp : List Addr), JG (X.blk s H scope (compEnvC scope cl C X.env) fp) g T (some vs) tg tm)
    (ht : ∀ (s : Shared) (H : Hp) (C : Addr) (cl : List (Str × Addr)) (fp : List Addr), JTs (X.blk s H scope (compEnvC scope cl C X.env) fp) g T W0 ifs tt)
    (he : ∀ (s : Shared) (H : Hp) (C : Addr) (cl : List (Str × Addr)) (fp : List Addr), JE (X.blk s H scope (compEnvC scope cl C X.env) fp) g T W0 elt te)
    (hs : ∀ x, foldedSetIterable iter X.env x = pure x := by intro _; rfl) : JR X g T W (.ListComp elt [⟨tg, iter, ifs, 0⟩] scope pos) (mlc vs fi tm tt te) := fun τ t => by
  subst hv
  exact PE.imp (pe_lc hc hN (hi τ t) ok (fun s H C cl fp => PG.ex fun q : L2.St × S => hg s H C cl fp q.1 q.2) (fun s H C cl fp => PTs.ex fun q : L2.St × S => ht s H C cl fp q.1 q.2) (fun s H C cl fp => PE.ex fun q : L2.St × S => he s H C cl fp q.1 q.2) hs) fun σ H Q h => lc_rd h
/-- name = [..] on one line -/
theorem js_setLc {i : Nat} {y : Str} {py : Pos} {vs : List Nat} {own : List (Str × Nat)} {ifs : List Expr} {scope : Scope} {spos : Pos} {fi : M (List D)} {tm : D → S → Option S} {tt : M Bool} {te : M D} (hc : X.calm = true) (hN : X.N.Nodup) (hy : X.N[i]? = some y) (hyl : X.env.scope.names.lookup y = some .local)
    (hsw : swapsWith (.ListComp elt [⟨tg, iter, ifs, 0⟩] scope pos) (some (.Name y py)) spos.line X.env = pure true) (hi : JI X g T W tg iter fi) (ok : BlkOk X.N X.env.scope scope own) (hv : own.map (·.2) = vs)
    (hg : ∀ (s : Shared) (H : Hp) (C : Addr) (cl : List (Str × Addr)) (fp : List Addr), JG (X.blk s H scope (compEnvC scope cl C X.env) fp) g T (some vs) tg tm)
    (ht : ∀ (s : Shared) (H : Hp) (C : Addr) (cl : List (Str × Addr)) (fp : List Addr), JTs (X.blk s H scope (compEnvC scope cl C X.env) fp) g T W0 ifs tt)
    (he : ∀ (s : Shared) (H : Hp) (C : Addr) (cl : List (Str × Addr)) (fp : List Addr), JE (X.blk s H scope (compEnvC scope cl C X.env) fp) g T W0 elt te) (hio : T.io i = none)
    (hs : ∀ x, foldedSetIterable iter X.env x = pure x := by intro _; rfl) : JS X g T W (.Assign [.Name y py] (.ListComp elt [⟨tg, iter, ifs, 0⟩] scope pos) spos) (ms (mlc vs fi tm tt te) fun r => stSet i r.sl) := by
  subst hv
  refine PS.imp (ps_setLc hc hN hy hyl hsw (hi T.τ T.t) ok (fun s H C cl fp => PG.ex fun q : L2.St × S => hg s H C cl fp q.1 q.2) (fun s H C cl fp => PTs.ex fun q : L2.St × S => ht s H C cl fp q.1 q.2) (fun s H C cl fp => PE.ex fun q : L2.St × S => he s H C cl fp q.1 q.2) hs) fun D σ H ⟨B, s, R, p⟩ => ?_
  have key : ∀ Q : VK, RdM g (T.tmp T.τ T.t) W (RvOk g (T.tmp T.τ T.t)) (mlc (own.map (·.2)) fi tm tt te) σ H Q → tLc (RdM g (T.tmp T.τ T.t) W (PI' g) fi) (fun v σ H Q => ∃ q : L2.St × S, RdG g (T.tmp q.1 q.2) (some (own.map (·.2))) tm v σ H Q) (fun σ H Q => ∃ q : L2.St × S, RdM g (T.tmp q.1 q.2) W0 PB tt σ H Q) (fun σ H Q => ∃ q : L2.St × S, RdM g (T.tmp q.1 q.2) W0 (PD g) te σ H Q) (own.map (·.2)) σ H Q := fun Q h => lc_rd h
  refine key (fun x H1 => gName i x σ H1 D.nx) ((PostS.bind (P := RvOk g T) R p).mono fun v H1 ⟨r, B1, s1, R1, e1, q, p1⟩ => ?_)
  unfold stSet at p1
  by_cases hi : i < s1.length
  · rw [if_pos hi] at p1; exact p1 _ B1 H1 (R1.stored hi hio q) (Evl.Ex.refl _)
  · rw [if_neg hi] at p1; exact p1.elim
end TW

set_option Elab.async false
set_option linter.all false
set_option autoImplicit false
set_option maxRecDepth 100000
set_option maxHeartbeats 1000000
namespace TW
open PySem PySem.Spec PyProof.Rows L2
variable {g : G} {T : Tx} {B B' H H' : Hp} {σ : L2.St} {s : S} {W : WX} {α β γ δ : Type} {P : PP α β}
variable {X : Cx} {e a b c tg iter elt : Expr} {es : List Expr} {pos : Pos}

/-! ## attributes -/
def fldD (ns : Nat → List Str) (f : Str) : D → Option D
  | .obj c ds => ((ns c).zip ds).lookup f
  | _ => none
theorem lookup_dens {f : Str} {d : D} : ∀ {ns : List Str} {ds : List D} {vs : List V}, Dens g B ds vs → (ns.zip ds).lookup f = some d → f ∈ ns ∧ ∃ v, (ns.zip vs).lookup f = some v ∧ Den g B d v
  | [], ds, vs, h, e => by simp at e
  | n :: ns, [], vs, h, e => by simp at e
  | n :: ns, x :: ds, vs, ⟨v, w, e1, h1, h2⟩, e => by
    subst e1
    rw [List.zip_cons_cons] at e ⊢
    simp only [List.lookup] at e ⊢
    cases q : (f == n) with
    | true =>
      rw [q] at e
      cases e
      have : f = n := by simpa using q
      exact ⟨by rw [this]; exact List.mem_cons_self, v, rfl, h1⟩
    | false =>
      rw [q] at e
      obtain ⟨k1, k2⟩ := lookup_dens h2 e
      exact ⟨List.mem_cons_of_mem _ k1, k2⟩
/-- what of the text the classes with this attribute must have -/
def FldF (g : G) (f : Str) : Prop := ∀ c, f ∈ g.names c → Cls g.K (g.cn c) ∧ NoAttr g.K (g.cn c) f
def mfld (ns : Nat → List Str) (f : Str) (fo : M Opd) : M D := mun (fldD ns f) fo
theorem je_fld {f : Str} {fo : M Opd} (hK : X.K = g.K) (hF : FldF g f) (he : JO X g T W e fo) (hb : attributeBase e f X.env (eval e X.env) = eval e X.env) : JE X g T W (.Attribute e f pos) (mfld g.names f fo) :=
  fun τ t => PE.imp (pe_fld (he τ t) hb) fun σ H Q ⟨B, s, R, p⟩ => (PostM.bind (P := PO' g) R p).mono fun x H1 ⟨o, B1, s1, R1, e1, q1, p1⟩ => by
    rw [hK]
    refine un_post (f := fldD g.names f) (r := fun x H1 Q => ∃ a C dx fs v, x = .ref a ∧ H1 a = some (.ins C dx fs) ∧ Cls g.K C ∧ NoAttr g.K C f ∧ fs.lookup f = some v ∧ Q v H1) (fun T B H σ s x dx d Q R h e q => ?_) R1 q1 p1
    cases dx with
    | obj c ds =>
      obtain ⟨a, dx, vs, rfl, k1, k3⟩ := h
      obtain ⟨m, v, l, hv⟩ := lookup_dens k3 e
      exact ⟨a, g.cn c, dx, _, v, rfl, k1, (hF c m).1, (hF c m).2, l, q v B H R (Evl.Ex.refl _) hv⟩
    | _ => cases e
def putO : List Str → Str → List D → D → Option (List D)
  | n :: _, f, [], d => if n = f then some [d] else none
  | n :: ns, f, x :: xs, d => if n = f then some (d :: xs) else (putO ns f xs d).map (x :: ·)
  | [], _, _, _ => none
theorem putO_dens {f : Str} {d : D} {v : V} (hv : Den g B d v) : ∀ {ns : List Str} {ds ds' : List D} {vs : List V}, Dens g B ds vs → putO ns f ds d = some ds' → f ∈ ns ∧ ∃ vs', putF f v (ns.zip vs) = ns.zip vs' ∧ Dens g B ds' vs'
  | [], ds, ds', vs, h, e => by unfold putO at e; cases e
  | n :: ns, [], ds', vs, h, e => by
    cases h
    unfold putO at e
    by_cases c : n = f
    · rw [if_pos c] at e; cases e
      subst c
      exact ⟨List.mem_cons_self, [v], by simp [putF], Dens.cons hv Dens.nil⟩
    · rw [if_neg c] at e; cases e
  | n :: ns, x :: ds, ds', vs, ⟨u, w, e1, h1, h2⟩, e => by
    subst e1
    unfold putO at e
    rw [List.zip_cons_cons]
    by_cases c : n = f
    · rw [if_pos c] at e; cases e
      refine ⟨by rw [c]; exact List.mem_cons_self, v :: w, ?_, Dens.cons hv h2⟩
      rw [List.zip_cons_cons]; unfold putF; rw [if_pos c]
    · rw [if_neg c] at e
      cases q : putO ns f ds d with
      | none => rw [q] at e; cases e
      | some es =>
        rw [q] at e; cases e
        obtain ⟨m, vs', k1, k2⟩ := putO_dens hv h2 q
        refine ⟨List.mem_cons_of_mem _ m, u :: vs', ?_, Dens.cons h1 k2⟩
        rw [List.zip_cons_cons]; unfold putF; rw [if_neg c, k1]
def mputf (ns : Nat → List Str) (k : Nat) (f : Str) (fv : M D) : MS := ms fv fun d s => match s[k]? with
  | some (.o c ds) => (match putO (ns c) f ds d with
    | some ds' => .nx (s.set k (.o c ds'))
    | none => .bad)
  | _ => .bad
theorem js_putf {k : Nat} {f : Str} {st : Stmt} {fv : M D} (hK : X.K = g.K) (hF : FldF g f) (hlen : ∀ c, (g.names c).length < 1000) (ho : PE X b (tVar k)) (hps : ∀ ta tv, PE X b ta → PE X e tv → PS X st (sFld X.K ta tv f)) (hv : JE X g T W e fv) : JS X g T W st (mputf g.names k f fv) :=
  PS.imp (hps _ _ ho (hv T.τ T.t)) fun D σ H ⟨B, s, R, p⟩ => (PostS.bind (P := PD g) R p).mono fun y H1 ⟨d, B1, s1, R1, e1, q1, p1⟩ => by
    rw [hK]
    cases hs : s1[k]? with
    | none => rw [hs] at p1; exact p1.elim
    | some x =>
      rw [hs] at p1
      cases x with
      | o c ds =>
        dsimp only at p1
        cases ep : putO (g.names c) f ds d with
        | none => rw [ep] at p1; exact p1.elim
        | some ds' =>
          rw [ep] at p1
          obtain ⟨a, dx, vs, ha, b0, h0, hd⟩ := R1.geto hs
          obtain ⟨m, vs', k1, k2⟩ := putO_dens q1 hd ep
          refine ⟨.ref a, ha, a, g.cn c, dx, _, rfl, h0, (hF c m).1, (hF c m).2, ?_, ?_⟩
          · rw [List.length_zip]; exact Nat.lt_of_le_of_lt (Nat.min_le_left _ _) (hlen c)
          · rw [k1]
            exact p1 σ B1 _ (R1.write hs rfl ha rfl ⟨a, dx, vs', rfl, b0, upd_same, k2⟩) (Evl.Ex.refl _)
      | _ => exact p1.elim
/-! ## instances made -/
theorem run_makeS {CX : CXT} {k : Nat} {f C : Addr} {fd : FuncData} {ps : List Str} {sp : Sp} {dvs : List V} {ds : List Value} {E : XK} {pins : List (Addr × Obj)} {σ : L2.St} {H : Hp} {s : Shared} {Q : VK} {us : List Value} {vs : List V} (M : Mk X.K C f) (F : FnOk X.prog X.w X.K X.mg X.base CX k f fd ps sp) (hr : Room (k + 1) X.A) (hb : Binds X.K fd ps ds) (hd : Vals dvs ds)
    (hx : PassesAt CX X σ E) (I : Inv X pins σ H s) (r : Vals vs us)
    (h : ∀ x dx, H x = none → H dx = none → dx ≠ x → sp (.ref x :: (vs ++ dvs)) (upd (upd H dx (.own x)) x (.ins C dx [])) (fun v H2 => v = .non ∧ Q (.ref x) H2) E) :
    wpAny (model X.prog X.w) X.A (call (.ref C) us) (EP X pins σ Q) X.xe s := by
  have hq := h (s.heap.objs.size + 1) s.heap.objs.size (I.hok.fresh (Nat.le_succ _)) (I.hok.fresh (Nat.le_refl _)) (Nat.ne_of_lt (Nat.lt_succ_self _))
  have I2 := Inv.made (C := C) I
  have r2 : Vals (V.ref (s.heap.objs.size + 1) :: (vs ++ dvs)) (Value.ref (s.heap.objs.size + 1) :: (us ++ ds)) := .cons rfl (r.append hd)
  have hl : (Value.ref (s.heap.objs.size + 1) :: us ++ ds).length = ps.length := by
    have e := r2.length
    rw [F.len _ _ _ _ hq] at e
    exact e.symm
  refine wpAny_call (make_map (f := f) I.kIn M.makes M.init (beq_iff_eq.mp M.fn) (codeAny_mono (F.run _ X.stack _ _ ⟨Value.ref (s.heap.objs.size + 1) :: us, []⟩ (Value.ref (s.heap.objs.size + 1) :: (us ++ ds)) _ _ E (hr.make C us [])
    (I2.env0.make C us []) (hb _ (Value.ref (s.heap.objs.size + 1) :: us) I2.kIn hl) r2 hq) fun r s' hq' => ?_))
  cases r with
  | error e => exact hx pins _ _ e s' I2 hq'
  | ok fl =>
    cases fl with
    | ret u =>
      obtain ⟨v, H', I3, rv, ev, q3⟩ := I2.after hq'
      subst ev
      exact ⟨rv, ⟨V.ref (s.heap.objs.size + 1), H', I3, rfl, q3⟩⟩
    | next => exact False.elim hq'
    | brk => exact False.elim hq'
    | cont => exact False.elim hq'
def tMakeS (C : Addr) (sp : Sp) (dvs : List V) (E : L2.St → XK) (t : TA) : TE := fun σ H Q => t σ H fun vs H1 => ∀ x dx, H1 x = none → H1 dx = none → dx ≠ x →
  sp (.ref x :: (vs ++ dvs)) (upd (upd H1 dx (.own x)) x (.ins C dx [])) (fun v H2 => v = .non ∧ Q (.ref x) H2) (E σ)
theorem pe_makeS {CX : CXT} {k : Nat} {f C : Addr} {fd : FuncData} {ps : List Str} {sp : Sp} {dvs : List V} {ds : List Value} {E : L2.St → XK} {x : Str} {p : Pos} {t : TA} (M : Mk X.K C f) (F : FnOk X.prog X.w X.K X.mg X.base CX k f fd ps sp) (hr : Room (k + 1) X.A) (hg : Gl X x) (hm : X.mg x = some (.ref C)) (hb : Binds X.K fd ps ds) (hd : Vals dvs ds) (hx : ∀ σ, PassesAt CX X σ (E σ))
    (ha : PA X (e :: es) t) (hdb : (x == ("__debug__" : Str)) = false := by decide) (he : starEach (e :: es) X.env = (false, eval e X.env) :: starEach es X.env := by rfl) (hpl : (backTo pos (starEach es X.env)).any (·.1) = false := by rfl) :
    PE X (.Call (.Name x p) (e :: es) [] pos) (tMakeS C sp dvs E t) := by
  refine ⟨fun pins s σ H Q I h => ?_⟩
  refine wpAny_Call_Name_kw (ld_glob I hg hm ?_ hdb)
  refine PySem.W.callWith_K (h₀ := X.base) I.ok.mod.kin M.kp (thn (ha.run pos pins s σ H _ I h) fun us s1 ⟨vs, H1, I1, r, q⟩ => ⟨I1.kIn, ?_⟩) he hpl
  exact run_makeS M F hr hb hd (hx σ) I1 r q
def mmake (c : Nat) (f : Fd) (dds : List D) (fa : M (List Opd)) : M Rv := mbind fa fun os s => if dupFree s os = true then (match argsOf s os with
  | none => .bad
  | some as => match f (.o c [] :: (as ++ dds.map .v)) with
    | .ret (.v .non) (.o c' ds :: post) => if c' = c then .ok (.o c ds) (putBack s os post) else .bad
    | .ex c' ds post => .ex c' ds (putBack s os (post.drop 1))
    | _ => .bad) else .bad
theorem dupFree_new {s : S} {os : List Opd} {x : Sl} (hk : ∀ k, Opd.s k ∈ os → k < s.length) (h : dupFree s os = true) : dupFree (s ++ [x]) (.s s.length :: os) = true := by
  have h1 := dupFree_app (t := [x]) hk h
  unfold dupFree
  rw [h1, Bool.and_true, Bool.or_eq_true]
  right
  rw [List.all_eq_true]
  intro o ho
  cases o with
  | d y => rfl
  | s k => have := hk k ho; simp [Opd.isS]; omega
/-- a new instance is handed to __init__: what stands behind -/
theorem Rel.made {os : List Opd} {vs : List V} {as : List Sl} {dds : List D} {dvs : List V} {post : List Sl} {x dx : Addr} {cc : Nat} (R : Rel g T B H σ s) (hp : PAs g σ s os B H vs) (hd : dupFree s os = true) (ha : argsOf s os = some as) (hdd : Dens g B dds dvs)
    (nx : H x = none) (ndx : H dx = none) (ne : dx ≠ x) :
    ArgsOk g B (upd (upd H dx (.own x)) x (.ins (g.cn cc) dx [])) (.o cc [] :: (as ++ dds.map .v)) (.ref x :: (vs ++ dvs)) ∧
    (After g B (upd (upd H dx (.own x)) x (.ins (g.cn cc) dx [])) B' H' (.o cc [] :: (as ++ dds.map .v)) (.ref x :: (vs ++ dvs)) post → Rel g T B' H' σ (putBack s os (post.drop 1)) ∧ ∀ ds, post[0]? = some (.o cc ds) → RvOk g T σ (putBack s os (post.drop 1)) (.o cc ds) B' H' (.ref x)) := by
  obtain ⟨h1, h2⟩ := argsOf_app (t := T.t) ha
  have R2 : Rel g T B (upd (upd H dx (.own x)) x (.ins (g.cn cc) dx [])) σ s := (R.newH ndx).newH (by rw [upd_ne ne.symm]; exact nx)
  have hx0 : T.H0 x = none := R.h0_of nx
  have hdx0 : T.H0 dx = none := R.h0_of ndx
  have ok0 : SlOk g B (upd (upd H dx (.own x)) x (.ins (g.cn cc) dx [])) (.o cc []) (some (.ref x)) := ⟨x, dx, [], rfl, Evl.fresh_back R.bh nx, by rw [upd_same]; simp, Dens.nil⟩
  have hsl : ∀ (i : Nat) (y : Sl), (s ++ T.t)[i]? = some y → y.own = true → (σ ++ T.τ)[i]? ≠ some (some (.ref x)) := fun i y a1 a2 a3 => by
    obtain ⟨_, o, z⟩ := R.r.ownH a1 a2 a3
    rw [nx] at z; cases z
  have Rp : Rel0 g T B (upd (upd H dx (.own x)) x (.ins (g.cn cc) dx [])) (σ ++ T.τ ++ [some (.ref x)]) (s ++ T.t ++ [.o cc []]) := Rel0.push R2.r hx0 hsl ok0
  -- the arguments with the new one ahead
  have hl : (s ++ T.t).length = (σ ++ T.τ).length := by have := R.ln; have := R.r.len; omega
  have ps' : PAs g (σ ++ T.τ ++ [some (.ref x)]) (s ++ T.t ++ [.o cc []]) (.s (s ++ T.t).length :: os) B (upd (upd H dx (.own x)) x (.ins (g.cn cc) dx [])) (.ref x :: vs) := by
    refine PAs.cons (show (σ ++ T.τ ++ [some (V.ref x)])[(s ++ T.t).length]? = some (some (.ref x)) by rw [hl]; simp) ?_
    exact (PAs.app (PAs.app hp)).mono (Evl.Ex.refl B)
  have hos : ∀ k, Opd.s k ∈ os → k < (s ++ T.t).length := fun k hk => by have := h2 k hk; simp; omega
  have hd' : dupFree (s ++ T.t ++ [.o cc []]) (.s (s ++ T.t).length :: os) = true := dupFree_new hos (dupFree_app h2 hd)
  have ha' : argsOf (s ++ T.t ++ [.o cc []]) (.s (s ++ T.t).length :: os) = some (.o cc [] :: as) := by
    unfold argsOf
    have e1 : argOf (s ++ T.t ++ [.o cc []]) (.s (s ++ T.t).length) = some (.o cc []) := by
      show ((s ++ T.t ++ [Sl.o cc []])[(s ++ T.t).length]?).bind Sl.some? = _
      simp [Sl.some?]
    rw [e1, (argsOf_app (t := [.o cc []]) h1).1]
  have A0 := Rp.args_ok ps' hd' ha' hdd
  refine ⟨A0, fun A => ?_⟩
  have r := Rp.called ps' hd' ha' hdd A
  have hk' : ∀ k, Opd.s k ∈ os → k < s.length := h2
  have plen : (putBack s os (post.drop 1)).length = s.length := by unfold putBack; simp
  -- the state behind
  have est : putBack (s ++ T.t ++ [.o cc []]) (.s (s ++ T.t).length :: os) post = putBack s os (post.drop 1) ++ T.t ++ [post.getD 0 .no] := by
    apply List.ext_getElem?
    intro i
    rw [putBack_get]
    by_cases hi : i < (s ++ T.t).length
    · rw [List.getElem?_append_left hi, List.getElem?_append_left (l₁ := putBack s os (post.drop 1) ++ T.t) (by rw [List.length_append, plen]; rw [List.length_append] at hi; exact hi)]
      have hne : Opd.isS i (.s (s ++ T.t).length) = false := by simp [Opd.isS]; simp at hi; omega
      rw [← putBack_app hk', putBack_get]
      congr 1
      funext y
      by_cases hy : y.own = true
      · rw [if_pos hy, if_pos hy, List.findIdx?_cons, hne]
        simp only [Bool.false_eq_true, if_false]
        cases os.findIdx? (Opd.isS i) with
        | none => rfl
        | some j =>
          simp [List.getD_eq_getElem?_getD, List.getElem?_drop, Nat.add_comm]
      · rw [if_neg hy, if_neg hy]
    · rw [List.getElem?_append_right (by omega), List.getElem?_append_right (l₁ := putBack s os (post.drop 1) ++ T.t) (by rw [List.length_append, plen]; rw [List.length_append] at hi; omega)]
      have e2 : (putBack s os (post.drop 1) ++ T.t).length = (s ++ T.t).length := by rw [List.length_append, plen, List.length_append]
      rw [e2]
      cases q : i - (s ++ T.t).length with
      | zero =>
        have : i = (s ++ T.t).length := by omega
        subst this
        simp [Sl.own, List.findIdx?_cons, Opd.isS, List.getD_eq_getElem?_getD]
      | succ n => simp
  rw [est] at r
  obtain ⟨x', p1, p2, p3⟩ := A.io 0 (.o cc []) (.ref x) rfl rfl rfl
  have ex : post.getD 0 .no = x' := by rw [List.getD_eq_getElem?_getD, p1]; rfl
  rw [ex] at r
  obtain ⟨r1, r2, r3, r4⟩ := r.pop p2 (fun j a h => by have := R.iob j a h; simp; omega)
  refine ⟨⟨r1, by rw [plen]; exact R.ln, R.iob⟩, fun ds e0 => ?_⟩
  rw [p1] at e0; cases e0
  obtain ⟨a', dx', us, ea, f1, f3, f5⟩ := r4
  cases ea
  exact ⟨x, dx', us, rfl, ⟨f1, r2, r3, f3⟩, f5⟩
end TW

set_option Elab.async false
set_option linter.all false
set_option autoImplicit false
set_option maxRecDepth 100000
set_option maxHeartbeats 1000000
namespace TW
open PySem PySem.Spec PyProof.Rows L2
open Sem (wp)
variable {g : G} {T : Tx} {B B' H H' : Hp} {σ : L2.St} {s : S} {W : WX} {α β γ δ : Type} {P : PP α β}
variable {X : Cx} {e a b c tg iter elt : Expr} {es : List Expr} {pos : Pos}

/-! ## enumerate of a tuple -/
theorem meets_enumT {v : Value} {o : Obj} {H : Heap → Prop} (B : Begins v o H) :
    Meets (Builtin.«enumerate.__new__» ⟨[.type "enumerate", v], []⟩) (fun _ R s => H s.heap ∧
      R (.ok (.ret (.ref (s.heap.push o).objs.size))) { s with heap := (s.heap.push o).push { cls := .type "enumerate", data := .fields #[.none, .bool false, .ref s.heap.objs.size, rawInt 0, .none, .none] } }) :=
  .of_wp fun prog w A R s h => by
    obtain ⟨hp, g, d, tk, os⟩ := s; obtain ⟨h1, h⟩ := h
    have hsub := sub_enumerate
    have q1 : ∀ {A' : Around} {E : Value → Shared → Prop} {Q : Value → Shared → Prop}, Q (.ref hp.objs.size) ⟨hp.push o, g, d, tk, os⟩ → wpAny (model prog w) A' (pyIter v) Q E ⟨hp, g, d, tk, os⟩ :=
      fun q => B.iter prog w _ _ ⟨hp, g, d, tk, os⟩ _ h1 q
    wp_walk using q1
    refine wpAny_stack_any fun st => wpAny_pure ?_
    split
    · rename_i c _ _ _ _ _
      cases (c == Value.type "enumerate")
      · wp_walk using q1
        exact ⟨_, rfl, h⟩
      · wp_walk using q1
        exact ⟨_, rfl, h⟩
    · wp_walk using q1
      exact ⟨_, rfl, h⟩
theorem call_enumT {prog : Program} {w : World} {A : Around} {E : Value → Shared → Prop} {s : Shared} {v : Value} {o : Obj} {H : Heap → Prop} {Q : Value → Shared → Prop} (B : Begins v o H) (h1 : H s.heap)
    (h : ∀ h', IsEnum h' (s.heap.objs.size + 1) s.heap.objs.size 0 .none → h'.get? s.heap.objs.size = some o → h'.objs.size = s.heap.objs.size + 2 →
      (∀ b o, s.heap.get? b = some o → h'.get? b = some o) → Q (.ref (s.heap.objs.size + 1)) { s with heap := h' }) :
    wpAny (model prog w) A (call (.type "enumerate") [v]) Q E s := by
  refine callType_new F.called_enumerate (by decide) (F.typeCall_enumerate_1 _) (F.newCall_enumerate_1 _) (fun obj => F.args_object_init_2 obj _) F.entry_enumerate_new
    (meets_enumT B) ⟨h1, ?_⟩
  have hz : (s.heap.push o).objs.size = s.heap.objs.size + 1 := Heap.size_push ..
  show _ ∧ _
  rw [hz]
  have he : IsEnum ((s.heap.push o).push { cls := .type "enumerate", data := .fields #[.none, .bool false, .ref s.heap.objs.size, rawInt 0, .none, .none] }) (s.heap.objs.size + 1) s.heap.objs.size 0 .none := by
    have := Heap.get?_push_size (s.heap.push o) (o := { cls := .type "enumerate", data := .fields #[.none, .bool false, .ref s.heap.objs.size, rawInt 0, .none, .none] }) rfl
    rw [hz] at this; exact this
  refine ⟨⟨_, he, rfl⟩, h _ he (Heap.get?_push_of_some _ (Heap.get?_push_size _ B.free)) (by rw [Heap.size_push, hz]) fun b o x => Heap.get?_push_of_some _ (Heap.get?_push_of_some _ x)⟩
def IteT (K : PySem.W.Frag) (a : Addr) : It :=
  ⟨fun i H => ∃ (xs : List V) (x : V), SqT K H a xs ∧ xs[i]? = some x, fun i H v H' => ∃ T x, v = .ref T ∧ H T = none ∧ H' = upd H T (.tup [.int (i : Nat), x]) ∧ ∀ xs, SqT K H a xs → xs[i]? = some x, fun i H => ∃ xs : List V, SqT K H a xs ∧ xs.length ≤ i⟩
theorem turn_enumT {P : Program} {w : World} {K : PySem.W.Frag} {elts : List Expr} {kk : Nat} {tpos : Pos} (a e it : Addr) :
    Turn P w K (.Tuple elts kk tpos) (IteT K a) [e, it] e (fun i h => (∃ old, IsEnum h e it ((i : Nat) : Int) old) ∧ h.IsTupleIter it a i ∧ e ≠ it) where
  mem := by simp
  obj := fun i h st b hb => by
    obtain ⟨⟨old, he⟩, ⟨o, ho, hc, hd⟩, _⟩ := st
    have e' : b = e ∨ b = it := by simpa using hb
    rcases e' with z | z
    · rw [z]; exact ⟨_, he, fun v q => nomatch q⟩
    · rw [z]; exact ⟨o, ho, fun v q => by rw [hd] at q; cases q⟩
  keep := fun i h h' st k => let ⟨⟨old, he⟩, hi, hne⟩ := st; ⟨⟨old, k e (by simp) _ he⟩, hi.at fun o q => k it (by simp) o q, hne⟩
  item := by
    intro X hP hw hK hc i pins s σ H E I hf st hg
    subst hP hw hK
    obtain ⟨⟨old, he⟩, hit, hne⟩ := st
    obtain ⟨xs, x, hq, hx⟩ := hg
    obtain ⟨its, rv, p, hz⟩ := I.tuple hq
    obtain ⟨u, hu, ru⟩ := rv.get hx
    have hel : e < s.heap.objs.size := Heap.lt_size he
    have hil : it < s.heap.objs.size := by obtain ⟨_, q, _⟩ := hit; exact Heap.lt_size q
    have pT : s.heap.IsTuple a its.toArray := p
    have hai : a ≠ it := fun z => by
      obtain ⟨o, h1, h2, _⟩ := pT
      obtain ⟨o', h3, h4, _⟩ := hit
      rw [z, h3] at h1; cases h1
      rw [h4] at h2; exact absurd (Value.type.inj h2) (by decide)
    have hae : a ≠ e := fun z => by
      obtain ⟨o, h1, h2, _⟩ := pT
      rw [z] at h1
      have he2 : s.heap.get? e = some _ := he
      rw [he2] at h1; cases h1
      exact absurd (Value.type.inj h2) (by decide)
    have hlt : i < its.toArray.size := by
      have := (List.getElem?_eq_some_iff.mp hu).1
      simpa using this
    refine wpAny_pyNext_enum_itemC (Draws.tuple (A := X.A.in1) (I.ok.hd hc) it a hai its.toArray) he ⟨hit, pT⟩ hlt hne (by simp; exact ⟨hne, Ne.symm hae⟩) fun y h' tk hP ho hit' hT hsz hk => ?_
    have ey : y = u := by
      have : its.toArray[i]? = some u := by simpa using hu
      rw [this] at hP; cases hP; rfl
    subst ey
    refine ⟨_, rfl, wpAny_letOwnedTupleGo_enum (s := { s with heap := h', toks := tk + 1 }) ho fun h'' he' sb => ?_⟩
    have hT2 : h''.get? s.heap.objs.size = some { cls := .type "tuple", data := .seq #[.int i tk, y] } := (sb.2 _ (Nat.ne_of_gt hel)).trans hT
    have new : ObjOk X.prog X.w (upd H s.heap.objs.size (.tup [.int (i : Nat), x])) h'' s.heap.objs.size (.tup [.int (i : Nat), x]) :=
      ⟨by show 2 ≤ sizeLine; decide, [.int i tk, y], .cons ⟨_, rfl⟩ (.cons ru .nil), ⟨_, hT2, rfl, _, rfl⟩⟩
    have I1 : Inv X pins σ (upd H s.heap.objs.size (.tup [.int (i : Nat), x])) { s with heap := h'', toks := tk + 1 } :=
      I.turnedNew (ch := [e, it]) (fun b ob hb q => (sb.2 b (fun z => hb (by simp [z]))).trans (hk b ob (fun z => hb (by simp [z])) (fun z => hb (by simp [z])) q)) hf (Nat.le_refl _) new
    refine ⟨.ref s.heap.objs.size, _, I1, rfl, ⟨_, x, rfl, I.hok.fresh (Nat.le_refl _), rfl, fun ys hy => by rw [I.tuple_inj hy hq]; exact hx⟩, ⟨⟨y, ?_⟩, hit'.1.at fun o q => (sb.2 it (Ne.symm hne)).trans q, hne⟩, fun b hb => ?_⟩
    · have e1 : ((i + 1 : Nat) : Int) = (i : Int) + 1 := by omega
      rw [e1]; exact he'
    · have hb' : b < s.heap.objs.size := by
        have e' : b = e ∨ b = it := by simpa using hb
        rcases e' with z | z
        · rw [z]; exact hel
        · rw [z]; exact hil
      rw [upd_ne (Nat.ne_of_lt hb')]
      exact (hf b hb).1
  done := by
    intro X hP hw hK hc i pins s σ H E I hf st hg
    subst hP hw hK
    obtain ⟨⟨old, he⟩, hit, hne⟩ := st
    obtain ⟨xs, hq, hx⟩ := hg
    obtain ⟨its, rv, p, hz⟩ := I.tuple hq
    obtain ⟨f0, f1, f2, f3, f4, f5⟩ := hf it (by simp)
    have hl := rv.length
    have pT : s.heap.IsTuple a its.toArray := p
    have hai : a ≠ it := fun z => by
      obtain ⟨o, h1, h2, _⟩ := pT
      obtain ⟨o', h3, h4, _⟩ := hit
      rw [z, h3] at h1; cases h1
      rw [h4] at h2; exact absurd (Value.type.inj h2) (by decide)
    -- the iterator stands at its own count; done wants it at the size: by the tuple's end
    have hT : s.TypeIs (.ref e) "enumerate" := ⟨_, he, rfl⟩
    unfold pyNext
    refine wpAny_bind (wpAny_attempt (wpAny_callSpecial?_slot (name := Str.ofString "__next__") hT F.slot_enumerate_next
      (wpAny_call_entry F.slot_enumerate_next hT F.entry_enumerate_next ?_ (F.args_enumerate_next_1 _))))
    show wpAny _ _ (field (.ref e) 2 >>= _) _ _ _
    refine wpAny_bind (wpAny_field he rfl (x := .ref it) rfl ?_)
    refine wpAny_bind (wpAny_nextOf_tuple_end (A := X.A.in1) (I.ok.hd hc) hit pT (by simp; omega) fun h' x he' hx' => ?_)
    obtain ⟨o, ho, hc'⟩ := hx'
    refine wpAny_bind (wpAny_isInstance (T := "StopIteration") (b := true) ⟨o, ho, hc'⟩ isSubtype_stop ?_)
    exact wpAny_pure ⟨rfl, I.turned (t' := s.toks) (fun b o hb q => he' b o hb q) f0 f1 f3 f4 f5⟩
  self := fun A i s Q E st h => let ⟨⟨_, he⟩, _⟩ := st; wpAny_pyIter_enum he h
def iEnumT (K : PySem.W.Frag) (ta : TA) : TI := fun σ H R => ta σ H fun vs H1 => ∃ a xs, vs = [.ref a] ∧ SqT K H1 a xs ∧ R (IteT K a) H1
theorem pi_enumT {X : Cx} {e : Expr} {ta : TA} {p pos tpos : Pos} {elts : List Expr} {kk : Nat} (hg : Gl X "enumerate") (hm : X.mg "enumerate" = none) (ha : PA X [e] ta) (hs : starEach [e] X.env = [(false, eval e X.env)] := by rfl) :
    PI X (.Tuple elts kk tpos) (.Call (.Name "enumerate" p) [e] [] pos) (iEnumT X.K ta) := by
  refine ⟨fun pins s σ H R I h => ?_⟩
  refine Call_ (ld_blt I hg hm boot_enumerate (PyProof.Rows.callWith_type1 (thn (ha.run pos pins s σ H _ I h) fun us s1 ⟨vs, H1, I1, r1, q1⟩ => ?_) hs rfl))
  obtain ⟨a, xs, ex, hq, q⟩ := q1
  subst ex
  cases r1 with
  | cons r rr =>
    cases rr
    cases r
    obtain ⟨its, rv, p', hz⟩ := I1.tuple hq
    refine call_enumT (begins_tuple a its.toArray) (show s1.heap.IsTuple a its.toArray from p') fun h' he hit hsz hk => wpAny_pyIter_enum he ?_
    have I2 : Inv X pins σ H1 { s1 with heap := h' } := I1.kept (t' := s1.toks) hk
    refine ⟨s1.heap.objs.size + 1, [s1.heap.objs.size + 1, s1.heap.objs.size], _, _, H1, rfl, I2, turn_enumT a (s1.heap.objs.size + 1) s1.heap.objs.size, ⟨⟨.none, he⟩, ⟨_, hit, rfl, rfl⟩, Nat.succ_ne_self _⟩, fun b hb => ?_, q⟩
    have e' : b = s1.heap.objs.size + 1 ∨ b = s1.heap.objs.size := by simpa using hb
    have hle : s1.heap.objs.size ≤ b := by
      rcases e' with z | z
      · rw [z]; exact Nat.le_add_right _ _
      · rw [z]; exact Nat.le_refl _
    exact I1.fpOk hle (I1.hok.fresh hle)
/-! ## enumerate, by data -/
def enumD (ds : List D) : List D := ds.mapIdx fun i d => .tup [.int (i : Nat), d]
theorem enumD_get {ds : List D} {i : Nat} {d : D} (h : (enumD ds)[i]? = some d) : ∃ d', ds[i]? = some d' ∧ d = .tup [.int (i : Nat), d'] := by
  unfold enumD at h
  rw [List.getElem?_mapIdx] at h
  cases q : ds[i]? with
  | none => rw [q] at h; cases h
  | some d' => rw [q] at h; cases h; exact ⟨d', rfl, rfl⟩
theorem Wk.enumL {K : PySem.W.Frag} (hK : K = g.K) {a : Addr} {vs : List V} {ds : List D} (h : SqL K B a vs) (hd : Dens g B ds vs) : Wk g B (Ite K a) (enumD ds) where
  go := fun B' H' i e e' hi => ⟨vs, vs[i]'(by rw [hd.length]; simpa [enumD] using hi), Evl.ex_l (e.trans e') h, List.getElem?_eq_getElem _⟩
  stop := fun B' H' e e' => ⟨vs, Evl.ex_l (e.trans e') h, by rw [hd.length]; simp [enumD]⟩
  yld := fun B' H' i d x H2 e e' hi hy => by
    obtain ⟨d', hd', rfl⟩ := enumD_get hi
    obtain ⟨p, y, rfl, hn, rfl, hy⟩ := hy
    obtain ⟨v, hv, q⟩ := hd.get hd'
    have := hy vs (Evl.ex_l (e.trans e') h)
    rw [hv] at this; cases this
    have nb : B' p = none := Evl.fresh_back e' hn
    exact .inr ⟨p, _, hn, rfl, p, _, rfl, .inl (.inl upd_same), Dens.cons rfl (Dens.cons ((q.mono e).mono (Evl.Ex.new nb)) Dens.nil)⟩
theorem Wk.enumT {K : PySem.W.Frag} (hK : K = g.K) {a : Addr} {vs : List V} {ds : List D} (h : SqT K B a vs) (hd : Dens g B ds vs) : Wk g B (IteT K a) (enumD ds) where
  go := fun B' H' i e e' hi => ⟨vs, vs[i]'(by rw [hd.length]; simpa [enumD] using hi), Evl.ex_t (e.trans e') h, List.getElem?_eq_getElem _⟩
  stop := fun B' H' e e' => ⟨vs, Evl.ex_t (e.trans e') h, by rw [hd.length]; simp [enumD]⟩
  yld := fun B' H' i d x H2 e e' hi hy => by
    obtain ⟨d', hd', rfl⟩ := enumD_get hi
    obtain ⟨p, y, rfl, hn, rfl, hy⟩ := hy
    obtain ⟨v, hv, q⟩ := hd.get hd'
    have := hy vs (Evl.ex_t (e.trans e') h)
    rw [hv] at this; cases this
    have nb : B' p = none := Evl.fresh_back e' hn
    exact .inr ⟨p, _, hn, rfl, p, _, rfl, .inl (.inl upd_same), Dens.cons rfl (Dens.cons ((q.mono e).mono (Evl.Ex.new nb)) Dens.nil)⟩
def menum (fa : M Opd) : M (List D) := mbind (mbind fa strong) fun d => mopt ((itemsD d).map enumD)
theorem ji_enum {elts : List Expr} {kk : Nat} {p tpos : Pos} {fa : M Opd} (hK : X.K = g.K) (hg : Gl X "enumerate") (hm : X.mg "enumerate" = none) (ha : JO X g T W e fa) (hs : starEach [e] X.env = [(false, eval e X.env)] := by rfl) :
    JI X g T W (.Tuple elts kk tpos) (.Call (.Name "enumerate" p) [e] [] pos) (menum fa) := fun τ t =>
  PI.imp (PI.or (pi_enum hg hm (pa_cons (je_of ha τ t) pa_nil hs) hs) (pi_enumT hg hm (pa_cons (je_of ha τ t) pa_nil hs) hs)) fun σ H R ⟨B, s, Rl, p⟩ => by
    unfold menum at p
    cases ef : mbind fa strong s with
    | bad => unfold mbind at p ef; rw [ef] at p; exact p.elim
    | ex c ds s' => have p' := p; unfold mbind at p ef; rw [ef] at p; exact .inl ⟨B, s, Rl, by unfold mbind; rw [ef]; exact p⟩
    | ok d s' =>
      rw [mbind_ok ef] at p
      cases d with
      | tup ds =>
        refine .inr ⟨B, s, Rl, ?_⟩
        rw [ef]
        intro v B' H' R' e' hd
        obtain ⟨a, vs, rfl, k1, k2⟩ := hd
        rw [← hK] at k1
        exact ⟨a, vs, rfl, Evl.ex_t R'.bh k1, p _ B' H' R' e' (Wk.enumT hK k1 k2)⟩
      | lst ds =>
        refine .inl ⟨B, s, Rl, ?_⟩
        rw [ef]
        intro v B' H' R' e' hd
        obtain ⟨a, vs, rfl, k1, k2⟩ := hd
        exact ⟨a, vs, rfl, .inl (.inl (R'.bh _ _ k1)), p _ B' H' R' e' (Wk.enumL hK (.inl (.inl k1)) k2)⟩
      | arg ds =>
        refine .inl ⟨B, s, Rl, ?_⟩
        rw [ef]
        intro v B' H' R' e' hd
        obtain ⟨a, vs, rfl, k1, k2⟩ := hd
        rw [← hK] at k1
        exact ⟨a, vs, rfl, Evl.ex_l R'.bh k1, p _ B' H' R' e' (Wk.enumL hK k1 k2)⟩
      | _ => exact p.elim
end TW

set_option Elab.async false
set_option linter.all false
set_option autoImplicit false
set_option maxRecDepth 100000
set_option maxHeartbeats 1000000
namespace TW
open PySem PySem.Spec PyProof.Rows L2
variable {g : G} {T : Tx} {B B' H H' : Hp} {σ : L2.St} {s : S} {W : WX} {α β γ δ : Type} {P : PP α β}
variable {X : Cx} {e a b c tg iter elt : Expr} {es : List Expr} {pos : Pos}

/-! ## an instance made -/
theorem jr_make {c : Nat} {f : Fd} {dds : List D} {dvs : List V} {fa : M (List Opd)} (hpe : ∀ ta, PA X es ta → PE X e (tMakeS (g.cn c) (spD g f) dvs (WE W) ta)) (hdd : ∀ B, Dens g B dds dvs) (ha : JA X g T W es fa) : JR X g T W e (mmake c f dds fa) :=
  fun τ t => PE.imp (hpe _ (ha τ t)) fun σ H Q ⟨B, s, R, p⟩ => (PostM.bind (P := PAs g) R p).mono fun vs H1 ⟨os, B1, s1, R1, e1, q, p1⟩ => by
    by_cases hd : dupFree s1 os = true
    · rw [if_pos hd] at p1
      cases ea : argsOf s1 os with
      | none => rw [ea] at p1; exact p1.elim
      | some as =>
        rw [ea] at p1
        dsimp only at p1
        intro x dx nx ndx ne
        have eH : Ex H1 (upd (upd H1 dx (.own x)) x (.ins (g.cn c) dx [])) := (Evl.Ex.new ndx).trans (Evl.Ex.new (by rw [upd_ne ne.symm]; exact nx))
        refine ⟨B1, .o c [] :: (as ++ dds.map .v), R1.bh.trans eH, ?_, ?_⟩
        · exact (Rel.made (B' := B1) (H' := H1) (post := []) (cc := c) R1 q hd ea (hdd B1) nx ndx ne).1
        cases ef : f (.o c [] :: (as ++ dds.map .v)) with
        | bad => rw [ef] at p1; exact p1.elim
        | ex cc ds post =>
          rw [ef] at p1
          intro y B' H' A hx
          exact p1 y B' H' ((Rel.made (cc := c) R1 q hd ea (hdd B1) nx ndx ne).2 A).1 A.eB hx
        | ret r post =>
          rw [ef] at p1
          intro v B' H' A hr
          cases r with
          | v d =>
            cases d with
            | non =>
              refine ⟨hr, ?_⟩
              cases post with
              | nil => exact p1.elim
              | cons y post =>
                cases y with
                | o c' ds =>
                  dsimp only at p1
                  by_cases ec : c' = c
                  · rw [if_pos ec] at p1
                    subst ec
                    have k := (Rel.made (cc := c') R1 q hd ea (hdd B1) nx ndx ne).2 A
                    exact p1 (.ref x) B' H' k.1 A.eB (k.2 ds rfl)
                  · rw [if_neg ec] at p1; exact p1.elim
                | _ => exact p1.elim
            | _ => exact p1.elim
          | _ => exact p1.elim
    · rw [if_neg hd] at p1; exact p1.elim
/-! ## own lists: append, pop, x[i] = v -/
def mappend (k : Nat) (fv : M D) : MS := fun s => match s[k]? with
  | some (.l _) => ms fv (fun d s1 => match s1[k]? with
    | some (.l ds) => if ds.length < 16000000 then .nx (s1.set k (.l (ds ++ [d]))) else .bad
    | _ => .bad) s
  | _ => .bad
theorem szlt {n : Nat} (h : n < 16000000) : n < sizeLine := Nat.lt_of_lt_of_le h (by decide)
theorem js_append {k : Nat} {o : Expr} {apos cpos pos' : Pos} {fv : M D} (hK : X.K = g.K) (ho : PE X o (tVar k)) (hv : JE X g T W e fv)
    (hbase : attributeBase o "append" X.env (eval o X.env) = eval o X.env := by rfl)
    (hfew : ((backTo cpos (starEach [e] X.env)).all (fun x => !x.1) && (backToKw cpos (keywordEach [] X.env)).all (fun x => x.1.isSome)
      && decide ([e].length + ([] : List Keyword).length + (if ([] : List Keyword).isEmpty then 0 else 1) < 30)) = true := by rfl)
    (hline : (apos.endLine == cpos.line) = true := by rfl) (hs : starEach [e] X.env = (false, eval e X.env) :: starEach [] X.env := by rfl)
    (hsw : swapsWith (.Call (.Attribute o "append" apos) [e] [] cpos) none pos'.line X.env = pure false := by rfl) : JS X g T W (.Expr (.Call (.Attribute o "append" apos) [e] [] cpos) pos') (mappend k fv) := by
  refine PS.imp (ps_expr (pe_bm PySem.F.plainAttrs_list PySem.F.slot_list_append PySem.F.type_list_append mt_append ho (pa_cons (hv T.τ T.t) pa_nil hs) hbase hfew hline hs rfl) hsw) fun D σ H ⟨B, s, R, p⟩ => ?_
  unfold mappend at p
  cases hk : s[k]? with
  | none => rw [hk] at p; exact p.elim
  | some y =>
    rw [hk] at p
    cases y with
    | l ds0 =>
      obtain ⟨l, us0, ha, _, hl, _⟩ := R.getl hk
      refine ⟨.ref l, ha, .inl ⟨rfl, us0, .inl (.inl hl)⟩, (PostS.bind (P := PD g) R p).mono fun v H1 ⟨d, B1, s1, R1, e1, q, p1⟩ => ?_⟩
      cases hk1 : s1[k]? with
      | none => rw [hk1] at p1; exact p1.elim
      | some y1 =>
        rw [hk1] at p1
        cases y1 with
        | l ds =>
          dsimp only at p1
          obtain ⟨l', us, ha', _, hl', hd⟩ := R1.getl hk1
          rw [ha] at ha'; cases ha'
          by_cases hz : ds.length < 16000000
          · rw [if_pos hz] at p1
            refine ⟨l, us, v, rfl, rfl, hl', szlt (by rw [hd.length]; exact hz), ?_⟩
            exact p1 σ B1 _ (R1.wrl hk1 ha (hd.append (Dens.cons q Dens.nil))) (Evl.Ex.refl _)
          · rw [if_neg hz] at p1; exact p1.elim
        | _ => exact p1.elim
    | _ => exact p.elim
def mpop (k : Nat) : M D := fun s => match s[k]? with
  | some (.l ds) => (match ds[ds.length - 1]? with
    | some d => .ok d (s.set k (.l ds.dropLast))
    | none => .bad)
  | _ => .bad
theorem Dens.dropLast {ds : List D} {vs : List V} (h : Dens g B ds vs) : Dens g B ds.dropLast vs.dropLast := by
  rw [List.dropLast_eq_take, List.dropLast_eq_take, h.length]; exact h.take _
theorem je_pop {k : Nat} {o : Expr} {apos cpos : Pos} (ho : PE X o (tVar k))
    (hbase : attributeBase o "pop" X.env (eval o X.env) = eval o X.env := by rfl) (hline : (apos.endLine == cpos.line) = true := by rfl) : JE X g T W (.Call (.Attribute o "pop" apos) [] [] cpos) (mpop k) :=
  fun τ t => PE.imp (pe_bm0 PySem.F.plainAttrs_list PySem.F.slot_list_pop PySem.F.type_list_pop mt_pop ho hbase hline) fun σ H Q ⟨B, s, R, p⟩ => by
    unfold mpop at p
    cases hk : s[k]? with
    | none => rw [hk] at p; exact p.elim
    | some y =>
      rw [hk] at p
      cases y with
      | l ds =>
        dsimp only at p
        obtain ⟨l, us, ha, _, hl, hd⟩ := R.getl hk
        cases hy : ds[ds.length - 1]? with
        | none => rw [hy] at p; exact p.elim
        | some d =>
          rw [hy] at p
          obtain ⟨v, hv, q⟩ := hd.get hy
          refine ⟨.ref l, ha, .inl ⟨rfl, us, .inl (.inl hl)⟩, l, us, v, rfl, rfl, hl, by rw [hd.length]; exact hv, ?_⟩
          exact p v B _ (R.wrl hk ha hd.dropLast) (Evl.Ex.refl _) q
      | _ => exact p.elim
def mseti (k : Nat) (fv fi : M D) : MS := ms fv fun d s1 => match s1[k]? with
  | some (.l _) => ms fi (fun i s => match i with
    | .int i => (match s[k]? with
      | some (.l ds) => (match ixN ds.length i with
        | some j => .nx (s.set k (.l (ds.set j d)))
        | none => .bad)
      | _ => .bad)
    | _ => .bad) s1
  | _ => .bad
theorem js_seti {k : Nat} {i : Expr} {st : Stmt} {fv fi : M D} (hps : ∀ te ti, PE X e te → PE X i ti → PS X st (tAsg te (gSub (tVar k) ti rSetL))) (hi : JE X g T W i fi) (hv : JE X g T W e fv) : JS X g T W st (mseti k fv fi) :=
  PS.imp (hps _ _ (hv T.τ T.t) (hi T.τ T.t)) fun D σ H ⟨B, s, R, p⟩ => (PostS.bind (P := PD g) R p).mono fun v H1 ⟨d, B1, s1, R1, e1, q1, p1⟩ => by
    cases hk0 : s1[k]? with
    | none => rw [hk0] at p1; exact p1.elim
    | some y0 =>
      rw [hk0] at p1
      cases y0 with
      | l ds0 =>
        dsimp only at p1
        obtain ⟨l, us0, hl, _⟩ := R1.getl hk0
        refine ⟨.ref l, hl, (PostS.bind (P := PD g) R1 p1).mono fun iv H2 ⟨di, B2, s2, R2, e2, q2, p2⟩ => ?_⟩
        cases di with
        | int i =>
          dsimp only at p2
          cases hk : s2[k]? with
          | none => rw [hk] at p2; exact p2.elim
          | some y =>
            rw [hk] at p2
            cases y with
            | l ds =>
              dsimp only at p2
              cases hj : ixN ds.length i with
              | none => rw [hj] at p2; exact p2.elim
              | some j =>
                rw [hj] at p2
                obtain ⟨l', us, ha', _, hl', hd⟩ := R2.getl hk
                rw [hl] at ha'; cases ha'
                refine ⟨l, us, i, j, rfl, q2, hl', by rw [hd.length]; exact hj, ?_⟩
                exact p2 σ B2 _ (R2.wrl hk hl (Dens.set (q1.mono e2) j hd)) (Evl.Ex.refl _)
            | _ => exact p2.elim
        | _ => exact p2.elim
      | _ => exact p1.elim
/-! ## a list that is changed no more -/
def mfrz (k : Nat) : M Opd := fun s => match s[k]? with
  | some (.l ds) => .ok (.d (.lst ds)) (s.set k (.v (.lst ds)))
  | _ => .bad
theorem jo_frz {k : Nat} (h : PE X e (tVar k)) (hio : T.io k = none) : JO X g T W e (mfrz k) := fun τ t => PE.imp h fun σ H Q ⟨B, s, R, p⟩ => by
  unfold mfrz at p
  cases hk : s[k]? with
  | none => rw [hk] at p; exact p.elim
  | some y =>
    rw [hk] at p
    cases y with
    | l ds =>
      obtain ⟨B', R', e'⟩ := R.frz hk hio
      have hk' : (s.set k (.v (.lst ds)))[k]? = some (.v (.lst ds)) := by
        have := (List.getElem?_eq_some_iff.mp hk).1
        simp [this]
      obtain ⟨v, hv, q⟩ := R'.getv hk'
      exact ⟨v, hv, p v B' H R' e' q⟩
    | _ => exact p.elim
/-! ## a, b = x, y -/
def stPar2 (i j : Nat) : List D → MS
  | [d1, d2] => fun s => if i < s.length ∧ j < s.length then .nx ((s.set i (.v d1)).set j (.v d2)) else .bad
  | _ => fun _ => .bad
theorem ms_ok {α : Type} {fa : M α} {k : α → MS} {a : α} {s s' : S} (h : fa s = .ok a s') : ms fa k s = k a s' := by unfold ms; rw [h]
theorem ms_bad {α : Type} {fa : M α} {k : α → MS} {s : S} (h : fa s = .bad) : ms fa k s = .bad := by unfold ms; rw [h]
def mpar2 (i j : Nat) (fa : M (List Opd)) : MS := ms fa fun os => ms (strongs os) (stPar2 i j)
theorem js_par2 {i j : Nat} {st : Stmt} {fa : M (List Opd)} (hps : ∀ ta, PA X es ta → PS X st (tPar i j ta)) (hi : T.io i = none) (hj : T.io j = none) (ha : JA X g T W es fa) : JS X g T W st (mpar2 i j fa) :=
  PS.imp (hps _ (ha T.τ T.t)) fun D σ H ⟨B, s, R, p⟩ => (PostS.bind (P := PAs g) R p).mono fun vs H1 ⟨os, B1, s1, R1, e1, q1, p1⟩ => by
    rcases strongs_ex (os := os) (s := s1) with ⟨ds, w⟩ | w
    · rw [ms_ok w] at p1
      obtain ⟨_, hd⟩ := strongs_ok R1 q1 w
      match ds, hd, p1 with
      | [d1, d2], hd, p1 =>
        obtain ⟨v1, r1, rfl, h1, v2, r2, rfl, h2, h3⟩ := hd
        cases h3
        replace p1 : PostS g T W B1 (if i < s1.length ∧ j < s1.length then .nx ((s1.set i (.v d1)).set j (.v d2)) else .bad) D := p1
        by_cases hl : i < s1.length ∧ j < s1.length
        · rw [if_pos hl] at p1
          refine ⟨v1, v2, rfl, p1 _ B1 H1 ?_ (Evl.Ex.refl _)⟩
          exact (R1.storev hl.1 hi h1).storev (by rw [List.length_set]; exact hl.2) hj h2
        · rw [if_neg hl] at p1; exact p1.elim
      | [], hd, p1 => exact p1.elim
      | [_], hd, p1 => exact p1.elim
      | _ :: _ :: _ :: _, hd, p1 => exact p1.elim
    · rw [ms_bad w] at p1; exact p1.elim
end TW

set_option Elab.async false
set_option linter.all false
set_option autoImplicit false
set_option maxRecDepth 100000
set_option maxHeartbeats 1000000
namespace TW
open PySem PySem.Spec PyProof.Rows L2
variable {g : G} {T : Tx} {B B' H H' : Hp} {σ : L2.St} {s : S} {W : WX} {α β γ δ : Type} {P : PP α β}
variable {X : Cx} {e a b c tg iter elt : Expr} {es : List Expr} {pos : Pos}

/-! ## isinstance -/
/-- what of the text a class of instances must have -/
structure InsC (K : PySem.W.Frag) (C : Addr) : Prop where
  cl : Cls K C
  ha : PySem.W.findIn K (.ref C) "__class__" = some (some (.builtin "object.__class__"))
  hn : PySem.W.specialIn K (.builtin "object.__class__") "__get__" = some (some (.builtin "getset_descriptor.__get__"))
  htk : PySem.W.takesIn K (.builtin "object.__class__") = some true
  hm : PySem.W.mroIn K C (.type "object") = some true
def tyD (cn : Nat → Addr) : D → Option Value
  | .non => some (.type "NoneType")
  | .bl _ => some (.type "bool")
  | .int _ => some (.type "int")
  | .str _ => some (.type "str")
  | .tup _ => some (.type "tuple")
  | .lst _ => some (.type "list")
  | .arg _ => some (.type "list")
  | .obj c _ => if c < 100 then some (.ref (cn c)) else none
  | .exc _ _ _ _ => none
  | .dct => some (.type "dict")
  | .err _ _ => none
  | .opq _ => none
theorem tyx_seqT {K : PySem.W.Frag} {a : Addr} {xs : List V} (h : SqT K H a xs) : TyX K H (.ref a) (.type "tuple") := by
  rcases h with h | ⟨o, its, n, hk, hc, _⟩
  · rcases h with h | ⟨o, h⟩
    · exact .base (.tup h)
    · exact .fTuple h
  · exact .kTuple hk hc
theorem tyx_seqL {K : PySem.W.Frag} {a : Addr} {xs : List V} (h : SqL K H a xs) : TyX K H (.ref a) (.type "list") := by
  rcases h with h | ⟨o, its, n, hk, hc, _⟩
  · rcases h with h | ⟨o, h⟩
    · exact .base (.lst h)
    · exact .base (.frz h)
  · exact .kList hk hc
theorem tyx_den (hI : ∀ c, c < 100 → InsC g.K (g.cn c)) {d : D} {v : V} {t : Value} (eB : Ex B H) (h : DenW g B H d v) (e : tyD g.cn d = some t) : TyX g.K H v t := by
  cases d with
  | non => cases e; cases h; exact .base .non
  | bl b => cases e; cases h; exact .base (.bl b)
  | int i => cases e; cases h; exact .base (.int i)
  | str x => cases e; cases h; exact .base (.str x)
  | tup ds => cases e; obtain ⟨a, vs, rfl, k1, _⟩ := h; exact tyx_seqT (Evl.ex_t eB k1)
  | lst ds => cases e; obtain ⟨a, vs, rfl, k1, _⟩ := h; exact .base (.lst k1)
  | arg ds => cases e; obtain ⟨a, vs, rfl, k1, _⟩ := h; exact tyx_seqL (Evl.ex_l eB k1)
  | obj c ds =>
    by_cases hc : c < 100
    · rw [show tyD g.cn (.obj c ds) = some (.ref (g.cn c)) from if_pos hc] at e
      cases e; obtain ⟨a, dx, vs, rfl, k1, _⟩ := h; exact .base (.ins k1 (hI c hc).cl (hI c hc).ha (hI c hc).hn (hI c hc).htk (hI c hc).hm)
    · rw [show tyD g.cn (.obj c ds) = none from if_neg hc] at e; cases e
  | exc _ _ _ _ => cases e
  | dct => cases e; obtain ⟨a, kvs, rfl, k1⟩ := h; exact .base (.dK (eB _ _ k1))
  | err c ds => cases e
  | opq i => cases e
/-- the types of data, by numbers -/
inductive Ty where
  | non | bl | int | str | tup | lst | obj (c : Nat) | dct
def dTy : D → Option Ty
  | .non => some .non
  | .bl _ => some .bl
  | .int _ => some .int
  | .str _ => some .str
  | .tup _ => some .tup
  | .lst _ => some .lst
  | .arg _ => some .lst
  | .obj c _ => if c < 100 then some (.obj c) else none
  | .exc _ _ _ _ => none
  | .dct => some .dct
  | .err _ _ => none
  | .opq _ => none
def Ty.val (cn : Nat → Addr) : Ty → Value
  | .non => .type "NoneType"
  | .bl => .type "bool"
  | .int => .type "int"
  | .str => .type "str"
  | .tup => .type "tuple"
  | .lst => .type "list"
  | .obj c => .ref (cn c)
  | .dct => .type "dict"
theorem tyD_dTy {cn : Nat → Addr} {d : D} {t : Ty} (h : dTy d = some t) : tyD cn d = some (t.val cn) := by
  cases d with
  | obj c ds =>
    by_cases hc : c < 100
    · rw [show dTy (.obj c ds) = some (.obj c) from if_pos hc] at h; cases h
      exact if_pos hc
    · rw [show dTy (.obj c ds) = none from if_neg hc] at h; cases h
  | _ => cases h <;> rfl
/-- isinstance of a class: which types are below it -/
def Isi (g : G) (u : Value) (f : Ty → Option Bool) : Prop := ∀ t b, f t = some b → PySem.W.kitOne g.K (t.val g.cn) u = some b
def isiD (f : Ty → Option Bool) (d : D) : Option D := ((dTy d).bind f).map .bl
theorem tup2 {P1 : Hp} (h : P1 = P1) : True := trivial
theorem je_isi {f : Ty → Option Bool} {u : Value} {v : V} {fo : M Opd} {c : Expr} {p : Pos} (hK : X.K = g.K) (hI : ∀ c, c < 100 → InsC g.K (g.cn c)) (hf : Isi g u f) (hv : ClsV v u) (hg : Gl X "isinstance") (hm : X.mg "isinstance" = none) (hc : PE X c (tC v)) (ho : JO X g T W e fo)
    (hs : starEach (e :: [c]) X.env = (false, eval e X.env) :: starEach [c] X.env := by rfl) (hs2 : starEach [c] X.env = (false, eval c X.env) :: starEach [] X.env := by rfl) (hpl : (backTo pos (starEach [c] X.env)).any (·.1) = false := by rfl) :
    JE X g T W (.Call (.Name "isinstance" p) [e, c] [] pos) (mun (isiD f) fo) :=
  fun τ t => PE.imp (pe_callB call_isi hg hm rfl (pa_cons (ho τ t) (pa_cons hc pa_nil hs2) hs) (by decide) (by decide) hs hpl) fun σ H Q ⟨B, s, R, p⟩ => (PostM.bind (P := PO' g) R p).mono fun x H1 ⟨o, B1, s1, R1, e1, q1, p1⟩ => by
    rcases res_cases (o := o) (s := s1) with ⟨d, w⟩ | w
    · rw [mbind_ok w] at p1
      unfold isiD at p1
      cases et : dTy d with
      | none => rw [et] at p1; exact p1.elim
      | some t =>
        rw [et] at p1
        cases eb : f t with
        | none => have p1' := p1; rw [show (some t).bind f = none from eb] at p1'; exact p1'.elim
        | some b =>
          rw [show (some t).bind f = some b from eb] at p1
          refine ⟨x, v, t.val g.cn, u, b, rfl, hv, ?_, ?_, p1 (.bl b) B1 H1 R1 (Evl.Ex.refl _) rfl⟩
          · rw [hK]; exact tyx_den hI R1.bh (res_ok R1 q1 w).2 (tyD_dTy et)
          · rw [hK]; exact hf t b eb
    · exfalso
      have z : mbind (res o) (fun x => mopt (isiD f x)) s1 = .bad := by unfold mbind; rw [w]
      rw [z] at p1; exact p1
/-- isinstance(x, (c1, c2)) -/
def or2 (f1 f2 : Ty → Option Bool) : Ty → Option Bool := fun t => match f1 t with
  | some true => some true
  | some false => f2 t
  | none => none
theorem je_isi2 {f1 f2 : Ty → Option Bool} {u1 u2 : Value} {v1 v2 : V} {fo : M Opd} {c1 c2 : Expr} {kk : Nat} {p tpos : Pos} (hK : X.K = g.K) (hI : ∀ c, c < 100 → InsC g.K (g.cn c)) (hf1 : Isi g u1 f1) (hf2 : Isi g u2 f2) (hv1 : ClsV v1 u1) (hv2 : ClsV v2 u2) (hg : Gl X "isinstance") (hm : X.mg "isinstance" = none)
    (hc1 : PE X c1 (tC v1)) (hc2 : PE X c2 (tC v2)) (ho : JO X g T W e fo)
    (hs : starEach (e :: [.Tuple [c1, c2] kk tpos]) X.env = (false, eval e X.env) :: starEach [.Tuple [c1, c2] kk tpos] X.env := by rfl) (hs2 : starEach [.Tuple [c1, c2] kk tpos] X.env = (false, eval (.Tuple [c1, c2] kk tpos) X.env) :: starEach [] X.env := by rfl)
    (hs3 : starEach [c1, c2] X.env = (false, eval c1 X.env) :: starEach [c2] X.env := by rfl) (hs4 : starEach [c2] X.env = (false, eval c2 X.env) :: starEach [] X.env := by rfl) (hpl : (backTo pos (starEach [.Tuple [c1, c2] kk tpos] X.env)).any (·.1) = false := by rfl) :
    JE X g T W (.Call (.Name "isinstance" p) [e, .Tuple [c1, c2] kk tpos] [] pos) (mun (isiD (or2 f1 f2)) fo) :=
  fun τ t => PE.imp (pe_callB call_isiT hg hm rfl (pa_cons (ho τ t) (pa_cons (pe_tup (pa_cons hc1 (pa_cons hc2 pa_nil hs4) hs3)) pa_nil hs2) hs) (by decide) (by decide) hs hpl) fun σ H Q ⟨B, s, R, p⟩ => (PostM.bind (P := PO' g) R p).mono fun x H1 ⟨o, B1, s1, R1, e1, q1, p1⟩ => by
    rcases res_cases (o := o) (s := s1) with ⟨d, w⟩ | w
    · rw [mbind_ok w] at p1
      unfold isiD at p1
      cases et : dTy d with
      | none => rw [et] at p1; exact p1.elim
      | some t =>
        rw [et] at p1
        cases eb : or2 f1 f2 t with
        | none => have p1' := p1; rw [show (some t).bind (or2 f1 f2) = none from eb] at p1'; exact p1'.elim
        | some b =>
          rw [show (some t).bind (or2 f1 f2) = some b from eb] at p1
          refine ⟨by show 2 ≤ sizeLine; decide, fun q hq => ?_⟩
          have R2 := R1.new (o := .tup [v1, v2]) hq
          refine ⟨x, q, [v1, v2], t.val g.cn, [u1, u2], b, rfl, upd_same, .cons hv1 (.cons hv2 .nil), ?_, ?_, p1 (.bl b) _ _ R2 (Evl.Ex.new (Evl.fresh_back R1.bh hq)) rfl⟩
          · rw [hK]
            have hd := (res_ok R1 q1 w).2
            have e2 : Ex H1 (upd H1 q (.tup [v1, v2])) := Evl.Ex.new hq
            refine tyx_den (B := upd B1 q (.tup [v1, v2])) hI R2.bh ?_ (tyD_dTy et)
            cases d with
            | lst ds => obtain ⟨a, vs, rfl, k1, k2⟩ := hd; exact ⟨a, vs, rfl, e2 _ _ k1, k2.mono (Evl.Ex.new (Evl.fresh_back R1.bh hq))⟩
            | obj c ds => obtain ⟨a, dx, vs, rfl, k1, k2⟩ := hd; exact ⟨a, dx, vs, rfl, e2 _ _ k1, k2.mono (Evl.Ex.new (Evl.fresh_back R1.bh hq))⟩
            | _ => exact Den.mono (Evl.Ex.new (Evl.fresh_back R1.bh hq)) hd
          · rw [hK]
            unfold or2 at eb
            cases e1 : f1 t with
            | none => rw [e1] at eb; cases eb
            | some b1 =>
              rw [e1] at eb
              refine kitAny_cons (hf1 t b1 e1) (fun hb => ?_) (fun hb => ?_)
              · subst hb
                refine kitAny_cons (hf2 t b eb) (fun hb => ?_) (fun hb => hb)
                rw [hb]; exact kitAny_nil
              · subst hb; exact (Option.some.inj eb).symm
    · exfalso
      have z : mbind (res o) (fun x => mopt (isiD (or2 f1 f2) x)) s1 = .bad := by unfold mbind; rw [w]
      rw [z] at p1; exact p1
theorem pe_bty {n : Str} {T : String} {p : Pos} (hg : Gl X n) (hm : X.mg n = none) (hv : bootBuiltins n = some (.type T)) (hn : n ≠ "__name__" := by decide) (hdb : (n == ("__debug__" : Str)) = false := by decide) : PE X (.Name n p) (tC (.ty T)) :=
  ⟨fun pins s σ H Q I h => ld_blt I hg hm hv ⟨V.ty T, H, I, rfl, h⟩ hn hdb⟩
/-- types below built-in ones -/
def isiInt : Ty → Option Bool
  | .int => some true
  | .bl => some true
  | .obj _ => none
  | _ => some false
def isiBl : Ty → Option Bool
  | .bl => some true
  | .obj _ => none
  | _ => some false
def isiLst : Ty → Option Bool
  | .lst => some true
  | .obj _ => none
  | _ => some false
def isiTup : Ty → Option Bool
  | .tup => some true
  | .obj _ => none
  | _ => some false
def isiStr : Ty → Option Bool
  | .str => some true
  | .obj _ => none
  | _ => some false
theorem isi_int : Isi g (.type "int") isiInt := fun t b h => by
  cases t <;> cases h <;> exact kit_ty (by decide +kernel)
theorem isi_bl : Isi g (.type "bool") isiBl := fun t b h => by
  cases t <;> cases h <;> exact kit_ty (by decide +kernel)
theorem isi_lst : Isi g (.type "list") isiLst := fun t b h => by
  cases t <;> cases h <;> exact kit_ty (by decide +kernel)
theorem isi_tup : Isi g (.type "tuple") isiTup := fun t b h => by
  cases t <;> cases h <;> exact kit_ty (by decide +kernel)
theorem isi_str : Isi g (.type "str") isiStr := fun t b h => by
  cases t <;> cases h <;> exact kit_ty (by decide +kernel)
/-- an own class without classes below it, by its number -/
def isiObj (c : Nat) : Ty → Option Bool
  | .obj c' => if c' = c then some true else none
  | _ => some false
theorem isi_obj {c : Nat} (h : ∀ n ∈ ["NoneType", "bool", "int", "str", "tuple", "list", "dict"], PySem.W.kitOne g.K (.type n) (.ref (g.cn c)) = some false) : Isi g (.ref (g.cn c)) (isiObj c) := fun t b e => by
  cases t with
  | obj c' =>
    by_cases z : c' = c
    · subst z
      have : isiObj c' (.obj c') = some true := if_pos rfl
      rw [this] at e; cases e
      unfold PySem.W.kitOne
      exact if_pos (beq_iff_eq.mpr rfl)
    · have : isiObj c (.obj c') = none := if_neg z
      rw [this] at e; cases e
  | non => cases e; exact h "NoneType" (by simp)
  | bl => cases e; exact h "bool" (by simp)
  | int => cases e; exact h "int" (by simp)
  | str => cases e; exact h "str" (by simp)
  | tup => cases e; exact h "tuple" (by simp)
  | lst => cases e; exact h "list" (by simp)
  | dct => cases e; exact h "dict" (by simp)
end TW

set_option Elab.async false
set_option linter.all false
set_option autoImplicit false
set_option maxRecDepth 100000
set_option maxHeartbeats 1000000
namespace TW
open PySem PySem.Spec PyProof.Rows L2
variable {g : G} {T : Tx} {B B' H H' : Hp} {σ : L2.St} {s : S} {W : WX} {α β γ δ : Type} {P : PP α β}
variable {X : Cx} {e a b c tg iter elt : Expr} {es : List Expr} {pos : Pos}

/-! ## what is never reached -/
theorem js_never {st : Stmt} : JS X g T W st (fun _ => .bad) := ⟨fun pins s σ H D I ⟨B, s', R, p⟩ => p.elim⟩
theorem jss_never {st : List Stmt} : JSs X g T W st (fun _ => .bad) := ⟨fun pins s σ H D I ⟨B, s', R, p⟩ => p.elim⟩
theorem je_never : JE X g T W e (fun _ => .bad) := fun τ t => ⟨fun pins s σ H Q I ⟨B, s', R, p⟩ => p.elim⟩

/-! ## errors of own classes whose __init__ stores its parameters -/
/-- __init__ of an error: one field -/
def spI1 (C : Addr) (f : Str) : Sp := fun vs H Q _ => ∃ (a : Addr) (u : V), vs = [.ref a, u] ∧ H a = some (exo a C none) ∧ ∀ dx, H dx = none → dx ≠ a → Q .non (upd (upd H dx (exd dx [(f, u)])) a (exo a C (some dx)))
theorem upd_del {H : Hp} {a d : Addr} {x y z : HO} (ha : H a = none) (h : d ≠ a) : upd (del (upd (upd H d x) a y) a) d z = upd H d z := by
  funext b
  by_cases hb : b = d
  · subst hb; rw [upd_same, upd_same]
  · rw [upd_ne hb, upd_ne hb]
    by_cases hc : b = a
    · subst hc; rw [del_same, ha]
    · rw [del_ne hc, upd_ne hc, upd_ne hb]
theorem upd_upd {H : Hp} {a : Addr} {x y : HO} : upd (upd H a x) a y = upd H a y := by
  funext b
  by_cases hb : b = a
  · subst hb; rw [upd_same, upd_same]
  · rw [upd_ne hb, upd_ne hb, upd_ne hb]
def mraise (c n : Nat) (fa : M (List Opd)) : MS := ms fa fun os => ms (strongs os) fun ds s => if ds.length = n then .ex c ds s else .bad
theorem js_raise1 {x f : Str} {ci fI : Nat → Addr} {C fi : Addr} {k cc : Nat} {fd : FuncData} {ps : List Str} {p p2 : Pos} {fa : M (List Opd)} (hc : X.calm = true) (tk : Takes X W) (T' : OexC X.K C) (hC : C = g.cn cc) (hn : g.names cc = [f]) (iC : PySem.W.findIn X.K (.ref C) "__init__" = some (some (.ref fi)))
    (tI : PySem.W.typeIn X.K (.ref fi) = some (.type "function")) (F1 : FnOk X.prog X.w X.K X.mg X.base CX0 k fi fd ps (spI1 C f)) (hb : Binds X.K fd ps []) (hr : Room (k + 1) X.A) (hg : Gl X x) (hm : X.mg x = some (.ref C)) (ha : JA X g T W (e :: es) fa)
    (hdb : (x == ("__debug__" : Str)) = false := by decide) (he : starEach (e :: es) X.env = (false, eval e X.env) :: starEach es X.env := by rfl) (hpl : (backTo pos (starEach es X.env)).any (·.1) = false := by rfl) :
    JS X g T W (.Raise (some (.Call (.Name x p) (e :: es) [] pos)) none p2) (mraise cc 1 fa) :=
  PS.imp (ps_raise hc tk (pmk_oex T' iC tI F1 hr hb .nil pass0 hg hm (ha T.τ T.t) hdb he hpl)) fun D σ H ⟨B, s, R, p⟩ => (PostS.bind (P := PAs g) R p).mono fun vs H1 ⟨os, B1, s1, R1, e1, q1, p1⟩ => by
    subst hC
    rcases strongs_ex (os := os) (s := s1) with ⟨ds, w⟩ | w
    · rw [ms_ok w] at p1
      obtain ⟨_, hd⟩ := strongs_ok R1 q1 w
      by_cases hl : ds.length = 1
      · rw [if_pos hl] at p1
        match ds, hd, hl, p1 with
        | [d], ⟨u, r, hr1, h1, h2⟩, _, p1 =>
          subst hr1
          cases h2
          refine ⟨by show 1 ≤ 1000; decide, fun a na => ⟨a, u, rfl, upd_same, fun dx ndx ne => ⟨rfl, dx, [(f, u)], upd_same, ?_, ?_, ?_⟩⟩⟩
          · rw [upd_ne ne, upd_same]
          · rw [upd_ne ne] at ndx; exact ndx
          · rw [upd_ne ne] at ndx
            have eh : upd (del (upd (upd (upd H1 a (exo a (g.cn cc) none)) dx (exd dx [(f, u)])) a (exo a (g.cn cc) (some dx))) a) dx (.xd [(f, u)]) = upd H1 dx (.xd [(f, u)]) := by
              funext b
              by_cases hb : b = dx
              · subst hb; rw [upd_same, upd_same]
              · rw [upd_ne hb, upd_ne hb]
                by_cases hc : b = a
                · subst hc; rw [del_same, na]
                · rw [del_ne hc, upd_ne hc, upd_ne hb, upd_ne hc]
            rw [eh]
            have nb : B1 dx = none := Evl.fresh_back R1.bh ndx
            refine p1 (some dx) σ _ _ (R1.new ndx) (Evl.Ex.new nb) (.inr ⟨dx, [(f, u)], [u], rfl, upd_same, Dens.cons (h1.mono (Evl.Ex.new nb)) Dens.nil, fun j f' v hf hv => ?_⟩)
            rw [hn] at hf
            match j, hf, hv with
            | 0, hf, hv => cases hf; cases hv; simp [List.lookup]
            | j + 1, hf, hv => simp at hf
      · rw [if_neg hl] at p1; exact p1.elim
    · rw [ms_bad w] at p1; exact p1.elim
/-! ## try -/
theorem PSs.ex {ι : Type} {st : List Stmt} {t : ι → TS} (h : ∀ i, PSs X st (t i)) : PSs X st (fun D σ H => ∃ i, t i D σ H) := ⟨fun pins s σ H D I ⟨i, q⟩ => (h i).run pins s σ H D I q⟩
def clrS (k : Nat) (s : S) : Option S := match s[k]? with
  | some x => if x.own = true then none else some (s.set k .no)
  | none => none
def clr (k : Nat) : OutS → OutS
  | .nx s => (match clrS k s with | some s' => .nx s' | none => .bad)
  | .bk s => (match clrS k s with | some s' => .bk s' | none => .bad)
  | .ct s => (match clrS k s with | some s' => .ct s' | none => .bad)
  | o => o
def mtry (catches : Nat → Option Bool) (k : Nat) (fb : MS) (fs : Addr → Option Addr → Nat → List D → MS) : MS := fun s => match fb s with
  | .ex c ds s1 => (match catches c with
    | some true => if k < s1.length then clr k (fs 0 none c ds (s1.set k (.v (.exc 0 none c ds)))) else .bad
    | some false => .ex c ds s1
    | none => .bad)
  | o => o
theorem Rel.clear {k : Nat} {s' : S} (R : Rel g T B H σ s) (h : clrS k s = some s') : Rel g T B H (σ.set k none) s' := by
  unfold clrS at h
  cases hk : s[k]? with
  | none => rw [hk] at h; cases h
  | some x =>
    rw [hk] at h
    dsimp only at h
    by_cases ho : x.own = true
    · rw [if_pos ho] at h; cases h
    · rw [if_neg ho] at h; cases h
      have w := R.wipe (vs := [k]) fun i y hi hy => by
        have : i = k := by simpa using hi
        subst this
        rw [hk] at hy; cases hy
        simpa using ho
      have e1 : L2.wipe σ [k] = σ.set k none := by
        apply List.ext_getElem?
        intro i
        rw [wipe_get, List.getElem?_set]
        by_cases hi : i = k
        · subst hi
          rw [if_pos (by simp), if_pos rfl]
          by_cases hl : i < σ.length
          · rw [if_pos hl, List.getElem?_eq_getElem hl]; rfl
          · rw [if_neg hl, List.getElem?_eq_none (by omega)]; rfl
        · rw [if_neg (by simpa using hi), if_neg (fun z => hi z.symm)]
      have e2 : wipeS s [k] = s.set k .no := by
        apply List.ext_getElem?
        intro i
        rw [wipeS_get, List.getElem?_set]
        by_cases hi : i = k
        · subst hi
          rw [if_pos (by simp), if_pos rfl]
          by_cases hl : i < s.length
          · rw [if_pos hl, List.getElem?_eq_getElem hl]; rfl
          · rw [if_neg hl, List.getElem?_eq_none (by omega)]; rfl
        · rw [if_neg (by simpa using hi), if_neg (fun z => hi z.symm)]
      rw [e1, e2] at w
      exact w
theorem post_clr {k : Nat} {o : OutS} {D : Ends} (h : PostS g T W B (clr k o) D) : PostS g T W B o { nx := fun σ' H' => D.nx (σ'.set k none) H', rt := D.rt, bk := fun σ' H' => D.bk (σ'.set k none) H', ct := fun σ' H' => D.ct (σ'.set k none) H' } := by
  cases o with
  | nx s' =>
    replace h : PostS g T W B (match clrS k s' with | some s' => OutS.nx s' | none => .bad) D := h
    cases e : clrS k s' with
    | none => rw [e] at h; exact h.elim
    | some s2 => rw [e] at h; exact fun σ' B' H' R' e' => h _ B' H' (R'.clear e) e'
  | bk s' =>
    replace h : PostS g T W B (match clrS k s' with | some s' => OutS.bk s' | none => .bad) D := h
    cases e : clrS k s' with
    | none => rw [e] at h; exact h.elim
    | some s2 => rw [e] at h; exact fun σ' B' H' R' e' => h _ B' H' (R'.clear e) e'
  | ct s' =>
    replace h : PostS g T W B (match clrS k s' with | some s' => OutS.ct s' | none => .bad) D := h
    cases e : clrS k s' with
    | none => rw [e] at h; exact h.elim
    | some s2 => rw [e] at h; exact fun σ' B' H' R' e' => h _ B' H' (R'.clear e) e'
  | rt r s' => exact h
  | ex c ds s' => exact h
  | bad => exact h
theorem js_tryAs {x n : Str} {cv : Value} {k : Nat} {body suite : List Stmt} {b₀ : Stmt} {np pos' : Pos} {catches : Nat → Option Bool} {fb : MS} {fs : Addr → Option Addr → Nat → List D → MS} (hs : X.stack = X.env :: X.outer) (hf : X.env.frame = some X.env.locals) (hN : X.N.Nodup) (hi : X.N[k]? = some n) (hln : X.env.kindOf n = some .local)
    (hc : Names X x cv) (tk : Takes X W) (hio : T.io k = none) (hcat : ∀ c b, catches c = some b → PySem.W.exmOne X.K (.ref (g.cn c)) cv = some b) (hsame : ∀ (a : Addr) (x : Option Addr) (c : Nat) (ds : List D) (s1 : S), clr k (fs a x c ds (s1.set k (.v (.exc a x c ds)))) = clr k (fs 0 none c ds (s1.set k (.v (.exc 0 none c ds)))))
    (hb : ∀ (W : WX) (pn : List (Addr × Obj)) (xe : Value → Shared → Prop), Takes (X.tr pn xe) W → PassesOwn (model X.prog X.w) X.A X.env xe → JSs (X.tr pn xe) g T W body fb)
    (hsu : ∀ (a : Addr) (oe : Obj) (c : Nat) (ds : List D) (d : Option Addr) (pn : List (Addr × Obj)), Zc (.ref (g.cn c)) d oe → (∃ vs, oe.data = .fields vs) → JSs (X.suite a ((a, oe) :: pn)) g T W (b₀ :: suite) (fs a d c ds)) :
    JS X g T W (.Try body [.ExceptHandler (some (.Name x np)) (some n) (b₀ :: suite) pos'] [] [] pos) (mtry catches k fb fs) := by
  refine PS.imp (ps_try_as (i := k) (tb := fun W => RdS g T W fb) (ts := fun a cls d => fun D σ H => ∃ q : {q : Nat × List TW.D // cls = .ref (g.cn q.1)}, RdS g T W (fs a d q.1.1 q.1.2) D σ H) (Wout := W) hs hf hN hi hln hc tk (fun W pn xe tk po => hb W pn xe tk po) (fun a oe cls d pn hz hfl => PSs.ex fun q => ?_)) fun D σ H ⟨B, s, R, p⟩ => ⟨B, s, R, ?_⟩
  · have hq := q.2
    exact hsu a oe q.1.1 q.1.2 d pn (hq ▸ hz) hfl
  · unfold mtry at p
    cases ef : fb s with
    | nx s' => rw [ef] at p; exact p
    | bk s' => rw [ef] at p; exact p
    | ct s' => rw [ef] at p; exact p
    | rt r s' => rw [ef] at p; exact p
    | bad => rw [ef] at p; exact p
    | ex c ds s1 =>
      rw [ef] at p
      intro x σ' B' H' R' e' hx
      cases ec : catches c with
      | none => have p' := p; dsimp only at p'; rw [ec] at p'; exact p'.elim
      | some b =>
        refine ⟨b, hcat c b ec, fun hb' a na => ?_, fun hb' => ?_⟩
        · subst hb'
          have p' := p; dsimp only at p'; rw [ec] at p'
          dsimp only at p'
          by_cases hk : k < s1.length
          · rw [if_pos hk] at p'
            rw [← hsame a x c ds s1] at p'
            refine ⟨⟨(c, ds), rfl⟩, B', _, R'.storev hk hio (show Den g B' (.exc a x c ds) (.ref a) from ⟨rfl, hx⟩), ?_⟩
            exact post_clr (PostS.base e' p')
          · rw [if_neg hk] at p'; exact p'.elim
        · subst hb'
          have p' := p; dsimp only at p'; rw [ec] at p'
          exact p' x σ' B' H' R' e' hx
/-- err.f in the suite -/
def mxf (k cc j : Nat) (a : Addr) (x : Option Addr) : M D := fun s => match s[k]? with
  | some (.v (.exc a' x' c' ds)) => if a' = a ∧ x' = x ∧ c' = cc then (match ds[j]? with | some d => .ok d s | none => .bad) else .bad
  | _ => .bad
theorem je_xf {k cc j : Nat} {a : Addr} {c : Nat} {oe : Obj} {d : Option Addr} {pn : List (Addr × Obj)} {f : Str} (hXf : XfC X.K (g.cn cc)) (hno : PySem.W.findIn X.K (.ref (g.cn cc)) f = some none) (hj : (g.names cc)[j]? = some f) (hz : Zc (.ref (g.cn c)) d oe) (hf : ∃ vs, oe.data = .fields vs)
    (hcc : c = cc) (he : PE (X.suite a ((a, oe) :: pn)) e (tVar k)) (hb : attributeBase e f X.env (eval e X.env) = eval e X.env := by rfl) :
    JE (X.suite a ((a, oe) :: pn)) g T W (.Attribute e f pos) (mxf k cc j a d) := fun τ t => by
  subst hcc
  refine PE.imp (pe_xf hXf hno hz hf he hb) fun σ H Q ⟨B, s, R, p⟩ => ?_
  unfold mxf at p
  cases hk : s[k]? with
  | none => rw [hk] at p; exact p.elim
  | some y =>
    rw [hk] at p
    cases y with
    | v dd =>
      cases dd with
      | exc a' x' c' ds =>
        dsimp only at p
        by_cases hq : a' = a ∧ x' = d ∧ c' = c
        · rw [if_pos hq] at p
          obtain ⟨rfl, rfl, rfl⟩ := hq
          obtain ⟨v, hv, q⟩ := R.getv hk
          obtain ⟨rfl, q⟩ := q
          cases hd : ds[j]? with
          | none => rw [hd] at p; exact p.elim
          | some d0 =>
            rw [hd] at p
            rcases q with q | ⟨dx, fs, vs, h1, h2, h3, h4⟩
            · subst q; cases hd
            · obtain ⟨w, hw, hdw⟩ := h3.get hd
              exact ⟨.ref a', hv, rfl, rfl, dx, fs, w, h1, R.bh _ _ h2, h4 j f w hj hw, p w B H R (Evl.Ex.refl _) hdw⟩
        · rw [if_neg hq] at p; exact p.elim
      | _ => exact p.elim
    | _ => exact p.elim
end TW

set_option Elab.async false
set_option linter.all false
set_option autoImplicit false
set_option maxRecDepth 100000
set_option maxHeartbeats 1000000
namespace TW
open PySem PySem.Spec PyProof.Rows L2
variable {g : G} {T : Tx} {B B' H H' : Hp} {σ : L2.St} {s : S} {W : WX} {α β γ δ : Type} {P : PP α β}
variable {X : Cx} {e a b c tg iter elt : Expr} {es : List Expr} {pos : Pos}

/-! ## what may be called -/
/-- the def named x keeps f -/
structure Cl (P : Program) (w : World) (g : G) (base : Heap) (k : Nat) (x : Str) (ps : List Str) (f : Fd) : Prop where
  ex : ∃ (a : Addr) (fd : FuncData), FnOk P w g.K g.mg base (L2.CX P w) k a fd ps (spD g f) ∧ g.mg x = some (.ref a) ∧ PySem.W.keepIn g.K (.ref a) = true ∧ Binds g.K fd ps [] ∧ ∀ (us : List Value), us.length = ps.length → ∀ s : Shared, BindsTo s fd ⟨[], ps.zip us⟩ (ps.zip us)
theorem jr_callC {k j : Nat} {x : Str} {ps : List Str} {f : Fd} {fa : M (List Opd)} {p : Pos} (c : Cl X.prog X.w g X.base k x ps f) (hr : Room j X.A) (hk : k ≤ j) (hK : X.K = g.K) (hmg : X.mg = g.mg) (hg : Gl X x) (tk : Takes X W) (ha : JA X g T W (e :: es) fa)
    (hdb : (x == ("__debug__" : Str)) = false := by decide) (he : starEach (e :: es) X.env = (false, eval e X.env) :: starEach es X.env := by rfl) (hpl : (backTo pos (starEach es X.env)).any (·.1) = false := by rfl) :
    JR X g T W (.Call (.Name x p) (e :: es) [] pos) (mcall f [] fa) := by
  obtain ⟨a, fd, F, hm, kp, b, _⟩ := c
  rw [← hK, ← hmg] at F
  rw [← hmg] at hm
  rw [← hK] at kp b
  exact jr_call (fun ta h => pe_callSD F (hr.mono hk) hg hm kp b .nil (fun σ => passAt tk σ) h hdb he hpl) (fun _ => rfl) ha
/-! ### by keywords, all of them, in the parameters' order -/
def JK (X : Cx) (g : G) (T : Tx) (W : WX) (kws : List Keyword) (f : M (List Opd)) : Prop := ∀ τ t, PK X kws (RdM g (T.tmp τ t) W (PAs g) f)
theorem PK.imp {kws : List Keyword} {t t' : TA} (h : PK X kws t) (hi : ∀ σ H Q, t' σ H Q → t σ H Q) : PK X kws t' := ⟨fun pos pins s σ H Q I q => h.run pos pins s σ H Q I (hi _ _ _ q)⟩
theorem jk_nil : JK X g T W [] (mret []) := fun τ t => PK.imp pk_nil fun σ H Q ⟨B, s, R, p⟩ => p [] B H R (Evl.Ex.refl _) .nil
theorem jk_cons {nm : Option Str} {kpos : Pos} {kws : List Keyword} {fa : M Opd} {fr : M (List Opd)} (ha : JO X g T W e fa) (hr : JK X g T W kws fr) : JK X g T W (⟨nm, e, kpos⟩ :: kws) (mcons fa fr) :=
  fun τ t => PK.imp (pk_cons (ha τ t) (hr τ t)) fun σ H Q ⟨B, s, R, p⟩ => (PostM.bind (P := PO' g) R p).mono fun x H1 ⟨o, B1, s1, R1, e1, q1, p1⟩ =>
    (PostM.bind (P := PAs g) R1 p1).mono fun xs H2 ⟨os, B2, s2, R2, e2, q2, p2⟩ => p2 (x :: xs) B2 H2 R2 (Evl.Ex.refl _) (.cons (q1.mono e2) q2)
theorem pe_callK0 {CX : CXT} {k : Nat} {f : Addr} {fd : FuncData} {ps : List Str} {sp : Sp} {E : L2.St → XK} {x : Str} {p : Pos} {kws : List Keyword} {t : TA} (F : FnOk X.prog X.w X.K X.mg X.base CX k f fd ps sp) (hr : Room k X.A) (hg : Gl X x) (hm : X.mg x = some (.ref f)) (hk : PySem.W.keepIn X.K (.ref f) = true)
    (hb : ∀ (us : List Value), us.length = ps.length → ∀ s : Shared, BindsTo s fd ⟨[], ps.zip us⟩ (ps.zip us)) (hx : ∀ σ, PassesAt CX X σ (E σ)) (hkw : PK X kws t) (hall : (backToKw pos (keywordEach kws X.env)).all (·.1.isSome) = true := by rfl) (hks : (backToKw pos (keywordEach kws X.env)).filterMap (·.1) = ps := by rfl)
    (hdb : (x == ("__debug__" : Str)) = false := by decide) (hpl : ((backTo pos (starEach [] X.env)).any (·.1) || (backToKw pos (keywordEach kws X.env)).any (·.1.isNone)) = false := by rfl) :
    PE X (.Call (.Name x p) [] kws pos) (tCallSD sp [] E t) := by
  refine ⟨fun pins s σ H Q I h => ?_⟩
  refine wpAny_Call_Name_kw (ld_glob I hg hm ?_ hdb)
  refine PySem.W.callWith_KW0 (h₀ := X.base) I.ok.mod.kin hk hall ?_ hpl
  refine thn (hkw.run pos pins s σ H _ I h) fun ws s2 ⟨zs, H2, I2, rz, q2⟩ => ⟨I2.kIn, ?_⟩
  rw [hks]
  have q2 : sp zs H2 Q (E σ) := by have z : sp (zs ++ []) H2 Q (E σ) := q2; rwa [List.append_nil] at z
  have hl : ws.length = ps.length := by rw [← rz.length]; exact F.len _ _ _ _ q2
  refine wpAny_call (codeAny_mono (F.run X.A X.stack s2 H2 ⟨[], ps.zip ws⟩ ws zs Q (E σ) hr I2.env0 (hb ws hl s2) rz q2) fun r s' hq => ?_)
  cases r with
  | error e => exact hx σ pins H2 s2 e s' I2 hq
  | ok fl =>
    cases fl with
    | ret u => exact I2.after hq
    | next => exact False.elim hq
    | brk => exact False.elim hq
    | cont => exact False.elim hq
theorem jr_callK {k j : Nat} {x : Str} {ps : List Str} {f : Fd} {fa : M (List Opd)} {p : Pos} {kws : List Keyword} (c : Cl X.prog X.w g X.base k x ps f) (hr : Room j X.A) (hk : k ≤ j) (hK : X.K = g.K) (hmg : X.mg = g.mg) (hg : Gl X x) (tk : Takes X W) (ha : JK X g T W kws fa)
    (hall : (backToKw pos (keywordEach kws X.env)).all (·.1.isSome) = true := by rfl) (hks : (backToKw pos (keywordEach kws X.env)).filterMap (·.1) = ps := by rfl)
    (hdb : (x == ("__debug__" : Str)) = false := by decide) (hpl : ((backTo pos (starEach [] X.env)).any (·.1) || (backToKw pos (keywordEach kws X.env)).any (·.1.isNone)) = false := by rfl) :
    JR X g T W (.Call (.Name x p) [] kws pos) (mcall f [] fa) := by
  obtain ⟨a, fd, F, hm, kp, _, b⟩ := c
  rw [← hK, ← hmg] at F
  rw [← hmg] at hm
  rw [← hK] at kp
  have key : ∀ ta, PK X kws ta → PE X (.Call (.Name x p) [] kws pos) (tCallSD (spD g f) [] (WE W) ta) := fun ta h => pe_callK0 F (hr.mono hk) hg hm kp b (fun σ => passAt tk σ) h hall hks hdb hpl
  -- jr_call's reading, the arguments by keywords
  exact fun τ t => PE.imp (key _ (ha τ t)) fun σ H Q ⟨B, s, R, p⟩ => (PostM.bind (P := PAs g) R p).mono fun vs H1 ⟨os, B1, s1, R1, e1, q, p1⟩ => by
    by_cases hd : dupFree s1 os = true
    · rw [if_pos hd] at p1
      cases ea : argsOf s1 os with
      | none => rw [ea] at p1; exact p1.elim
      | some as =>
        rw [ea] at p1
        dsimp only at p1
        refine ⟨B1, as ++ ([] : List D).map .v, R1.bh, args_ok (dds := []) R1 q hd ea (rfl : Dens g B1 [] []), ?_⟩
        cases ef : f (as ++ ([] : List D).map .v) with
        | bad => rw [ef] at p1; exact p1.elim
        | ret r post =>
          rw [ef] at p1
          intro v B' H' A hr
          have R' := R1.called q hd ea (dds := []) (rfl : Dens g B1 [] []) A
          refine p1 v B' H' R' A.eB (RetOk.rv (vs := vs) (as := as) R1 R' hr fun i x p h1 h2 h3 hn => ?_)
          obtain ⟨x0, k1, k2⟩ := putBack_own h1 h2
          obtain ⟨_, o, ho⟩ := R1.r.ownH k1 k2 h3
          rw [ho] at hn; cases hn
        | ex c ds post =>
          rw [ef] at p1
          intro x B' H' A hx
          exact p1 x B' H' (R1.called q hd ea (dds := []) (rfl : Dens g B1 [] []) A) A.eB hx
    · rw [if_neg hd] at p1; exact p1.elim
/-! ### classes -/
structure Cm (P : Program) (w : World) (g : G) (base : Heap) (k : Nat) (x : Str) (c : Nat) (ps : List Str) (f : Fd) : Prop where
  ex : ∃ (a : Addr) (fd : FuncData), Mk g.K (g.cn c) a ∧ FnOk P w g.K g.mg base (L2.CX P w) k a fd ps (spD g f) ∧ g.mg x = some (.ref (g.cn c)) ∧ Binds g.K fd ps []
theorem jr_makeC {k j c : Nat} {x : Str} {ps : List Str} {f : Fd} {fa : M (List Opd)} {p : Pos} (cm : Cm X.prog X.w g X.base k x c ps f) (hr : Room j X.A) (hk : k + 1 ≤ j) (hK : X.K = g.K) (hmg : X.mg = g.mg) (hg : Gl X x) (tk : Takes X W) (ha : JA X g T W (e :: es) fa)
    (hdb : (x == ("__debug__" : Str)) = false := by decide) (he : starEach (e :: es) X.env = (false, eval e X.env) :: starEach es X.env := by rfl) (hpl : (backTo pos (starEach es X.env)).any (·.1) = false := by rfl) :
    JR X g T W (.Call (.Name x p) (e :: es) [] pos) (mmake c f [] fa) := by
  obtain ⟨a, fd, M, F, hm, b⟩ := cm
  rw [← hK, ← hmg] at F
  rw [← hmg] at hm
  rw [← hK] at b M
  exact jr_make (fun ta h => pe_makeS M F (hr.mono hk) hg hm b .nil (fun σ => passAt tk σ) h hdb he hpl) (fun _ => rfl) ha
/-! ### max(xs, default=d) -/
def rMaxDef (K : PySem.W.Frag) : List V → List V → Hp → VK → Prop := fun xs zs H Q => ∃ (a : Addr) (ns : List Int) (d : V), xs = [.ref a] ∧ zs = [d] ∧ SqL K H a (ns.map V.int) ∧ (ns = [] → Q d H) ∧ ∀ n ns', ns = n :: ns' → Q (.int (PySem.W.maxOf n ns')) H
theorem hold_ints {h : Heap} : ∀ {ns : List Int} {us : List Value}, Vals (ns.map V.int) us → PySem.W.HoldAll h us ns
  | [], us, r => by cases r; exact PySem.W.HoldAll.nil
  | n :: ns, us, r => by
    rw [List.map_cons] at r
    cases r with
    | cons r t =>
      obtain ⟨tk, rfl⟩ := r
      exact PySem.W.HoldAll.cons (PySem.W.holds_int n tk) (hold_ints t)
theorem cr_maxDef (hc : X.calm = true) (hu : X.A.units + 64 < cLine) : CallRK X (.builtin "max") [Str.ofString "default"] (rMaxDef X.K) := by
  intro pins s σ H xs zs us ws Q I r rz h
  obtain ⟨a, ns, d, rfl, rfl, hs, h0, h1⟩ := h
  obtain ⟨u2, rfl, ru⟩ := rz.one
  obtain ⟨its, rv, hl, _⟩ := I.list hs
  rw [Vals.ref1 r]
  refine PySem.W.max_list_datum_default (α := Int) (I.ok.hd hc) hl.isList (by simpa using hold_ints rv) (by show X.A.units + 1 + 0 < cLine; omega) (fun e h' tk k => ?_) (fun y ys i v h' tk e hi hv k => ?_)
  · exact ⟨d, H, I.kept k, ru, h0 e⟩
  · obtain ⟨t, rfl⟩ := PySem.W.int_of_holds hv
    exact ⟨.int _, H, I.kept k, ⟨_, rfl⟩, h1 y ys e⟩
def maxDef (x : D) (d : D) : Option D := match x with
  | .lst ds => (intsD ds).map fun ns => match ns with
    | [] => d
    | n :: ns' => .int (PySem.W.maxOf n ns')
  | _ => none
def mmaxd (fa : M Opd) (fd : M D) : M D := mbind fa fun o => mbind fd fun d => mbind (res o) fun x => mopt (maxDef x d)
theorem je_maxd {fa : M Opd} {fd : M D} {dv : Expr} {p kpos : Pos} (hc : X.calm = true) (hu : X.A.units + 64 < cLine) (hg : Gl X "max") (hm : X.mg "max" = none) (ha : JO X g T W e fa) (hd : JE X g T W dv fd)
    (hs : starEach [e] X.env = (false, eval e X.env) :: starEach [] X.env := by rfl) (he : backTo pos (starEach [e] X.env) = (false, eval e X.env) :: backTo pos (starEach [] X.env) := by rfl) (hpl : (backTo pos (starEach [e] X.env)).any (·.1) = false := by rfl)
    (hall : (backToKw pos (keywordEach [⟨some (Str.ofString "default"), dv, kpos⟩] X.env)).all (·.1.isSome) = true := by rfl) (hnone : (backToKw pos (keywordEach [⟨some (Str.ofString "default"), dv, kpos⟩] X.env)).any (·.1.isNone) = false := by rfl) (hks : (backToKw pos (keywordEach [⟨some (Str.ofString "default"), dv, kpos⟩] X.env)).filterMap (·.1) = [Str.ofString "default"] := by rfl) :
    JE X g T W (.Call (.Name "max" p) [e] [⟨some (Str.ofString "default"), dv, kpos⟩] pos) (mmaxd fa fd) :=
  fun τ t => PE.imp (pe_callBK (cr_maxDef hc hu) hg hm rfl (pa_cons (ha τ t) pa_nil hs) (pk_cons (hd τ t) pk_nil) (by decide) (by decide) he hpl hall hnone hks) fun σ H Q ⟨B, s, R, p⟩ => (PostM.bind (P := PO' g) R p).mono fun x H1 ⟨o, B1, s1, R1, e1, q1, p1⟩ =>
    (PostM.bind (P := PD g) R1 p1).mono fun y H2 ⟨d, B2, s2, R2, e2, q2, p2⟩ => by
      rcases res_cases (o := o) (s := s2) with ⟨dx, w⟩ | w
      · rw [mbind_ok w] at p2
        have hx := (res_ok R2 (q1.mono e2) w).2
        cases dx with
        | lst ds =>
          obtain ⟨a, vs, rfl, k1, k2⟩ := hx
          unfold maxDef at p2
          cases ei : intsD ds with
          | none => dsimp only at p2; rw [ei] at p2; exact p2.elim
          | some ns =>
            dsimp only at p2
            rw [ei] at p2
            have ev := ints_den k2 ei
            subst ev
            refine ⟨a, ns, y, rfl, rfl, .inl (.inl k1), fun e0 => ?_, fun n ns' e0 => ?_⟩
            · subst e0; exact p2 y B2 H2 R2 (Evl.Ex.refl _) q2
            · subst e0; exact p2 _ B2 H2 R2 (Evl.Ex.refl _) rfl
        | _ => exact p2.elim
      · exfalso
        have z : mbind (res o) (fun x => mopt (maxDef x d)) s2 = .bad := by unfold mbind; rw [w]
        rw [z] at p2; exact p2
theorem hu64 {k : Nat} {A : Around} (h : Room k A) : A.units + 64 < cLine := by have := h.un; omega
end TW

set_option Elab.async false
set_option linter.all false
set_option autoImplicit false
set_option maxRecDepth 100000
set_option maxHeartbeats 2000000
namespace TX
open PySem PySem.Spec PyProof.Rows L2

/-! ## a caught error that is kept beyond its suite -/
/-- at a: an error of the class cls, its dict at d -/
def xcv (a : Addr) (cls : Value) (d : Option Addr) : HO := .ext fun hp => ∃ (ob : Obj) (fv : Array Value), hp.get? a = some ob ∧ Zc cls d ob ∧ ob.data = .fields fv
section
variable {X : Cx} {pins : List (Addr × Obj)} {σ : L2.St} {H : Hp} {s : Shared}
theorem xcv_ok {P : Program} {w : World} {hp : Heap} {a : Addr} {cls : Value} {d : Option Addr} {ob : Obj} {fv : Array Value} (h1 : hp.get? a = some ob) (h2 : Zc cls d ob) (h3 : ob.data = .fields fv) : ObjOk P w H hp a (xcv a cls d) :=
  ⟨⟨ob, fv, h1, h2, h3⟩, ⟨ob, h1⟩, fun _ _ z k => by
    obtain ⟨o2, v2, q1, q2, q3⟩ := z
    exact ⟨o2, v2, k _ q1, q2, q3⟩⟩
/-- an object that is there, of ours, gets tracked -/
theorem inv_track {a : Addr} {o : HO} (I : Inv X pins σ H s) (hn : H a = none) (h0 : X.s_0.heap.get? a = none) (nL : X.env.locals ≠ a) (nC : ∀ y c, X.env.cells.lookup y = some c → c ≠ a) (nP : ∀ p ∈ X.pn ++ pins, p.1 ≠ a)
    (new : ObjOk X.prog X.w (upd H a o) s.heap a o) : Inv X pins σ (upd H a o) s := by
  have ne : ∀ {b : Addr} {u : HO}, H b = some u → b ≠ a := fun {b u} e z => by rw [z, hn] at e; cases e
  have b0 : ∀ {b : Addr} {ob : Obj}, X.s_0.heap.get? b = some ob → b ≠ a := fun {b ob} e z => by rw [z, h0] at e; cases e
  refine ⟨I.ok, I.os, I.bare, ⟨I.base.keep, I.base.slot, fun b ob e n hx => ?_, I.base.there, fun b xs e => ?_, fun b ob u e => ?_, fun b ps e => ?_⟩, I.loc, I.cell, ?_, fun y c e => ?_, fun p hp => ?_, fun b u e => ?_, I.len⟩
  · rw [upd_ne (b0 e)]; exact I.base.free b ob e n hx
  · have q := I.base.tups b xs e
    rw [upd_ne (ne q)]; exact q
  · have q := I.base.frzs b ob u e
    rw [upd_ne (ne q)]; exact q
  · obtain ⟨m, q⟩ := I.base.tbls b ps e
    exact ⟨m, by rw [upd_ne (ne q)]; exact q⟩
  · rw [upd_ne nL]; exact I.free
  · rw [upd_ne (nC y c e)]; exact I.freeC y c e
  · obtain ⟨q1, q2, q3⟩ := I.pin p hp
    exact ⟨q1, by rw [upd_ne (nP p hp)]; exact q2, q3⟩
  · by_cases hb : b = a
    · subst hb
      rw [upd_same] at e
      cases e
      exact new
    · rw [upd_ne hb] at e
      exact (I.hok b u e).stay (fun c v _ q => q) (fun c q => by rw [upd_ne (ne q)]; exact q) fun c xs q => by rw [upd_ne (ne q)]; exact q
end
/-- what a clause that takes all that comes wishes: behind its suite the error stands at its address -/
def wAsV (K : PySem.W.Frag) (cv : Value) (k : Nat) (ts : Addr → Value → Option Addr → TS) (D : Ends) : WX := fun cls d σ H =>
  PySem.W.exmOne K cls cv = some true ∧ ∀ a, H a = none → ts a cls d { nx := fun σ1 H1 => H1 a = none → D.nx (σ1.set k none) (upd H1 a (xcv a cls d)), rt := fun _ _ => False, bk := fun _ _ => False, ct := fun _ _ => False } (σ.set k (some (.ref a))) H
section
variable {X : Cx} {x n : Str} {cv : Value} {k : Nat} {body suite : List Stmt} {b₀ : Stmt} {np pos pos' : Pos} {tb : WX → TS} {ts : Addr → Value → Option Addr → TS}
theorem ps_try_asV (hs : X.stack = X.env :: X.outer) (hf : X.env.frame = some X.env.locals) (hN : X.N.Nodup) (hk : X.N[k]? = some n) (hx : X.ex = []) (hln : X.env.kindOf n = some .local) (hc : Names X x cv)
    (hb : ∀ (W : WX) (pn : List (Addr × Obj)) (xe : Value → Shared → Prop), Takes (X.tr pn xe) W → PassesOwn (model X.prog X.w) X.A X.env xe → PSs (X.tr pn xe) body (tb W))
    (hsu : ∀ (a : Addr) (oe : Obj) (cls : Value) (d : Option Addr) (pn : List (Addr × Obj)), Zc cls d oe → (∃ vs, oe.data = .fields vs) → PSs (X.suite a ((a, oe) :: pn)) (b₀ :: suite) (ts a cls d)) :
    PS X (.Try body [.ExceptHandler (some (.Name x np)) (some n) (b₀ :: suite) pos'] [] [] pos) (fun D σ H => tb (wAsV X.K cv k ts D) D σ H) := by
  refine ⟨fun pins s σ H D I hq => ?_⟩
  have okX := I.ok
  have frX : X.A.frames = some (X.env :: X.outer) := by rw [okX.frames, hs]
  refine wpAny_Try_except ?_
  have hbody := (hb (wAsV X.K cv k ts D) (X.pn ++ pins) (fun er sa => wpAny (model X.prog X.w) X.A (noteFrame er X.env) (fun _ sb => wpAny (model X.prog X.w) X.A (setFlight er none) (fun _ sc =>
      wpAny (model X.prog X.w) X.A (handleBy er X.env [.ExceptHandler (some (.Name x np)) (some n) (b₀ :: suite) pos']) (SP X pins D) X.xe sc) X.xe sb) X.xe sa) (fun u sA xx => ?_) PassesOwn.looking).run [] s σ H D (I.toTry _) hq
  · refine wpAny_mono hbody (fun f sA hsp => ?_) (fun er sA he => he)
    cases f with
    | next => exact let ⟨σ', H', J', q⟩ := hsp; wpAny_execs_nil ⟨σ', H', J'.ofTry okX, q⟩
    | brk => exact let ⟨σ', H', J', q⟩ := hsp; ⟨σ', H', J'.ofTry okX, q⟩
    | cont => exact let ⟨σ', H', J', q⟩ := hsp; ⟨σ', H', J'.ofTry okX, q⟩
    | ret u => exact let ⟨v, σ', H', J', r, q⟩ := hsp; ⟨v, σ', H', J'.ofTry okX, r, q⟩
  · obtain ⟨a, G, sI, pins1, σ1, H1, cls, d, rfl, J1, nb, up, sky, na, eos, ag, hexm, hyes⟩ := xx
    have J : Inv X pins σ1 H1 sI := J1.ofTry okX
    rw [hs] at sky
    refine Sky.land Zc.steady frX hf sky fun g3 fl3 up3 => ?_
    have J3 : Inv X pins σ1 H1 { sA with heap := g3 } := J.landed nb fl3.1 (up.trans up3) eos ag
    obtain ⟨o3, w3, at3, z3, dt3⟩ := fl3.there
    have apart : a ∉ frs (X.env :: X.outer) := fun hm => by
      obtain ⟨_, o', e', hnf⟩ := fl3.2.2.1.mem hm
      rw [at3] at e'
      cases e'
      exact hnf _ dt3
    have aL : a ≠ X.env.locals := fun z => apart (List.mem_filterMap.mpr ⟨X.env, List.mem_cons_self, by rw [hf, z]⟩)
    have aF : a ∉ X.fs := fun hm => by
      obtain ⟨er, her, q⟩ := List.mem_filterMap.mp hm
      exact apart (List.mem_filterMap.mpr ⟨er, List.mem_cons_of_mem _ her, q⟩)
    -- a is not among what stood before
    have aG : G.get? a = none := fl3.2.1
    have aI : sI.heap.get? a = none := by
      cases e : sI.heap.get? a with
      | none => rfl
      | some ob =>
        have z := nb a ob e (by rw [hs]; exact apart)
        rw [aG] at z
        cases z
    have a0 : X.s_0.heap.get? a = none := by
      cases e : X.s_0.heap.get? a with
      | none => rfl
      | some ob =>
        obtain ⟨o', q⟩ := J.base.there a ob e (by rw [hx]; exact fun z => nomatch z)
        rw [aI] at q
        cases q
    have aC : ∀ y c, X.env.cells.lookup y = some c → c ≠ a := fun y c e z => by
      obtain ⟨v, ob, q, _⟩ := J.cell y c e
      rw [z, aI] at q
      cases q
    have aP : ∀ p ∈ X.pn ++ pins, p.1 ≠ a := fun p hp z => by
      have q := (J.pin p hp).1
      rw [z, aI] at q
      cases q
    have S3 := J3.suite at3 dt3 na aL aF
    refine wpAny_handleBy_cons (codeAny_handlers_test ?_) (by intro q; cases q)
    have lkT : PySem.W.Looks (model X.prog X.w) g3 (typeOf (.ref a)) cls := fun A Q E s' kp q => wpAny_typeOf_ref (kp _ _ at3) (by rw [z3.1]; exact q)
    have lkM := PySem.W.exm_one (M := model X.prog X.w) (J3.kIn) lkT hexm
    have ask : ∀ {Q : Value → Shared → Prop} {E : Value → Shared → Prop}, Q cv { sA with heap := g3 } → wpAny (model X.prog X.w) (X.A.mark (some (.ref a))) (eval (.Name x np) X.env) Q E { sA with heap := g3 } := fun {Q E} q => by
      obtain ⟨hg, hdb, hm | ⟨hm, hv, hnn⟩⟩ := hc
      · exact ld_glob (X := X.suite a ((a, o3) :: (X.pn ++ pins))) S3 hg hm q hdb
      · exact ld_blt (X := X.suite a ((a, o3) :: (X.pn ++ pins))) S3 hg hm hv q hnn hdb
    refine ask (lkM.here ?_)
    refine codeAny_handlers_suite_as ?_
    refine HandSPX.lands_againZ fl3 fun g4 fl4 up4 => ?_
    have J4 : Inv X pins σ1 H1 { sA with heap := g4 } := J.landed nb fl4.1 ((up.trans up3).trans up4) eos ag
    obtain ⟨o4, w4, at4, z4, dt4⟩ := fl4.there
    have S4 := J4.suite at4 dt4 na aL aF
    refine store_ok (X := X.suite a ((a, o4) :: (X.pn ++ pins))) (v := .ref a) S4 hN hk (.inl hln) rfl (fun s5 S5 => ?_) (.inr hln)
    refine wpAny_mono ((hsu a o4 cls d (X.pn ++ pins) z4 ⟨_, dt4⟩).run [] s5 _ H1 _ S5 (hyes a na)) (fun f s6 hsp => ?_) (fun _ _ z => False.elim z)
    cases f with
    | next =>
      obtain ⟨σ6, H6, S6, q6⟩ := hsp
      obtain ⟨p1, p2, _⟩ := S6.pin (a, o4) (List.mem_append_left _ List.mem_cons_self)
      have J6 : Inv X pins σ6 (upd H6 a (xcv a cls d)) s6 := inv_track (S6.unsuite okX) p2 a0 aL.symm aC aP (xcv_ok p1 z4 dt4)
      exact gone_ok J6 hN hk hln fun s7 J7 => ⟨_, _, J7, q6 p2⟩
    | brk => exact (let ⟨_, _, _, q⟩ := hsp; q : False).elim
    | cont => exact (let ⟨_, _, _, q⟩ := hsp; q : False).elim
    | ret u => exact (let ⟨_, _, _, _, _, q⟩ := hsp; q : False).elim
end
end TX

set_option Elab.async false
set_option linter.all false
set_option autoImplicit false
set_option maxRecDepth 100000
set_option maxHeartbeats 2000000
namespace TX
open PySem PySem.Spec PyProof.Rows L2
/-- what of the text an error's class must have so that an error of it may be asked -/
structure ErC (K : PySem.W.Frag) (C : Addr) : Prop where
  xf : XfC K C
  ha : PySem.W.findIn K (.ref C) "__class__" = some (some (.builtin "object.__class__"))
  hn : PySem.W.specialIn K (.builtin "object.__class__") "__get__" = some (some (.builtin "getset_descriptor.__get__"))
  ht : PySem.W.takesIn K (.builtin "object.__class__") = some true
  hm : PySem.W.mroIn K C (.type "object") = some true
section
variable {X : Cx} {pins : List (Addr × Obj)} {σ : L2.St} {H : Hp} {s : Shared}
/-- where such an error stands -/
theorem xcv_inst {a dd C : Addr} {fs : List (Str × V)} (I : Inv X pins σ H s) (ha : H a = some (xcv a (.ref C) (some dd))) (hd : H dd = some (.xd fs)) :
    ∃ (ob oD : Obj) (mA : Str → Option Value), PySem.W.InstAt s.heap a ob C (some oD) ∧ (∀ f, PySem.W.lookIn f oD = some (mA f)) ∧ ∀ f, RelO (fs.lookup f) (mA f) := by
  have q : ObjOk X.prog X.w H s.heap a (.ext fun hp => ∃ (ob : Obj) (fv : Array Value), hp.get? a = some ob ∧ Zc (.ref C) (some dd) ob ∧ ob.data = .fields fv) := I.hok a _ ha
  obtain ⟨⟨ob, fv, h1, h2, h3⟩, _⟩ := q
  have qd : ObjOk X.prog X.w H s.heap dd (.xd fs) := I.hok dd _ hd
  obtain ⟨mA, hns, hr⟩ := qd
  obtain ⟨oD, ho, hl⟩ := lookIn_ns hns
  exact ⟨ob, oD, mA, ⟨h1, h2.1, by unfold PySem.W.notCls; rw [h3] <;> rfl, by rw [h2.2]; exact ho⟩, hl, hr⟩
/-- isinstance of it -/
def rIsX (K : PySem.W.Frag) : List V → Hp → VK → Prop := fun xs H Q => ∃ (a C dd : Addr) (fs : List (Str × V)) (c : V) (u : Value) (b : Bool), xs = [.ref a, c] ∧ H a = some (xcv a (.ref C) (some dd)) ∧ H dd = some (.xd fs) ∧ ErC K C ∧ ClsV c u ∧ PySem.W.kitOne K (.ref C) u = some b ∧ Q (.bl b) H
theorem call_isX : CallR X (.builtin "isinstance") (rIsX X.K) := by
  intro pins s σ H xs us Q I r hh
  obtain ⟨a, C, dd, fs, c, u, b, rfl, h1, h2, E, k, e, q⟩ := hh
  obtain ⟨u1, u2, rfl, r1, r2⟩ := vals2 r
  have e2 := k.eq r2
  subst e2
  cases (show u1 = Value.ref a from r1)
  obtain ⟨ob, oD, mA, J, _⟩ := xcv_inst I h1 h2
  obtain ⟨cd, hcl, _⟩ := PySem.W.any_some E.xf.hdC
  exact PySem.W.kia_one (PySem.W.kitx_exc (by rw [hcl]; rfl) E.xf.ga E.xf.gg E.xf.exC E.ha E.hn E.ht E.hm) I.kIn J e (fun z => nomatch z) fun tk => ⟨.bl b, H, I.tok tk, rfl, q⟩
/-- its attribute -/
theorem pe_xv {e : Expr} {te : TE} {pos : Pos} {f : Str} (he : PE X e te) (hb : attributeBase e f X.env (eval e X.env) = eval e X.env := by rfl) :
    PE X (.Attribute e f pos) (fun σ H Q => te σ H fun x H1 => ∃ (a C dd : Addr) (fs : List (Str × V)) (v : V), x = .ref a ∧ H1 a = some (xcv a (.ref C) (some dd)) ∧ H1 dd = some (.xd fs) ∧ XfC X.K C ∧ PySem.W.findIn X.K (.ref C) f = some none ∧ fs.lookup f = some v ∧ Q v H1) := by
  refine ⟨fun pins s σ H Q I h => attr_of hb (thn (he.run pins s σ H _ I h) fun u s1 hh => ?_)⟩
  obtain ⟨x, H1, I1, rx, a, C, dd, fs, v, rfl, h1, h2, T, hno, l, q⟩ := hh
  cases (show u = Value.ref a from rx)
  obtain ⟨ob, oD, mA, J, hl, hr⟩ := xcv_inst I1 h1 h2
  obtain ⟨w, hw, rw_⟩ := RelO.some_of (v := v) (o := mA f) (by rw [← l]; exact hr f)
  exact HandSPX.exc_get I1.kIn J T.ga T.gg T.exC (PySem.W.findObj_own T.hdC hno rfl (by rw [hl f, hw])) (handed_of rw_) ⟨v, H1, I1.tok _, rw_, q⟩
end
end TX

set_option Elab.async false
set_option linter.all false
set_option autoImplicit false
set_option maxRecDepth 100000
set_option maxHeartbeats 2000000
namespace TX
open PySem PySem.Spec PyProof.Rows L2 TW
variable {g : G} {T : Tx} {B B' H H' : Hp} {σ : L2.St} {s : S} {W : WX}

/-! ## what is left where tables of code objects grow -/
def isTbl : HO → Bool
  | .tbl _ => true
  | _ => false
def noT (B : Hp) : Hp := fun a => match B a with
  | some o => if isTbl o = true then none else some o
  | none => none
theorem noT_of {a : Addr} {o : HO} (h : B a = some o) (ho : isTbl o = false) : noT B a = some o := by
  unfold noT; rw [h]; show (if isTbl o = true then none else some o) = _
  rw [ho]; rfl
theorem noT_some {a : Addr} {o : HO} (h : noT B a = some o) : B a = some o ∧ isTbl o = false := by
  unfold noT at h
  cases e : B a with
  | none => rw [e] at h; cases h
  | some u =>
    rw [e] at h
    have h' : (if isTbl u = true then none else some u) = some o := h
    by_cases hu : isTbl u = true
    · rw [if_pos hu] at h'; cases h'
    · rw [if_neg hu] at h'; cases h'; exact ⟨rfl, by simpa using hu⟩
theorem noT_none {a : Addr} (h : B a = none) : noT B a = none := by unfold noT; rw [h]
theorem sqT_noT {a : Addr} {xs : List V} (h : SqT g.K B a xs) : SqT g.K (noT B) a xs := by
  rcases h with h | h
  · rcases h with h | ⟨o, h⟩
    · exact .inl (.inl (noT_of h rfl))
    · exact .inl (.inr ⟨o, noT_of h rfl⟩)
  · exact .inr h
theorem sqL_noT {a : Addr} {xs : List V} (h : SqL g.K B a xs) : SqL g.K (noT B) a xs := by
  rcases h with h | h
  · rcases h with h | ⟨o, h⟩
    · exact .inl (.inl (noT_of h rfl))
    · exact .inl (.inr ⟨o, noT_of h rfl⟩)
  · exact .inr h
theorem slf_noT {K : PySem.W.Frag} {v : V} (h : Slf K B v) : Slf K (noT B) v := by
  rcases h with h | h | h | ⟨a, xs, h1, h2⟩ | ⟨a, xs, h1, h2⟩ | ⟨a, kvs, h1, h2⟩ | ⟨a, C, x, h1, h2, h3⟩
  · exact .inl h
  · exact .inr (.inl h)
  · exact .inr (.inr (.inl h))
  · refine .inr (.inr (.inr (.inl ⟨a, xs, h1, ?_⟩)))
    rcases h2 with (h | ⟨o, h⟩) | h
    · exact .inl (.inl (noT_of h rfl))
    · exact .inl (.inr ⟨o, noT_of h rfl⟩)
    · exact .inr h
  · refine .inr (.inr (.inr (.inr (.inl ⟨a, xs, h1, ?_⟩))))
    rcases h2 with (h | ⟨o, h⟩) | h
    · exact .inl (.inl (noT_of h rfl))
    · exact .inl (.inr ⟨o, noT_of h rfl⟩)
    · exact .inr h
  · exact .inr (.inr (.inr (.inr (.inr (.inl ⟨a, kvs, h1, noT_of h2 rfl⟩)))))
  · exact .inr (.inr (.inr (.inr (.inr (.inr ⟨a, C, x, h1, ⟨noT_of h2.1 rfl, h2.2.imp id fun ⟨dd, fs, k1, k2⟩ => ⟨dd, fs, k1, noT_of k2 rfl⟩⟩, h3⟩)))))
mutual
theorem den_noT : ∀ {d : D} {v : V}, Den g B d v → Den g (noT B) d v
  | .non, _, h => h
  | .bl _, _, h => h
  | .int _, _, h => h
  | .str _, _, h => h
  | .dct, _, ⟨a, kvs, e1, h1⟩ => ⟨a, kvs, e1, noT_of h1 rfl⟩
  | .tup ds, _, ⟨a, vs, e1, h1, h2⟩ => ⟨a, vs, e1, sqT_noT h1, dens_noT h2⟩
  | .lst ds, _, ⟨a, vs, e1, h1, h2⟩ => ⟨a, vs, e1, noT_of h1 rfl, dens_noT h2⟩
  | .arg ds, _, ⟨a, vs, e1, h1, h2⟩ => ⟨a, vs, e1, sqL_noT h1, dens_noT h2⟩
  | .obj c ds, _, ⟨a, dx, vs, e1, h1, h3⟩ => ⟨a, dx, vs, e1, noT_of h1 rfl, dens_noT h3⟩
  | .exc a x c ds, _, ⟨e1, .inl h⟩ => ⟨e1, .inl h⟩
  | .exc a x c ds, _, ⟨e1, .inr ⟨dx, fs, vs, h1, h2, h3, h4⟩⟩ => ⟨e1, .inr ⟨dx, fs, vs, h1, noT_of h2 rfl, dens_noT h3, h4⟩⟩
  | .err c ds, _, ⟨a, x, e1, h1, .inl h⟩ => ⟨a, x, e1, noT_of h1 rfl, .inl h⟩
  | .err c ds, _, ⟨a, x, e1, h0, .inr ⟨dx, fs, vs, h1, h2, h3, h4⟩⟩ => ⟨a, x, e1, noT_of h0 rfl, .inr ⟨dx, fs, vs, h1, noT_of h2 rfl, dens_noT h3, h4⟩⟩
  | .opq i, _, ⟨h1, h2⟩ => ⟨h1, slf_noT h2⟩
theorem dens_noT : ∀ {ds : List D} {vs : List V}, Dens g B ds vs → Dens g (noT B) ds vs
  | [], _, h => h
  | d :: ds, _, ⟨v, r, e1, h1, h2⟩ => ⟨v, r, e1, den_noT h1, dens_noT h2⟩
end
/-- the own slots' addresses -/
def ioS (σ : L2.St) (s : S) : Nat → Option Addr := fun j => match s[j]?, σ[j]? with
  | some x, some (some (.ref a)) => if x.own = true then some a else none
  | _, _ => none
theorem ioS_some {j : Nat} {a : Addr} (h : ioS σ s j = some a) : ∃ x, s[j]? = some x ∧ x.own = true ∧ σ[j]? = some (some (.ref a)) := by
  unfold ioS at h
  cases e1 : s[j]? with
  | none => rw [e1] at h; cases h
  | some x =>
    cases e2 : σ[j]? with
    | none => rw [e1, e2] at h; cases h
    | some v =>
      rw [e1, e2] at h
      cases v with
      | none => cases h
      | some v =>
        cases v with
        | ref b =>
          have h' : (if x.own = true then some b else none) = some a := h
          by_cases ho : x.own = true
          · rw [if_pos ho] at h'; cases h'; exact ⟨x, rfl, ho, rfl⟩
          · rw [if_neg ho] at h'; cases h'
        | _ => cases h
theorem ioS_of {j : Nat} {a : Addr} {x : Sl} (h1 : s[j]? = some x) (h2 : x.own = true) (h3 : σ[j]? = some (some (.ref a))) : ioS σ s j = some a := by
  unfold ioS; rw [h1, h3]; exact if_pos h2
theorem ioS_no {j : Nat} (h : ∀ x, s[j]? = some x → x.own = false) : ioS σ s j = none := by
  cases e : ioS σ s j with
  | none => rfl
  | some a =>
    obtain ⟨x, h1, h2, _⟩ := ioS_some e
    rw [h x h1] at h2; cases h2
abbrev txS (B H : Hp) (σ : L2.St) (s : S) : Tx := ⟨B, H, ioS σ s, [], []⟩
/-- the run goes on as if it began here -/
theorem rel_base (R : Rel g T B H σ s) (eN : LamX.ExtN H H') : Rel g (txS (noT B) H' σ s) (noT B) H' σ s := by
  have k : ∀ a o, H a = some o → isTbl o = false → H' a = some o := fun a o h ho => eN a o h fun ps z => by rw [z] at ho; cases ho
  have gt : ∀ {i : Nat} {x : Sl}, s[i]? = some x → (s ++ T.t)[i]? = some x := fun h => app_some h
  have gσ : ∀ {i : Nat} {y : Option V}, σ[i]? = some y → (σ ++ T.τ)[i]? = some y := fun h => app_some h
  refine ⟨⟨Evl.Ex.refl _, fun a o h => ?_, fun _ _ => rfl, fun _ _ h _ => h, fun _ h => h, ?_, fun i x y hx hy => ?_, fun i j x x' a hx hx' ho ho' e1 e2 => ?_, fun j a hj => ?_, fun i x a hx ho e1 => ?_⟩, R.ln, fun j a hj => ?_⟩
  · obtain ⟨h1, h2⟩ := noT_some h
    exact k a o (R.bh a o h1) h2
  · simpa using R.ln
  · simp only [List.append_nil] at hx hy
    have q := R.r.sl i x y (gt hx) (gσ hy)
    cases x with
    | no => trivial
    | v d => obtain ⟨v, e, h1⟩ := q; exact ⟨v, e, den_noT h1⟩
    | l ds => obtain ⟨a, vs, e, h1, h2, h3⟩ := q; exact ⟨a, vs, e, noT_none h1, k a _ h2 rfl, dens_noT h3⟩
    | o c ds => obtain ⟨a, dx, vs, e, h1, h2, h3⟩ := q; exact ⟨a, dx, vs, e, noT_none h1, k a _ h2 rfl, dens_noT h3⟩
  · simp only [List.append_nil] at hx hx' e1 e2
    exact R.r.nd i j x x' a (gt hx) (gt hx') ho ho' (gσ e1) (gσ e2)
  · simp only [List.append_nil]
    obtain ⟨x, h1, h2, h3⟩ := ioS_some hj
    exact ⟨h3, x, h1, h2⟩
  · simp only [List.append_nil] at hx e1
    exact .inr ⟨i, ioS_of hx ho e1⟩
  · obtain ⟨x, h1, _⟩ := ioS_some hj
    have := (List.getElem?_eq_some_iff.mp h1).1
    rw [R.ln]; exact this
/-- the tables stay where a run keeps all but what is own -/
theorem tabs_keep {tbs : List (Addr × Str)} (t : LamX.Tabs tbs H) (h : ∀ a o, H a = some o → (isTbl o = true ∨ ∃ c q, o = LamX.CodeO c q) → H' a = some o) : LamX.Tabs tbs H' := fun p hp => by
  obtain ⟨ps, h1, h2, h3⟩ := t p hp
  refine ⟨ps, h _ _ h1 (.inl rfl), h2, fun pos cv hc => ?_⟩
  obtain ⟨c, e1, e2⟩ := h3 pos cv hc
  exact ⟨c, e1, h _ _ e2 (.inr ⟨_, _, rfl⟩)⟩
theorem tabs_rel {tbs : List (Addr × Str)} {B0 H0 : Hp} {σ0 : L2.St} {s0 : S} (R0 : Rel g (txS B0 H0 σ0 s0) B0 H0 σ0 s0) (t : LamX.Tabs tbs H0) (R : Rel g (txS B0 H0 σ0 s0) B H σ s) : LamX.Tabs tbs H := by
  refine tabs_keep t fun a o h ho => R.r.hh a o h fun j z => ?_
  obtain ⟨x, h1, h2, h3⟩ := ioS_some z
  cases x with
  | l ds =>
    obtain ⟨b, vs, e, _, q, _⟩ := R0.getl h1
    rw [h3] at e; cases e
    rw [h] at q; cases q
    rcases ho with ho | ⟨c, q, ho⟩
    · cases ho
    · cases ho
  | o c ds =>
    obtain ⟨b, dx, vs, e, _, q, _⟩ := R0.geto h1
    rw [h3] at e; cases e
    rw [h] at q; cases q
    rcases ho with ho | ⟨c, q, ho⟩
    · cases ho
    · cases ho
  | _ => cases h2
end TX

set_option Elab.async false
set_option linter.all false
set_option autoImplicit false
set_option maxRecDepth 100000
set_option maxHeartbeats 2000000
namespace TX
open PySem PySem.Spec PyProof.Rows L2 TW
variable {g : G} {T : Tx} {B B' H H' : Hp} {σ : L2.St} {s : S} {W : WX} {X : Cx} {tbs : List (Addr × Str)}
def PostT (g : G) (tbs : List (Addr × Str)) : OutS → Ends → Prop
  | .nx s', D => ∀ σ' B' H' T', Rel g T' B' H' σ' s' → LamX.Tabs tbs H' → D.nx σ' H'
  | .rt r s', D => ∀ v σ' B' H' T', Rel g T' B' H' σ' s' → RvOk g T' σ' s' r B' H' v → LamX.Tabs tbs H' → D.rt v H'
  | _, _ => False
def RdT (g : G) (tbs : List (Addr × Str)) (f : MS) : TS := fun D σ H => ∃ B s T, Rel g T B H σ s ∧ LamX.Tabs tbs H ∧ PostT g tbs (f s) D
def JSt (X : Cx) (g : G) (tbs : List (Addr × Str)) (st : Stmt) (f : MS) : Prop := PS X st (RdT g tbs f)
def JSts (X : Cx) (g : G) (tbs : List (Addr × Str)) (st : List Stmt) (f : MS) : Prop := PSs X st (RdT g tbs f)
/-- the slots of L hold nothing of their own -/
def guardN (L : List Nat) (s : S) : Bool := L.all fun i => match s[i]? with
  | some x => !x.own
  | none => true
def mguard (L : List Nat) (f : MS) : MS := fun s => if guardN L s = true then f s else .bad
theorem guardN_of {L : List Nat} (h : guardN L s = true) {i : Nat} (hi : i ∈ L) : ioS σ s i = none := by
  have q := List.all_eq_true.mp h i hi
  refine ioS_no fun x hx => ?_
  rw [hx] at q
  simpa using q
theorem PS.ex {ι : Type} {st : Stmt} {t : ι → TS} (h : ∀ i, PS X st (t i)) : PS X st (fun D σ H => ∃ i, t i D σ H) := ⟨fun pins s σ H D I ⟨i, q⟩ => (h i).run pins s σ H D I q⟩
theorem jst_of {st : Stmt} {f : MS} (L : List Nat) (h : ∀ T : Tx, (∀ i ∈ L, T.io i = none) → JS X g T W0 st f) : JSt X g tbs st (mguard L f) := by
  refine PS.imp (PS.ex (ι := {T : Tx // ∀ i ∈ L, T.io i = none}) (t := fun T => RdS g T.1 W0 f) fun T => h T.1 T.2) fun D σ H ⟨B, s, T, R, t, p⟩ => ?_
  unfold mguard at p
  by_cases hg : guardN L s = true
  · rw [if_pos hg] at p
    have R1 := rel_base R (LamX.ExtN.refl H)
    refine ⟨⟨txS (noT B) H σ s, fun i hi => guardN_of hg hi⟩, noT B, s, R1, ?_⟩
    cases e : f s with
    | nx s' => rw [e] at p; exact fun σ' B' H' R' _ => p σ' B' H' _ R' (tabs_rel R1 t R')
    | rt r s' => rw [e] at p; exact fun v σ' B' H' R' _ q => p v σ' B' H' _ R' q (tabs_rel R1 t R')
    | bk s' => rw [e] at p; exact p.elim
    | ct s' => rw [e] at p; exact p.elim
    | ex c ds s' => rw [e] at p; exact p.elim
    | bad => rw [e] at p; exact p.elim
  · rw [if_neg hg] at p; exact p.elim
theorem jsts_nil : JSts X g tbs [] (fun s => .nx s) := PSs.imp pss_nil fun D σ H ⟨B, s, T, R, t, p⟩ => p σ B H T R t
theorem jsts_one {st : Stmt} {f : MS} (h : JSt X g tbs st f) : JSts X g tbs [st] f := pss_one h
theorem jsts_cons {st : Stmt} {rest : List Stmt} {f k : MS} (h : JSt X g tbs st f) (hr : JSts X g tbs rest k) : JSts X g tbs (st :: rest) (mseq f k) := PSs.imp (pss_cons h hr) fun D σ H ⟨B, s, T, R, t, p⟩ => by
  refine ⟨B, s, T, R, t, ?_⟩
  unfold mseq at p
  cases e : f s with
  | nx s' => rw [e] at p; exact fun σ' B' H' T' R' t' => ⟨B', s', T', R', t', p⟩
  | rt r s' => rw [e] at p; exact p
  | bk s' => rw [e] at p; exact p
  | ct s' => rw [e] at p; exact p
  | ex c ds s' => rw [e] at p; exact p
  | bad => rw [e] at p; exact p
/-! ### expressions -/
def PostTE (g : G) (tbs : List (Addr × Str)) (σ : L2.St) : Out D → VK → Prop
  | .ok d s', Q => ∀ v B' H' T', Rel g T' B' H' σ s' → LamX.Tabs tbs H' → Den g B' d v → Q v H'
  | _, _ => False
def RdTE (g : G) (tbs : List (Addr × Str)) (f : M D) : TE := fun σ H Q => ∃ B s T, Rel g T B H σ s ∧ LamX.Tabs tbs H ∧ PostTE g tbs σ (f s) Q
def JEt (X : Cx) (g : G) (tbs : List (Addr × Str)) (e : Expr) (f : M D) : Prop := PE X e (RdTE g tbs f)
/-- x = [e] -/
def tset1 (i : Nat) (f : M D) : MS := fun s => match f s with
  | .ok d s' => if guardN [i] s' = true ∧ i < s'.length then .nx (s'.set i (.l [d])) else .bad
  | _ => .bad
theorem jst_set1 {i : Nat} {e : Expr} {st : Stmt} {f : M D} {pos : Pos} (hps : ∀ te, PE X (.List [e] pos) te → PS X st (tAsg te (gName i))) (he : JEt X g tbs e f)
    (hs : starEach [e] X.env = (false, eval e X.env) :: starEach [] X.env := by rfl) : JSt X g tbs st (tset1 i f) :=
  PS.imp (hps _ (pe_lst (pa_cons he pa_nil hs))) fun D σ H ⟨B, s, T, R, t, p⟩ => by
    refine ⟨B, s, T, R, t, ?_⟩
    unfold tset1 at p
    cases ef : f s with
    | ok d s' =>
      rw [ef] at p
      dsimp only at p
      by_cases hg : guardN [i] s' = true ∧ i < s'.length
      · rw [if_pos hg] at p
        intro v B1 H1 T1 R1 t1 hv
        have R2 := rel_base R1 (LamX.ExtN.refl H1)
        refine ⟨by show 1 ≤ sizeLine; decide, fun q hq => ?_⟩
        obtain ⟨R3, p3, vs, e3, F3, hd3⟩ := R2.newl (ds := [d]) (vs := [v]) hq (Dens.cons (den_noT hv) Dens.nil)
        refine p _ _ _ _ (R3.storel hg.2 (guardN_of hg.1 (by simp)) (by cases e3; exact F3) hd3) (tabs_rel R2 t1 R3)
      · rw [if_neg hg] at p; exact p.elim
    | ex c ds s' => rw [ef] at p; exact p.elim
    | bad => rw [ef] at p; exact p.elim
/-- x.append(e) -/
def tapp (k : Nat) (f : M D) : MS := fun s => match s[k]? with
  | some (.l _) => (match f s with
    | .ok d s1 => (match s1[k]? with
      | some (.l ds) => if ds.length < 16000000 then .nx (s1.set k (.l (ds ++ [d]))) else .bad
      | _ => .bad)
    | _ => .bad)
  | _ => .bad
theorem jst_app {k : Nat} {o e : Expr} {apos cpos pos' : Pos} {f : M D} (ho : PE X o (tVar k)) (he : JEt X g tbs e f)
    (hbase : attributeBase o "append" X.env (eval o X.env) = eval o X.env := by rfl)
    (hfew : ((backTo cpos (starEach [e] X.env)).all (fun x => !x.1) && (backToKw cpos (keywordEach [] X.env)).all (fun x => x.1.isSome) && decide ([e].length + ([] : List Keyword).length + (if ([] : List Keyword).isEmpty then 0 else 1) < 30)) = true := by rfl)
    (hline : (apos.endLine == cpos.line) = true := by rfl) (hs : starEach [e] X.env = (false, eval e X.env) :: starEach [] X.env := by rfl)
    (hsw : swapsWith (.Call (.Attribute o "append" apos) [e] [] cpos) none pos'.line X.env = pure false := by rfl) : JSt X g tbs (.Expr (.Call (.Attribute o "append" apos) [e] [] cpos) pos') (tapp k f) := by
  refine PS.imp (ps_expr (pe_bm PySem.F.plainAttrs_list PySem.F.slot_list_append PySem.F.type_list_append mt_append ho (pa_cons he pa_nil hs) hbase hfew hline hs rfl) hsw) fun D σ H ⟨B, s, T, R, t, p⟩ => ?_
  unfold tapp at p
  cases hk : s[k]? with
  | none => rw [hk] at p; exact p.elim
  | some y =>
    rw [hk] at p
    cases y with
    | l ds0 =>
      obtain ⟨l, us0, ha, _, hl, _⟩ := R.getl hk
      refine ⟨.ref l, ha, .inl ⟨rfl, us0, .inl (.inl hl)⟩, B, s, T, R, t, ?_⟩
      dsimp only at p
      cases ef : f s with
      | ok d s1 =>
        rw [ef] at p
        dsimp only at p
        cases hk1 : s1[k]? with
        | none => rw [hk1] at p; exact p.elim
        | some y1 =>
          rw [hk1] at p
          cases y1 with
          | l ds =>
            dsimp only at p
            by_cases hz : ds.length < 16000000
            · rw [if_pos hz] at p
              intro v B1 H1 T1 R1 t1 q
              have R2 := rel_base R1 (LamX.ExtN.refl H1)
              obtain ⟨l', us, ha', _, hl', hd⟩ := R2.getl hk1
              rw [ha] at ha'; cases ha'
              refine ⟨l, us, v, rfl, rfl, hl', szlt (by rw [hd.length]; exact hz), ?_⟩
              have R3 := R2.wrl hk1 ha (hd.append (Dens.cons (den_noT q) Dens.nil))
              refine p σ _ _ _ R3 (tabs_keep t1 fun a o h ho => ?_)
              have ne : a ≠ l := fun z => by
                rw [z, hl'] at h; cases h
                rcases ho with ho | ⟨c, q, ho⟩
                · cases ho
                · cases ho
              rw [upd_ne ne]; exact h
            · rw [if_neg hz] at p; exact p.elim
          | _ => exact p.elim
      | ex c ds s' => rw [ef] at p; exact p.elim
      | bad => rw [ef] at p; exact p.elim
    | _ => exact p.elim
end TX

set_option Elab.async false
set_option linter.all false
set_option autoImplicit false
set_option maxRecDepth 100000
set_option maxHeartbeats 2000000
namespace TW
open PySem PySem.Spec PyProof.Rows L2
variable {g : G} {T : Tx} {B B' H H' : Hp} {σ : L2.St} {s : S} {W : WX} {α β γ δ : Type} {P : PP α β}
variable {X : Cx} {e a b c tg iter elt : Expr} {es : List Expr} {pos : Pos}

/-! ## two operands, read once more -/
def mop2 (f : D → D → Option D) (oa ob : Opd) : M D := mbind (res oa) fun x => mbind (res ob) fun y => mopt (f x y)
theorem op2_post {f : D → D → Option D} {r : R2} {oa ob : Opd} {x y : V} {k : D → M γ} {PQ : PP γ δ} {Q : δ → Hp → Prop} {Q' : VK} (hr : ∀ (T : Tx) (B H : Hp) (σ : L2.St) (s : S) (x y : V) (dx dy d : D) (Q : VK), Rel g T B H σ s → DenW g B H dx x → DenW g B H dy y → f dx dy = some d →
    (∀ v B' H', Rel g T B' H' σ s → Ex B B' → Den g B' d v → Q v H') → r x y H Q) (R : Rel g T B H σ s) (qa : OpdOk g B σ oa x) (qb : OpdOk g B σ ob y) (p : PostM g T W PQ σ B (mbind (mop2 f oa ob) k s) Q)
    (hq : ∀ d v B' H', Rel g T B' H' σ s → Ex B B' → Den g B' d v → PostM g T W PQ σ B' (k d s) Q → Q' v H') : r x y H Q' := by
  unfold mop2 at p
  rcases res_cases (o := oa) (s := s) with ⟨dx, w1⟩ | w1
  · rcases res_cases (o := ob) (s := s) with ⟨dy, w2⟩ | w2
    · cases ef : f dx dy with
      | none =>
        exfalso
        have z : mbind (mbind (res oa) fun x => mbind (res ob) fun y => mopt (f x y)) k s = .bad := by
          unfold mbind; rw [w1]; dsimp only; rw [w2]; dsimp only; rw [ef]; rfl
        rw [z] at p; exact p
      | some d =>
        have z : mbind (mbind (res oa) fun x => mbind (res ob) fun y => mopt (f x y)) k s = k d s := by
          unfold mbind; rw [w1]; dsimp only; rw [w2]; dsimp only; rw [ef]; rfl
        rw [z] at p
        exact hr T B H σ s x y dx dy d Q' R (res_ok R qa w1).2 (res_ok R qb w2).2 ef fun v B' H' R' e' hd => hq d v B' H' R' e' hd (PostM.base e' p)
    · exfalso
      have z : mbind (mbind (res oa) fun x => mbind (res ob) fun y => mopt (f x y)) k s = .bad := by unfold mbind; rw [w1]; dsimp only; rw [w2]
      rw [z] at p; exact p
  · exfalso
    have z : mbind (mbind (res oa) fun x => mbind (res ob) fun y => mopt (f x y)) k s = .bad := by unfold mbind; rw [w1]
    rw [z] at p; exact p
/-! ## a < b < c -/
def mchain (f f' : D → D → Option D) (fa fb fc : M Opd) : M D := mbind fa fun oa => mbind fb fun ob => mbind (mop2 f oa ob) fun z => match z with
  | .bl k => if k = true then mbind fc fun oc => mbind (mop2 f' ob oc) mret else mret (.bl false)
  | _ => mbad
theorem chain_rd {f f' : D → D → Option D} {r r' : R2} {fa fb fc : M Opd} {Q : VK} (h2 : ∀ (T : Tx) (B H : Hp) (σ : L2.St) (s : S) (x y : V) (dx dy d : D) (Q : VK), Rel g T B H σ s → DenW g B H dx x → DenW g B H dy y → f dx dy = some d →
    (∀ v B' H', Rel g T B' H' σ s → Ex B B' → Den g B' d v → Q v H') → r x y H Q) (h2' : ∀ (T : Tx) (B H : Hp) (σ : L2.St) (s : S) (x y : V) (dx dy d : D) (Q : VK), Rel g T B H σ s → DenW g B H dx x → DenW g B H dy y → f' dx dy = some d →
    (∀ v B' H', Rel g T B' H' σ s → Ex B B' → Den g B' d v → Q v H') → r' x y H Q) (h : RdM g T W (PD g) (mchain f f' fa fb fc) σ H Q) : tChain r r' (RdM g T W (PO' g) fa) (RdM g T W (PO' g) fb) (RdM g T W (PO' g) fc) σ H Q := by
  obtain ⟨B, s, R, p⟩ := h
  refine (PostM.bind (P := PO' g) R p).mono fun x H1 ⟨oa, B1, s1, R1, e1, q1, p1⟩ => ?_
  refine (PostM.bind (P := PO' g) R1 p1).mono fun y H2 ⟨ob, B2, s2, R2, e2, q2, p2⟩ => ?_
  refine op2_post h2 R2 (q1.mono e2) q2 p2 fun d v B3 H3 R3 e3 hd p3 => ?_
  cases d with
  | bl k =>
    refine ⟨k, hd, ?_⟩
    cases k with
    | true =>
      refine (PostM.bind (P := PO' g) R3 p3).mono fun z H4 ⟨oc, B4, s4, R4, e4, q4, p4⟩ => ?_
      exact op2_post h2' R4 ((q2.mono e3).mono e4) q4 p4 fun d' v' B5 H5 R5 e5 hd' p5 => p5 v' B5 H5 R5 (Evl.Ex.refl _) hd'
    | false => exact p3 _ B3 H3 R3 (Evl.Ex.refl _) rfl
  | _ => exact p3.elim
theorem je_chain {op op' : CmpOp} {f f' : D → D → Option D} {fa fb fc : M Opd} (ho : OpD X g (compareOp op) f) (ho' : OpD X g (compareOp op') f') (ha : JO X g T W a fa) (hb : JO X g T W b fb) (hc : JO X g T W c fc)
    (hm : lastMarks [op, op'] [b, c] = false := by with_unfolding_all rfl) : JE X g T W (.Compare a [op, op'] [b, c] pos) (mchain f f' fa fb fc) := by
  obtain ⟨r, h1, h2⟩ := ho
  obtain ⟨r', h1', h2'⟩ := ho'
  exact fun τ t => PE.imp (pe_chain h1 h1' (ha τ t) (hb τ t) (hc τ t) hm) fun σ H Q h => chain_rd h2 h2' h
theorem jt_chain {op op' : CmpOp} {f f' : D → D → Option D} {fa fb fc : M Opd} (ho : OpD X g (compareOp op) f) (ho' : OpD X g (compareOp op') f') (ha : JO X g T W a fa) (hb : JO X g T W b fb) (hc : JO X g T W c fc)
    (hm : lastMarks [op, op'] [b, c] = false := by with_unfolding_all rfl) : JT X g T W (.Compare a [op, op'] [b, c] pos) (mbind (mchain f f' fa fb fc) tob) := by
  obtain ⟨r, h1, h2⟩ := ho
  obtain ⟨r', h1', h2'⟩ := ho'
  exact fun τ t => PT.imp (pt_chain h1 h1' (ha τ t) (hb τ t) (hc τ t) hm) fun σ H Q h => tob_rd (fun Q h => chain_rd h2 h2' h) h
/-! ## texts -/
def dInS (x y : D) : Option D := match x, y with
  | .str c, .str z => (match c.cps.toList with
    | [k] => some (.bl (decide (k ∈ z.cps.toList)))
    | _ => none)
  | _, _ => none
theorem o_inS : OpD X g (compareOp .In) dInS := ⟨_, op_in_sign, fun T B H σ s x y dx dy d Q R h1 h2 e q => by
  cases dx with
  | str c =>
    cases dy with
    | str z =>
      cases h1; cases h2
      have e' : (match c.cps.toList with
        | [k] => some (D.bl (decide (k ∈ z.cps.toList)))
        | _ => none) = some d := e
      match hc : c.cps.toList, e' with
      | [k], e' =>
        cases e'
        have ec : c = ⟨#[k]⟩ := by
          cases c with
          | mk cps =>
            have h : cps.toList = [k] := hc
            have : cps = #[k] := by rw [← Array.toArray_toList (xs := cps), h]
            rw [this]
        subst ec
        exact ⟨k, z, rfl, rfl, q _ B H R (Evl.Ex.refl _) rfl⟩
      | [], e' => cases e'
      | _ :: _ :: _, e' => cases e'
    | _ => cases e
  | _ => cases dy <;> cases e⟩
def dAddS (x y : D) : Option D := match x, y with
  | .str i, .str j => if i.length + j.length ≤ 100000 then some (.str (i ++ j)) else none
  | _, _ => none
theorem o_addS : OpD X g (binaryOp .Add) dAddS := ⟨_, op_add_str, fun T B H σ s x y dx dy d Q R h1 h2 e q => by
  cases dx with
  | str i =>
    cases dy with
    | str j =>
      cases h1; cases h2
      have e' : (if i.length + j.length ≤ 100000 then some (D.str (i ++ j)) else none) = some d := e
      by_cases hz : i.length + j.length ≤ 100000
      · rw [if_pos hz] at e'; cases e'
        exact ⟨i, j, rfl, rfl, Evl.sz_of hz, q _ B H R (Evl.Ex.refl _) rfl⟩
      · rw [if_neg hz] at e'; cases e'
    | _ => cases e
  | _ => cases dy <;> cases e⟩
def dAddX (x y : D) : Option D := match x with
  | .str _ => dAddS x y
  | _ => dAdd x y
theorem o_addX : OpD X g (binaryOp .Add) dAddX := by
  have h := OpD.or (g := g) (X := X) o_addS o_add
  obtain ⟨r, h1, h2⟩ := h
  refine ⟨r, h1, fun T B H σ s x y dx dy d Q R a1 a2 e q => h2 T B H σ s x y dx dy d Q R a1 a2 ?_ q⟩
  unfold dOr
  cases dx with
  | str i => rw [show dAddS (.str i) dy = some d from e]
  | _ => exact e
/-- one sign many times -/
def strRep (x : Str) (n : Nat) : Str := ⟨(List.replicate n x.cps).foldl (· ++ ·) #[]⟩
theorem foldl_app_size (a : Array Nat) : ∀ (n : Nat) (acc : Array Nat), ((List.replicate n a).foldl (· ++ ·) acc).size = acc.size + n * a.size
  | 0, acc => by simp
  | n + 1, acc => by rw [List.replicate_succ, List.foldl_cons, foldl_app_size a n]; simp [Nat.add_mul]; omega
theorem strRep_len (x : Str) (n : Nat) : (strRep x n).length = n * x.length := by
  show ((List.replicate n x.cps).foldl (· ++ ·) #[]).size = n * x.cps.size
  rw [foldl_app_size]; simp
def dRepS (x y : D) : Option D := match x, y with
  | .str x, .int n => if x.length = 1 ∧ n ≤ 1000 ∧ -1000 ≤ n then some (.str (if n < 1 then Str.empty else if n = 1 then x else strRep x n.toNat)) else none
  | _, _ => none
theorem op_repS : OpR X (binaryOp .Mult) (fun x y H Q => ∃ (z : Str) (n : Int), x = .str z ∧ y = .int n ∧ z.length = 1 ∧ n ≤ 1000 ∧ -1000 ≤ n ∧ Q (.str (if n < 1 then Str.empty else if n = 1 then z else strRep z n.toNat)) H) := by
  intro pins s σ H x y v u Q I rx ry h
  obtain ⟨z, n, rfl, rfl, h1, h2, h3, q⟩ := h
  obtain ⟨t, rfl⟩ := rx
  obtain ⟨t', rfl⟩ := ry
  refine PySem.P.mul_str (by rw [decide_eq_false (by omega), decide_eq_false (by omega)]; rfl) (fun hn hk => ?_) (fun hn hk => ?_) ?_
  · rw [h1]
    have h4 : (1 : Int) ≤ (2 ^ 63 - 1) / n := by
      rw [Int.le_ediv_iff_mul_le (by omega)]
      omega
    intro h5
    have : ((1 : Nat) : Int) = 1 := rfl
    omega
  · rw [h1, Nat.one_mul]
    have : n.toNat ≤ 1000 := by omega
    unfold Builtin.Str.tooLong
    first
    | (rw [decide_eq_false]; have := sizeLine_eq; omega)
    | (simp; have := sizeLine_eq; omega)
  · by_cases hn : n < 1
    · rw [if_pos hn] at q ⊢
      exact ⟨by show 0 ≤ sizeLine; omega, .str Str.empty, H, I.tok _, ⟨_, rfl⟩, q⟩
    · rw [if_neg hn] at q ⊢
      by_cases h1' : n = 1
      · subst h1'
        rw [if_pos rfl] at q
        exact ⟨.str z, H, I, ⟨t, rfl⟩, q⟩
      · rw [if_neg h1'] at q
        have hb : ¬ (n == 1 || z.length == 0) = true := by
          rw [h1]; simp [h1']
        rw [if_neg hb]
        refine ⟨?_, .str (strRep z n.toNat), H, I.tok _, ⟨_, rfl⟩, q⟩
        show (strRep z n.toNat).length ≤ sizeLine
        rw [strRep_len, h1]
        have := sizeLine_eq; omega
theorem o_repS : OpD X g (binaryOp .Mult) dRepS := ⟨_, op_repS, fun T B H σ s x y dx dy d Q R h1 h2 e q => by
  cases dx with
  | str z =>
    cases dy with
    | int n =>
      cases h1; cases h2
      have e' : (if z.length = 1 ∧ n ≤ 1000 ∧ -1000 ≤ n then some (D.str (if n < 1 then Str.empty else if n = 1 then z else strRep z n.toNat)) else none) = some d := e
      by_cases hz : z.length = 1 ∧ n ≤ 1000 ∧ -1000 ≤ n
      · rw [if_pos hz] at e'; cases e'
        exact ⟨z, n, rfl, rfl, hz.1, hz.2.1, hz.2.2, q _ B H R (Evl.Ex.refl _) rfl⟩
      · rw [if_neg hz] at e'; cases e'
    | _ => cases e
  | _ => cases dy <;> cases e⟩
/-- s[a:b] -/
def dSlS (d : D) (lo hi : Option Int) : Option D := match d with
  | .str z => if z.length ≤ 100000 then some (.str (cutS z lo hi)) else none
  | _ => none
def msliceS (fa : M Opd) (fl fh : M (Option Int)) : M D := mbind fa fun o => mbind fl fun lo => mbind fh fun hi => mbind (res o) fun d => mopt (dSlS d lo hi)
theorem je_sliceS {fa : M Opd} {fl fh : M (Option Int)} {lo hi : Option Expr} {p2 : Pos} (ha : JO X g T W a fa) (hl : JP X g T W lo fl) (hh : JP X g T W hi fh) : JE X g T W (.Subscript a (.Slice lo hi none p2) pos) (msliceS fa fl fh) :=
  fun τ t => PE.imp (pe_slice sl_str (ha τ t) (hl τ t) (hh τ t)) fun σ H Q ⟨B, s, R, p⟩ => (PostM.bind (P := PO' g) R p).mono fun x H1 ⟨o, B1, s1, R1, e1, q1, p1⟩ =>
    (PostM.bind (P := POpt) R1 p1).mono fun l H2 ⟨l', B2, s2, R2, e2, q2, p2⟩ => (PostM.bind (P := POpt) R2 p2).mono fun u H3 ⟨u', B3, s3, R3, e3, q3, p3⟩ => by
      subst q2; subst q3
      rcases res_cases (o := o) (s := s3) with ⟨d, w⟩ | w
      · rw [mbind_ok w] at p3
        have hd := (res_ok R3 ((q1.mono e2).mono e3) w).2
        cases d with
        | str z =>
          cases hd
          replace p3 : PostM g _ W (PD g) σ B3 (mopt (if z.length ≤ 100000 then some (.str (cutS z l u)) else none) s3) Q := p3
          by_cases hz : z.length ≤ 100000
          · rw [if_pos hz] at p3
            exact ⟨z, rfl, Evl.sz_of hz, p3 _ B3 H3 R3 (Evl.Ex.refl _) rfl⟩
          · rw [if_neg hz] at p3; exact p3.elim
        | _ => exact p3.elim
      · exfalso
        have z : mbind (res o) (fun d => mopt (dSlS d l u)) s3 = .bad := by unfold mbind; rw [w]
        rw [z] at p3; exact p3
end TW

set_option Elab.async false
set_option linter.all false
set_option autoImplicit false
set_option maxRecDepth 100000
set_option maxHeartbeats 2000000
namespace TW
open PySem PySem.Spec PyProof.Rows L2
variable {g : G} {T : Tx} {B B' H H' : Hp} {σ : L2.St} {s : S} {W : WX} {α β γ δ : Type} {P : PP α β}
variable {X : Cx} {e e2 a b c tg iter elt : Expr} {es : List Expr} {pos : Pos}

/-! ## zip -/
def zipW (xs ys : List D) : List D := List.zipWith (fun x y => D.tup [x, y]) xs ys
theorem zipW_get {xs ys : List D} {i : Nat} {d : D} (h : (zipW xs ys)[i]? = some d) : ∃ x y, xs[i]? = some x ∧ ys[i]? = some y ∧ d = .tup [x, y] := by
  unfold zipW at h
  rw [List.getElem?_zipWith] at h
  cases hx : xs[i]? with
  | none => rw [hx] at h; cases h
  | some x =>
    cases hy : ys[i]? with
    | none => rw [hx, hy] at h; cases h
    | some y => rw [hx, hy] at h; cases h; exact ⟨x, y, rfl, rfl, rfl⟩
theorem zipW_len (xs ys : List D) : (zipW xs ys).length = min xs.length ys.length := by unfold zipW; simp
theorem pair_den {B1 H1 : Hp} {q : Addr} {dx dy : D} {x y : V} (eB : Ex B1 H1) (hq : H1 q = none) (hx : Den g B1 dx x) (hy : Den g B1 dy y) : Den g (upd B1 q (.tup [x, y])) (.tup [dx, dy]) (.ref q) := by
  have en : Ex B1 (upd B1 q (.tup [x, y])) := Evl.Ex.new (Evl.fresh_back eB hq)
  exact ⟨q, [x, y], rfl, .inl (.inl upd_same), Dens.cons (hx.mono en) (Dens.cons (hy.mono en) Dens.nil)⟩
theorem Wk.zipL {K : PySem.W.Frag} (hK : K = g.K) {p q : Addr} {vs us : List V} {xs ys : List D} (h1 : SqL K B p vs) (hd1 : Dens g B xs vs) (h2 : SqL K B q us) (hd2 : Dens g B ys us) : Wk g B (Itz K p q) (zipW xs ys) where
  go := fun B' H' i e e' hi => by
    rw [zipW_len] at hi
    exact ⟨vs, us, vs[i]'(by rw [hd1.length]; omega), us[i]'(by rw [hd2.length]; omega), Evl.ex_l (e.trans e') h1, Evl.ex_l (e.trans e') h2, by simp [hd1.length] <;> omega, by simp [hd2.length] <;> omega⟩
  stop := fun B' H' e e' => ⟨vs, us, Evl.ex_l (e.trans e') h1, Evl.ex_l (e.trans e') h2, by rw [zipW_len, hd1.length, hd2.length]; omega⟩
  yld := fun B' H' i d x H2 e e' hi hy => by
    obtain ⟨q0, x0, y0, rfl, hn, rfl, k1, k2⟩ := hy
    obtain ⟨dx, dy, g1, g2, rfl⟩ := zipW_get hi
    obtain ⟨v1, w1, z1⟩ := hd1.get g1
    obtain ⟨v2, w2, z2⟩ := hd2.get g2
    have j1 := k1 vs (Evl.ex_l (e.trans e') h1)
    have j2 := k2 us (Evl.ex_l (e.trans e') h2)
    rw [w1] at j1; cases j1
    rw [w2] at j2; cases j2
    exact .inr ⟨q0, _, hn, rfl, pair_den e' hn (z1.mono e) (z2.mono e)⟩
theorem Wk.zipT {K : PySem.W.Frag} (hK : K = g.K) {p q : Addr} {vs us : List V} {xs ys : List D} (h1 : SqT K B p vs) (hd1 : Dens g B xs vs) (h2 : SqT K B q us) (hd2 : Dens g B ys us) : Wk g B (RZ.ItzT K p q) (zipW xs ys) where
  go := fun B' H' i e e' hi => by
    rw [zipW_len] at hi
    exact ⟨vs, us, vs[i]'(by rw [hd1.length]; omega), us[i]'(by rw [hd2.length]; omega), Evl.ex_t (e.trans e') h1, Evl.ex_t (e.trans e') h2, by simp [hd1.length] <;> omega, by simp [hd2.length] <;> omega⟩
  stop := fun B' H' e e' => ⟨vs, us, Evl.ex_t (e.trans e') h1, Evl.ex_t (e.trans e') h2, by rw [zipW_len, hd1.length, hd2.length]; omega⟩
  yld := fun B' H' i d x H2 e e' hi hy => by
    obtain ⟨q0, x0, y0, rfl, hn, rfl, k1, k2⟩ := hy
    obtain ⟨dx, dy, g1, g2, rfl⟩ := zipW_get hi
    obtain ⟨v1, w1, z1⟩ := hd1.get g1
    obtain ⟨v2, w2, z2⟩ := hd2.get g2
    have j1 := k1 vs (Evl.ex_t (e.trans e') h1)
    have j2 := k2 us (Evl.ex_t (e.trans e') h2)
    rw [w1] at j1; cases j1
    rw [w2] at j2; cases j2
    exact .inr ⟨q0, _, hn, rfl, pair_den e' hn (z1.mono e) (z2.mono e)⟩
def lstD : D → Option (List D)
  | .lst ds => some ds
  | .arg ds => some ds
  | _ => none
theorem lstD_den (hK : X.K = g.K) {d : D} {ds : List D} {v : V} (e : lstD d = some ds) (h : Den g B d v) : ∃ p vs, v = .ref p ∧ SqL X.K B p vs ∧ Dens g B ds vs := by
  cases d with
  | lst es => cases e; obtain ⟨p, vs, rfl, k1, k2⟩ := h; exact ⟨p, vs, rfl, .inl (.inl k1), k2⟩
  | arg es => cases e; obtain ⟨p, vs, rfl, k1, k2⟩ := h; exact ⟨p, vs, rfl, by rw [hK]; exact k1, k2⟩
  | _ => cases e
def zipD (x y : D) : Option (List D) := match x, y with
  | .tup xs, .tup ys => some (zipW xs ys)
  | x, y => match lstD x, lstD y with
    | some xs, some ys => some (zipW xs ys)
    | _, _ => none
def mzip (fa fb : M Opd) : M (List D) := mbind (mbind fa strong) fun x => mbind (mbind fb strong) fun y => mopt (zipD x y)
theorem ji_zip {elts : List Expr} {kk : Nat} {p tpos : Pos} {fa fb : M Opd} (hK : X.K = g.K) (hg : Gl X "zip") (hm : X.mg "zip" = none) (ha : JO X g T W e fa) (hb : JO X g T W e2 fb)
    (hs : starEach [e, e2] X.env = (false, eval e X.env) :: starEach [e2] X.env := by rfl) (hs2 : starEach [e2] X.env = (false, eval e2 X.env) :: starEach [] X.env := by rfl) (hpl : (backTo pos (starEach [e2] X.env)).any (·.1) = false := by rfl) :
    JI X g T W (.Tuple elts kk tpos) (.Call (.Name "zip" p) [e, e2] [] pos) (mzip fa fb) := fun τ t =>
  PI.imp (RZ.pi_zipA hg hm (pa_cons (je_of ha τ t) (pa_cons (je_of hb τ t) pa_nil hs2) hs) hs hpl) fun σ H R ⟨B, s, Rl, p⟩ => by
    refine (PostM.bind (P := PD g) Rl p).mono fun x H1 ⟨dx, B1, s1, R1, e1, q1, p1⟩ => ?_
    refine (PostM.bind (P := PD g) R1 p1).mono fun y H2 ⟨dy, B2, s2, R2, e2, q2, p2⟩ => ?_
    have q1' := q1.mono e2
    cases ez : zipD dx dy with
    | none => rw [ez] at p2; exact p2.elim
    | some ds =>
      rw [ez] at p2
      have tail : ∀ xs ys, lstD dx = some xs → lstD dy = some ys → ds = zipW xs ys → ∃ a b vs us, [x, y] = [V.ref a, V.ref b] ∧ ((SqL X.K H2 a vs ∧ SqL X.K H2 b us ∧ R (Itz X.K a b) H2) ∨ (SqT X.K H2 a vs ∧ SqT X.K H2 b us ∧ R (RZ.ItzT X.K a b) H2)) := fun xs ys w1 w2 ed => by
        obtain ⟨a1, vs, rfl, k1, k2⟩ := lstD_den hK w1 q1'
        obtain ⟨b1, us, rfl, k3, k4⟩ := lstD_den hK w2 q2
        subst ed
        exact ⟨a1, b1, vs, us, rfl, .inl ⟨Evl.ex_l R2.bh k1, Evl.ex_l R2.bh k3, p2 _ B2 H2 R2 (Evl.Ex.refl _) (Wk.zipL hK k1 k2 k3 k4)⟩⟩
      cases dx with
      | tup xs =>
        cases dy with
        | tup ys =>
          cases ez
          obtain ⟨a1, vs, rfl, k1, k2⟩ := q1'
          obtain ⟨b1, us, rfl, k3, k4⟩ := q2
          rw [← hK] at k1 k3
          exact ⟨a1, b1, vs, us, rfl, .inr ⟨Evl.ex_t R2.bh k1, Evl.ex_t R2.bh k3, p2 _ B2 H2 R2 (Evl.Ex.refl _) (Wk.zipT hK k1 k2 k3 k4)⟩⟩
        | _ => cases ez
      | lst xs =>
        cases dy with
        | lst ys => cases ez; exact tail _ _ rfl rfl rfl
        | arg ys => cases ez; exact tail _ _ rfl rfl rfl
        | _ => cases ez
      | arg xs =>
        cases dy with
        | lst ys => cases ez; exact tail _ _ rfl rfl rfl
        | arg ys => cases ez; exact tail _ _ rfl rfl rfl
        | _ => cases ez
      | _ => cases dy <;> cases ez
/-! ## xs[::-1] -/
def mrev (fa : M Opd) : M Rv := mbind fa fun o => mbind (res o) fun d => mopt ((lstD d).map fun ds => .l ds.reverse)
theorem jr_rev {fa : M Opd} {k : Nat} {p1 p2 p3 : Pos} (hK : X.K = g.K) (ha : JO X g T W a fa) : JR X g T W (.Subscript a (.Slice none none (some (.UnaryOp .USub (.Constant (.int 1) k p1) p2)) p3) pos) (mrev fa) :=
  fun τ t => PE.imp (pe_revL (ha τ t)) fun σ H Q ⟨B, s, R, p⟩ => (PostM.bind (P := PO' g) R p).mono fun x H1 ⟨o, B1, s1, R1, e1, q1, p1⟩ => by
    rcases res_cases (o := o) (s := s1) with ⟨d, w⟩ | w
    · rw [mbind_ok w] at p1
      have hd := (res_ok R1 q1 w).2
      cases d with
      | lst ds =>
        obtain ⟨b, vs, rfl, k1, k2⟩ := hd
        refine ⟨b, vs, rfl, .inl (.inl k1), fun q hq => ?_⟩
        obtain ⟨R', r⟩ := R1.newl hq k2.reverse
        exact p1 _ B1 _ R' (Evl.Ex.refl _) r
      | arg ds =>
        obtain ⟨b, vs, rfl, k1, k2⟩ := hd
        refine ⟨b, vs, rfl, by rw [hK]; exact Evl.ex_l R1.bh k1, fun q hq => ?_⟩
        obtain ⟨R', r⟩ := R1.newl hq k2.reverse
        exact p1 _ B1 _ R' (Evl.Ex.refl _) r
      | _ => exact p1.elim
    · exfalso
      have z : mbind (res o) (fun d => mopt ((lstD d).map fun ds => Rv.l ds.reverse)) s1 = .bad := by unfold mbind; rw [w]
      rw [z] at p1; exact p1
/-! ## x in a list, its place -/
def dInL (x y : D) : Option D := match toPy x, toPy y with
  | some p, some (.list ps) => if SeqAt.shaped p = true ∧ SeqAt.shaped (.list ps) = true then some (.bl (ps.any fun z => PyData.eqv z p)) else none
  | _, _ => none
theorem o_inL (hK : X.K = g.K) (hu : X.A.units + 65 < cLine) : OpD X g (compareOp .In) dInL := ⟨_, op_inD hu, fun T B H σ s x y dx dy d Q R h1 h2 e q => by
  unfold dInL at e
  cases e1 : toPy dx with
  | none => rw [e1] at e; cases e
  | some p =>
    cases e2 : toPy dy with
    | none => rw [e1, e2] at e; cases e
    | some p2 =>
      rw [e1, e2] at e
      cases p2 with
      | list ps =>
        replace e : (if SeqAt.shaped p = true ∧ SeqAt.shaped (.list ps) = true then some (D.bl (ps.any fun z => PyData.eqv z p)) else none) = some d := e
        by_cases hs : SeqAt.shaped p = true ∧ SeqAt.shaped (.list ps) = true
        · rw [if_pos hs] at e; cases e
          exact ⟨p, ps, dpw_of hK R.bh e1 h1, dpw_of hK R.bh e2 h2, hs.1, hs.2, q _ B H R (Evl.Ex.refl _) rfl⟩
        · rw [if_neg hs] at e; cases e
      | _ => cases e⟩
def findP (ps : List PyData) (p : PyData) : Option Nat := ps.findIdx? fun z => PyData.eqv z p
def dPlace (x y : D) : Option D := match toPy x, toPy y with
  | some (.list ps), some p => if SeqAt.shaped p = true ∧ SeqAt.shaped (.list ps) = true then (findP ps p).map fun j => .int (j : Int) else none
  | _, _ => none
def mplace (fo : M Opd) (fe : M Opd) : M D := mbind fo fun o => mbind (mbind (res o) fun x0 => mopt (lstD x0)) fun _ => mbind fe fun oe => mop2 dPlace o oe
theorem je_place {o : Expr} {apos cpos : Pos} {fo fe : M Opd} (hK : X.K = g.K) (hu : X.A.units + 65 < cLine) (ho : JO X g T W o fo) (he : JO X g T W e fe)
    (hbase : attributeBase o "index" X.env (eval o X.env) = eval o X.env := by rfl)
    (hfew : ((backTo cpos (starEach [e] X.env)).all (fun x => !x.1) && (backToKw cpos (keywordEach [] X.env)).all (fun x => x.1.isSome) && decide ([e].length + ([] : List Keyword).length + (if ([] : List Keyword).isEmpty then 0 else 1) < 30)) = true := by rfl)
    (hline : (apos.endLine == cpos.line) = true := by rfl) (hs : starEach [e] X.env = (false, eval e X.env) :: starEach [] X.env := by rfl) :
    JE X g T W (.Call (.Attribute o "index" apos) [e] [] cpos) (mplace fo fe) :=
  fun τ t => PE.imp (pe_bm PySem.F.plainAttrs_list PySem.F.slot_list_index PySem.F.type_list_index (mt_indexD hu) (ho τ t) (pa_cons (he τ t) pa_nil hs) hbase hfew hline hs rfl) fun σ H Q ⟨B, s, R, p⟩ => by
    refine (PostM.bind (P := PO' g) R p).mono fun x H1 ⟨oo, B1, s1, R1, e1, q1, p1⟩ => ?_
    rcases res_cases (o := oo) (s := s1) with ⟨dx, w⟩ | w
    · cases el : lstD dx with
      | none =>
        exfalso
        have z : mbind (mbind (res oo) fun x0 => mopt (lstD x0)) (fun _ => mbind fe fun oe => mop2 dPlace oo oe) s1 = .bad := by unfold mbind; rw [w]; dsimp only; rw [el]; rfl
        rw [z] at p1; exact p1
      | some ds =>
        have z : mbind (mbind (res oo) fun x0 => mopt (lstD x0)) (fun _ => mbind fe fun oe => mop2 dPlace oo oe) s1 = mbind fe (fun oe => mop2 dPlace oo oe) s1 := by unfold mbind; rw [w]; dsimp only; rw [el]; rfl
        rw [z] at p1
        have hd := (res_ok R1 q1 w).2
        have ty : ∃ a vs, x = .ref a ∧ SqL X.K H1 a vs := by
          cases dx with
          | lst es => obtain ⟨a, vs, rfl, k1, _⟩ := hd; exact ⟨a, vs, rfl, .inl (.inl k1)⟩
          | arg es => obtain ⟨a, vs, rfl, k1, _⟩ := hd; exact ⟨a, vs, rfl, by rw [hK]; exact Evl.ex_l R1.bh k1⟩
          | _ => cases el
        obtain ⟨a, vs, rfl, hS⟩ := ty
        refine ⟨.inl ⟨rfl, vs, hS⟩, (PostM.bind (P := PO' g) R1 p1).mono fun y H2 ⟨oe, B2, s2, R2, e2, q2, p2⟩ => ?_⟩
        unfold mop2 at p2
        rcases res_cases (o := oo) (s := s2) with ⟨d1, w1⟩ | w1
        · rw [mbind_ok w1] at p2
          rcases res_cases (o := oe) (s := s2) with ⟨d2, w2⟩ | w2
          · rw [mbind_ok w2] at p2
            have hd1 := (res_ok R2 (q1.mono e2) w1).2
            have hd2 := (res_ok R2 q2 w2).2
            unfold dPlace at p2
            cases t1 : toPy d1 with
            | none => rw [t1] at p2; exact p2.elim
            | some pp =>
              cases t2 : toPy d2 with
              | none =>
                rw [t1, t2] at p2
                cases pp <;> exact p2.elim
              | some pd =>
                rw [t1, t2] at p2
                cases pp with
                | list ps =>
                  replace p2 : PostM g _ W (PD g) σ B2 (mopt (if SeqAt.shaped pd = true ∧ SeqAt.shaped (.list ps) = true then (findP ps pd).map fun j => D.int (j : Int) else none) s2) Q := p2
                  by_cases hsh : SeqAt.shaped pd = true ∧ SeqAt.shaped (.list ps) = true
                  · rw [if_pos hsh] at p2
                    cases hf : findP ps pd with
                    | none => rw [hf] at p2; exact p2.elim
                    | some j =>
                      rw [hf] at p2
                      obtain ⟨hj, h1, h2⟩ := List.findIdx?_eq_some_iff_getElem.mp hf
                      refine ⟨a, y, pd, ps, j, ps[j], rfl, rfl, dpw_of hK R2.bh t1 hd1, dpw_of hK R2.bh t2 hd2, hsh.2, hsh.1, by simp [hj], h1, fun m z' hm hz => ?_, p2 _ B2 H2 R2 (Evl.Ex.refl _) rfl⟩
                      have hml : m < ps.length := by omega
                      have := h2 m hm
                      rw [List.getElem?_eq_getElem hml] at hz
                      cases hz
                      simpa using this
                  · rw [if_neg hsh] at p2; exact p2.elim
                | _ => exact p2.elim
          · exfalso
            have z : mbind (res oe) (fun y => mopt (dPlace d1 y)) s2 = .bad := by unfold mbind; rw [w2]
            rw [z] at p2; exact p2
        · exfalso
          have z : mbind (res oo) (fun x => mbind (res oe) fun y => mopt (dPlace x y)) s2 = .bad := by unfold mbind; rw [w1]
          rw [z] at p2; exact p2
    · exfalso
      have z : mbind (mbind (res oo) fun x0 => mopt (lstD x0)) (fun _ => mbind fe fun oe => mop2 dPlace oo oe) s1 = .bad := by unfold mbind; rw [w]
      rw [z] at p1; exact p1
end TW

set_option Elab.async false
set_option linter.all false
set_option autoImplicit false
set_option maxRecDepth 100000
set_option maxHeartbeats 2000000
namespace TW
open PySem PySem.Spec PyProof.Rows L2
variable {g : G} {T : Tx} {B B' H H' : Hp} {σ : L2.St} {s : S} {W : WX} {α β γ δ : Type} {P : PP α β}
variable {X : Cx} {e e2 a b c tg iter elt : Expr} {es : List Expr} {pos : Pos}

/-! ## list(s), str(n) -/
theorem call_listS (hc : X.calm = true) : CallR X (.type "list") (fun xs H Q => ∃ z : Str, xs = [.str z] ∧ z.length ≤ sizeLine ∧ ∀ q, H q = none → Q (.ref q) (upd H q (.lst (z.cps.toList.map fun k => V.str ⟨#[k]⟩)))) := by
  intro pins s σ H xs us Q I r h
  obtain ⟨z, rfl, hz, q⟩ := h
  obtain ⟨u, rfl, ru⟩ := Vals.one r
  obtain ⟨t, rfl⟩ := ru
  refine call_list_str (I.ok.hd hc) z t (fun h' tk acc c' hk e hi => ?_) hz
  refine ⟨.ref s.heap.objs.size, upd H s.heap.objs.size (.lst (z.cps.toList.map fun k => V.str ⟨#[k]⟩)), I.laid hk (Nat.le_refl _) ⟨by rw [List.length_map, Array.length_toList]; exact hz, acc.toList, c', ?_, by rw [Array.toArray_toList]; exact e⟩, rfl, q _ (I.hok.fresh (Nat.le_refl _))⟩
  refine vals_of_idx _ _ (by rw [List.length_map, Array.length_toList, Array.length_toList]; exact hi.1) fun j u hj => ?_
  obtain ⟨k, tt, hk2, rfl⟩ := hi.2 j u (by rw [← Array.getElem?_toList]; exact hj)
  exact ⟨.str ⟨#[k]⟩, by rw [List.getElem?_map, Array.getElem?_toList, hk2]; rfl, ⟨_, rfl⟩⟩
def lstOfS : D → Option Rv
  | .str z => if z.length ≤ 100000 then some (.l (strItems z)) else none
  | _ => none
theorem o_listS (hc : X.calm = true) : CbD X g (.type "list") (on1 lstOfS) := cb1 (call_listS hc) fun T B H σ s v d o Q R h e q => by
  cases d with
  | str z =>
    cases h
    have e' : (if z.length ≤ 100000 then some (Rv.l (strItems z)) else none) = some o := e
    by_cases hz : z.length ≤ 100000
    · rw [if_pos hz] at e'; cases e'
      refine ⟨z, rfl, Evl.sz_of hz, fun p hp => ?_⟩
      have hd : Dens g B (strItems z) (z.cps.toList.map fun k => V.str ⟨#[k]⟩) := by
        unfold strItems
        generalize z.cps.toList = l
        induction l with
        | nil => exact Dens.nil
        | cons k l ih => exact Dens.cons rfl ih
      obtain ⟨R', r⟩ := R.newl hp hd
      exact q _ B _ R' (Evl.Ex.refl _) r
    · rw [if_neg hz] at e'; cases e'
  | _ => cases e
def strOf : D → Option Rv
  | .int i => if i.natAbs.log2 < 1920 then some (.v (.str (toString i))) else none
  | _ => none
theorem o_str : CbD X g (.type "str") (on1 strOf) := cb1 call_str_int fun T B H σ s v d o Q R h e q => by
  cases d with
  | int i =>
    cases h
    have e' : (if i.natAbs.log2 < 1920 then some (Rv.v (.str (toString i))) else none) = some o := e
    by_cases hz : i.natAbs.log2 < 1920
    · rw [if_pos hz] at e'; cases e'
      exact ⟨i, rfl, hz, q _ B H R (Evl.Ex.refl _) rfl⟩
    · rw [if_neg hz] at e'; cases e'
  | _ => cases e
/-! ## True - False -/
def dSubB (x y : D) : Option D := match x, y with
  | .bl p, .bl q => some (.int (b2i p - b2i q))
  | _, _ => none
theorem op_subB : OpR X (binaryOp .Sub) (fun x y H Q => ∃ p q, x = .bl p ∧ y = .bl q ∧ Q (.int (b2i p - b2i q)) H) := by
  intro pins s σ H x y v u Q I rx ry h
  obtain ⟨p, q, rfl, rfl, k⟩ := h
  cases rx
  cases ry
  exact sub_bool ⟨.int _, H, I.tok _, ⟨_, rfl⟩, k⟩
theorem o_subB : OpD X g (binaryOp .Sub) dSubB := ⟨_, op_subB, fun T B H σ s x y dx dy d Q R h1 h2 e q => by
  cases dx with
  | bl p =>
    cases dy with
    | bl k => cases h1; cases h2; cases e; exact ⟨p, k, rfl, rfl, q _ B H R (Evl.Ex.refl _) rfl⟩
    | _ => cases e
  | _ => cases dy <;> cases e⟩
/-! ## a power of a great number -/
abbrev cPowB : Int → Int → Bool := fun i j => decide (0 ≤ j) && decide ((Builtin.Int.intBits i : Int) * j ≤ 2 ^ 27)
abbrev dPowB := dInt2 cPowB (fun i j => i ^ j.toNat)
theorem op_powB : OpR X (binaryOp .Pow) (rI (fun i j => 0 ≤ j ∧ (Builtin.Int.intBits i : Int) * j ≤ 2 ^ 27) fun i j => .int (i ^ j.toNat)) := opI fun _ _ _ _ _ _ _ hc q => pow_int hc.1 hc.2 q
theorem o_powB : OpD X g (binaryOp .Pow) dPowB := opd_int op_powB fun _ _ h => by
  have := Bool.and_eq_true_iff.mp h
  exact ⟨of_decide_eq_true this.1, of_decide_eq_true this.2⟩
/-! ## dicts written, never read -/
theorem je_dct0 : JE X g T W (.Dict [] [] pos) (mret .dct) := fun τ t => PE.imp pe_dnewK fun σ H Q ⟨B, s, R, p⟩ => fun q hq => p (.ref q) _ _ (R.new hq) (Evl.Ex.new (Evl.fresh_back R.bh hq)) ⟨q, [], rfl, upd_same⟩
theorem dct_new {q : Addr} {m : List (Key × V)} (R : Rel g T B H σ s) (hq : H q = none) : Rel g T (upd B q (.dK m)) (upd (upd H q (.dK [])) q (.dK m)) σ s := by
  have e : upd (upd H q (.dK [])) q (.dK m) = upd H q (.dK m) := upd_upd
  rw [e]; exact R.new hq
/-- {c: n} -/
theorem je_dctC {ke ve : Expr} {k : Key} {v : V} (hk : PE X ke (tC (kV k))) (hv : PE X ve (tC v)) : JE X g T W (.Dict [some ke] [ve] pos) (mret .dct) := fun τ t =>
  PE.imp (pe_disp (pps_cons hk hv pps_nil) rfl rfl (fun z => by cases z) (Nat.le_of_ble_eq_true rfl)) fun σ H Q ⟨B, s, R, p⟩ => fun q hq =>
    ⟨upd_same, [(k, v)], rfl, Nat.le_of_ble_eq_true rfl, p (.ref q) _ _ (dct_new R hq) (Evl.Ex.new (Evl.fresh_back R.bh hq)) ⟨q, _, rfl, upd_same⟩⟩
/-- {c: x}, x a name -/
theorem je_dctV {ke ve : Expr} {k : Key} {i : Nat} (hk : PE X ke (tC (kV k))) (hv : PE X ve (tVar i)) : JE X g T W (.Dict [some ke] [ve] pos) (mbind (mvar i) fun _ => mret .dct) := fun τ t =>
  PE.imp (pe_disp (pps_cons hk hv pps_nil) rfl rfl (fun z => by cases z) (Nat.le_of_ble_eq_true rfl)) fun σ H Q ⟨B, s, R, p⟩ => fun q hq => by
    cases hx : s[i]? with
    | none =>
      have z : mbind (mvar i) (fun _ => mret D.dct) s = .bad := by unfold mbind mvar; dsimp only; rw [hx]
      rw [z] at p; exact p.elim
    | some x =>
      have key : ∀ v, σ[i]? = some (some v) → PostM g (T.tmp τ t) W (PD g) σ B (.ok .dct s) Q → tPairs [(tC (kV k), tVar i)] σ (upd H q (.dK [])) fun ps H2 => H2 q = some (.dK []) ∧ ∃ kvs : List (Key × V), ps = kvs.map (fun kv => (kV kv.1, kv.2)) ∧ kvs.length ≤ 15 ∧ Q (.ref q) (upd H2 q (.dK (mergeK [] kvs))) :=
        fun v hv p => ⟨v, hv, upd_same, [(k, v)], rfl, Nat.le_of_ble_eq_true rfl, p (.ref q) _ _ (dct_new R hq) (Evl.Ex.new (Evl.fresh_back R.bh hq)) ⟨q, _, rfl, upd_same⟩⟩
      have zz : x ≠ .no → mbind (mvar i) (fun _ => mret D.dct) s = .ok .dct s := fun hn => by
        unfold mbind mvar; dsimp only; rw [hx]
        cases x with
        | no => exact absurd rfl hn
        | _ => rfl
      cases x with
      | no =>
        have z : mbind (mvar i) (fun _ => mret D.dct) s = .bad := by unfold mbind mvar; dsimp only; rw [hx]
        rw [z] at p; exact p.elim
      | v d => rw [zz (fun z => by cases z)] at p; obtain ⟨v, hv, _⟩ := R.getv hx; exact key v hv p
      | l ds => rw [zz (fun z => by cases z)] at p; obtain ⟨a, vs, hv, _⟩ := R.getl hx; exact key _ hv p
      | o c ds => rw [zz (fun z => by cases z)] at p; obtain ⟨a, dx, vs, hv, _⟩ := R.geto hx; exact key _ hv p
/-! ## f(c = .., b = .., a = ..): by keywords, the last parameter first -/
theorem PAs.reverse {os : List Opd} {vs : List V} (h : PAs g σ s os B H vs) : PAs g σ s os.reverse B H vs.reverse := by
  obtain ⟨h1, h2⟩ := h
  refine ⟨by simp [h1], fun i o v e1 e2 => ?_⟩
  have i1 : i < os.length := by have := (List.getElem?_eq_some_iff.mp e1).1; simpa using this
  rw [List.getElem?_reverse i1] at e1
  rw [List.getElem?_reverse (by omega)] at e2
  exact h2 _ o v e1 (by rw [h1]; exact e2)
def mrevA (fa : M (List Opd)) : M (List Opd) := mbind fa fun os => mret os.reverse
theorem jk_rev {kws : List Keyword} {fa : M (List Opd)} (h : JK X g T W kws fa) : ∀ τ t, PK X kws (fun σ H Q => RdM g (T.tmp τ t) W (PAs g) (mrevA fa) σ H fun vs H1 => Q vs.reverse H1) := fun τ t =>
  PK.imp (h τ t) fun σ H Q ⟨B, s, R, p⟩ => (PostM.bind (P := PAs g) R p).mono fun vs H1 ⟨os, B1, s1, R1, e1, q1, p1⟩ => by
    have : Q vs.reverse.reverse H1 := p1 vs.reverse B1 H1 R1 (Evl.Ex.refl _) q1.reverse
    rwa [List.reverse_reverse] at this
/-- the def named x binds its keywords told backwards, too -/
structure ClR (P : Program) (w : World) (g : G) (base : Heap) (k : Nat) (x : Str) (ps : List Str) (f : Fd) : Prop where
  ex : ∃ (a : Addr) (fd : FuncData), FnOk P w g.K g.mg base (L2.CX P w) k a fd ps (spD g f) ∧ g.mg x = some (.ref a) ∧ PySem.W.keepIn g.K (.ref a) = true ∧ ∀ (us : List Value), us.length = ps.length → ∀ s : Shared, BindsTo s fd ⟨[], ps.reverse.zip us⟩ (ps.zip us.reverse)
theorem pe_callKR {CX : CXT} {k : Nat} {f : Addr} {fd : FuncData} {ps : List Str} {sp : Sp} {E : L2.St → XK} {x : Str} {p : Pos} {kws : List Keyword} {t : TA} (F : FnOk X.prog X.w X.K X.mg X.base CX k f fd ps sp) (hr : Room k X.A) (hg : Gl X x) (hm : X.mg x = some (.ref f)) (hk : PySem.W.keepIn X.K (.ref f) = true)
    (hb : ∀ (us : List Value), us.length = ps.length → ∀ s : Shared, BindsTo s fd ⟨[], ps.reverse.zip us⟩ (ps.zip us.reverse)) (hx : ∀ σ, PassesAt CX X σ (E σ)) (hkw : PK X kws (fun σ H Q => t σ H fun vs H1 => Q vs.reverse H1)) (hall : (backToKw pos (keywordEach kws X.env)).all (·.1.isSome) = true := by rfl) (hks : (backToKw pos (keywordEach kws X.env)).filterMap (·.1) = ps.reverse := by rfl)
    (hdb : (x == ("__debug__" : Str)) = false := by decide) (hpl : ((backTo pos (starEach [] X.env)).any (·.1) || (backToKw pos (keywordEach kws X.env)).any (·.1.isNone)) = false := by rfl) :
    PE X (.Call (.Name x p) [] kws pos) (tCallSD sp [] E t) := by
  refine ⟨fun pins s σ H Q I h => wpAny_Call_Name_kw (ld_glob I hg hm ?_ hdb)⟩
  refine PySem.W.callWith_KW0 (h₀ := X.base) I.ok.mod.kin hk hall ?_ hpl
  refine thn (hkw.run pos pins s σ H (fun vs H1 => sp (vs.reverse ++ []) H1 Q (E σ)) I ?_) fun ws s2 ⟨zs, H2, I2, rz, q2⟩ => ⟨I2.kIn, ?_⟩
  · have h' : t σ H fun vs H1 => sp (vs ++ []) H1 Q (E σ) := h
    simpa using h'
  rw [hks]
  replace q2 : sp (zs.reverse ++ []) H2 Q (E σ) := q2
  rw [List.append_nil] at q2
  have rz' : Vals zs.reverse ws.reverse := by
    have key : ∀ {xs : List V} {us : List Value}, Vals xs us → Vals xs.reverse us.reverse := fun {xs us} r => by
      induction r with
      | nil => exact .nil
      | cons r1 r2 ih => rw [List.reverse_cons, List.reverse_cons]; exact ih.append (.cons r1 .nil)
    exact key rz
  have hl : ws.length = ps.length := by rw [← rz.length]; have := F.len _ _ _ _ q2; simpa using this
  refine wpAny_call (codeAny_mono (F.run X.A X.stack s2 H2 ⟨[], ps.reverse.zip ws⟩ ws.reverse zs.reverse Q (E σ) hr I2.env0 (hb ws hl s2) rz' q2) fun r s' hq => ?_)
  cases r with
  | error e => exact hx σ pins H2 s2 e s' I2 hq
  | ok fl =>
    cases fl with
    | ret u => exact I2.after hq
    | next => exact hq.elim
    | brk => exact hq.elim
    | cont => exact hq.elim
theorem jr_callKR {k j : Nat} {x : Str} {ps : List Str} {f : Fd} {fa : M (List Opd)} {p : Pos} {kws : List Keyword} (c : ClR X.prog X.w g X.base k x ps f) (hr : Room j X.A) (hk : k ≤ j) (hK : X.K = g.K) (hmg : X.mg = g.mg) (hg : Gl X x) (tk : Takes X W) (ha : JK X g T W kws fa)
    (hall : (backToKw pos (keywordEach kws X.env)).all (·.1.isSome) = true := by rfl) (hks : (backToKw pos (keywordEach kws X.env)).filterMap (·.1) = ps.reverse := by rfl)
    (hdb : (x == ("__debug__" : Str)) = false := by decide) (hpl : ((backTo pos (starEach [] X.env)).any (·.1) || (backToKw pos (keywordEach kws X.env)).any (·.1.isNone)) = false := by rfl) :
    JR X g T W (.Call (.Name x p) [] kws pos) (mcall f [] (mrevA fa)) := by
  obtain ⟨a, fd, F, hm, kp, b⟩ := c
  rw [← hK, ← hmg] at F
  rw [← hmg] at hm
  rw [← hK] at kp
  exact fun τ t => PE.imp (pe_callKR (E := WE W) F (hr.mono hk) hg hm kp b (fun σ => passAt tk σ) (jk_rev ha τ t) hall hks hdb hpl) fun σ H Q ⟨B, s, R, p⟩ => (PostM.bind (P := PAs g) R p).mono fun vs H1 ⟨os, B1, s1, R1, e1, q, p1⟩ => by
    by_cases hd : dupFree s1 os = true
    · rw [if_pos hd] at p1
      cases ea : argsOf s1 os with
      | none => rw [ea] at p1; exact p1.elim
      | some as =>
        rw [ea] at p1
        dsimp only at p1
        refine ⟨B1, as ++ ([] : List D).map .v, R1.bh, args_ok (dds := []) R1 q hd ea (rfl : Dens g B1 [] []), ?_⟩
        cases ef : f (as ++ ([] : List D).map .v) with
        | bad => rw [ef] at p1; exact p1.elim
        | ret r post =>
          rw [ef] at p1
          intro v B' H' A hr
          have R' := R1.called q hd ea (dds := []) (rfl : Dens g B1 [] []) A
          refine p1 v B' H' R' A.eB (RetOk.rv (vs := vs) (as := as) R1 R' hr fun i x p h1 h2 h3 hn => ?_)
          obtain ⟨x0, k1, k2⟩ := putBack_own h1 h2
          obtain ⟨_, o, ho⟩ := R1.r.ownH k1 k2 h3
          rw [ho] at hn; cases hn
        | ex c ds post =>
          rw [ef] at p1
          intro x B' H' A hx
          exact p1 x B' H' (R1.called q hd ea (dds := []) (rfl : Dens g B1 [] []) A) A.eB hx
    · rw [if_neg hd] at p1; exact p1.elim
end TW

set_option Elab.async false
set_option linter.all false
set_option autoImplicit false
set_option maxRecDepth 100000
set_option maxHeartbeats 2000000
namespace TW
open PySem PySem.Spec PyProof.Rows L2
variable {g : G} {X : Cx}
theorem hu65 {k : Nat} {A : Around} (h : Room k A) : A.units + 65 < cLine := by have := h.un; omega
/-! ## n // k, k of any sign -/
abbrev cFdv : Int → Int → Bool := fun i j => decide (j ≠ 0) && decide (j.natAbs.log2 < 9000)
abbrev dFdv := dInt2 cFdv (fun i j => i.fdiv j)
theorem op_fdvA : OpR X (binaryOp .FloorDiv) (rI (fun i j => j ≠ 0 ∧ j.natAbs.log2 < 9000) fun i j => .int (i.fdiv j)) := opI fun i j _ _ _ _ _ hc q => floordiv_int hc.1 q (.inl (PyProof.noPylong_of_log2 hc.2))
theorem o_fdv : OpD X g (binaryOp .FloorDiv) dFdv := opd_int op_fdvA fun _ _ h => by
  have := Bool.and_eq_true_iff.mp h
  exact ⟨of_decide_eq_true this.1, of_decide_eq_true this.2⟩
/-! ## a, b, c = x, y, z -/
variable {T : Tx} {B H : Hp} {σ : L2.St} {s : S} {W : WX} {es : List Expr} {pos : Pos}
def stPar3 (i j l : Nat) : List D → MS
  | [d1, d2, d3] => fun s => if i < s.length ∧ j < s.length ∧ l < s.length then .nx (((s.set i (.v d1)).set j (.v d2)).set l (.v d3)) else .bad
  | _ => fun _ => .bad
def mpar3 (i j l : Nat) (fa : M (List Opd)) : MS := ms fa fun os => ms (strongs os) (stPar3 i j l)
theorem js_par3 {i j l : Nat} {st : Stmt} {fa : M (List Opd)} (hps : ∀ ta, PA X es ta → PS X st (tPar3 i j l ta)) (hi : T.io i = none) (hj : T.io j = none) (hl : T.io l = none) (ha : JA X g T W es fa) : JS X g T W st (mpar3 i j l fa) :=
  PS.imp (hps _ (ha T.τ T.t)) fun D σ H ⟨B, s, R, p⟩ => (PostS.bind (P := PAs g) R p).mono fun vs H1 ⟨os, B1, s1, R1, e1, q1, p1⟩ => by
    rcases strongs_ex (os := os) (s := s1) with ⟨ds, w⟩ | w
    · rw [ms_ok w] at p1
      obtain ⟨_, hd⟩ := strongs_ok R1 q1 w
      match ds, hd, p1 with
      | [d1, d2, d3], hd, p1 =>
        obtain ⟨v1, r1, rfl, h1, v2, r2, rfl, h2, v3, r3, rfl, h3, h4⟩ := hd
        cases h4
        replace p1 : PostS g T W B1 (if i < s1.length ∧ j < s1.length ∧ l < s1.length then .nx (((s1.set i (.v d1)).set j (.v d2)).set l (.v d3)) else .bad) D := p1
        by_cases hlt : i < s1.length ∧ j < s1.length ∧ l < s1.length
        · rw [if_pos hlt] at p1
          refine ⟨v1, v2, v3, rfl, p1 _ B1 H1 ?_ (Evl.Ex.refl _)⟩
          exact ((R1.storev hlt.1 hi h1).storev (by rw [List.length_set]; exact hlt.2.1) hj h2).storev (by rw [List.length_set, List.length_set]; exact hlt.2.2) hl h3
        · rw [if_neg hlt] at p1; exact p1.elim
      | [], hd, p1 => exact p1.elim
      | [_], hd, p1 => exact p1.elim
      | [_, _], hd, p1 => exact p1.elim
      | _ :: _ :: _ :: _ :: _, hd, p1 => exact p1.elim
    · rw [ms_bad w] at p1; exact p1.elim
/-! ## isinstance where no instance of an own class is asked -/
variable {B' H' : Hp} {e : Expr} {v : V}
theorem tyx_den0 {d : D} {x : V} {t : Value} (hd : ∀ c ds, d ≠ .obj c ds) (eB : Ex B H) (h : DenW g B H d x) (ev : tyD g.cn d = some t) : TyX g.K H x t := by
  cases d with
  | non => cases ev; cases h; exact .base .non
  | bl b => cases ev; cases h; exact .base (.bl b)
  | int i => cases ev; cases h; exact .base (.int i)
  | str z => cases ev; cases h; exact .base (.str z)
  | tup ds => cases ev; obtain ⟨a, vs, rfl, k1, _⟩ := h; exact tyx_seqT (Evl.ex_t eB k1)
  | lst ds => cases ev; obtain ⟨a, vs, rfl, k1, _⟩ := h; exact .base (.lst k1)
  | arg ds => cases ev; obtain ⟨a, vs, rfl, k1, _⟩ := h; exact tyx_seqL (Evl.ex_l eB k1)
  | obj c ds => exact absurd rfl (hd c ds)
  | exc _ _ _ _ => cases ev
  | dct => cases ev; obtain ⟨a, kvs, rfl, k1⟩ := h; exact .base (.dK (eB _ _ k1))
  | err c ds => cases ev
  | opq i => cases ev
theorem no_obj {f : Ty → Option Bool} {d : D} {t : Ty} {b : Bool} (hf : ∀ c, f (.obj c) = none) (et : dTy d = some t) (eb : f t = some b) : ∀ c ds, d ≠ .obj c ds := fun c ds z => by
  subst z
  by_cases hc : c < 100
  · rw [show dTy (.obj c ds) = some (.obj c) from if_pos hc] at et
    cases et
    rw [hf c] at eb; cases eb
  · rw [show dTy (.obj c ds) = none from if_neg hc] at et; cases et
theorem je_isiB {f : Ty → Option Bool} {u : Value} {v : V} {fo : M Opd} {c : Expr} {p : Pos} (hK : X.K = g.K) (hf0 : ∀ c, f (.obj c) = none) (hf : Isi g u f) (hv : ClsV v u) (hg : Gl X "isinstance") (hm : X.mg "isinstance" = none) (hc : PE X c (tC v)) (ho : JO X g T W e fo)
    (hs : starEach (e :: [c]) X.env = (false, eval e X.env) :: starEach [c] X.env := by rfl) (hs2 : starEach [c] X.env = (false, eval c X.env) :: starEach [] X.env := by rfl) (hpl : (backTo pos (starEach [c] X.env)).any (·.1) = false := by rfl) :
    JE X g T W (.Call (.Name "isinstance" p) [e, c] [] pos) (mun (isiD f) fo) :=
  fun τ t => PE.imp (pe_callB call_isi hg hm rfl (pa_cons (ho τ t) (pa_cons hc pa_nil hs2) hs) (by decide) (by decide) hs hpl) fun σ H Q ⟨B, s, R, p⟩ => (PostM.bind (P := PO' g) R p).mono fun x H1 ⟨o, B1, s1, R1, e1, q1, p1⟩ => by
    rcases res_cases (o := o) (s := s1) with ⟨d, w⟩ | w
    · rw [mbind_ok w] at p1
      unfold isiD at p1
      cases et : dTy d with
      | none => rw [et] at p1; exact p1.elim
      | some t =>
        rw [et] at p1
        cases eb : f t with
        | none => have p1' := p1; rw [show (some t).bind f = none from eb] at p1'; exact p1'.elim
        | some b =>
          rw [show (some t).bind f = some b from eb] at p1
          refine ⟨x, v, t.val g.cn, u, b, rfl, hv, ?_, ?_, p1 (.bl b) B1 H1 R1 (Evl.Ex.refl _) rfl⟩
          · rw [hK]; exact tyx_den0 (no_obj hf0 et eb) R1.bh (res_ok R1 q1 w).2 (tyD_dTy et)
          · rw [hK]; exact hf t b eb
    · exfalso
      have z : mbind (res o) (fun x => mopt (isiD f x)) s1 = .bad := by unfold mbind; rw [w]
      rw [z] at p1; exact p1
theorem or2_obj {f1 f2 : Ty → Option Bool} (h1 : ∀ c, f1 (.obj c) = none) : ∀ c, or2 f1 f2 (.obj c) = none := fun c => by unfold or2; rw [h1 c]
theorem je_isi2B {f1 f2 : Ty → Option Bool} {u1 u2 : Value} {v1 v2 : V} {fo : M Opd} {c1 c2 : Expr} {kk : Nat} {p tpos : Pos} (hK : X.K = g.K) (hf0 : ∀ c, f1 (.obj c) = none) (hf1 : Isi g u1 f1) (hf2 : Isi g u2 f2) (hv1 : ClsV v1 u1) (hv2 : ClsV v2 u2) (hg : Gl X "isinstance") (hm : X.mg "isinstance" = none)
    (hc1 : PE X c1 (tC v1)) (hc2 : PE X c2 (tC v2)) (ho : JO X g T W e fo)
    (hs : starEach (e :: [.Tuple [c1, c2] kk tpos]) X.env = (false, eval e X.env) :: starEach [.Tuple [c1, c2] kk tpos] X.env := by rfl) (hs2 : starEach [.Tuple [c1, c2] kk tpos] X.env = (false, eval (.Tuple [c1, c2] kk tpos) X.env) :: starEach [] X.env := by rfl)
    (hs3 : starEach [c1, c2] X.env = (false, eval c1 X.env) :: starEach [c2] X.env := by rfl) (hs4 : starEach [c2] X.env = (false, eval c2 X.env) :: starEach [] X.env := by rfl) (hpl : (backTo pos (starEach [.Tuple [c1, c2] kk tpos] X.env)).any (·.1) = false := by rfl) :
    JE X g T W (.Call (.Name "isinstance" p) [e, .Tuple [c1, c2] kk tpos] [] pos) (mun (isiD (or2 f1 f2)) fo) :=
  fun τ t => PE.imp (pe_callB call_isiT hg hm rfl (pa_cons (ho τ t) (pa_cons (pe_tup (pa_cons hc1 (pa_cons hc2 pa_nil hs4) hs3)) pa_nil hs2) hs) (by decide) (by decide) hs hpl) fun σ H Q ⟨B, s, R, p⟩ => (PostM.bind (P := PO' g) R p).mono fun x H1 ⟨o, B1, s1, R1, e1, q1, p1⟩ => by
    rcases res_cases (o := o) (s := s1) with ⟨d, w⟩ | w
    · rw [mbind_ok w] at p1
      unfold isiD at p1
      cases et : dTy d with
      | none => rw [et] at p1; exact p1.elim
      | some t =>
        rw [et] at p1
        cases eb : or2 f1 f2 t with
        | none => have p1' := p1; rw [show (some t).bind (or2 f1 f2) = none from eb] at p1'; exact p1'.elim
        | some b =>
          rw [show (some t).bind (or2 f1 f2) = some b from eb] at p1
          refine ⟨by show 2 ≤ sizeLine; decide, fun q hq => ?_⟩
          have R2 := R1.new (o := .tup [v1, v2]) hq
          refine ⟨x, q, [v1, v2], t.val g.cn, [u1, u2], b, rfl, upd_same, .cons hv1 (.cons hv2 .nil), ?_, ?_, p1 (.bl b) _ _ R2 (Evl.Ex.new (Evl.fresh_back R1.bh hq)) rfl⟩
          · rw [hK]
            have hd := (res_ok R1 q1 w).2
            have e2 : Ex H1 (upd H1 q (.tup [v1, v2])) := Evl.Ex.new hq
            refine tyx_den0 (B := upd B1 q (.tup [v1, v2])) (no_obj (or2_obj hf0) et eb) R2.bh ?_ (tyD_dTy et)
            cases d with
            | lst ds => obtain ⟨a, vs, rfl, k1, k2⟩ := hd; exact ⟨a, vs, rfl, e2 _ _ k1, k2.mono (Evl.Ex.new (Evl.fresh_back R1.bh hq))⟩
            | obj c ds => obtain ⟨a, dx, vs, rfl, k1, k2⟩ := hd; exact ⟨a, dx, vs, rfl, e2 _ _ k1, k2.mono (Evl.Ex.new (Evl.fresh_back R1.bh hq))⟩
            | _ => exact Den.mono (Evl.Ex.new (Evl.fresh_back R1.bh hq)) hd
          · rw [hK]
            unfold or2 at eb
            cases e1 : f1 t with
            | none => rw [e1] at eb; cases eb
            | some b1 =>
              rw [e1] at eb
              refine kitAny_cons (hf1 t b1 e1) (fun hb => ?_) (fun hb => ?_)
              · subst hb
                refine kitAny_cons (hf2 t b eb) (fun hb => ?_) (fun hb => hb)
                rw [hb]; exact kitAny_nil
              · subst hb; exact (Option.some.inj eb).symm
    · exfalso
      have z : mbind (res o) (fun x => mopt (isiD (or2 f1 f2) x)) s1 = .bad := by unfold mbind; rw [w]
      rw [z] at p1; exact p1
/-! ## a local list that is changed no more, at any use -/
def mvarF (k : Nat) : M Opd := fun s => match s[k]? with
  | some (.l ds) => .ok (.d (.lst ds)) (s.set k (.v (.lst ds)))
  | some (.v _) => .ok (.s k) s
  | _ => .bad
theorem jo_varF {k : Nat} (h : PE X e (tVar k)) (hio : T.io k = none) : JO X g T W e (mvarF k) := fun τ t => by
  have h1 := jo_frz (X := X) (g := g) (T := T) (W := W) h hio τ t
  have h2 := jo_var (X := X) (g := g) (T := T) (W := W) h τ t
  refine ⟨fun pins s0 σ H Q I q => ?_⟩
  obtain ⟨B, s, R, p⟩ := q
  cases hk : s[k]? with
  | none =>
    have z : mvarF k s = .bad := by unfold mvarF; rw [hk]
    rw [z] at p; exact p.elim
  | some x =>
    cases x with
    | l ds =>
      have z : mvarF k s = mfrz k s := by unfold mvarF mfrz; rw [hk]
      rw [z] at p
      exact h1.run pins s0 σ H Q I ⟨B, s, R, p⟩
    | v d =>
      have z : mvarF k s = mvar k s := by unfold mvarF mvar; rw [hk]
      rw [z] at p
      exact h2.run pins s0 σ H Q I ⟨B, s, R, p⟩
    | no =>
      have z : mvarF k s = .bad := by unfold mvarF; rw [hk]
      rw [z] at p; exact p.elim
    | o c ds =>
      have z : mvarF k s = .bad := by unfold mvarF; rw [hk]
      rw [z] at p; exact p.elim
end TW

set_option Elab.async false
set_option linter.all false
set_option autoImplicit false
set_option maxRecDepth 100000
set_option maxHeartbeats 2000000
namespace TW
open PySem PySem.Spec PyProof.Rows L2
variable {g : G} {T : Tx} {B B' H H' : Hp} {σ : L2.St} {s : S} {W : WX} {X : Cx} {a b e o : Expr} {es : List Expr} {pos : Pos}
/-! ## an instance of an own class as an operand -/
def chk (c : Nat) (o : Opd) : M Unit := mbind (res o) fun d => match d with
  | .obj c' _ => if c' = c then mret () else mbad
  | _ => mbad
theorem chk_cases {c : Nat} {o : Opd} {s : S} : chk c o s = .ok () s ∨ chk c o s = .bad := by
  unfold chk
  rcases res_cases (o := o) (s := s) with ⟨d, w⟩ | w
  · rw [mbind_ok w]
    cases d with
    | obj c' ds =>
      by_cases h : c' = c
      · left; dsimp only; rw [if_pos h]; rfl
      · right; dsimp only; rw [if_neg h]; rfl
    | _ => right; rfl
  · right; unfold mbind; rw [w]
theorem chk_ok {c : Nat} {o : Opd} {v : V} (R : Rel g T B H σ s) (h : OpdOk g B σ o v) (e : chk c o s = .ok () s) : ∃ p dx vs, v = .ref p ∧ H p = some (.ins (g.cn c) dx ((g.names c).zip vs)) := by
  unfold chk at e
  rcases res_cases (o := o) (s := s) with ⟨d, w⟩ | w
  · have hd := (res_ok R h w).2
    rw [mbind_ok w] at e
    cases d with
    | obj c' ds =>
      by_cases hc : c' = c
      · subst hc
        obtain ⟨p, dx, vs, e1, h1, _⟩ := hd
        exact ⟨p, dx, vs, e1, h1⟩
      · dsimp only at e; rw [if_neg hc] at e; cases e
    | _ => cases e
  · unfold mbind at e; rw [w] at e; cases e
/-- what a def promises, told of a call whose arguments are read -/
theorem call_tail {f : Fd} {os : List Opd} {vs : List V} {Q : VK} (R1 : Rel g T B H σ s) (q : PAs g σ s os B H vs) (p1 : PostM g T W (RvOk g T) σ B (mcall f [] (mret os) s) Q) : spD g f vs H Q (WE W σ) := by
  replace p1 : PostM g T W (RvOk g T) σ B (if dupFree s os = true then (match argsOf s os with
    | none => .bad
    | some as => match f (as ++ ([] : List D).map .v) with
      | .ret r post => .ok r (putBack s os post)
      | .ex c ds post => .ex c ds (putBack s os post)
      | .bad => .bad) else .bad) Q := p1
  by_cases hd : dupFree s os = true
  · rw [if_pos hd] at p1
    cases ea : argsOf s os with
    | none => rw [ea] at p1; exact p1.elim
    | some as =>
      rw [ea] at p1
      dsimp only at p1
      have hA := args_ok (dds := []) R1 q hd ea (rfl : Dens g B [] [])
      rw [List.append_nil] at hA
      refine ⟨B, as ++ ([] : List D).map .v, R1.bh, hA, ?_⟩
      cases ef : f (as ++ ([] : List D).map .v) with
      | bad => rw [ef] at p1; exact p1.elim
      | ret r post =>
        rw [ef] at p1
        intro v B' H' A hr
        have A2 : After g B H B' H' (as ++ ([] : List D).map .v) (vs ++ []) post := by rw [List.append_nil]; exact A
        have R' := R1.called (dds := []) q hd ea (rfl : Dens g B [] []) A2
        refine p1 v B' H' R' A.eB (RetOk.rv (vs := vs) (as := as) R1 R' hr fun i x p h1 h2 h3 hn => ?_)
        obtain ⟨x0, k1, k2⟩ := putBack_own h1 h2
        obtain ⟨_, o, ho⟩ := R1.r.ownH k1 k2 h3
        rw [ho] at hn; cases hn
      | ex c ds post =>
        rw [ef] at p1
        intro x B' H' A hx
        have A2 : After g B H B' H' (as ++ ([] : List D).map .v) (vs ++ []) post := by rw [List.append_nil]; exact A
        exact p1 x B' H' (R1.called (dds := []) q hd ea (rfl : Dens g B [] []) A2) A.eB hx
  · rw [if_neg hd] at p1; exact p1.elim
/-! ## o.m(e, ..) -/
def tMthS (C : Addr) (m : Str) (sp : Sp) (E : L2.St → XK) (ta : TE) (t : TA) : TE := fun σ H Q => ta σ H fun x H1 => ∃ p dx fs, x = .ref p ∧ H1 p = some (.ins C dx fs) ∧ fs.lookup m = none ∧ t σ H1 fun vs H2 => sp (.ref p :: vs) H2 Q (E σ)
theorem pe_mthS {CX : CXT} {k : Nat} {C f : Addr} {fd : FuncData} {ps : List Str} {sp : Sp} {E : L2.St → XK} {m : Str} {apos : Pos} {ta : TE} {t : TA} {pl : Sem Bool} (he : PE X o ta) (c : Cls X.K C) (hm : Meth X.K C m f) (F : FnOk X.prog X.w X.K X.mg X.base CX k f fd ps sp) (hr : Room k X.A) (hb : Binds X.K fd ps [])
    (hx : ∀ σ, PassesAt CX X σ (E σ)) (ha : PA X (e :: es) t)
    (hst : starEach (e :: es) X.env = (false, eval e X.env) :: starEach es X.env := by rfl) (hpl : (backTo pos (starEach es X.env)).any (·.1) = false := by rfl)
    (ht : eval (.Call (.Attribute o m apos) (e :: es) [] pos) X.env = (do
      let ov ← eval o X.env
      standAt apos.atName
      let (f, first) ← holding [ov] (getMethod ov m pl)
      callWith pos f first (backTo pos (starEach (e :: es) X.env)) (backToKw pos (keywordEach [] X.env))) := by rfl) :
    PE X (.Call (.Attribute o m apos) (e :: es) [] pos) (tMthS C m sp E ta t) := by
  refine ⟨fun pins s σ H Q I h => ?_⟩
  refine PySem.W.methodCall_KW (pl := pl) (thn (he.run pins s σ H _ I h) fun u s1 ⟨x, H1, I1, rx, p, dx, fs, ex, ea, l, q⟩ => ?_) ht
  subst ex
  obtain rfl : u = Value.ref p := rx
  refine getmeth_ok I1 ea c hm l ?_
  refine PySem.W.callWith_K (first := [.ref p]) (h₀ := X.base) I.ok.mod.kin hm.kp (thn (ha.run pos pins s1 σ H1 _ I1 q) fun us s2 ⟨vs, H2, I2, r, q2⟩ => ⟨I2.kIn, ?_⟩) hst hpl
  exact run_fnSD (us := .ref p :: us) (vs := .ref p :: vs) F hr hb .nil (hx σ) I2 (.cons rfl r) (by rw [List.append_nil]; exact q2)
def mmth (c : Nat) (f : Fd) (fo : M Opd) (fa : M (List Opd)) : M Rv := mbind fo fun o => mbind (chk c o) fun _ => mbind fa fun os => mcall f [] (mret (o :: os))
/-- the class c has the method m, a def that promises f -/
structure Mm (P : Program) (w : World) (g : G) (base : Heap) (k c : Nat) (m : Str) (ps : List Str) (f : Fd) : Prop where
  ex : ∃ (a : Addr) (fd : FuncData), FnOk P w g.K g.mg base (L2.CX P w) k a fd ps (spD g f) ∧ Cls g.K (g.cn c) ∧ Meth g.K (g.cn c) m a ∧ Binds g.K fd ps [] ∧
    ∀ (u0 : Value) (us : List Value), us.length + 1 = ps.length → ∀ s : Shared, BindsTo s fd ⟨[u0], (ps.drop 1).zip us⟩ (ps.zip (u0 :: us))
theorem lookup_no {ns : List Str} {vs : List V} {m : Str} (h : m ∉ ns) : (ns.zip vs).lookup m = none := by
  induction ns generalizing vs with
  | nil => rfl
  | cons n ns ih =>
    cases vs with
    | nil => rfl
    | cons v vs =>
      rw [List.zip_cons_cons]
      simp only [List.lookup]
      have hne : (m == n) = false := by
        rw [Bool.eq_false_iff]; intro z
        exact h (by rw [beq_iff_eq.mp z]; exact List.mem_cons_self)
      rw [hne]
      exact ih fun z => h (List.mem_cons_of_mem _ z)
theorem jr_mth {c k j : Nat} {m : Str} {ps : List Str} {f : Fd} {fo : M Opd} {fa : M (List Opd)} {apos : Pos} {pl : Sem Bool} (cm : Mm X.prog X.w g X.base k c m ps f) (hr : Room j X.A) (hk : k ≤ j) (hK : X.K = g.K) (hmg : X.mg = g.mg) (hn : m ∉ g.names c) (tk : Takes X W) (ho : JO X g T W o fo) (ha : JA X g T W (e :: es) fa)
    (hst : starEach (e :: es) X.env = (false, eval e X.env) :: starEach es X.env := by rfl) (hpl : (backTo pos (starEach es X.env)).any (·.1) = false := by rfl)
    (ht : eval (.Call (.Attribute o m apos) (e :: es) [] pos) X.env = (do
      let ov ← eval o X.env
      standAt apos.atName
      let (f, first) ← holding [ov] (getMethod ov m pl)
      callWith pos f first (backTo pos (starEach (e :: es) X.env)) (backToKw pos (keywordEach [] X.env))) := by rfl) :
    JR X g T W (.Call (.Attribute o m apos) (e :: es) [] pos) (mmth c f fo fa) := by
  obtain ⟨ad, fd, F, C0, M0, b, _⟩ := cm
  rw [← hK, ← hmg] at F
  rw [← hK] at C0 M0 b
  exact fun τ t => PE.imp (pe_mthS (E := WE W) (pl := pl) (ho τ t) C0 M0 F (hr.mono hk) b (fun σ => passAt tk σ) (ha τ t) hst hpl ht) fun σ H Q ⟨B, s, R, p⟩ => (PostM.bind (P := PO' g) R p).mono fun x H1 ⟨oo, B1, s1, R1, e1, q1, p1⟩ => by
    rcases chk_cases (c := c) (o := oo) (s := s1) with w | w
    · obtain ⟨ad2, dx, vs, ev, hh⟩ := chk_ok R1 q1 w
      rw [mbind_ok w] at p1
      refine ⟨ad2, dx, _, ev, hh, lookup_no hn, ?_⟩
      exact (PostM.bind (P := PAs g) R1 p1).mono fun vs H2 ⟨os, B2, s2, R2, e2, q2, p2⟩ => by
        have := call_tail (W := W) R2 (PAs.cons (q1.mono e2) q2) p2
        rw [ev] at this; exact this
    · exfalso
      have z : mbind (chk c oo) (fun _ => mbind fa fun os => mcall f [] (mret (oo :: os))) s1 = .bad := by unfold mbind; rw [w]
      rw [z] at p1; exact p1
end TW

set_option Elab.async false
set_option linter.all false
set_option autoImplicit false
set_option maxRecDepth 100000
set_option maxHeartbeats 2000000
namespace TW
open PySem PySem.Spec PyProof.Rows L2
variable {g : G} {T : Tx} {B B' H H' : Hp} {σ : L2.St} {s : S} {W : WX} {X : Cx} {a b e o : Expr} {es : List Expr} {pos : Pos}
/-! ## a op b, both instances of one own class -/
theorem cmp_back {P : Value → Shared → Prop} {z : V} {v : Value} {s' : Shared} (r : RelV z v) (h : P v s') : PySem.W.CmpBack P v s' := by
  cases z with
  | non => cases (show v = Value.none from r); exact h
  | bl k => cases (show v = Value.bool k from r); exact h
  | int i => obtain ⟨t, q⟩ := (show ∃ t, v = Value.int i t from r); cases q; exact h
  | str x => obtain ⟨t, q⟩ := (show ∃ t, v = Value.str x t from r); cases q; exact h
  | _ => first | (cases r; exact h) | (obtain ⟨t, q⟩ := r; cases q; exact h)
theorem inst_at {pins : List (Addr × Obj)} {σ : L2.St} {H : Hp} {s : Shared} {p C dx : Addr} {fs : List (Str × V)} (I : Inv X pins σ H s) (h : H p = some (.ins C dx fs)) : ∃ ox od, PySem.W.InstAt s.heap p ox C (some od) := by
  obtain ⟨mA, J, _⟩ := ins_get I.hok h
  obtain ⟨od, J, _⟩ := J.look
  exact ⟨_, od, J⟩
def tBopS (C : Addr) (sp : Sp) (E : L2.St → XK) (ta tb : TE) : TE := fun σ H Q => ta σ H fun x H1 => tb σ H1 fun y H2 => ∃ p q dx dy fs gs, x = .ref p ∧ y = .ref q ∧ H2 p = some (.ins C dx fs) ∧ H2 q = some (.ins C dy gs) ∧ sp [.ref p, .ref q] H2 Q (E σ)
theorem pe_bopS {CX : CXT} {k : Nat} {C f : Addr} {fd : FuncData} {ps : List Str} {sp : Sp} {E : L2.St → XK} {op : Operator} {ta tb : TE} (ha : PE X a ta) (hb' : PE X b tb) (hc : PySem.W.selfFirst X.K C = true)
    (hs : PySem.W.findIn X.K (.ref C) (PySem.dunder op.info.2) = some (some (.ref f))) (hf : PySem.W.isFn X.K (.ref f) = true) (F : FnOk X.prog X.w X.K X.mg X.base CX k f fd ps sp) (hr : Room k X.A) (hb : Binds X.K fd ps [])
    (hx : ∀ σ, PassesAt CX X σ (E σ)) : PE X (.BinOp a op b pos) (tBopS C sp E ta tb) := by
  refine ⟨fun pins s σ H Q I h => ?_⟩
  refine wpAny_BinOp (thn (ha.run pins s σ H _ I h) fun v s1 ⟨x, H1, I1, rx, q1⟩ => thn (hb'.run pins s1 σ H1 _ I1 q1) fun u s2 ⟨y, H2, I2, ry, q2⟩ => ?_)
  obtain ⟨p, q, dx, dy, fs, gs, ex, ey, h1, h2, q3⟩ := q2
  subst ex; subst ey
  obtain rfl : v = Value.ref p := rx
  obtain rfl : u = Value.ref q := ry
  obtain ⟨ox, od, J⟩ := inst_at I2 h1
  obtain ⟨ox', od', J'⟩ := inst_at I2 h2
  obtain ⟨m, hF⟩ := I2.fr
  refine PySem.W.binop_K hF I.ok.mod.kin J J'.type hc hs hf ?_
  refine wpAny_mono (run_fnSD (us := [.ref p, .ref q]) (vs := [.ref p, .ref q]) F hr hb .nil (hx σ) I2 (.cons rfl (.cons rfl .nil)) (by rw [List.append_nil]; exact q3)) (fun w s' z => ?_) fun _ _ x => x
  obtain ⟨z', H', I', rz, qz⟩ := z
  exact cmp_back rz ⟨z', H', I', rz, qz⟩
def mbop (c : Nat) (f : Fd) (fa fb : M Opd) : M Rv := mbind fa fun o1 => mbind fb fun o2 => mbind (chk c o1) fun _ => mbind (chk c o2) fun _ => mcall f [] (mret [o1, o2])
/-- the class c has an operator, a def that promises f -/
structure Bo (P : Program) (w : World) (g : G) (base : Heap) (k c : Nat) (op : Operator) (ps : List Str) (f : Fd) : Prop where
  ex : ∃ (a : Addr) (fd : FuncData), FnOk P w g.K g.mg base (L2.CX P w) k a fd ps (spD g f) ∧ PySem.W.selfFirst g.K (g.cn c) = true ∧ PySem.W.findIn g.K (.ref (g.cn c)) (PySem.dunder op.info.2) = some (some (.ref a)) ∧ PySem.W.isFn g.K (.ref a) = true ∧ Binds g.K fd ps []
theorem jr_bop {c k j : Nat} {op : Operator} {ps : List Str} {f : Fd} {fa fb : M Opd} (bo : Bo X.prog X.w g X.base k c op ps f) (hr : Room j X.A) (hk : k ≤ j) (hK : X.K = g.K) (hmg : X.mg = g.mg) (tk : Takes X W) (ha : JO X g T W a fa) (hb : JO X g T W b fb) :
    JR X g T W (.BinOp a op b pos) (mbop c f fa fb) := by
  obtain ⟨ad, fd, F, sf, fi, fn, bi⟩ := bo
  rw [← hK, ← hmg] at F
  rw [← hK] at sf fi fn bi
  exact fun τ t => PE.imp (pe_bopS (E := WE W) (ha τ t) (hb τ t) sf fi fn F (hr.mono hk) bi (fun σ => passAt tk σ)) fun σ H Q ⟨B, s, R, p⟩ => (PostM.bind (P := PO' g) R p).mono fun x H1 ⟨o1, B1, s1, R1, e1, q1, p1⟩ =>
    (PostM.bind (P := PO' g) R1 p1).mono fun y H2 ⟨o2, B2, s2, R2, e2, q2, p2⟩ => by
      rcases chk_cases (c := c) (o := o1) (s := s2) with w | w
      · rw [mbind_ok w] at p2
        rcases chk_cases (c := c) (o := o2) (s := s2) with w2 | w2
        · rw [mbind_ok w2] at p2
          obtain ⟨p, dx, vs, ev, hh⟩ := chk_ok R2 (q1.mono e2) w
          obtain ⟨q, dy, us, ev2, hh2⟩ := chk_ok R2 q2 w2
          refine ⟨p, q, dx, dy, _, _, ev, ev2, hh, hh2, ?_⟩
          have := call_tail (W := W) R2 (PAs.cons (q1.mono e2) (PAs.cons q2 .nil)) p2
          rw [ev, ev2] at this; exact this
        · exfalso
          have z : mbind (chk c o2) (fun _ => mcall f [] (mret [o1, o2])) s2 = .bad := by unfold mbind; rw [w2]
          rw [z] at p2; exact p2
      · exfalso
        have z : mbind (chk c o1) (fun _ => mbind (chk c o2) fun _ => mcall f [] (mret [o1, o2])) s2 = .bad := by unfold mbind; rw [w]
        rw [z] at p2; exact p2
/-! ## -a -/
def tNegS (C : Addr) (sp : Sp) (E : L2.St → XK) (ta : TE) : TE := fun σ H Q => ta σ H fun x H1 => ∃ p dx fs, x = .ref p ∧ H1 p = some (.ins C dx fs) ∧ sp [.ref p] H1 Q (E σ)
theorem pe_negS {CX : CXT} {k : Nat} {C f : Addr} {fd : FuncData} {ps : List Str} {sp : Sp} {E : L2.St → XK} {ta : TE} (ha : PE X a ta)
    (hs : PySem.W.findIn X.K (.ref C) "__neg__" = some (some (.ref f))) (hf : PySem.W.isFn X.K (.ref f) = true) (F : FnOk X.prog X.w X.K X.mg X.base CX k f fd ps sp) (hr : Room k X.A) (hb : Binds X.K fd ps [])
    (hx : ∀ σ, PassesAt CX X σ (E σ)) : PE X (.UnaryOp .USub a pos) (tNegS C sp E ta) := by
  refine ⟨fun pins s σ H Q I h => ?_⟩
  refine UnaryOp_ (thn (ha.run pins s σ H _ I h) fun v s1 ⟨x, H1, I1, rx, q1⟩ => ?_)
  obtain ⟨p, dx, fs, ex, h1, q3⟩ := q1
  subst ex
  obtain rfl : v = Value.ref p := rx
  obtain ⟨ox, od, J⟩ := inst_at I1 h1
  obtain ⟨m, hF⟩ := I1.fr
  exact PySem.W.ksp_neg hF I.ok.mod.kin J hs hf (run_fnSD (us := [.ref p]) (vs := [.ref p]) F hr hb .nil (hx σ) I1 (.cons rfl .nil) (by rw [List.append_nil]; exact q3))
def mneg1 (c : Nat) (f : Fd) (fa : M Opd) : M Rv := mbind fa fun o1 => mbind (chk c o1) fun _ => mcall f [] (mret [o1])
structure Ng (P : Program) (w : World) (g : G) (base : Heap) (k c : Nat) (ps : List Str) (f : Fd) : Prop where
  ex : ∃ (a : Addr) (fd : FuncData), FnOk P w g.K g.mg base (L2.CX P w) k a fd ps (spD g f) ∧ PySem.W.findIn g.K (.ref (g.cn c)) "__neg__" = some (some (.ref a)) ∧ PySem.W.isFn g.K (.ref a) = true ∧ Binds g.K fd ps []
theorem jr_neg {c k j : Nat} {ps : List Str} {f : Fd} {fa : M Opd} (ng : Ng X.prog X.w g X.base k c ps f) (hr : Room j X.A) (hk : k ≤ j) (hK : X.K = g.K) (hmg : X.mg = g.mg) (tk : Takes X W) (ha : JO X g T W a fa) :
    JR X g T W (.UnaryOp .USub a pos) (mneg1 c f fa) := by
  obtain ⟨ad, fd, F, fi, fn, bi⟩ := ng
  rw [← hK, ← hmg] at F
  rw [← hK] at fi fn bi
  exact fun τ t => PE.imp (pe_negS (E := WE W) (ha τ t) fi fn F (hr.mono hk) bi (fun σ => passAt tk σ)) fun σ H Q ⟨B, s, R, p⟩ => (PostM.bind (P := PO' g) R p).mono fun x H1 ⟨o1, B1, s1, R1, e1, q1, p1⟩ => by
    rcases chk_cases (c := c) (o := o1) (s := s1) with w | w
    · rw [mbind_ok w] at p1
      obtain ⟨p, dx, vs, ev, hh⟩ := chk_ok R1 q1 w
      refine ⟨p, dx, _, ev, hh, ?_⟩
      have := call_tail (W := W) R1 (PAs.cons q1 .nil) p1
      rw [ev] at this; exact this
    · exfalso
      have z : mbind (chk c o1) (fun _ => mcall f [] (mret [o1])) s1 = .bad := by unfold mbind; rw [w]
      rw [z] at p1; exact p1
end TW

set_option Elab.async false
set_option linter.all false
set_option autoImplicit false
set_option maxRecDepth 100000
set_option maxHeartbeats 2000000
namespace TW
open PySem PySem.Spec PyProof.Rows L2
section
variable {prog : Program} {w : World} {A : Around} {E : Value → Shared → Prop} {s : Shared} {K : PySem.W.Frag} {x C f : Addr} {ox : Obj} {od : Option Obj} {b tb : Value}
/-- object.__ne__ of an instance whose class has its own __eq__ -/
theorem own_ne_code {Q : Fin → Shared → Prop} (hu : A.units < cLine) (X : K.In s.heap) (I : PySem.W.InstAt s.heap x ox C od) (he : PySem.W.findIn K (.ref C) "__eq__" = some (some (.ref f))) (hf : PySem.W.isFn K (.ref f) = true)
    (h : wpAny (model prog w) A (call (.ref f) [.ref x, b]) (fun v s' => ∃ k, v = .bool k ∧ Q (.done (.ret (.bool (!k)))) s') E s) : wpAny (model prog w) A (Builtin.«object.__ne__» ⟨[.ref x, b], []⟩) Q E s := by
  obtain ⟨hh, g, d, t, os⟩ := s
  unfold Builtin.«object.__ne__»
  repeat (first
    | with_reducible refine wpAny_cRoomFor hu ?_
    | (refine wpAny_bind (m := callSpecialIfBound? (.ref x) (Str.ofString "__eq__") [b])
        (PySem.W.ifBound_K X I he hf (wpAny_mono h (fun r s' hr => by
          obtain ⟨k, rfl, hq⟩ := hr
          repeat (first | exact hq | exact wpAny_pure hq | exact wpAny_truthy_bool hq | (refine wpAny_bind (m := truthy (.bool _)) (wpAny_truthy_bool ?_)) | wp_step)) fun _ _ y => y)))
    | wp_step)
theorem ne_slot_bind (v : Value) : bindSpecial (.builtin "object.__ne__") v = pure (.builtin "object.__ne__", [v]) := by
  have h := (PySem.F.slot_enumerate_ne).bind
  first | exact h v | (simp only [h]) | exact congrFun h v
theorem own_ne_try {Q : Option Value → Shared → Prop} (hu : A.units + 1 < cLine) (X : K.In s.heap) (I : PySem.W.InstAt s.heap x ox C od) (hn : PySem.W.findIn K (.ref C) "__ne__" = some (some (.builtin "object.__ne__"))) (ho : PySem.W.subIn K (.ref C) (.type "object") = some true)
    (he : PySem.W.findIn K (.ref C) "__eq__" = some (some (.ref f))) (hf : PySem.W.isFn K (.ref f) = true)
    (h : wpAny (model prog w) A.in1 (call (.ref f) [.ref x, b]) (fun v s' => ∃ k, v = .bool k ∧ Q (some (.bool (!k))) s') E s) : wpAny (model prog w) A (tryCompare (.ref x) "__ne__" b) Q E s := by
  unfold tryCompare
  have chk : ∀ {A : Around} {Q' : Unit → Shared → Prop}, Q' () s → wpAny (model prog w) A (checkBuiltinCall "object.__ne__" ⟨[.ref x, b], []⟩) Q' E s := fun {A} {Q'} hq => by
    simp only [checkBuiltinCall, F.cmpKind_ne, F.cmpSplit_ne]
    have L : PySem.W.Looks (model prog w) s.heap (isInstance (.ref x) (.type "object")) true := I.type.andThen (PySem.W.looks_subIn X ho)
    refine wpAny_bind (L.here ?_)
    repeat (first | exact hq | wp_step)
  have one : wpAny (model prog w) A (call (.builtin "object.__ne__") [.ref x, b]) (fun v s' => ∃ k, v = .bool k ∧ Q (some v) s') E s := by
    refine wpAny_call (codeAny_call_builtin (PySem.F.slot_enumerate_ne).plain F.cmpEntry_ne (chk ?_))
    refine own_ne_code (A := A.in1) hu X I he hf (wpAny_mono h (fun v s' hv => ?_) fun _ _ y => y)
    obtain ⟨k, rfl, hq⟩ := hv
    exact ⟨k, rfl, _, rfl, hq⟩
  have two : wpAny (model prog w) A (callSpecialIfBound? (.ref x) (Str.ofString "__ne__") [b]) (fun r s' => ∃ k, r = some (.bool k) ∧ Q (some (.bool k)) s') E s := by
    simp only [callSpecialIfBound?, bindSpecialIfBound?]
    refine wpAny_holding (wpAny_bind (wpAny_bind (wpAny_bind (I.type.here ((PySem.W.looks_findIn X hn).here ?_)))))
    simp only [ne_slot_bind]
    refine wpAny_bind (wpAny_askSetting (wpAny_ite ?_))
    have fin : wpAny (model prog w) A (call (.builtin "object.__ne__") ([.ref x] ++ [b]) >>= fun v => pure (some v)) (fun r s' => ∃ k, r = some (.bool k) ∧ Q (some (.bool k)) s') E s :=
      wpAny_bind (wpAny_mono one (fun v s' ⟨k, ev, hq⟩ => wpAny_pure ⟨k, by rw [ev], by rw [← ev]; exact hq⟩) fun _ _ h' => h')
    split
    · exact wpAny_bind (wpAny_pure (wpAny_pure fin))
    · exact wpAny_tryCatch (wpAny_bind (wpAny_pure (wpAny_pure fin)))
  refine wpAny_bind (wpAny_mono two (fun r s' hr => ?_) fun _ _ y => y)
  obtain ⟨k, rfl, hq⟩ := hr
  first | exact wpAny_pure hq | (repeat (first | exact hq | exact wpAny_pure hq | wp_step))
/-- x != y of such -/
theorem own_ne {Q : Value → Shared → Prop} {L : Addr} {h₀ : Heap} {m : Str → Option Value} (hu : A.units + 1 < cLine) (F0 : PyProof.Rows.Fr h₀ L s.heap m) (X₀ : K.In h₀) (I : PySem.W.InstAt s.heap x ox C od) (hb : PySem.W.Looks (model prog w) s.heap (typeOf b) tb) (hnf : PySem.W.notFirst K C tb = true)
    (hn : PySem.W.findIn K (.ref C) "__ne__" = some (some (.builtin "object.__ne__"))) (ho : PySem.W.subIn K (.ref C) (.type "object") = some true)
    (he : PySem.W.findIn K (.ref C) "__eq__" = some (some (.ref f))) (hf : PySem.W.isFn K (.ref f) = true)
    (h : wpAny (model prog w) A.in1 (call (.ref f) [.ref x, b]) (fun v s' => ∃ k, v = .bool k ∧ Q (.bool (!k)) s') E s) : wpAny (model prog w) A (compareOp .NotEq (.ref x) b) Q E s := by
  have X := X₀.keeps F0.keep
  have one : wpAny (model prog w) A (tryCompare (.ref x) "__ne__" b) (fun r s' => ∃ v, r = some v ∧ Q v s') E s :=
    own_ne_try hu X I hn ho he hf (wpAny_mono h (fun v s' ⟨k, ev, hq⟩ => ⟨k, ev, _, rfl, hq⟩) fun _ _ y => y)
  unfold compareOp
  unfold richCompare
  simp only [oneThing_ref]
  refine wpAny_holding (wpAny_bind (wpAny_cRoomFor (Nat.lt_of_succ_lt hu) ?_))
  rw [cmpInfo_NotEq]
  dsimp only
  refine wpAny_bind (I.type.here (wpAny_bind (hb.here ?_)))
  split
  · rename_i q
    have e : PySem.W.subIn K tb (.ref C) = some false := by
      rcases Bool.or_eq_true_iff.mp hnf with e | e
      · rw [beq_iff_eq.mp e] at q; simp at q
      · exact beq_iff_eq.mp e
    refine wpAny_bind ((PySem.W.looks_subIn X e).here ?_)
    simp only [Bool.false_eq_true, if_false]
    refine wpAny_bind (wpAny_mono one (fun r s' z => ?_) fun _ _ e => e)
    obtain ⟨v, rfl, hq⟩ := z
    exact wpAny_pure hq
  · refine wpAny_bind (wpAny_pure ?_)
    simp only [Bool.false_eq_true, if_false]
    refine wpAny_bind (wpAny_mono one (fun r s' z => ?_) fun _ _ e => e)
    obtain ⟨v, rfl, hq⟩ := z
    exact wpAny_pure hq
end
end TW

set_option Elab.async false
set_option linter.all false
set_option autoImplicit false
set_option maxRecDepth 100000
set_option maxHeartbeats 2000000
namespace TW
open PySem PySem.Spec PyProof.Rows L2
variable {g : G} {T : Tx} {B B' H H' : Hp} {σ : L2.St} {s : S} {W : WX} {X : Cx} {a b e o : Expr} {es : List Expr} {pos : Pos}
/-! ## a == b, a != b, a an instance whose class has its own __eq__ -/
theorem spD_mono {f : Fd} {vs : List V} {Q Q2 : VK} {E : XK} (h : spD g f vs H Q E) (hq : ∀ v H', Q v H' → Q2 v H') : spD g f vs H Q2 E := by
  obtain ⟨B, as, e, ok, p⟩ := h
  refine ⟨B, as, e, ok, ?_⟩
  cases ef : f as with
  | bad => rw [ef] at p; exact p
  | ret r post => rw [ef] at p; exact fun v B' H' A hr => hq _ _ (p v B' H' A hr)
  | ex c ds post => rw [ef] at p; exact p
def qB (neg : Bool) (Q : VK) : VK := fun v H1 => ∃ k, v = .bl k ∧ Q (.bl (if neg = true then !k else k)) H1
theorem run_fnIn {CX : CXT} {k : Nat} {f : Addr} {fd : FuncData} {ps : List Str} {sp : Sp} {E : L2.St → XK} {pins : List (Addr × Obj)} {σ : L2.St} {H : Hp} {s : Shared} {Q : VK} {us : List Value} {vs : List V} (F : FnOk X.prog X.w X.K X.mg X.base CX k f fd ps sp) (hr : Room (k + 1) X.A) (hb : Binds X.K fd ps []) (hx : PassesAt CX X σ (E σ))
    (I : Inv X pins σ H s) (r : Vals vs us) (h : sp vs H Q (E σ)) : wpAny (model X.prog X.w) X.A.in1 (call (.ref f) us) (EP X pins σ Q) X.xe s := by
  have hl : us.length = ps.length := by rw [← r.length]; exact F.len _ _ _ _ h
  have hb' := hb s us I.kIn (by simpa using hl)
  rw [List.append_nil] at hb'
  refine wpAny_call (codeAny_mono (F.run X.A.in1 X.stack s H ⟨us, []⟩ us vs Q (E σ) hr.in1 I.env0.in1 hb' r h) fun r s' hq => ?_)
  cases r with
  | error e => exact hx pins H s e s' I hq
  | ok fl =>
    cases fl with
    | ret u => exact I.after hq
    | next => exact False.elim hq
    | brk => exact False.elim hq
    | cont => exact False.elim hq
/-- the class c has its own __eq__, a def that promises f; it has no __ne__ of its own -/
structure Eqo (P : Program) (w : World) (g : G) (base : Heap) (k c : Nat) (ps : List Str) (f : Fd) : Prop where
  ex : ∃ (a : Addr) (fd : FuncData), FnOk P w g.K g.mg base (L2.CX P w) k a fd ps (spD g f) ∧ PySem.W.findIn g.K (.ref (g.cn c)) "__eq__" = some (some (.ref a)) ∧ PySem.W.isFn g.K (.ref a) = true ∧ Binds g.K fd ps []
  ne : PySem.W.findIn g.K (.ref (g.cn c)) "__ne__" = some (some (.builtin "object.__ne__"))
  ob : PySem.W.subIn g.K (.ref (g.cn c)) (.type "object") = some true
  nf : ∀ n ∈ ["NoneType", "bool", "int", "str", "tuple", "list", "dict"], PySem.W.subIn g.K (.type n) (.ref (g.cn c)) = some false
def opB (neg : Bool) : CmpOp := if neg = true then .NotEq else .Eq
theorem ceq_core {neg : Bool} {c k : Nat} {ps : List Str} {f : Fd} {pins : List (Addr × Obj)} {σ : L2.St} {H : Hp} {s : Shared} {Q : VK} {p dx : Addr} {fs : List (Str × V)} {y : V} {u t : Value} (eo : Eqo X.prog X.w g X.base k c ps f) (hr : Room (k + 1) X.A) (hK : X.K = g.K) (hmg : X.mg = g.mg) (tk : Takes X W)
    (I : Inv X pins σ H s) (h1 : H p = some (.ins (g.cn c) dx fs)) (ry : RelV y u) (ty : TyX X.K H y t) (hnf : PySem.W.notFirst X.K (g.cn c) t = true) (q : spD g f [.ref p, y] H (qB neg Q) (WE W σ)) :
    wpAny (model X.prog X.w) X.A (compareOp (opB neg) (.ref p) u) (EP X pins σ Q) X.xe s := by
  obtain ⟨⟨ad, fd, F, fi, fn, bi⟩, ne, ob, _⟩ := eo
  rw [← hK, ← hmg] at F
  rw [← hK] at fi fn bi ne ob
  obtain ⟨ox, od, J⟩ := inst_at I h1
  obtain ⟨m, hF⟩ := I.fr
  obtain ⟨P, Z, hP, _⟩ := kit_of I ry ty
  have L := Z.ty (model X.prog X.w) s.heap I.kIn hP
  cases neg with
  | false =>
    show wpAny (model X.prog X.w) X.A (richCompare .Eq (.ref p) u) (EP X pins σ Q) X.xe s
    refine PySem.W.cmp_K (op := .Eq) hr.units0 hF I.ok.mod.kin J L hnf fi fn ?_
    refine wpAny_mono (run_fnSD (us := [.ref p, u]) (vs := [.ref p, y]) F (hr.mono (Nat.le_succ _)) bi .nil (passAt tk σ) I (.cons rfl (.cons ry .nil)) (by rw [List.append_nil]; exact q)) (fun w s' z => ?_) fun _ _ x => x
    obtain ⟨z', H', I', rz, kk, ez, qz⟩ := z
    subst ez
    exact cmp_back rz ⟨_, H', I', rz, qz⟩
  | true =>
    have hu : X.A.units + 1 < cLine := hr.in1.units0
    refine own_ne hu hF I.ok.mod.kin J L hnf ne ob fi fn ?_
    refine wpAny_mono (run_fnIn (E := WE W) (us := [.ref p, u]) (vs := [.ref p, y]) F hr bi (passAt tk σ) I (.cons rfl (.cons ry .nil)) q) (fun w s' z => ?_) fun _ _ x => x
    obtain ⟨z', H', I', rz, kk, ez, qz⟩ := z
    subst ez
    cases (show w = Value.bool kk from rz)
    exact ⟨kk, rfl, .bl (!kk), H', I', rfl, qz⟩
def tCeqS (g : G) (c : Nat) (neg : Bool) (sp : Sp) (E : L2.St → XK) (ta tb : TE) : TE := fun σ H Q => ta σ H fun x H1 => tb σ H1 fun y H2 => ∃ p dx fs t, x = .ref p ∧ H2 p = some (.ins (g.cn c) dx fs) ∧ TyX g.K H2 y t ∧ PySem.W.notFirst g.K (g.cn c) t = true ∧ sp [.ref p, y] H2 (qB neg Q) (E σ)
theorem pe_ceqS {neg : Bool} {c k : Nat} {ps : List Str} {f : Fd} {ta tb : TE} (ha : PE X a ta) (hb : PE X b tb) (eo : Eqo X.prog X.w g X.base k c ps f) (hr : Room (k + 1) X.A) (hK : X.K = g.K) (hmg : X.mg = g.mg) (tk : Takes X W)
    (hm : behindInMarks (opB neg) b = false) : PE X (.Compare a [opB neg] [b] pos) (tCeqS g c neg (spD g f) (WE W) ta tb) := by
  refine ⟨fun pins s σ H Q I h => ?_⟩
  refine wpAny_Compare1 (thn (ha.run pins s σ H _ I h) fun v s1 ⟨x, H1, I1, rx, q1⟩ => thn (hb.run pins s1 σ H1 _ I1 q1) fun u s2 ⟨y, H2, I2, ry, q2⟩ => ?_) hm
  obtain ⟨p, dx, fs, t, ex, h1, ty, hnf, q⟩ := q2
  subst ex
  obtain rfl : v = Value.ref p := rx
  rw [← hK] at ty hnf
  exact ceq_core eo hr hK hmg tk I2 h1 ry ty hnf q
theorem pt_ceqS {neg : Bool} {c k : Nat} {ps : List Str} {f : Fd} {ta tb : TE} (ha : PE X a ta) (hb : PE X b tb) (eo : Eqo X.prog X.w g X.base k c ps f) (hr : Room (k + 1) X.A) (hK : X.K = g.K) (hmg : X.mg = g.mg) (tk : Takes X W)
    (hm : behindInMarks (opB neg) b = false) : PT X (.Compare a [opB neg] [b] pos) (tTest (tCeqS g c neg (spD g f) (WE W) ta tb)) := by
  refine ⟨fun pins s σ H Q I h => ?_⟩
  refine wpAny_isTrue_Compare1 (thn (ha.run pins s σ H _ I h) fun v s1 ⟨x, H1, I1, rx, q1⟩ => thn (hb.run pins s1 σ H1 _ I1 q1) fun u s2 ⟨y, H2, I2, ry, q2⟩ => ?_) hm
  obtain ⟨p, dx, fs, t, ex, h1, ty, hnf, q⟩ := q2
  subst ex
  obtain rfl : v = Value.ref p := rx
  rw [← hK] at ty hnf
  refine thn (ceq_core eo hr hK hmg tk I2 h1 ry ty hnf q) fun c s3 ⟨z, H3, I3, r3, k, e, q3⟩ => ?_
  subst e
  cases r3
  exact wpAny_truthy_bool ⟨H3, I3, q3⟩
/-- any data whose type is told -/
def chkT (c : Nat) (o : Opd) : M Unit := mbind (res o) fun d => match d with
  | .obj c' _ => if c' = c then mret () else mbad
  | .exc _ _ _ _ => mbad
  | .err _ _ => mbad
  | .opq _ => mbad
  | _ => mret ()
theorem chkT_cases {c : Nat} {o : Opd} {s : S} : chkT c o s = .ok () s ∨ chkT c o s = .bad := by
  unfold chkT
  rcases res_cases (o := o) (s := s) with ⟨d, w⟩ | w
  · rw [mbind_ok w]
    cases d with
    | obj c' ds =>
      by_cases h : c' = c
      · left; dsimp only; rw [if_pos h]; rfl
      · right; dsimp only; rw [if_neg h]; rfl
    | exc _ _ _ _ => right; rfl
    | err _ _ => right; rfl
    | opq _ => right; rfl
    | _ => left; rfl
  · right; unfold mbind; rw [w]
theorem chkT_ok {c : Nat} {o : Opd} {v : V} (hc : c < 100) (hI : ∀ c, c < 100 → InsC g.K (g.cn c)) (nf : ∀ n ∈ ["NoneType", "bool", "int", "str", "tuple", "list", "dict"], PySem.W.subIn g.K (.type n) (.ref (g.cn c)) = some false)
    (R : Rel g T B H σ s) (h : OpdOk g B σ o v) (e : chkT c o s = .ok () s) : ∃ t, TyX g.K H v t ∧ PySem.W.notFirst g.K (g.cn c) t = true := by
  have key : ∀ n ∈ ["NoneType", "bool", "int", "str", "tuple", "list", "dict"], PySem.W.notFirst g.K (g.cn c) (.type n) = true := fun n hn => by
    unfold PySem.W.notFirst
    rw [nf n hn]
    simp
  unfold chkT at e
  rcases res_cases (o := o) (s := s) with ⟨d, w⟩ | w
  · have hd := (res_ok R h w).2
    rw [mbind_ok w] at e
    cases d with
    | obj c' ds =>
      by_cases hcc : c' = c
      · subst hcc
        exact ⟨.ref (g.cn c'), tyx_den hI R.bh hd (if_pos hc), by unfold PySem.W.notFirst; simp⟩
      · dsimp only at e; rw [if_neg hcc] at e; cases e
    | exc _ _ _ _ => cases e
    | err _ _ => cases e
    | opq _ => cases e
    | non => exact ⟨_, tyx_den hI R.bh hd rfl, key _ (by simp)⟩
    | bl _ => exact ⟨_, tyx_den hI R.bh hd rfl, key _ (by simp)⟩
    | int _ => exact ⟨_, tyx_den hI R.bh hd rfl, key _ (by simp)⟩
    | str _ => exact ⟨_, tyx_den hI R.bh hd rfl, key _ (by simp)⟩
    | tup _ => exact ⟨_, tyx_den hI R.bh hd rfl, key _ (by simp)⟩
    | lst _ => exact ⟨_, tyx_den hI R.bh hd rfl, key _ (by simp)⟩
    | arg _ => exact ⟨_, tyx_den hI R.bh hd rfl, key _ (by simp)⟩
    | dct => exact ⟨_, tyx_den hI R.bh hd rfl, key _ (by simp)⟩
  · unfold mbind at e; rw [w] at e; cases e
def kB (neg : Bool) : Rv → M D
  | .v (.bl k) => mret (.bl (if neg = true then !k else k))
  | _ => mbad
def mceq (neg : Bool) (c : Nat) (f : Fd) (fa fb : M Opd) : M D := mbind fa fun o1 => mbind fb fun o2 => mbind (chk c o1) fun _ => mbind (chkT c o2) fun _ => mbind (mcall f [] (mret [o1, o2])) (kB neg)
theorem PostM.bind2 {α β γ δ : Type} {P : PP α β} {P' : PP γ δ} {fa : M α} {k : α → M γ} {Q : δ → Hp → Prop} (h : PostM g T W P' σ B (mbind fa k s) Q) :
    PostM g T W P σ B (fa s) fun v H1 => ∃ a B1 s1, Rel g T B1 H1 σ s1 ∧ Ex B B1 ∧ P σ s1 a B1 H1 v ∧ PostM g T W P' σ B1 (k a s1) Q := by
  unfold mbind at h
  cases e : fa s with
  | ok a s' =>
    rw [e] at h
    exact fun v B1 H1 R1 e1 p => ⟨a, B1, s', R1, e1, p, PostM.base e1 h⟩
  | ex c ds s' => rw [e] at h; exact h
  | bad => rw [e] at h; exact h
theorem ceq_rd {neg : Bool} {c : Nat} {f : Fd} {fa fb : M Opd} {τ : L2.St} {t : S} (hc : c < 100) (hI : ∀ c, c < 100 → InsC g.K (g.cn c)) (nf : ∀ n ∈ ["NoneType", "bool", "int", "str", "tuple", "list", "dict"], PySem.W.subIn g.K (.type n) (.ref (g.cn c)) = some false) {Q : VK}
    (h : RdM g (T.tmp τ t) W (PD g) (mceq neg c f fa fb) σ H Q) : tCeqS g c neg (spD g f) (WE W) (RdM g (T.tmp τ t) W (PO' g) fa) (RdM g (T.tmp τ t) W (PO' g) fb) σ H Q := by
  obtain ⟨B, s, R, p⟩ := h
  exact (PostM.bind (P := PO' g) R p).mono fun x H1 ⟨o1, B1, s1, R1, e1, q1, p1⟩ =>
    (PostM.bind (P := PO' g) R1 p1).mono fun y H2 ⟨o2, B2, s2, R2, e2, q2, p2⟩ => by
      rcases chk_cases (c := c) (o := o1) (s := s2) with w | w
      · rw [mbind_ok w] at p2
        rcases chkT_cases (c := c) (o := o2) (s := s2) with w2 | w2
        · rw [mbind_ok w2] at p2
          obtain ⟨p, dx, vs, ev, hh⟩ := chk_ok R2 (q1.mono e2) w
          obtain ⟨tt, ty, hnf⟩ := chkT_ok hc hI nf R2 q2 w2
          refine ⟨p, dx, _, tt, ev, hh, ty, hnf, ?_⟩
          have p3 := PostM.bind2 (P := RvOk g (T.tmp τ t)) p2
          have p4 := call_tail (W := W) R2 (PAs.cons (q1.mono e2) (PAs.cons q2 .nil)) p3
          rw [ev] at p4
          refine spD_mono p4 fun v H' hq => ?_
          obtain ⟨r, B3, s3, R3, e3, q3, p5⟩ := hq
          cases r with
          | v d =>
            cases d with
            | bl k => cases q3; exact ⟨k, rfl, p5 _ B3 H' R3 (Evl.Ex.refl _) rfl⟩
            | _ => exact p5.elim
          | l ds => exact p5.elim
          | o c ds => exact p5.elim
        · exfalso
          have z : mbind (chkT c o2) (fun _ => mbind (mcall f [] (mret [o1, o2])) (kB neg)) s2 = .bad := by unfold mbind; rw [w2]
          rw [z] at p2; exact p2
      · exfalso
        have z : mbind (chk c o1) (fun _ => mbind (chkT c o2) fun _ => mbind (mcall f [] (mret [o1, o2])) (kB neg)) s2 = .bad := by unfold mbind; rw [w]
        rw [z] at p2; exact p2
theorem je_ceq {neg : Bool} {c k j : Nat} {ps : List Str} {f : Fd} {fa fb : M Opd} (eo : Eqo X.prog X.w g X.base k c ps f) (hc : c < 100) (hI : ∀ c, c < 100 → InsC g.K (g.cn c)) (hr : Room j X.A) (hk : k + 1 ≤ j) (hK : X.K = g.K) (hmg : X.mg = g.mg) (tk : Takes X W) (ha : JO X g T W a fa) (hb : JO X g T W b fb)
    (hm : behindInMarks (opB neg) b = false) : JE X g T W (.Compare a [opB neg] [b] pos) (mceq neg c f fa fb) :=
  fun τ t => PE.imp (pe_ceqS (ha τ t) (hb τ t) eo (hr.mono hk) hK hmg tk hm) fun σ H Q h => ceq_rd hc hI eo.nf h
theorem jt_ceq {neg : Bool} {c k j : Nat} {ps : List Str} {f : Fd} {fa fb : M Opd} (eo : Eqo X.prog X.w g X.base k c ps f) (hc : c < 100) (hI : ∀ c, c < 100 → InsC g.K (g.cn c)) (hr : Room j X.A) (hk : k + 1 ≤ j) (hK : X.K = g.K) (hmg : X.mg = g.mg) (tk : Takes X W) (ha : JO X g T W a fa) (hb : JO X g T W b fb)
    (hm : behindInMarks (opB neg) b = false) : JT X g T W (.Compare a [opB neg] [b] pos) (mbind (mceq neg c f fa fb) tob) :=
  fun τ t => PT.imp (pt_ceqS (ha τ t) (hb τ t) eo (hr.mono hk) hK hmg tk hm) fun σ H Q h => tob_rd (fun Q h => ceq_rd hc hI eo.nf h) h
end TW

set_option Elab.async false
set_option linter.all false
set_option autoImplicit false
set_option maxRecDepth 100000
set_option maxHeartbeats 2000000
namespace TW
open PySem PySem.Spec PyProof.Rows L2
variable {g : G} {T : Tx} {B B' H H' : Hp} {σ : L2.St} {s : S} {W : WX} {X : Cx} {a b e o : Expr} {es : List Expr} {pos : Pos}
/-- a def runs at the arguments as they are bound -/
theorem run_bound {CX : CXT} {k : Nat} {f : Addr} {fd : FuncData} {ps : List Str} {sp : Sp} {E : L2.St → XK} {pins : List (Addr × Obj)} {σ : L2.St} {H : Hp} {s : Shared} {Q : VK} {args : Args} {us : List Value} {vs : List V} (F : FnOk X.prog X.w X.K X.mg X.base CX k f fd ps sp) (hr : Room k X.A)
    (hb : us.length = ps.length → BindsTo s fd args (ps.zip us)) (hx : PassesAt CX X σ (E σ)) (I : Inv X pins σ H s) (r : Vals vs us) (h : sp vs H Q (E σ)) :
    codeAny (model X.prog X.w) X.A (.call (.ref f) args) (fun r s' => match r with | .ok (.ret u) => EP X pins σ Q u s' | .ok _ => False | .error e => X.xe e s') s := by
  have hl : us.length = ps.length := by rw [← r.length]; exact F.len _ _ _ _ h
  refine codeAny_mono (F.run X.A X.stack s H args us vs Q (E σ) hr I.env0 (hb hl) r h) fun r s' hq => ?_
  cases r with
  | error e => exact hx pins H s e s' I hq
  | ok fl =>
    cases fl with
    | ret u => exact I.after hq
    | next => exact False.elim hq
    | brk => exact False.elim hq
    | cont => exact False.elim hq
/-! ## f(e, ..), f(k = e), f an instance -/
def tCalO (X : Cx) (C : Addr) (sp : Sp) (E : L2.St → XK) (tf : TE) (t : TA) : TE := fun σ H Q => tf σ H fun y H1 => ∃ p, y = V.ref p ∧ t σ H1 fun vs H2 => (∃ dx fs, H2 p = some (.ins C dx fs)) ∧ sp (V.ref p :: vs) H2 Q (E σ)
theorem pe_calO {CX : CXT} {k : Nat} {C f : Addr} {fd : FuncData} {ps : List Str} {sp : Sp} {E : L2.St → XK} {fe : Expr} {tf : TE} {t : TA} (hf : PE X fe tf) (c : StX.CallO X.K C f) (F : FnOk X.prog X.w X.K X.mg X.base CX k f fd ps sp) (hr : Room k X.A) (hb : Binds X.K fd ps []) (hx : ∀ σ, PassesAt CX X σ (E σ)) (ha : PA X (e :: es) t)
    (ht : eval (.Call fe (e :: es) [] pos) X.env = (do callWith pos (← eval fe X.env) [] (backTo pos (starEach (e :: es) X.env)) (backToKw pos (keywordEach [] X.env))) := by rfl)
    (he : starEach (e :: es) X.env = (false, eval e X.env) :: starEach es X.env := by rfl) (hpl : (backTo pos (starEach es X.env)).any (·.1) = false := by rfl) : PE X (.Call fe (e :: es) [] pos) (tCalO X C sp E tf t) := by
  refine ⟨fun pins s σ H Q I h => ?_⟩
  refine Call_ (thn (hf.run pins s σ H _ I h) fun u s1 ⟨y, H1, I1, ry, p, ey, q⟩ => ?_) ht
  subst ey
  obtain rfl : u = Value.ref p := ry
  refine StX.callO_with (thn (ha.run pos pins s1 σ H1 _ I1 q) fun us s2 ⟨vs, H2, I2, r, ⟨dx, fs, hi⟩, q2⟩ => ?_) he hpl
  obtain ⟨mA, O, _⟩ := ins_get I2.hok hi
  obtain ⟨od, J, _⟩ := O.look
  refine ⟨⟨C, _, _, J, rfl⟩, wpAny_call (PySem.W.kco_code I2.kIn J rfl c.at_ c.fn c.fi ?_)⟩
  refine codeAny_mono (run_bound (args := ⟨.ref p :: us, []⟩) (us := .ref p :: us) (vs := .ref p :: vs) F hr (fun hl => ?_) (hx σ) I2 (.cons rfl r) q2) fun r s' hq => ?_
  · have := hb s2 (.ref p :: us) I2.kIn (by simpa using hl)
    simpa using this
  · cases r with
    | error e => exact hq
    | ok fl => cases fl <;> first | exact hq | exact False.elim hq
def mcalO (c : Nat) (f : Fd) (fo : M Opd) (fa : M (List Opd)) : M Rv := mbind fo fun o => mbind (chk c o) fun _ => mbind fa fun os => mbind (chk c o) fun _ => mcall f [] (mret (o :: os))
/-- instances of the class c may be called: a def that promises f -/
structure Co (P : Program) (w : World) (g : G) (base : Heap) (k c : Nat) (ps : List Str) (f : Fd) : Prop where
  ex : ∃ (a : Addr) (fd : FuncData), FnOk P w g.K g.mg base (L2.CX P w) k a fd ps (spD g f) ∧ StX.CallO g.K (g.cn c) a ∧ Binds g.K fd ps [] ∧
    ∀ (u0 : Value) (us : List Value), us.length + 1 = ps.length → ∀ s : Shared, BindsTo s fd ⟨[u0], (ps.drop 1).zip us⟩ (ps.zip (u0 :: us))
theorem calO_rd {c : Nat} {f : Fd} {fo : M Opd} {fa : M (List Opd)} {τ : L2.St} {t : S} {Q : VK} (h : RdM g (T.tmp τ t) W (RvOk g (T.tmp τ t)) (mcalO c f fo fa) σ H Q) :
    tCalO X (g.cn c) (spD g f) (WE W) (RdM g (T.tmp τ t) W (PO' g) fo) (RdM g (T.tmp τ t) W (PAs g) fa) σ H Q := by
  obtain ⟨B, s, R, p⟩ := h
  refine (PostM.bind (P := PO' g) R p).mono fun x H1 ⟨oo, B1, s1, R1, e1, q1, p1⟩ => ?_
  rcases chk_cases (c := c) (o := oo) (s := s1) with w | w
  · rw [mbind_ok w] at p1
    obtain ⟨ad, dx0, us0, ev, hh0⟩ := chk_ok R1 q1 w
    subst ev
    refine ⟨ad, rfl, ?_⟩
    exact (PostM.bind (P := PAs g) R1 p1).mono fun vs H2 ⟨os, B2, s2, R2, e2, q2, p2⟩ => by
      rcases chk_cases (c := c) (o := oo) (s := s2) with w | w
      · rw [mbind_ok w] at p2
        obtain ⟨ad2, dx, us, ev, hh⟩ := chk_ok R2 (q1.mono e2) w
        cases ev
        exact ⟨⟨dx, _, hh⟩, call_tail (W := W) R2 (PAs.cons (q1.mono e2) q2) p2⟩
      · exfalso
        have z : mbind (chk c oo) (fun _ => mcall f [] (mret (oo :: os))) s2 = .bad := by unfold mbind; rw [w]
        rw [z] at p2; exact p2
  · exfalso
    have z : mbind (chk c oo) (fun _ => mbind fa fun os => mbind (chk c oo) fun _ => mcall f [] (mret (oo :: os))) s1 = .bad := by unfold mbind; rw [w]
    rw [z] at p1; exact p1
theorem jr_calO {c k j : Nat} {ps : List Str} {f : Fd} {fo : M Opd} {fa : M (List Opd)} {fe : Expr} (co : Co X.prog X.w g X.base k c ps f) (hr : Room j X.A) (hk : k ≤ j) (hK : X.K = g.K) (hmg : X.mg = g.mg) (tk : Takes X W) (ho : JO X g T W fe fo) (ha : JA X g T W (e :: es) fa)
    (ht : eval (.Call fe (e :: es) [] pos) X.env = (do callWith pos (← eval fe X.env) [] (backTo pos (starEach (e :: es) X.env)) (backToKw pos (keywordEach [] X.env))) := by rfl)
    (he : starEach (e :: es) X.env = (false, eval e X.env) :: starEach es X.env := by rfl) (hpl : (backTo pos (starEach es X.env)).any (·.1) = false := by rfl) : JR X g T W (.Call fe (e :: es) [] pos) (mcalO c f fo fa) := by
  obtain ⟨ad, fd, F, C0, b, _⟩ := co
  rw [← hK, ← hmg] at F
  rw [← hK] at C0 b
  exact fun τ t => PE.imp (pe_calO (E := WE W) (ho τ t) C0 F (hr.mono hk) b (fun σ => passAt tk σ) (ha τ t) ht he hpl) fun σ H Q h => calO_rd h
/-! ### by keywords -/
theorem callO_ofK {M : Model} {A : Around} {E : Value → Shared → Prop} {s : Shared} {p : Addr} {pos : Pos} {Q : Value → Shared → Prop} {args : List (Bool × Sem Value)} {kws : List (Option Str × Sem Value)} (hplain : (args.any (·.1) || kws.any (·.1.isNone)) = false)
    (h : wpAny M A (evalArgs (.ref p) true args kws) (fun z s₁ => (∃ C ox od, PySem.W.InstAt s₁.heap p ox C od ∧ ox.data = .plain) ∧ wpAny M A (call (.ref p) z.pos z.kw) Q E s₁) E s) : wpAny M A (callWith pos (.ref p) [] args kws) Q E s := by
  unfold callWith
  refine wpAny_bind (wpAny_holding (wpAny_mono h (fun z s₁ h₁ => wpAny_bind (wpAny_standAt ?_)) fun _ _ y => y))
  obtain ⟨⟨C, ox, od, J, hd⟩, h₁⟩ := h₁
  have L := PySem.W.kco_keeper (M := M) J hd
  simp only [hplain]
  refine wpAny_bind (L.here ?_)
  have tl : ∀ {t : Sem Value}, wpAny M A t Q E s₁ → wpAny M A (t >>= fun r => holding [r] point >>= fun _ => pure r) Q E s₁ :=
    fun ht => wpAny_bind (wpAny_mono ht (fun r s₂ hr => wpAny_bind (wpAny_holding (wpAny_point (wpAny_pure hr)))) fun _ _ y => y)
  exact tl (wpAny_operateT h₁)
theorem pe_calOK {CX : CXT} {k : Nat} {C f : Addr} {fd : FuncData} {ps : List Str} {sp : Sp} {E : L2.St → XK} {fe : Expr} {tf : TE} {t : TA} {kws : List Keyword} (hf : PE X fe tf) (c : StX.CallO X.K C f) (F : FnOk X.prog X.w X.K X.mg X.base CX k f fd ps sp) (hr : Room k X.A)
    (hb : ∀ (u0 : Value) (us : List Value), us.length + 1 = ps.length → ∀ s : Shared, BindsTo s fd ⟨[u0], (ps.drop 1).zip us⟩ (ps.zip (u0 :: us))) (hx : ∀ σ, PassesAt CX X σ (E σ)) (hkw : PK X kws t)
    (hall : (backToKw pos (keywordEach kws X.env)).all (·.1.isSome) = true := by rfl) (hks : (backToKw pos (keywordEach kws X.env)).filterMap (·.1) = ps.drop 1 := by rfl)
    (ht : eval (.Call fe [] kws pos) X.env = (do callWith pos (← eval fe X.env) [] (backTo pos (starEach [] X.env)) (backToKw pos (keywordEach kws X.env))) := by rfl)
    (hpl : ((backTo pos (starEach [] X.env)).any (·.1) || (backToKw pos (keywordEach kws X.env)).any (·.1.isNone)) = false := by rfl) : PE X (.Call fe [] kws pos) (tCalO X C sp E tf t) := by
  refine ⟨fun pins s σ H Q I h => ?_⟩
  rw [ht]
  refine wpAny_bind (thn (hf.run pins s σ H _ I h) fun u s1 ⟨y, H1, I1, ry, p, ey, q⟩ => ?_)
  subst ey
  obtain rfl : u = Value.ref p := ry
  refine callO_ofK hpl (evalArgs_kw2_nil hall (thn (hkw.run pos pins s1 σ H1 _ I1 q) fun ws s2 ⟨vs, H2, I2, r, ⟨dx, fs, hi⟩, q2⟩ => ?_))
  obtain ⟨mA, O, _⟩ := ins_get I2.hok hi
  obtain ⟨od, J, _⟩ := O.look
  rw [hks]
  refine ⟨⟨C, _, _, J, rfl⟩, wpAny_call (PySem.W.kco_code I2.kIn J rfl c.at_ c.fn c.fi ?_)⟩
  refine codeAny_mono (run_bound (args := ⟨[.ref p], (ps.drop 1).zip ws⟩) (us := .ref p :: ws) (vs := .ref p :: vs) F hr (fun hl => hb _ ws hl s2) (hx σ) I2 (.cons rfl r) q2) fun r s' hq => ?_
  cases r with
  | error e => exact hq
  | ok fl => cases fl <;> first | exact hq | exact False.elim hq
theorem jr_calOK {c k j : Nat} {ps : List Str} {f : Fd} {fo : M Opd} {fa : M (List Opd)} {fe : Expr} {kws : List Keyword} (co : Co X.prog X.w g X.base k c ps f) (hr : Room j X.A) (hk : k ≤ j) (hK : X.K = g.K) (hmg : X.mg = g.mg) (tk : Takes X W) (ho : JO X g T W fe fo) (ha : JK X g T W kws fa)
    (hall : (backToKw pos (keywordEach kws X.env)).all (·.1.isSome) = true := by rfl) (hks : (backToKw pos (keywordEach kws X.env)).filterMap (·.1) = ps.drop 1 := by rfl)
    (ht : eval (.Call fe [] kws pos) X.env = (do callWith pos (← eval fe X.env) [] (backTo pos (starEach [] X.env)) (backToKw pos (keywordEach kws X.env))) := by rfl)
    (hpl : ((backTo pos (starEach [] X.env)).any (·.1) || (backToKw pos (keywordEach kws X.env)).any (·.1.isNone)) = false := by rfl) : JR X g T W (.Call fe [] kws pos) (mcalO c f fo fa) := by
  obtain ⟨ad, fd, F, C0, _, b⟩ := co
  rw [← hK, ← hmg] at F
  rw [← hK] at C0
  exact fun τ t => PE.imp (pe_calOK (E := WE W) (ho τ t) C0 F (hr.mono hk) b (fun σ => passAt tk σ) (ha τ t) hall hks ht hpl) fun σ H Q h => calO_rd h
/-! ## o.m(k = e) -/
theorem pe_mthSK {CX : CXT} {k : Nat} {C f : Addr} {fd : FuncData} {ps : List Str} {sp : Sp} {E : L2.St → XK} {m : Str} {apos : Pos} {ta : TE} {t : TA} {pl : Sem Bool} {kws : List Keyword} (he : PE X o ta) (c : Cls X.K C) (hm : Meth X.K C m f) (F : FnOk X.prog X.w X.K X.mg X.base CX k f fd ps sp) (hr : Room k X.A)
    (hb : ∀ (u0 : Value) (us : List Value), us.length + 1 = ps.length → ∀ s : Shared, BindsTo s fd ⟨[u0], (ps.drop 1).zip us⟩ (ps.zip (u0 :: us))) (hx : ∀ σ, PassesAt CX X σ (E σ)) (hkw : PK X kws t)
    (hall : (backToKw pos (keywordEach kws X.env)).all (·.1.isSome) = true := by rfl) (hks : (backToKw pos (keywordEach kws X.env)).filterMap (·.1) = ps.drop 1 := by rfl)
    (hpl : ((backTo pos (starEach [] X.env)).any (·.1) || (backToKw pos (keywordEach kws X.env)).any (·.1.isNone)) = false := by rfl)
    (ht : eval (.Call (.Attribute o m apos) [] kws pos) X.env = (do
      let ov ← eval o X.env
      standAt apos.atName
      let (f, first) ← holding [ov] (getMethod ov m pl)
      callWith pos f first (backTo pos (starEach [] X.env)) (backToKw pos (keywordEach kws X.env))) := by rfl) :
    PE X (.Call (.Attribute o m apos) [] kws pos) (tMthS C m sp E ta t) := by
  refine ⟨fun pins s σ H Q I h => ?_⟩
  refine PySem.W.methodCall_KW (pl := pl) (thn (he.run pins s σ H _ I h) fun u s1 ⟨x, H1, I1, rx, p, dx, fs, ex, ea, l, q⟩ => ?_) ht
  subst ex
  obtain rfl : u = Value.ref p := rx
  refine getmeth_ok I1 ea c hm l ?_
  refine PySem.W.callWith_KW0 (first := [.ref p]) (h₀ := X.base) I.ok.mod.kin hm.kp hall (thn (hkw.run pos pins s1 σ H1 _ I1 q) fun ws s2 ⟨vs, H2, I2, r, q2⟩ => ⟨I2.kIn, ?_⟩) hpl
  rw [hks]
  refine wpAny_call (codeAny_mono (run_bound (args := ⟨[.ref p] ++ [], (ps.drop 1).zip ws⟩) (us := .ref p :: ws) (vs := .ref p :: vs) F hr (fun hl => hb _ ws hl s2) (hx σ) I2 (.cons rfl r) q2) fun r s' hq => ?_)
  cases r with
  | error e => exact hq
  | ok fl => cases fl <;> first | exact hq | exact False.elim hq
theorem jr_mthK {c k j : Nat} {m : Str} {ps : List Str} {f : Fd} {fo : M Opd} {fa : M (List Opd)} {apos : Pos} {pl : Sem Bool} {kws : List Keyword} (cm : Mm X.prog X.w g X.base k c m ps f) (hr : Room j X.A) (hk : k ≤ j) (hK : X.K = g.K) (hmg : X.mg = g.mg) (hn : m ∉ g.names c) (tk : Takes X W) (ho : JO X g T W o fo) (ha : JK X g T W kws fa)
    (hall : (backToKw pos (keywordEach kws X.env)).all (·.1.isSome) = true := by rfl) (hks : (backToKw pos (keywordEach kws X.env)).filterMap (·.1) = ps.drop 1 := by rfl)
    (hpl : ((backTo pos (starEach [] X.env)).any (·.1) || (backToKw pos (keywordEach kws X.env)).any (·.1.isNone)) = false := by rfl)
    (ht : eval (.Call (.Attribute o m apos) [] kws pos) X.env = (do
      let ov ← eval o X.env
      standAt apos.atName
      let (f, first) ← holding [ov] (getMethod ov m pl)
      callWith pos f first (backTo pos (starEach [] X.env)) (backToKw pos (keywordEach kws X.env))) := by rfl) :
    JR X g T W (.Call (.Attribute o m apos) [] kws pos) (mmth c f fo fa) := by
  obtain ⟨ad, fd, F, C0, M0, _, b⟩ := cm
  rw [← hK, ← hmg] at F
  rw [← hK] at C0 M0
  exact fun τ t => PE.imp (pe_mthSK (E := WE W) (pl := pl) (ho τ t) C0 M0 F (hr.mono hk) b (fun σ => passAt tk σ) (ha τ t) hall hks hpl ht) fun σ H Q ⟨B, s, R, p⟩ => (PostM.bind (P := PO' g) R p).mono fun x H1 ⟨oo, B1, s1, R1, e1, q1, p1⟩ => by
    rcases chk_cases (c := c) (o := oo) (s := s1) with w | w
    · obtain ⟨ad2, dx, vs, ev, hh⟩ := chk_ok R1 q1 w
      rw [mbind_ok w] at p1
      refine ⟨ad2, dx, _, ev, hh, lookup_no hn, ?_⟩
      exact (PostM.bind (P := PAs g) R1 p1).mono fun vs H2 ⟨os, B2, s2, R2, e2, q2, p2⟩ => by
        have := call_tail (W := W) R2 (PAs.cons (q1.mono e2) q2) p2
        rw [ev] at this; exact this
    · exfalso
      have z : mbind (chk c oo) (fun _ => mbind fa fun os => mcall f [] (mret (oo :: os))) s1 = .bad := by unfold mbind; rw [w]
      rw [z] at p1; exact p1
end TW

set_option Elab.async false
set_option linter.all false
set_option autoImplicit false
set_option maxRecDepth 100000
set_option maxHeartbeats 2000000
namespace TW
open PySem PySem.Spec PyProof.Rows L2
variable {g : G} {T : Tx} {B B' H H' : Hp} {σ : L2.St} {s : S} {W : WX} {X : Cx} {a b e o : Expr} {es : List Expr} {pos : Pos}
/-! ## C.m(e, ..), m a staticmethod -/
structure Sta (K : PySem.W.Frag) (C : Addr) (mc : Value) (m : Str) (f : Addr) : Prop where
  rd : ClX.CRead K C mc
  ex : ∃ q : Addr, PySem.W.findCls K (.ref C) mc m = some (.get (.builtin "staticmethod.__get__") (.ref q) .none (.ref C)) ∧ ∃ rest, PySem.W.recIn K q "staticmethod" = some (.ref f :: rest)
  kp : PySem.W.keepIn K (.ref f) = true
theorem getmethst_ok {pins : List (Addr × Obj)} {σ : L2.St} {H : Hp} {s : Shared} {C f : Addr} {mc : Value} {m : Str} {A : Around} {E : Value → Shared → Prop} {pl : Sem Bool} {Q : Value × List Value → Shared → Prop} (I : Inv X pins σ H s) (k : Sta X.K C mc m f)
    (h : ∀ s', Inv X pins σ H s' → Q (.ref f, []) s') : wpAny (model X.prog X.w) A (getMethod (.ref C) m pl) Q E s := by
  obtain ⟨q, fa, rest, hp⟩ := k.ex
  refine PySem.W.method_cls I.kIn k.rd.ga ?_
  refine PySem.W.cls_bind I.kIn k.rd.rd fa ?_
  refine wpAny_call (PySem.W.sm_get (s := { s with toks := s.toks + 1 }) I.kIn hp (PySem.W.handed_on rfl ?_))
  exact h _ (I.tok _)
theorem pe_sta {CX : CXT} {k : Nat} {C f : Addr} {mc : Value} {fd : FuncData} {ps : List Str} {sp : Sp} {E : L2.St → XK} {m x : Str} {p apos : Pos} {t : TA} {pl : Sem Bool} (k0 : Sta X.K C mc m f) (hg : Gl X x) (hm : X.mg x = some (.ref C)) (F : FnOk X.prog X.w X.K X.mg X.base CX k f fd ps sp) (hr : Room k X.A) (hb : Binds X.K fd ps [])
    (hx : ∀ σ, PassesAt CX X σ (E σ)) (ha : PA X (e :: es) t) (hd : (x == ("__debug__" : Str)) = false := by decide)
    (hst : starEach (e :: es) X.env = (false, eval e X.env) :: starEach es X.env := by rfl) (hpl : (backTo pos (starEach es X.env)).any (·.1) = false := by rfl)
    (ht : eval (.Call (.Attribute (.Name x p) m apos) (e :: es) [] pos) X.env = (do
      let ov ← eval (.Name x p) X.env
      standAt apos.atName
      let (f, first) ← holding [ov] (getMethod ov m pl)
      callWith pos f first (backTo pos (starEach (e :: es) X.env)) (backToKw pos (keywordEach [] X.env))) := by rfl) :
    PE X (.Call (.Attribute (.Name x p) m apos) (e :: es) [] pos) (tCallSD sp [] E t) := by
  refine ⟨fun pins s σ H Q I h => ?_⟩
  refine PySem.W.methodCall_KW (pl := pl) (ld_glob I hg hm ?_ hd) ht
  refine getmethst_ok I k0 fun s1 I1 => ?_
  refine PySem.W.callWith_K (h₀ := X.base) I.ok.mod.kin k0.kp (thn (ha.run pos pins s1 σ H _ I1 h) fun us s2 ⟨vs, H2, I2, r, q2⟩ => ⟨I2.kIn, ?_⟩) hst hpl
  exact run_fnSD F hr hb .nil (hx σ) I2 r q2
theorem pe_staK {CX : CXT} {k : Nat} {C f : Addr} {mc : Value} {fd : FuncData} {ps ks : List Str} {sp : Sp} {E : L2.St → XK} {m x : Str} {p apos : Pos} {t : TA} {pl : Sem Bool} {kws : List Keyword} {rv : Bool} (k0 : Sta X.K C mc m f) (hg : Gl X x) (hm : X.mg x = some (.ref C)) (F : FnOk X.prog X.w X.K X.mg X.base CX k f fd ps sp) (hr : Room k X.A)
    (hb : ∀ (us : List Value), us.length = ps.length → ∀ s : Shared, BindsTo s fd ⟨[], ks.zip us⟩ (ps.zip (if rv = true then us.reverse else us))) (hx : ∀ σ, PassesAt CX X σ (E σ)) (hkw : PK X kws t) (hd : (x == ("__debug__" : Str)) = false := by decide)
    (hall : (backToKw pos (keywordEach kws X.env)).all (·.1.isSome) = true := by rfl) (hks : (backToKw pos (keywordEach kws X.env)).filterMap (·.1) = ks := by rfl)
    (hpl : ((backTo pos (starEach [] X.env)).any (·.1) || (backToKw pos (keywordEach kws X.env)).any (·.1.isNone)) = false := by rfl)
    (ht : eval (.Call (.Attribute (.Name x p) m apos) [] kws pos) X.env = (do
      let ov ← eval (.Name x p) X.env
      standAt apos.atName
      let (f, first) ← holding [ov] (getMethod ov m pl)
      callWith pos f first (backTo pos (starEach [] X.env)) (backToKw pos (keywordEach kws X.env))) := by rfl) :
    PE X (.Call (.Attribute (.Name x p) m apos) [] kws pos) (fun σ H Q => t σ H fun vs H1 => sp (if rv = true then vs.reverse else vs) H1 Q (E σ)) := by
  refine ⟨fun pins s σ H Q I h => ?_⟩
  refine PySem.W.methodCall_KW (pl := pl) (ld_glob I hg hm ?_ hd) ht
  refine getmethst_ok I k0 fun s1 I1 => ?_
  refine PySem.W.callWith_KW0 (h₀ := X.base) I.ok.mod.kin k0.kp hall (thn (hkw.run pos pins s1 σ H _ I1 h) fun ws s2 ⟨vs, H2, I2, r, q2⟩ => ⟨I2.kIn, ?_⟩) hpl
  rw [hks]
  have rv' : ∀ {xs : List V} {us : List Value}, Vals xs us → Vals xs.reverse us.reverse := fun {xs us} r => by
    induction r with
    | nil => exact .nil
    | cons r1 r2 ih => rw [List.reverse_cons, List.reverse_cons]; exact ih.append (.cons r1 .nil)
  have r2 : Vals (if rv = true then vs.reverse else vs) (if rv = true then ws.reverse else ws) := by
    cases rv with
    | true => exact rv' r
    | false => exact r
  refine wpAny_call (codeAny_mono (run_bound (args := ⟨[] ++ [], ks.zip ws⟩) F hr (fun hl => hb ws (by
    cases rv with
    | true => simpa using hl
    | false => exact hl) s2) (hx σ) I2 r2 q2) fun r s' hq => ?_)
  cases r with
  | error e => exact hq
  | ok fl => cases fl <;> first | exact hq | exact False.elim hq
/-- the class named x has the staticmethod m, a def that promises f -/
structure Sm (P : Program) (w : World) (g : G) (base : Heap) (k : Nat) (x m : Str) (ps : List Str) (f : Fd) : Prop where
  ex : ∃ (C a : Addr) (mc : Value) (fd : FuncData), Sta g.K C mc m a ∧ g.mg x = some (.ref C) ∧ FnOk P w g.K g.mg base (L2.CX P w) k a fd ps (spD g f) ∧ Binds g.K fd ps [] ∧
    (∀ (us : List Value), us.length = ps.length → ∀ s : Shared, BindsTo s fd ⟨[], ps.zip us⟩ (ps.zip us)) ∧ ∀ (us : List Value), us.length = ps.length → ∀ s : Shared, BindsTo s fd ⟨[], ps.reverse.zip us⟩ (ps.zip us.reverse)
theorem jr_sta {k j : Nat} {x m : Str} {ps : List Str} {f : Fd} {fa : M (List Opd)} {p apos : Pos} {pl : Sem Bool} (sm : Sm X.prog X.w g X.base k x m ps f) (hr : Room j X.A) (hk : k ≤ j) (hK : X.K = g.K) (hmg : X.mg = g.mg) (hg : Gl X x) (tk : Takes X W) (ha : JA X g T W (e :: es) fa) (hd : (x == ("__debug__" : Str)) = false := by decide)
    (hst : starEach (e :: es) X.env = (false, eval e X.env) :: starEach es X.env := by rfl) (hpl : (backTo pos (starEach es X.env)).any (·.1) = false := by rfl)
    (ht : eval (.Call (.Attribute (.Name x p) m apos) (e :: es) [] pos) X.env = (do
      let ov ← eval (.Name x p) X.env
      standAt apos.atName
      let (f, first) ← holding [ov] (getMethod ov m pl)
      callWith pos f first (backTo pos (starEach (e :: es) X.env)) (backToKw pos (keywordEach [] X.env))) := by rfl) :
    JR X g T W (.Call (.Attribute (.Name x p) m apos) (e :: es) [] pos) (mcall f [] fa) := by
  obtain ⟨C, a, mc, fd, k0, hm, F, b, _, _⟩ := sm
  rw [← hK, ← hmg] at F
  rw [← hmg] at hm
  rw [← hK] at k0 b
  exact jr_call (fun ta h => pe_sta (pl := pl) k0 hg hm F (hr.mono hk) b (fun σ => passAt tk σ) h hd hst hpl ht) (fun _ => rfl) ha
theorem jr_staK {k j : Nat} {x m : Str} {ps : List Str} {f : Fd} {fa : M (List Opd)} {p apos : Pos} {pl : Sem Bool} {kws : List Keyword} (rv : Bool) (sm : Sm X.prog X.w g X.base k x m ps f) (hr : Room j X.A) (hk : k ≤ j) (hK : X.K = g.K) (hmg : X.mg = g.mg) (hg : Gl X x) (tk : Takes X W) (ha : JK X g T W kws fa) (hd : (x == ("__debug__" : Str)) = false := by decide)
    (hall : (backToKw pos (keywordEach kws X.env)).all (·.1.isSome) = true := by rfl) (hks : (backToKw pos (keywordEach kws X.env)).filterMap (·.1) = (if rv = true then ps.reverse else ps) := by rfl)
    (hpl : ((backTo pos (starEach [] X.env)).any (·.1) || (backToKw pos (keywordEach kws X.env)).any (·.1.isNone)) = false := by rfl)
    (ht : eval (.Call (.Attribute (.Name x p) m apos) [] kws pos) X.env = (do
      let ov ← eval (.Name x p) X.env
      standAt apos.atName
      let (f, first) ← holding [ov] (getMethod ov m pl)
      callWith pos f first (backTo pos (starEach [] X.env)) (backToKw pos (keywordEach kws X.env))) := by rfl) :
    JR X g T W (.Call (.Attribute (.Name x p) m apos) [] kws pos) (mcall f [] (if rv = true then mrevA fa else fa)) := by
  obtain ⟨C, a, mc, fd, k0, hm, F, _, b1, b2⟩ := sm
  rw [← hK, ← hmg] at F
  rw [← hmg] at hm
  rw [← hK] at k0
  have b : ∀ (us : List Value), us.length = ps.length → ∀ s : Shared, BindsTo s fd ⟨[], (if rv = true then ps.reverse else ps).zip us⟩ (ps.zip (if rv = true then us.reverse else us)) := by
    cases rv with
    | true => exact b2
    | false => exact b1
  refine fun τ t => PE.imp (pe_staK (E := WE W) (pl := pl) (rv := rv) k0 hg hm F (hr.mono hk) b (fun σ => passAt tk σ) (ha τ t) hd hall hks hpl ht) fun σ H Q h => ?_
  obtain ⟨B, s, R, p⟩ := h
  cases rv with
  | true =>
    replace p : PostM g (T.tmp τ t) W (RvOk g (T.tmp τ t)) σ B (mbind (mrevA fa) (fun os => mcall f [] (mret os)) s) Q := p
    have z : mbind (mrevA fa) (fun os => mcall f [] (mret os)) s = mbind fa (fun os => mcall f [] (mret os.reverse)) s := by
      unfold mrevA mbind
      cases fa s <;> rfl
    rw [z] at p
    exact (PostM.bind (P := PAs g) R p).mono fun vs H1 ⟨os, B1, s1, R1, e1, q1, p1⟩ => call_tail (W := W) R1 q1.reverse p1
  | false =>
    replace p : PostM g (T.tmp τ t) W (RvOk g (T.tmp τ t)) σ B (mbind fa (fun os => mcall f [] (mret os)) s) Q := p
    exact (PostM.bind (P := PAs g) R p).mono fun vs H1 ⟨os, B1, s1, R1, e1, q1, p1⟩ => call_tail (W := W) R1 q1 p1
end TW

set_option Elab.async false
set_option linter.all false
set_option autoImplicit false
set_option maxRecDepth 100000
set_option maxHeartbeats 2000000
namespace TW
open PySem PySem.Spec PyProof.Rows L2
variable {g : G} {T : Tx} {B B' H H' : Hp} {σ : L2.St} {s : S} {W : WX} {X : Cx} {a b e o : Expr} {es : List Expr} {pos : Pos}
/-! ## C(k = e) -/
theorem make_rd {c : Nat} {f : Fd} {dds : List D} {dvs : List V} {fa : M (List Opd)} {τ : L2.St} {t : S} {Q : VK} (hdd : ∀ B, Dens g B dds dvs) (h : RdM g (T.tmp τ t) W (RvOk g (T.tmp τ t)) (mmake c f dds fa) σ H Q) : tMakeS (g.cn c) (spD g f) dvs (WE W) (RdM g (T.tmp τ t) W (PAs g) fa) σ H Q := by
  obtain ⟨B, s, R, p⟩ := h
  exact (PostM.bind (P := PAs g) R p).mono fun vs H1 ⟨os, B1, s1, R1, e1, q, p1⟩ => by
    by_cases hd : dupFree s1 os = true
    · rw [if_pos hd] at p1
      cases ea : argsOf s1 os with
      | none => rw [ea] at p1; exact p1.elim
      | some as =>
        rw [ea] at p1
        dsimp only at p1
        intro x dx nx ndx ne
        have eH : Ex H1 (upd (upd H1 dx (.own x)) x (.ins (g.cn c) dx [])) := (Evl.Ex.new ndx).trans (Evl.Ex.new (by rw [upd_ne ne.symm]; exact nx))
        refine ⟨B1, .o c [] :: (as ++ dds.map .v), R1.bh.trans eH, ?_, ?_⟩
        · exact (Rel.made (B' := B1) (H' := H1) (post := []) (cc := c) R1 q hd ea (hdd B1) nx ndx ne).1
        cases ef : f (.o c [] :: (as ++ dds.map .v)) with
        | bad => rw [ef] at p1; exact p1.elim
        | ex cc ds post =>
          rw [ef] at p1
          intro y B' H' A hx
          exact p1 y B' H' ((Rel.made (cc := c) R1 q hd ea (hdd B1) nx ndx ne).2 A).1 A.eB hx
        | ret r post =>
          rw [ef] at p1
          intro v B' H' A hr
          cases r with
          | v d =>
            cases d with
            | non =>
              refine ⟨hr, ?_⟩
              cases post with
              | nil => exact p1.elim
              | cons y post =>
                cases y with
                | o c' ds =>
                  dsimp only at p1
                  by_cases ec : c' = c
                  · rw [if_pos ec] at p1
                    subst ec
                    have k := (Rel.made (cc := c') R1 q hd ea (hdd B1) nx ndx ne).2 A
                    exact p1 (.ref x) B' H' k.1 A.eB (k.2 ds rfl)
                  · rw [if_neg ec] at p1; exact p1.elim
                | _ => exact p1.elim
            | _ => exact p1.elim
          | _ => exact p1.elim
    · rw [if_neg hd] at p1; exact p1.elim
theorem run_makeSK {CX : CXT} {k : Nat} {f C : Addr} {fd : FuncData} {ps ks : List Str} {sp : Sp} {E : L2.St → XK} {pins : List (Addr × Obj)} {σ : L2.St} {H : Hp} {s : Shared} {Q : VK} {ws : List Value} {zs : List V} (M : Mk X.K C f) (F : FnOk X.prog X.w X.K X.mg X.base CX k f fd ps sp) (hr : Room (k + 1) X.A)
    (hb : ∀ (u0 : Value) (us : List Value), us.length + 1 = ps.length → ∀ s : Shared, BindsTo s fd ⟨[u0], ks.zip us⟩ (ps.zip (u0 :: us))) (hx : PassesAt CX X σ (E σ)) (I : Inv X pins σ H s) (rz : Vals zs ws)
    (h : ∀ x dx, H x = none → H dx = none → dx ≠ x → sp (.ref x :: zs) (upd (upd H dx (.own x)) x (.ins C dx [])) (fun v H2 => v = .non ∧ Q (.ref x) H2) (E σ)) :
    wpAny (model X.prog X.w) X.A (call (.ref C) [] (ks.zip ws)) (EP X pins σ Q) X.xe s := by
  have hq := h (s.heap.objs.size + 1) s.heap.objs.size (I.hok.fresh (Nat.le_succ _)) (I.hok.fresh (Nat.le_refl _)) (Nat.ne_of_lt (Nat.lt_succ_self _))
  have I2 := Inv.made (C := C) I
  have r2 : Vals (V.ref (s.heap.objs.size + 1) :: zs) (Value.ref (s.heap.objs.size + 1) :: ws) := .cons rfl rz
  have hl : ws.length + 1 = ps.length := by
    have e := r2.length
    rw [F.len _ _ _ _ hq] at e
    simpa using e.symm
  refine wpAny_call (make_map (f := f) I.kIn M.makes M.init (beq_iff_eq.mp M.fn) (codeAny_mono (F.run _ X.stack _ _ ⟨[Value.ref (s.heap.objs.size + 1)], ks.zip ws⟩ (Value.ref (s.heap.objs.size + 1) :: ws) _ _ (E σ) (hr.make C [] (ks.zip ws))
    (I2.env0.make C [] (ks.zip ws)) (hb _ ws hl _) r2 hq) fun r s' hq' => ?_))
  cases r with
  | error e => exact hx pins _ _ e s' I2 hq'
  | ok fl =>
    cases fl with
    | ret u =>
      obtain ⟨v, H', I3, rv, ev, q3⟩ := I2.after hq'
      subst ev
      exact ⟨rv, ⟨V.ref (s.heap.objs.size + 1), H', I3, rfl, q3⟩⟩
    | next => exact False.elim hq'
    | brk => exact False.elim hq'
    | cont => exact False.elim hq'
theorem pe_makeSK {CX : CXT} {k : Nat} {f C : Addr} {fd : FuncData} {ps : List Str} {sp : Sp} {E : L2.St → XK} {x : Str} {p : Pos} {t : TA} {kws : List Keyword} (M : Mk X.K C f) (F : FnOk X.prog X.w X.K X.mg X.base CX k f fd ps sp) (hr : Room (k + 1) X.A) (hg : Gl X x) (hm : X.mg x = some (.ref C))
    (hb : ∀ (u0 : Value) (us : List Value), us.length + 1 = ps.length → ∀ s : Shared, BindsTo s fd ⟨[u0], (ps.drop 1).zip us⟩ (ps.zip (u0 :: us))) (hx : ∀ σ, PassesAt CX X σ (E σ)) (hkw : PK X kws t)
    (hall : (backToKw pos (keywordEach kws X.env)).all (·.1.isSome) = true := by rfl) (hks : (backToKw pos (keywordEach kws X.env)).filterMap (·.1) = ps.drop 1 := by rfl)
    (hdb : (x == ("__debug__" : Str)) = false := by decide) (hpl : ((backTo pos (starEach [] X.env)).any (·.1) || (backToKw pos (keywordEach kws X.env)).any (·.1.isNone)) = false := by rfl) :
    PE X (.Call (.Name x p) [] kws pos) (tMakeS C sp [] E t) := by
  refine ⟨fun pins s σ H Q I h => ?_⟩
  refine wpAny_Call_Name_kw (ld_glob I hg hm ?_ hdb)
  refine PySem.W.callWith_KW0 (h₀ := X.base) I.ok.mod.kin M.kp hall (thn (hkw.run pos pins s σ H _ I h) fun ws s2 ⟨zs, H2, I2, rz, q2⟩ => ⟨I2.kIn, ?_⟩) hpl
  rw [hks]
  exact run_makeSK M F hr hb (hx σ) I2 rz fun x dx n1 n2 n3 => by have := q2 x dx n1 n2 n3; rwa [List.append_nil] at this
/-- the class named x is made by __init__, also by keywords -/
structure CmK (P : Program) (w : World) (g : G) (base : Heap) (k : Nat) (x : Str) (c : Nat) (ps : List Str) (f : Fd) : Prop where
  ex : ∃ (a : Addr) (fd : FuncData), Mk g.K (g.cn c) a ∧ FnOk P w g.K g.mg base (L2.CX P w) k a fd ps (spD g f) ∧ g.mg x = some (.ref (g.cn c)) ∧
    ∀ (u0 : Value) (us : List Value), us.length + 1 = ps.length → ∀ s : Shared, BindsTo s fd ⟨[u0], (ps.drop 1).zip us⟩ (ps.zip (u0 :: us))
theorem jr_makeK {k j c : Nat} {x : Str} {ps : List Str} {f : Fd} {fa : M (List Opd)} {p : Pos} {kws : List Keyword} (cm : CmK X.prog X.w g X.base k x c ps f) (hr : Room j X.A) (hk : k + 1 ≤ j) (hK : X.K = g.K) (hmg : X.mg = g.mg) (hg : Gl X x) (tk : Takes X W) (ha : JK X g T W kws fa)
    (hall : (backToKw pos (keywordEach kws X.env)).all (·.1.isSome) = true := by rfl) (hks : (backToKw pos (keywordEach kws X.env)).filterMap (·.1) = ps.drop 1 := by rfl)
    (hdb : (x == ("__debug__" : Str)) = false := by decide) (hpl : ((backTo pos (starEach [] X.env)).any (·.1) || (backToKw pos (keywordEach kws X.env)).any (·.1.isNone)) = false := by rfl) :
    JR X g T W (.Call (.Name x p) [] kws pos) (mmake c f [] fa) := by
  obtain ⟨a, fd, M, F, hm, b⟩ := cm
  rw [← hK, ← hmg] at F
  rw [← hmg] at hm
  rw [← hK] at M
  exact fun τ t => PE.imp (pe_makeSK (E := WE W) M F (hr.mono hk) hg hm b (fun σ => passAt tk σ) (ha τ t) hall hks hdb hpl) fun σ H Q h => make_rd (dds := []) (dvs := []) (fun _ => rfl) h
end TW

set_option Elab.async false
set_option linter.all false
set_option autoImplicit false
set_option maxRecDepth 100000
set_option maxHeartbeats 4000000
namespace TW
open PySem PySem.Spec PyProof.Rows L2
section
variable {prog : Program} {w : World} {A : Around} {E : Value → Shared → Prop} {s : Shared}
/-! ## t[::-1] -/
theorem slice_back {sl : Addr} {vl vu vs : Value} {n : Nat} {Q : Int × Int × Nat → Shared → Prop} (hs : s.heap.IsSliceOf sl vl vu vs) (pl : IsPart vl none) (pu : IsPart vu none) (ps : IsPart vs (some (-1)))
    (h : Q ((n : Int) - 1, -1, n) s) : wpAny (model prog w) A (Builtin.Slice.sliceApplied (.ref sl) (pure (n : Int))) Q E s := by
  obtain ⟨os, hos, hcs, hds⟩ := id hs
  unfold Builtin.Slice.sliceApplied Builtin.Slice.sliceFields
  refine wpAny_bind (wpAny_bind (wpAny_field hos hds (x := vl) rfl (wpAny_bind (wpAny_field hos hds (x := vu) rfl (wpAny_bind (wpAny_field hos hds (x := vs) rfl (wpAny_pure ?_)))))))
  refine wpAny_bind (HT.slicePart_ ps ?_)
  show wpAny _ _ (if ((-1 : Int) == 0) = true then _ else _) _ _ s
  rw [if_neg (by decide)]
  refine wpAny_bind (HT.slicePart_ pl (wpAny_bind (HT.slicePart_ pu (wpAny_bind (wpAny_pure ?_)))))
  show wpAny _ _ (pure ((n : Int) - 1, (-1 : Int), Builtin.Slice.slicePlaces ((n : Int) - 1) (-1) (-1))) _ _ s
  have e : Builtin.Slice.slicePlaces ((n : Int) - 1) (-1) (-1) = n := by
    unfold Builtin.Slice.slicePlaces
    have h1 : ¬ ((-1 : Int) > 0) := by omega
    simp only [h1, if_false, Int.neg_neg, Int.ediv_one]
    split <;> omega
  rw [e]
  exact wpAny_pure h
theorem pick_back (xs : Array Value) : ((List.range xs.size).filterMap fun (k : Nat) => xs[(((xs.size : Int) - 1) + (k : Int) * (-1)).toNat]?).toArray = xs.toList.reverse.toArray := by
  congr 1
  apply List.ext_getElem?
  intro i
  have key : (List.range xs.size).filterMap (fun (k : Nat) => xs[(((xs.size : Int) - 1) + (k : Int) * (-1)).toNat]?) = (List.range xs.size).map fun k => xs[xs.size - 1 - k]?.getD .none := by
    have : ∀ l : List Nat, (∀ k ∈ l, k < xs.size) → l.filterMap (fun (k : Nat) => xs[(((xs.size : Int) - 1) + (k : Int) * (-1)).toNat]?) = l.map fun k => xs[xs.size - 1 - k]?.getD .none := by
      intro l
      induction l with
      | nil => intro _; rfl
      | cons a l ih =>
        intro h
        have ha : a < xs.size := h a List.mem_cons_self
        have e1 : (((xs.size : Int) - 1) + (a : Int) * (-1)).toNat = xs.size - 1 - a := by omega
        have e2 : xs[xs.size - 1 - a]? = some xs[xs.size - 1 - a] := by simp [show xs.size - 1 - a < xs.size by omega]
        rw [List.filterMap_cons, List.map_cons, e1, e2, ih fun k hk => h k (List.mem_cons_of_mem _ hk)]
        rfl
    exact this _ fun k hk => List.mem_range.mp hk
  rw [key, List.getElem?_map]
  by_cases hi : i < xs.size
  · rw [List.getElem?_range hi, List.getElem?_reverse (by simpa using hi)]
    simp [show xs.size - 1 - i < xs.size by omega]
  · rw [List.getElem?_eq_none (by simpa using hi), List.getElem?_eq_none (by simpa using hi)]; rfl
theorem getItem_tuple_back {t sl : Addr} {items : Array Value} {vl vu vs : Value} {Q : Value → Shared → Prop} (ht : IsTup s.heap t items) (hs : s.heap.IsSliceOf sl vl vu vs) (pl : IsPart vl none) (pu : IsPart vu none) (ps : IsPart vs (some (-1)))
    (h : Q (.ref s.heap.objs.size) { s with heap := s.heap.push { cls := .type "tuple", data := .seq items.toList.reverse.toArray } })
    (hsz : items.size ≤ sizeLine) : wpAny (model prog w) A (getItem (.ref t) (.ref sl)) Q E s := by
  have htake : sizeOk (.seq items.toList.reverse.toArray) := by
    show items.toList.reverse.toArray.size ≤ sizeLine
    rw [List.size_toArray, List.length_reverse, Array.length_toList]
    exact hsz
  obtain ⟨os, hos, hcs, hds⟩ := id hs
  have hTs : s.TypeIs (.ref sl) "slice" := ⟨os, hos, hcs⟩
  unfold getItem
  try with_reducible refine wpAny_holding ?_
  first | refine wpAny_bind (wpAny_pure ?_) | skip
  refine wpAny_bind (wpAny_sequenceKey ht.typeIs (by decide) ?_)
  refine wpAny_bind (wpAny_callSpecial?_slot (name := Str.ofString "__getitem__") ht.typeIs PyProof.Rows.slot_tuple_getitem
    (wpAny_call_entry PyProof.Rows.slot_tuple_getitem ht.typeIs entry_tuple_getitem ?_ (args_tuple_getitem _ _)))
  show wpAny _ _ (Builtin.Tuple.tupleItemsOf (.ref t) >>= _) _ _ s
  refine wpAny_bind (tupleItemsOf_ ht ?_)
  refine wpAny_bind (wpAny_typeOf hTs ?_)
  rw [if_pos (by decide)]
  refine wpAny_bind (slice_back hs pl pu ps ?_)
  have hno : ¬ ((((items.size : Int) - 1) == 0 && (-1 : Int) == 1 && items.size == items.size) = true) := by
    intro q
    rw [Bool.and_eq_true, Bool.and_eq_true] at q
    have q1 : (-1 : Int) = 1 := eq_of_beq q.1.2
    omega
  show wpAny _ _ (if (((items.size : Int) - 1) == 0 && (-1 : Int) == 1 && items.size == items.size) = true then _ else _) _ _ s
  rw [if_neg hno, pick_back]
  first
    | exact wpAny_bind (m := Builtin.Tuple.tupleExact _) (wpAny_newObj_type (wpAny_pure ⟨_, rfl, wpAny_pure h⟩) htake)
    | exact wpAny_bind (m := Builtin.Tuple.tupleExact _) (wpAny_newObj_type (wpAny_bind (wpAny_pure (wpAny_pure ⟨_, rfl, wpAny_pure h⟩))) htake)
    | exact wpAny_bind (wpAny_bind (m := Builtin.Tuple.tupleExact _) (wpAny_newObj_type (wpAny_pure (wpAny_pure ⟨_, rfl, wpAny_pure h⟩)) htake))
    | exact wpAny_bind (wpAny_bind (m := Builtin.Tuple.tupleExact _) (wpAny_newObj_type (wpAny_pure ⟨_, rfl, wpAny_pure h⟩) htake))
/-! ## t * k, k of any small size -/
theorem tuple_mul1 (l : Addr) (items : Array Value) (n : Nat) (sl : Array (Option Value)) (dd : Option Addr) (u : Tok) :
    Meets (Builtin.«tuple.__mul__» ⟨[.ref l, .int 1 u], []⟩) (fun _ R s => s.heap.get? l = some { cls := .type "tuple", dict := dd, data := .seq items n, slots := sl } ∧ R (.ok (.ret (Value.ref l))) s) :=
  .of_wp fun prog w A R s h => by
    obtain ⟨hp, g, d, tk, os⟩ := s
    obtain ⟨hl, h⟩ := h
    have f1 := AutoSeq1.idx_int
    wp_walk using wpAny_loadPart' hl
    repeat (first
      | (refine wpAny_ite_true (decide_eq_true (by simp)) ?_; wp_walk using wpAny_loadPart' hl)
      | (refine wpAny_ite_false (decide_eq_false (by decide)) ?_; wp_walk using wpAny_loadPart' hl))
    exact ⟨_, rfl, h⟩
theorem tuple_mul0 (l : Addr) (items : Array Value) (n : Nat) (sl : Array (Option Value)) (dd : Option Addr) (k : Int) (u : Tok) (c0 : (decide (k < -(2 ^ 63)) || decide (k ≥ 2 ^ 63)) = false) (c1 : (items.isEmpty || k == 1) = false) (c2 : (decide (k ≤ 0) || items.isEmpty) = true) :
    Meets (Builtin.«tuple.__mul__» ⟨[.ref l, .int k u], []⟩) (fun _ R s => s.heap.get? l = some { cls := .type "tuple", dict := dd, data := .seq items n, slots := sl } ∧
      R (.ok (.ret (Value.ref s.heap.objs.size))) { s with heap := s.heap.push { cls := Value.type "tuple", data := Data.seq #[] }, toks := s.toks }) :=
  .of_wp fun prog w A R s h => by
    obtain ⟨hp, g, d, tk, os⟩ := s
    obtain ⟨hl, h⟩ := h
    have f1 := AutoSeq1.idx_int
    wp_walk using wpAny_loadPart' hl
    repeat (first
      | (refine wpAny_ite_false (decide_eq_false (by rw [c0]; exact Bool.false_ne_true)) ?_; wp_walk using wpAny_loadPart' hl)
      | (refine wpAny_ite_false (decide_eq_false (by rw [c1]; exact Bool.false_ne_true)) ?_; wp_walk using wpAny_loadPart' hl)
      | (refine wpAny_ite_true (decide_eq_true (by rw [c2])) ?_; wp_walk using wpAny_loadPart' hl))
    all_goals first | exact ⟨_, rfl, h⟩ | exact Nat.zero_le _ | (show (0 : Nat) ≤ sizeLine; exact Nat.zero_le _) | skip
end
variable {g : G} {T : Tx} {B B' H H' : Hp} {σ : L2.St} {s : S} {W : WX} {X : Cx} {a b e o : Expr} {es : List Expr} {pos : Pos}
def rRepA (K : PySem.W.Frag) : R2 := fun x y H Q => ∃ l k xs, x = .ref l ∧ y = .int k ∧ SqT K H l xs ∧ xs ≠ [] ∧ -1000 ≤ k ∧ k ≤ 1000 ∧ xs.length ≤ 1000 ∧ (k = 1 → Q (.ref l) H) ∧ (k ≠ 1 → ∀ p, H p = none → Q (.ref p) (upd H p (.tup (List.replicate k.toNat xs).flatten)))
theorem op_repA : OpR X (binaryOp .Mult) (rRepA X.K) := by
  intro pins s σ H x y v u Q I rx ry h
  obtain ⟨l, k, xs, rfl, rfl, hT, hne, h0, h2, hz, q1, q2⟩ := h
  by_cases hk2 : 2 ≤ k
  · exact op_repT pins s σ H _ _ v u Q I rx ry ⟨l, k, xs, rfl, rfl, hT, hne, hk2, h2, hz, q2 (by omega)⟩
  cases rx
  obtain ⟨t, rfl⟩ := ry
  obtain ⟨its, r, ⟨⟨cls, dd, data, sl⟩, ho, hc, n, hd⟩, hs⟩ := I.tuple hT
  simp only at hc hd
  subst hc hd
  have hle : its.length = xs.length := r.length.symm
  have hn : its ≠ [] := fun e => hne (by
    rw [e] at hle
    exact List.eq_nil_of_length_eq_zero hle.symm)
  have hi : its.toArray.isEmpty = false := by
    cases its with
    | nil => exact absurd rfl hn
    | cons a b => rfl
  by_cases hk : k = 1
  · subst hk
    exact wpAny_binaryOp_repeat_ref (T := "tuple") (U := "int") (by decide) ⟨_, ho, rfl⟩ (fun s' => typeIs_int s' 1 t) noFill_tuple_mul F.fills_int_mul F.slot_int_rmul repeat_tuple F.slot_int_index.lookup
      (call_meets F.slot_int_rmul (typeIs_int s 1 t) F.entry_int_rmul (F.args_int_rmul_2 _ _) (int_rmul_tuple 1 t l its.toArray n dd sl)
        ⟨ho, rfl, ⟨_, ho, rfl⟩, call_meets F.slot_tuple_mul ⟨_, ho, rfl⟩ F.entry_tuple_mul (F.args_tuple_mul_2 _ _) (tuple_mul1 l its.toArray n sl dd t) ⟨ho, .ref l, H, I, rfl, q1 rfl⟩⟩)
  · have c0 : (decide (k < -(2 ^ 63)) || decide (k ≥ 2 ^ 63)) = false := by
      rw [decide_eq_false (by omega), decide_eq_false (by omega)] <;> rfl
    have c1 : (its.toArray.isEmpty || k == 1) = false := by
      rw [hi, Bool.false_or]
      exact beq_eq_false_iff_ne.mpr (by omega)
    have c2 : (decide (k ≤ 0) || its.toArray.isEmpty) = true := by
      rw [decide_eq_true (by omega)]; rfl
    refine wpAny_binaryOp_repeat_ref (T := "tuple") (U := "int") (by decide) ⟨_, ho, rfl⟩ (fun s' => typeIs_int s' k t) noFill_tuple_mul F.fills_int_mul F.slot_int_rmul repeat_tuple F.slot_int_index.lookup
      (call_meets F.slot_int_rmul (typeIs_int s k t) F.entry_int_rmul (F.args_int_rmul_2 _ _) (int_rmul_tuple k t l its.toArray n dd sl)
        ⟨ho, rfl, ⟨_, ho, rfl⟩, call_meets F.slot_tuple_mul ⟨_, ho, rfl⟩ F.entry_tuple_mul (F.args_tuple_mul_2 _ _) (tuple_mul0 l its.toArray n sl dd k t c0 c1 c2) ⟨ho, ?_⟩⟩)
    have e0 : (List.replicate k.toNat xs).flatten = [] := by
      have : k.toNat = 0 := by omega
      rw [this]; rfl
    refine ⟨.ref s.heap.objs.size, _, I.laid (t' := s.toks) (o := .tup []) (fun b ob q => Heap.get?_push_of_some _ q) (Nat.le_refl _) ?_, rfl, ?_⟩
    · exact ⟨Nat.zero_le _, [], .nil, IsTup.new s.heap #[]⟩
    · have := q2 hk s.heap.objs.size (I.hok.fresh (Nat.le_refl _))
      rwa [e0] at this
end TW

set_option Elab.async false
set_option linter.all false
set_option autoImplicit false
set_option maxRecDepth 100000
set_option maxHeartbeats 2000000
namespace TW
open PySem PySem.Spec PyProof.Rows L2
variable {g : G} {T : Tx} {B B' H H' : Hp} {σ : L2.St} {s : S} {W : WX} {X : Cx} {a b e o i : Expr} {es : List Expr} {pos : Pos}
/-- tuple * int -/
def dRepA : D → D → Option Rv
  | .tup xs, .int k => if xs.isEmpty = false ∧ -1000 ≤ k ∧ k ≤ 1000 ∧ xs.length ≤ 1000 then some (.v (.tup (List.replicate k.toNat xs).flatten)) else none
  | _, _ => none
theorem o_repA (hK : X.K = g.K) : OpRv X g (binaryOp .Mult) dRepA := ⟨_, op_repA, fun T B H σ s x y dx dy d Q R h1 h2 e q => by
  cases dx with
  | tup xs =>
    cases dy with
    | int k =>
      have e' : (if xs.isEmpty = false ∧ -1000 ≤ k ∧ k ≤ 1000 ∧ xs.length ≤ 1000 then some (Rv.v (.tup (List.replicate k.toNat xs).flatten)) else none) = some d := e
      by_cases c : xs.isEmpty = false ∧ -1000 ≤ k ∧ k ≤ 1000 ∧ xs.length ≤ 1000
      · rw [if_pos c] at e'; cases e'
        obtain ⟨a, vs, rfl, k1, k2⟩ := h1
        cases h2
        have j1 := Evl.ex_t R.bh k1
        rw [← hK] at j1
        refine ⟨a, k, vs, rfl, rfl, j1, fun z => ?_, c.2.1, c.2.2.1, by rw [k2.length]; exact c.2.2.2, fun z => ?_, fun z p hp => ?_⟩
        · subst z
          have := dens_nil k2
          subst this
          exact absurd c.1 (by decide)
        · subst z
          have e1 : (List.replicate (1 : Int).toNat xs).flatten = xs := by simp
          rw [e1] at q
          exact q _ B H R (Evl.Ex.refl _) ⟨a, vs, rfl, k1, k2⟩
        · obtain ⟨B', R', e', r⟩ := R.newt hp (k2.rep k.toNat)
          exact q _ B' _ R' e' r
      · rw [if_neg c] at e'; cases e'
    | _ => cases e
  | _ => cases e⟩
/-! ## t[::-1] -/
def tRevT (K : PySem.W.Frag) (te : TE) : TE := fun σ H Q => te σ H fun x H1 => ∃ a xs, x = .ref a ∧ SqT K H1 a xs ∧ ∀ p, H1 p = none → Q (.ref p) (upd H1 p (.tup xs.reverse))
theorem pe_revT {te : TE} {k : Nat} {p1 p2 p3 : Pos} (he : PE X e te) : PE X (.Subscript e (.Slice none none (some (.UnaryOp .USub (.Constant (.int 1) k p1) p2)) p3) pos) (tRevT X.K te) := by
  refine ⟨fun pins s σ H Q I h => ?_⟩
  refine Subscript_ (thn (he.run pins s σ H _ I h) fun v s1 ⟨x, H1, I1, r1, q1⟩ => ?_)
  obtain ⟨a, xs, ex, hx, q⟩ := q1
  subst ex
  cases r1
  have hst : PO X (some (.UnaryOp .USub (.Constant (.int 1) k p1) p2)) (tPart (tUn (rU fun i => .int (-i)) (tC (.int 1)))) := po_some (pe_un un_neg pe_int)
  refine wpAny_Slice (thn (po_none.run pins s1 σ H1 (fun o H2 => o = none ∧ H2 = H1) I1 ⟨rfl, rfl⟩) fun vl s2 ⟨l, H2, I2, pl, el, e2⟩ => ?_)
  subst el e2
  refine thn (po_none.run pins s2 σ H2 (fun o H3 => o = none ∧ H3 = H2) I2 ⟨rfl, rfl⟩) fun vu s3 ⟨u, H3, I3, pu, eu, e3⟩ => ?_
  subst eu e3
  refine thn (hst.run pins s3 σ H3 (fun o H4 => o = some (-1) ∧ H4 = H3) I3 ⟨1, rfl, -1, rfl, rfl, rfl⟩) fun vs s4 ⟨o, H4, I4, ps, eo, e4⟩ => ?_
  subst eo e4
  have I5 : Inv X pins σ H4 { s4 with heap := s4.heap.push { cls := .type "slice", data := .fields #[vl, vu, vs] } } := I4.kept (t' := s4.toks) fun b ob q => Heap.get?_push_of_some _ q
  obtain ⟨its, r, ht, hz⟩ := I5.tuple hx
  have hlen := r.length
  show wpAny (model X.prog X.w) X.A (subscriptTail e (.Slice none none (some (.UnaryOp .USub (.Constant (.int 1) k p1) p2)) p3) (.ref a) (.ref s4.heap.objs.size)) (EP X pins σ Q) X.xe { s4 with heap := s4.heap.push { cls := .type "slice", data := .fields #[vl, vu, vs] } }
  refine tail_any (ops := [.ref a, .ref s4.heap.objs.size]) ht.typeIs (PyProof.Rows.slot_tuple_getitem.lookup) ?_ (by with_unfolding_all rfl)
  refine getItem_tuple_back ht (Heap.IsSliceOf.new _ vl vu vs) pl pu ps ?_ (by rw [List.size_toArray]; omega)
  have et : its.toArray.toList = its := by simp
  rw [et]
  refine ⟨.ref _, _, I5.laid (t' := s4.toks) (o := .tup xs.reverse) (fun b ob q => Heap.get?_push_of_some _ q) (Nat.le_refl _) ?_, rfl, q _ (I5.hok.fresh (Nat.le_refl _))⟩
  exact ⟨by rw [List.length_reverse]; exact hz, _, r.reverse, IsTup.new _ _⟩
def revTD : D → Option Rv
  | .tup ds => some (.v (.tup ds.reverse))
  | _ => none
def mrevT (fa : M Opd) : M Rv := mbind fa fun o => mbind (res o) fun d => mopt (revTD d)
theorem jr_revT {fa : M Opd} {k : Nat} {p1 p2 p3 : Pos} (hK : X.K = g.K) (ha : JO X g T W a fa) : JR X g T W (.Subscript a (.Slice none none (some (.UnaryOp .USub (.Constant (.int 1) k p1) p2)) p3) pos) (mrevT fa) :=
  fun τ t => PE.imp (pe_revT (ha τ t)) fun σ H Q ⟨B, s, R, p⟩ => (PostM.bind (P := PO' g) R p).mono fun x H1 ⟨o, B1, s1, R1, e1, q1, p1⟩ => by
    rcases res_cases (o := o) (s := s1) with ⟨d, w⟩ | w
    · rw [mbind_ok w] at p1
      have hd := (res_ok R1 q1 w).2
      cases d with
      | tup ds =>
        obtain ⟨b, vs, rfl, k1, k2⟩ := hd
        refine ⟨b, vs, rfl, by rw [hK]; exact Evl.ex_t R1.bh k1, fun q hq => ?_⟩
        obtain ⟨B', R', e', r⟩ := R1.newt hq k2.reverse
        exact p1 _ B' _ R' e' r
      | _ => exact p1.elim
    · exfalso
      have z : mbind (res o) (fun d => mopt (revTD d)) s1 = .bad := by unfold mbind; rw [w]
      rw [z] at p1; exact p1
/-! ## a[i] as a target of many -/
def tgSet (k : Nat) (fi : M D) : D → S → Option S := fun d s => match s[k]? with
  | some (.l _) => (match fi s with
    | .ok (.int i) s1 => (match s1[k]? with
      | some (.l ds) => (ixN ds.length i).map fun j => s1.set k (.l (ds.set j d))
      | _ => none)
    | _ => none)
  | _ => none
theorem jg_seti {k : Nat} {fi : M D} {ol : Option (List Nat)} (hb : PE X b (tVar k)) (hi : JE X g T W i fi) (ha : ∀ v, assign (.Subscript b i pos) X.env v = (do
      let ov ← holding [v] (eval b X.env)
      let iv ← holding [v, ov] (eval i X.env)
      standAt pos
      holding [v, ov, iv] (setItem ov iv v)
      release [v, ov, iv] []) := by intro _; rfl) : JG X g T ol (.Subscript b i pos) (tgSet k fi) := fun τ t => PG.imp (pg_sub hb (hi τ t) set_list ha) fun v σ H Q ⟨B, s, d, R, hd, p⟩ => by
  unfold tgSet at p
  cases hk0 : s[k]? with
  | none => rw [hk0] at p; exact p.elim
  | some y0 =>
    rw [hk0] at p
    cases y0 with
    | l ds0 =>
      dsimp only at p
      obtain ⟨l, us0, hl, _⟩ := R.getl hk0
      cases ef : fi s with
      | bad => rw [ef] at p; exact p.elim
      | ex c ds s' => rw [ef] at p; exact p.elim
      | ok di s1 =>
        rw [ef] at p
        cases di with
        | int n =>
          dsimp only at p
          refine ⟨.ref l, hl, B, s, R, ?_⟩
          rw [ef]
          intro iv B2 H2 R2 e2 q2
          cases hk : s1[k]? with
          | none => rw [hk] at p; exact p.elim
          | some y =>
            rw [hk] at p
            cases y with
            | l ds =>
              dsimp only at p
              cases hj : ixN ds.length n with
              | none => rw [hj] at p; exact p.elim
              | some j =>
                rw [hj] at p
                obtain ⟨l', us, ha', _, hl', hd'⟩ := R2.getl hk
                rw [hl] at ha'; cases ha'
                refine ⟨l, us, n, j, rfl, q2, hl', by rw [hd'.length]; exact hj, ?_⟩
                exact p σ B2 _ (R2.wrl hk hl (Dens.set (hd.mono e2) j hd')) e2 Lvs.refl
            | _ => exact p.elim
        | _ => exact p.elim
    | _ => exact p.elim
end TW

set_option Elab.async false
set_option linter.all false
set_option autoImplicit false
set_option maxRecDepth 100000
set_option maxHeartbeats 2000000
namespace TW
open PySem PySem.Spec PyProof.Rows L2
/-! ## defs that may say repr(t): their promise holds where no repr is under way -/
structure FnG (P : Program) (w : World) (K : PySem.W.Frag) (mg : Str → Option Value) (base : Heap)
    (CX : CXT) (k : Nat) (f : Addr) (fd : FuncData) (ps : List Str) (sp : Sp) : Prop where
  many : ∀ vs H Q E, sp vs H Q E → vs.length = ps.length
  go : ∀ (A : Around) (up : List Env) (s : Shared) (H : Hp) (args : Args) (us : List Value) (vs : List V)
    (Q : VK) (E : XK), Room k A → A.guards = some [] → Env0 P w K mg base A up s H →
    BindsTo s fd args (ps.zip us) → Vals vs us → sp vs H Q E →
    codeAny (model P w) A (.call (.ref f) args) (CR CX up P w H s Q E) s
section
variable {P : Program} {w : World} {mg : Str → Option Value} {base : Heap} {CX : CXT} {k : Nat}
variable {f : Addr} {K : PySem.W.Frag} {fd : FuncData} {ps N : List Str} {sp : Sp}
theorem FnG.of (F : FnOk P w K mg base CX k f fd ps sp) : FnG P w K mg base CX k f fd ps sp :=
  ⟨F.len, fun A up s H args us vs Q E hr _ => F.run A up s H args us vs Q E hr⟩
theorem FnG.mono {j : Nat} (F : FnG P w K mg base CX j f fd ps sp) (h : j ≤ k) : FnG P w K mg base CX k f fd ps sp :=
  ⟨F.many, fun A up s H args us vs Q E hr => F.go A up s H args us vs Q E (hr.mono h)⟩
/-- a def's promise by its body, where no repr is under way -/
theorem fn_g {x qual : Str} {st : Stmt} (F : Fun K x qual st f fd) (S : FnScope N ps (defScope st))
    (hl0 : ∀ vs H Q E, sp vs H Q E → vs.length = ps.length)
    (hbody : ∀ (cdv : Value) (A : Around) (up : List Env) (s : Shared) (H : Hp) (vs : List V) (Q : VK) (E : XK),
      Room k (A.deeper (envOfC qual (defScope st) s.heap.objs.size f cdv)) →
      (A.deeper (envOfC qual (defScope st) s.heap.objs.size f cdv)).guards = some [] → sp vs H Q E →
      ∃ t, PSs (cxOf CX P w K mg base N qual (defScope st) f cdv A up s H E) (defBody st) t ∧
        t { nx := fun _ H' => Q .non H', rt := Q } (start N vs) H) : FnG P w K mg base CX (k + 1) f fd ps sp := by
  obtain ⟨oc, od, kV, doc, pm, an, cdv, ct, osl, rfl, lk, hcode⟩ := F.ex
  refine ⟨hl0, fun A up s H args us vs Q E hr hg e0 hb rv hsp => ?_⟩
  have hlen := hl0 _ _ _ _ hsp
  have inK : K.In s.heap := e0.mod.kin.keeps fun b o e => (e0.bs b o e).1
  have noLim : s.heap.NoLimit := e0.mod.nolimit.keeps fun b o e => (e0.bs b o e).1
  obtain ⟨t, ht, hq⟩ := hbody cdv A up s H vs Q E (hr.deeper _) hg hsp
  refine codeAny_call_function hr.depth (inK _ _ lk) rfl S.co S.gen rfl (PySem.W.codeRec_of inK hcode) (hb _ _ _ _ ?_)
  refine wpAny_newFunctionEnv_cells S.kind (fun y hy => ?_) fun env he s1 z => ?_
  · rcases S.par y.1 (List.of_mem_zip (show (y.1, y.2) ∈ ps.zip us from hy)).1 with q | q
    · exact Or.inl q
    · exact Or.inr ⟨q, PySem.W.cellsFrom_some _ _ _ (Or.inl q)⟩
  subst he
  refine ⟨noLim.keeps z.toInCall.keep, codeAny_func ?_⟩
  have inv := inv_start (CX := CX) (E := E) S hr.hd e0 hlen rv z
  refine wpAny_mono (ht.run [] s1 (start N vs) H _ inv hq) (fun fl s' hs => ?_) fun e s' hs => hs
  match fl, hs with
  | .ret u, hs =>
    obtain ⟨v, σ', H', J, r2, q⟩ := hs
    exact ⟨v, H', J.os, J.bare, J.base, J.hok, r2, q⟩
  | .next, hs =>
    obtain ⟨σ', H', J, q⟩ := hs
    exact ⟨V.non, H', J.os, J.bare, J.base, J.hok, rfl, q⟩
  | .brk, hs => obtain ⟨_, _, _, q⟩ := hs; exact q.elim
  | .cont, hs => obtain ⟨_, _, _, q⟩ := hs; exact q.elim
end
variable {g : G} {T : Tx} {B B' H H' : Hp} {σ : L2.St} {s : S} {W : WX} {X : Cx} {a b e o i : Expr} {es : List Expr} {pos : Pos}
theorem fnD_g {P : Program} {w : World} {base : Heap} {x qual : Str} {st : Stmt} {f : Addr} {fd : FuncData} {N ps : List Str} {k : Nat} {body : MS} (F : Fun g.K x qual st f fd) (Sc : FnScope N ps (defScope st)) (hps : ps.length ≤ N.length)
    (hbody : ∀ (cdv : Value) (A : Around) (outer : List Env) (s : Shared) (H : Hp) (E : XK) (T : Tx), Room k (A.deeper (envOfC qual (defScope st) s.heap.objs.size f cdv)) → (A.deeper (envOfC qual (defScope st) s.heap.objs.size f cdv)).guards = some [] → (∀ i, ps.length ≤ i → T.io i = none) →
      JSs (cxOf (L2.CX P w) P w g.K g.mg base N qual (defScope st) f cdv A outer s H E) g T (fun cls d _ H => E cls d H) (defBody st) body) :
    FnG P w g.K g.mg base (L2.CX P w) (k + 1) f fd ps (spD g (fnD N.length ps.length body)) := by
  refine fn_g F Sc (fun vs H Q E h => ?_) (fun cdv A outer s H vs Q E hr hgd h => ?_)
  · obtain ⟨B, as, e, A, p⟩ := h
    unfold fnD at p
    by_cases hl : as.length = ps.length
    · rw [← A.len]; exact hl
    · rw [if_neg hl] at p; exact p.elim
  · obtain ⟨B, as, e, Ao, p⟩ := h
    unfold fnD at p
    by_cases hl : as.length = ps.length
    · rw [if_pos hl] at p
      refine ⟨_, hbody cdv A outer s H E (tx0 B H as vs) hr hgd (fun i hi => ioOf_ge (by omega)), B, _, Rel.start e Ao (by rw [← Ao.len]; omega), ?_⟩
      have hv : N.length - vs.length = N.length - ps.length := by rw [← Ao.len]; omega
      rw [hv]
      cases q : body (as ++ List.replicate (N.length - ps.length) Sl.no) with
      | nx s' =>
        rw [q] at p
        intro σ' B' H' R' e'
        exact p .non B' H' (R'.after hl Ao) rfl
      | rt r s' =>
        rw [q] at p
        intro v σ' B' H' R' e' hr
        exact p v B' H' (R'.after hl Ao) (RvOk.ret R' hr)
      | ex c ds s' =>
        rw [q] at p
        intro x σ' B' H' R' e' hx
        exact p x B' H' (R'.after hl Ao) hx
      | bk s' => rw [q] at p; exact p.elim
      | ct s' => rw [q] at p; exact p.elim
      | bad => rw [q] at p; exact p.elim
    · rw [if_neg hl] at p; exact p.elim
/-! ### a call of such a def -/
theorem run_fnG {CX : CXT} {k : Nat} {f : Addr} {fd : FuncData} {ps : List Str} {sp : Sp} {E : L2.St → XK} {pins : List (Addr × Obj)} {σ : L2.St} {H : Hp} {s : Shared} {Q : VK} {us : List Value} {vs : List V} (F : FnG X.prog X.w X.K X.mg X.base CX k f fd ps sp) (hr : Room k X.A) (hgd : X.A.guards = some []) (hb : Binds X.K fd ps []) (hx : PassesAt CX X σ (E σ))
    (I : Inv X pins σ H s) (r : Vals vs us) (h : sp vs H Q (E σ)) : wpAny (model X.prog X.w) X.A (call (.ref f) us) (EP X pins σ Q) X.xe s := by
  have hl : us.length = ps.length := by rw [← r.length]; exact F.many _ _ _ _ h
  have hb' := hb s us I.kIn (by simpa using hl)
  rw [List.append_nil] at hb'
  refine wpAny_call (codeAny_mono (F.go X.A X.stack s H ⟨us, []⟩ us vs Q (E σ) hr hgd I.env0 hb' r h) fun r s' hq => ?_)
  cases r with
  | error e => exact hx pins H s e s' I hq
  | ok fl =>
    cases fl with
    | ret u => exact I.after hq
    | next => exact False.elim hq
    | brk => exact False.elim hq
    | cont => exact False.elim hq
structure ClG (P : Program) (w : World) (g : G) (base : Heap) (k : Nat) (x : Str) (ps : List Str) (f : Fd) : Prop where
  ex : ∃ (a : Addr) (fd : FuncData), FnG P w g.K g.mg base (L2.CX P w) k a fd ps (spD g f) ∧ g.mg x = some (.ref a) ∧ PySem.W.keepIn g.K (.ref a) = true ∧ Binds g.K fd ps []
theorem jr_callG {k j : Nat} {x : Str} {ps : List Str} {f : Fd} {fa : M (List Opd)} {p : Pos} (c : ClG X.prog X.w g X.base k x ps f) (hr : Room j X.A) (hgd : X.A.guards = some []) (hk : k ≤ j) (hK : X.K = g.K) (hmg : X.mg = g.mg) (hg : Gl X x) (tk : Takes X W) (ha : JA X g T W (e :: es) fa)
    (hdb : (x == ("__debug__" : Str)) = false := by decide) (he : starEach (e :: es) X.env = (false, eval e X.env) :: starEach es X.env := by rfl) (hpl : (backTo pos (starEach es X.env)).any (·.1) = false := by rfl) :
    JR X g T W (.Call (.Name x p) (e :: es) [] pos) (mcall f [] fa) := by
  obtain ⟨ad, fd, F, hm, kp, b⟩ := c
  rw [← hK, ← hmg] at F
  rw [← hmg] at hm
  rw [← hK] at kp b
  refine jr_call (fun ta h => ⟨fun pins s σ H Q I q => ?_⟩) (dds := []) (dvs := []) (fun _ => rfl) ha
  refine wpAny_Call_Name_kw (ld_glob I hg hm ?_ hdb)
  refine PySem.W.callWith_K (h₀ := X.base) I.ok.mod.kin kp (thn (h.run pos pins s σ H _ I q) fun us s1 ⟨vs, H1, I1, r, q1⟩ => ⟨I1.kIn, ?_⟩) he hpl
  exact run_fnG F (hr.mono hk) hgd b (passAt tk σ) I1 r (by rw [← List.append_nil vs]; exact q1)
end TW

set_option Elab.async false
set_option linter.all false
set_option autoImplicit false
set_option maxRecDepth 100000
set_option maxHeartbeats 2000000
namespace TW
open PySem PySem.Spec PyProof.Rows L2
variable {g : G} {T : Tx} {B B' H H' : Hp} {σ : L2.St} {s : S} {W : WX} {X : Cx} {a b e o i : Expr} {es : List Expr} {pos : Pos}
/-! ## repr of a list, a tuple -/
def rRepr (K : PySem.W.Frag) : List V → Hp → VK → Prop := fun xs H Q => ∃ (p : Addr) (d : PyData), xs = [.ref p] ∧ Dp K H (.ref p) d ∧ d.showable = true ∧ d.hasDict = false ∧ d.depth ≤ 50 ∧ d.shown.length ≤ 100000 ∧ Q (.str d.shown) H
theorem call_reprD (hgd : X.A.guards = some []) (hu : X.A.units + 64 < cLine) : CallR X (.builtin "repr") (rRepr X.K) := by
  intro pins s σ H xs us Q I r h
  obtain ⟨p, d, rfl, hd, h1, h2, h3, h4, q⟩ := h
  obtain ⟨u, rfl, ru⟩ := r.one
  cases (show u = Value.ref p from ru)
  obtain ⟨as, rd⟩ := Dp.reads I d (.ref p) (.ref p) hd rfl
  exact PySem.repr_of_reads' rd h1 (fun z => by rw [h2] at z; cases z) hgd (by omega) (fun _ _ e => e) (fun h' u tk hk => ⟨.str d.shown, H, I.kept (t' := tk) hk, ⟨u, rfl⟩, q⟩) (Evl.sz_of h4)
def seqD : D → Bool
  | .tup _ => true
  | .lst _ => true
  | .arg _ => true
  | _ => false
def reprD (d : D) : Option Rv := match toPy d with
  | some p => if (seqD d && p.showable && !p.hasDict && decide (p.depth ≤ 50) && decide (p.shown.length ≤ 100000)) = true then some (.v (.str p.shown)) else none
  | none => none
theorem o_repr (hK : X.K = g.K) (hgd : X.A.guards = some []) (hu : X.A.units + 64 < cLine) : CbD X g (.builtin "repr") (on1 reprD) := cb1 (call_reprD hgd hu) fun T B H σ s v d o Q R h e q => by
  unfold reprD at e
  cases ep : toPy d with
  | none => rw [ep] at e; cases e
  | some p =>
    rw [ep] at e
    replace e : (if (seqD d && p.showable && !p.hasDict && decide (p.depth ≤ 50) && decide (p.shown.length ≤ 100000)) = true then some (Rv.v (.str p.shown)) else none) = some o := e
    by_cases c : (seqD d && p.showable && !p.hasDict && decide (p.depth ≤ 50) && decide (p.shown.length ≤ 100000)) = true
    · rw [if_pos c] at e; cases e
      simp only [Bool.and_eq_true, decide_eq_true_eq, Bool.not_eq_true'] at c
      obtain ⟨⟨⟨⟨c0, c1⟩, c2⟩, c3⟩, c4⟩ := c
      have hd := dpw_of hK R.bh ep h
      have hr : ∃ ad, v = V.ref ad := by
        cases d with
        | tup ds => obtain ⟨ad, _, rfl, _⟩ := h; exact ⟨ad, rfl⟩
        | lst ds => obtain ⟨ad, _, rfl, _⟩ := h; exact ⟨ad, rfl⟩
        | arg ds => obtain ⟨ad, _, rfl, _⟩ := h; exact ⟨ad, rfl⟩
        | _ => cases c0
      obtain ⟨ad, rfl⟩ := hr
      exact ⟨ad, p, rfl, hd, c1, c2, c3, c4, q _ B H R (Evl.Ex.refl _) rfl⟩
    · rw [if_neg c] at e; cases e
end TW

set_option Elab.async false
set_option linter.all false
set_option autoImplicit false
set_option maxRecDepth 100000
set_option maxHeartbeats 4000000
namespace TW
open PySem PySem.Spec PyProof.Rows L2
/-! ## the law is called: by a promise that holds where no repr is under way -/
/-- what is laid for tables of code objects -/
structure TabAt (h : Heap) (K : PySem.W.Frag) (p : Addr × Addr) : Prop where
  at_ : h.get? p.2 = some { cls := .none, data := .fields #[] }
  no : K.lookup p.2 = none
  hd : PySem.W.CodeHd h p.1 p.2
section
variable {P : Program} {w : World} {K : PySem.W.Frag} {mg mb : Str → Option Value} {CX : CXT} {k : Nat}
variable {fa a : Addr} {cs : List (Addr × Addr)} {fd : FuncData} {x : Str} {sp : Sp} {z : Shared}
theorem law_goG {vs : List Value} {ns : List Int} (inK : K.In z.heap) (nsG : z.heap.Ns mainGlobals mg) (nsB : z.heap.Ns builtinsNs mb)
    (bB : ∀ y : Str, y ≠ "__name__" → mb y = bootBuiltins y) (lim : z.heap.NoLimit) (gens : z.gens = #[]) (tb : ∀ p ∈ cs, TabAt z.heap K p)
    (bm : ∃ (m : Addr) (ob : Obj), mg "__builtins__" = some (.ref m) ∧ m ≠ builtinsNs ∧ z.heap.get? m = some ob ∧ ob.cls = .type "module" ∧
      ob.dict = some builtinsNs ∧ ob.data = .plain)
    (la : z.heap.get? a = some { cls := .type "list", data := .seq vs.toArray }) (iv : IntsAre vs ns) (few : ns.length ≤ sizeLine) (hr : Room k callerA)
    (F : ∀ base : Heap, K.In base → base.Ns mainGlobals mg → (∀ p ∈ cs, LamX.TabB base mg p.1 p.2) → FnG P w K mg base CX k fa fd [x] sp)
    (bd : ∀ (s : Shared) (u : Value), BindsTo s fd ⟨[u], []⟩ [(x, u)])
    (hsp : ∀ H : Hp, (∀ p ∈ cs, H p.2 = some (.tbl #[])) → SqL K H a (ns.map V.int) → sp [.ref a] H (fun v _ => v = .bl true) fun _ _ _ => False)
    (out : ∀ H e s', CX [] H z (fun _ _ _ => False) e s' → False) :
    codeAny (model P w) callerA (.call (.ref fa) ⟨[.ref a], []⟩)
      (fun r s' => r = .ok (.ret (.bool true)) ∧ OldK z.heap s'.heap ∧ s'.os = z.os ∧ AllBare s'.gens) z := by
  have rv := vals_ints iv
  have lenV := iv.length
  have tAt : ∀ b, (∃ p ∈ cs, p.2 = b) → z.heap.get? b = some { cls := .none, data := .fields #[] } := fun b ⟨p, hp, e⟩ => by rw [← e]; exact (tb p hp).at_
  have aT : ¬ ∃ p ∈ cs, p.2 = a := fun q => by
    have q1 := tAt a q
    rw [la] at q1
    have q2 : Data.seq vs.toArray _ = Data.fields #[] := congrArg Obj.data (Option.some.inj q1)
    cases q2
  -- the heap that is tracked: the tables, and the script where the fragment does not know it
  obtain ⟨H, hT, hA, hI⟩ : ∃ H : Hp, (∀ b, (∃ p ∈ cs, p.2 = b) → H b = some (.tbl #[])) ∧ (K.lookup a = none → H a = some (.frz { cls := .type "list", data := .seq vs.toArray } (.lst (ns.map V.int)))) ∧
      ∀ b u, H b = some u → (b = a ∧ K.lookup a = none ∧ u = .frz { cls := .type "list", data := .seq vs.toArray } (.lst (ns.map V.int))) ∨ ((∃ p ∈ cs, p.2 = b) ∧ u = .tbl #[]) := by
    classical
    refine ⟨fun b => if (∃ p ∈ cs, p.2 = b) then some (.tbl #[]) else if b = a ∧ K.lookup a = none then some (.frz { cls := .type "list", data := .seq vs.toArray } (.lst (ns.map V.int))) else none, fun b hb => if_pos hb, fun hk => ?_, fun b u q => ?_⟩
    · exact (if_neg aT).trans (if_pos ⟨rfl, hk⟩)
    · by_cases h1 : ∃ p ∈ cs, p.2 = b
      · have q1 := (if_pos h1).symm.trans q
        cases q1
        exact Or.inr ⟨h1, rfl⟩
      · have q1 := (if_neg h1).symm.trans q
        by_cases h2 : b = a ∧ K.lookup a = none
        · have q2 := (if_pos h2).symm.trans q1
          cases q2
          exact Or.inl ⟨h2.1, h2.2, rfl⟩
        · have q2 := (if_neg h2).symm.trans q1
          cases q2
  have ok : HOk P w H z.heap := fun b u q => by
    rcases hI b u q with ⟨e1, _, e2⟩ | ⟨e1, e2⟩
    · subst e1; subst e2
      exact ⟨la, by rw [List.length_map]; exact few, vs, _, rv, la⟩
    · subst e2; exact tAt b e1
  have sq : SqL K H a (ns.map V.int) := by
    cases hk : K.lookup a with
    | none => exact Or.inl (Or.inr ⟨_, hA hk⟩)
    | some o =>
      have e := inK a o hk
      rw [la] at e
      cases e
      exact Or.inr ⟨_, vs.toArray, _, hk, rfl, rfl, rfl, by rw [List.size_toArray, lenV]; exact few, by simpa using rv⟩
  have hid : ∀ {b : Addr} {o : Obj}, z.heap.get? b = some o → H b = none → (hidT z.heap H).get? b = some o := fun e n => hidT_get e n
  have free : ∀ {b : Addr} {o : Obj}, z.heap.get? b = some o → (∀ its n, o.data ≠ .seq its n) → o.data ≠ .fields #[] → H b = none := fun {b o} e h1 h2 => by
    cases q : H b with
    | none => rfl
    | some u =>
      rcases hI b u q with ⟨e1, _, _⟩ | ⟨e1, _⟩
      · rw [e1, la] at e
        cases e
        exact absurd rfl (h1 _ _)
      · rw [tAt b e1] at e
        cases e
        exact absurd rfl h2
  have nsX : ∀ {b : Addr} {m : Str → Option Value}, z.heap.Ns b m → (hidT z.heap H).Ns b m := fun {b m} ⟨o, es, ep, e, d, r⟩ =>
    ⟨o, es, ep, hid e (free e (fun its n q => by rw [d] at q; cases q) fun q => by rw [d] at q; cases q), d, r⟩
  have inX : K.In (hidT z.heap H) := fun b o e => hid (inK b o e) (by
    cases q : H b with
    | none => rfl
    | some u =>
      exfalso
      rcases hI b u q with ⟨e1, e2, _⟩ | ⟨⟨p, hp, e1⟩, _⟩
      · rw [e1, e2] at e; cases e
      · rw [← e1, (tb p hp).no] at e; cases e)
  have md : L2.Mod K mg (hidT z.heap H) := ⟨inX, nsX nsG, ⟨mb, nsX nsB, bB⟩, by
    obtain ⟨mc, h1, h2⟩ := lim
    exact ⟨mc, nsX h1, h2⟩⟩
  have tB : ∀ p ∈ cs, LamX.TabB (hidT z.heap H) mg p.1 p.2 := fun p hp => by
    refine ⟨?_, ?_, fun q => ?_⟩
    · obtain ⟨o, us, file, tf, flags, tg, inF, text, tt, e1, r1, r2, r3, rest⟩ := (tb p hp).hd
      refine ⟨o, us, file, tf, flags, tg, inF, text, tt, hid e1 (free e1 (fun its n q => ?_) fun q => ?_), r1, r2, r3, rest⟩
      · rw [r2] at q; cases q
      · rw [r2] at q
        cases q
        simp at r3
    · obtain ⟨m, ob, b1, b2, b3, b4, b5, b6⟩ := bm
      refine ⟨m, ob, b1, b2, fun q => ?_, fun q => ?_, hid b3 (free b3 (fun its n q => ?_) fun q => ?_), b4, b5, b6⟩
      · obtain ⟨o, es, ep, e, hd, _⟩ := nsG
        rw [q, e] at b3
        cases b3
        rw [hd] at b6; cases b6
      · rw [q, (tb p hp).at_] at b3
        cases b3
        cases b6
      · rw [b6] at q; cases q
      · rw [b6] at q; cases q
    · obtain ⟨o, es, ep, e, hd, _⟩ := nsG
      rw [q, (tb p hp).at_] at e
      cases e
      cases hd
  have env : Env0 P w K mg (hidT z.heap H) callerA [] z H := ⟨rfl, md, fun b o e => of_hidT e, Nat.le_of_eq (hidT_size _ _), trivial, fun b hb => (List.not_mem_nil (show b ∈ ([] : List Addr) from hb)).elim, ok, .of_eq gens⟩
  refine codeAny_mono ((F _ inX (nsX nsG) tB).go callerA [] z H ⟨[.ref a], []⟩ [.ref a] [.ref a] _ _ hr rfl env (bd z (.ref a)) (.cons rfl .nil) (hsp H (fun p hp => hT _ ⟨p, hp, rfl⟩) sq)) fun r s' h => ?_
  match r, h with
  | .error e, h => exact (out H e s' h).elim
  | .ok .next, h => exact False.elim h
  | .ok .brk, h => exact False.elim h
  | .ok .cont, h => exact False.elim h
  | .ok (.ret u), h =>
    obtain ⟨v, H', os, bare, un, ok', r', q⟩ := h
    have q' : v = .bl true := q
    subst q'
    obtain rfl : u = Value.bool true := r'
    have stay : ∀ b o, (¬ ∃ p ∈ cs, p.2 = b) → z.heap.get? b = some o → s'.heap.get? b = some o := fun b o nb e => by
      cases q : H b with
      | none => exact un.keep b o e q (fun z => List.not_mem_nil (show b ∈ ([] : List Addr) from z)) (by simp)
      | some u =>
        rcases hI b u q with ⟨e1, _, e2⟩ | ⟨e1, _⟩
        · subst e2
          have q2 := un.frzs b _ _ q
          obtain ⟨f1, _⟩ := ok b _ q
          obtain ⟨f2, _⟩ := ok' b _ q2
          rw [e] at f1; cases f1
          exact f2
        · exact absurd e1 nb
    have more : ∀ p ∈ cs, ∃ more : Array Value, s'.heap.get? p.2 = some { cls := .none, data := .fields more } := fun p hp => by
      obtain ⟨m, q⟩ := un.tbls p.2 #[] (hT _ ⟨p, hp, rfl⟩)
      exact ⟨_, ok' p.2 _ q⟩
    refine ⟨rfl, ⟨fun b o e => ?_, fun b o e => ?_⟩, os, bare⟩
    · by_cases hb : ∃ p ∈ cs, p.2 = b
      · obtain ⟨p, hp, e1⟩ := hb
        obtain ⟨m, hm⟩ := more p hp
        rw [← e1] at e ⊢
        rw [(tb p hp).at_] at e
        cases e
        exact Or.inr (Or.inl ⟨((tb p hp).hd.tab (tb p hp).at_).isCodeTable, rfl, #[], m, rfl, by rw [Array.empty_append]; exact hm⟩)
      · exact Or.inl (stay b o hb e)
    · by_cases hb : ∃ p ∈ cs, p.2 = b
      · obtain ⟨p, hp, e1⟩ := hb
        obtain ⟨m, hm⟩ := more p hp
        rw [← e1]
        exact ⟨_, hm⟩
      · exact ⟨o, stay b o hb e⟩
end
end TW

set_option Elab.async false
set_option linter.all false
set_option autoImplicit false
set_option maxRecDepth 100000
set_option maxHeartbeats 4000000
namespace TW
open PySem PySem.Spec PyProof.Rows L2
/-! ## a law whose helpers own tables -/
def LawAtG (l : PySem.W.OpenLaw) (w : World) (K : PySem.W.Frag) (CX : CXT) (k n : Nat) (x : Str) (mg : Str → Option Value) (fa : Addr) (h : Heap) : Prop :=
  ∃ (fd : FuncData) (cs : List (Addr × Addr)) (sp : Sp), (∀ p ∈ cs, TabAt h K p) ∧ (∀ (s : Shared) (u : Value), BindsTo s fd ⟨[u], []⟩ [(x, u)]) ∧
    (∀ (H : Hp) (a : Addr) (ns : List Int), ns.length ≤ n → (∀ z ∈ ns, Builtin.Int.intBits z ≤ 1048576) → (∀ p ∈ cs, H p.2 = some (.tbl #[])) → SqL K H a (ns.map V.int) → sp [.ref a] H (fun v _ => v = .bl true) fun _ _ _ => False) ∧
    ∀ base : Heap, K.In base → base.Ns mainGlobals mg → (∀ p ∈ cs, LamX.TabB base mg p.1 p.2) → FnG l.prog w K mg base CX k fa fd [x] sp
theorem walk_ofG {l : PySem.W.OpenLaw} {n k : Nat} {q : Program} {loose : List Str} {XP : (Str → Option Value) → Heap → Prop} {YP : World → Heap → Prop} {d : DefRec} {K : Params → PySem.W.Frag} {CX : World → CXT} {x : Str}
    (hn : l.most = some n) (hn2 : n ≤ sizeLine) (hdf : d.params.defaults = []) (hr : Room k callerA) (hY : ∀ (w : World) (h : Heap), YP w h → (K w.params).In h)
    (F : ∀ (w : World) (mg : Str → Option Value) (fa : Addr) (h : Heap), YP w h → (K w.params).In h → h.Ns mainGlobals mg → mg d.name = some (.ref fa) →
      (∀ (y : Str) (f : Addr), ((recsOf q).any fun e => e.name == y) = true → mg y = some (.ref f) → LamX.OwnTab (K w.params) f h) → LawAtG l w (K w.params) (CX w) k n x mg fa h)
    (hCX : ∀ (w : World) (H : Hp) (s : Shared) (e : Value) (s' : Shared), CX w [] H s (fun _ _ _ => False) e s' → False) :
    PySem.W.WalkO q loose XP YP l.row.toRowW d [] (fun f vs => PySem.call f vs) := by
  refine Att.attach_callB hn hdf fun w s₀ s₁ mg mb fa o pm cd doc a vs ns G Y ho hd hcd hmg hobj hints hlen hbits hg => ?_
  have KX := hY w _ Y
  have own : ∀ (y : Str) (f : Addr), ((recsOf q).any fun e => e.name == y) = true → mg y = some (.ref f) → LamX.OwnTab (K w.params) f s₁.heap := fun y f hrec hmy c P o1 fd1 e dd vs1 sl k1 k2 k3 k4 k5 => by
    obtain ⟨dL, hm, hn1⟩ := List.any_eq_true.mp hrec
    have hn2 : dL.name = y := beq_iff_eq.mp hn1
    obtain ⟨a', o', fd', c', P', h1, h2, h3, h4, h5, h6⟩ := G.T.tab dL hm
    rw [hn2, hmy] at h1
    cases h1
    have g1 := KX _ _ k1
    rw [g1] at h2
    cases h2
    rw [k2] at h3
    cases h3
    rw [k3] at h4
    cases h4
    obtain ⟨⟨oc, vc, e1, _, e3, e4⟩, hP⟩ := h6
    have g2 := KX _ _ k4
    rw [g2] at e1
    cases e1
    cases e3
    rw [k5] at e4
    cases e4
    exact hP
  obtain ⟨fd, cs, sp, hT, hb, hsp, hF⟩ := F w mg fa _ Y KX G.T.g hmg own
  exact law_goG KX G.T.g G.T.b G.T.builtins G.T.nolimit hg hT G.T.bmain hobj hints (Nat.le_trans hlen hn2) hr hF hb (fun H hH hS => hsp H a ns hlen hbits hH hS) fun H e s' => hCX w H s₁ e s'
end TW
namespace TX
open PySem PySem.Spec PyProof.Rows L2 TW
variable {g : G} {T : Tx} {B B' H H' : Hp} {σ : L2.St} {s : S} {W : WX} {X : Cx} {tbs : List (Addr × Str)} {a b e o : Expr} {es rest : List Expr} {pos : Pos}
/-! ## expressions where tables of code objects grow -/
theorem PE.ex' {ι : Type} {e : Expr} {t : ι → TE} (h : ∀ i, PE X e (t i)) : PE X e (fun σ H Q => ∃ i, t i σ H Q) :=
  ⟨fun pins s σ H Q I ⟨i, q⟩ => (h i).run pins s σ H Q I q⟩
theorem jet_of {f : M D} (h : ∀ T : Tx, JE X g T W0 e f) : JEt X g tbs e f := by
  refine PE.imp (PE.ex' (t := fun T => RdM g ((T : Tx).tmp [] []) W0 (PD g) f) fun T => h T [] []) fun σ H Q ⟨B, s, T, R, t, p⟩ => ?_
  have R1 := rel_base R (LamX.ExtN.refl H)
  refine ⟨txS (noT B) H σ s, noT B, s, R1, ?_⟩
  cases e : f s with
  | ok d s' => rw [e] at p; exact fun v B' H' R' _ q => p v B' H' _ R' (tabs_rel R1 t R') q
  | ex c ds s' => rw [e] at p; exact p.elim
  | bad => rw [e] at p; exact p.elim
theorem jet_one {op} {f : M D} (h : JEt X g tbs a f) : JEt X g tbs (.BoolOp op [a] pos) f := pe_one h
theorem jet_and {fa fb : M D} (ha : JEt X g tbs a fa) (hb : JEt X g tbs (.BoolOp .And (b :: rest) pos) fb) : JEt X g tbs (.BoolOp .And (a :: b :: rest) pos) (mandV fa fb) := PE.imp (pe_and ha hb) fun σ H Q ⟨B, s, T, R, t, p⟩ => by
  refine ⟨B, s, T, R, t, ?_⟩
  unfold mandV mbind at p
  cases e : fa s with
  | ok d s' =>
    rw [e] at p
    intro v B' H' T' R' t' q
    cases d with
    | bl c =>
      refine ⟨c, q, ?_⟩
      cases c with
      | true => exact ⟨B', s', T', R', t', p⟩
      | false => exact p _ B' H' T' R' t' rfl
    | _ => exact p.elim
  | ex c ds s' => rw [e] at p; exact p.elim
  | bad => rw [e] at p; exact p.elim
/-- return e -/
theorem jst_ret {f : M D} (he : JEt X g tbs e f) : JSt X g tbs (.Return (some e) pos) (ms f fun d s => .rt (.v d) s) := PS.imp (ps_ret he) fun D σ H ⟨B, s, T, R, t, p⟩ => by
  refine ⟨B, s, T, R, t, ?_⟩
  unfold ms at p
  cases e : f s with
  | ok d s' => rw [e] at p; exact fun v B' H' T' R' t' q => p v σ B' H' T' R' q t'
  | ex c ds s' => rw [e] at p; exact p.elim
  | bad => rw [e] at p; exact p.elim
/-- .. some slots being forgotten -/
theorem rel_base2 {s2 : S} (R : Rel g T B H σ s) (eN : LamX.ExtN H H') (hl : s2.length = s.length) (hs : ∀ (j : Nat) (x : Sl), s2[j]? = some x → x = .no ∨ s[j]? = some x) : Rel g (txS (noT B) H' σ s2) (noT B) H' σ s2 := by
  have R1 := rel_base R eN
  have up : ∀ {j : Nat} {x : Sl}, s2[j]? = some x → x.own = true → s[j]? = some x := fun {j x} h ho => by
    rcases hs j x h with e | e
    · rw [e] at ho; cases ho
    · exact e
  refine ⟨⟨Evl.Ex.refl _, R1.bh, fun _ _ => rfl, fun _ _ h _ => h, fun _ h => h, by simp [hl, R1.ln], fun i x y hx hy => ?_, fun i j x x' a hx hx' ho ho' e1 e2 => ?_, fun j a hj => ?_, fun i x a hx ho e1 => ?_⟩, by rw [hl]; exact R1.ln, fun j a hj => ?_⟩
  · simp only [List.append_nil] at hx hy
    rcases hs i x hx with e | e
    · rw [e]; trivial
    · exact R1.r.sl i x y (by simpa using e) (by simpa using hy)
  · simp only [List.append_nil] at hx hx' e1 e2
    exact R1.r.nd i j x x' a (by simpa using up hx ho) (by simpa using up hx' ho') ho ho' (by simpa using e1) (by simpa using e2)
  · simp only [List.append_nil]
    obtain ⟨x, h1, h2, h3⟩ := ioS_some hj
    exact ⟨h3, x, h1, h2⟩
  · simp only [List.append_nil] at hx e1
    exact .inr ⟨i, ioS_of hx ho e1⟩
  · obtain ⟨x, h1, _⟩ := ioS_some hj
    have := (List.getElem?_eq_some_iff.mp h1).1
    rw [R1.ln, ← hl]; exact this
/-- x = [e], x holding a list already -/
def tset1d (i : Nat) (f : M D) : MS := fun s => match f s with
  | .ok d s' => if i < s'.length then .nx (s'.set i (.l [d])) else .bad
  | _ => .bad
theorem jst_set1d {i : Nat} {e : Expr} {st : Stmt} {f : M D} {pos : Pos} (hps : ∀ te, PE X (.List [e] pos) te → PS X st (tAsg te (gName i))) (he : JEt X g tbs e f)
    (hs : starEach [e] X.env = (false, eval e X.env) :: starEach [] X.env := by rfl) : JSt X g tbs st (tset1d i f) :=
  PS.imp (hps _ (pe_lst (pa_cons he pa_nil hs))) fun D σ H ⟨B, s, T, R, t, p⟩ => by
    refine ⟨B, s, T, R, t, ?_⟩
    unfold tset1d at p
    cases ef : f s with
    | ok d s' =>
      rw [ef] at p
      dsimp only at p
      by_cases hg : i < s'.length
      · rw [if_pos hg] at p
        intro v B1 H1 T1 R1 t1 hv
        have R2 := rel_base2 (s2 := s'.set i .no) R1 (LamX.ExtN.refl H1) (by simp) fun j x hx => by
          rw [List.getElem?_set] at hx
          by_cases hj : i = j
          · rw [if_pos hj] at hx
            subst hj
            rw [if_pos hg] at hx
            exact .inl (Option.some.inj hx).symm
          · rw [if_neg hj] at hx; exact .inr hx
        refine ⟨by show 1 ≤ sizeLine; decide, fun q hq => ?_⟩
        obtain ⟨R3, p3, vs, e3, F3, hd3⟩ := R2.newl (ds := [d]) (vs := [v]) hq (Dens.cons (den_noT hv) Dens.nil)
        have R4 := R3.storel (i := i) (by simpa using hg) (ioS_no fun x hx => by
          rw [List.getElem?_set_self hg] at hx
          cases hx; rfl) (by cases e3; exact F3) hd3
        rw [List.set_set] at R4
        exact p _ _ _ _ R4 (tabs_rel R2 t1 R3)
      · rw [if_neg hg] at p; exact p.elim
    | ex c ds s' => rw [ef] at p; exact p.elim
    | bad => rw [ef] at p; exact p.elim
/-! ## a def whose lambdas stand in the table at P -/
def spH (g : G) (tbs : List (Addr × Str)) (n np : Nat) (body : MS) : Sp := fun vs H Q _ => ∃ B as, Ex B H ∧ ArgsOk g B H as vs ∧ as.length = np ∧ LamX.Tabs tbs H ∧ ∃ b s', body (as ++ List.replicate (n - np) .no) = .rt (.v (.bl b)) s' ∧ ∀ H', LamX.Tabs tbs H' → Q (.bl b) H'
/-- such a def -/
structure ClH (P : Program) (w : World) (g : G) (base : Heap) (k : Nat) (x : Str) (ps : List Str) (tbs : List (Addr × Str)) (n : Nat) (body : MS) : Prop where
  ex : ∃ (a : Addr) (fd : FuncData), FnOk P w g.K g.mg base (L2.CX P w) k a fd ps (spH g tbs n ps.length body) ∧ g.mg x = some (.ref a) ∧ PySem.W.keepIn g.K (.ref a) = true ∧ Binds g.K fd ps []
/-- what stood is forgotten -/
def mforget (n np : Nat) (body : MS) (fa : M (List Opd)) : M D := fun s => match fa s with
  | .ok os s1 => if dupFree s1 os = true then (match argsOf s1 os with
    | some as => if as.length = np then (match body (as ++ List.replicate (n - np) .no) with
      | .rt (.v (.bl b)) _ => .ok (.bl b) (List.replicate s1.length .no)
      | _ => .bad) else .bad
    | none => .bad) else .bad
  | _ => .bad
theorem rel_no (n : Nat) {σ : L2.St} {H : Hp} (hl : σ.length = n) : Rel g (txS (fun _ => none) H σ (List.replicate n .no)) (fun _ => none) H σ (List.replicate n .no) := by
  have no : ∀ (i : Nat) (x : Sl), (List.replicate n Sl.no ++ [])[i]? = some x → x = .no := fun i x h => by
    rw [List.append_nil] at h
    exact List.eq_of_mem_replicate (List.mem_of_getElem? h)
  have io : ∀ j a, ioS σ (List.replicate n Sl.no) j = some a → False := fun j a h => by
    obtain ⟨x, h1, h2, _⟩ := ioS_some h
    have := no j x (by simpa using h1)
    subst this; cases h2
  refine ⟨⟨Evl.Ex.refl _, fun a o h => (by cases h), fun _ _ => rfl, fun _ _ h _ => h, fun _ h => h, by simp [hl], fun i x y hx hy => ?_, fun i j x x' a hx hx' ho ho' e1 e2 => ?_, fun j a hj => (io j a hj).elim, fun i x a hx ho e1 => ?_⟩, by simp [hl], fun j a hj => (io j a hj).elim⟩
  · have := no i x hx
    subst this; trivial
  · have := no i x hx
    subst this; cases ho
  · have := no i x hx
    subst this; cases ho
theorem jet_callH {k j n : Nat} {x : Str} {ps : List Str} {body : MS} {fa : M (List Opd)} {p : Pos} (c : ClH X.prog X.w g X.base k x ps tbs n body) (hr : Room j X.A) (hk : k ≤ j) (hK : X.K = g.K) (hmg : X.mg = g.mg) (hg : Gl X x) (ha : ∀ T : Tx, JA X g T W0 (e :: es) fa)
    (hdb : (x == ("__debug__" : Str)) = false := by decide) (he : starEach (e :: es) X.env = (false, eval e X.env) :: starEach es X.env := by rfl) (hpl : (backTo pos (starEach es X.env)).any (·.1) = false := by rfl) :
    JEt X g tbs (.Call (.Name x p) (e :: es) [] pos) (mforget n ps.length body fa) := by
  obtain ⟨ad, fd, F, hm, kp, b⟩ := c
  rw [← hK, ← hmg] at F
  rw [← hmg] at hm
  rw [← hK] at kp b
  refine ⟨fun pins s0 σ H Q I ⟨B, s, T, R, t, p0⟩ => ?_⟩
  have R1 := rel_base R (LamX.ExtN.refl H)
  refine wpAny_Call_Name_kw (ld_glob I hg hm ?_ hdb)
  have key : RdM g ((txS (noT B) H σ s).tmp [] []) W0 (PAs g) fa σ H fun vs H1 => spH g tbs n ps.length body vs H1 Q (WE W0 σ) := by
    refine ⟨noT B, s, R1, ?_⟩
    unfold mforget at p0
    cases ef : fa s with
    | ok os s1 =>
      rw [ef] at p0
      intro vs B1 H1 R2 e1 hp
      dsimp only at p0
      by_cases hd : dupFree s1 os = true
      · rw [if_pos hd] at p0
        cases ha' : argsOf s1 os with
        | some as =>
          rw [ha'] at p0
          dsimp only at p0
          by_cases hl : as.length = ps.length
          · rw [if_pos hl] at p0
            have A := args_ok (dds := []) (dvs := []) R2 hp hd ha' Dens.nil
            simp only [List.map_nil, List.append_nil] at A
            refine ⟨B1, as, R2.bh, A, hl, tabs_rel R1 t R2, ?_⟩
            cases eb : body (as ++ List.replicate (n - ps.length) Sl.no) with
            | rt r s' =>
              rw [eb] at p0
              cases r with
              | v d =>
                cases d with
                | bl bb => exact ⟨bb, s', rfl, fun H' t' => p0 (.bl bb) (fun _ => none) H' _ (rel_no s1.length R2.ln) t' rfl⟩
                | _ => exact p0.elim
              | _ => exact p0.elim
            | _ => rw [eb] at p0; exact p0.elim
          · rw [if_neg hl] at p0; exact p0.elim
        | none => rw [ha'] at p0; exact p0.elim
      · rw [if_neg hd] at p0; exact p0.elim
    | ex c ds s' => rw [ef] at p0; exact p0.elim
    | bad => rw [ef] at p0; exact p0.elim
  refine PySem.W.callWith_K (h₀ := X.base) I.ok.mod.kin kp (thn ((ha (txS (noT B) H σ s) [] []).run pos pins s0 σ H _ I key) fun us s1 ⟨vs, H1, I1, r, q1⟩ => ⟨I1.kIn, ?_⟩) he hpl
  refine wpAny_call (codeAny_mono (run_bound (args := ⟨us, []⟩) F (hr.mono hk) (fun hl => ?_) (passAt takes0 σ) I1 r q1) fun r s' hq => ?_)
  · have := b s1 us I1.kIn (by simpa using hl)
    simpa using this
  · cases r with
    | error e => exact hq
    | ok fl => cases fl <;> first | exact hq | exact False.elim hq
end TX

set_option Elab.async false
set_option linter.all false
set_option autoImplicit false
set_option maxRecDepth 100000
set_option maxHeartbeats 4000000
namespace TX
open PySem PySem.Spec PyProof.Rows L2
section
variable {X : Cx}
theorem callR_orB {v : Value} {r1 r2 : List V → Hp → VK → Prop} (h1 : CallR X v r1) (h2 : CallR X v r2) : CallR X v (fun xs H Q => r1 xs H Q ∨ r2 xs H Q) := by
  intro pins s σ H xs us Q I r h
  rcases h with h | h
  · exact h1 pins s σ H xs us Q I r h
  · exact h2 pins s σ H xs us Q I r h
/-- isinstance of an error by a tuple of classes -/
def rIsXT (K : PySem.W.Frag) : List V → Hp → VK → Prop := fun xs H Q => ∃ (a C dd tp : Addr) (fs : List (Str × V)) (cs : List V) (us : List Value) (b : Bool), xs = [.ref a, .ref tp] ∧ H a = some (xcv a (.ref C) (some dd)) ∧ H dd = some (.xd fs) ∧ ErC K C ∧ H tp = some (.tup cs) ∧ Paired ClsV cs us ∧ PySem.W.kitAny K (.ref C) us = some b ∧ Q (.bl b) H
theorem call_isXT : CallR X (.builtin "isinstance") (rIsXT X.K) := by
  intro pins s σ H xs us Q I r hh
  obtain ⟨a, C, dd, tp, fs, cs, ws, b, rfl, h1, h2, E, hT, k, e, q⟩ := hh
  obtain ⟨u1, u2, rfl, r1, r2⟩ := vals2 r
  cases (show u2 = Value.ref tp from r2)
  cases (show u1 = Value.ref a from r1)
  obtain ⟨ob, oD, mA, J, _⟩ := xcv_inst I h1 h2
  obtain ⟨cd, hcl, _⟩ := PySem.W.any_some E.xf.hdC
  obtain ⟨_, its, rv, o, g1, g2, n, g3⟩ := (show ObjOk X.prog X.w H s.heap tp (.tup cs) from I.hok tp _ hT)
  have e3 := ClsV.all k rv
  subst e3
  obtain ⟨oc, od, dt, sl⟩ := o
  simp only at g2 g3
  subst g2 g3
  exact PySem.W.kia_tup (PySem.W.kitx_exc (by rw [hcl]; rfl) E.xf.ga E.xf.gg E.xf.exC E.ha E.hn E.ht E.hm) I.kIn J g1 e (fun z => nomatch z) fun tk => ⟨.bl b, H, I.tok tk, rfl, q⟩
end
end TX
namespace TW
open PySem PySem.Spec PyProof.Rows L2
variable {g : G} {T : Tx} {B B' H H' : Hp} {σ : L2.St} {s : S} {W : WX} {X : Cx} {e : Expr} {es : List Expr} {pos : Pos}
/-- __init__ of an error: two fields -/
def spI2 (C : Addr) (f1 f2 : Str) : Sp := fun vs H Q _ => ∃ (a : Addr) (u1 u2 : V), vs = [.ref a, u1, u2] ∧ H a = some (exo a C none) ∧ ∀ dx, H dx = none → dx ≠ a → Q .non (upd (upd (upd H dx (exd dx [(f1, u1)])) a (exo a C (some dx))) dx (exd dx [(f2, u2), (f1, u1)]))
theorem js_raise2 {x f1 f2 : Str} {C fi : Addr} {k cc : Nat} {fd : FuncData} {ps : List Str} {p p2 : Pos} {fa : M (List Opd)} (hc : X.calm = true) (tk : Takes X W) (T' : OexC X.K C) (hC : C = g.cn cc) (hn : g.names cc = [f1, f2]) (hf12 : (f1 == f2) = false) (iC : PySem.W.findIn X.K (.ref C) "__init__" = some (some (.ref fi)))
    (tI : PySem.W.typeIn X.K (.ref fi) = some (.type "function")) (F1 : FnOk X.prog X.w X.K X.mg X.base CX0 k fi fd ps (spI2 C f1 f2)) (hb : Binds X.K fd ps []) (hr : Room (k + 1) X.A) (hg : Gl X x) (hm : X.mg x = some (.ref C)) (ha : JA X g T W (e :: es) fa)
    (hdb : (x == ("__debug__" : Str)) = false := by decide) (he : starEach (e :: es) X.env = (false, eval e X.env) :: starEach es X.env := by rfl) (hpl : (backTo pos (starEach es X.env)).any (·.1) = false := by rfl) :
    JS X g T W (.Raise (some (.Call (.Name x p) (e :: es) [] pos)) none p2) (mraise cc 2 fa) :=
  PS.imp (ps_raise hc tk (pmk_oex T' iC tI F1 hr hb .nil pass0 hg hm (ha T.τ T.t) hdb he hpl)) fun D σ H ⟨B, s, R, p⟩ => (PostS.bind (P := PAs g) R p).mono fun vs H1 ⟨os, B1, s1, R1, e1, q1, p1⟩ => by
    subst hC
    rcases strongs_ex (os := os) (s := s1) with ⟨ds, w⟩ | w
    · rw [ms_ok w] at p1
      obtain ⟨_, hd⟩ := strongs_ok R1 q1 w
      by_cases hl : ds.length = 2
      · rw [if_pos hl] at p1
        match ds, hd, hl, p1 with
        | [d1, d2], ⟨u1, r, hr1, h1, u2, r2, hr2, h2, h3⟩, _, p1 =>
          subst hr1 hr2
          cases h3
          refine ⟨by show 2 ≤ 1000; decide, fun a na => ⟨a, u1, u2, rfl, upd_same, fun dx ndx ne => ⟨rfl, dx, [(f2, u2), (f1, u1)], ?_, upd_same, ?_, ?_⟩⟩⟩
          · rw [upd_ne ne.symm, upd_same]
          · rw [upd_ne ne] at ndx; exact ndx
          · rw [upd_ne ne] at ndx
            have eh : upd (del (upd (upd (upd (upd H1 a (exo a (g.cn cc) none)) dx (exd dx [(f1, u1)])) a (exo a (g.cn cc) (some dx))) dx (exd dx [(f2, u2), (f1, u1)])) a) dx (.xd [(f2, u2), (f1, u1)]) = upd H1 dx (.xd [(f2, u2), (f1, u1)]) := by
              funext b
              by_cases hb : b = dx
              · subst hb; rw [upd_same, upd_same]
              · rw [upd_ne hb, upd_ne hb]
                by_cases hc : b = a
                · subst hc; rw [del_same, na]
                · rw [del_ne hc, upd_ne hb, upd_ne hc, upd_ne hb, upd_ne hc]
            rw [eh]
            have nb : B1 dx = none := Evl.fresh_back R1.bh ndx
            refine p1 (some dx) σ _ _ (R1.new ndx) (Evl.Ex.new nb) (.inr ⟨dx, [(f2, u2), (f1, u1)], [u1, u2], rfl, upd_same, Dens.cons (h1.mono (Evl.Ex.new nb)) (Dens.cons (h2.mono (Evl.Ex.new nb)) Dens.nil), fun j f' v hf hv => ?_⟩)
            rw [hn] at hf
            match j, hf, hv with
            | 0, hf, hv => cases hf; cases hv; simp [List.lookup, hf12]
            | 1, hf, hv => cases hf; cases hv; simp [List.lookup]
            | j + 2, hf, hv => simp at hf
      · rw [if_neg hl] at p1; exact p1.elim
    · rw [ms_bad w] at p1; exact p1.elim
/-- an error's class with two fields -/
structure Ex2 (K : PySem.W.Frag) (mg : Str → Option Value) (cn : Nat → Addr) (x : Str) (c : Nat) (f1 f2 : Str) : Prop where
  T : OexC K (cn c)
  m : mg x = some (.ref (cn c))
  ini : ∃ fi : Addr, PySem.W.findIn K (.ref (cn c)) "__init__" = some (some (.ref fi)) ∧ PySem.W.typeIn K (.ref fi) = some (.type "function") ∧
    ∀ (P : Program) (w : World) (base : Heap), ∃ (fd : FuncData) (ps : List Str), FnOk P w K mg base CX0 1 fi fd ps (spI2 (cn c) f1 f2) ∧ Binds K fd ps []
theorem Ex2.raise {x f1 f2 : Str} {c k : Nat} {p p2 : Pos} {fa : M (List Opd)} (E : Ex2 g.K g.mg g.cn x c f1 f2) (hr : Room k X.A) (tk : Takes X W)
    (ha : JA X g T W (e :: es) fa) (hc : X.calm = true := by rfl) (hk : 2 ≤ k := by decide) (hK : X.K = g.K := by rfl) (hmg : X.mg = g.mg := by rfl) (hn : g.names c = [f1, f2] := by rfl) (hf : (f1 == f2) = false := by decide) (hg : Gl X x := by rfl)
    (hdb : (x == ("__debug__" : Str)) = false := by decide) (he : starEach (e :: es) X.env = (false, eval e X.env) :: starEach es X.env := by rfl) (hpl : (backTo pos (starEach es X.env)).any (·.1) = false := by rfl) :
    JS X g T W (.Raise (some (.Call (.Name x p) (e :: es) [] pos)) none p2) (mraise c 2 fa) := by
  obtain ⟨T', m, fi, i1, i2, h⟩ := E
  obtain ⟨fd, ps, F, b⟩ := h X.prog X.w X.base
  rw [← hK, ← hmg] at F
  rw [← hmg] at m
  rw [← hK] at T' i1 i2 b
  exact js_raise2 hc tk T' rfl hn hf i1 i2 F b (hr.mono hk) hg m ha hdb he hpl
end TW

set_option Elab.async false
set_option linter.all false
set_option autoImplicit false
set_option maxRecDepth 100000
set_option maxHeartbeats 2000000
namespace TW
open PySem PySem.Spec PyProof.Rows L2
variable {g : G} {T : Tx} {B B' H H' : Hp} {σ : L2.St} {s : S} {W : WX} {X : Cx} {a b e : Expr} {es : List Expr} {pos : Pos}
/-! ## a, b = x, [..]: the second one stays own -/
def mpar2L (i j : Nat) (fa : M D) (fb : M Rv) : MS := ms fa fun d => ms fb fun r s => if i < s.length ∧ j < s.length then .nx ((s.set i (.v d)).set j r.sl) else .bad
theorem js_par2L {i j : Nat} {st : Stmt} {fa : M D} {fb : M Rv} (hij : i ≠ j) (hps : ∀ ta, PA X [a, b] ta → PS X st (tPar i j ta)) (hi : T.io i = none) (hj : T.io j = none) (ha : JE X g T W a fa) (hb : JR X g T W b fb)
    (hs : starEach [a, b] X.env = (false, eval a X.env) :: starEach [b] X.env := by rfl) (hs2 : starEach [b] X.env = (false, eval b X.env) :: starEach [] X.env := by rfl) : JS X g T W st (mpar2L i j fa fb) :=
  PS.imp (hps _ (pa_cons (ha T.τ T.t) (pa_cons (hb T.τ T.t) pa_nil hs2) hs)) fun D σ H ⟨B, s, R, p⟩ => (PostS.bind (P := PD g) R p).mono fun v1 H1 ⟨d, B1, s1, R1, e1, q1, p1⟩ =>
    (PostS.bind (P := RvOk g T) R1 p1).mono fun v2 H2 ⟨r, B2, s2, R2, e2, q2, p2⟩ => by
      by_cases hl : i < s2.length ∧ j < s2.length
      · rw [if_pos hl] at p2
        refine ⟨v1, v2, rfl, p2 _ B2 H2 ?_ (Evl.Ex.refl _)⟩
        have R3 := (R2.stored hl.2 hj q2).storev (i := i) (d := d) (v := v1) (by rw [List.length_set]; exact hl.1) hi (q1.mono e2)
        rw [List.set_comm _ _ (Ne.symm hij), List.set_comm _ _ (Ne.symm hij)] at R3
        exact R3
      · rw [if_neg hl] at p2; exact p2.elim
end TW

set_option Elab.async false
set_option linter.all false
set_option autoImplicit false
set_option maxRecDepth 100000
set_option maxHeartbeats 1000000
/-! an own list lent to a def that only looks at it -/
namespace TW
open PySem PySem.Spec PyProof.Rows L2
variable {g : G} {B B' H H' : Hp}
mutual
def noL : D → Bool
  | .lst _ => false
  | .arg _ => false
  | .dct => false
  | .tup ds => noLs ds
  | .obj _ ds => noLs ds
  | .exc _ _ _ ds => noLs ds
  | .err _ ds => noLs ds
  | .opq _ => false
  | _ => true
def noLs : List D → Bool
  | [] => true
  | d :: ds => noL d && noLs ds
end
def cutH (B : Hp) (a : Addr) : Hp := fun x => if x = a then none else B x
theorem cutH_ne {a x : Addr} (h : x ≠ a) : cutH B a x = B x := if_neg h
theorem cutH_at {a : Addr} : cutH B a a = none := if_pos rfl
theorem cut_get {a b : Addr} {us : List V} {o : HO} (ha : B a = some (.lst us)) (h : B b = some o) (ho : ∀ us, o ≠ .lst us) : cutH B a b = some o := by
  by_cases e : b = a
  · subst e; rw [ha] at h; cases h; exact absurd rfl (ho us)
  · rw [cutH_ne e]; exact h
theorem SqT.cut {K : PySem.W.Frag} {a b : Addr} {us xs : List V} (ha : B a = some (.lst us)) (h : SqT K B b xs) : SqT K (cutH B a) b xs := by
  rcases h with h | h
  · rcases h with h | ⟨o, h⟩
    · exact .inl (.inl (cut_get ha h (fun _ e => by cases e)))
    · exact .inl (.inr ⟨o, cut_get ha h (fun _ e => by cases e)⟩)
  · exact .inr h
mutual
theorem Den.cut {a : Addr} {us : List V} (ha : B a = some (.lst us)) : ∀ {d : D} {v : V}, noL d = true → Den g B d v → Den g (cutH B a) d v
  | .non, _, _, h => h
  | .bl _, _, _, h => h
  | .int _, _, _, h => h
  | .str _, _, _, h => h
  | .dct, _, n, _ => by simp [noL] at n
  | .lst _, _, n, _ => by simp [noL] at n
  | .arg _, _, n, _ => by simp [noL] at n
  | .tup ds, _, n, ⟨b, vs, e1, h1, h2⟩ => ⟨b, vs, e1, SqT.cut ha h1, Dens.cut ha (by simpa [noL] using n) h2⟩
  | .obj c ds, _, n, ⟨b, dx, vs, e1, h1, h3⟩ => ⟨b, dx, vs, e1, cut_get ha h1 (fun _ e => by cases e), Dens.cut ha (by simpa [noL] using n) h3⟩
  | .exc _ x c ds, _, n, ⟨e1, .inl h⟩ => ⟨e1, .inl h⟩
  | .exc _ x c ds, _, n, ⟨e1, .inr ⟨dx, fs, vs, h1, h2, h3, h4⟩⟩ => ⟨e1, .inr ⟨dx, fs, vs, h1, cut_get ha h2 (fun _ e => by cases e), Dens.cut ha (by simpa [noL] using n) h3, h4⟩⟩
  | .err c ds, _, n, ⟨b, x, e1, h1, .inl h⟩ => ⟨b, x, e1, cut_get ha h1 (fun _ e => by cases e), .inl h⟩
  | .err c ds, _, n, ⟨b, x, e1, h0, .inr ⟨dx, fs, vs, h1, h2, h3, h4⟩⟩ => ⟨b, x, e1, cut_get ha h0 (fun _ e => by cases e), .inr ⟨dx, fs, vs, h1, cut_get ha h2 (fun _ e => by cases e), Dens.cut ha (by simpa [noL] using n) h3, h4⟩⟩
  | .opq _, _, n, _ => by simp [noL] at n
theorem Dens.cut {a : Addr} {us : List V} (ha : B a = some (.lst us)) : ∀ {ds : List D} {vs : List V}, noLs ds = true → Dens g B ds vs → Dens g (cutH B a) ds vs
  | [], _, _, h => h
  | d :: ds, _, n, ⟨v, r, e1, h1, h2⟩ => by
    simp [noLs] at n
    exact ⟨v, r, e1, Den.cut ha n.1 h1, Dens.cut ha n.2 h2⟩
end
def noLr : Rv → Bool
  | .v d => noL d
  | .l ds => noLs ds
  | .o _ ds => noLs ds
def noLp (post : List Sl) : Bool := post.all fun x => match x with
  | .l ds => noLs ds
  | .o _ ds => noLs ds
  | _ => true
/-- f, handed the own list at place i as data -/
def lendF (i : Nat) (f : Fd) : Fd := fun as => match as[i]? with
  | some (.l ds) => (match f (as.set i (.v (.lst ds))) with
    | .ret r post => if (noLr r && noLp post && decide (i < post.length)) = true then .ret r (post.set i (.l ds)) else .bad
    | .ex c es post => if (noLs es && noLp post && decide (i < post.length)) = true then .ex c es (post.set i (.l ds)) else .bad
    | .bad => .bad)
  | _ => f as
theorem After.lend {as : List Sl} {vs : List V} {post : List Sl} {i : Nat} {a : Addr} {ds : List D} {us : List V} (A0 : ArgsOk g B H as vs) (e : Ex B H) (hi : as[i]? = some (.l ds)) (hv : vs[i]? = some (.ref a)) (ba : B a = none) (ha : H a = some (.lst us)) (hd : Dens g B ds us)
    (A : After g (upd B a (.lst us)) H B' H' (as.set i (.v (.lst ds))) vs post) (hn : noLp post = true) (hl : i < post.length) : After g B H (cutH B' a) H' as vs (post.set i (.l ds)) ∧ B' a = some (.lst us) := by
  have hB' : B' a = some (.lst us) := A.eB _ _ upd_same
  have eB : Ex B (cutH B' a) := fun x o h => by
    have hx : x ≠ a := fun z => by subst z; rw [ba] at h; cases h
    rw [cutH_ne hx]; exact A.eB _ _ (by rw [upd_ne hx]; exact h)
  refine ⟨⟨eB, fun x o h => ?_, fun x h => ?_, fun x o h hj => ?_, A.dom, fun j x v h1 h2 h3 => ?_⟩, hB'⟩
  · by_cases hx : x = a
    · subst hx; rw [cutH_at] at h; cases h
    · rw [cutH_ne hx] at h; exact A.eBH _ _ h
  · by_cases hx : x = a
    · subst hx; rw [cutH_at, ba]
    · rw [cutH_ne hx, A.nw x h, upd_ne hx]
  · refine A.hh x o h fun j y h1 h2 => ?_
    by_cases hj' : j = i
    · subst hj'
      rw [List.getElem?_set_self (List.getElem?_eq_some_iff.mp hi).1] at h1
      cases h1; cases h2
    · rw [List.getElem?_set_ne (Ne.symm hj')] at h1
      exact hj j y h1 h2
  · by_cases hj : j = i
    · subst hj
      rw [hi] at h1; cases h1
      rw [hv] at h3; cases h3
      exact ⟨.l ds, List.getElem?_set_self hl, rfl, a, us, rfl, cutH_at, A.eBH _ _ hB', hd.mono eB⟩
    · obtain ⟨x', p1, p2, p3⟩ := A.io j x v (by rw [List.getElem?_set_ne (Ne.symm hj)]; exact h1) h2 h3
      refine ⟨x', by rw [List.getElem?_set_ne (Ne.symm hj)]; exact p1, p2, ?_⟩
      have hx := List.all_eq_true.mp hn x' (List.mem_of_getElem? p1)
      cases x' with
      | no => cases p2
      | v d => cases p2
      | l es =>
        obtain ⟨b, ws, q1, q2, q3, q4⟩ := p3
        have hb : b ≠ a := fun z => by subst z; rw [hB'] at q2; cases q2
        exact ⟨b, ws, q1, by rw [cutH_ne hb]; exact q2, q3, q4.cut hB' hx⟩
      | o c es =>
        obtain ⟨b, dx, ws, q1, q2, q3, q4⟩ := p3
        have hb : b ≠ a := fun z => by subst z; rw [hB'] at q2; cases q2
        exact ⟨b, dx, ws, q1, by rw [cutH_ne hb]; exact q2, q3, q4.cut hB' hx⟩
theorem spD.lend {f : Fd} {i : Nat} {vs : List V} {Q : VK} {E : XK} (h : spD g (lendF i f) vs H Q E) : spD g f vs H Q E := by
  obtain ⟨B, as, e, A0, p⟩ := h
  unfold lendF at p
  cases hi : as[i]? with
  | none => rw [hi] at p; exact ⟨B, as, e, A0, p⟩
  | some x =>
    rw [hi] at p
    cases x with
    | l ds =>
      dsimp only at p
      have hlt := (List.getElem?_eq_some_iff.mp hi).1
      have hvl : i < vs.length := by rw [← A0.len]; exact hlt
      obtain ⟨a, us, ev, ba, ha, hd⟩ := A0.ok i _ vs[i] hi (List.getElem?_eq_getElem hvl)
      have hv : vs[i]? = some (.ref a) := by rw [List.getElem?_eq_getElem hvl]; exact ev
      have eB1 : Ex B (upd B a (.lst us)) := Evl.Ex.new ba
      have A1 : ArgsOk g (upd B a (.lst us)) H (as.set i (.v (.lst ds))) vs := by
        refine ⟨by rw [List.length_set]; exact A0.len, fun j x v h1 h2 => ?_, fun j k x y b h1 h2 o1 o2 v1 v2 => ?_⟩
        · by_cases hj : j = i
          · subst hj
            rw [List.getElem?_set_self hlt] at h1; cases h1
            rw [hv] at h2; cases h2
            exact ⟨_, rfl, a, us, rfl, upd_same, hd.mono eB1⟩
          · rw [List.getElem?_set_ne (Ne.symm hj)] at h1
            have q := A0.ok j x v h1 h2
            have ne : ∀ b, x.own = true → v = .ref b → b ≠ a := fun b ho hb z => by
              subst z; subst hb
              exact hj (A0.nd j i x (.l ds) b h1 hi ho rfl h2 hv)
            cases x with
            | no => trivial
            | v d => obtain ⟨w, e1, q1⟩ := q; exact ⟨w, e1, q1.mono eB1⟩
            | l es =>
              obtain ⟨b, ws, e1, q1, q2, q3⟩ := q
              cases e1
              exact ⟨b, ws, rfl, by rw [upd_ne (ne b rfl rfl)]; exact q1, q2, q3.mono eB1⟩
            | o c es =>
              obtain ⟨b, dx, ws, e1, q1, q2, q3⟩ := q
              cases e1
              exact ⟨b, dx, ws, rfl, by rw [upd_ne (ne b rfl rfl)]; exact q1, q2, q3.mono eB1⟩
        · have n1 : j ≠ i := fun z => by subst z; rw [List.getElem?_set_self hlt] at h1; cases h1; cases o1
          have n2 : k ≠ i := fun z => by subst z; rw [List.getElem?_set_self hlt] at h2; cases h2; cases o2
          rw [List.getElem?_set_ne (Ne.symm n1)] at h1
          rw [List.getElem?_set_ne (Ne.symm n2)] at h2
          exact A0.nd j k x y b h1 h2 o1 o2 v1 v2
      have eH1 : Ex (upd B a (.lst us)) H := fun x o h => by
        by_cases hx : x = a
        · subst hx; rw [upd_same] at h; cases h; exact ha
        · rw [upd_ne hx] at h; exact e _ _ h
      refine ⟨_, _, eH1, A1, ?_⟩
      cases ef : f (as.set i (.v (.lst ds))) with
      | bad => rw [ef] at p; exact p.elim
      | ret r post =>
        rw [ef] at p
        dsimp only at p
        by_cases hc : (noLr r && noLp post && decide (i < post.length)) = true
        · rw [if_pos hc] at p
          rw [Bool.and_eq_true, Bool.and_eq_true] at hc
          intro v B' H' A hr
          obtain ⟨A', hB'⟩ := After.lend A0 e hi hv ba ha hd A hc.1.2 (of_decide_eq_true hc.2)
          refine p v _ H' A' ?_
          cases r with
          | v d => exact Den.cut hB' hc.1.1 hr
          | l es =>
            obtain ⟨q, ws, q1, q2, q3, q4, q5⟩ := hr
            have hq : q ≠ a := fun z => by subst z; rw [ha] at q2; cases q2
            exact ⟨q, ws, q1, q2, by rw [cutH_ne hq]; exact q3, q4, q5.cut hB' hc.1.1⟩
          | o c es =>
            obtain ⟨q, dx, ws, q1, q2, q3, q4, q5⟩ := hr
            have hq : q ≠ a := fun z => by subst z; rw [ha] at q2; cases q2
            exact ⟨q, dx, ws, q1, q2, by rw [cutH_ne hq]; exact q3, q4, q5.cut hB' hc.1.1⟩
        · rw [if_neg hc] at p; exact p.elim
      | ex c es post =>
        rw [ef] at p
        dsimp only at p
        by_cases hc : (noLs es && noLp post && decide (i < post.length)) = true
        · rw [if_pos hc] at p
          rw [Bool.and_eq_true, Bool.and_eq_true] at hc
          intro x B' H' A hx
          obtain ⟨A', hB'⟩ := After.lend A0 e hi hv ba ha hd A hc.1.2 (of_decide_eq_true hc.2)
          refine p x _ H' A' ?_
          rcases hx with h | ⟨dx, fs, ws, h1, h2, h3, h4⟩
          · exact .inl h
          · exact .inr ⟨dx, fs, ws, h1, cut_get hB' h2 (fun _ e => by cases e), h3.cut hB' hc.1.1, h4⟩
        · rw [if_neg hc] at p; exact p.elim
    | _ => exact ⟨B, as, e, A0, p⟩
theorem fnOk_lend {P : Program} {w : World} {base : Heap} {k : Nat} {a : Addr} {fd : FuncData} {ps : List Str} {f : Fd} (i : Nat) (F : FnOk P w g.K g.mg base (L2.CX P w) k a fd ps (spD g f)) : FnOk P w g.K g.mg base (L2.CX P w) k a fd ps (spD g (lendF i f)) :=
  F.imp fun vs H Q E h => h.lend
section
variable {P : Program} {w : World} {base : Heap} {k c : Nat} {x : Str} {ps : List Str} {f : Fd}
theorem Cl.lend (i : Nat) (h : Cl P w g base k x ps f) : Cl P w g base k x ps (lendF i f) := by
  obtain ⟨a, fd, F, r⟩ := h
  exact ⟨a, fd, fnOk_lend i F, r⟩
theorem Cm.lend (i : Nat) (h : Cm P w g base k x c ps f) : Cm P w g base k x c ps (lendF i f) := by
  obtain ⟨a, fd, M, F, r⟩ := h
  exact ⟨a, fd, M, fnOk_lend i F, r⟩
theorem CmK.lend (i : Nat) (h : CmK P w g base k x c ps f) : CmK P w g base k x c ps (lendF i f) := by
  obtain ⟨a, fd, M, F, r⟩ := h
  exact ⟨a, fd, M, fnOk_lend i F, r⟩
end
end TW

set_option Elab.async false
set_option linter.all false
set_option autoImplicit false
set_option maxRecDepth 100000
set_option maxHeartbeats 1000000
/-! several own classes; repr of an integer; targets that are parameters; classes made by keywords in any order -/
namespace TW
open PySem PySem.Spec PyProof.Rows L2 TX
variable {g : G} {T : Tx} {B B' H H' : Hp} {σ : L2.St} {s : S} {W : WX} {X : Cx} {a b e o i : Expr} {es : List Expr} {pos : Pos}
/-! ## isinstance of other classes' instances -/
def isiObjs (c : Nat) (cs : List Nat) : Ty → Option Bool
  | .obj c' => if c' = c then some true else if c' ∈ cs then some false else none
  | _ => some false
theorem isi_objs {c : Nat} {cs : List Nat} (h : ∀ n ∈ ["NoneType", "bool", "int", "str", "tuple", "list", "dict"], PySem.W.kitOne g.K (.type n) (.ref (g.cn c)) = some false) (h2 : ∀ c' ∈ cs, PySem.W.kitOne g.K (.ref (g.cn c')) (.ref (g.cn c)) = some false) : Isi g (.ref (g.cn c)) (isiObjs c cs) := fun t b e => by
  cases t with
  | obj c' =>
    by_cases z : c' = c
    · subst z
      have e1 : isiObjs c' cs (.obj c') = some true := if_pos rfl
      rw [e1] at e; cases e
      exact isi_obj (g := g) (c := c') h (.obj c') true (if_pos rfl)
    · have e0 : isiObjs c cs (.obj c') = if c' ∈ cs then some false else none := if_neg z
      rw [e0] at e
      by_cases m : c' ∈ cs
      · rw [if_pos m] at e; cases e
        exact h2 c' m
      · rw [if_neg m] at e; cases e
  | _ => exact isi_obj (g := g) (c := c) h _ b e
/-! ## == against an instance of another class -/
structure EqN (g : G) (c : Nat) (cs : List Nat) : Prop where
  s : ∀ c' ∈ cs, c' < 100 ∧ PySem.W.subIn g.K (.ref (g.cn c')) (.ref (g.cn c)) = some false
def chkO (cs : List Nat) (o : Opd) : M Unit := mbind (res o) fun d => match d with
  | .obj c' _ => if c' ∈ cs then mret () else mbad
  | _ => mbad
theorem chkO_cases {cs : List Nat} {o : Opd} {s : S} : chkO cs o s = .ok () s ∨ chkO cs o s = .bad := by
  unfold chkO
  rcases res_cases (o := o) (s := s) with ⟨d, w⟩ | w
  · rw [mbind_ok w]
    cases d with
    | obj c' ds =>
      by_cases h : c' ∈ cs
      · left; dsimp only; rw [if_pos h]; rfl
      · right; dsimp only; rw [if_neg h]; rfl
    | _ => right; rfl
  · right; unfold mbind; rw [w]
theorem chkO_ok {c : Nat} {cs : List Nat} {o : Opd} {v : V} (hI : ∀ c, c < 100 → InsC g.K (g.cn c)) (N : EqN g c cs)
    (R : Rel g T B H σ s) (h : OpdOk g B σ o v) (e : chkO cs o s = .ok () s) : ∃ t, TyX g.K H v t ∧ PySem.W.notFirst g.K (g.cn c) t = true := by
  unfold chkO at e
  rcases res_cases (o := o) (s := s) with ⟨d, w⟩ | w
  · have hd := (res_ok R h w).2
    rw [mbind_ok w] at e
    cases d with
    | obj c' ds =>
      by_cases hcc : c' ∈ cs
      · obtain ⟨h1, h2⟩ := N.s c' hcc
        refine ⟨.ref (g.cn c'), tyx_den hI R.bh hd (if_pos h1), ?_⟩
        unfold PySem.W.notFirst
        rw [h2]; simp
      · dsimp only at e; rw [if_neg hcc] at e; cases e
    | _ => cases e
  · unfold mbind at e; rw [w] at e; cases e
def mceqO (neg : Bool) (c : Nat) (cs : List Nat) (f : Fd) (fa fb : M Opd) : M D := mbind fa fun o1 => mbind fb fun o2 => mbind (chk c o1) fun _ => mbind (chkO cs o2) fun _ => mbind (mcall f [] (mret [o1, o2])) (kB neg)
theorem ceqO_rd {neg : Bool} {c : Nat} {cs : List Nat} {f : Fd} {fa fb : M Opd} {τ : L2.St} {t : S} (hI : ∀ c, c < 100 → InsC g.K (g.cn c)) (N : EqN g c cs) {Q : VK}
    (h : RdM g (T.tmp τ t) W (PD g) (mceqO neg c cs f fa fb) σ H Q) : tCeqS g c neg (spD g f) (WE W) (RdM g (T.tmp τ t) W (PO' g) fa) (RdM g (T.tmp τ t) W (PO' g) fb) σ H Q := by
  obtain ⟨B, s, R, p⟩ := h
  exact (PostM.bind (P := PO' g) R p).mono fun x H1 ⟨o1, B1, s1, R1, e1, q1, p1⟩ =>
    (PostM.bind (P := PO' g) R1 p1).mono fun y H2 ⟨o2, B2, s2, R2, e2, q2, p2⟩ => by
      rcases chk_cases (c := c) (o := o1) (s := s2) with w | w
      · rw [mbind_ok w] at p2
        rcases chkO_cases (cs := cs) (o := o2) (s := s2) with w2 | w2
        · rw [mbind_ok w2] at p2
          obtain ⟨p, dx, vs, ev, hh⟩ := chk_ok R2 (q1.mono e2) w
          obtain ⟨tt, ty, hnf⟩ := chkO_ok hI N R2 q2 w2
          refine ⟨p, dx, _, tt, ev, hh, ty, hnf, ?_⟩
          have p3 := PostM.bind2 (P := RvOk g (T.tmp τ t)) p2
          have p4 := call_tail (W := W) R2 (PAs.cons (q1.mono e2) (PAs.cons q2 .nil)) p3
          rw [ev] at p4
          refine spD_mono p4 fun v H' hq => ?_
          obtain ⟨r, B3, s3, R3, e3, q3, p5⟩ := hq
          cases r with
          | v d =>
            cases d with
            | bl k => cases q3; exact ⟨k, rfl, p5 _ B3 H' R3 (Evl.Ex.refl _) rfl⟩
            | _ => exact p5.elim
          | l ds => exact p5.elim
          | o c ds => exact p5.elim
        · exfalso
          have z : mbind (chkO cs o2) (fun _ => mbind (mcall f [] (mret [o1, o2])) (kB neg)) s2 = .bad := by unfold mbind; rw [w2]
          rw [z] at p2; exact p2
      · exfalso
        have z : mbind (chk c o1) (fun _ => mbind (chkO cs o2) fun _ => mbind (mcall f [] (mret [o1, o2])) (kB neg)) s2 = .bad := by unfold mbind; rw [w]
        rw [z] at p2; exact p2
theorem je_ceqO {neg : Bool} {c k j : Nat} {cs : List Nat} {ps : List Str} {f : Fd} {fa fb : M Opd} (eo : Eqo X.prog X.w g X.base k c ps f) (N : EqN g c cs) (hI : ∀ c, c < 100 → InsC g.K (g.cn c)) (hr : Room j X.A) (hk : k + 1 ≤ j) (hK : X.K = g.K) (hmg : X.mg = g.mg) (tk : Takes X W) (ha : JO X g T W a fa) (hb : JO X g T W b fb)
    (hm : behindInMarks (opB neg) b = false) : JE X g T W (.Compare a [opB neg] [b] pos) (mceqO neg c cs f fa fb) :=
  fun τ t => PE.imp (pe_ceqS (ha τ t) (hb τ t) eo (hr.mono hk) hK hmg tk hm) fun σ H Q h => ceqO_rd hI N h
theorem jt_ceqO {neg : Bool} {c k j : Nat} {cs : List Nat} {ps : List Str} {f : Fd} {fa fb : M Opd} (eo : Eqo X.prog X.w g X.base k c ps f) (N : EqN g c cs) (hI : ∀ c, c < 100 → InsC g.K (g.cn c)) (hr : Room j X.A) (hk : k + 1 ≤ j) (hK : X.K = g.K) (hmg : X.mg = g.mg) (tk : Takes X W) (ha : JO X g T W a fa) (hb : JO X g T W b fb)
    (hm : behindInMarks (opB neg) b = false) : JT X g T W (.Compare a [opB neg] [b] pos) (mbind (mceqO neg c cs f fa fb) tob) :=
  fun τ t => PT.imp (pt_ceqS (ha τ t) (hb τ t) eo (hr.mono hk) hK hmg tk hm) fun σ H Q h => tob_rd (fun Q h => ceqO_rd hI N h) h
/-! ## repr of an integer -/
def reprD2 : D → Option Rv
  | .int z => if z.natAbs.log2 < 1920 then some (.v (.str (toString z))) else none
  | d => reprD d
theorem reprD_rd {d : D} {v : V} {o : Rv} {Q : VK} (hK : X.K = g.K) (R : Rel g T B H σ s) (h : DenW g B H d v) (e : reprD d = some o) (q : ∀ v B' H', Rel g T B' H' σ s → Ex B B' → RvOk g T σ s o B' H' v → Q v H') : rRepr X.K [v] H Q := by
  unfold reprD at e
  cases ep : toPy d with
  | none => rw [ep] at e; cases e
  | some p =>
    rw [ep] at e
    replace e : (if (seqD d && p.showable && !p.hasDict && decide (p.depth ≤ 50) && decide (p.shown.length ≤ 100000)) = true then some (Rv.v (.str p.shown)) else none) = some o := e
    by_cases c : (seqD d && p.showable && !p.hasDict && decide (p.depth ≤ 50) && decide (p.shown.length ≤ 100000)) = true
    · rw [if_pos c] at e; cases e
      simp only [Bool.and_eq_true, decide_eq_true_eq, Bool.not_eq_true'] at c
      obtain ⟨⟨⟨⟨c0, c1⟩, c2⟩, c3⟩, c4⟩ := c
      have hd := dpw_of hK R.bh ep h
      have hr : ∃ ad, v = V.ref ad := by
        cases d with
        | tup ds => obtain ⟨ad, _, rfl, _⟩ := h; exact ⟨ad, rfl⟩
        | lst ds => obtain ⟨ad, _, rfl, _⟩ := h; exact ⟨ad, rfl⟩
        | arg ds => obtain ⟨ad, _, rfl, _⟩ := h; exact ⟨ad, rfl⟩
        | _ => cases c0
      obtain ⟨ad, rfl⟩ := hr
      exact ⟨ad, p, rfl, hd, c1, c2, c3, c4, q _ B H R (Evl.Ex.refl _) rfl⟩
    · rw [if_neg c] at e; cases e
theorem o_repr2 (hK : X.K = g.K) (hgd : X.A.guards = some []) (hu : X.A.units + 64 < cLine) : CbD X g (.builtin "repr") (on1 reprD2) := cb1 (callR_orB SkE.call_repr_int (call_reprD hgd hu)) fun T B H σ s v d o Q R h e q => by
  cases d with
  | int z =>
    left
    replace e : (if z.natAbs.log2 < 1920 then some (Rv.v (.str (toString z))) else none) = some o := e
    by_cases c : z.natAbs.log2 < 1920
    · rw [if_pos c] at e; cases e
      cases h
      exact ⟨z, rfl, c, q _ B H R (Evl.Ex.refl _) rfl⟩
    · rw [if_neg c] at e; cases e
  | _ => exact .inr (reprD_rd hK R h e q)
/-! ## x, p = e, e', p a parameter -/
def stPar2Q (i j : Nat) : List D → MS
  | [d1, d2] => fun s => match s[j]? with
    | some (.v _) => if i < s.length ∧ j < s.length then .nx ((s.set i (.v d1)).set j (.v d2)) else .bad
    | _ => .bad
  | _ => fun _ => .bad
def mpar2Q (i j : Nat) (fa : M (List Opd)) : MS := ms fa fun os => ms (strongs os) (stPar2Q i j)
theorem js_par2Q {i j : Nat} {st : Stmt} {fa : M (List Opd)} (hps : ∀ ta, PA X es ta → PS X st (tPar i j ta)) (hi : T.io i = none) (ha : JA X g T W es fa) : JS X g T W st (mpar2Q i j fa) :=
  PS.imp (hps _ (ha T.τ T.t)) fun D σ H ⟨B, s, R, p⟩ => (PostS.bind (P := PAs g) R p).mono fun vs H1 ⟨os, B1, s1, R1, e1, q1, p1⟩ => by
    rcases strongs_ex (os := os) (s := s1) with ⟨ds, w⟩ | w
    · rw [ms_ok w] at p1
      obtain ⟨_, hd⟩ := strongs_ok R1 q1 w
      match ds, hd, p1 with
      | [d1, d2], hd, p1 =>
        obtain ⟨v1, r1, rfl, h1, v2, r2, rfl, h2, h3⟩ := hd
        cases h3
        cases hs : s1[j]? with
        | none => simp only [stPar2Q, hs] at p1; exact p1.elim
        | some x =>
          cases x with
          | v d =>
            replace p1 : PostS g T W B1 (match s1[j]? with | some (.v _) => if i < s1.length ∧ j < s1.length then .nx ((s1.set i (.v d1)).set j (.v d2)) else .bad | _ => .bad) D := p1
            rw [hs] at p1
            dsimp only at p1
            have hj : T.io j = none := by
              cases ei : T.io j with
              | none => rfl
              | some a =>
                obtain ⟨_, x, hx, ho⟩ := R1.r.iok j a ei
                rw [app_some hs] at hx; cases hx; cases ho
            by_cases hl : i < s1.length ∧ j < s1.length
            · rw [if_pos hl] at p1
              refine ⟨v1, v2, rfl, p1 _ B1 H1 ?_ (Evl.Ex.refl _)⟩
              exact (R1.storev hl.1 hi h1).storev (by rw [List.length_set]; exact hl.2) hj h2
            · rw [if_neg hl] at p1; exact p1.elim
          | no => simp only [stPar2Q, hs] at p1; exact p1.elim
          | l _ => simp only [stPar2Q, hs] at p1; exact p1.elim
          | o _ _ => simp only [stPar2Q, hs] at p1; exact p1.elim
      | [], hd, p1 => exact p1.elim
      | [_], hd, p1 => exact p1.elim
      | _ :: _ :: _ :: _, hd, p1 => exact p1.elim
    · rw [ms_bad w] at p1; exact p1.elim
/-! ## C(l = e, k = e'), the names turned about -/
structure CmR (P : Program) (w : World) (g : G) (base : Heap) (k : Nat) (x : Str) (c : Nat) (ps : List Str) (f : Fd) : Prop where
  ex : ∃ (a : Addr) (fd : FuncData), Mk g.K (g.cn c) a ∧ FnOk P w g.K g.mg base (L2.CX P w) k a fd ps (spD g f) ∧ g.mg x = some (.ref (g.cn c)) ∧
    ∀ (u0 : Value) (us : List Value), us.length + 1 = ps.length → ∀ s : Shared, BindsTo s fd ⟨[u0], (ps.drop 1).reverse.zip us⟩ (ps.zip (u0 :: us.reverse))
theorem vals_rev {xs : List V} {us : List Value} (r : Vals xs us) : Vals xs.reverse us.reverse := by
  induction r with
  | nil => exact .nil
  | cons r1 r2 ih => rw [List.reverse_cons, List.reverse_cons]; exact ih.append (.cons r1 .nil)
theorem run_makeSKR {CX : CXT} {k : Nat} {f C : Addr} {fd : FuncData} {ps ks : List Str} {sp : Sp} {E : L2.St → XK} {pins : List (Addr × Obj)} {σ : L2.St} {H : Hp} {s : Shared} {Q : VK} {ws : List Value} {zs : List V} (M : Mk X.K C f) (F : FnOk X.prog X.w X.K X.mg X.base CX k f fd ps sp) (hr : Room (k + 1) X.A)
    (hb : ∀ (u0 : Value) (us : List Value), us.length + 1 = ps.length → ∀ s : Shared, BindsTo s fd ⟨[u0], ks.zip us⟩ (ps.zip (u0 :: us.reverse))) (hx : PassesAt CX X σ (E σ)) (I : Inv X pins σ H s) (rz : Vals zs ws)
    (h : ∀ x dx, H x = none → H dx = none → dx ≠ x → sp (.ref x :: zs.reverse) (upd (upd H dx (.own x)) x (.ins C dx [])) (fun v H2 => v = .non ∧ Q (.ref x) H2) (E σ)) :
    wpAny (model X.prog X.w) X.A (call (.ref C) [] (ks.zip ws)) (EP X pins σ Q) X.xe s := by
  have hq := h (s.heap.objs.size + 1) s.heap.objs.size (I.hok.fresh (Nat.le_succ _)) (I.hok.fresh (Nat.le_refl _)) (Nat.ne_of_lt (Nat.lt_succ_self _))
  have I2 := Inv.made (C := C) I
  have r2 : Vals (V.ref (s.heap.objs.size + 1) :: zs.reverse) (Value.ref (s.heap.objs.size + 1) :: ws.reverse) := .cons rfl (vals_rev rz)
  have hl : ws.length + 1 = ps.length := by
    have e := r2.length
    rw [F.len _ _ _ _ hq] at e
    simpa using e.symm
  refine wpAny_call (make_map (f := f) I.kIn M.makes M.init (beq_iff_eq.mp M.fn) (codeAny_mono (F.run _ X.stack _ _ ⟨[Value.ref (s.heap.objs.size + 1)], ks.zip ws⟩ (Value.ref (s.heap.objs.size + 1) :: ws.reverse) _ _ (E σ) (hr.make C [] (ks.zip ws))
    (I2.env0.make C [] (ks.zip ws)) (hb _ ws hl _) r2 hq) fun r s' hq' => ?_))
  cases r with
  | error e => exact hx pins _ _ e s' I2 hq'
  | ok fl =>
    cases fl with
    | ret u =>
      obtain ⟨v, H', I3, rv, ev, q3⟩ := I2.after hq'
      subst ev
      exact ⟨rv, ⟨V.ref (s.heap.objs.size + 1), H', I3, rfl, q3⟩⟩
    | next => exact False.elim hq'
    | brk => exact False.elim hq'
    | cont => exact False.elim hq'
theorem pe_makeSKR {CX : CXT} {k : Nat} {f C : Addr} {fd : FuncData} {ps : List Str} {sp : Sp} {E : L2.St → XK} {x : Str} {p : Pos} {t : TA} {kws : List Keyword} (M : Mk X.K C f) (F : FnOk X.prog X.w X.K X.mg X.base CX k f fd ps sp) (hr : Room (k + 1) X.A) (hg : Gl X x) (hm : X.mg x = some (.ref C))
    (hb : ∀ (u0 : Value) (us : List Value), us.length + 1 = ps.length → ∀ s : Shared, BindsTo s fd ⟨[u0], (ps.drop 1).reverse.zip us⟩ (ps.zip (u0 :: us.reverse))) (hx : ∀ σ, PassesAt CX X σ (E σ)) (hkw : PK X kws (fun σ H Q => t σ H fun vs H1 => Q vs.reverse H1))
    (hall : (backToKw pos (keywordEach kws X.env)).all (·.1.isSome) = true := by rfl) (hks : (backToKw pos (keywordEach kws X.env)).filterMap (·.1) = (ps.drop 1).reverse := by rfl)
    (hdb : (x == ("__debug__" : Str)) = false := by decide) (hpl : ((backTo pos (starEach [] X.env)).any (·.1) || (backToKw pos (keywordEach kws X.env)).any (·.1.isNone)) = false := by rfl) :
    PE X (.Call (.Name x p) [] kws pos) (tMakeS C sp [] E t) := by
  refine ⟨fun pins s σ H Q I h => ?_⟩
  refine wpAny_Call_Name_kw (ld_glob I hg hm ?_ hdb)
  refine PySem.W.callWith_KW0 (h₀ := X.base) I.ok.mod.kin M.kp hall (thn (hkw.run pos pins s σ H (fun vs H1 => ∀ x dx, H1 x = none → H1 dx = none → dx ≠ x → sp (.ref x :: (vs.reverse ++ [])) (upd (upd H1 dx (.own x)) x (.ins C dx [])) (fun v H2 => v = .non ∧ Q (.ref x) H2) (E σ)) I (by
    show t σ H fun vs H1 => ∀ x dx, H1 x = none → H1 dx = none → dx ≠ x → sp (.ref x :: (vs.reverse.reverse ++ [])) (upd (upd H1 dx (.own x)) x (.ins C dx [])) (fun v H2 => v = .non ∧ Q (.ref x) H2) (E σ)
    simp only [List.reverse_reverse]; exact h)) fun ws s2 ⟨zs, H2, I2, rz, q2⟩ => ⟨I2.kIn, ?_⟩) hpl
  rw [hks]
  exact run_makeSKR M F hr hb (hx σ) I2 rz fun x dx n1 n2 n3 => by have := q2 x dx n1 n2 n3; rwa [List.append_nil] at this
theorem jr_makeKR {k j c : Nat} {x : Str} {ps : List Str} {f : Fd} {fa : M (List Opd)} {p : Pos} {kws : List Keyword} (cm : CmR X.prog X.w g X.base k x c ps f) (hr : Room j X.A) (hk : k + 1 ≤ j) (hK : X.K = g.K) (hmg : X.mg = g.mg) (hg : Gl X x) (tk : Takes X W) (ha : JK X g T W kws fa)
    (hall : (backToKw pos (keywordEach kws X.env)).all (·.1.isSome) = true := by rfl) (hks : (backToKw pos (keywordEach kws X.env)).filterMap (·.1) = (ps.drop 1).reverse := by rfl)
    (hdb : (x == ("__debug__" : Str)) = false := by decide) (hpl : ((backTo pos (starEach [] X.env)).any (·.1) || (backToKw pos (keywordEach kws X.env)).any (·.1.isNone)) = false := by rfl) :
    JR X g T W (.Call (.Name x p) [] kws pos) (mmake c f [] (mrevA fa)) := by
  obtain ⟨a, fd, M, F, hm, b⟩ := cm
  rw [← hK, ← hmg] at F
  rw [← hmg] at hm
  rw [← hK] at M
  exact fun τ t => PE.imp (pe_makeSKR (E := WE W) M F (hr.mono hk) hg hm b (fun σ => passAt tk σ) (jk_rev ha τ t) hall hks hdb hpl) fun σ H Q h => make_rd (dds := []) (dvs := []) (fun _ => rfl) h
theorem CmR.lend {P : Program} {w : World} {base : Heap} {k c : Nat} {x : Str} {ps : List Str} {f : Fd} (i : Nat) (h : CmR P w g base k x c ps f) : CmR P w g base k x c ps (lendF i f) := by
  obtain ⟨a, fd, M, F, r⟩ := h
  exact ⟨a, fd, M, fnOk_lend i F, r⟩
end TW

set_option Elab.async false
set_option linter.all false
set_option autoImplicit false
set_option maxRecDepth 100000
set_option maxHeartbeats 1000000
/-! except C as error: x = (error.f, error.g); xs.append((error.f, error.g)) -/
namespace TW
open PySem PySem.Spec PyProof.Rows L2
def mxt (i N : Nat) (a : Addr) (x : Option Addr) : M D := mtup (mcons (mbind (mxf i N 0 a x) fun d => mret (Opd.d d)) (mcons (mbind (mxf i N 1 a x) fun d => mret (Opd.d d)) (mret [])))
theorem mxt_ok {i N : Nat} {a : Addr} {x : Option Addr} {ds : List D} {s1 : S} (hi : i < s1.length) : mxt i N a x (s1.set i (.v (.exc a x N ds))) = (match ds[0]?, ds[1]? with
    | some d0, some d1 => .ok (.tup [d0, d1]) (s1.set i (.v (.exc a x N ds)))
    | _, _ => .bad) := by
  have e : (s1.set i (.v (.exc a x N ds)))[i]? = some (.v (.exc a x N ds)) := by simp [hi]
  have e0 : ∀ j, mxf i N j a x (s1.set i (.v (.exc a x N ds))) = (match ds[j]? with | some d => .ok d (s1.set i (.v (.exc a x N ds))) | none => .bad) := fun j => by
    unfold mxf; rw [e]; dsimp only; rw [if_pos ⟨rfl, rfl, rfl⟩] <;> (cases ds[j]? <;> rfl)
  unfold mxt mtup mcons mbind
  rw [e0]
  cases h0 : ds[0]? with
  | none => rfl
  | some d0 =>
    dsimp only [mret]
    rw [e0]
    cases h1 : ds[1]? with
    | none => rfl
    | some d1 => rfl
theorem mxt_no {i N : Nat} {a : Addr} {x : Option Addr} {ds : List D} {s1 : S} (hi : ¬ i < s1.length) : mxt i N a x (s1.set i (.v (.exc a x N ds))) = .bad := by
  have e : (s1.set i (.v (.exc a x N ds)))[i]? = none := List.getElem?_eq_none (by simp; omega)
  unfold mxt mtup mcons mbind mxf
  rw [e]
theorem clrS_set {i : Nat} {a : Addr} {x : Option Addr} {c : Nat} {ds : List D} {s1 : S} (hi : i < s1.length) : clrS i (s1.set i (.v (.exc a x c ds))) = some (s1.set i .no) := by
  unfold clrS
  rw [show (s1.set i (.v (.exc a x c ds)))[i]? = some (.v (.exc a x c ds)) by simp [hi]]
  dsimp only
  rw [if_neg (show ¬ (Sl.v (D.exc a x c ds)).own = true from Bool.false_ne_true), List.set_set]
theorem clr_set2 {i k : Nat} {v : Sl} {a : Addr} {x : Option Addr} {c : Nat} {ds : List D} {s1 : S} (h : i ≠ k) (hi : i < s1.length) : clrS i ((s1.set i (.v (.exc a x c ds))).set k v) = some ((s1.set k v).set i .no) := by
  rw [List.set_comm _ _ h]
  exact clrS_set (by rw [List.length_set]; exact hi)
theorem try_set2 {i k N : Nat} {a : Addr} {x : Option Addr} {c : Nat} {ds : List D} {s1 : S} (h : i ≠ k) :
    clr i ((if c = N then (ms (mbind (mxt i N a x) fun d => mret (Rv.v d)) fun r => stSet k (Rv.sl r)) else fun _ => OutS.bad) (s1.set i (.v (.exc a x c ds)))) =
    clr i ((if c = N then (ms (mbind (mxt i N 0 none) fun d => mret (Rv.v d)) fun r => stSet k (Rv.sl r)) else fun _ => OutS.bad) (s1.set i (.v (.exc 0 none c ds)))) := by
  by_cases hc : c = N
  · subst hc
    rw [if_pos rfl, if_pos rfl]
    by_cases hi : i < s1.length
    · unfold ms mbind
      rw [mxt_ok hi, mxt_ok hi]
      cases h0 : ds[0]? with
      | none => rfl
      | some d0 =>
        cases h1 : ds[1]? with
        | none => rfl
        | some d1 =>
          dsimp only [mret, stSet]
          rw [List.length_set, List.length_set]
          by_cases hk : k < s1.length
          · rw [if_pos hk, if_pos hk]
            show (match clrS i _ with | some s' => OutS.nx s' | none => .bad) = (match clrS i _ with | some s' => OutS.nx s' | none => .bad)
            rw [clr_set2 h hi, clr_set2 h hi]
          · rw [if_neg hk, if_neg hk]
    · unfold ms mbind
      rw [mxt_no hi, mxt_no hi]
  · rw [if_neg hc, if_neg hc]
theorem try_app2 {i k N : Nat} {a : Addr} {x : Option Addr} {c : Nat} {ds : List D} {s1 : S} (h : i ≠ k) :
    clr i ((if c = N then (mappend k (mxt i N a x)) else fun _ => OutS.bad) (s1.set i (.v (.exc a x c ds)))) =
    clr i ((if c = N then (mappend k (mxt i N 0 none)) else fun _ => OutS.bad) (s1.set i (.v (.exc 0 none c ds)))) := by
  by_cases hc : c = N
  · subst hc
    rw [if_pos rfl, if_pos rfl]
    unfold mappend
    rw [List.getElem?_set_ne h, List.getElem?_set_ne h]
    cases hk : s1[k]? with
    | none => rfl
    | some y =>
      cases y with
      | l es =>
        dsimp only
        by_cases hi : i < s1.length
        · unfold ms
          rw [mxt_ok hi, mxt_ok hi]
          cases h0 : ds[0]? with
          | none => rfl
          | some d0 =>
            cases h1 : ds[1]? with
            | none => rfl
            | some d1 =>
              dsimp only
              rw [List.getElem?_set_ne h, List.getElem?_set_ne h, hk]
              dsimp only
              by_cases hl : es.length < 16000000
              · rw [if_pos hl, if_pos hl]
                show (match clrS i _ with | some s' => OutS.nx s' | none => .bad) = (match clrS i _ with | some s' => OutS.nx s' | none => .bad)
                rw [clr_set2 h hi, clr_set2 h hi]
              · rw [if_neg hl, if_neg hl]
        · unfold ms
          rw [mxt_no hi, mxt_no hi]
      | _ => rfl
  · rw [if_neg hc, if_neg hc]
end TW

set_option Elab.async false
set_option linter.all false
set_option autoImplicit false
set_option maxRecDepth 100000
set_option maxHeartbeats 1000000
/-! o.f(e, ..) where the field f holds an instance that may be called -/
namespace TW
open PySem PySem.Spec PyProof.Rows L2
variable {g : G} {T : Tx} {B B' H H' : Hp} {σ : L2.St} {s : S} {W : WX} {X : Cx} {a b e o i : Expr} {es : List Expr} {pos : Pos}
def tCalA (X : Cx) (m : Str) (C : Addr) (sp : Sp) (E : L2.St → XK) (tf : TE) (t : TA) : TE := fun σ H Q => tf σ H fun x H1 => ∃ (q C1 dx1 : Addr) (fs1 : List (Str × V)) (p : Addr), x = .ref q ∧ H1 q = some (.ins C1 dx1 fs1) ∧ Cls X.K C1 ∧ NoAttr X.K C1 m ∧ fs1.lookup m = some (.ref p) ∧
  t σ H1 fun vs H2 => (∃ dx fs, H2 p = some (.ins C dx fs)) ∧ sp (.ref p :: vs) H2 Q (E σ)
theorem pe_calA {CX : CXT} {k : Nat} {C f : Addr} {fd : FuncData} {ps : List Str} {sp : Sp} {E : L2.St → XK} {m : Str} {apos : Pos} {tf : TE} {t : TA} {pl : Sem Bool} (hf : PE X o tf) (c : StX.CallO X.K C f) (F : FnOk X.prog X.w X.K X.mg X.base CX k f fd ps sp) (hr : Room k X.A) (hb : Binds X.K fd ps []) (hx : ∀ σ, PassesAt CX X σ (E σ)) (ha : PA X (e :: es) t)
    (he : starEach (e :: es) X.env = (false, eval e X.env) :: starEach es X.env := by rfl) (hpl : (backTo pos (starEach es X.env)).any (·.1) = false := by rfl)
    (ht : eval (.Call (.Attribute o m apos) (e :: es) [] pos) X.env = (do
      let ov ← eval o X.env
      standAt apos.atName
      let (f, first) ← holding [ov] (getMethod ov m pl)
      callWith pos f first (backTo pos (starEach (e :: es) X.env)) (backToKw pos (keywordEach [] X.env))) := by rfl) :
    PE X (.Call (.Attribute o m apos) (e :: es) [] pos) (tCalA X m C sp E tf t) := by
  refine ⟨fun pins s σ H Q I h => ?_⟩
  refine PySem.W.methodCall_KW (pl := pl) (thn (hf.run pins s σ H _ I h) fun u s0 ⟨x, H0, I0, rx, q0, C1, dx1, fs1, p, ex, e1, c1, n1, l1, q⟩ => ?_) ht
  subst ex
  obtain rfl : u = Value.ref q0 := rx
  refine getmeth_fld I0 e1 c1 n1 l1 fun u s1 I1 ru => ?_
  obtain rfl : u = Value.ref p := ru
  refine StX.callO_with (thn (ha.run pos pins s1 σ H0 _ I1 q) fun us s2 ⟨vs, H2, I2, r, ⟨dx, fs, hi⟩, q2⟩ => ?_) he hpl
  obtain ⟨mA, O, _⟩ := ins_get I2.hok hi
  obtain ⟨od, J, _⟩ := O.look
  refine ⟨⟨C, _, _, J, rfl⟩, wpAny_call (PySem.W.kco_code I2.kIn J rfl c.at_ c.fn c.fi ?_)⟩
  refine codeAny_mono (run_bound (args := ⟨.ref p :: us, []⟩) (us := .ref p :: us) (vs := .ref p :: vs) F hr (fun hl => ?_) (hx σ) I2 (.cons rfl r) q2) fun r s' hq => ?_
  · have := hb s2 (.ref p :: us) I2.kIn (by simpa using hl)
    simpa using this
  · cases r with
    | error e => exact hq
    | ok fl => cases fl <;> first | exact hq | exact False.elim hq
theorem calA_rd {c : Nat} {f : Fd} {m : Str} {fo : M Opd} {fa : M (List Opd)} {τ : L2.St} {t : S} {Q : VK} (hK : X.K = g.K) (hF : FldF g m) (h : RdM g (T.tmp τ t) W (RvOk g (T.tmp τ t)) (mcalO c f (mbind (mfld g.names m fo) fun d => mret (.d d)) fa) σ H Q) :
    tCalA X m (g.cn c) (spD g f) (WE W) (RdM g (T.tmp τ t) W (PO' g) fo) (RdM g (T.tmp τ t) W (PAs g) fa) σ H Q := by
  obtain ⟨B, s, R, p⟩ := h
  have z : mcalO c f (mbind (mfld g.names m fo) fun d => mret (.d d)) fa s = mbind fo (fun o => mbind (res o) fun d0 => mbind (mopt (fldD g.names m d0)) fun d => mbind (chk c (.d d)) fun _ => mbind fa fun os => mbind (chk c (.d d)) fun _ => mcall f [] (mret (.d d :: os))) s := by
    unfold mcalO mfld mun mbind
    cases fo s with
    | ok o s1 =>
      dsimp only
      cases res o s1 with
      | ok d0 s2 =>
        dsimp only
        cases fldD g.names m d0 with
        | none => rfl
        | some d => rfl
      | _ => rfl
    | _ => rfl
  rw [z] at p
  refine (PostM.bind (P := PO' g) R p).mono fun x H1 ⟨oo, B1, s1, R1, e1, q1, p1⟩ => ?_
  rcases res_cases (o := oo) (s := s1) with ⟨d0, w0⟩ | w0
  · have hd := (res_ok R1 q1 w0).2
    rw [mbind_ok w0] at p1
    cases d0 with
    | obj c1 ds =>
      obtain ⟨q, dx, vs, rfl, h1, h3⟩ := hd
      cases el : fldD g.names m (.obj c1 ds) with
      | none => rw [el] at p1; exact p1.elim
      | some d =>
        rw [el] at p1
        replace p1 : PostM g (T.tmp τ t) W (RvOk g (T.tmp τ t)) σ B1 (mbind (chk c (.d d)) (fun _ => mbind fa fun os => mbind (chk c (.d d)) fun _ => mcall f [] (mret (.d d :: os))) s1) Q := p1
        obtain ⟨mm, v, l, hv⟩ := lookup_dens h3 el
        rcases chk_cases (c := c) (o := .d d) (s := s1) with w | w
        · rw [mbind_ok w] at p1
          obtain ⟨p, dx0, us0, ev, hh0⟩ := chk_ok (v := v) R1 (show OpdOk g B1 σ (.d d) v from hv) w
          subst ev
          refine ⟨q, g.cn c1, dx, _, p, rfl, h1, by rw [hK]; exact (hF c1 mm).1, by rw [hK]; exact (hF c1 mm).2, l, ?_⟩
          exact (PostM.bind (P := PAs g) R1 p1).mono fun vs H2 ⟨os, B2, s2, R2, e2, q2, p2⟩ => by
            rcases chk_cases (c := c) (o := .d d) (s := s2) with w | w
            · rw [mbind_ok w] at p2
              obtain ⟨ad2, dx, us, ev, hh⟩ := chk_ok (v := .ref p) R2 (show OpdOk g B2 σ (.d d) (.ref p) from hv.mono e2) w
              cases ev
              exact ⟨⟨dx, _, hh⟩, call_tail (W := W) R2 (PAs.cons (o := .d d) (hv.mono e2) q2) p2⟩
            · exfalso
              have z : mbind (chk c (.d d)) (fun _ => mcall f [] (mret (.d d :: os))) s2 = .bad := by unfold mbind; rw [w]
              rw [z] at p2; exact p2
        · exfalso
          have z : mbind (chk c (.d d)) (fun _ => mbind fa fun os => mbind (chk c (.d d)) fun _ => mcall f [] (mret (.d d :: os))) s1 = .bad := by unfold mbind; rw [w]
          rw [z] at p1; exact p1
    | _ => exact p1.elim
  · exfalso
    have z : mbind (res oo) (fun d0 => mbind (mopt (fldD g.names m d0)) fun d => mbind (chk c (.d d)) fun _ => mbind fa fun os => mbind (chk c (.d d)) fun _ => mcall f [] (mret (.d d :: os))) s1 = .bad := by unfold mbind; rw [w0]
    rw [z] at p1; exact p1
theorem jr_calA {c k j : Nat} {ps : List Str} {f : Fd} {m : Str} {apos : Pos} {pl : Sem Bool} {fo : M Opd} {fa : M (List Opd)} (co : Co X.prog X.w g X.base k c ps f) (hr : Room j X.A) (hk : k ≤ j) (hK : X.K = g.K) (hmg : X.mg = g.mg) (hF : FldF g m) (tk : Takes X W) (ho : JO X g T W o fo) (ha : JA X g T W (e :: es) fa)
    (he : starEach (e :: es) X.env = (false, eval e X.env) :: starEach es X.env := by rfl) (hpl : (backTo pos (starEach es X.env)).any (·.1) = false := by rfl)
    (ht : eval (.Call (.Attribute o m apos) (e :: es) [] pos) X.env = (do
      let ov ← eval o X.env
      standAt apos.atName
      let (f, first) ← holding [ov] (getMethod ov m pl)
      callWith pos f first (backTo pos (starEach (e :: es) X.env)) (backToKw pos (keywordEach [] X.env))) := by rfl) :
    JR X g T W (.Call (.Attribute o m apos) (e :: es) [] pos) (mcalO c f (mbind (mfld g.names m fo) fun d => mret (.d d)) fa) := by
  obtain ⟨ad, fd, F, C0, b, _⟩ := co
  rw [← hK, ← hmg] at F
  rw [← hK] at C0 b
  exact fun τ t => PE.imp (pe_calA (E := WE W) (ho τ t) C0 F (hr.mono hk) b (fun σ => passAt tk σ) (ha τ t) he hpl ht) fun σ H Q h => calA_rd hK hF h
end TW

set_option Elab.async false
set_option linter.all false
set_option autoImplicit false
set_option maxRecDepth 100000
set_option maxHeartbeats 2000000
/-! an own error class called by keywords alone -/
namespace OEK
open PySem PySem.W PySem.Calls PyProof.Rows PySem.HandSPX
section
variable {prog : Program} {w : World} {A : Around} {E : Value → Shared → Prop} {R : Result → Shared → Prop} {hp : Heap} {gs : Array GenState} {dr : Drawn} {tk : Nat} {os : OsState}
variable {nm qn : Str} {C N : Addr} {bs bm bmB : List Value} {hd : Bool} {sn : List Str} {sub : List Value} {ab : Bool} {col : Option Bool} {dd : Option Addr} {k0 k1 k2 k3 k5 : Option Value} {B nI iI : String} {kw : List (Str × Value)}
theorem has_B (F : ExcBaseFacts B nI iI bmB) (hT : ∀ Y : String, bm.contains (.type Y) = bmB.contains (.type Y)) : (Value.ref C :: bm).contains (.type B) = true := by
  rw [List.contains_cons, hT, F.hasB]
  exact Bool.or_true _
theorem check_new_kw {M : Model} (F : ExcBaseFacts B nI iI bmB) (hT : ∀ Y : String, bm.contains (.type Y) = bmB.contains (.type Y)) {Q : Unit → Shared → Prop}
    (cC : hp.get? C = some (excClassObj nm qn C N bs bm hd sn sub ab col dd k0 k1 k2 k3 k5 nI)) (q : Q () ⟨hp, gs, dr, tk, os⟩) : wpAny M A (checkBuiltinCall nI ⟨[.ref C], kw⟩) Q E ⟨hp, gs, dr, tk, os⟩ := by
  have hB := has_B (C := C) F hT
  have st := F.noStar
  simp only [checkBuiltinCall, F.newKind, F.newSplit, F.newRow]
  repeat (first | refine wpAny_loadPart_at cC ?_ | (refine wpAny_isSubtype_exc cC ?_; rw [hB]) | refine wpAny_staticBase_exc cC ?_ | refine wpAny_madeBy_exc cC ?_ | simp only [bne_self_eq_false, Bool.false_eq_true, if_false] | wp_step)
  exact q
theorem new_kw (F : ExcBaseFacts B nI iI bmB) (hT : ∀ Y : String, bm.contains (.type Y) = bmB.contains (.type Y))
    (cC : hp.get? C = some (excClassObj nm qn C N bs bm hd sn sub ab col dd k0 k1 k2 k3 k5 nI))
    (q : R (.ok (.ret (.ref (hp.objs.size + 1)))) ⟨(hp.push (PySem.W.kdv_tup [])).push (excO C hp.objs.size), gs, dr, tk, os⟩) :
    codeAny (model prog w) A (.builtin nI ⟨[.ref C], kw⟩) R ⟨hp, gs, dr, tk, os⟩ := by
  have ends := F.ends
  have hB := has_B (C := C) F hT
  have hA : (Value.ref C :: bm).contains (.type "AttributeError") = false := by
    rw [List.contains_cons, hT, F.noAttr]
    rfl
  have hN : (Value.ref C :: bm).contains (.type "NameError") = false := by
    rw [List.contains_cons, hT, F.noName]
    rfl
  refine codeAny_builtinAt F.entry ?_
  unfold Builtin.«BaseException.__new__»
  refine PySem.wpAt_bind ?_
  show PySem.wpAt _ _ _ (stack >>= _) _ _ _
  refine PySem.wpAt_bind (PySem.wpAt_stack fun p below => PySem.wpAt_of_wpAny ?_)
  wp_walk
  refine PySem.wpAt_of_wpAny ?_
  rw [F.owner]
  repeat (first | with_reducible refine wpAny_madeHere_exc F.canon cC ?_ | with_reducible refine wpAny_loadPart_at cC ?_ | (with_reducible refine wpAny_isSubtype_exc cC ?_; first | rw [hB] | rw [hA] | rw [hN]) | wp_step)
  show R _ _
  rw [Heap.size_push]
  exact q
theorem type_call_kw (F : ExcBaseFacts B nI iI bmB) (hT : ∀ Y : String, bm.contains (.type Y) = bmB.contains (.type Y)) {fI : Addr} {Q : Fin → Shared → Prop}
    (cC : hp.get? C = some (excClassObj nm qn C N bs bm hd sn sub ab col dd k0 k1 k2 k3 k5 nI))
    (hi : PySem.W.Looks (model prog w) hp (typeLookup (.ref C) "__init__") (some (.ref fI))) (hb : ∀ self, PySem.W.Looks (model prog w) hp (bindSpecial (.ref fI) self) (.ref fI, [self]))
    (q : codeAny (model prog w) A (.call (.ref fI) ⟨[.ref (hp.objs.size + 1)], kw⟩)
      (fun r z => match r with | .ok (.ret v) => v = .none ∧ Q (.done (.ret (.ref (hp.objs.size + 1)))) z | .ok _ => False | .error e => E e z)
      ⟨(hp.push (PySem.W.kdv_tup [])).push (excO C hp.objs.size), gs, dr, tk, os⟩) :
    wpAny (model prog w) A (Builtin.«type.__call__» ⟨[.ref C], kw⟩) Q E ⟨hp, gs, dr, tk, os⟩ := by
  repeat (first | with_reducible refine wpAny_loadPart_at cC ?_ | with_reducible refine wpAny_madeBy_exc cC ?_ | wp_step)
  refine codeAny_call_builtin_code (Code.quiet_builtin _ F.quiet) (check_new_kw F hT cC ?_)
  refine new_kw F hT cC ?_
  show wpAny _ _ _ _ _ _
  have up : ∀ b o, hp.get? b = some o → ((hp.push (PySem.W.kdv_tup [])).push (excO C hp.objs.size)).get? b = some o := fun b o e => Heap.get?_push_of_some _ (Heap.get?_push_of_some _ e)
  have cC' := up _ _ cC
  have at1 : ((hp.push (PySem.W.kdv_tup [])).push (excO C hp.objs.size)).get? (hp.objs.size + 1) = some (excO C hp.objs.size) := by heap_get
  have isC : (Value.ref C :: bm).contains (.ref C) = true := by simp
  have i1 := hi.keeps up
  have b1 := (hb (.ref (hp.objs.size + 1))).keeps up
  unfold isInstance
  repeat (first | with_reducible refine wpAny_loadPart_at at1 ?_ | (with_reducible refine wpAny_isSubtype_exc cC' ?_; rw [isC]) | wp_step)
  show wpAny _ _ (typeLookup (.ref C) _) _ _ _
  refine i1.at ?_
  refine wpAny_holding (wpAny_bind (b1.at ?_))
  refine wpAny_bind (wpAny_call (codeAny_mono q fun r z hz => ?_))
  rcases r with e | (v | _ | _ | _) <;> first | exact hz | exact hz.elim | skip
  obtain ⟨rfl, hz⟩ := hz
  first
    | exact wpAny_pure (wpAny_pure hz)
    | (wp_walk; exact hz)
theorem call_kw (F : ExcBaseFacts B nI iI bmB) (hT : ∀ Y : String, bm.contains (.type Y) = bmB.contains (.type Y)) {fI : Addr}
    (cC : hp.get? C = some (excClassObj nm qn C N bs bm hd sn sub ab col dd k0 k1 k2 k3 k5 nI))
    (hi : PySem.W.Looks (model prog w) hp (typeLookup (.ref C) "__init__") (some (.ref fI))) (hb : ∀ self, PySem.W.Looks (model prog w) hp (bindSpecial (.ref fI) self) (.ref fI, [self]))
    (q : codeAny (model prog w) (A.under (.builtin "type.__call__" ⟨[.ref C], kw⟩)) (.call (.ref fI) ⟨[.ref (hp.objs.size + 1)], kw⟩) (PySem.W.InitBack (hp.objs.size + 1) R)
      ⟨(hp.push (PySem.W.kdv_tup [])).push (excO C hp.objs.size), gs, dr, tk, os⟩) :
    codeAny (model prog w) A (.call (.ref C) ⟨[], kw⟩) R ⟨hp, gs, dr, tk, os⟩ := by
  have f1 := tc_lookup
  have f2 := tc_bind (.ref C)
  have ty : (⟨hp, gs, dr, tk, os⟩ : Shared).TypeIs (.ref C) "type" := ⟨_, cC, rfl⟩
  refine codeAny_of_tree ?_
  show wpAny _ _ (callAny (.ref C) _) _ _ _
  repeat (any_goals (first | assumption | with_reducible refine wpAny_loadPart_at cC ?_ | wp_step))
  refine ⟨rfl, ?_⟩
  refine codeAny_call_builtin_at (Code.quiet_builtin _ (by decide +kernel)) entry_typeCall (wpAny_check_type_call_sub cC (type_call_kw F hT cC hi hb ?_))
  refine codeAny_mono q fun r z hz => ?_
  rcases r with e | (v | _ | _ | _) <;> exact hz
end
end OEK

set_option Elab.async false
set_option linter.all false
set_option autoImplicit false
set_option maxRecDepth 100000
set_option maxHeartbeats 2000000
/-! an own error as a value: C(e, ..), C(k = e, ..) -/
namespace TW
open PySem PySem.Spec PyProof.Rows L2
section
variable {X : Cx} {x : Str} {C fI : Addr} {k : Nat} {fd : FuncData} {ps : List Str} {sp : Sp} {ta : TA} {e : Expr} {es : List Expr} {p pos : Pos} {kws : List Keyword}
def tMkV (C : Addr) (sp : Sp) (ta : TA) : TE := fun σ H Q => ta σ H fun vs H1 => vs.length ≤ 1000 ∧ ∀ a, H1 a = none → sp (.ref a :: vs) (upd H1 a (exo a C none)) (fun v H2 => v = .non ∧ Q (.ref a) H2) (fun _ _ _ => False)
theorem push2 {hp : Heap} {o o' : Obj} : ∀ b u, hp.get? b = some u → ((hp.push o).push o').get? b = some u := fun b u q => Heap.get?_push_of_some _ (Heap.get?_push_of_some _ q)
theorem pe_oexV (T : OexC X.K C) (iC : PySem.W.findIn X.K (.ref C) "__init__" = some (some (.ref fI))) (tI : PySem.W.typeIn X.K (.ref fI) = some (.type "function"))
    (F1 : FnOk X.prog X.w X.K X.mg X.base CX0 k fI fd ps sp) (hb : Binds X.K fd ps []) (hr : Room (k + 1) X.A) (hg : Gl X x) (hm : X.mg x = some (.ref C)) (ha : PA X (e :: es) ta)
    (hdb : (x == ("__debug__" : Str)) = false := by decide) (he : starEach (e :: es) X.env = (false, eval e X.env) :: starEach es X.env := by rfl) (hpl : (backTo pos (starEach es X.env)).any (·.1) = false := by rfl) :
    PE X (.Call (.Name x p) (e :: es) [] pos) (tMkV C sp ta) := by
  refine ⟨fun pins s σ H Q I h => ?_⟩
  obtain ⟨nm, q, N, bs, bm, sn, sub, ab, col, dd, k0, k1, k2, k3, k5, cC, hbm⟩ := T.cls
  refine wpAny_Call_Name_kw (ld_glob I hg hm ?_ hdb)
  refine PySem.W.callWith_K (h₀ := X.base) I.ok.mod.kin T.kC (thn (ha.run pos pins s σ H _ I h) fun us s1 ⟨vs, H1, I1, r1, hz, q1⟩ => ⟨I1.kIn, ?_⟩) he hpl
  show wpAny _ _ (call (.ref C) us) _ _ _
  obtain ⟨hp, g, dr, tk, os⟩ := s1
  have up1 : hp.objs.size ≤ hp.objs.size + 1 := Nat.le_succ _
  have hq := q1 (hp.objs.size + 1) (I1.hok.fresh up1)
  have at1 : ((hp.push (PySem.W.kdv_tup us)).push (PySem.HandSPX.excO C hp.objs.size)).get? (hp.objs.size + 1) = some (PySem.HandSPX.excO C hp.objs.size) := by heap_get
  have I2 : Inv X pins σ (upd H1 (hp.objs.size + 1) (exo (hp.objs.size + 1) C none)) ⟨(hp.push (PySem.W.kdv_tup us)).push (PySem.HandSPX.excO C hp.objs.size), g, dr, tk, os⟩ := I1.laid (t' := tk) push2 up1 (exo_ok at1)
  have r2 : Vals (V.ref (hp.objs.size + 1) :: vs) (Value.ref (hp.objs.size + 1) :: us) := .cons rfl r1
  have hl : (Value.ref (hp.objs.size + 1) :: us).length = ps.length := by
    rw [← r2.length]
    exact F1.len _ _ _ _ hq
  have few : us.length ≤ sizeLine := by
    rw [← Paired.length r1, sizeLine_eq]
    omega
  refine wpAny_call (PySem.HandSPX.call_own F.excBase_ValueError (fun Y => PySem.HandSPX.refsVE_contains Y bm hbm) (I1.kIn _ _ cC) (PySem.W.looks_findIn I1.kIn iC) (fun self => PySem.W.bind_fn I1.kIn self tI) few
    (codeAny_mono (F1.run _ X.stack _ _ ⟨Value.ref (hp.objs.size + 1) :: us, []⟩ (Value.ref (hp.objs.size + 1) :: us) _ _ (fun _ _ _ => False) (hr.make C us []) (I2.env0.make C us []) (by
      have z := hb _ (Value.ref (hp.objs.size + 1) :: us) I2.kIn (by simpa using hl)
      simpa using z) r2 hq) fun r z hz' => ?_))
  cases r with
  | error er => exact pass0 pins σ _ _ er z I2 hz'
  | ok fl =>
    cases fl with
    | ret u =>
      obtain ⟨v, H2, I3, rv, ev, q3⟩ := I2.after hz'
      subst ev
      exact ⟨rv, V.ref (hp.objs.size + 1), H2, I3, rfl, q3⟩
    | next => exact False.elim hz'
    | brk => exact False.elim hz'
    | cont => exact False.elim hz'
theorem run_oexK {ks : List Str} {pins : List (Addr × Obj)} {σ : L2.St} {H : Hp} {s : Shared} {Q : VK} {ws ws' : List Value} {zs : List V} (T : OexC X.K C) (iC : PySem.W.findIn X.K (.ref C) "__init__" = some (some (.ref fI))) (tI : PySem.W.typeIn X.K (.ref fI) = some (.type "function"))
    (F1 : FnOk X.prog X.w X.K X.mg X.base CX0 k fI fd ps sp) (hr : Room (k + 1) X.A) (hb : ∀ (u0 : Value) (s : Shared), BindsTo s fd ⟨[u0], ks.zip ws⟩ (ps.zip (u0 :: ws'))) (I : Inv X pins σ H s) (rz : Vals zs ws')
    (h : ∀ a, H a = none → sp (.ref a :: zs) (upd H a (exo a C none)) (fun v H2 => v = .non ∧ Q (.ref a) H2) (fun _ _ _ => False)) :
    wpAny (model X.prog X.w) X.A (call (.ref C) [] (ks.zip ws)) (EP X pins σ Q) X.xe s := by
  obtain ⟨nm, q, N, bs, bm, sn, sub, ab, col, dd, k0, k1, k2, k3, k5, cC, hbm⟩ := T.cls
  obtain ⟨hp, g, dr, tk, os⟩ := s
  have up1 : hp.objs.size ≤ hp.objs.size + 1 := Nat.le_succ _
  have hq := h (hp.objs.size + 1) (I.hok.fresh up1)
  have at1 : ((hp.push (PySem.W.kdv_tup [])).push (PySem.HandSPX.excO C hp.objs.size)).get? (hp.objs.size + 1) = some (PySem.HandSPX.excO C hp.objs.size) := by heap_get
  have I2 : Inv X pins σ (upd H (hp.objs.size + 1) (exo (hp.objs.size + 1) C none)) ⟨(hp.push (PySem.W.kdv_tup [])).push (PySem.HandSPX.excO C hp.objs.size), g, dr, tk, os⟩ := I.laid (t' := tk) push2 up1 (exo_ok at1)
  have r2 : Vals (V.ref (hp.objs.size + 1) :: zs) (Value.ref (hp.objs.size + 1) :: ws') := .cons rfl rz
  refine wpAny_call (OEK.call_kw F.excBase_ValueError (fun Y => PySem.HandSPX.refsVE_contains Y bm hbm) (I.kIn _ _ cC) (PySem.W.looks_findIn I.kIn iC) (fun self => PySem.W.bind_fn I.kIn self tI)
    (codeAny_mono (F1.run _ X.stack _ _ ⟨[Value.ref (hp.objs.size + 1)], ks.zip ws⟩ (Value.ref (hp.objs.size + 1) :: ws') _ _ (fun _ _ _ => False) (hr.make C [] (ks.zip ws)) (I2.env0.make C [] (ks.zip ws)) (hb _ _) r2 hq) fun r z hz' => ?_))
  cases r with
  | error er => exact pass0 pins σ _ _ er z I2 hz'
  | ok fl =>
    cases fl with
    | ret u =>
      obtain ⟨v, H2, I3, rv, ev, q3⟩ := I2.after hz'
      subst ev
      exact ⟨rv, V.ref (hp.objs.size + 1), H2, I3, rfl, q3⟩
    | next => exact False.elim hz'
    | brk => exact False.elim hz'
    | cont => exact False.elim hz'
/-- all by keywords, in the parameters' order or in the turned one -/
theorem pe_oexK {τ : List Str → List Str} {τV : List V → List V} {τW : List Value → List Value} (T : OexC X.K C) (iC : PySem.W.findIn X.K (.ref C) "__init__" = some (some (.ref fI))) (tI : PySem.W.typeIn X.K (.ref fI) = some (.type "function"))
    (F1 : FnOk X.prog X.w X.K X.mg X.base CX0 k fI fd ps sp) (hr : Room (k + 1) X.A) (hg : Gl X x) (hm : X.mg x = some (.ref C)) (hτ : ∀ {zs : List V} {ws : List Value}, Vals zs ws → Vals (τV zs) (τW ws))
    (hb : ∀ (u0 : Value) (us : List Value), us.length + 1 = ps.length → ∀ s : Shared, BindsTo s fd ⟨[u0], (τ (ps.drop 1)).zip us⟩ (ps.zip (u0 :: τW us))) (hlen : ∀ ws : List Value, (τW ws).length = ws.length) (hkw : PK X kws ta)
    (hall : (backToKw pos (keywordEach kws X.env)).all (·.1.isSome) = true := by rfl) (hks : (backToKw pos (keywordEach kws X.env)).filterMap (·.1) = τ (ps.drop 1) := by rfl)
    (hdb : (x == ("__debug__" : Str)) = false := by decide) (hpl : ((backTo pos (starEach [] X.env)).any (·.1) || (backToKw pos (keywordEach kws X.env)).any (·.1.isNone)) = false := by rfl) :
    PE X (.Call (.Name x p) [] kws pos) (fun σ H Q => ta σ H fun vs H1 => ∀ a, H1 a = none → sp (.ref a :: τV vs) (upd H1 a (exo a C none)) (fun v H2 => v = .non ∧ Q (.ref a) H2) (fun _ _ _ => False)) := by
  refine ⟨fun pins s σ H Q I h => ?_⟩
  refine wpAny_Call_Name_kw (ld_glob I hg hm ?_ hdb)
  refine PySem.W.callWith_KW0 (h₀ := X.base) I.ok.mod.kin T.kC hall (thn (hkw.run pos pins s σ H _ I h) fun ws s2 ⟨zs, H2, I2, rz, q2⟩ => ⟨I2.kIn, ?_⟩) hpl
  rw [hks]
  refine run_oexK (ws' := τW ws) T iC tI F1 hr (fun u0 s => hb u0 ws ?_ s) I2 (hτ rz) q2
  have z := F1.len _ _ _ _ (q2 (s2.heap.objs.size + 1) (I2.hok.fresh (Nat.le_succ _)))
  rw [← z, List.length_cons, (hτ rz).length, hlen]
end
end TW

set_option Elab.async false
set_option linter.all false
set_option autoImplicit false
set_option maxRecDepth 100000
set_option maxHeartbeats 2000000
/-! errors as data: made, looked at -/
namespace TW
open PySem PySem.Spec PyProof.Rows L2
section
variable {X : Cx} {pins : List (Addr × Obj)} {σ : L2.St} {H : Hp} {s : Shared}
/-- where such an error stands -/
theorem exo_inst {a C : Addr} {x : Option Addr} (I : Inv X pins σ H s) (h : ErAt H a C x) : ∃ (ob : Obj) (od : Option Obj), PySem.W.InstAt s.heap a ob C od := by
  obtain ⟨h1, h2⟩ := h
  obtain ⟨t, ho⟩ := exo_at I.hok h1
  rcases h2 with rfl | ⟨dd, fs, rfl, h3⟩
  · exact ⟨_, none, ho, rfl, rfl, trivial⟩
  · obtain ⟨mA, hns, _⟩ := exd_at I.hok h3
    obtain ⟨oD, hD, _⟩ := lookIn_ns hns
    exact ⟨_, some oD, ho, rfl, rfl, hD⟩
theorem exo_fld {a dd C : Addr} {fs : List (Str × V)} (I : Inv X pins σ H s) (h1 : H a = some (exo a C (some dd))) (h2 : H dd = some (exd dd fs)) :
    ∃ (ob oD : Obj) (mA : Str → Option Value), PySem.W.InstAt s.heap a ob C (some oD) ∧ (∀ f, PySem.W.lookIn f oD = some (mA f)) ∧ ∀ f, RelO (fs.lookup f) (mA f) := by
  obtain ⟨t, ho⟩ := exo_at I.hok h1
  obtain ⟨mA, hns, hr⟩ := exd_at I.hok h2
  obtain ⟨oD, hD, hl⟩ := lookIn_ns hns
  exact ⟨_, oD, mA, ⟨ho, rfl, rfl, hD⟩, hl, hr⟩
/-- isinstance of it, by a class or by a tuple of classes -/
def rIsEr (K : PySem.W.Frag) : List V → Hp → VK → Prop := fun xs H Q => ∃ (a C : Addr) (x : Option Addr) (c : V) (u : Value) (b : Bool), xs = [.ref a, c] ∧ ErAt H a C x ∧ TX.ErC K C ∧ ClsV c u ∧ PySem.W.kitOne K (.ref C) u = some b ∧ Q (.bl b) H
theorem call_isEr : CallR X (.builtin "isinstance") (rIsEr X.K) := by
  intro pins s σ H xs us Q I r hh
  obtain ⟨a, C, x, c, u, b, rfl, h1, E, k, e, q⟩ := hh
  obtain ⟨w1, w2, rfl, r1, r2⟩ := vals2 r
  have e2 := k.eq r2
  subst e2
  obtain rfl : w1 = Value.ref a := r1
  obtain ⟨ob, od, J⟩ := exo_inst I h1
  obtain ⟨cd, hcl, _⟩ := PySem.W.any_some E.xf.hdC
  exact PySem.W.kia_one (PySem.W.kitx_exc (by rw [hcl]; rfl) E.xf.ga E.xf.gg E.xf.exC E.ha E.hn E.ht E.hm) I.kIn J e (fun z => nomatch z) fun tk => ⟨.bl b, H, I.tok tk, rfl, q⟩
def rIsErT (K : PySem.W.Frag) : List V → Hp → VK → Prop := fun xs H Q => ∃ (a C tp : Addr) (x : Option Addr) (cs : List V) (us : List Value) (b : Bool), xs = [.ref a, .ref tp] ∧ ErAt H a C x ∧ TX.ErC K C ∧ H tp = some (.tup cs) ∧ Paired ClsV cs us ∧ PySem.W.kitAny K (.ref C) us = some b ∧ Q (.bl b) H
theorem call_isErT : CallR X (.builtin "isinstance") (rIsErT X.K) := by
  intro pins s σ H xs us Q I r hh
  obtain ⟨a, C, tp, x, cs, ws, b, rfl, h1, E, hT, k, e, q⟩ := hh
  obtain ⟨w1, w2, rfl, r1, r2⟩ := vals2 r
  obtain rfl : w1 = Value.ref a := r1
  obtain rfl : w2 = Value.ref tp := r2
  obtain ⟨ob, od, J⟩ := exo_inst I h1
  obtain ⟨cd, hcl, _⟩ := PySem.W.any_some E.xf.hdC
  obtain ⟨_, its, rv, o, g1, g2, n, g3⟩ := (show ObjOk X.prog X.w H s.heap tp (.tup cs) from I.hok tp _ hT)
  have e3 := ClsV.all k rv
  subst e3
  obtain ⟨oc, odd, dt, sl⟩ := o
  simp only at g2 g3
  subst g2 g3
  exact PySem.W.kia_tup (PySem.W.kitx_exc (by rw [hcl]; rfl) E.xf.ga E.xf.gg E.xf.exC E.ha E.hn E.ht E.hm) I.kIn J g1 e (fun z => nomatch z) fun tk => ⟨.bl b, H, I.tok tk, rfl, q⟩
theorem pe_er {e : Expr} {te : TE} {pos : Pos} {f : Str} (he : PE X e te) (hb : attributeBase e f X.env (eval e X.env) = eval e X.env := by rfl) :
    PE X (.Attribute e f pos) (fun σ H Q => te σ H fun x H1 => ∃ (a C dd : Addr) (fs : List (Str × V)) (v : V), x = .ref a ∧ H1 a = some (exo a C (some dd)) ∧ H1 dd = some (exd dd fs) ∧ XfC X.K C ∧ PySem.W.findIn X.K (.ref C) f = some none ∧ fs.lookup f = some v ∧ Q v H1) := by
  refine ⟨fun pins s σ H Q I h => attr_of hb (thn (he.run pins s σ H _ I h) fun u s1 hh => ?_)⟩
  obtain ⟨x, H1, I1, rx, a, C, dd, fs, v, rfl, h1, h2, T, hno, l, q⟩ := hh
  obtain rfl : u = Value.ref a := rx
  obtain ⟨ob, oD, mA, J, hl, hr⟩ := exo_fld I1 h1 h2
  obtain ⟨w, hw, rw_⟩ := RelO.some_of (v := v) (o := mA f) (by rw [← l]; exact hr f)
  exact HandSPX.exc_get I1.kIn J T.ga T.gg T.exC (PySem.W.findObj_own T.hdC hno rfl (by rw [hl f, hw])) (handed_of rw_) ⟨v, H1, I1.tok _, rw_, q⟩
end
/-! ## made -/
/-- __init__ of an error: its fields -/
def spE (C : Addr) (fs : List Str) : Sp := fun vs H Q _ => ∃ (a : Addr) (us : List V), vs = .ref a :: us ∧ us.length = fs.length ∧ H a = some (exo a C none) ∧ ∀ dx, H dx = none → dx ≠ a → Q .non (upd (upd H dx (exd dx ((fs.zip us).reverse))) a (exo a C (some dx)))
theorem FnOk.imp {P : Program} {w : World} {K : PySem.W.Frag} {mg : Str → Option Value} {base : Heap} {CX : CXT} {k : Nat} {f : Addr} {fd : FuncData} {ps : List Str} {sp sp' : Sp} (F : FnOk P w K mg base CX k f fd ps sp) (h : ∀ vs H Q E, sp' vs H Q E → sp vs H Q E) : FnOk P w K mg base CX k f fd ps sp' :=
  ⟨fun vs H Q E q => F.len _ _ _ _ (h _ _ _ _ q), fun A up s H args us vs Q E hr e0 hb rv q => F.run A up s H args us vs Q E hr e0 hb rv (h _ _ _ _ q)⟩
theorem spE1 {C : Addr} {f : Str} : ∀ vs H Q E, spE C [f] vs H Q E → spI1 C f vs H Q E := fun vs H Q E ⟨a, us, e, hl, ha, q⟩ => by
  match us, hl with
  | [u], _ => exact ⟨a, u, e, ha, fun dx n1 n2 => q dx n1 n2⟩
theorem spE2 {C : Addr} {f1 f2 : Str} : ∀ vs H Q E, spE C [f1, f2] vs H Q E → spI2 C f1 f2 vs H Q E := fun vs H Q E ⟨a, us, e, hl, ha, q⟩ => by
  match us, hl with
  | [u1, u2], _ =>
    refine ⟨a, u1, u2, e, ha, fun dx n1 n2 => ?_⟩
    have eh : upd (upd (upd H dx (exd dx [(f1, u1)])) a (exo a C (some dx))) dx (exd dx [(f2, u2), (f1, u1)]) = upd (upd H dx (exd dx [(f2, u2), (f1, u1)])) a (exo a C (some dx)) := by
      funext b
      by_cases hb : b = dx
      · subst hb; rw [upd_same, upd_ne n2, upd_same]
      · rw [upd_ne hb]
        by_cases hc : b = a
        · subst hc; rw [upd_same, upd_same]
        · rw [upd_ne hc, upd_ne hb, upd_ne hc, upd_ne hb]
    rw [eh]
    exact q dx n1 n2
theorem lookup_mem {f : Str} {v : V} : ∀ {l : List (Str × V)}, (l.map (·.1)).Nodup → (f, v) ∈ l → l.lookup f = some v
  | [], _, h => nomatch h
  | (k, x) :: r, nd, h => by
    rw [List.map_cons, List.nodup_cons] at nd
    rcases List.mem_cons.mp h with h | h
    · cases h; simp [List.lookup]
    · have ne : (f == k) = false := beq_eq_false_iff_ne.mpr fun z => nd.1 (by rw [← z]; exact List.mem_map.mpr ⟨_, h, rfl⟩)
      rw [List.lookup_cons, ne]
      exact lookup_mem nd.2 h
theorem lookup_zip {fs : List Str} {vs : List V} (nd : fs.Nodup) (hl : vs.length = fs.length) {j : Nat} {f : Str} {v : V} (h1 : fs[j]? = some f) (h2 : vs[j]? = some v) : ((fs.zip vs).reverse).lookup f = some v := by
  refine lookup_mem ?_ ?_
  · rw [List.map_reverse]
    have e : (fs.zip vs).map (·.1) = fs := by rw [List.map_fst_zip]; omega
    rw [e]
    exact (List.reverse_perm fs).symm.nodup nd
  · rw [List.mem_reverse]
    exact List.mem_of_getElem? (i := j) (by rw [List.getElem?_zip_eq_some]; exact ⟨h1, h2⟩)
variable {g : G} {T : Tx} {B B' H H' : Hp} {σ : L2.St} {s : S} {W : WX} {X : Cx} {e : Expr} {es : List Expr} {pos p : Pos} {kws : List Keyword} {fa : M (List Opd)}
/-- the class named x makes errors with these fields -/
structure ErM (P : Program) (w : World) (g : G) (base : Heap) (x : Str) (c : Nat) (ps : List Str) : Prop where
  ex : ∃ (fi : Addr) (fd : FuncData), OexC g.K (g.cn c) ∧ PySem.W.findIn g.K (.ref (g.cn c)) "__init__" = some (some (.ref fi)) ∧ PySem.W.typeIn g.K (.ref fi) = some (.type "function") ∧ g.mg x = some (.ref (g.cn c)) ∧
    FnOk P w g.K g.mg base CX0 1 fi fd ps (spE (g.cn c) (ps.drop 1)) ∧ Binds g.K fd ps [] ∧ g.names c = ps.drop 1 ∧ (ps.drop 1).Nodup ∧ ps.length ≤ 100 ∧
    (∀ (u0 : Value) (us : List Value), us.length + 1 = ps.length → ∀ s : Shared, BindsTo s fd ⟨[u0], (ps.drop 1).zip us⟩ (ps.zip (u0 :: us))) ∧
    ∀ (u0 : Value) (us : List Value), us.length + 1 = ps.length → ∀ s : Shared, BindsTo s fd ⟨[u0], (ps.drop 1).reverse.zip us⟩ (ps.zip (u0 :: us.reverse))
def merr (c n : Nat) (rv : Bool) (fa : M (List Opd)) : M D := mbind fa fun os => mbind (strongs os) fun ds => if ds.length = n then mret (.err c (if rv = true then ds.reverse else ds)) else mbad
theorem mbind_bad {α β : Type} {fa : M α} {k : α → M β} {s : S} (h : fa s = .bad) : mbind fa k s = .bad := by unfold mbind; rw [h]
theorem err_new {c : Nat} {fs : List Str} {vs : List V} {ds : List D} {a dx : Addr} (R : Rel g T B H σ s) (hn : g.names c = fs) (nd : fs.Nodup) (hd : Dens g B ds vs) (hl : vs.length = fs.length) (na : H a = none) (ndx : H dx = none) (ne : dx ≠ a) :
    ∃ B', Rel g T B' (upd (upd H dx (exd dx ((fs.zip vs).reverse))) a (exo a (g.cn c) (some dx))) σ s ∧ Ex B B' ∧ Den g B' (.err c ds) (.ref a) := by
  have nb : B dx = none := Evl.fresh_back R.bh ndx
  have nba : B a = none := Evl.fresh_back R.bh na
  have R1 := R.new (o := exd dx ((fs.zip vs).reverse)) ndx
  have na1 : (upd H dx (exd dx ((fs.zip vs).reverse))) a = none := by rw [upd_ne ne.symm]; exact na
  have R2 := R1.new (o := exo a (g.cn c) (some dx)) na1
  have e1 : Ex B (upd B dx (exd dx ((fs.zip vs).reverse))) := Evl.Ex.new nb
  have e2 : Ex (upd B dx (exd dx ((fs.zip vs).reverse))) (upd (upd B dx (exd dx ((fs.zip vs).reverse))) a (exo a (g.cn c) (some dx))) := Evl.Ex.new (by rw [upd_ne ne.symm]; exact nba)
  refine ⟨_, R2, e1.trans e2, a, some dx, rfl, upd_same, .inr ⟨dx, _, vs, rfl, by rw [upd_ne ne, upd_same], hd.mono (e1.trans e2), fun j f v hf hv => ?_⟩⟩
  rw [hn] at hf
  exact lookup_zip nd hl hf hv
theorem upd3 {H : Hp} {a dx : Addr} {o o' u : HO} (ne : dx ≠ a) : upd (upd (upd H a o) dx u) a o' = upd (upd H dx u) a o' := by
  funext b
  by_cases hc : b = a
  · subst hc; rw [upd_same, upd_same]
  · rw [upd_ne hc, upd_ne hc]
    by_cases hb : b = dx
    · subst hb; rw [upd_same, upd_same]
    · rw [upd_ne hb, upd_ne hb, upd_ne hc]
/-- behind the arguments -/
theorem err_rd {x : Str} {c : Nat} {ps : List Str} {rv : Bool} {τ : L2.St} {t : S} {Q : VK} (hn : g.names c = ps.drop 1) (nd : (ps.drop 1).Nodup) (h : RdM g (T.tmp τ t) W (PD g) (merr c (ps.drop 1).length rv fa) σ H Q) :
    RdM g (T.tmp τ t) W (PAs g) fa σ H fun vs H1 => vs.length = (ps.drop 1).length ∧ ∀ a, H1 a = none → spE (g.cn c) (ps.drop 1) (.ref a :: (if rv = true then vs.reverse else vs)) (upd H1 a (exo a (g.cn c) none)) (fun v H2 => v = .non ∧ Q (.ref a) H2) (fun _ _ _ => False) := by
  obtain ⟨B, s, R, p⟩ := h
  refine (PostM.bind (P := PAs g) R p).mono fun vs H1 ⟨os, B1, s1, R1, e1, q1, p1⟩ => ?_
  rcases strongs_ex (os := os) (s := s1) with ⟨ds, w⟩ | w
  · rw [mbind_ok w] at p1
    obtain ⟨_, hd⟩ := strongs_ok R1 q1 w
    by_cases hl : ds.length = (ps.drop 1).length
    · rw [if_pos hl] at p1
      have hv : vs.length = (ps.drop 1).length := by rw [hd.length]; exact hl
      refine ⟨hv, fun a na => ⟨a, _, rfl, by split <;> simp [hv], upd_same, fun dx ndx ne => ⟨rfl, ?_⟩⟩⟩
      rw [upd_ne ne] at ndx
      rw [upd3 ne]
      have hd2 : Dens g B1 (if rv = true then ds.reverse else ds) (if rv = true then vs.reverse else vs) := by
        split
        · exact hd.reverse
        · exact hd
      obtain ⟨B2, R2, e2, k2⟩ := err_new R1 hn nd hd2 (by split <;> simp [hv]) na ndx ne
      exact p1 _ B2 _ R2 e2 k2
    · rw [if_neg hl] at p1; exact p1.elim
  · rw [mbind_bad w] at p1; exact p1.elim
theorem je_err {x : Str} {c j : Nat} {ps : List Str} (E : ErM X.prog X.w g X.base x c ps) (hr : Room j X.A) (ha : JA X g T W (e :: es) fa) (hj : 2 ≤ j := by decide) (hK : X.K = g.K := by rfl) (hmg : X.mg = g.mg := by rfl) (hg : Gl X x := by rfl)
    (hdb : (x == ("__debug__" : Str)) = false := by decide) (he : starEach (e :: es) X.env = (false, eval e X.env) :: starEach es X.env := by rfl) (hpl : (backTo pos (starEach es X.env)).any (·.1) = false := by rfl) :
    JE X g T W (.Call (.Name x p) (e :: es) [] pos) (merr c (ps.drop 1).length false fa) := by
  obtain ⟨fi, fd, T', i1, i2, m, F, b, hn, nd, few, _⟩ := E
  rw [← hK, ← hmg] at F
  rw [← hmg] at m
  rw [← hK] at T' i1 i2 b
  refine fun τ t => PE.imp (pe_oexV T' i1 i2 F b (hr.mono hj) hg m (ha τ t) hdb he hpl) fun σ H Q h => ?_
  refine (err_rd (x := x) hn nd h).mono fun vs H1 ⟨h1, h2⟩ => ⟨?_, fun a na => ?_⟩
  · rw [h1, List.length_drop]; omega
  · simpa using h2 a na
theorem je_errK {x : Str} {c j : Nat} {ps : List Str} (E : ErM X.prog X.w g X.base x c ps) (hr : Room j X.A) (ha : JK X g T W kws fa) (hj : 2 ≤ j := by decide) (hK : X.K = g.K := by rfl) (hmg : X.mg = g.mg := by rfl) (hg : Gl X x := by rfl)
    (hall : (backToKw pos (keywordEach kws X.env)).all (·.1.isSome) = true := by rfl) (hks : (backToKw pos (keywordEach kws X.env)).filterMap (·.1) = ps.drop 1 := by rfl)
    (hdb : (x == ("__debug__" : Str)) = false := by decide) (hpl : ((backTo pos (starEach [] X.env)).any (·.1) || (backToKw pos (keywordEach kws X.env)).any (·.1.isNone)) = false := by rfl) :
    JE X g T W (.Call (.Name x p) [] kws pos) (merr c (ps.drop 1).length false fa) := by
  obtain ⟨fi, fd, T', i1, i2, m, F, b, hn, nd, few, bk, _⟩ := E
  rw [← hK, ← hmg] at F
  rw [← hmg] at m
  rw [← hK] at T' i1 i2 b
  refine fun τ t => PE.imp (pe_oexK (τ := id) (τV := id) (τW := id) T' i1 i2 F (hr.mono hj) hg m (fun z => z) bk (fun _ => rfl) (ha τ t) hall hks hdb hpl) fun σ H Q h => ?_
  refine (err_rd (x := x) hn nd h).mono fun vs H1 ⟨h1, h2⟩ a na => ?_
  simpa using h2 a na
theorem Vals.rev {zs : List V} {ws : List Value} (h : Vals zs ws) : Vals zs.reverse ws.reverse := by
  induction h with
  | nil => exact .nil
  | cons a _ ih => rw [List.reverse_cons, List.reverse_cons]; exact ih.append (.cons a .nil)
theorem je_errKR {x : Str} {c j : Nat} {ps : List Str} (E : ErM X.prog X.w g X.base x c ps) (hr : Room j X.A) (ha : JK X g T W kws fa) (hj : 2 ≤ j := by decide) (hK : X.K = g.K := by rfl) (hmg : X.mg = g.mg := by rfl) (hg : Gl X x := by rfl)
    (hall : (backToKw pos (keywordEach kws X.env)).all (·.1.isSome) = true := by rfl) (hks : (backToKw pos (keywordEach kws X.env)).filterMap (·.1) = (ps.drop 1).reverse := by rfl)
    (hdb : (x == ("__debug__" : Str)) = false := by decide) (hpl : ((backTo pos (starEach [] X.env)).any (·.1) || (backToKw pos (keywordEach kws X.env)).any (·.1.isNone)) = false := by rfl) :
    JE X g T W (.Call (.Name x p) [] kws pos) (merr c (ps.drop 1).length true fa) := by
  obtain ⟨fi, fd, T', i1, i2, m, F, b, hn, nd, few, bk, br⟩ := E
  rw [← hK, ← hmg] at F
  rw [← hmg] at m
  rw [← hK] at T' i1 i2 b
  refine fun τ t => PE.imp (pe_oexK (τ := List.reverse) (τV := List.reverse) (τW := List.reverse) T' i1 i2 F (hr.mono hj) hg m (fun z => Vals.rev z) br (fun _ => List.length_reverse) (ha τ t) hall hks hdb hpl) fun σ H Q h => ?_
  refine (err_rd (x := x) hn nd h).mono fun vs H1 ⟨h1, h2⟩ a na => ?_
  simpa using h2 a na
end TW

set_option Elab.async false
set_option linter.all false
set_option autoImplicit false
set_option maxRecDepth 100000
set_option maxHeartbeats 2000000
/-! errors as data: an error without fields, attributes, isinstance -/
namespace TW
open PySem PySem.Spec PyProof.Rows L2
variable {g : G} {T : Tx} {B B' H H' : Hp} {σ : L2.St} {s : S} {W : WX} {X : Cx} {e a b c : Expr} {es : List Expr} {pos p : Pos} {fa : M D} {fo : M Opd}
/-- the bases of an error -/
abbrev bmVE : List Value := [.type "ValueError", .type "Exception", .type "BaseException", .type "object"]
theorem pe_exc0 {C : Addr} {x : Str} (q : PySem.W.excIn X.K C bmVE "ValueError.__new__" = true) (kC : PySem.W.keepIn X.K (.ref C) = true) (gC : X.mg x = some (.ref C)) (hg : Gl X x) (hdb : (x == ("__debug__" : Str)) = false := by decide) :
    PE X (.Call (.Name x p) [] [] pos) (fun σ H Q => ∀ a, H a = none → Q (.ref a) (upd H a (exo a C none))) := by
  refine ⟨fun pins s σ H Q I h => ?_⟩
  refine wpAny_Call_Name_kw (ld_glob I hg gC ?_ hdb)
  refine PySem.W.callWith_KW0 (h₀ := X.base) (kws := []) I.ok.mod.kin kC rfl (wpAny_pure ⟨I.kIn, ?_⟩) (by rfl)
  show wpAny _ _ (call (.ref C) []) _ _ _
  obtain ⟨bm, N, nm, qn, bs, hdct, sn, sub, ab, col, dd, k0, k1, k2, k3, k5, mN, hC, hN, hni, Tl⟩ := exc_obj I.kIn q
  refine wpAny_call_exc_subT F.excBase_ValueError Tl hC hN hni (fun h' a hm => ?_) (Nat.zero_le _)
  have hn : H a = none := I.hok.gone hm.new
  obtain ⟨t, ht, _, _⟩ := hm.there
  exact ⟨.ref a, upd H a (exo a C none), I.laidN hm.keeps hm.new hn (exo_ok ht), rfl, h a hn⟩
structure Er0 (g : G) (x : Str) (c : Nat) : Prop where
  q : PySem.W.excIn g.K (g.cn c) bmVE "ValueError.__new__" = true
  k : PySem.W.keepIn g.K (.ref (g.cn c)) = true
  m : g.mg x = some (.ref (g.cn c))
theorem je_err0 {x : Str} {c : Nat} (E : Er0 g x c) (hK : X.K = g.K := by rfl) (hmg : X.mg = g.mg := by rfl) (hg : Gl X x := by rfl) (hdb : (x == ("__debug__" : Str)) = false := by decide) : JE X g T W (.Call (.Name x p) [] [] pos) (mret (.err c [])) := by
  obtain ⟨q, k, m⟩ := E
  rw [← hK] at q k
  rw [← hmg] at m
  exact fun τ t => PE.imp (pe_exc0 q k m hg hdb) fun σ H Q ⟨B, s, R, p⟩ a na => by
    have nb : B a = none := Evl.fresh_back R.bh na
    exact p (.ref a) _ _ (R.new (o := exo a (g.cn c) none) na) (Evl.Ex.new nb) ⟨a, none, rfl, upd_same, .inl ⟨rfl, rfl⟩⟩
/-! ## fields -/
def erF (nm : Nat → List Str) (f : Str) : D → M D
  | .err c ds => (match (nm c).findIdx? (· == f) with
    | some j => mopt ds[j]?
    | none => mbad)
  | _ => mbad
def mef (nm : Nat → List Str) (f : Str) (fa : M D) : M D := mbind fa (erF nm f)
theorem je_ef {nm : Nat → List Str} {f : Str} (hn : g.names = nm) (hF : ∀ c, f ∈ nm c → XfC g.K (g.cn c) ∧ PySem.W.findIn g.K (.ref (g.cn c)) f = some none) (he : JE X g T W e fa) (hK : X.K = g.K := by rfl) (hb : attributeBase e f X.env (eval e X.env) = eval e X.env := by rfl) :
    JE X g T W (.Attribute e f pos) (mef nm f fa) := fun τ t => PE.imp (pe_er (he τ t) hb) fun σ H Q ⟨B, s, R, p⟩ =>
  (PostM.bind (P := PD g) R p).mono fun v H1 ⟨d, B1, s1, R1, e1, q, p1⟩ => by
    cases d with
    | err c ds =>
      obtain ⟨a, x, rfl, h1, h2⟩ := q
      replace p1 : PostM g (T.tmp τ t) W (PD g) σ B1 ((match (nm c).findIdx? (· == f) with | some j => (mopt ds[j]? : M D) | none => mbad) s1) Q := p1
      cases ej : (nm c).findIdx? (· == f) with
      | none => rw [ej] at p1; exact p1.elim
      | some j =>
        rw [ej] at p1
        dsimp only at p1
        cases ed : ds[j]? with
        | none => rw [ed] at p1; exact p1.elim
        | some d0 =>
          rw [ed] at p1
          rcases h2 with ⟨rfl, _⟩ | ⟨dx, fs, vs, rfl, h3, h4, h5⟩
          · simp at ed
          · obtain ⟨v0, ev, hd⟩ := h4.get ed
            have hj := List.findIdx?_eq_some_iff_getElem.mp ej
            obtain ⟨hlt, hf, _⟩ := hj
            have ef : (nm c)[j] = f := beq_iff_eq.mp hf
            have hm : f ∈ nm c := by rw [← ef]; exact List.getElem_mem hlt
            obtain ⟨xf, no⟩ := hF c hm
            refine ⟨a, g.cn c, dx, fs, v0, rfl, R1.bh _ _ h1, R1.bh _ _ h3, by rw [hK]; exact xf, by rw [hK]; exact no, h5 j f v0 ?_ ev, p1 v0 B1 H1 R1 (Evl.Ex.refl _) hd⟩
            rw [hn, List.getElem?_eq_getElem hlt, ef]
    | _ => exact p1.elim
/-! ## isinstance -/
def erI (f : Nat → Option Bool) : D → M D
  | .err c _ => mopt ((f c).map .bl)
  | _ => mbad
def misE (f : Nat → Option Bool) (fo : M Opd) : M D := mbind fo fun o => mbind (res o) (erI f)
theorem er_at {c : Nat} {ds : List D} {v : V} (eB : Ex B H) (h : Den g B (.err c ds) v) : ∃ a x, v = .ref a ∧ ErAt H a (g.cn c) x := by
  obtain ⟨a, x, rfl, h1, h2⟩ := h
  rcases h2 with ⟨_, rfl⟩ | ⟨dx, fs, vs, rfl, h3, _⟩
  · exact ⟨a, none, rfl, eB _ _ h1, .inl rfl⟩
  · exact ⟨a, some dx, rfl, eB _ _ h1, .inr ⟨dx, fs, rfl, eB _ _ h3⟩⟩
end TW

set_option Elab.async false
set_option linter.all false
set_option autoImplicit false
set_option maxRecDepth 100000
set_option maxHeartbeats 2000000
/-! a value against itself: ==, != -/
namespace TW
open PySem PySem.Spec PyProof.Rows L2
section
variable {prog : Program} {w : World} {A : Around} {E : Value → Shared → Prop} {s : Shared} {K : PySem.W.Frag} {x C : Addr} {ox : Obj} {od : Option Obj}
theorem eq_slot_bind (v : Value) : bindSpecial (.builtin "object.__eq__") v = pure (.builtin "object.__eq__", [v]) := by
  have h := (PySem.F.slot_enumerate_eq).bind
  first | exact h v | (simp only [h]) | exact congrFun h v
theorem self_eq_special {Q : Option Value → Shared → Prop} (X : K.In s.heap) (I : PySem.W.InstAt s.heap x ox C od) (c : EqC K C) (h : Q (some (.bool true)) s) : wpAny (model prog w) A (callSpecialIfBound? (.ref x) (Str.ofString "__eq__") [.ref x]) Q E s := by
  have chk : ∀ {A : Around} {Q' : Unit → Shared → Prop}, Q' () s → wpAny (model prog w) A (checkBuiltinCall "object.__eq__" ⟨[.ref x, .ref x], []⟩) Q' E s := fun {A} {Q'} hq => by
    simp only [checkBuiltinCall, F.cmpKind_eq, F.cmpSplit_eq]
    have L : PySem.W.Looks (model prog w) s.heap (isInstance (.ref x) (.type "object")) true := I.type.andThen (PySem.W.looks_subIn X c.ho)
    refine wpAny_bind (L.here ?_)
    repeat (first | exact hq | wp_step)
  have one : wpAny (model prog w) A (call (.builtin "object.__eq__") [.ref x, .ref x]) (fun v s' => Q (some v) s') E s :=
    wpAny_call (codeAny_call_builtin (PySem.F.slot_enumerate_eq).plain F.cmpEntry_eq (chk (objEq_entry_same h)))
  simp only [callSpecialIfBound?, bindSpecialIfBound?]
  refine wpAny_holding (wpAny_bind (wpAny_bind (wpAny_bind (I.type.here ((PySem.W.looks_findIn X c.he).here ?_)))))
  simp only [eq_slot_bind]
  refine wpAny_bind (wpAny_askSetting (wpAny_ite ?_))
  have fin : wpAny (model prog w) A (call (.builtin "object.__eq__") ([.ref x] ++ [.ref x]) >>= fun v => pure (some v)) Q E s :=
    wpAny_bind (wpAny_mono one (fun v s' hq => wpAny_pure hq) fun _ _ h' => h')
  split
  · exact wpAny_bind (wpAny_pure (wpAny_pure fin))
  · exact wpAny_tryCatch (wpAny_bind (wpAny_pure (wpAny_pure fin)))
theorem self_ne_code {Q : Fin → Shared → Prop} (hu : A.units < cLine) (X : K.In s.heap) (I : PySem.W.InstAt s.heap x ox C od) (c : EqC K C) (h : Q (.done (.ret (.bool false))) s) : wpAny (model prog w) A (Builtin.«object.__ne__» ⟨[.ref x, .ref x], []⟩) Q E s := by
  obtain ⟨hh, g, d, t, os⟩ := s
  unfold Builtin.«object.__ne__»
  repeat (first
    | with_reducible refine wpAny_cRoomFor hu ?_
    | (refine wpAny_bind (m := callSpecialIfBound? (.ref x) (Str.ofString "__eq__") [.ref x]) (self_eq_special X I c ?_))
    | exact h | exact wpAny_pure h
    | wp_step)
theorem self_eq_try {Q : Option Value → Shared → Prop} (X : K.In s.heap) (I : PySem.W.InstAt s.heap x ox C od) (c : EqC K C) (h : Q (some (.bool true)) s) : wpAny (model prog w) A (tryCompare (.ref x) "__eq__" (.ref x)) Q E s := by
  unfold tryCompare
  refine wpAny_bind (self_eq_special X I c ?_)
  first | exact wpAny_pure h | (repeat (first | exact h | exact wpAny_pure h | wp_step))
theorem self_ne_try {Q : Option Value → Shared → Prop} (hu : A.units + 1 < cLine) (X : K.In s.heap) (I : PySem.W.InstAt s.heap x ox C od) (c : EqC K C) (h : Q (some (.bool false)) s) : wpAny (model prog w) A (tryCompare (.ref x) "__ne__" (.ref x)) Q E s := by
  unfold tryCompare
  have chk : ∀ {A : Around} {Q' : Unit → Shared → Prop}, Q' () s → wpAny (model prog w) A (checkBuiltinCall "object.__ne__" ⟨[.ref x, .ref x], []⟩) Q' E s := fun {A} {Q'} hq => by
    simp only [checkBuiltinCall, F.cmpKind_ne, F.cmpSplit_ne]
    have L : PySem.W.Looks (model prog w) s.heap (isInstance (.ref x) (.type "object")) true := I.type.andThen (PySem.W.looks_subIn X c.ho)
    refine wpAny_bind (L.here ?_)
    repeat (first | exact hq | wp_step)
  have one : wpAny (model prog w) A (call (.builtin "object.__ne__") [.ref x, .ref x]) (fun v s' => v = .bool false ∧ s' = s) E s :=
    wpAny_call (codeAny_call_builtin (PySem.F.slot_enumerate_ne).plain F.cmpEntry_ne (chk (self_ne_code (A := A.in1) hu X I c (by first | exact ⟨rfl, rfl⟩ | exact ⟨_, rfl, rfl⟩))))
  have two : wpAny (model prog w) A (callSpecialIfBound? (.ref x) (Str.ofString "__ne__") [.ref x]) (fun r s' => r = some (.bool false) ∧ s' = s) E s := by
    simp only [callSpecialIfBound?, bindSpecialIfBound?]
    refine wpAny_holding (wpAny_bind (wpAny_bind (wpAny_bind (I.type.here ((PySem.W.looks_findIn X c.hn).here ?_)))))
    simp only [ne_slot_bind]
    refine wpAny_bind (wpAny_askSetting (wpAny_ite ?_))
    have fin : wpAny (model prog w) A (call (.builtin "object.__ne__") ([.ref x] ++ [.ref x]) >>= fun v => pure (some v)) (fun r s' => r = some (.bool false) ∧ s' = s) E s :=
      wpAny_bind (wpAny_mono one (fun v s' ⟨ev, es⟩ => wpAny_pure ⟨by rw [ev], es⟩) fun _ _ h' => h')
    split
    · exact wpAny_bind (wpAny_pure (wpAny_pure fin))
    · exact wpAny_tryCatch (wpAny_bind (wpAny_pure (wpAny_pure fin)))
  refine wpAny_bind (wpAny_mono two (fun r s' hr => ?_) fun _ _ y => y)
  obtain ⟨rfl, rfl⟩ := hr
  first | exact wpAny_pure h | (repeat (first | exact h | exact wpAny_pure h | wp_step))
theorem self_eq {Q : Value → Shared → Prop} (hu : A.units < cLine) (X : K.In s.heap) (I : PySem.W.InstAt s.heap x ox C od) (c : EqC K C) (h : Q (.bool true) s) : wpAny (model prog w) A (compareOp .Eq (.ref x) (.ref x)) Q E s := by
  unfold compareOp
  unfold richCompare
  simp only [oneThing_ref]
  refine wpAny_holding (wpAny_bind (wpAny_cRoomFor hu ?_))
  rw [cmpInfo_Eq]
  dsimp only
  refine wpAny_bind (I.type.here (wpAny_bind (I.type.here ?_)))
  rw [show (Value.ref C != Value.ref C) = false from by simp]
  simp only [Bool.false_eq_true, if_false]
  refine wpAny_bind (wpAny_pure ?_)
  simp only [Bool.false_eq_true, if_false]
  exact wpAny_bind (self_eq_try X I c (wpAny_pure h))
theorem self_ne {Q : Value → Shared → Prop} (hu : A.units + 1 < cLine) (X : K.In s.heap) (I : PySem.W.InstAt s.heap x ox C od) (c : EqC K C) (h : Q (.bool false) s) : wpAny (model prog w) A (compareOp .NotEq (.ref x) (.ref x)) Q E s := by
  unfold compareOp
  unfold richCompare
  simp only [oneThing_ref]
  refine wpAny_holding (wpAny_bind (wpAny_cRoomFor (Nat.lt_of_succ_lt hu) ?_))
  rw [cmpInfo_NotEq]
  dsimp only
  refine wpAny_bind (I.type.here (wpAny_bind (I.type.here ?_)))
  rw [show (Value.ref C != Value.ref C) = false from by simp]
  simp only [Bool.false_eq_true, if_false]
  refine wpAny_bind (wpAny_pure ?_)
  simp only [Bool.false_eq_true, if_false]
  exact wpAny_bind (self_ne_try hu X I c (wpAny_pure h))
end
theorem hits_self {K : Type} [DecidableEq K] {A : Around} {s : Shared} : ∀ (l kb : List (K × Value)), (∀ p ∈ l, valueAt kb p.1 = some p.2) → PySem.W.KeqHits A s kb l true
  | [], _, _ => .nil
  | (k, v) :: r, kb, h => by
    have q : PySem.W.KeqHits A s kb ((k, v) :: r) (true && true) := PySem.W.KeqHits.hit (h (k, v) List.mem_cons_self) (SeqAt.EqAt.same v) (hits_self r kb fun p hp => h p (List.mem_cons_of_mem _ hp))
    exact q
theorem valueAt_self {K : Type} [DecidableEq K] : ∀ (l : List (K × Value)), (l.map (·.1)).Nodup → ∀ p ∈ l, valueAt l p.1 = some p.2
  | [], _, p, h => nomatch h
  | (k, v) :: r, nd, p, h => by
    rw [List.map_cons, List.nodup_cons] at nd
    unfold valueAt
    rcases List.mem_cons.mp h with h | h
    · subst h; simp
    · have ne : ¬ k = p.1 := fun z => nd.1 (by rw [z]; exact List.mem_map.mpr ⟨p, h, rfl⟩)
      rw [List.find?_cons, decide_eq_false ne]
      exact valueAt_self r nd.2 p h
section
variable {X : Cx}
def rSlf (K : PySem.W.Frag) (b : Bool) : R2 := fun x y H Q => x = y ∧ Slf K H x ∧ Q (.bl b) H
theorem all_true (n : Nat) : ((List.range n).all fun _ => true) = true := List.all_eq_true.mpr fun _ _ => rfl
theorem op_slf_eq (hu : X.A.units + 64 < cLine) : OpR X (compareOp .Eq) (rSlf X.K true) := by
  intro pins s σ H x y v u Q I rx ry h
  obtain ⟨rfl, hs, q⟩ := h
  have fin : EP X pins σ Q (.bool true) s := ⟨.bl true, H, I, rfl, q⟩
  have u0 : X.A.units < cLine := by omega
  rcases hs with ⟨b, rfl⟩ | ⟨i, rfl⟩ | ⟨z, rfl⟩ | ⟨a, xs, rfl, ha⟩ | ⟨a, xs, rfl, ha⟩ | ⟨a, kvs, rfl, ha⟩ | ⟨a, C, dx, rfl, ha, c⟩
  · obtain rfl : v = Value.bool b := rx
    obtain rfl : u = Value.bool b := ry
    exact SeqAt.RcAt.bool_bool b b X.prog X.w X.xe _ (by simpa using fin)
  · obtain ⟨t, rfl⟩ := rx
    obtain ⟨t', rfl⟩ := ry
    exact SeqAt.RcAt.int_int i t i t' X.prog X.w X.xe _ (by simpa using fin)
  · obtain ⟨t, rfl⟩ := rx
    obtain ⟨t', rfl⟩ := ry
    exact SeqAt.RcAt.str_str z t z t' X.prog X.w X.xe _ (by simpa using fin)
  · obtain rfl : v = Value.ref a := rx
    obtain rfl : u = Value.ref a := ry
    obtain ⟨us, r1, p1, _⟩ := I.tuple ha
    exact SeqAt.RcAt.tuples (e := fun _ => true) p1 p1 u0 (fun j _ _ => SeqAt.EqAt.same _) X.prog X.w X.xe _ (by rw [all_true]; simpa using fin)
  · obtain rfl : v = Value.ref a := rx
    obtain rfl : u = Value.ref a := ry
    obtain ⟨us, r1, p1, _⟩ := I.list ha
    exact SeqAt.RcAt.lists (e := fun _ => true) p1.isList p1.isList rfl u0 (fun j _ _ => SeqAt.EqAt.same _) X.prog X.w X.xe _ (by rw [all_true]; exact fin)
  · obtain rfl : v = Value.ref a := rx
    obtain rfl : u = Value.ref a := ry
    obtain ⟨_, ya, va, ra, da⟩ := (show ObjOk X.prog X.w H s.heap a (.dK kvs) from I.hok a _ ha)
    have nd : (va.map (·.1)).Nodup := by obtain ⟨_, _, _, _, _, _, _, _, nd⟩ := da; exact nd
    exact PySem.W.keq_eq (knd := mixKind X.prog X.w) (r := true) ya ya da da u0 (fun _ => hits_self va va (valueAt_self va nd)) (by simpa using fin)
  · obtain rfl : v = Value.ref a := rx
    obtain rfl : u = Value.ref a := ry
    obtain ⟨ob, od, J⟩ := exo_inst I ha
    exact self_eq u0 I.kIn J c fin
theorem op_slf_ne (hu : X.A.units + 64 < cLine) : OpR X (compareOp .NotEq) (rSlf X.K false) := by
  intro pins s σ H x y v u Q I rx ry h
  obtain ⟨rfl, hs, q⟩ := h
  have fin : EP X pins σ Q (.bool false) s := ⟨.bl false, H, I, rfl, q⟩
  have u0 : X.A.units < cLine := by omega
  rcases hs with ⟨b, rfl⟩ | ⟨i, rfl⟩ | ⟨z, rfl⟩ | ⟨a, xs, rfl, ha⟩ | ⟨a, xs, rfl, ha⟩ | ⟨a, kvs, rfl, ha⟩ | ⟨a, C, dx, rfl, ha, c⟩
  · obtain rfl : v = Value.bool b := rx
    obtain rfl : u = Value.bool b := ry
    exact SeqAt.RcNeAt.bool_bool b b X.prog X.w X.xe _ (by simpa using fin)
  · obtain ⟨t, rfl⟩ := rx
    obtain ⟨t', rfl⟩ := ry
    exact SeqAt.RcNeAt.int_int i t i t' X.prog X.w X.xe _ (by simpa using fin)
  · obtain ⟨t, rfl⟩ := rx
    obtain ⟨t', rfl⟩ := ry
    exact SeqAt.RcNeAt.str_str z t z t' X.prog X.w X.xe _ (by simpa using fin)
  · obtain rfl : v = Value.ref a := rx
    obtain rfl : u = Value.ref a := ry
    obtain ⟨us, r1, p1, _⟩ := I.tuple ha
    exact SeqAt.RcNeAt.tuples (e := fun _ => true) p1 p1 u0 (fun j _ _ => SeqAt.EqAt.same _) X.prog X.w X.xe _ (by rw [all_true]; simpa using fin)
  · obtain rfl : v = Value.ref a := rx
    obtain rfl : u = Value.ref a := ry
    obtain ⟨us, r1, p1, _⟩ := I.list ha
    exact SeqAt.RcNeAt.lists (e := fun _ => true) p1.isList p1.isList rfl u0 (fun j _ _ => SeqAt.EqAt.same _) X.prog X.w X.xe _ (by rw [all_true]; simpa using fin)
  · obtain rfl : v = Value.ref a := rx
    obtain rfl : u = Value.ref a := ry
    obtain ⟨_, ya, va, ra, da⟩ := (show ObjOk X.prog X.w H s.heap a (.dK kvs) from I.hok a _ ha)
    have nd : (va.map (·.1)).Nodup := by obtain ⟨_, _, _, _, _, _, _, _, nd⟩ := da; exact nd
    exact PySem.W.keq_ne (knd := mixKind X.prog X.w) (r := true) ya ya da da u0 (fun _ => hits_self va va (valueAt_self va nd)) (by simpa using fin)
  · obtain rfl : v = Value.ref a := rx
    obtain rfl : u = Value.ref a := ry
    obtain ⟨ob, od, J⟩ := exo_inst I ha
    exact self_ne (by omega) I.kIn J c fin
end
end TW

set_option Elab.async false
set_option linter.all false
set_option autoImplicit false
set_option maxRecDepth 100000
set_option maxHeartbeats 2000000
/-! isinstance of errors; == and != of values that are not looked into; values taken for such -/
namespace TW
open PySem PySem.Spec PyProof.Rows L2
variable {g : G} {T : Tx} {B B' H H' : Hp} {σ : L2.St} {s : S} {W : WX} {X : Cx} {e a b c : Expr} {es : List Expr} {pos p : Pos} {fa : M D} {fo : M Opd}
theorem misE_rd {f : Nat → Option Bool} {τ : L2.St} {t : S} {Q : VK} (h : RdM g (T.tmp τ t) W (PD g) (misE f fo) σ H Q) :
    RdM g (T.tmp τ t) W (PO' g) fo σ H fun x H1 => ∃ a c dx b B1 s1, x = .ref a ∧ ErAt H1 a (g.cn c) dx ∧ f c = some b ∧ Rel g (T.tmp τ t) B1 H1 σ s1 ∧ PostM g (T.tmp τ t) W (PD g) σ B1 (.ok (.bl b) s1) Q := by
  obtain ⟨B, s, R, p⟩ := h
  refine (PostM.bind (P := PO' g) R p).mono fun x H1 ⟨o, B1, s1, R1, e1, q1, p1⟩ => ?_
  rcases res_cases (o := o) (s := s1) with ⟨d, w⟩ | w
  · rw [mbind_ok w] at p1
    cases d with
    | err c ds =>
      obtain ⟨a, dx, rfl, h1⟩ := er_at (B := B1) (ds := ds) R1.bh (res_ok R1 q1 w).2
      replace p1 : PostM g (T.tmp τ t) W (PD g) σ B1 ((mopt ((f c).map D.bl) : M D) s1) Q := p1
      cases eb : f c with
      | none => rw [eb] at p1; exact p1.elim
      | some b => rw [eb] at p1; exact ⟨a, c, dx, b, B1, s1, rfl, h1, eb, R1, p1⟩
    | _ => exact p1.elim
  · rw [mbind_bad w] at p1; exact p1.elim
theorem je_isE {f : Nat → Option Bool} {u : Value} {v : V} (hf : ∀ c b, f c = some b → TX.ErC g.K (g.cn c) ∧ PySem.W.kitOne g.K (.ref (g.cn c)) u = some b) (hv : ClsV v u) (hg : Gl X "isinstance") (hm : X.mg "isinstance" = none) (hc : PE X c (tC v)) (ho : JO X g T W e fo) (hK : X.K = g.K := by rfl)
    (hs : starEach (e :: [c]) X.env = (false, eval e X.env) :: starEach [c] X.env := by rfl) (hs2 : starEach [c] X.env = (false, eval c X.env) :: starEach [] X.env := by rfl) (hpl : (backTo pos (starEach [c] X.env)).any (·.1) = false := by rfl) :
    JE X g T W (.Call (.Name "isinstance" p) [e, c] [] pos) (misE f fo) :=
  fun τ t => PE.imp (pe_callB call_isEr hg hm rfl (pa_cons (ho τ t) (pa_cons hc pa_nil hs2) hs) (by decide) (by decide) hs hpl) fun σ H Q h => (misE_rd h).mono fun x H1 ⟨a, c, dx, b, B1, s1, ex, h1, h2, R1, p1⟩ => by
    subst ex
    obtain ⟨k1, k2⟩ := hf c b h2
    rw [← hK] at k1 k2
    exact ⟨a, g.cn c, dx, v, u, b, rfl, h1, k1, hv, k2, p1 (.bl b) B1 H1 R1 (Evl.Ex.refl _) rfl⟩
theorem je_isET {f : Nat → Option Bool} {us : List Value} {vs : List V} {cs : List Expr} {ta : TA} {kk : Nat} {tpos : Pos} (hf : ∀ c b, f c = some b → TX.ErC g.K (g.cn c) ∧ PySem.W.kitAny g.K (.ref (g.cn c)) us = some b) (hv : Paired ClsV vs us) (hl : vs.length ≤ sizeLine) (hg : Gl X "isinstance") (hm : X.mg "isinstance" = none)
    (hc : PA X cs ta) (hta : ∀ σ H (Q : List V → Hp → Prop), Q vs H → ta σ H Q) (ho : JO X g T W e fo) (hK : X.K = g.K := by rfl)
    (hs : starEach (e :: [.Tuple cs kk tpos]) X.env = (false, eval e X.env) :: starEach [.Tuple cs kk tpos] X.env := by rfl) (hs2 : starEach [.Tuple cs kk tpos] X.env = (false, eval (.Tuple cs kk tpos) X.env) :: starEach [] X.env := by rfl) (hpl : (backTo pos (starEach [.Tuple cs kk tpos] X.env)).any (·.1) = false := by rfl) :
    JE X g T W (.Call (.Name "isinstance" p) [e, .Tuple cs kk tpos] [] pos) (misE f fo) :=
  fun τ t => PE.imp (pe_callB call_isErT hg hm rfl (pa_cons (ho τ t) (pa_cons (pe_tup hc) pa_nil hs2) hs) (by decide) (by decide) hs hpl) fun σ H Q h => (misE_rd h).mono fun x H1 ⟨a, c, dx, b, B1, s1, ex, h1, h2, R1, p1⟩ => by
    subst ex
    obtain ⟨k1, k2⟩ := hf c b h2
    rw [← hK] at k1 k2
    refine hta _ _ _ ⟨hl, fun q hq => ?_⟩
    have R2 := R1.new (o := .tup vs) hq
    exact ⟨a, g.cn c, q, dx, vs, us, b, rfl, h1.mono (Evl.Ex.new hq), k1, upd_same, hv, k2, p1 (.bl b) _ _ R2 (Evl.Ex.new (Evl.fresh_back R1.bh hq)) rfl⟩
/-! ## == and != -/
def dEqO : D → D → Option D
  | .opq i, .opq j => if i = j then some (.bl true) else none
  | _, _ => none
def dNeO : D → D → Option D
  | .opq i, .opq j => if i = j then some (.bl false) else none
  | _, _ => none
theorem o_eqO (hK : X.K = g.K) (hu : X.A.units + 64 < cLine) : OpD X g (compareOp .Eq) dEqO := ⟨_, op_slf_eq hu, fun T B H σ s x y dx dy d Q R h1 h2 e q => by
  cases dx with
  | opq i =>
    cases dy with
    | opq j =>
      replace e : (if i = j then some (D.bl true) else none) = some d := e
      by_cases hij : i = j
      · rw [if_pos hij] at e; cases e; subst hij
        obtain ⟨k1, k2⟩ := h1
        obtain ⟨k3, _⟩ := h2
        rw [k1] at k3; cases k3
        exact ⟨rfl, by rw [hK]; exact k2.mono R.bh, q _ B H R (Evl.Ex.refl _) rfl⟩
      · rw [if_neg hij] at e; cases e
    | _ => cases e
  | _ => cases e⟩
theorem o_neO (hK : X.K = g.K) (hu : X.A.units + 64 < cLine) : OpD X g (compareOp .NotEq) dNeO := ⟨_, op_slf_ne hu, fun T B H σ s x y dx dy d Q R h1 h2 e q => by
  cases dx with
  | opq i =>
    cases dy with
    | opq j =>
      replace e : (if i = j then some (D.bl false) else none) = some d := e
      by_cases hij : i = j
      · rw [if_pos hij] at e; cases e; subst hij
        obtain ⟨k1, k2⟩ := h1
        obtain ⟨k3, _⟩ := h2
        rw [k1] at k3; cases k3
        exact ⟨rfl, by rw [hK]; exact k2.mono R.bh, q _ B H R (Evl.Ex.refl _) rfl⟩
      · rw [if_neg hij] at e; cases e
    | _ => cases e
  | _ => cases e⟩
/-- one item, the same in both -/
def SmI (u w : V) : Prop := u = w ∧ (flatB u = true ∨ ∃ a, u = .ref a)
theorem SmI.eqAt {A : Around} {s : Shared} {u w : V} {x y : Value} (h : SmI u w) (rx : RelV u x) (ry : RelV w y) : SeqAt.EqAt A s x y true := by
  obtain ⟨rfl, h | ⟨a, rfl⟩⟩ := h
  · exact eqAt_same rx ry h
  · obtain rfl : x = Value.ref a := rx
    obtain rfl : y = Value.ref a := ry
    exact SeqAt.EqAt.same _
theorem paired_at {A : Around} {s : Shared} {us ws : List V} (hp : Paired SmI us ws) : ∀ {xs ys : List Value}, Vals us xs → Vals ws ys → ∀ j (h1 : j < xs.length) (h2 : j < ys.length), SeqAt.EqAt A s xs[j] ys[j] true := by
  induction hp with
  | nil => intro xs ys r1 r2 j h1 h2; cases r1; exact absurd h1 (Nat.not_lt_zero j)
  | cons h _ k =>
    intro xs ys r1 r2 j h1 h2
    cases r1 with
    | cons a1 b1 =>
      cases r2 with
      | cons a2 b2 =>
        cases j with
        | zero => exact h.eqAt a1 a2
        | succ j => exact k b1 b2 j (Nat.lt_of_succ_lt_succ h1) (Nat.lt_of_succ_lt_succ h2)
/-- tuples of such -/
def SmT (K : PySem.W.Frag) (H : Hp) (x y : V) : Prop := ∃ ta tb us ws, x = .ref ta ∧ y = .ref tb ∧ SqT K H ta us ∧ SqT K H tb ws ∧ Paired SmI us ws
theorem SmT.eqAt {pins : List (Addr × Obj)} {sh : Shared} {A : Around} {x y : V} {v w : Value} (I : Inv X pins σ H sh) (hu : A.units < cLine) (h : SmT X.K H x y) (rx : RelV x v) (ry : RelV y w) : SeqAt.EqAt A sh v w true := by
  obtain ⟨ta, tb, us, ws, rfl, rfl, ha, hb, hp⟩ := h
  obtain rfl : v = Value.ref ta := rx
  obtain rfl : w = Value.ref tb := ry
  by_cases e : ta = tb
  · subst e; exact SeqAt.EqAt.same _
  · obtain ⟨xs, r1, p1, _⟩ := I.tuple ha
    obtain ⟨ys, r2, p2, _⟩ := I.tuple hb
    have hl : xs.length = ys.length := by rw [← r1.length, ← r2.length]; exact hp.length
    have z := SeqAt.RcAt.tuples (A := A) (e := fun _ => true) p1 p2 hu (fun j h1 h2 => by
      have k := paired_at (A := A.in1) (s := sh) hp r1 r2 j (by simpa using h1) (by simpa using h2)
      simpa using k)
    rw [all_true] at z
    refine SeqAt.EqAt.of_refs e ?_
    simpa [hl] using z
theorem pairedT_at {pins : List (Addr × Obj)} {sh : Shared} {A : Around} {us ws : List V} (I : Inv X pins σ H sh) (hu : A.units < cLine) (hp : Paired (SmT X.K H) us ws) : ∀ {xs ys : List Value}, Vals us xs → Vals ws ys → ∀ j (h1 : j < xs.length) (h2 : j < ys.length), SeqAt.EqAt A sh xs[j] ys[j] true := by
  induction hp with
  | nil => intro xs ys r1 r2 j h1 h2; cases r1; exact absurd h1 (Nat.not_lt_zero j)
  | cons h _ k =>
    intro xs ys r1 r2 j h1 h2
    cases r1 with
    | cons a1 b1 =>
      cases r2 with
      | cons a2 b2 =>
        cases j with
        | zero => exact h.eqAt I hu a1 a2
        | succ j => exact k b1 b2 j (Nat.lt_of_succ_lt_succ h1) (Nat.lt_of_succ_lt_succ h2)
def rNeLT (K : PySem.W.Frag) : R2 := fun x y H Q => ∃ a b xs ys, x = .ref a ∧ y = .ref b ∧ SqL K H a xs ∧ SqL K H b ys ∧ Paired (SmT K H) xs ys ∧ Q (.bl false) H
theorem op_neLT (hu : X.A.units + 64 < cLine) : OpR X (compareOp .NotEq) (rNeLT X.K) := by
  intro pins s σ H x y v u Q I rx ry h
  obtain ⟨a, b, xs, ys, rfl, rfl, ha, hb, hp, q⟩ := h
  obtain rfl : v = Value.ref a := rx
  obtain rfl : u = Value.ref b := ry
  obtain ⟨us, r1, p1, _⟩ := I.list ha
  obtain ⟨ws, r2, p2, _⟩ := I.list hb
  have fin : EP X pins σ Q (.bool false) s := ⟨.bl false, H, I, rfl, q⟩
  have hl : us.length = ws.length := by rw [← r1.length, ← r2.length]; exact hp.length
  have u1 : X.A.in1.units < cLine := by show X.A.units + 1 < cLine; omega
  exact SeqAt.RcNeAt.lists (e := fun _ => true) p1.isList p2.isList (by simpa using hl) (by omega) (fun j h1 h2 => by
    have k := pairedT_at (A := X.A.in1) I u1 hp r1 r2 j (by simpa using h1) (by simpa using h2)
    simpa using k) X.prog X.w X.xe _ (by rw [all_true]; simpa using fin)
def sameI : D → D → Bool
  | .opq i, .opq j => i == j
  | .str x, .str y => x == y
  | .non, .non => true
  | _, _ => false
def sameIs : List D → List D → Bool
  | [], [] => true
  | x :: xs, y :: ys => sameI x y && sameIs xs ys
  | _, _ => false
def sameT : D → D → Bool
  | .tup xs, .tup ys => sameIs xs ys
  | _, _ => false
def sameTs : List D → List D → Bool
  | [], [] => true
  | x :: xs, y :: ys => sameT x y && sameTs xs ys
  | _, _ => false
def dNeLT : D → D → Option D
  | .lst xs, .lst ys => if sameTs xs ys = true then some (.bl false) else none
  | _, _ => none
theorem slf_ok {K : PySem.W.Frag} {v : V} (h : Slf K B v) : flatB v = true ∨ ∃ a, v = .ref a := by
  rcases h with ⟨b, rfl⟩ | ⟨b, rfl⟩ | ⟨b, rfl⟩ | ⟨a, _, rfl, _⟩ | ⟨a, _, rfl, _⟩ | ⟨a, _, rfl, _⟩ | ⟨a, _, _, rfl, _⟩
  · exact .inl rfl
  · exact .inl rfl
  · exact .inl rfl
  · exact .inr ⟨a, rfl⟩
  · exact .inr ⟨a, rfl⟩
  · exact .inr ⟨a, rfl⟩
  · exact .inr ⟨a, rfl⟩
theorem sameI_ok {x y : D} {u w : V} (h : sameI x y = true) (h1 : Den g B x u) (h2 : Den g B y w) : SmI u w := by
  unfold sameI at h
  split at h
  · obtain ⟨k1, k2⟩ := h1
    obtain ⟨k3, _⟩ := h2
    have e := beq_iff_eq.mp h
    subst e
    rw [k1] at k3; cases k3
    exact ⟨rfl, slf_ok k2⟩
  · have e := beq_iff_eq.mp h
    subst e
    cases h1; cases h2
    exact ⟨rfl, .inl rfl⟩
  · cases h1; cases h2
    exact ⟨rfl, .inl rfl⟩
  · cases h
theorem sameIs_ok : ∀ {xs ys : List D} {us ws : List V}, sameIs xs ys = true → Dens g B xs us → Dens g B ys ws → Paired SmI us ws
  | [], [], us, ws, _, h1, h2 => by cases h1; cases h2; exact .nil
  | x :: xs, y :: ys, us, ws, h, ⟨u, r, e1, h1, h1'⟩, ⟨w, r', e2, h2, h2'⟩ => by
    subst e1 e2
    have h' : (sameI x y && sameIs xs ys) = true := h
    obtain ⟨k1, k2⟩ := Bool.and_eq_true_iff.mp h'
    exact .cons (sameI_ok k1 h1 h2) (sameIs_ok k2 h1' h2')
  | [], _ :: _, _, _, h, _, _ => by cases h
  | _ :: _, [], _, _, h, _, _ => by cases h
theorem sameT_ok {x y : D} {u w : V} (eB : Ex B H) (h : sameT x y = true) (h1 : Den g B x u) (h2 : Den g B y w) : SmT g.K H u w := by
  unfold sameT at h
  split at h
  · obtain ⟨a, us, rfl, k1, k2⟩ := h1
    obtain ⟨b, ws, rfl, k3, k4⟩ := h2
    exact ⟨a, b, us, ws, rfl, rfl, Evl.ex_t eB k1, Evl.ex_t eB k3, sameIs_ok h k2 k4⟩
  · cases h
theorem sameTs_ok (eB : Ex B H) : ∀ {xs ys : List D} {us ws : List V}, sameTs xs ys = true → Dens g B xs us → Dens g B ys ws → Paired (SmT g.K H) us ws
  | [], [], us, ws, _, h1, h2 => by cases h1; cases h2; exact .nil
  | x :: xs, y :: ys, us, ws, h, ⟨u, r, e1, h1, h1'⟩, ⟨w, r', e2, h2, h2'⟩ => by
    subst e1 e2
    have h' : (sameT x y && sameTs xs ys) = true := h
    obtain ⟨k1, k2⟩ := Bool.and_eq_true_iff.mp h'
    exact .cons (sameT_ok eB k1 h1 h2) (sameTs_ok eB k2 h1' h2')
  | [], _ :: _, _, _, h, _, _ => by cases h
  | _ :: _, [], _, _, h, _, _ => by cases h
theorem o_neLT (hK : X.K = g.K) (hu : X.A.units + 64 < cLine) : OpD X g (compareOp .NotEq) dNeLT := ⟨_, op_neLT hu, fun T B H σ s x y dx dy d Q R h1 h2 e q => by
  cases dx with
  | lst xs =>
    cases dy with
    | lst ys =>
      replace e : (if sameTs xs ys = true then some (D.bl false) else none) = some d := e
      by_cases hs : sameTs xs ys = true
      · rw [if_pos hs] at e; cases e
        obtain ⟨a, us, rfl, k1, k2⟩ := h1
        obtain ⟨b, ws, rfl, k3, k4⟩ := h2
        exact ⟨a, b, us, ws, rfl, rfl, .inl (.inl k1), .inl (.inl k3), by rw [hK]; exact sameTs_ok R.bh hs k2 k4, q _ B H R (Evl.Ex.refl _) rfl⟩
      · rw [if_neg hs] at e; cases e
    | _ => cases e
  | _ => cases e⟩
def dEqS : D → D → Option D := dOr dEqO dEq
def dNeS : D → D → Option D := dOr dNeO (dOr dNeLT dNe)
theorem o_eqS (hK : X.K = g.K) (hu : X.A.units + 64 < cLine) : OpD X g (compareOp .Eq) dEqS := OpD.or (o_eqO hK hu) (o_eq hK hu)
theorem o_neS (hK : X.K = g.K) (hu : X.A.units + 64 < cLine) : OpD X g (compareOp .NotEq) dNeS := OpD.or (o_neO hK hu) (OpD.or (o_neLT hK hu) (o_ne hK hu))
end TW

set_option Elab.async false
set_option linter.all false
set_option autoImplicit false
set_option maxRecDepth 100000
set_option maxHeartbeats 2000000
/-! two values are taken for what is not looked into -/
namespace TW
open PySem PySem.Spec PyProof.Rows L2
variable {g : G} {T : Tx} {B B' H H' : Hp} {σ : L2.St} {s : S} {W : WX} {X : Cx}
abbrev G.w (g : G) (r : Nat → Option V) : G := ⟨g.K, g.mg, g.cn, g.names, r⟩
mutual
def noQ : D → Bool
  | .opq _ => false
  | .tup ds => noQs ds
  | .lst ds => noQs ds
  | .arg ds => noQs ds
  | .obj _ ds => noQs ds
  | .exc _ _ _ ds => noQs ds
  | .err _ ds => noQs ds
  | _ => true
def noQs : List D → Bool
  | [] => true
  | d :: ds => noQ d && noQs ds
end
mutual
theorem den_w {r r' : Nat → Option V} : ∀ {d : D} {v : V}, noQ d = true → Den (g.w r) B d v → Den (g.w r') B d v
  | .non, _, _, h => h
  | .bl _, _, _, h => h
  | .int _, _, _, h => h
  | .str _, _, _, h => h
  | .dct, _, _, h => h
  | .tup ds, _, n, ⟨a, vs, e1, h1, h2⟩ => ⟨a, vs, e1, h1, dens_w (by simpa [noQ] using n) h2⟩
  | .lst ds, _, n, ⟨a, vs, e1, h1, h2⟩ => ⟨a, vs, e1, h1, dens_w (by simpa [noQ] using n) h2⟩
  | .arg ds, _, n, ⟨a, vs, e1, h1, h2⟩ => ⟨a, vs, e1, h1, dens_w (by simpa [noQ] using n) h2⟩
  | .obj c ds, _, n, ⟨a, dx, vs, e1, h1, h3⟩ => ⟨a, dx, vs, e1, h1, dens_w (by simpa [noQ] using n) h3⟩
  | .exc a x c ds, _, n, ⟨e1, .inl h⟩ => ⟨e1, .inl h⟩
  | .exc a x c ds, _, n, ⟨e1, .inr ⟨dx, fs, vs, h1, h2, h3, h4⟩⟩ => ⟨e1, .inr ⟨dx, fs, vs, h1, h2, dens_w (by simpa [noQ] using n) h3, h4⟩⟩
  | .err c ds, _, n, ⟨a, x, e1, h1, .inl h⟩ => ⟨a, x, e1, h1, .inl h⟩
  | .err c ds, _, n, ⟨a, x, e1, h0, .inr ⟨dx, fs, vs, h1, h2, h3, h4⟩⟩ => ⟨a, x, e1, h0, .inr ⟨dx, fs, vs, h1, h2, dens_w (by simpa [noQ] using n) h3, h4⟩⟩
  | .opq _, _, n, _ => by simp [noQ] at n
theorem dens_w {r r' : Nat → Option V} : ∀ {ds : List D} {vs : List V}, noQs ds = true → Dens (g.w r) B ds vs → Dens (g.w r') B ds vs
  | [], _, _, h => h
  | d :: ds, _, n, ⟨v, q, e1, h1, h2⟩ => by
    simp [noQs] at n
    exact ⟨v, q, e1, den_w n.1 h1, dens_w n.2 h2⟩
end
def noQsl : Sl → Bool
  | .no => true
  | .v d => noQ d
  | .l ds => noQs ds
  | .o _ ds => noQs ds
theorem slOk_w {r r' : Nat → Option V} {x : Sl} {y : Option V} (n : noQsl x = true) (h : SlOk (g.w r) B H x y) : SlOk (g.w r') B H x y := by
  cases x with
  | no => trivial
  | v d => obtain ⟨v, e, h1⟩ := h; exact ⟨v, e, den_w n h1⟩
  | l ds => obtain ⟨a, vs, e, h1, h2, h3⟩ := h; exact ⟨a, vs, e, h1, h2, dens_w n h3⟩
  | o c ds => obtain ⟨a, dx, vs, e, h1, h2, h3⟩ := h; exact ⟨a, dx, vs, e, h1, h2, dens_w n h3⟩
theorem rel_swap {r r' : Nat → Option V} {s2 : S} (R : Rel (g.w r) T B H σ s) (hT : T.t = []) (hτ : T.τ = []) (hl : s2.length = s.length)
    (h : ∀ (k : Nat) (x x2 : Sl), s[k]? = some x → s2[k]? = some x2 → (x2 = x ∧ noQsl x = true) ∨ (x.own = false ∧ x2.own = false ∧ ∀ y, σ[k]? = some y → SlOk (g.w r') B H x2 y)) : Rel (g.w r') T B H σ s2 := by
  obtain ⟨B0, H0, io, τ, t⟩ := T
  simp only at hT hτ
  subst hT hτ
  obtain ⟨⟨b0, bh, nw, hh, dom, len, sl, nd, iok, ow⟩, ln, iob⟩ := R
  simp only [List.append_nil] at len sl nd iok ow
  have get : ∀ {k : Nat} {x2 : Sl}, s2[k]? = some x2 → ∃ x, s[k]? = some x := fun {k x2} e => by
    have hk := (List.getElem?_eq_some_iff.mp e).1
    exact ⟨s[k]'(by omega), List.getElem?_eq_getElem (by omega)⟩
  have own : ∀ {k : Nat} {x2 : Sl}, s2[k]? = some x2 → x2.own = true → s[k]? = some x2 := fun {k x2} e o => by
    obtain ⟨x, ex⟩ := get e
    rcases h k x x2 ex e with ⟨z, _⟩ | ⟨_, z, _⟩
    · rw [z]; exact ex
    · rw [z] at o; cases o
  refine ⟨⟨b0, bh, nw, hh, dom, ?_, fun i x y hx hy => ?_, fun i j x x' a hx hx' ho ho' e1 e2 => ?_, fun j a hj => ?_, fun i x a hx ho e1 => ?_⟩, by rw [ln, hl], iob⟩
  · simp only [List.append_nil]; rw [len, hl]
  · simp only [List.append_nil] at hx hy
    obtain ⟨x0, ex⟩ := get hx
    rcases h i x0 x ex hx with ⟨z, n⟩ | ⟨_, _, z⟩
    · subst z; exact slOk_w n (sl i x y ex hy)
    · exact z y hy
  · simp only [List.append_nil] at hx hx' e1 e2
    exact nd i j x x' a (own hx ho) (own hx' ho') ho ho' e1 e2
  · simp only [List.append_nil]
    obtain ⟨e, x, hx, ho⟩ := iok j a hj
    have hk := (List.getElem?_eq_some_iff.mp hx).1
    have e2 : s2[j]? = some (s2[j]'(by omega)) := List.getElem?_eq_getElem (by omega)
    rcases h j x _ hx e2 with ⟨z, _⟩ | ⟨z, _, _⟩
    · exact ⟨e, x, by rw [e2, z], ho⟩
    · rw [z] at ho; cases ho
  · simp only [List.append_nil] at hx e1
    exact ow i x a (own hx ho) ho e1
/-! ## what may be taken so -/
def slfB (ec : Nat → Bool) : D → Bool
  | .bl _ => true
  | .int _ => true
  | .str _ => true
  | .tup _ => true
  | .lst _ => true
  | .dct => true
  | .err c _ => ec c
  | _ => false
theorem slfB_ok {ec : Nat → Bool} {d : D} {v : V} (hE : ∀ c, ec c = true → EqC g.K (g.cn c)) (n : slfB ec d = true) (h : Den g B d v) : Slf g.K B v := by
  cases d with
  | bl b => exact .inl ⟨b, h⟩
  | int i => exact .inr (.inl ⟨i, h⟩)
  | str x => exact .inr (.inr (.inl ⟨x, h⟩))
  | tup ds => obtain ⟨a, vs, rfl, k1, _⟩ := h; exact .inr (.inr (.inr (.inl ⟨a, vs, rfl, k1⟩)))
  | lst ds => obtain ⟨a, vs, rfl, k1, _⟩ := h; exact .inr (.inr (.inr (.inr (.inl ⟨a, vs, rfl, .inl (.inl k1)⟩))))
  | dct => obtain ⟨a, kvs, rfl, k1⟩ := h; exact .inr (.inr (.inr (.inr (.inr (.inl ⟨a, kvs, rfl, k1⟩)))))
  | err c ds => obtain ⟨a, x, rfl, k⟩ := er_at (Evl.Ex.refl B) h; exact .inr (.inr (.inr (.inr (.inr (.inr ⟨a, g.cn c, x, rfl, k, hE c n⟩)))))
  | _ => cases n
def slfN (ec : Nat → Bool) : D → Bool
  | .non => true
  | d => slfB ec d
def opD (n : Nat) : D → D
  | .non => .non
  | _ => .opq n
theorem opD_ok {ec : Nat → Bool} {d : D} {v : V} {n : Nat} {r : Nat → Option V} (hE : ∀ c, ec c = true → EqC g.K (g.cn c)) (hn : slfN ec d = true) (h : Den g B d v) (hr : r n = some v) : Den (g.w r) B (opD n d) v := by
  cases d with
  | non => exact h
  | bl _ => exact ⟨hr, slfB_ok (g := g) (d := .bl _) hE rfl h⟩
  | int _ => exact ⟨hr, slfB_ok (g := g) (d := .int _) hE rfl h⟩
  | str _ => exact ⟨hr, slfB_ok (g := g) (d := .str _) hE rfl h⟩
  | tup _ => exact ⟨hr, slfB_ok (g := g) (d := .tup _) hE rfl h⟩
  | lst _ => exact ⟨hr, slfB_ok (g := g) (d := .lst _) hE rfl h⟩
  | dct => exact ⟨hr, slfB_ok (g := g) (d := .dct) hE rfl h⟩
  | err c ds => exact ⟨hr, slfB_ok (g := g) (d := .err c ds) hE hn h⟩
  | _ => cases hn
def clr2 (i j : Nat) (s : S) : S := (s.set i .no).set j .no
def mswitch (ec : Nat → Bool) (i j : Nat) (k : MS) : MS := fun s => match s[i]?, s[j]? with
  | some (.v d0), some (.v d1) => if ((clr2 i j s).all noQsl && slfN ec d0 && slfN ec d1) = true then
      (match k ((s.set i (.v (opD 0 d0))).set j (.v (opD 1 d1))) with
        | .nx s' => (match s'[i]?, s'[j]? with
          | some (.v _), some (.v _) => if (clr2 i j s').all noQsl = true then .nx (clr2 i j s') else .bad
          | _, _ => .bad)
        | .rt (.v (.bl b)) s' => (match s'[i]?, s'[j]? with
          | some (.v _), some (.v _) => if (clr2 i j s').all noQsl = true then .rt (.v (.bl b)) (clr2 i j s') else .bad
          | _, _ => .bad)
        | _ => .bad)
    else .bad
  | _, _ => .bad
theorem clr2_get {i j k : Nat} {x : Sl} (hi : k ≠ i) (hj : k ≠ j) (h : s[k]? = some x) : (clr2 i j s)[k]? = some x := by
  unfold clr2
  rw [List.getElem?_set_ne (Ne.symm hj), List.getElem?_set_ne (Ne.symm hi)]; exact h
theorem clr2_len {i j : Nat} : (clr2 i j s).length = s.length := by unfold clr2; simp
theorem rel_back {r r' : Nat → Option V} {i j : Nat} {d0 d1 : D} (R : Rel (g.w r) T B H σ s) (hT : T.t = []) (hτ : T.τ = []) (h0 : s[i]? = some (.v d0)) (h1 : s[j]? = some (.v d1)) (n : (clr2 i j s).all noQsl = true) : Rel (g.w r') T B H σ (clr2 i j s) := by
  refine rel_swap R hT hτ clr2_len fun k x x2 hx hx2 => ?_
  by_cases hi : k = i
  · subst hi
    rw [h0] at hx; cases hx
    have e : x2 = .no := by
      unfold clr2 at hx2
      by_cases hj : j = k
      · subst hj
        rw [List.getElem?_set_self (by have := (List.getElem?_eq_some_iff.mp hx2).1; simpa using this)] at hx2
        exact (Option.some.inj hx2).symm
      · rw [List.getElem?_set_ne hj, List.getElem?_set_self (by have := (List.getElem?_eq_some_iff.mp h0).1; simpa using this)] at hx2
        exact (Option.some.inj hx2).symm
    subst e
    exact .inr ⟨rfl, rfl, fun _ _ => trivial⟩
  · by_cases hj : k = j
    · subst hj
      rw [h1] at hx; cases hx
      have e : x2 = .no := by
        unfold clr2 at hx2
        rw [List.getElem?_set_self (by have := (List.getElem?_eq_some_iff.mp h1).1; simpa using this)] at hx2
        exact (Option.some.inj hx2).symm
      subst e
      exact .inr ⟨rfl, rfl, fun _ _ => trivial⟩
    · have z := clr2_get hi hj hx
      rw [z] at hx2; cases hx2
      exact .inl ⟨rfl, List.all_eq_true.mp n x (List.mem_of_getElem? z)⟩
theorem PSs.ex2 {ι : Type} {st : List Stmt} {t : ι → TS} (h : ∀ i, PSs X st (t i)) : PSs X st (fun D σ H => ∃ i, t i D σ H) := ⟨fun pins s σ H D I ⟨i, q⟩ => (h i).run pins s σ H D I q⟩
theorem jss_switch {ec : Nat → Bool} {i j : Nat} {sts : List Stmt} {k : MS} (hij : i ≠ j) (hT : T.t = []) (hτ : T.τ = []) (hE : ∀ c, ec c = true → EqC g.K (g.cn c)) (hb : ∀ r, JSs X (g.w r) T W sts k) : JSs X g T W sts (mswitch ec i j k) := by
  refine PSs.imp (PSs.ex2 (t := fun r => RdS (g.w r) T W k) hb) fun D σ H ⟨B, s, R, p⟩ => ?_
  unfold mswitch at p
  cases h0 : s[i]? with
  | none => rw [h0] at p; exact p.elim
  | some x0 =>
    cases h1 : s[j]? with
    | none => rw [h0, h1] at p; cases x0 <;> exact p.elim
    | some x1 =>
      rw [h0, h1] at p
      cases x0 with
      | v d0 =>
        cases x1 with
        | v d1 =>
          dsimp only at p
          by_cases hc : ((clr2 i j s).all noQsl && slfN ec d0 && slfN ec d1) = true
          · rw [if_pos hc] at p
            rw [Bool.and_eq_true, Bool.and_eq_true] at hc
            obtain ⟨⟨c1, c2⟩, c3⟩ := hc
            obtain ⟨v0, e0, k0⟩ := R.getv h0
            obtain ⟨v1, e1, k1⟩ := R.getv h1
            have li := (List.getElem?_eq_some_iff.mp h0).1
            have lj := (List.getElem?_eq_some_iff.mp h1).1
            refine ⟨fun n => if n = 0 then some v0 else some v1, B, (s.set i (.v (opD 0 d0))).set j (.v (opD 1 d1)), ?_, ?_⟩
            · refine rel_swap (r := g.rho) R hT hτ (by simp) fun q x x2 hx hx2 => ?_
              by_cases hj : q = j
              · subst hj
                rw [h1] at hx; cases hx
                rw [List.getElem?_set_self (by simpa using lj)] at hx2
                cases hx2
                refine .inr ⟨rfl, rfl, fun y hy => ?_⟩
                rw [e1] at hy; cases hy
                exact ⟨v1, rfl, opD_ok (g := g) hE c3 k1 (by simp)⟩
              · rw [List.getElem?_set_ne (Ne.symm hj)] at hx2
                by_cases hi : q = i
                · subst hi
                  rw [h0] at hx; cases hx
                  rw [List.getElem?_set_self li] at hx2
                  cases hx2
                  refine .inr ⟨rfl, rfl, fun y hy => ?_⟩
                  rw [e0] at hy; cases hy
                  exact ⟨v0, rfl, opD_ok (g := g) hE c2 k0 (by simp)⟩
                · rw [List.getElem?_set_ne (Ne.symm hi), hx] at hx2
                  cases hx2
                  exact .inl ⟨rfl, List.all_eq_true.mp c1 x (List.mem_of_getElem? (clr2_get hi hj hx))⟩
            · cases ek : k ((s.set i (.v (opD 0 d0))).set j (.v (opD 1 d1))) with
              | nx s' =>
                rw [ek] at p
                dsimp only at p
                cases g0 : s'[i]? with
                | none => rw [g0] at p; exact p.elim
                | some y0 =>
                  cases g1 : s'[j]? with
                  | none => rw [g0, g1] at p; cases y0 <;> exact p.elim
                  | some y1 =>
                    rw [g0, g1] at p
                    cases y0 with
                    | v b0 =>
                      cases y1 with
                      | v b1 =>
                        dsimp only at p
                        by_cases hn : (clr2 i j s').all noQsl = true
                        · rw [if_pos hn] at p
                          exact fun σ' B' H' R' e' => p σ' B' H' (rel_back (g := g) (r' := g.rho) R' hT hτ g0 g1 hn) e'
                        · rw [if_neg hn] at p; exact p.elim
                      | _ => exact p.elim
                    | _ => cases y1 <;> exact p.elim
              | rt rv s' =>
                rw [ek] at p
                cases rv with
                | v dd =>
                  cases dd with
                  | bl b =>
                    dsimp only at p
                    cases g0 : s'[i]? with
                    | none => rw [g0] at p; exact p.elim
                    | some y0 =>
                      cases g1 : s'[j]? with
                      | none => rw [g0, g1] at p; cases y0 <;> exact p.elim
                      | some y1 =>
                        rw [g0, g1] at p
                        cases y0 with
                        | v b0 =>
                          cases y1 with
                          | v b1 =>
                            dsimp only at p
                            by_cases hn : (clr2 i j s').all noQsl = true
                            · rw [if_pos hn] at p
                              exact fun v σ' B' H' R' e' hv => p v σ' B' H' (rel_back (g := g) (r' := g.rho) R' hT hτ g0 g1 hn) e' hv
                            · rw [if_neg hn] at p; exact p.elim
                          | _ => exact p.elim
                        | _ => cases y1 <;> exact p.elim
                  | _ => exact p.elim
                | _ => exact p.elim
              | bk s' => rw [ek] at p; exact p.elim
              | ct s' => rw [ek] at p; exact p.elim
              | ex c ds s' => rw [ek] at p; exact p.elim
              | bad => rw [ek] at p; exact p.elim
          · rw [if_neg hc] at p; exact p.elim
        | _ => exact p.elim
      | _ => cases x1 <;> exact p.elim
/-- a def's promise by its body, where nothing is set aside -/
theorem fnD_ok0 {P : Program} {w : World} {base : Heap} {x qual : Str} {st : Stmt} {f : Addr} {fd : FuncData} {N ps : List Str} {k : Nat} {body : MS} (F : Fun g.K x qual st f fd) (Sc : FnScope N ps (defScope st)) (hps : ps.length ≤ N.length)
    (hbody : ∀ (cdv : Value) (A : Around) (outer : List Env) (s : Shared) (H : Hp) (E : XK) (T : Tx), Room k (A.deeper (envOfC qual (defScope st) s.heap.objs.size f cdv)) → (∀ i, ps.length ≤ i → T.io i = none) → T.t = [] → T.τ = [] →
      JSs (cxOf (L2.CX P w) P w g.K g.mg base N qual (defScope st) f cdv A outer s H E) g T (fun cls d _ H => E cls d H) (defBody st) body) :
    FnOk P w g.K g.mg base (L2.CX P w) (k + 1) f fd ps (spD g (fnD N.length ps.length body)) := by
  refine F.okX Sc (fun vs H Q E h => ?_) (fun cdv A outer s H vs Q E hr h => ?_)
  · obtain ⟨B, as, e, A, p⟩ := h
    unfold fnD at p
    by_cases hl : as.length = ps.length
    · rw [← A.len]; exact hl
    · rw [if_neg hl] at p; exact p.elim
  · obtain ⟨B, as, e, Ao, p⟩ := h
    unfold fnD at p
    by_cases hl : as.length = ps.length
    · rw [if_pos hl] at p
      refine ⟨_, hbody cdv A outer s H E (tx0 B H as vs) hr (fun i hi => ioOf_ge (by omega)) rfl rfl, B, _, Rel.start e Ao (by rw [← Ao.len]; omega), ?_⟩
      have hv : N.length - vs.length = N.length - ps.length := by rw [← Ao.len]; omega
      rw [hv]
      cases q : body (as ++ List.replicate (N.length - ps.length) Sl.no) with
      | nx s' =>
        rw [q] at p
        intro σ' B' H' R' e'
        exact p .non B' H' (R'.after hl Ao) rfl
      | rt r s' =>
        rw [q] at p
        intro v σ' B' H' R' e' hr
        exact p v B' H' (R'.after hl Ao) (RvOk.ret R' hr)
      | ex c ds s' =>
        rw [q] at p
        intro x σ' B' H' R' e' hx
        exact p x B' H' (R'.after hl Ao) hx
      | bk s' => rw [q] at p; exact p.elim
      | ct s' => rw [q] at p; exact p.elim
      | bad => rw [q] at p; exact p.elim
    · rw [if_neg hl] at p; exact p.elim
end TW

set_option Elab.async false
set_option linter.all false
set_option autoImplicit false
set_option maxRecDepth 100000
set_option maxHeartbeats 2000000
/-! try with several clauses, each with `as`; every error is taken by one of them -/
namespace TX
open PySem PySem.Spec PyProof.Rows L2
/-- what the clauses wish of an error -/
def wAsL (K : PySem.W.Frag) (i : Nat) (D : Ends) : List (Value × (Addr → Value → Option Addr → TS)) → WX
  | [] => fun _ _ _ _ => False
  | (c, ts) :: r => fun cls d σ H => ∃ b, PySem.W.exmOne K cls c = some b ∧
      (b = true → ∀ a, H a = none → ts a cls d { nx := fun σ1 H1 => D.nx (σ1.set i none) H1, rt := D.rt, bk := fun σ1 H1 => D.bk (σ1.set i none) H1, ct := fun σ1 H1 => D.ct (σ1.set i none) H1 } (σ.set i (some (.ref a))) H) ∧
      (b = false → wAsL K i D r cls d σ H)
inductive HdsL (X : Cx) (n : Str) : List ExceptHandler → List (Value × (Addr → Value → Option Addr → TS)) → Prop
  | nil : HdsL X n [] []
  | cons {x : Str} {c : Value} {ts : Addr → Value → Option Addr → TS} {b₀ : Stmt} {suite : List Stmt} {np pos' : Pos} {hds : List ExceptHandler} {l : List (Value × (Addr → Value → Option Addr → TS))} (hc : Names X x c)
      (hsu : ∀ (a : Addr) (oe : Obj) (cls : Value) (d : Option Addr) (pn : List (Addr × Obj)), Zc cls d oe → (∃ vs, oe.data = .fields vs) → PSs (X.suite a ((a, oe) :: pn)) (b₀ :: suite) (ts a cls d)) (r : HdsL X n hds l) :
      HdsL X n (.ExceptHandler (some (.Name x np)) (some n) (b₀ :: suite) pos' :: hds) ((c, ts) :: l)
section
variable {X : Cx} {n : Str} {body : List Stmt} {h₀ : ExceptHandler} {hds : List ExceptHandler} {l : List (Value × (Addr → Value → Option Addr → TS))} {pos : Pos} {tb : WX → TS} {i : Nat}
theorem ps_try_asL (hs : X.stack = X.env :: X.outer) (hf : X.env.frame = some X.env.locals) (hN : X.N.Nodup) (hi : X.N[i]? = some n) (hln : X.env.kindOf n = some .local)
    (hb : ∀ (W : WX) (pn : List (Addr × Obj)) (xe : Value → Shared → Prop), Takes (X.tr pn xe) W → PassesOwn (model X.prog X.w) X.A X.env xe → PSs (X.tr pn xe) body (tb W))
    (hh : HdsL X n (h₀ :: hds) l) : PS X (.Try body (h₀ :: hds) [] [] pos) (fun D σ H => tb (wAsL X.K i D l) D σ H) := by
  refine ⟨fun pins s σ H D I hq => ?_⟩
  have okX := I.ok
  have frX : X.A.frames = some (X.env :: X.outer) := by rw [okX.frames, hs]
  refine wpAny_Try_except ?_
  have hbody := (hb (wAsL X.K i D l) (X.pn ++ pins) (fun er sa => wpAny (model X.prog X.w) X.A (noteFrame er X.env) (fun _ sb => wpAny (model X.prog X.w) X.A (setFlight er none) (fun _ sc =>
      wpAny (model X.prog X.w) X.A (handleBy er X.env (h₀ :: hds)) (SP X pins D) X.xe sc) X.xe sb) X.xe sa) (fun u sA xx => ?_) PassesOwn.looking).run [] s σ H D (I.toTry _) hq
  · refine wpAny_mono hbody (fun f sA hsp => ?_) (fun er sA he => he)
    cases f with
    | next => exact let ⟨σ', H', J', q⟩ := hsp; wpAny_execs_nil ⟨σ', H', J'.ofTry okX, q⟩
    | brk => exact let ⟨σ', H', J', q⟩ := hsp; ⟨σ', H', J'.ofTry okX, q⟩
    | cont => exact let ⟨σ', H', J', q⟩ := hsp; ⟨σ', H', J'.ofTry okX, q⟩
    | ret u => exact let ⟨v, σ', H', J', r, q⟩ := hsp; ⟨v, σ', H', J'.ofTry okX, r, q⟩
  · obtain ⟨a, G, sI, pins1, σ1, H1, cls, d, rfl, J1, nb, up, sky, na, eos, ag, wsh⟩ := xx
    have J : Inv X pins σ1 H1 sI := J1.ofTry okX
    rw [hs] at sky
    refine Sky.land Zc.steady frX hf sky fun g3 fl3 up3 => ?_
    have J3 : Inv X pins σ1 H1 { sA with heap := g3 } := J.landed nb fl3.1 (up.trans up3) eos ag
    obtain ⟨o3, w3, at3, z3, dt3⟩ := fl3.there
    have apart : a ∉ frs (X.env :: X.outer) := fun hm => by
      obtain ⟨_, o', e', hnf⟩ := fl3.2.2.1.mem hm
      rw [at3] at e'
      cases e'
      exact hnf _ dt3
    have aL : a ≠ X.env.locals := fun z => apart (List.mem_filterMap.mpr ⟨X.env, List.mem_cons_self, by rw [hf, z]⟩)
    have aF : a ∉ X.fs := fun hm => by
      obtain ⟨er, her, q⟩ := List.mem_filterMap.mp hm
      exact apart (List.mem_filterMap.mpr ⟨er, List.mem_cons_of_mem _ her, q⟩)
    have S3 := J3.suite at3 dt3 na aL aF
    have lkT : PySem.W.Looks (model X.prog X.w) g3 (typeOf (.ref a)) cls := fun A Q E s' kp q => wpAny_typeOf_ref (kp _ _ at3) (by rw [z3.1]; exact q)
    have all : ∀ {hds1 : List ExceptHandler} {l1 : List (Value × (Addr → Value → Option Addr → TS))}, HdsL X n hds1 l1 → wAsL X.K i D l1 cls d σ1 H1 → wpAny (model X.prog X.w) X.A (handleBy (.ref a) X.env hds1) (SP X pins D) X.xe { sA with heap := g3 } := by
      intro hds1 l1 hk
      induction hk with
      | nil => exact fun w => False.elim w
      | @cons x c ts b₀ suite np pos' hds2 l2 hc hsu r ih =>
        intro w
        obtain ⟨b, hexm, hyes, hno⟩ := w
        refine wpAny_handleBy_cons (codeAny_handlers_test ?_) (by intro q; cases q)
        have lkM := PySem.W.exm_one (M := model X.prog X.w) (J3.kIn) lkT hexm
        have ask : ∀ {Q : Value → Shared → Prop} {E : Value → Shared → Prop}, Q c { sA with heap := g3 } → wpAny (model X.prog X.w) (X.A.mark (some (.ref a))) (eval (.Name x np) X.env) Q E { sA with heap := g3 } := fun {Q E} q => by
          obtain ⟨hg, hdb, hm | ⟨hm, hv, hnn⟩⟩ := hc
          · exact ld_glob (X := X.suite a ((a, o3) :: (X.pn ++ pins))) S3 hg hm q hdb
          · exact ld_blt (X := X.suite a ((a, o3) :: (X.pn ++ pins))) S3 hg hm hv q hnn hdb
        refine ask (lkM.here ?_)
        cases b with
        | false => exact ih (hno rfl)
        | true =>
          refine codeAny_handlers_suite_as ?_
          refine HandSPX.lands_againZ fl3 fun g4 fl4 up4 => ?_
          have J4 : Inv X pins σ1 H1 { sA with heap := g4 } := J.landed nb fl4.1 ((up.trans up3).trans up4) eos ag
          obtain ⟨o4, w4, at4, z4, dt4⟩ := fl4.there
          have S4 := J4.suite at4 dt4 na aL aF
          refine store_ok (X := X.suite a ((a, o4) :: (X.pn ++ pins))) (v := .ref a) S4 hN hi (.inl hln) rfl (fun s5 S5 => ?_) (.inr hln)
          refine wpAny_mono ((hsu a o4 cls d (X.pn ++ pins) z4 ⟨_, dt4⟩).run [] s5 _ H1 _ S5 (hyes rfl a na)) (fun f s6 hsp => ?_) (fun _ _ z => False.elim z)
          have over : ∀ {σ6 : L2.St} {H6 : Hp} {Q : Shared → Prop}, Inv (X.suite a ((a, o4) :: (X.pn ++ pins))) [] σ6 H6 s6 → (∀ s7, Inv X pins (σ6.set i none) H6 s7 → Q s7) →
              wpAny (model X.prog X.w) X.A (do bindName X.env n .none; unbindBehindTheSuite X.env n pos') (fun _ s7 => Q s7) X.xe s6 := fun {σ6 H6 Q} S6 hq => gone_ok (S6.unsuite okX) hN hi hln hq
          cases f with
          | next => exact let ⟨_, _, S6, q6⟩ := hsp; over S6 fun s7 J7 => ⟨_, _, J7, q6⟩
          | brk => exact let ⟨_, _, S6, q6⟩ := hsp; over S6 fun s7 J7 => ⟨_, _, J7, q6⟩
          | cont => exact let ⟨_, _, S6, q6⟩ := hsp; over S6 fun s7 J7 => ⟨_, _, J7, q6⟩
          | ret u => exact let ⟨_, _, _, S6, r6, q6⟩ := hsp; over S6 fun s7 J7 => ⟨_, _, _, J7, r6, q6⟩
    exact all hh wsh
end
end TX
namespace TW
open PySem PySem.Spec PyProof.Rows L2
variable {g : G} {T : Tx} {B B' H H' : Hp} {σ : L2.St} {s : S} {W : WX} {X : Cx} {e : Expr} {pos p : Pos}
/-- what an error is asked to be kept as: its field -/
def erN (nm : Nat → List Str) (c : Nat) (f : Str) (ds : List D) : Option D := match (nm c).findIdx? (· == f) with
  | some j => ds[j]?
  | none => none
/-- a clause that returns (w, err.f) -/
def hret (nm : Nat → List Str) (w f : Str) (k : Nat) (a : Addr) (x : Option Addr) (c : Nat) : MS := fun s => match s[k]? with
  | some (.v (.exc a' x' c' ds)) => if a' = a ∧ x' = x ∧ c' = c then (match erN nm c f ds with | some d => .rt (.v (.tup [.str w, d])) s | none => .bad) else .bad
  | _ => .bad
def mxfG (nm : Nat → List Str) (f : Str) (k : Nat) (a : Addr) (x : Option Addr) (c : Nat) : M D := fun s => match s[k]? with
  | some (.v (.exc a' x' c' ds)) => if a' = a ∧ x' = x ∧ c' = c then (match erN nm c f ds with | some d => .ok d s | none => .bad) else .bad
  | _ => .bad
theorem je_xfG {nm : Nat → List Str} {k c : Nat} {a : Addr} {oe : Obj} {d : Option Addr} {pn : List (Addr × Obj)} {f : Str} (hn : g.names = nm) (hF : ∀ c, f ∈ nm c → XfC X.K (g.cn c) ∧ PySem.W.findIn X.K (.ref (g.cn c)) f = some none)
    (hz : Zc (.ref (g.cn c)) d oe) (hf : ∃ vs, oe.data = .fields vs) (he : PE (X.suite a ((a, oe) :: pn)) e (tVar k)) (hb : attributeBase e f X.env (eval e X.env) = eval e X.env := by rfl) :
    JE (X.suite a ((a, oe) :: pn)) g T W (.Attribute e f pos) (mxfG nm f k a d c) := by
  by_cases hm : f ∈ nm c
  · obtain ⟨xf, no⟩ := hF c hm
    refine fun τ t => PE.imp (pe_xf xf no hz hf he hb) fun σ H Q ⟨B, s, R, p⟩ => ?_
    unfold mxfG at p
    cases hk : s[k]? with
    | none => rw [hk] at p; exact p.elim
    | some y =>
      rw [hk] at p
      cases y with
      | v dd =>
        cases dd with
        | exc a' x' c' ds =>
          dsimp only at p
          by_cases hq : a' = a ∧ x' = d ∧ c' = c
          · rw [if_pos hq] at p
            obtain ⟨rfl, rfl, rfl⟩ := hq
            obtain ⟨v, hv, q⟩ := R.getv hk
            obtain ⟨rfl, q⟩ := q
            unfold erN at p
            cases ej : (nm c').findIdx? (· == f) with
            | none => rw [ej] at p; exact p.elim
            | some j =>
              rw [ej] at p
              dsimp only at p
              cases hd : ds[j]? with
              | none => rw [hd] at p; exact p.elim
              | some d0 =>
                rw [hd] at p
                rcases q with q | ⟨dx, fs, vs, h1, h2, h3, h4⟩
                · subst q; simp at hd
                · obtain ⟨w, hw, hdw⟩ := h3.get hd
                  obtain ⟨hlt, hff, _⟩ := List.findIdx?_eq_some_iff_getElem.mp ej
                  have ef : (nm c')[j] = f := beq_iff_eq.mp hff
                  exact ⟨.ref a', hv, rfl, rfl, dx, fs, w, h1, R.bh _ _ h2, h4 j f w (by rw [hn, List.getElem?_eq_getElem hlt, ef]) hw, p w B H R (Evl.Ex.refl _) hdw⟩
          · rw [if_neg hq] at p; exact p.elim
        | _ => exact p.elim
      | _ => exact p.elim
  · have eb : mxfG nm f k a d c = fun _ => .bad := by
      funext s
      unfold mxfG erN
      have ej : (nm c).findIdx? (· == f) = none := by
        rw [List.findIdx?_eq_none_iff]
        intro x hx
        exact beq_eq_false_iff_ne.mpr fun z => hm (by rw [← z]; exact hx)
      rw [ej]
      split
      · split <;> rfl
      · rfl
    rw [eb]
    exact je_never
def clrR (k : Nat) : OutS → OutS
  | .nx s => (match clrS k s with | some s' => .nx s' | none => .bad)
  | .rt (.v d) s => (match clrS k s with | some s' => .rt (.v d) s' | none => .bad)
  | _ => .bad
theorem post_clrR {k : Nat} {o : OutS} {D : Ends} (h : PostS g T W B (clrR k o) D) : PostS g T W B o { nx := fun σ' H' => D.nx (σ'.set k none) H', rt := D.rt, bk := fun σ' H' => D.bk (σ'.set k none) H', ct := fun σ' H' => D.ct (σ'.set k none) H' } := by
  cases o with
  | nx s' =>
    replace h : PostS g T W B (match clrS k s' with | some s' => OutS.nx s' | none => .bad) D := h
    cases e : clrS k s' with
    | none => rw [e] at h; exact h.elim
    | some s2 => rw [e] at h; exact fun σ' B' H' R' e' => h _ B' H' (R'.clear e) e'
  | rt r s' =>
    cases r with
    | v d =>
      replace h : PostS g T W B (match clrS k s' with | some s' => OutS.rt (.v d) s' | none => .bad) D := h
      cases e : clrS k s' with
      | none => rw [e] at h; exact h.elim
      | some s2 => rw [e] at h; exact fun v σ' B' H' R' e' hv => h v _ B' H' (R'.clear e) e' hv
    | _ => exact h.elim
  | _ => exact h.elim
abbrev Hdl := (Nat → Option Bool) × (Addr → Option Addr → Nat → List D → MS)
def hdlL (k c : Nat) (ds : List D) (s1 : S) : List Hdl → OutS
  | [] => .bad
  | h :: r => match h.1 c with
    | some true => if k < s1.length then clrR k (h.2 0 none c ds (s1.set k (.v (.exc 0 none c ds)))) else .bad
    | some false => hdlL k c ds s1 r
    | none => .bad
def mtryL (k : Nat) (fb : MS) (hs : List Hdl) : MS := fun s => match fb s with
  | .ex c ds s1 => hdlL k c ds s1 hs
  | o => o
/-- the clauses, one behind the other -/
inductive JHs (X : Cx) (g : G) (T : Tx) (k : Nat) (n : Str) : List ExceptHandler → List Value → List Hdl → Prop
  | nil : JHs X g T k n [] [] []
  | cons {x : Str} {cv : Value} {h : Hdl} {b₀ : Stmt} {suite : List Stmt} {np pos' : Pos} {hds : List ExceptHandler} {cs : List Value} {l : List Hdl} (hc : Names X x cv) (hcat : ∀ c b, h.1 c = some b → PySem.W.exmOne X.K (.ref (g.cn c)) cv = some b)
      (hsame : ∀ (a : Addr) (x : Option Addr) (c : Nat) (ds : List D) (s1 : S), clrR k (h.2 a x c ds (s1.set k (.v (.exc a x c ds)))) = clrR k (h.2 0 none c ds (s1.set k (.v (.exc 0 none c ds)))))
      (hsu : ∀ (a : Addr) (oe : Obj) (c : Nat) (ds : List D) (d : Option Addr) (pn : List (Addr × Obj)), Zc (.ref (g.cn c)) d oe → (∃ vs, oe.data = .fields vs) → JSs (X.suite a ((a, oe) :: pn)) g T W0 (b₀ :: suite) (h.2 a d c ds)) (r : JHs X g T k n hds cs l) :
      JHs X g T k n (.ExceptHandler (some (.Name x np)) (some n) (b₀ :: suite) pos' :: hds) (cv :: cs) (h :: l)
abbrev tsH (g : G) (T : Tx) (h : Hdl) : Addr → Value → Option Addr → TS := fun a cls d D σ H => ∃ q : {q : Nat × List TW.D // cls = .ref (g.cn q.1)}, RdS g T W0 (h.2 a d q.1.1 q.1.2) D σ H
theorem jhs_hds {k : Nat} {n : Str} {hds : List ExceptHandler} {cs : List Value} {l : List Hdl} (h : JHs X g T k n hds cs l) : TX.HdsL X n hds (cs.zip (l.map (tsH g T))) := by
  induction h with
  | nil => exact .nil
  | cons hc hcat hsame hsu r ih =>
    refine .cons hc (fun a oe cls d pn hz hfl => PSs.ex fun q => ?_) ih
    have hq := q.2
    exact hsu a oe q.1.1 q.1.2 d pn (hq ▸ hz) hfl
theorem jhs_w {k c : Nat} {n : Str} {hds : List ExceptHandler} {cs : List Value} {l : List Hdl} {ds : List D} {x : Option Addr} {s1 : S} {D : Ends} (hio : T.io k = none) (R : Rel g T B H σ s1) (hx : XcOk g B x c ds) (h : JHs X g T k n hds cs l) :
    PostS g T W B (hdlL k c ds s1 l) D → TX.wAsL X.K k D (cs.zip (l.map (tsH g T))) (.ref (g.cn c)) x σ H := by
  induction h with
  | nil => exact fun p => p.elim
  | @cons x0 cv hh b₀ suite np pos' hds cs l hc hcat hsame hsu r ih =>
    intro p
    unfold hdlL at p
    cases ec : hh.1 c with
    | none => rw [ec] at p; exact p.elim
    | some b =>
      rw [ec] at p
      refine ⟨b, hcat c b ec, fun hb a na => ?_, fun hb => ?_⟩
      · subst hb
        dsimp only at p
        by_cases hk : k < s1.length
        · rw [if_pos hk, ← hsame a x c ds s1] at p
          have p2 := post_clrR p
          refine ⟨⟨(c, ds), rfl⟩, B, _, R.storev hk hio (show Den g B (.exc a x c ds) (.ref a) from ⟨rfl, hx⟩), ?_⟩
          -- a clause raises nothing
          cases eo : hh.2 a x c ds (s1.set k (.v (.exc a x c ds))) with
          | ex c' ds' s' => rw [eo] at p; exact p.elim
          | nx s' => rw [eo] at p2; exact p2
          | rt r s' => rw [eo] at p2; exact p2
          | bk s' => rw [eo] at p; exact p.elim
          | ct s' => rw [eo] at p; exact p.elim
          | bad => rw [eo] at p; exact p.elim
        · rw [if_neg hk] at p; exact p.elim
      · subst hb; exact ih p
theorem js_tryL {n : Str} {k : Nat} {body : List Stmt} {h₀ : ExceptHandler} {hds : List ExceptHandler} {cs : List Value} {fb : MS} {l : List Hdl} (hio : T.io k = none)
    (hb : ∀ (W : WX) (pn : List (Addr × Obj)) (xe : Value → Shared → Prop), Takes (X.tr pn xe) W → PassesOwn (model X.prog X.w) X.A X.env xe → JSs (X.tr pn xe) g T W body fb)
    (hh : JHs X g T k n (h₀ :: hds) cs l) (hi : X.N[k]? = some n) (hln : X.env.kindOf n = some .local) (hN : X.N.Nodup) (hs : X.stack = X.env :: X.outer := by rfl) (hf : X.env.frame = some X.env.locals := by rfl) :
    JS X g T W (.Try body (h₀ :: hds) [] [] pos) (mtryL k fb l) := by
  refine PS.imp (TX.ps_try_asL (i := k) (tb := fun W => RdS g T W fb) hs hf hN hi hln (fun W pn xe tk po => hb W pn xe tk po) (jhs_hds hh)) fun D σ H ⟨B, s, R, p⟩ => ⟨B, s, R, ?_⟩
  unfold mtryL at p
  cases ef : fb s with
  | nx s' => rw [ef] at p; exact p
  | bk s' => rw [ef] at p; exact p
  | ct s' => rw [ef] at p; exact p
  | rt r s' => rw [ef] at p; exact p
  | bad => rw [ef] at p; exact p
  | ex c ds s1 =>
    rw [ef] at p
    intro x σ' B' H' R' e' hx
    exact jhs_w hio R' hx hh (PostS.base e' p)
end TW

set_option Elab.async false
set_option linter.all false
set_option autoImplicit false
set_option maxRecDepth 100000
set_option maxHeartbeats 2000000
/-! return (w, err.f) in a clause; {c: [x]} -/
namespace TW
open PySem PySem.Spec PyProof.Rows L2
variable {g : G} {T : Tx} {B B' H H' : Hp} {σ : L2.St} {s : S} {W : WX} {X : Cx} {e : Expr} {pos p : Pos}
theorem hret_eq {nm : Nat → List Str} {w f : Str} {k c : Nat} {a : Addr} {x : Option Addr} :
    (ms (mbind (mtup (mcons (mbind (mret (.str w)) fun d => mret (Opd.d d)) (mcons (mbind (mxfG nm f k a x c) fun d => mret (Opd.d d)) (mret [])))) fun d => mret (Rv.v d)) fun r s => .rt r s) = hret nm w f k a x c := by
  funext s
  have key : ∀ d, mxfG nm f k a x c s = .ok d s → (ms (mbind (mtup (mcons (mbind (mret (.str w)) fun d => mret (Opd.d d)) (mcons (mbind (mxfG nm f k a x c) fun d => mret (Opd.d d)) (mret [])))) fun d => mret (Rv.v d)) fun r s => OutS.rt r s) s = .rt (.v (.tup [.str w, d])) s := fun d h => by
    unfold ms mtup mcons mbind
    dsimp only [mret]
    rw [h]
    rfl
  have bad : mxfG nm f k a x c s = .bad → (ms (mbind (mtup (mcons (mbind (mret (.str w)) fun d => mret (Opd.d d)) (mcons (mbind (mxfG nm f k a x c) fun d => mret (Opd.d d)) (mret [])))) fun d => mret (Rv.v d)) fun r s => OutS.rt r s) s = .bad := fun h => by
    unfold ms mtup mcons mbind
    dsimp only [mret]
    rw [h]
  cases hk : s[k]? with
  | none =>
    have e1 : mxfG nm f k a x c s = .bad := by unfold mxfG; rw [hk]
    rw [bad e1]; unfold hret; rw [hk]
  | some y =>
    cases y with
    | v dd =>
      cases dd with
      | exc a' x' c' ds =>
        by_cases hq : a' = a ∧ x' = x ∧ c' = c
        · cases er : erN nm c f ds with
          | none =>
            have e1 : mxfG nm f k a x c s = .bad := by unfold mxfG; rw [hk]; dsimp only; rw [if_pos hq, er]
            rw [bad e1]; unfold hret; rw [hk]; dsimp only; rw [if_pos hq, er]
          | some d =>
            have e1 : mxfG nm f k a x c s = .ok d s := by unfold mxfG; rw [hk]; dsimp only; rw [if_pos hq, er]
            rw [key d e1]; unfold hret; rw [hk]; dsimp only; rw [if_pos hq, er]
        · have e1 : mxfG nm f k a x c s = .bad := by unfold mxfG; rw [hk]; dsimp only; rw [if_neg hq]
          rw [bad e1]; unfold hret; rw [hk]; dsimp only; rw [if_neg hq]
      | _ =>
        have e1 : mxfG nm f k a x c s = .bad := by unfold mxfG; rw [hk]
        rw [bad e1]; unfold hret; rw [hk]
    | _ =>
      have e1 : mxfG nm f k a x c s = .bad := by unfold mxfG; rw [hk]
      rw [bad e1]; unfold hret; rw [hk]
theorem hret_at {nm : Nat → List Str} {w f : Str} {k c : Nat} {a : Addr} {x : Option Addr} {ds : List D} {s1 : S} (hk : k < s1.length) : clrR k (hret nm w f k a x c (s1.set k (.v (.exc a x c ds)))) = match erN nm c f ds with
    | some d => .rt (.v (.tup [.str w, d])) (s1.set k .no)
    | none => .bad := by
  have e : (s1.set k (.v (.exc a x c ds)))[k]? = some (.v (.exc a x c ds)) := by simp [hk]
  unfold hret
  rw [e]
  dsimp only
  rw [if_pos ⟨rfl, rfl, rfl⟩]
  cases erN nm c f ds with
  | none => rfl
  | some d =>
    show (match clrS k _ with | some s' => OutS.rt _ s' | none => .bad) = _
    rw [clrS_set hk]
theorem hret_same {nm : Nat → List Str} {w f : Str} {k : Nat} (a : Addr) (x : Option Addr) (c : Nat) (ds : List D) (s1 : S) : clrR k (hret nm w f k a x c (s1.set k (.v (.exc a x c ds)))) = clrR k (hret nm w f k 0 none c (s1.set k (.v (.exc 0 none c ds)))) := by
  by_cases hk : k < s1.length
  · rw [hret_at hk, hret_at hk]
  · have e : ∀ y : Sl, (s1.set k y)[k]? = none := fun y => List.getElem?_eq_none (by simp; omega)
    unfold hret
    rw [e, e]
theorem jss_hret {nm : Nat → List Str} {k c : Nat} {a : Addr} {oe : Obj} {d : Option Addr} {pn : List (Addr × Obj)} {w f : Str} {kk : Nat} {p1 p2 p3 : Pos} {j} (hn : g.names = nm) (hF : ∀ c, f ∈ nm c → XfC X.K (g.cn c) ∧ PySem.W.findIn X.K (.ref (g.cn c)) f = some none)
    (hz : Zc (.ref (g.cn c)) d oe) (hf : ∃ vs, oe.data = .fields vs) (he : PE (X.suite a ((a, oe) :: pn)) e (tVar k)) (hb : attributeBase e f X.env (eval e X.env) = eval e X.env := by rfl)
    (hs1 : starEach (.Constant (.str w) j p1 :: [.Attribute e f p2]) X.env = (false, eval (.Constant (.str w) j p1) X.env) :: starEach [.Attribute e f p2] X.env := by rfl)
    (hs2 : starEach [.Attribute e f p2] X.env = (false, eval (.Attribute e f p2) X.env) :: starEach [] X.env := by rfl) :
    JSs (X.suite a ((a, oe) :: pn)) g T W [.Return (some (.Tuple [.Constant (.str w) j p1, .Attribute e f p2] kk p3)) pos] (hret nm w f k a d c) := by
  rw [← hret_eq]
  exact jss_one (js_ret (jr_of (je_tup (ja_cons (jo_of je_str) (ja_cons (jo_of (je_xfG hn hF hz hf he hb)) ja_nil hs2) hs1))))
/-! ## {c: [x]} -/
def mdctL (i : Nat) : M D := fun s => match s[i]? with
  | some (.v _) => .ok .dct s
  | _ => .bad
theorem je_dctL {ke ve : Expr} {p2 : Pos} {k : Key} {i : Nat} (hk : PE X ke (tC (kV k))) (hv : PE X ve (tVar i)) (hs : starEach [ve] X.env = (false, eval ve X.env) :: starEach [] X.env := by rfl) : JE X g T W (.Dict [some ke] [.List [ve] p2] pos) (mdctL i) := fun τ t =>
  PE.imp (pe_disp (pps_cons hk (pe_lst (pa_cons hv pa_nil hs)) pps_nil) rfl rfl (fun z => by cases z) (Nat.le_of_ble_eq_true rfl)) fun σ H Q ⟨B, s, R, p⟩ => fun q hq => by
    unfold mdctL at p
    cases hx : s[i]? with
    | none =>
      rw [hx] at p; exact p.elim
    | some x =>
      cases x with
      | v d =>
        rw [hx] at p
        obtain ⟨v, hv', hd⟩ := R.getv hx
        refine ⟨v, hv', Nat.le_of_ble_eq_true rfl, fun q2 hq2 => ?_⟩
        have ne : q2 ≠ q := fun z => by rw [z, upd_same] at hq2; cases hq2
        rw [upd_ne ne] at hq2
        refine ⟨by rw [upd_ne ne.symm]; exact upd_same, [(k, .ref q2)], rfl, Nat.le_of_ble_eq_true rfl, ?_⟩
        have R1 := R.new (o := .lst [v]) hq2
        have R2 := R1.new (p := q) (o := .dK (mergeK [] [(k, V.ref q2)])) (by rw [upd_ne ne.symm]; exact hq)
        have eh : upd (upd (upd H q (.dK [])) q2 (.lst [v])) q (.dK (mergeK [] [(k, V.ref q2)])) = upd (upd H q2 (.lst [v])) q (.dK (mergeK [] [(k, V.ref q2)])) := by
          funext b
          by_cases hb : b = q
          · subst hb; rw [upd_same, upd_same]
          · rw [upd_ne hb, upd_ne hb]
            by_cases hc : b = q2
            · subst hc; rw [upd_same, upd_same]
            · rw [upd_ne hc, upd_ne hc, upd_ne hb]
        show Q (.ref q) (upd (upd (upd H q (.dK [])) q2 (.lst [v])) q (.dK (mergeK [] [(k, V.ref q2)])))
        rw [eh]
        exact p (.ref q) _ _ R2 ((Evl.Ex.new (Evl.fresh_back R.bh hq2)).trans (Evl.Ex.new (by rw [upd_ne ne.symm]; exact Evl.fresh_back R.bh hq))) ⟨q, _, rfl, upd_same⟩
      | _ => rw [hx] at p; exact p.elim
end TW

set_option Elab.async false
set_option linter.all false
set_option autoImplicit false
set_option maxRecDepth 100000
set_option maxHeartbeats 2000000
/-! raise C(e, ..), any number of fields; what a law's head says of its errors' classes -/
namespace TW
open PySem PySem.Spec PyProof.Rows L2
variable {g : G} {T : Tx} {B B' H H' : Hp} {σ : L2.St} {s : S} {W : WX} {X : Cx} {e : Expr} {es : List Expr} {pos p p2 : Pos} {fa : M (List Opd)}
theorem js_raiseE {x : Str} {c j : Nat} {ps : List Str} (E : ErM X.prog X.w g X.base x c ps) (hr : Room j X.A) (tk : Takes X W) (ha : JA X g T W (e :: es) fa) (hc : X.calm = true := by rfl) (hj : 2 ≤ j := by decide) (hK : X.K = g.K := by rfl) (hmg : X.mg = g.mg := by rfl) (hg : Gl X x := by rfl)
    (hdb : (x == ("__debug__" : Str)) = false := by decide) (he : starEach (e :: es) X.env = (false, eval e X.env) :: starEach es X.env := by rfl) (hpl : (backTo pos (starEach es X.env)).any (·.1) = false := by rfl) :
    JS X g T W (.Raise (some (.Call (.Name x p) (e :: es) [] pos)) none p2) (mraise c (ps.drop 1).length fa) := by
  obtain ⟨fi, fd, T', i1, i2, m, F, b, hn, nd, few, _⟩ := E
  rw [← hK, ← hmg] at F
  rw [← hmg] at m
  rw [← hK] at T' i1 i2 b
  refine PS.imp (ps_raise hc tk (pmk_oex T' i1 i2 F (hr.mono hj) b .nil pass0 hg m (ha T.τ T.t) hdb he hpl)) fun D σ H ⟨B, s, R, p⟩ => (PostS.bind (P := PAs g) R p).mono fun vs H1 ⟨os, B1, s1, R1, e1, q1, p1⟩ => ?_
  rcases strongs_ex (os := os) (s := s1) with ⟨ds, w⟩ | w
  · rw [ms_ok w] at p1
    obtain ⟨_, hd⟩ := strongs_ok R1 q1 w
    by_cases hl : ds.length = (ps.drop 1).length
    · rw [if_pos hl] at p1
      have hv : vs.length = (ps.drop 1).length := by rw [hd.length]; exact hl
      refine ⟨by rw [hv, List.length_drop]; omega, fun a na => ⟨a, vs, by simp, hv, upd_same, fun dx ndx ne => ⟨rfl, dx, (List.zip (ps.drop 1) vs).reverse, upd_same, by rw [upd_ne ne, upd_same], ?_, ?_⟩⟩⟩
      · rw [upd_ne ne] at ndx; exact ndx
      · rw [upd_ne ne] at ndx
        have eh : upd (del (upd (upd (upd H1 a (exo a (g.cn c) none)) dx (exd dx (List.zip (ps.drop 1) vs).reverse)) a (exo a (g.cn c) (some dx))) a) dx (.xd (List.zip (ps.drop 1) vs).reverse) = upd H1 dx (.xd (List.zip (ps.drop 1) vs).reverse) := by
          funext b
          by_cases hb : b = dx
          · subst hb; rw [upd_same, upd_same]
          · rw [upd_ne hb, upd_ne hb]
            by_cases hc : b = a
            · subst hc; rw [del_same, na]
            · rw [del_ne hc, upd_ne hc, upd_ne hb, upd_ne hc]
        rw [eh]
        have nb : B1 dx = none := Evl.fresh_back R1.bh ndx
        exact p1 (some dx) σ _ _ (R1.new ndx) (Evl.Ex.new nb) (.inr ⟨dx, _, vs, rfl, upd_same, hd.mono (Evl.Ex.new nb), fun j f v hf hv' => by
          rw [hn] at hf
          exact lookup_zip nd hv hf hv'⟩)
    · rw [if_neg hl] at p1; exact p1.elim
  · rw [ms_bad w] at p1; exact p1.elim
/-! ## the head: many facts in one -/
def erB (K : PySem.W.Frag) (C fi : Addr) (fs : List Str) : Bool :=
  decide (PySem.W.findIn K (.ref C) "__getattribute__" = some (some (.builtin "BaseException.__getattribute__"))) && (decide (PySem.W.findIn K (.ref C) "__getattr__" = some none) && (decide (PySem.W.subIn K (.ref C) (.type "BaseException") = some true) && (PySem.W.hasDictIn K C &&
  (decide (PySem.W.findIn K (.ref C) "__class__" = some (some (.builtin "object.__class__"))) && (decide (PySem.W.mroIn K C (.type "object") = some true) && (decide (PySem.W.findIn K (.ref C) "__eq__" = some (some (.builtin "object.__eq__"))) &&
  (decide (PySem.W.findIn K (.ref C) "__ne__" = some (some (.builtin "object.__ne__"))) && (decide (PySem.W.subIn K (.ref C) (.type "object") = some true) && (decide (PySem.W.findIn K (.ref C) "__setattr__" = some (some (.builtin "object.__setattr__"))) &&
  (decide (PySem.W.typeIn K (.ref C) = some (.type "type")) && (PySem.W.keepIn K (.ref C) && (fs.all (fun f => decide (PySem.W.findIn K (.ref C) f = some none)) && (fs.isEmpty || (decide (PySem.W.findIn K (.ref C) "__init__" = some (some (.ref fi))) && decide (PySem.W.typeIn K (.ref fi) = some (.type "function"))))))))))))))))
structure ErB (K : PySem.W.Frag) (C fi : Addr) (fs : List Str) : Prop where
  xf : XfC K C
  ha : PySem.W.findIn K (.ref C) "__class__" = some (some (.builtin "object.__class__"))
  hm : PySem.W.mroIn K C (.type "object") = some true
  eq : EqC K C
  sa : PySem.W.findIn K (.ref C) "__setattr__" = some (some (.builtin "object.__setattr__"))
  ty : PySem.W.typeIn K (.ref C) = some (.type "type")
  kp : PySem.W.keepIn K (.ref C) = true
  no : ∀ f ∈ fs, PySem.W.findIn K (.ref C) f = some none
  ini : fs ≠ [] → PySem.W.findIn K (.ref C) "__init__" = some (some (.ref fi)) ∧ PySem.W.typeIn K (.ref fi) = some (.type "function")
theorem erB_ok {K : PySem.W.Frag} {C fi : Addr} {fs : List Str} (h : erB K C fi fs = true) : ErB K C fi fs := by
  unfold erB at h
  simp only [Bool.and_eq_true, decide_eq_true_eq] at h
  obtain ⟨h1, h2, h3, h4, h5, h6, h7, h8, h9, h10, h11, h12, h13, h14⟩ := h
  refine ⟨⟨h1, h2, h3, h4⟩, h5, h6, ⟨h7, h8, h9⟩, h10, h11, h12, fun f hf => of_decide_eq_true (List.all_eq_true.mp h13 f hf), fun hne => ?_⟩
  rcases Bool.or_eq_true_iff.mp h14 with z | z
  · exact absurd (List.isEmpty_iff.mp z) hne
  · obtain ⟨z1, z2⟩ := Bool.and_eq_true_iff.mp z
    exact ⟨of_decide_eq_true z1, of_decide_eq_true z2⟩
theorem ErB.erC {K : PySem.W.Frag} {C fi : Addr} {fs : List Str} (h : ErB K C fi fs) (hn : PySem.W.specialIn K (.builtin "object.__class__") "__get__" = some (some (.builtin "getset_descriptor.__get__"))) (ht : PySem.W.takesIn K (.builtin "object.__class__") = some true) : TX.ErC K C := ⟨h.xf, h.ha, hn, ht, h.hm⟩
/-- one class against many -/
def kitRow (K : PySem.W.Frag) (D : Addr) (us : List Value) (bs : List Bool) : Bool := (us.zip bs).all fun p => decide (PySem.W.kitOne K (.ref D) p.1 = some p.2)
def exmRow (K : PySem.W.Frag) (D : Addr) (us : List Value) (bs : List Bool) : Bool := (us.zip bs).all fun p => decide (PySem.W.exmOne K (.ref D) p.1 = some p.2)
theorem kitRow_get {K : PySem.W.Frag} {D : Addr} {us : List Value} {bs : List Bool} (h : kitRow K D us bs = true) {i : Nat} {u : Value} {b : Bool} (h1 : us[i]? = some u) (h2 : bs[i]? = some b) : PySem.W.kitOne K (.ref D) u = some b :=
  of_decide_eq_true (List.all_eq_true.mp h (u, b) (List.mem_of_getElem? (i := i) (by rw [List.getElem?_zip_eq_some]; exact ⟨h1, h2⟩)))
theorem exmRow_get {K : PySem.W.Frag} {D : Addr} {us : List Value} {bs : List Bool} (h : exmRow K D us bs = true) {i : Nat} {u : Value} {b : Bool} (h1 : us[i]? = some u) (h2 : bs[i]? = some b) : PySem.W.exmOne K (.ref D) u = some b :=
  of_decide_eq_true (List.all_eq_true.mp h (u, b) (List.mem_of_getElem? (i := i) (by rw [List.getElem?_zip_eq_some]; exact ⟨h1, h2⟩)))
def kitRowAny (K : PySem.W.Frag) (D : Addr) (us : List Value) (b : Bool) : Bool := decide (PySem.W.kitAny K (.ref D) us = some b)
theorem kitAny_get {K : PySem.W.Frag} {D : Addr} {us : List Value} {b : Bool} (h : kitRowAny K D us b = true) : PySem.W.kitAny K (.ref D) us = some b := of_decide_eq_true h
end TW

set_option Elab.async false
set_option linter.all false
set_option autoImplicit false
set_option maxRecDepth 100000
set_option maxHeartbeats 4000000
namespace K00
open PySem PySem.Spec PyProof.Rows L2 TW TX
def top (i : Nat) : Stmt := PySem.Challenge.pw_thincoins_k00_errors_keep_their_fields.main.body.getD i (.Pass ⟨0, 0, 0, 0⟩)
def nm : Nat → List Str
  | 101 => ["part"]
  | 102 => ["part"]
  | 103 => ["part"]
  | 104 => ["part"]
  | 105 => ["part"]
  | 106 => ["part"]
  | 107 => ["part"]
  | 108 => ["part"]
  | 109 => ["part"]
  | 110 => ["part"]
  | 111 => ["part"]
  | 112 => ["part"]
  | 113 => ["value"]
  | 114 => ["value"]
  | 115 => ["value"]
  | 116 => ["value"]
  | 117 => ["value"]
  | 118 => ["value"]
  | 119 => ["paper"]
  | 120 => ["what", "most"]
  | 121 => []
  | 122 => ["line", "item"]
  | 123 => ["line", "error"]
  | 124 => ["value"]
  | 125 => []
  | _ => []
def isE (c : Nat) : Bool := decide (101 ≤ c) && decide (c ≤ 124)
def ecB (c : Nat) : Bool := c == 113
def isf_BadNumber (c : Nat) : Option Bool := if isE c = true then some (c == 101) else none
def isf_BadRatio (c : Nat) : Option Bool := if isE c = true then some (c == 102) else none
def isf_BadLot (c : Nat) : Option Bool := if isE c = true then some (c == 103) else none
def isf_BadBook (c : Nat) : Option Bool := if isE c = true then some (c == 104) else none
def isf_BadWeb (c : Nat) : Option Bool := if isE c = true then some (c == 105) else none
def isf_BadPolynomial (c : Nat) : Option Bool := if isE c = true then some (c == 106) else none
def isf_BadQuotient (c : Nat) : Option Bool := if isE c = true then some (c == 107) else none
def isf_BadQuestion (c : Nat) : Option Bool := if isE c = true then some (c == 108) else none
def isf_BadTown (c : Nat) : Option Bool := if isE c = true then some (c == 109) else none
def isf_BadPaper (c : Nat) : Option Bool := if isE c = true then some (c == 110) else none
def isf_BadDesk (c : Nat) : Option Bool := if isE c = true then some (c == 111) else none
def isf_Misfit (c : Nat) : Option Bool := if isE c = true then some (c == 112) else none
def isf_NoPoint (c : Nat) : Option Bool := if isE c = true then some (c == 113) else none
def isf_NoTie (c : Nat) : Option Bool := if isE c = true then some (c == 114) else none
def isf_NoSort (c : Nat) : Option Bool := if isE c = true then some (c == 115) else none
def isf_NoKind (c : Nat) : Option Bool := if isE c = true then some (c == 116) else none
def isf_NoName (c : Nat) : Option Bool := if isE c = true then some (c == 117) else none
def isf_Twice (c : Nat) : Option Bool := if isE c = true then some (c == 118) else none
def isf_Impossible (c : Nat) : Option Bool := if isE c = true then some (c == 119) else none
def isf_TooMany (c : Nat) : Option Bool := if isE c = true then some (c == 120) else none
def isf_Nothing (c : Nat) : Option Bool := if isE c = true then some (c == 121) else none
def isf_BadText (c : Nat) : Option Bool := if isE c = true then some (c == 122) else none
def isf_BadLine (c : Nat) : Option Bool := if isE c = true then some (c == 123) else none
def isf_Missing (c : Nat) : Option Bool := if isE c = true then some ((decide (113 ≤ c) && decide (c ≤ 117)) || c == 124) else none
def isf_ThinError (c : Nat) : Option Bool := if isE c = true then some true else none
def isf_ValueError (c : Nat) : Option Bool := if isE c = true then some true else none
def isf_LookupError_TypeError_5 (c : Nat) : Option Bool := if isE c = true then some false else none
def isf_NoPoint_NoTie_6 (c : Nat) : Option Bool := if isE c = true then some (decide (113 ≤ c) && decide (c ≤ 118)) else none
section
abbrev s__law_bag : Stmt := top 27
abbrev N__law_bag : List Str := ["_law_script", "_law_number", "_law_cell"]
abbrev p__law_bag : List Str := ["_law_script"]
def li__law_bag_1 (fu : Nat) : M (List D) :=
    (mwalk (mbind (mslice (mvar 0) (mret none) (mpart (mret (D.int 40)))) fun r => mret (Rv.d r)))
def lb__law_bag_1 (fu : Nat) : MS :=
    (ms (mbind (mbin dAdd (mbind (mbin dMul (mvar 1) (mbind (mret (D.int 1000621)) fun d => mret (Opd.d d))) fun d => mret (Opd.d d)) (mbind (mbin dMod (mbind (mbin dAdd (mbind (mbin dMul (mbind (mret (D.int 2)) fun d => mret (Opd.d d)) (mbind (mbind (mcb (on1 absD) (mcons (mbind (mbind (mcb (on1 intOf) (mcons (mvar 2) (mret []))) fun r => mret (Rv.d r)) fun d => mret (Opd.d d)) (mret []))) fun r => mret (Rv.d r)) fun d => mret (Opd.d d))) fun d => mret (Opd.d d)) (mbind (mbind (mcb (on1 intOf) (mcons (mbind (mbin dLt (mvar 2) (mbind (mret (D.int 0)) fun d => mret (Opd.d d))) fun d => mret (Opd.d d)) (mret []))) fun r => mret (Rv.d r)) fun d => mret (Opd.d d))) fun d => mret (Opd.d d)) (mbind (mbin dPowB (mbind (mbin dPow (mbind (mret (D.int 10)) fun d => mret (Opd.d d)) (mbind (mret (D.int 60)) fun d => mret (Opd.d d))) fun d => mret (Opd.d d)) (mbind (mret (D.int 5)) fun d => mret (Opd.d d))) fun d => mret (Opd.d d))) fun d => mret (Opd.d d))) fun d => mret (Rv.v d)) fun r => stSet 1 (Rv.sl r))
def l__law_bag_1 (fu : Nat) : MS :=
    mfor (li__law_bag_1 fu) (tgName 2) (lb__law_bag_1 fu)
def b__law_bag (fu : Nat) : MS :=
    (mseq (ms (mbind (mret (D.int 131)) fun d => mret (Rv.v d)) fun r => stSet 1 (Rv.sl r))
    (mseq (l__law_bag_1 fu)
    (ms (mlst (mcons (mvar 1) (mcons (mbind (mret (D.int 0)) fun d => mret (Opd.d d)) (mcons (mbind (mbin dMod (mbind (mbind (mcb (on1 intOf) (mcons (mvar 1) (mret []))) fun r => mret (Rv.d r)) fun d => mret (Opd.d d)) (mbind (mret (D.int 998244353)) fun d => mret (Opd.d d))) fun d => mret (Opd.d d)) (mret []))))) fun r s => OutS.rt r s)))
def d__law_bag (fu : Nat) : Fd := fnD 3 1 (b__law_bag fu)

abbrev s__law_pull : Stmt := top 28
abbrev N__law_pull : List Str := ["_law_bag_here", "_law_many", "_law_digit"]
abbrev p__law_pull : List Str := ["_law_bag_here", "_law_many"]
def b__law_pull (fu : Nat) : MS :=
    (mseq (mcond (mbind (mbin dEqS (mbind (mbin dIx (mvar 0) (mbind (mret (D.int 0)) fun d => mret (Opd.d d))) fun d => mret (Opd.d d)) (mbind (mret (D.int 0)) fun d => mret (Opd.d d))) tob) (mseq (mseti 0 (mbin dAdd (mbind (mbin dIx (mvar 0) (mbind (mret (D.int 1)) fun d => mret (Opd.d d))) fun d => mret (Opd.d d)) (mbind (mret (D.int 1)) fun d => mret (Opd.d d))) (mret (D.int 1)))
    (mseti 0 (mbin dPow (mbind (mbin dAdd (mbind (mbin dAdd (mbind (mbin dMul (mbind (mbin dIx (mvar 0) (mbind (mret (D.int 2)) fun d => mret (Opd.d d))) fun d => mret (Opd.d d)) (mbind (mbin dAdd (mbind (mbin dMul (mbind (mret (D.int 2)) fun d => mret (Opd.d d)) (mbind (mbin dIx (mvar 0) (mbind (mret (D.int 1)) fun d => mret (Opd.d d))) fun d => mret (Opd.d d))) fun d => mret (Opd.d d)) (mbind (mret (D.int 1)) fun d => mret (Opd.d d))) fun d => mret (Opd.d d))) fun d => mret (Opd.d d)) (mbind (mbin dMul (mbind (mret (D.int 90523)) fun d => mret (Opd.d d)) (mbind (mbin dIx (mvar 0) (mbind (mret (D.int 1)) fun d => mret (Opd.d d))) fun d => mret (Opd.d d))) fun d => mret (Opd.d d))) fun d => mret (Opd.d d)) (mbind (mret (D.int 47)) fun d => mret (Opd.d d))) fun d => mret (Opd.d d)) (mbind (mret (D.int 3)) fun d => mret (Opd.d d))) (mret (D.int 0)))) (fun s => OutS.nx s))
    (mseq (ms (mbind (mbin dMod (mbind (mbind (mcb (on1 intOf) (mcons (mbind (mbin dIx (mvar 0) (mbind (mret (D.int 0)) fun d => mret (Opd.d d))) fun d => mret (Opd.d d)) (mret []))) fun r => mret (Rv.d r)) fun d => mret (Opd.d d)) (mvar 1)) fun d => mret (Rv.v d)) fun r => stSet 2 (Rv.sl r))
    (mseq (mseti 0 (mbin dDiv (mbind (mbind (mcb (on1 intOf) (mcons (mbind (mbin dIx (mvar 0) (mbind (mret (D.int 0)) fun d => mret (Opd.d d))) fun d => mret (Opd.d d)) (mret []))) fun r => mret (Rv.d r)) fun d => mret (Opd.d d)) (mvar 1)) (mret (D.int 0)))
    (ms (mbind (mbind (mvar 2) strong) fun d => mret (Rv.v d)) fun r s => OutS.rt r s))))
def d__law_pull (fu : Nat) : Fd := fnD 3 2 (b__law_pull fu)

abbrev s__law_field : Stmt := top 29
abbrev N__law_field : List Str := ["_law_bag_here", "_law_way", "_law_great", "_law_small"]
abbrev p__law_field : List Str := ["_law_bag_here"]
def st__law_field_1 (fu : Nat) : MS :=
    (mpar3 1 2 3 (mcons (mbind (mbind (mcall (d__law_pull fu) [] (mcons (mvar 0) (mcons (mbind (mret (D.int 11)) fun d => mret (Opd.d d)) (mret [])))) fun r => mret (Rv.d r)) fun d => mret (Opd.d d)) (mcons (mbind (mbin dSub (mbind (mbind (mcall (d__law_pull fu) [] (mcons (mvar 0) (mcons (mbind (mbin dPow (mbind (mret (D.int 10)) fun d => mret (Opd.d d)) (mbind (mret (D.int 22)) fun d => mret (Opd.d d))) fun d => mret (Opd.d d)) (mret [])))) fun r => mret (Rv.d r)) fun d => mret (Opd.d d)) (mbind (mbin dPow (mbind (mret (D.int 10)) fun d => mret (Opd.d d)) (mbind (mret (D.int 21)) fun d => mret (Opd.d d))) fun d => mret (Opd.d d))) fun d => mret (Opd.d d)) (mcons (mbind (mbind (mcall (d__law_pull fu) [] (mcons (mvar 0) (mcons (mbind (mret (D.int 50)) fun d => mret (Opd.d d)) (mret [])))) fun r => mret (Rv.d r)) fun d => mret (Opd.d d)) (mret [])))))
def st__law_field_2 (fu : Nat) : MS :=
    (mcond (mbind (mbin dLt (mvar 1) (mbind (mret (D.int 3)) fun d => mret (Opd.d d))) tob) (ms (mbind (mbin dIx (mbind (mbind (mbind (mbind (mlst (mcons (mvar 2) (mcons (mvar 3) (mcons (mbind (mun dNeg (mvar 3)) fun d => mret (Opd.d d)) (mret []))))) fun r => mret (Rv.d r)) fun d => mret (Rv.v d)) fun r => mret (Rv.d r)) fun d => mret (Opd.d d)) (mvar 1)) fun d => mret (Rv.v d)) fun r s => OutS.rt r s) (fun s => OutS.nx s))
def st__law_field_3 (fu : Nat) : MS :=
    (mcond (mbind (mbin dLt (mvar 1) (mbind (mret (D.int 6)) fun d => mret (Opd.d d))) tob) (ms (mbind (mbin dIx (mbind (mbind (mbind (mbind (mlst (mcons (mbind (mbin dAddX (mbind (mret (D.str "web")) fun d => mret (Opd.d d)) (mbind (mbind (mcb (on1 strOf) (mcons (mvar 3) (mret []))) fun r => mret (Rv.d r)) fun d => mret (Opd.d d))) fun d => mret (Opd.d d)) (mcons (mbind (mret (D.str "")) fun d => mret (Opd.d d)) (mcons (mbind (mret D.non) fun d => mret (Opd.d d)) (mret []))))) fun r => mret (Rv.d r)) fun d => mret (Rv.v d)) fun r => mret (Rv.d r)) fun d => mret (Opd.d d)) (mbind (mbin dSub (mvar 1) (mbind (mret (D.int 3)) fun d => mret (Opd.d d))) fun d => mret (Opd.d d))) fun d => mret (Rv.v d)) fun r s => OutS.rt r s) (fun s => OutS.nx s))
def st__law_field_4 (fu : Nat) : MS :=
    (mcond (mbind (mbin dEqS (mvar 1) (mbind (mret (D.int 6)) fun d => mret (Opd.d d))) tob) (ms (mbind (mbin dLt (mvar 3) (mbind (mret (D.int 25)) fun d => mret (Opd.d d))) fun d => mret (Rv.v d)) fun r s => OutS.rt r s) (fun s => OutS.nx s))
def st__law_field_5 (fu : Nat) : MS :=
    (mcond (mbind (mbin dEqS (mvar 1) (mbind (mret (D.int 7)) fun d => mret (Opd.d d))) tob) (ms (mbind (mbind (mlst (mcons (mvar 3) (mcons (mbind (mbind (mbind (mbind (mlst (mcons (mvar 2) (mcons (mbind (mret D.non) fun d => mret (Opd.d d)) (mret [])))) fun r => mret (Rv.d r)) fun d => mret (Rv.v d)) fun r => mret (Rv.d r)) fun d => mret (Opd.d d)) (mcons (mbind (mret (D.str "a")) fun d => mret (Opd.d d)) (mret []))))) fun r => mret (Rv.d r)) fun d => mret (Rv.v d)) fun r s => OutS.rt r s) (fun s => OutS.nx s))
def st__law_field_6 (fu : Nat) : MS :=
    (mcond (mbind (mbin dEqS (mvar 1) (mbind (mret (D.int 8)) fun d => mret (Opd.d d))) tob) (ms (mbind (mtup (mcons (mvar 2) (mcons (mbind (mtup (mcons (mvar 3) (mcons (mbind (mbind (mbind (mbind (mlst (mret [])) fun r => mret (Rv.d r)) fun d => mret (Rv.v d)) fun r => mret (Rv.d r)) fun d => mret (Opd.d d)) (mret [])))) fun d => mret (Opd.d d)) (mret [])))) fun d => mret (Rv.v d)) fun r s => OutS.rt r s) (fun s => OutS.nx s))
def st__law_field_7 (fu : Nat) : MS :=
    (ms (mbind (mif (mbind (mbin dEqS (mvar 1) (mbind (mret (D.int 9)) fun d => mret (Opd.d d))) tob) (mdctL 3) (mbind (mbind (merr 113 1 false (mcons (mvar 3) (mret []))) fun d => mret (Rv.v d)) fun r => mret (Rv.d r))) fun d => mret (Rv.v d)) fun r s => OutS.rt r s)
def b__law_field (fu : Nat) : MS :=
    (mseq (st__law_field_1 fu)
    (mseq (st__law_field_2 fu)
    (mseq (st__law_field_3 fu)
    (mseq (st__law_field_4 fu)
    (mseq (st__law_field_5 fu)
    (mseq (st__law_field_6 fu)
    (st__law_field_7 fu)))))))
def d__law_field (fu : Nat) : Fd := fnD 4 1 (b__law_field fu)

abbrev s__law_is_one : Stmt := top 30
abbrev N__law_is_one : List Str := ["_law_error", "_law_number", "_law_told", "_law_spot"]
abbrev p__law_is_one : List Str := ["_law_error", "_law_number"]
def st__law_is_one_1 (fu : Nat) : MS :=
    (ms (mlst (mcons (mbind (misE isf_BadNumber (mvar 0)) fun d => mret (Opd.d d)) (mcons (mbind (misE isf_BadRatio (mvar 0)) fun d => mret (Opd.d d)) (mcons (mbind (misE isf_BadLot (mvar 0)) fun d => mret (Opd.d d)) (mcons (mbind (misE isf_BadBook (mvar 0)) fun d => mret (Opd.d d)) (mret [])))))) fun r => stSet 2 (Rv.sl r))
def st__law_is_one_2 (fu : Nat) : MS :=
    (ms (mbinR dCat (mvarF 2) (mbind (mbind (mlst (mcons (mbind (misE isf_BadWeb (mvar 0)) fun d => mret (Opd.d d)) (mcons (mbind (misE isf_BadPolynomial (mvar 0)) fun d => mret (Opd.d d)) (mcons (mbind (misE isf_BadQuotient (mvar 0)) fun d => mret (Opd.d d)) (mret []))))) fun r => mret (Rv.d r)) fun d => mret (Opd.d d))) fun r => stSet 2 (Rv.sl r))
def st__law_is_one_3 (fu : Nat) : MS :=
    (ms (mbinR dCat (mvarF 2) (mbind (mbind (mlst (mcons (mbind (misE isf_BadQuestion (mvar 0)) fun d => mret (Opd.d d)) (mcons (mbind (misE isf_BadTown (mvar 0)) fun d => mret (Opd.d d)) (mcons (mbind (misE isf_BadPaper (mvar 0)) fun d => mret (Opd.d d)) (mcons (mbind (misE isf_BadDesk (mvar 0)) fun d => mret (Opd.d d)) (mret [])))))) fun r => mret (Rv.d r)) fun d => mret (Opd.d d))) fun r => stSet 2 (Rv.sl r))
def st__law_is_one_4 (fu : Nat) : MS :=
    (ms (mbinR dCat (mvarF 2) (mbind (mbind (mlst (mcons (mbind (misE isf_Misfit (mvar 0)) fun d => mret (Opd.d d)) (mcons (mbind (misE isf_NoPoint (mvar 0)) fun d => mret (Opd.d d)) (mcons (mbind (misE isf_NoTie (mvar 0)) fun d => mret (Opd.d d)) (mcons (mbind (misE isf_NoSort (mvar 0)) fun d => mret (Opd.d d)) (mret [])))))) fun r => mret (Rv.d r)) fun d => mret (Opd.d d))) fun r => stSet 2 (Rv.sl r))
def st__law_is_one_5 (fu : Nat) : MS :=
    (ms (mbinR dCat (mvarF 2) (mbind (mbind (mlst (mcons (mbind (misE isf_NoKind (mvar 0)) fun d => mret (Opd.d d)) (mcons (mbind (misE isf_NoName (mvar 0)) fun d => mret (Opd.d d)) (mcons (mbind (misE isf_Twice (mvar 0)) fun d => mret (Opd.d d)) (mcons (mbind (misE isf_Impossible (mvar 0)) fun d => mret (Opd.d d)) (mret [])))))) fun r => mret (Rv.d r)) fun d => mret (Opd.d d))) fun r => stSet 2 (Rv.sl r))
def st__law_is_one_6 (fu : Nat) : MS :=
    (ms (mbinR dCat (mvarF 2) (mbind (mbind (mlst (mcons (mbind (misE isf_TooMany (mvar 0)) fun d => mret (Opd.d d)) (mcons (mbind (misE isf_Nothing (mvar 0)) fun d => mret (Opd.d d)) (mcons (mbind (misE isf_BadText (mvar 0)) fun d => mret (Opd.d d)) (mcons (mbind (misE isf_BadLine (mvar 0)) fun d => mret (Opd.d d)) (mret [])))))) fun r => mret (Rv.d r)) fun d => mret (Opd.d d))) fun r => stSet 2 (Rv.sl r))
def ci__law_is_one_1 (fu : Nat) : M (List D) :=
    (mrng rng1 (mcons (mbind (mret (D.int 23)) fun d => mret (Opd.d d)) (mret [])))
def ct__law_is_one_1 (fu : Nat) : M Bool :=
    (mret true)
def ce__law_is_one_1 (fu : Nat) : M D :=
    (mbin dEqS (mvar 3) (mvar 1))
def c__law_is_one_1 (fu : Nat) : M Rv :=
    mlc [3] (ci__law_is_one_1 fu) (tgName 3) (ct__law_is_one_1 fu) (ce__law_is_one_1 fu)
def st__law_is_one_7 (fu : Nat) : MS :=
    (mcond (mif (mbind (mbin dNeS (mvarF 2) (mbind (mbind (c__law_is_one_1 fu) fun r => mret (Rv.d r)) fun d => mret (Opd.d d))) tob) (mret true) (mbind (mbin dNeS (mbind (misE isf_Missing (mvar 0)) fun d => mret (Opd.d d)) (mbind (mchain dLe dLt (mbind (mret (D.int 12)) fun d => mret (Opd.d d)) (mvar 1) (mbind (mret (D.int 17)) fun d => mret (Opd.d d))) fun d => mret (Opd.d d))) tob)) (ms (mbind (mret (D.bl false)) fun d => mret (Rv.v d)) fun r s => OutS.rt r s) (fun s => OutS.nx s))
def st__law_is_one_8 (fu : Nat) : MS :=
    (mcond (mif (mbind (mbind (mbind (misE isf_ThinError (mvar 0)) fun d => mret (Opd.d d)) fun o => mbind (res o) fun d => mopt (truD d)) fun b => mret (!b)) (mret true) (mbind (mbind (mbind (misE isf_ValueError (mvar 0)) fun d => mret (Opd.d d)) fun o => mbind (res o) fun d => mopt (truD d)) fun b => mret (!b))) (ms (mbind (mret (D.bl false)) fun d => mret (Rv.v d)) fun r s => OutS.rt r s) (fun s => OutS.nx s))
def st__law_is_one_9 (fu : Nat) : MS :=
    (ms (mbind (mnotV (misE isf_LookupError_TypeError_5 (mvar 0))) fun d => mret (Rv.v d)) fun r s => OutS.rt r s)
def b__law_is_one (fu : Nat) : MS :=
    (mseq (st__law_is_one_1 fu)
    (mseq (st__law_is_one_2 fu)
    (mseq (st__law_is_one_3 fu)
    (mseq (st__law_is_one_4 fu)
    (mseq (st__law_is_one_5 fu)
    (mseq (st__law_is_one_6 fu)
    (mseq (st__law_is_one_7 fu)
    (mseq (st__law_is_one_8 fu)
    (st__law_is_one_9 fu)))))))))
def d__law_is_one (fu : Nat) : Fd := fnD 4 2 (b__law_is_one fu)

abbrev s__law_by_place : Stmt := top 31
abbrev N__law_by_place : List Str := ["_law_field_here", "_law_made"]
abbrev p__law_by_place : List Str := ["_law_field_here"]
def st__law_by_place_1 (fu : Nat) : MS :=
    (ms (mlst (mcons (mbind (mbind (mbind (merr 101 1 false (mcons (mvar 0) (mret []))) fun d => mret (Rv.v d)) fun r => mret (Rv.d r)) fun d => mret (Opd.d d)) (mcons (mbind (mbind (mbind (merr 102 1 false (mcons (mvar 0) (mret []))) fun d => mret (Rv.v d)) fun r => mret (Rv.d r)) fun d => mret (Opd.d d)) (mcons (mbind (mbind (mbind (merr 103 1 false (mcons (mvar 0) (mret []))) fun d => mret (Rv.v d)) fun r => mret (Rv.d r)) fun d => mret (Opd.d d)) (mcons (mbind (mbind (mbind (merr 104 1 false (mcons (mvar 0) (mret []))) fun d => mret (Rv.v d)) fun r => mret (Rv.d r)) fun d => mret (Opd.d d)) (mcons (mbind (mbind (mbind (merr 105 1 false (mcons (mvar 0) (mret []))) fun d => mret (Rv.v d)) fun r => mret (Rv.d r)) fun d => mret (Opd.d d)) (mcons (mbind (mbind (mbind (merr 106 1 false (mcons (mvar 0) (mret []))) fun d => mret (Rv.v d)) fun r => mret (Rv.d r)) fun d => mret (Opd.d d)) (mret [])))))))) fun r => stSet 1 (Rv.sl r))
def st__law_by_place_2 (fu : Nat) : MS :=
    (ms (mbinR dCat (mvarF 1) (mbind (mbind (mlst (mcons (mbind (mbind (mbind (merr 107 1 false (mcons (mvar 0) (mret []))) fun d => mret (Rv.v d)) fun r => mret (Rv.d r)) fun d => mret (Opd.d d)) (mcons (mbind (mbind (mbind (merr 108 1 false (mcons (mvar 0) (mret []))) fun d => mret (Rv.v d)) fun r => mret (Rv.d r)) fun d => mret (Opd.d d)) (mcons (mbind (mbind (mbind (merr 109 1 false (mcons (mvar 0) (mret []))) fun d => mret (Rv.v d)) fun r => mret (Rv.d r)) fun d => mret (Opd.d d)) (mcons (mbind (mbind (mbind (merr 110 1 false (mcons (mvar 0) (mret []))) fun d => mret (Rv.v d)) fun r => mret (Rv.d r)) fun d => mret (Opd.d d)) (mcons (mbind (mbind (mbind (merr 111 1 false (mcons (mvar 0) (mret []))) fun d => mret (Rv.v d)) fun r => mret (Rv.d r)) fun d => mret (Opd.d d)) (mcons (mbind (mbind (mbind (merr 112 1 false (mcons (mvar 0) (mret []))) fun d => mret (Rv.v d)) fun r => mret (Rv.d r)) fun d => mret (Opd.d d)) (mret [])))))))) fun r => mret (Rv.d r)) fun d => mret (Opd.d d))) fun r => stSet 1 (Rv.sl r))
def st__law_by_place_3 (fu : Nat) : MS :=
    (ms (mbinR dCat (mvarF 1) (mbind (mbind (mlst (mcons (mbind (mbind (mbind (merr 113 1 false (mcons (mvar 0) (mret []))) fun d => mret (Rv.v d)) fun r => mret (Rv.d r)) fun d => mret (Opd.d d)) (mcons (mbind (mbind (mbind (merr 114 1 false (mcons (mvar 0) (mret []))) fun d => mret (Rv.v d)) fun r => mret (Rv.d r)) fun d => mret (Opd.d d)) (mcons (mbind (mbind (mbind (merr 115 1 false (mcons (mvar 0) (mret []))) fun d => mret (Rv.v d)) fun r => mret (Rv.d r)) fun d => mret (Opd.d d)) (mcons (mbind (mbind (mbind (merr 116 1 false (mcons (mvar 0) (mret []))) fun d => mret (Rv.v d)) fun r => mret (Rv.d r)) fun d => mret (Opd.d d)) (mcons (mbind (mbind (mbind (merr 117 1 false (mcons (mvar 0) (mret []))) fun d => mret (Rv.v d)) fun r => mret (Rv.d r)) fun d => mret (Opd.d d)) (mcons (mbind (mbind (mbind (merr 118 1 false (mcons (mvar 0) (mret []))) fun d => mret (Rv.v d)) fun r => mret (Rv.d r)) fun d => mret (Opd.d d)) (mcons (mbind (mbind (mbind (merr 119 1 false (mcons (mvar 0) (mret []))) fun d => mret (Rv.v d)) fun r => mret (Rv.d r)) fun d => mret (Opd.d d)) (mret []))))))))) fun r => mret (Rv.d r)) fun d => mret (Opd.d d))) fun r s => OutS.rt r s)
def b__law_by_place (fu : Nat) : MS :=
    (mseq (st__law_by_place_1 fu)
    (mseq (st__law_by_place_2 fu)
    (st__law_by_place_3 fu)))
def d__law_by_place (fu : Nat) : Fd := fnD 2 1 (b__law_by_place fu)

abbrev s__law_by_name : Stmt := top 32
abbrev N__law_by_name : List Str := ["_law_field_here", "_law_made"]
abbrev p__law_by_name : List Str := ["_law_field_here"]
def st__law_by_name_1 (fu : Nat) : MS :=
    (ms (mlst (mcons (mbind (mbind (mbind (merr 101 1 false (mcons (mvar 0) (mret []))) fun d => mret (Rv.v d)) fun r => mret (Rv.d r)) fun d => mret (Opd.d d)) (mcons (mbind (mbind (mbind (merr 102 1 false (mcons (mvar 0) (mret []))) fun d => mret (Rv.v d)) fun r => mret (Rv.d r)) fun d => mret (Opd.d d)) (mcons (mbind (mbind (mbind (merr 103 1 false (mcons (mvar 0) (mret []))) fun d => mret (Rv.v d)) fun r => mret (Rv.d r)) fun d => mret (Opd.d d)) (mcons (mbind (mbind (mbind (merr 104 1 false (mcons (mvar 0) (mret []))) fun d => mret (Rv.v d)) fun r => mret (Rv.d r)) fun d => mret (Opd.d d)) (mcons (mbind (mbind (mbind (merr 105 1 false (mcons (mvar 0) (mret []))) fun d => mret (Rv.v d)) fun r => mret (Rv.d r)) fun d => mret (Opd.d d)) (mret []))))))) fun r => stSet 1 (Rv.sl r))
def st__law_by_name_2 (fu : Nat) : MS :=
    (ms (mbinR dCat (mvarF 1) (mbind (mbind (mlst (mcons (mbind (mbind (mbind (merr 106 1 false (mcons (mvar 0) (mret []))) fun d => mret (Rv.v d)) fun r => mret (Rv.d r)) fun d => mret (Opd.d d)) (mcons (mbind (mbind (mbind (merr 107 1 false (mcons (mvar 0) (mret []))) fun d => mret (Rv.v d)) fun r => mret (Rv.d r)) fun d => mret (Opd.d d)) (mcons (mbind (mbind (mbind (merr 108 1 false (mcons (mvar 0) (mret []))) fun d => mret (Rv.v d)) fun r => mret (Rv.d r)) fun d => mret (Opd.d d)) (mcons (mbind (mbind (mbind (merr 109 1 false (mcons (mvar 0) (mret []))) fun d => mret (Rv.v d)) fun r => mret (Rv.d r)) fun d => mret (Opd.d d)) (mret [])))))) fun r => mret (Rv.d r)) fun d => mret (Opd.d d))) fun r => stSet 1 (Rv.sl r))
def st__law_by_name_3 (fu : Nat) : MS :=
    (ms (mbinR dCat (mvarF 1) (mbind (mbind (mlst (mcons (mbind (mbind (mbind (merr 110 1 false (mcons (mvar 0) (mret []))) fun d => mret (Rv.v d)) fun r => mret (Rv.d r)) fun d => mret (Opd.d d)) (mcons (mbind (mbind (mbind (merr 111 1 false (mcons (mvar 0) (mret []))) fun d => mret (Rv.v d)) fun r => mret (Rv.d r)) fun d => mret (Opd.d d)) (mcons (mbind (mbind (mbind (merr 112 1 false (mcons (mvar 0) (mret []))) fun d => mret (Rv.v d)) fun r => mret (Rv.d r)) fun d => mret (Opd.d d)) (mcons (mbind (mbind (mbind (merr 113 1 false (mcons (mvar 0) (mret []))) fun d => mret (Rv.v d)) fun r => mret (Rv.d r)) fun d => mret (Opd.d d)) (mcons (mbind (mbind (mbind (merr 114 1 false (mcons (mvar 0) (mret []))) fun d => mret (Rv.v d)) fun r => mret (Rv.d r)) fun d => mret (Opd.d d)) (mret []))))))) fun r => mret (Rv.d r)) fun d => mret (Opd.d d))) fun r => stSet 1 (Rv.sl r))
def st__law_by_name_4 (fu : Nat) : MS :=
    (ms (mbinR dCat (mvarF 1) (mbind (mbind (mlst (mcons (mbind (mbind (mbind (merr 115 1 false (mcons (mvar 0) (mret []))) fun d => mret (Rv.v d)) fun r => mret (Rv.d r)) fun d => mret (Opd.d d)) (mcons (mbind (mbind (mbind (merr 116 1 false (mcons (mvar 0) (mret []))) fun d => mret (Rv.v d)) fun r => mret (Rv.d r)) fun d => mret (Opd.d d)) (mcons (mbind (mbind (mbind (merr 117 1 false (mcons (mvar 0) (mret []))) fun d => mret (Rv.v d)) fun r => mret (Rv.d r)) fun d => mret (Opd.d d)) (mcons (mbind (mbind (mbind (merr 118 1 false (mcons (mvar 0) (mret []))) fun d => mret (Rv.v d)) fun r => mret (Rv.d r)) fun d => mret (Opd.d d)) (mcons (mbind (mbind (mbind (merr 119 1 false (mcons (mvar 0) (mret []))) fun d => mret (Rv.v d)) fun r => mret (Rv.d r)) fun d => mret (Opd.d d)) (mret []))))))) fun r => mret (Rv.d r)) fun d => mret (Opd.d d))) fun r s => OutS.rt r s)
def b__law_by_name (fu : Nat) : MS :=
    (mseq (st__law_by_name_1 fu)
    (mseq (st__law_by_name_2 fu)
    (mseq (st__law_by_name_3 fu)
    (st__law_by_name_4 fu))))
def d__law_by_name (fu : Nat) : Fd := fnD 2 1 (b__law_by_name fu)

abbrev s__law_kept : Stmt := top 33
abbrev N__law_kept : List Str := ["_law_error", "_law_number"]
abbrev p__law_kept : List Str := ["_law_error", "_law_number"]
def b__law_kept (fu : Nat) : MS :=
    (mseq (mcond (mbind (mbin dLt (mvar 1) (mbind (mret (D.int 12)) fun d => mret (Opd.d d))) tob) (ms (mbind (mef nm "part" (mbind (mvar 0) strong)) fun d => mret (Rv.v d)) fun r s => OutS.rt r s) (fun s => OutS.nx s))
    (ms (mbind (mif (mbind (mbin dLt (mvar 1) (mbind (mret (D.int 18)) fun d => mret (Opd.d d))) tob) (mef nm "value" (mbind (mvar 0) strong)) (mef nm "paper" (mbind (mvar 0) strong))) fun d => mret (Rv.v d)) fun r s => OutS.rt r s))
def d__law_kept (fu : Nat) : Fd := fnD 2 2 (b__law_kept fu)

abbrev s__law_single_right : Stmt := top 34
abbrev N__law_single_right : List Str := ["_law_one", "_law_other", "_law_first", "_law_second", "_law_number", "_law_base"]
abbrev p__law_single_right : List Str := ["_law_one", "_law_other"]
def st__law_single_right_1 (fu : Nat) : MS :=
    (mpar2 2 3 (mcons (mbind (mbind (mcall (d__law_by_place fu) [] (mcons (mvar 0) (mret []))) fun r => mret (Rv.d r)) fun d => mret (Opd.d d)) (mcons (mbind (mbind (mcall (d__law_by_name fu) [] (mcons (mvar 1) (mret []))) fun r => mret (Rv.d r)) fun d => mret (Opd.d d)) (mret []))))
def li__law_single_right_1 (fu : Nat) : M (List D) :=
    (mrng rng1 (mcons (mbind (mret (D.int 19)) fun d => mret (Opd.d d)) (mret [])))
def lb__law_single_right_1 (fu : Nat) : MS :=
    (mseq (mcond (mif (mbind (mbind (mbind (mbind (mcall (d__law_is_one fu) [] (mcons (mbind (mbin dIx (mvarF 2) (mvar 4)) fun d => mret (Opd.d d)) (mcons (mvar 4) (mret [])))) fun r => mret (Rv.d r)) fun d => mret (Opd.d d)) fun o => mbind (res o) fun d => mopt (truD d)) fun b => mret (!b)) (mret true) (mbind (mbind (mbind (mbind (mcall (d__law_is_one fu) [] (mcons (mbind (mbin dIx (mvarF 3) (mvar 4)) fun d => mret (Opd.d d)) (mcons (mvar 4) (mret [])))) fun r => mret (Rv.d r)) fun d => mret (Opd.d d)) fun o => mbind (res o) fun d => mopt (truD d)) fun b => mret (!b))) (ms (mbind (mret (D.bl false)) fun d => mret (Rv.v d)) fun r s => OutS.rt r s) (fun s => OutS.nx s))
    (mcond (mif (mbind (mbin dNeS (mbind (mbind (mcall (d__law_kept fu) [] (mcons (mbind (mbin dIx (mvarF 2) (mvar 4)) fun d => mret (Opd.d d)) (mcons (mvar 4) (mret [])))) fun r => mret (Rv.d r)) fun d => mret (Opd.d d)) (mvar 0)) tob) (mret true) (mbind (mbin dNeS (mbind (mbind (mcall (d__law_kept fu) [] (mcons (mbind (mbin dIx (mvarF 3) (mvar 4)) fun d => mret (Opd.d d)) (mcons (mvar 4) (mret [])))) fun r => mret (Rv.d r)) fun d => mret (Opd.d d)) (mvar 1)) tob)) (ms (mbind (mret (D.bl false)) fun d => mret (Rv.v d)) fun r s => OutS.rt r s) (fun s => OutS.nx s)))
def l__law_single_right_1 (fu : Nat) : MS :=
    mfor (li__law_single_right_1 fu) (tgName 4) (lb__law_single_right_1 fu)
def st__law_single_right_3 (fu : Nat) : MS :=
    (ms (mbind (merr 124 1 false (mcons (mvar 0) (mret []))) fun d => mret (Rv.v d)) fun r => stSet 5 (Rv.sl r))
def st__law_single_right_4 (fu : Nat) : MS :=
    (mcond (mif (mbind (mbin dNeS (mbind (mef nm "value" (mbind (mvar 5) strong)) fun d => mret (Opd.d d)) (mvar 0)) tob) (mret true) (mif (mbind (mbind (mbind (misE isf_ThinError (mvar 5)) fun d => mret (Opd.d d)) fun o => mbind (res o) fun d => mopt (truD d)) fun b => mret (!b)) (mret true) (mbind (mbind (misE isf_NoPoint_NoTie_6 (mvar 5)) fun d => mret (Opd.d d)) fun o => mbind (res o) fun d => mopt (truD d)))) (ms (mbind (mret (D.bl false)) fun d => mret (Rv.v d)) fun r s => OutS.rt r s) (fun s => OutS.nx s))
def st__law_single_right_5 (fu : Nat) : MS :=
    (ms (mbind (mandV (mbin dEqS (mbind (mef nm "value" (mbind (mbind (merr 124 1 false (mcons (mvar 1) (mret []))) fun d => mret (Rv.v d)) fun r => mret (Rv.d r))) fun d => mret (Opd.d d)) (mvar 1)) (mbind (mcall (d__law_is_one fu) [] (mcons (mbind (mbind (mbind (mret (D.err 121 [])) fun d => mret (Rv.v d)) fun r => mret (Rv.d r)) fun d => mret (Opd.d d)) (mcons (mbind (mret (D.int 20)) fun d => mret (Opd.d d)) (mret [])))) fun r => mret (Rv.d r))) fun d => mret (Rv.v d)) fun r s => OutS.rt r s)
def b__law_single_right (fu : Nat) : MS :=
    (mseq (st__law_single_right_1 fu)
    (mseq (l__law_single_right_1 fu)
    (mseq (st__law_single_right_3 fu)
    (mseq (st__law_single_right_4 fu)
    (st__law_single_right_5 fu)))))
def d__law_single_right (fu : Nat) : Fd := fnD 6 2 (b__law_single_right fu)

abbrev s__law_double_right : Stmt := top 35
abbrev N__law_double_right : List Str := ["_law_one", "_law_other", "_law_error"]
abbrev p__law_double_right : List Str := ["_law_one", "_law_other"]
def li__law_double_right_1 (fu : Nat) : M (List D) :=
    (mwalk (mtup (mcons (mbind (mbind (mbind (merr 120 2 false (mcons (mvar 0) (mcons (mvar 1) (mret [])))) fun d => mret (Rv.v d)) fun r => mret (Rv.d r)) fun d => mret (Opd.d d)) (mcons (mbind (mbind (mbind (merr 120 2 true (mcons (mvar 1) (mcons (mvar 0) (mret [])))) fun d => mret (Rv.v d)) fun r => mret (Rv.d r)) fun d => mret (Opd.d d)) (mret [])))))
def lb__law_double_right_1 (fu : Nat) : MS :=
    (mcond (mif (mbind (mbind (mbind (mbind (mcall (d__law_is_one fu) [] (mcons (mvar 2) (mcons (mbind (mret (D.int 19)) fun d => mret (Opd.d d)) (mret [])))) fun r => mret (Rv.d r)) fun d => mret (Opd.d d)) fun o => mbind (res o) fun d => mopt (truD d)) fun b => mret (!b)) (mret true) (mif (mbind (mbin dNeS (mbind (mef nm "what" (mbind (mvar 2) strong)) fun d => mret (Opd.d d)) (mvar 0)) tob) (mret true) (mbind (mbin dNeS (mbind (mef nm "most" (mbind (mvar 2) strong)) fun d => mret (Opd.d d)) (mvar 1)) tob))) (ms (mbind (mret (D.bl false)) fun d => mret (Rv.v d)) fun r s => OutS.rt r s) (fun s => OutS.nx s))
def l__law_double_right_1 (fu : Nat) : MS :=
    mfor (li__law_double_right_1 fu) (tgName 2) (lb__law_double_right_1 fu)
def li__law_double_right_2 (fu : Nat) : M (List D) :=
    (mwalk (mtup (mcons (mbind (mbind (mbind (merr 122 2 false (mcons (mvar 0) (mcons (mvar 1) (mret [])))) fun d => mret (Rv.v d)) fun r => mret (Rv.d r)) fun d => mret (Opd.d d)) (mcons (mbind (mbind (mbind (merr 122 2 true (mcons (mvar 1) (mcons (mvar 0) (mret [])))) fun d => mret (Rv.v d)) fun r => mret (Rv.d r)) fun d => mret (Opd.d d)) (mret [])))))
def lb__law_double_right_2 (fu : Nat) : MS :=
    (mcond (mif (mbind (mbind (mbind (mbind (mcall (d__law_is_one fu) [] (mcons (mvar 2) (mcons (mbind (mret (D.int 21)) fun d => mret (Opd.d d)) (mret [])))) fun r => mret (Rv.d r)) fun d => mret (Opd.d d)) fun o => mbind (res o) fun d => mopt (truD d)) fun b => mret (!b)) (mret true) (mif (mbind (mbin dNeS (mbind (mef nm "line" (mbind (mvar 2) strong)) fun d => mret (Opd.d d)) (mvar 0)) tob) (mret true) (mbind (mbin dNeS (mbind (mef nm "item" (mbind (mvar 2) strong)) fun d => mret (Opd.d d)) (mvar 1)) tob))) (ms (mbind (mret (D.bl false)) fun d => mret (Rv.v d)) fun r s => OutS.rt r s) (fun s => OutS.nx s))
def l__law_double_right_2 (fu : Nat) : MS :=
    mfor (li__law_double_right_2 fu) (tgName 2) (lb__law_double_right_2 fu)
def li__law_double_right_3 (fu : Nat) : M (List D) :=
    (mwalk (mtup (mcons (mbind (mbind (mbind (merr 123 2 false (mcons (mvar 0) (mcons (mvar 1) (mret [])))) fun d => mret (Rv.v d)) fun r => mret (Rv.d r)) fun d => mret (Opd.d d)) (mcons (mbind (mbind (mbind (merr 123 2 true (mcons (mvar 1) (mcons (mvar 0) (mret [])))) fun d => mret (Rv.v d)) fun r => mret (Rv.d r)) fun d => mret (Opd.d d)) (mret [])))))
def lb__law_double_right_3 (fu : Nat) : MS :=
    (mcond (mif (mbind (mbind (mbind (mbind (mcall (d__law_is_one fu) [] (mcons (mvar 2) (mcons (mbind (mret (D.int 22)) fun d => mret (Opd.d d)) (mret [])))) fun r => mret (Rv.d r)) fun d => mret (Opd.d d)) fun o => mbind (res o) fun d => mopt (truD d)) fun b => mret (!b)) (mret true) (mif (mbind (mbin dNeS (mbind (mef nm "line" (mbind (mvar 2) strong)) fun d => mret (Opd.d d)) (mvar 0)) tob) (mret true) (mbind (mbin dNeS (mbind (mef nm "error" (mbind (mvar 2) strong)) fun d => mret (Opd.d d)) (mvar 1)) tob))) (ms (mbind (mret (D.bl false)) fun d => mret (Rv.v d)) fun r s => OutS.rt r s) (fun s => OutS.nx s))
def l__law_double_right_3 (fu : Nat) : MS :=
    mfor (li__law_double_right_3 fu) (tgName 2) (lb__law_double_right_3 fu)
def st__law_double_right_4 (fu : Nat) : MS :=
    (ms (mbind (mret (D.bl true)) fun d => mret (Rv.v d)) fun r s => OutS.rt r s)
def b__law_double_right (fu : Nat) : MS :=
    (mseq (l__law_double_right_1 fu)
    (mseq (l__law_double_right_2 fu)
    (mseq (l__law_double_right_3 fu)
    (st__law_double_right_4 fu))))
def d__law_double_right (fu : Nat) : Fd := fnD 3 2 (b__law_double_right fu)

abbrev s__law_raised : Stmt := top 36
abbrev N__law_raised : List Str := ["_law_number", "_law_field_here"]
abbrev p__law_raised : List Str := ["_law_number", "_law_field_here"]
def b__law_raised (fu : Nat) : MS :=
    (mseq (mcond (mbind (mbin dEqS (mvar 0) (mbind (mret (D.int 0)) fun d => mret (Opd.d d))) tob) (mraise 114 1 (mcons (mvar 1) (mret []))) (fun s => OutS.nx s))
    (mseq (mcond (mbind (mbin dEqS (mvar 0) (mbind (mret (D.int 1)) fun d => mret (Opd.d d))) tob) (mraise 118 1 (mcons (mvar 1) (mret []))) (fun s => OutS.nx s))
    (mraise 120 2 (mcons (mvar 1) (mcons (mbind (mret (D.int 5)) fun d => mret (Opd.d d)) (mret []))))))
def d__law_raised (fu : Nat) : Fd := fnD 2 2 (b__law_raised fu)

abbrev s__law_caught : Stmt := top 37
abbrev N__law_caught : List Str := ["_law_number", "_law_field_here", "caught"]
abbrev p__law_caught : List Str := ["_law_number", "_law_field_here"]
def b__law_caught (fu : Nat) : MS :=
    (mseq (mtryL 2 (ms (mbind (mcall (d__law_raised fu) [] (mcons (mvar 0) (mcons (mvar 1) (mret [])))) fun r => mret (Rv.d r)) fun _ s => OutS.nx s) [(isf_Missing, fun a x c ds => hret nm "missing" "value" 2 a x c), (isf_Twice, fun a x c ds => hret nm "twice" "value" 2 a x c), (isf_ThinError, fun a x c ds => hret nm "thin" "what" 2 a x c)])
    (ms (mbind (mret D.non) fun d => mret (Rv.v d)) fun r s => OutS.rt r s))
def d__law_caught (fu : Nat) : Fd := fnD 3 2 (b__law_caught fu)

abbrev s_law : Stmt := top 38
abbrev N_law : List Str := ["_law_script", "_law_bag_here", "_law_turn", "_law_one", "_law_other", "_law_number"]
abbrev p_law : List Str := ["_law_script"]
def ci_law_1 (fu : Nat) : M (List D) :=
    (mrng rng1 (mcons (mbind (mret (D.int 3)) fun d => mret (Opd.d d)) (mret [])))
def ct_law_1 (fu : Nat) : M Bool :=
    (mret true)
def ce_law_1 (fu : Nat) : M D :=
    (mbind (mcall (d__law_caught fu) [] (mcons (mvar 5) (mcons (mvar 3) (mret [])))) fun r => mret (Rv.d r))
def c_law_1 (fu : Nat) : M Rv :=
    mlc [5] (ci_law_1 fu) (tgName 5) (ct_law_1 fu) (ce_law_1 fu)
def li_law_2 (fu : Nat) : M (List D) :=
    (mrng rng1 (mcons (mbind (mret (D.int 4)) fun d => mret (Opd.d d)) (mret [])))
def lb_law_2 (fu : Nat) : MS :=
    (mseq (masg (mtup (mcons (mbind (mbind (mcall (d__law_field fu) [] (mcons (mvar 1) (mret []))) fun r => mret (Rv.d r)) fun d => mret (Opd.d d)) (mcons (mbind (mbind (mcall (d__law_field fu) [] (mcons (mvar 1) (mret []))) fun r => mret (Rv.d r)) fun d => mret (Opd.d d)) (mret [])))) (tgTup 2 (tgCons (tgName 3) (tgCons (tgName 4) tgNil))))
    (mswitch ecB 3 4 (mseq (mcond (mif (mbind (mbind (mbind (mbind (mcall (d__law_single_right fu) [] (mcons (mvar 3) (mcons (mvar 4) (mret [])))) fun r => mret (Rv.d r)) fun d => mret (Opd.d d)) fun o => mbind (res o) fun d => mopt (truD d)) fun b => mret (!b)) (mret true) (mif (mbind (mbind (mbind (mbind (mcall (d__law_double_right fu) [] (mcons (mvar 3) (mcons (mvar 4) (mret [])))) fun r => mret (Rv.d r)) fun d => mret (Opd.d d)) fun o => mbind (res o) fun d => mopt (truD d)) fun b => mret (!b)) (mret true) (mbind (mbind (mbind (mbind (mcall (d__law_double_right fu) [] (mcons (mvar 4) (mcons (mvar 3) (mret [])))) fun r => mret (Rv.d r)) fun d => mret (Opd.d d)) fun o => mbind (res o) fun d => mopt (truD d)) fun b => mret (!b)))) (ms (mbind (mret (D.bl false)) fun d => mret (Rv.v d)) fun r s => OutS.rt r s) (fun s => OutS.nx s))
    (mcond (mbind (mbin dNeS (mbind (mbind (c_law_1 fu) fun r => mret (Rv.d r)) fun d => mret (Opd.d d)) (mbind (mbind (mlst (mcons (mbind (mtup (mcons (mbind (mret (D.str "missing")) fun d => mret (Opd.d d)) (mcons (mvar 3) (mret [])))) fun d => mret (Opd.d d)) (mcons (mbind (mtup (mcons (mbind (mret (D.str "twice")) fun d => mret (Opd.d d)) (mcons (mvar 3) (mret [])))) fun d => mret (Opd.d d)) (mcons (mbind (mtup (mcons (mbind (mret (D.str "thin")) fun d => mret (Opd.d d)) (mcons (mvar 3) (mret [])))) fun d => mret (Opd.d d)) (mret []))))) fun r => mret (Rv.d r)) fun d => mret (Opd.d d))) tob) (ms (mbind (mret (D.bl false)) fun d => mret (Rv.v d)) fun r s => OutS.rt r s) (fun s => OutS.nx s)))))
def l_law_2 (fu : Nat) : MS :=
    mfor (li_law_2 fu) (tgName 2) (lb_law_2 fu)
def b_law (fu : Nat) : MS :=
    (mseq (ms (mcall (d__law_bag fu) [] (mcons (mvar 0) (mret []))) fun r => stSet 1 (Rv.sl r))
    (mseq (l_law_2 fu)
    (ms (mbind (mret (D.bl true)) fun d => mret (Rv.v d)) fun r s => OutS.rt r s)))
def d_law (fu : Nat) : Fd := fnD 6 1 (b_law fu)
end
abbrev gOf (K : PySem.W.Frag) (mg : Str → Option Value) (cn : Nat → Addr) (ρ : Nat → Option V) : G := ⟨K, mg, cn, nm, ρ⟩
structure Txt (K : PySem.W.Frag) (mg : Str → Option Value) (cn : Nat → Addr) : Prop where
  n_ArithmeticError : mg "ArithmeticError" = none
  n_AttributeError : mg "AttributeError" = none
  n_LookupError : mg "LookupError" = none
  n_RuntimeError : mg "RuntimeError" = none
  n_TypeError : mg "TypeError" = none
  n_ValueError : mg "ValueError" = none
  n_abs : mg "abs" = none
  n_int : mg "int" = none
  n_isinstance : mg "isinstance" = none
  n_range : mg "range" = none
  n_str : mg "str" = none
  A_error : ∀ c, ("error" : Str) ∈ nm c → XfC K (cn c) ∧ PySem.W.findIn K (.ref (cn c)) "error" = some none
  A_item : ∀ c, ("item" : Str) ∈ nm c → XfC K (cn c) ∧ PySem.W.findIn K (.ref (cn c)) "item" = some none
  A_line : ∀ c, ("line" : Str) ∈ nm c → XfC K (cn c) ∧ PySem.W.findIn K (.ref (cn c)) "line" = some none
  A_most : ∀ c, ("most" : Str) ∈ nm c → XfC K (cn c) ∧ PySem.W.findIn K (.ref (cn c)) "most" = some none
  A_paper : ∀ c, ("paper" : Str) ∈ nm c → XfC K (cn c) ∧ PySem.W.findIn K (.ref (cn c)) "paper" = some none
  A_part : ∀ c, ("part" : Str) ∈ nm c → XfC K (cn c) ∧ PySem.W.findIn K (.ref (cn c)) "part" = some none
  A_value : ∀ c, ("value" : Str) ∈ nm c → XfC K (cn c) ∧ PySem.W.findIn K (.ref (cn c)) "value" = some none
  A_what : ∀ c, ("what" : Str) ∈ nm c → XfC K (cn c) ∧ PySem.W.findIn K (.ref (cn c)) "what" = some none
  I_BadBook : ∀ c b, isf_BadBook c = some b → TX.ErC K (cn c) ∧ PySem.W.kitOne K (.ref (cn c)) (.ref (cn 104)) = some b
  I_BadDesk : ∀ c b, isf_BadDesk c = some b → TX.ErC K (cn c) ∧ PySem.W.kitOne K (.ref (cn c)) (.ref (cn 111)) = some b
  I_BadLine : ∀ c b, isf_BadLine c = some b → TX.ErC K (cn c) ∧ PySem.W.kitOne K (.ref (cn c)) (.ref (cn 123)) = some b
  I_BadLot : ∀ c b, isf_BadLot c = some b → TX.ErC K (cn c) ∧ PySem.W.kitOne K (.ref (cn c)) (.ref (cn 103)) = some b
  I_BadNumber : ∀ c b, isf_BadNumber c = some b → TX.ErC K (cn c) ∧ PySem.W.kitOne K (.ref (cn c)) (.ref (cn 101)) = some b
  I_BadPaper : ∀ c b, isf_BadPaper c = some b → TX.ErC K (cn c) ∧ PySem.W.kitOne K (.ref (cn c)) (.ref (cn 110)) = some b
  I_BadPolynomial : ∀ c b, isf_BadPolynomial c = some b → TX.ErC K (cn c) ∧ PySem.W.kitOne K (.ref (cn c)) (.ref (cn 106)) = some b
  I_BadQuestion : ∀ c b, isf_BadQuestion c = some b → TX.ErC K (cn c) ∧ PySem.W.kitOne K (.ref (cn c)) (.ref (cn 108)) = some b
  I_BadQuotient : ∀ c b, isf_BadQuotient c = some b → TX.ErC K (cn c) ∧ PySem.W.kitOne K (.ref (cn c)) (.ref (cn 107)) = some b
  I_BadRatio : ∀ c b, isf_BadRatio c = some b → TX.ErC K (cn c) ∧ PySem.W.kitOne K (.ref (cn c)) (.ref (cn 102)) = some b
  I_BadText : ∀ c b, isf_BadText c = some b → TX.ErC K (cn c) ∧ PySem.W.kitOne K (.ref (cn c)) (.ref (cn 122)) = some b
  I_BadTown : ∀ c b, isf_BadTown c = some b → TX.ErC K (cn c) ∧ PySem.W.kitOne K (.ref (cn c)) (.ref (cn 109)) = some b
  I_BadWeb : ∀ c b, isf_BadWeb c = some b → TX.ErC K (cn c) ∧ PySem.W.kitOne K (.ref (cn c)) (.ref (cn 105)) = some b
  I_Impossible : ∀ c b, isf_Impossible c = some b → TX.ErC K (cn c) ∧ PySem.W.kitOne K (.ref (cn c)) (.ref (cn 119)) = some b
  I_Misfit : ∀ c b, isf_Misfit c = some b → TX.ErC K (cn c) ∧ PySem.W.kitOne K (.ref (cn c)) (.ref (cn 112)) = some b
  I_Missing : ∀ c b, isf_Missing c = some b → TX.ErC K (cn c) ∧ PySem.W.kitOne K (.ref (cn c)) (.ref (cn 124)) = some b
  I_NoKind : ∀ c b, isf_NoKind c = some b → TX.ErC K (cn c) ∧ PySem.W.kitOne K (.ref (cn c)) (.ref (cn 116)) = some b
  I_NoName : ∀ c b, isf_NoName c = some b → TX.ErC K (cn c) ∧ PySem.W.kitOne K (.ref (cn c)) (.ref (cn 117)) = some b
  I_NoPoint : ∀ c b, isf_NoPoint c = some b → TX.ErC K (cn c) ∧ PySem.W.kitOne K (.ref (cn c)) (.ref (cn 113)) = some b
  I_NoSort : ∀ c b, isf_NoSort c = some b → TX.ErC K (cn c) ∧ PySem.W.kitOne K (.ref (cn c)) (.ref (cn 115)) = some b
  I_NoTie : ∀ c b, isf_NoTie c = some b → TX.ErC K (cn c) ∧ PySem.W.kitOne K (.ref (cn c)) (.ref (cn 114)) = some b
  I_Nothing : ∀ c b, isf_Nothing c = some b → TX.ErC K (cn c) ∧ PySem.W.kitOne K (.ref (cn c)) (.ref (cn 121)) = some b
  I_ThinError : ∀ c b, isf_ThinError c = some b → TX.ErC K (cn c) ∧ PySem.W.kitOne K (.ref (cn c)) (.ref (cn 125)) = some b
  I_TooMany : ∀ c b, isf_TooMany c = some b → TX.ErC K (cn c) ∧ PySem.W.kitOne K (.ref (cn c)) (.ref (cn 120)) = some b
  I_Twice : ∀ c b, isf_Twice c = some b → TX.ErC K (cn c) ∧ PySem.W.kitOne K (.ref (cn c)) (.ref (cn 118)) = some b
  I_ValueError : ∀ c b, isf_ValueError c = some b → TX.ErC K (cn c) ∧ PySem.W.kitOne K (.ref (cn c)) (.type "ValueError") = some b
  I_LookupError_TypeError_5 : ∀ c b, isf_LookupError_TypeError_5 c = some b → TX.ErC K (cn c) ∧ PySem.W.kitAny K (.ref (cn c)) [.type "LookupError", .type "TypeError", .type "ArithmeticError", .type "AttributeError", .type "RuntimeError"] = some b
  I_NoPoint_NoTie_6 : ∀ c b, isf_NoPoint_NoTie_6 c = some b → TX.ErC K (cn c) ∧ PySem.W.kitAny K (.ref (cn c)) [.ref (cn 113), .ref (cn 114), .ref (cn 115), .ref (cn 116), .ref (cn 117), .ref (cn 118)] = some b
  H_Missing : ∀ c b, isf_Missing c = some b → PySem.W.exmOne K (.ref (cn c)) (.ref (cn 124)) = some b
  H_ThinError : ∀ c b, isf_ThinError c = some b → PySem.W.exmOne K (.ref (cn c)) (.ref (cn 125)) = some b
  H_Twice : ∀ c b, isf_Twice c = some b → PySem.W.exmOne K (.ref (cn c)) (.ref (cn 118)) = some b
  m_BadBook : mg "BadBook" = some (.ref (cn 104))
  m_BadDesk : mg "BadDesk" = some (.ref (cn 111))
  m_BadLine : mg "BadLine" = some (.ref (cn 123))
  m_BadLot : mg "BadLot" = some (.ref (cn 103))
  m_BadNumber : mg "BadNumber" = some (.ref (cn 101))
  m_BadPaper : mg "BadPaper" = some (.ref (cn 110))
  m_BadPolynomial : mg "BadPolynomial" = some (.ref (cn 106))
  m_BadQuestion : mg "BadQuestion" = some (.ref (cn 108))
  m_BadQuotient : mg "BadQuotient" = some (.ref (cn 107))
  m_BadRatio : mg "BadRatio" = some (.ref (cn 102))
  m_BadText : mg "BadText" = some (.ref (cn 122))
  m_BadTown : mg "BadTown" = some (.ref (cn 109))
  m_BadWeb : mg "BadWeb" = some (.ref (cn 105))
  m_Impossible : mg "Impossible" = some (.ref (cn 119))
  m_Misfit : mg "Misfit" = some (.ref (cn 112))
  m_Missing : mg "Missing" = some (.ref (cn 124))
  m_NoKind : mg "NoKind" = some (.ref (cn 116))
  m_NoName : mg "NoName" = some (.ref (cn 117))
  m_NoPoint : mg "NoPoint" = some (.ref (cn 113))
  m_NoSort : mg "NoSort" = some (.ref (cn 115))
  m_NoTie : mg "NoTie" = some (.ref (cn 114))
  m_Nothing : mg "Nothing" = some (.ref (cn 121))
  m_ThinError : mg "ThinError" = some (.ref (cn 125))
  m_TooMany : mg "TooMany" = some (.ref (cn 120))
  m_Twice : mg "Twice" = some (.ref (cn 118))
  M_BadBook : ∀ (ρ : Nat → Option V) (P : Program) (w : World) (base : Heap), ErM P w (gOf K mg cn ρ) base "BadBook" 104 ["self", "part"]
  M_BadDesk : ∀ (ρ : Nat → Option V) (P : Program) (w : World) (base : Heap), ErM P w (gOf K mg cn ρ) base "BadDesk" 111 ["self", "part"]
  M_BadLine : ∀ (ρ : Nat → Option V) (P : Program) (w : World) (base : Heap), ErM P w (gOf K mg cn ρ) base "BadLine" 123 ["self", "line", "error"]
  M_BadLot : ∀ (ρ : Nat → Option V) (P : Program) (w : World) (base : Heap), ErM P w (gOf K mg cn ρ) base "BadLot" 103 ["self", "part"]
  M_BadNumber : ∀ (ρ : Nat → Option V) (P : Program) (w : World) (base : Heap), ErM P w (gOf K mg cn ρ) base "BadNumber" 101 ["self", "part"]
  M_BadPaper : ∀ (ρ : Nat → Option V) (P : Program) (w : World) (base : Heap), ErM P w (gOf K mg cn ρ) base "BadPaper" 110 ["self", "part"]
  M_BadPolynomial : ∀ (ρ : Nat → Option V) (P : Program) (w : World) (base : Heap), ErM P w (gOf K mg cn ρ) base "BadPolynomial" 106 ["self", "part"]
  M_BadQuestion : ∀ (ρ : Nat → Option V) (P : Program) (w : World) (base : Heap), ErM P w (gOf K mg cn ρ) base "BadQuestion" 108 ["self", "part"]
  M_BadQuotient : ∀ (ρ : Nat → Option V) (P : Program) (w : World) (base : Heap), ErM P w (gOf K mg cn ρ) base "BadQuotient" 107 ["self", "part"]
  M_BadRatio : ∀ (ρ : Nat → Option V) (P : Program) (w : World) (base : Heap), ErM P w (gOf K mg cn ρ) base "BadRatio" 102 ["self", "part"]
  M_BadText : ∀ (ρ : Nat → Option V) (P : Program) (w : World) (base : Heap), ErM P w (gOf K mg cn ρ) base "BadText" 122 ["self", "line", "item"]
  M_BadTown : ∀ (ρ : Nat → Option V) (P : Program) (w : World) (base : Heap), ErM P w (gOf K mg cn ρ) base "BadTown" 109 ["self", "part"]
  M_BadWeb : ∀ (ρ : Nat → Option V) (P : Program) (w : World) (base : Heap), ErM P w (gOf K mg cn ρ) base "BadWeb" 105 ["self", "part"]
  M_Impossible : ∀ (ρ : Nat → Option V) (P : Program) (w : World) (base : Heap), ErM P w (gOf K mg cn ρ) base "Impossible" 119 ["self", "paper"]
  M_Misfit : ∀ (ρ : Nat → Option V) (P : Program) (w : World) (base : Heap), ErM P w (gOf K mg cn ρ) base "Misfit" 112 ["self", "part"]
  M_Missing : ∀ (ρ : Nat → Option V) (P : Program) (w : World) (base : Heap), ErM P w (gOf K mg cn ρ) base "Missing" 124 ["self", "value"]
  M_NoKind : ∀ (ρ : Nat → Option V) (P : Program) (w : World) (base : Heap), ErM P w (gOf K mg cn ρ) base "NoKind" 116 ["self", "value"]
  M_NoName : ∀ (ρ : Nat → Option V) (P : Program) (w : World) (base : Heap), ErM P w (gOf K mg cn ρ) base "NoName" 117 ["self", "value"]
  M_NoPoint : ∀ (ρ : Nat → Option V) (P : Program) (w : World) (base : Heap), ErM P w (gOf K mg cn ρ) base "NoPoint" 113 ["self", "value"]
  M_NoSort : ∀ (ρ : Nat → Option V) (P : Program) (w : World) (base : Heap), ErM P w (gOf K mg cn ρ) base "NoSort" 115 ["self", "value"]
  M_NoTie : ∀ (ρ : Nat → Option V) (P : Program) (w : World) (base : Heap), ErM P w (gOf K mg cn ρ) base "NoTie" 114 ["self", "value"]
  M_TooMany : ∀ (ρ : Nat → Option V) (P : Program) (w : World) (base : Heap), ErM P w (gOf K mg cn ρ) base "TooMany" 120 ["self", "what", "most"]
  M_Twice : ∀ (ρ : Nat → Option V) (P : Program) (w : World) (base : Heap), ErM P w (gOf K mg cn ρ) base "Twice" 118 ["self", "value"]
  Z_Nothing : ∀ ρ : Nat → Option V, Er0 (gOf K mg cn ρ) "Nothing" 121
  ec : ∀ c, ecB c = true → EqC K (cn c)
section
variable {P : Program} {w : World} {K : PySem.W.Frag} {mg : Str → Option Value} {cn : Nat → Addr} {ρ : Nat → Option V} {base : Heap} {fu : Nat}
theorem sc__law_bag : FnScope N__law_bag p__law_bag (defScope s__law_bag) := ⟨rfl, rfl, rfl, by decide +kernel, rfl, by decide +kernel, by decide +kernel⟩
theorem ok__law_bag {f : Addr} {fd : FuncData} (F : Fun K "_law_bag" "_law_bag" s__law_bag f fd) (T : Txt K mg cn) : FnOk P w K mg base (L2.CX P w) 1 f fd p__law_bag (spD (gOf K mg cn ρ) (d__law_bag fu)) := by
  refine fnD_ok (g := gOf K mg cn ρ) (N := N__law_bag) (ps := p__law_bag) (body := b__law_bag fu) F sc__law_bag (by decide) fun cdv A outer s H E T0 hr hio => ?_
  unfold b__law_bag
  exact (jss_cons (js_set (i := 1) (fun _ h => ps_set (i := 1) sc__law_bag.nd rfl (by first | exact Or.inl rfl | exact Or.inr rfl) h) (hio 1 (by decide)) (jr_of je_int))
    (jss_cons (js_for (passes_of rfl) rfl (ji_seq rfl (je_rv (jr_slice rfl (jo_var (pv 0)) jp_none (jp_some je_int)))) (jg_name (i := 2) (pg_name (i := 2) sc__law_bag.nd rfl (by first | exact Or.inl rfl | exact Or.inr rfl)) (hio 2 (by decide)) (fun _ h => by cases h)) (jss_one (js_set (i := 1) (fun _ h => ps_set (i := 1) sc__law_bag.nd rfl (by first | exact Or.inl rfl | exact Or.inr rfl) h) (hio 1 (by decide)) (jr_of (je_bin o_add (jo_of (je_bin o_mul (jo_var (pv 1)) (jo_of je_int))) (jo_of (je_bin o_mod (jo_of (je_bin o_add (jo_of (je_bin o_mul (jo_of je_int) (jo_of (je_rv (jr_cb (o_abs) (fun _ _ hc h => pe_callB hc rfl T.n_abs rfl h) (ja_cons (jo_of (je_rv (jr_cb (o_int) (fun _ _ hc h => pe_callTy hc rfl T.n_int rfl h) (ja_cons (jo_var (pv 2)) ja_nil)))) ja_nil)))))) (jo_of (je_rv (jr_cb (o_int) (fun _ _ hc h => pe_callTy hc rfl T.n_int rfl h) (ja_cons (jo_of (je_cmp (o_lt) (jo_var (pv 2)) (jo_of je_int) (nomark _))) ja_nil)))))) (jo_of (je_bin o_powB (jo_of (je_bin o_pow (jo_of je_int) (jo_of je_int))) (jo_of je_int))))))))))
    (jss_one (js_ret (jr_lst (ja_cons (jo_var (pv 1)) (ja_cons (jo_of je_int) (ja_cons (jo_of (je_bin o_mod (jo_of (je_rv (jr_cb (o_int) (fun _ _ hc h => pe_callTy hc rfl T.n_int rfl h) (ja_cons (jo_var (pv 1)) ja_nil)))) (jo_of je_int))) ja_nil))))))))
theorem sc__law_pull : FnScope N__law_pull p__law_pull (defScope s__law_pull) := ⟨rfl, rfl, rfl, by decide +kernel, rfl, by decide +kernel, by decide +kernel⟩
theorem ok__law_pull {f : Addr} {fd : FuncData} (F : Fun K "_law_pull" "_law_pull" s__law_pull f fd) (T : Txt K mg cn) : FnOk P w K mg base (L2.CX P w) 1 f fd p__law_pull (spD (gOf K mg cn ρ) (d__law_pull fu)) := by
  refine fnD_ok (g := gOf K mg cn ρ) (N := N__law_pull) (ps := p__law_pull) (body := b__law_pull fu) F sc__law_pull (by decide) fun cdv A outer s H E T0 hr hio => ?_
  unfold b__law_pull
  exact (jss_cons (js_if (jt_cmp (o_eqS rfl (hu64 hr)) (jo_of (je_ix rfl (jo_var (pv 0)) (jo_of je_int) (fun _ _ => rfl))) (jo_of je_int) (nomark _)) (jss_cons (js_seti (k := 0) (fun _ _ h h2 => ps_asg h (pg_sub (pv 0) h2 set_list)) je_int (je_bin o_add (jo_of (je_ix rfl (jo_var (pv 0)) (jo_of je_int) (fun _ _ => rfl))) (jo_of je_int)))
    (jss_one (js_seti (k := 0) (fun _ _ h h2 => ps_asg h (pg_sub (pv 0) h2 set_list)) je_int (je_bin o_pow (jo_of (je_bin o_add (jo_of (je_bin o_add (jo_of (je_bin o_mul (jo_of (je_ix rfl (jo_var (pv 0)) (jo_of je_int) (fun _ _ => rfl))) (jo_of (je_bin o_add (jo_of (je_bin o_mul (jo_of je_int) (jo_of (je_ix rfl (jo_var (pv 0)) (jo_of je_int) (fun _ _ => rfl))))) (jo_of je_int))))) (jo_of (je_bin o_mul (jo_of je_int) (jo_of (je_ix rfl (jo_var (pv 0)) (jo_of je_int) (fun _ _ => rfl))))))) (jo_of je_int))) (jo_of je_int))))) jss_nil)
    (jss_cons (js_set (i := 2) (fun _ h => ps_set (i := 2) sc__law_pull.nd rfl (by first | exact Or.inl rfl | exact Or.inr rfl) h) (hio 2 (by decide)) (jr_of (je_bin o_mod (jo_of (je_rv (jr_cb (o_int) (fun _ _ hc h => pe_callTy hc rfl T.n_int rfl h) (ja_cons (jo_of (je_ix rfl (jo_var (pv 0)) (jo_of je_int) (fun _ _ => rfl))) ja_nil)))) (jo_var (pv 1)))))
    (jss_cons (js_seti (k := 0) (fun _ _ h h2 => ps_asg h (pg_sub (pv 0) h2 set_list)) je_int (je_bin o_div (jo_of (je_rv (jr_cb (o_int) (fun _ _ hc h => pe_callTy hc rfl T.n_int rfl h) (ja_cons (jo_of (je_ix rfl (jo_var (pv 0)) (jo_of je_int) (fun _ _ => rfl))) ja_nil)))) (jo_var (pv 1))))
    (jss_one (js_ret (jr_of (je_of (jo_var (pv 2)))))))))
theorem sc__law_field : FnScope N__law_field p__law_field (defScope s__law_field) := ⟨rfl, rfl, rfl, by decide +kernel, rfl, by decide +kernel, by decide +kernel⟩
theorem ok__law_field {f : Addr} {fd : FuncData} (F : Fun K "_law_field" "_law_field" s__law_field f fd) (T : Txt K mg cn) (C__law_pull : Cl P w (gOf K mg cn ρ) base 1 "_law_pull" p__law_pull (d__law_pull fu)) : FnOk P w K mg base (L2.CX P w) 3 f fd p__law_field (spD (gOf K mg cn ρ) (d__law_field fu)) := by
  refine fnD_ok (g := gOf K mg cn ρ) (N := N__law_field) (ps := p__law_field) (body := b__law_field fu) F sc__law_field (by decide) fun cdv A outer s H E T0 hr hio => ?_
  unfold b__law_field
  exact (jss_cons (js_par3 (i := 1) (j := 2) (l := 3) (fun _ h => ps_par3 (i := 1) (j := 2) (l := 3) rfl sc__law_field.nd rfl rfl rfl (by decide) (by decide) (by decide) rfl rfl rfl h rfl) (hio 1 (by decide)) (hio 2 (by decide)) (hio 3 (by decide)) (ja_cons (jo_of (je_rv (jr_callC C__law_pull hr (by decide) rfl rfl rfl (takes_of rfl rfl rfl rfl) (ja_cons (jo_var (pv 0)) (ja_cons (jo_of je_int) ja_nil))))) (ja_cons (jo_of (je_bin o_sub (jo_of (je_rv (jr_callC C__law_pull hr (by decide) rfl rfl rfl (takes_of rfl rfl rfl rfl) (ja_cons (jo_var (pv 0)) (ja_cons (jo_of (je_bin o_pow (jo_of je_int) (jo_of je_int))) ja_nil))))) (jo_of (je_bin o_pow (jo_of je_int) (jo_of je_int))))) (ja_cons (jo_of (je_rv (jr_callC C__law_pull hr (by decide) rfl rfl rfl (takes_of rfl rfl rfl rfl) (ja_cons (jo_var (pv 0)) (ja_cons (jo_of je_int) ja_nil))))) ja_nil))))
    (jss_cons (js_if (jt_cmp (o_lt) (jo_var (pv 1)) (jo_of je_int) (nomark _)) (jss_one (js_ret (jr_of (je_ix rfl (jo_of (je_rv (jr_of (je_rv (jr_lst (ja_cons (jo_var (pv 2)) (ja_cons (jo_var (pv 3)) (ja_cons (jo_of (je_un o_neg (jo_var (pv 3)))) ja_nil)))))))) (jo_var (pv 1)) (fun _ _ => rfl))))) jss_nil)
    (jss_cons (js_if (jt_cmp (o_lt) (jo_var (pv 1)) (jo_of je_int) (nomark _)) (jss_one (js_ret (jr_of (je_ix rfl (jo_of (je_rv (jr_of (je_rv (jr_lst (ja_cons (jo_of (je_bin o_addX (jo_of je_str) (jo_of (je_rv (jr_cb (o_str) (fun _ _ hc h => pe_callTy hc rfl T.n_str rfl h) (ja_cons (jo_var (pv 3)) ja_nil)))))) (ja_cons (jo_of je_str) (ja_cons (jo_of je_non) ja_nil)))))))) (jo_of (je_bin o_sub (jo_var (pv 1)) (jo_of je_int))) (fun _ _ => rfl))))) jss_nil)
    (jss_cons (js_if (jt_cmp (o_eqS rfl (hu64 hr)) (jo_var (pv 1)) (jo_of je_int) (nomark _)) (jss_one (js_ret (jr_of (je_cmp (o_lt) (jo_var (pv 3)) (jo_of je_int) (nomark _))))) jss_nil)
    (jss_cons (js_if (jt_cmp (o_eqS rfl (hu64 hr)) (jo_var (pv 1)) (jo_of je_int) (nomark _)) (jss_one (js_ret (jr_of (je_rv (jr_lst (ja_cons (jo_var (pv 3)) (ja_cons (jo_of (je_rv (jr_of (je_rv (jr_lst (ja_cons (jo_var (pv 2)) (ja_cons (jo_of je_non) ja_nil))))))) (ja_cons (jo_of je_str) ja_nil)))))))) jss_nil)
    (jss_cons (js_if (jt_cmp (o_eqS rfl (hu64 hr)) (jo_var (pv 1)) (jo_of je_int) (nomark _)) (jss_one (js_ret (jr_of (je_tup (ja_cons (jo_var (pv 2)) (ja_cons (jo_of (je_tup (ja_cons (jo_var (pv 3)) (ja_cons (jo_of (je_rv (jr_of (je_rv (jr_lst ja_nil))))) ja_nil)))) ja_nil)))))) jss_nil)
    (jss_one (js_ret (jr_of (je_if (jt_cmp (o_eqS rfl (hu64 hr)) (jo_var (pv 1)) (jo_of je_int) (nomark _)) (je_dctL (k := (.inr "a")) pe_str (pv 3)) (je_rv (jr_of (je_err (T.M_NoPoint _ _ _ _) hr (ja_cons (jo_var (pv 3)) ja_nil))))))))))))))
theorem sc__law_is_one : FnScope N__law_is_one p__law_is_one (defScope s__law_is_one) := ⟨rfl, rfl, rfl, by decide +kernel, rfl, by decide +kernel, by decide +kernel⟩
theorem ok__law_is_one {f : Addr} {fd : FuncData} (F : Fun K "_law_is_one" "_law_is_one" s__law_is_one f fd) (T : Txt K mg cn) : FnOk P w K mg base (L2.CX P w) 1 f fd p__law_is_one (spD (gOf K mg cn ρ) (d__law_is_one fu)) := by
  refine fnD_ok (g := gOf K mg cn ρ) (N := N__law_is_one) (ps := p__law_is_one) (body := b__law_is_one fu) F sc__law_is_one (by decide) fun cdv A outer s H E T0 hr hio => ?_
  unfold b__law_is_one
  exact (jss_cons (js_set (i := 2) (fun _ h => ps_set (i := 2) sc__law_is_one.nd rfl (by first | exact Or.inl rfl | exact Or.inr rfl) h) (hio 2 (by decide)) (jr_lst (ja_cons (jo_of (je_isE T.I_BadNumber (ClsV.own _) rfl T.n_isinstance (pe_glob (v := .ref (cn 101)) rfl T.m_BadNumber rfl) (jo_var (pv 0)))) (ja_cons (jo_of (je_isE T.I_BadRatio (ClsV.own _) rfl T.n_isinstance (pe_glob (v := .ref (cn 102)) rfl T.m_BadRatio rfl) (jo_var (pv 0)))) (ja_cons (jo_of (je_isE T.I_BadLot (ClsV.own _) rfl T.n_isinstance (pe_glob (v := .ref (cn 103)) rfl T.m_BadLot rfl) (jo_var (pv 0)))) (ja_cons (jo_of (je_isE T.I_BadBook (ClsV.own _) rfl T.n_isinstance (pe_glob (v := .ref (cn 104)) rfl T.m_BadBook rfl) (jo_var (pv 0)))) ja_nil))))))
    (jss_cons (js_set (i := 2) (fun _ h => ps_set (i := 2) sc__law_is_one.nd rfl (by first | exact Or.inl rfl | exact Or.inr rfl) h) (hio 2 (by decide)) (jr_bin o_cat (jo_varF (pv 2) (hio 2 (by decide))) (jo_of (je_rv (jr_lst (ja_cons (jo_of (je_isE T.I_BadWeb (ClsV.own _) rfl T.n_isinstance (pe_glob (v := .ref (cn 105)) rfl T.m_BadWeb rfl) (jo_var (pv 0)))) (ja_cons (jo_of (je_isE T.I_BadPolynomial (ClsV.own _) rfl T.n_isinstance (pe_glob (v := .ref (cn 106)) rfl T.m_BadPolynomial rfl) (jo_var (pv 0)))) (ja_cons (jo_of (je_isE T.I_BadQuotient (ClsV.own _) rfl T.n_isinstance (pe_glob (v := .ref (cn 107)) rfl T.m_BadQuotient rfl) (jo_var (pv 0)))) ja_nil))))))))
    (jss_cons (js_set (i := 2) (fun _ h => ps_set (i := 2) sc__law_is_one.nd rfl (by first | exact Or.inl rfl | exact Or.inr rfl) h) (hio 2 (by decide)) (jr_bin o_cat (jo_varF (pv 2) (hio 2 (by decide))) (jo_of (je_rv (jr_lst (ja_cons (jo_of (je_isE T.I_BadQuestion (ClsV.own _) rfl T.n_isinstance (pe_glob (v := .ref (cn 108)) rfl T.m_BadQuestion rfl) (jo_var (pv 0)))) (ja_cons (jo_of (je_isE T.I_BadTown (ClsV.own _) rfl T.n_isinstance (pe_glob (v := .ref (cn 109)) rfl T.m_BadTown rfl) (jo_var (pv 0)))) (ja_cons (jo_of (je_isE T.I_BadPaper (ClsV.own _) rfl T.n_isinstance (pe_glob (v := .ref (cn 110)) rfl T.m_BadPaper rfl) (jo_var (pv 0)))) (ja_cons (jo_of (je_isE T.I_BadDesk (ClsV.own _) rfl T.n_isinstance (pe_glob (v := .ref (cn 111)) rfl T.m_BadDesk rfl) (jo_var (pv 0)))) ja_nil)))))))))
    (jss_cons (js_set (i := 2) (fun _ h => ps_set (i := 2) sc__law_is_one.nd rfl (by first | exact Or.inl rfl | exact Or.inr rfl) h) (hio 2 (by decide)) (jr_bin o_cat (jo_varF (pv 2) (hio 2 (by decide))) (jo_of (je_rv (jr_lst (ja_cons (jo_of (je_isE T.I_Misfit (ClsV.own _) rfl T.n_isinstance (pe_glob (v := .ref (cn 112)) rfl T.m_Misfit rfl) (jo_var (pv 0)))) (ja_cons (jo_of (je_isE T.I_NoPoint (ClsV.own _) rfl T.n_isinstance (pe_glob (v := .ref (cn 113)) rfl T.m_NoPoint rfl) (jo_var (pv 0)))) (ja_cons (jo_of (je_isE T.I_NoTie (ClsV.own _) rfl T.n_isinstance (pe_glob (v := .ref (cn 114)) rfl T.m_NoTie rfl) (jo_var (pv 0)))) (ja_cons (jo_of (je_isE T.I_NoSort (ClsV.own _) rfl T.n_isinstance (pe_glob (v := .ref (cn 115)) rfl T.m_NoSort rfl) (jo_var (pv 0)))) ja_nil)))))))))
    (jss_cons (js_set (i := 2) (fun _ h => ps_set (i := 2) sc__law_is_one.nd rfl (by first | exact Or.inl rfl | exact Or.inr rfl) h) (hio 2 (by decide)) (jr_bin o_cat (jo_varF (pv 2) (hio 2 (by decide))) (jo_of (je_rv (jr_lst (ja_cons (jo_of (je_isE T.I_NoKind (ClsV.own _) rfl T.n_isinstance (pe_glob (v := .ref (cn 116)) rfl T.m_NoKind rfl) (jo_var (pv 0)))) (ja_cons (jo_of (je_isE T.I_NoName (ClsV.own _) rfl T.n_isinstance (pe_glob (v := .ref (cn 117)) rfl T.m_NoName rfl) (jo_var (pv 0)))) (ja_cons (jo_of (je_isE T.I_Twice (ClsV.own _) rfl T.n_isinstance (pe_glob (v := .ref (cn 118)) rfl T.m_Twice rfl) (jo_var (pv 0)))) (ja_cons (jo_of (je_isE T.I_Impossible (ClsV.own _) rfl T.n_isinstance (pe_glob (v := .ref (cn 119)) rfl T.m_Impossible rfl) (jo_var (pv 0)))) ja_nil)))))))))
    (jss_cons (js_set (i := 2) (fun _ h => ps_set (i := 2) sc__law_is_one.nd rfl (by first | exact Or.inl rfl | exact Or.inr rfl) h) (hio 2 (by decide)) (jr_bin o_cat (jo_varF (pv 2) (hio 2 (by decide))) (jo_of (je_rv (jr_lst (ja_cons (jo_of (je_isE T.I_TooMany (ClsV.own _) rfl T.n_isinstance (pe_glob (v := .ref (cn 120)) rfl T.m_TooMany rfl) (jo_var (pv 0)))) (ja_cons (jo_of (je_isE T.I_Nothing (ClsV.own _) rfl T.n_isinstance (pe_glob (v := .ref (cn 121)) rfl T.m_Nothing rfl) (jo_var (pv 0)))) (ja_cons (jo_of (je_isE T.I_BadText (ClsV.own _) rfl T.n_isinstance (pe_glob (v := .ref (cn 122)) rfl T.m_BadText rfl) (jo_var (pv 0)))) (ja_cons (jo_of (je_isE T.I_BadLine (ClsV.own _) rfl T.n_isinstance (pe_glob (v := .ref (cn 123)) rfl T.m_BadLine rfl) (jo_var (pv 0)))) ja_nil)))))))))
    (jss_cons (js_if (jt_w (jw_or (jt_cmp (o_neS rfl (hu64 hr)) (jo_varF (pv 2) (hio 2 (by decide))) (jo_of (je_rv (jr_lc rfl sc__law_is_one.nd (ji_range1 rfl T.n_range (ja_cons (jo_of je_int) ja_nil)) (blkOk_by (own := [("_law_spot", 3)]) (N := N__law_is_one) (sc := defScope s__law_is_one) (by decide +kernel)) rfl (fun _ _ _ _ _ => (jg_name (i := 3) (pg_name (i := 3) sc__law_is_one.nd rfl (by first | exact Or.inl rfl | exact Or.inr rfl)) (hio 3 (by decide)) (fun _ h => by cases h; decide))) (fun _ _ _ _ _ => jts_nil) (fun _ _ _ _ _ => (je_cmp (o_eqS rfl (hu64 hr)) (jo_var (pv 3)) (jo_var (pv 1)) (nomark _)))))) (nomark _)) (jw_or1 (jt_cmp (o_neS rfl (hu64 hr)) (jo_of (je_isE T.I_Missing (ClsV.own _) rfl T.n_isinstance (pe_glob (v := .ref (cn 124)) rfl T.m_Missing rfl) (jo_var (pv 0)))) (jo_of (je_chain (o_le) (o_lt) (jo_of je_int) (jo_var (pv 1)) (jo_of je_int))) (nomark _))))) (jss_one (js_ret (jr_of je_bl))) jss_nil)
    (jss_cons (js_if (jt_w (jw_or (jt_not (jt_tru rfl (jo_of (je_isE T.I_ThinError (ClsV.own _) rfl T.n_isinstance (pe_glob (v := .ref (cn 125)) rfl T.m_ThinError rfl) (jo_var (pv 0)))) (fun _ => rfl))) (jw_or1 (jt_not (jt_tru rfl (jo_of (je_isE T.I_ValueError (ClsV.ty "ValueError") rfl T.n_isinstance (pe_bty rfl T.n_ValueError rfl) (jo_var (pv 0)))) (fun _ => rfl)))))) (jss_one (js_ret (jr_of je_bl))) jss_nil)
    (jss_one (js_ret (jr_of (je_not (je_isET T.I_LookupError_TypeError_5 (.cons (ClsV.ty "LookupError") (.cons (ClsV.ty "TypeError") (.cons (ClsV.ty "ArithmeticError") (.cons (ClsV.ty "AttributeError") (.cons (ClsV.ty "RuntimeError") .nil))))) (Nat.le_of_ble_eq_true rfl) rfl T.n_isinstance (pa_cons (pe_bty rfl T.n_LookupError rfl) (pa_cons (pe_bty rfl T.n_TypeError rfl) (pa_cons (pe_bty rfl T.n_ArithmeticError rfl) (pa_cons (pe_bty rfl T.n_AttributeError rfl) (pa_cons (pe_bty rfl T.n_RuntimeError rfl) pa_nil))))) (fun _ _ _ h => h) (jo_var (pv 0)))))))))))))))
theorem sc__law_by_place : FnScope N__law_by_place p__law_by_place (defScope s__law_by_place) := ⟨rfl, rfl, rfl, by decide +kernel, rfl, by decide +kernel, by decide +kernel⟩
theorem ok__law_by_place {f : Addr} {fd : FuncData} (F : Fun K "_law_by_place" "_law_by_place" s__law_by_place f fd) (T : Txt K mg cn) : FnOk P w K mg base (L2.CX P w) 3 f fd p__law_by_place (spD (gOf K mg cn ρ) (d__law_by_place fu)) := by
  refine fnD_ok (g := gOf K mg cn ρ) (N := N__law_by_place) (ps := p__law_by_place) (body := b__law_by_place fu) F sc__law_by_place (by decide) fun cdv A outer s H E T0 hr hio => ?_
  unfold b__law_by_place
  exact (jss_cons (js_set (i := 1) (fun _ h => ps_set (i := 1) sc__law_by_place.nd rfl (by first | exact Or.inl rfl | exact Or.inr rfl) h) (hio 1 (by decide)) (jr_lst (ja_cons (jo_of (je_rv (jr_of (je_err (T.M_BadNumber _ _ _ _) hr (ja_cons (jo_var (pv 0)) ja_nil))))) (ja_cons (jo_of (je_rv (jr_of (je_err (T.M_BadRatio _ _ _ _) hr (ja_cons (jo_var (pv 0)) ja_nil))))) (ja_cons (jo_of (je_rv (jr_of (je_err (T.M_BadLot _ _ _ _) hr (ja_cons (jo_var (pv 0)) ja_nil))))) (ja_cons (jo_of (je_rv (jr_of (je_err (T.M_BadBook _ _ _ _) hr (ja_cons (jo_var (pv 0)) ja_nil))))) (ja_cons (jo_of (je_rv (jr_of (je_err (T.M_BadWeb _ _ _ _) hr (ja_cons (jo_var (pv 0)) ja_nil))))) (ja_cons (jo_of (je_rv (jr_of (je_err (T.M_BadPolynomial _ _ _ _) hr (ja_cons (jo_var (pv 0)) ja_nil))))) ja_nil))))))))
    (jss_cons (js_set (i := 1) (fun _ h => ps_set (i := 1) sc__law_by_place.nd rfl (by first | exact Or.inl rfl | exact Or.inr rfl) h) (hio 1 (by decide)) (jr_bin o_cat (jo_varF (pv 1) (hio 1 (by decide))) (jo_of (je_rv (jr_lst (ja_cons (jo_of (je_rv (jr_of (je_err (T.M_BadQuotient _ _ _ _) hr (ja_cons (jo_var (pv 0)) ja_nil))))) (ja_cons (jo_of (je_rv (jr_of (je_err (T.M_BadQuestion _ _ _ _) hr (ja_cons (jo_var (pv 0)) ja_nil))))) (ja_cons (jo_of (je_rv (jr_of (je_err (T.M_BadTown _ _ _ _) hr (ja_cons (jo_var (pv 0)) ja_nil))))) (ja_cons (jo_of (je_rv (jr_of (je_err (T.M_BadPaper _ _ _ _) hr (ja_cons (jo_var (pv 0)) ja_nil))))) (ja_cons (jo_of (je_rv (jr_of (je_err (T.M_BadDesk _ _ _ _) hr (ja_cons (jo_var (pv 0)) ja_nil))))) (ja_cons (jo_of (je_rv (jr_of (je_err (T.M_Misfit _ _ _ _) hr (ja_cons (jo_var (pv 0)) ja_nil))))) ja_nil)))))))))))
    (jss_one (js_ret (jr_bin o_cat (jo_varF (pv 1) (hio 1 (by decide))) (jo_of (je_rv (jr_lst (ja_cons (jo_of (je_rv (jr_of (je_err (T.M_NoPoint _ _ _ _) hr (ja_cons (jo_var (pv 0)) ja_nil))))) (ja_cons (jo_of (je_rv (jr_of (je_err (T.M_NoTie _ _ _ _) hr (ja_cons (jo_var (pv 0)) ja_nil))))) (ja_cons (jo_of (je_rv (jr_of (je_err (T.M_NoSort _ _ _ _) hr (ja_cons (jo_var (pv 0)) ja_nil))))) (ja_cons (jo_of (je_rv (jr_of (je_err (T.M_NoKind _ _ _ _) hr (ja_cons (jo_var (pv 0)) ja_nil))))) (ja_cons (jo_of (je_rv (jr_of (je_err (T.M_NoName _ _ _ _) hr (ja_cons (jo_var (pv 0)) ja_nil))))) (ja_cons (jo_of (je_rv (jr_of (je_err (T.M_Twice _ _ _ _) hr (ja_cons (jo_var (pv 0)) ja_nil))))) (ja_cons (jo_of (je_rv (jr_of (je_err (T.M_Impossible _ _ _ _) hr (ja_cons (jo_var (pv 0)) ja_nil))))) ja_nil)))))))))))))))
theorem sc__law_by_name : FnScope N__law_by_name p__law_by_name (defScope s__law_by_name) := ⟨rfl, rfl, rfl, by decide +kernel, rfl, by decide +kernel, by decide +kernel⟩
theorem ok__law_by_name {f : Addr} {fd : FuncData} (F : Fun K "_law_by_name" "_law_by_name" s__law_by_name f fd) (T : Txt K mg cn) : FnOk P w K mg base (L2.CX P w) 3 f fd p__law_by_name (spD (gOf K mg cn ρ) (d__law_by_name fu)) := by
  refine fnD_ok (g := gOf K mg cn ρ) (N := N__law_by_name) (ps := p__law_by_name) (body := b__law_by_name fu) F sc__law_by_name (by decide) fun cdv A outer s H E T0 hr hio => ?_
  unfold b__law_by_name
  exact (jss_cons (js_set (i := 1) (fun _ h => ps_set (i := 1) sc__law_by_name.nd rfl (by first | exact Or.inl rfl | exact Or.inr rfl) h) (hio 1 (by decide)) (jr_lst (ja_cons (jo_of (je_rv (jr_of (je_errK (T.M_BadNumber _ _ _ _) hr (jk_cons (jo_var (pv 0)) jk_nil))))) (ja_cons (jo_of (je_rv (jr_of (je_errK (T.M_BadRatio _ _ _ _) hr (jk_cons (jo_var (pv 0)) jk_nil))))) (ja_cons (jo_of (je_rv (jr_of (je_errK (T.M_BadLot _ _ _ _) hr (jk_cons (jo_var (pv 0)) jk_nil))))) (ja_cons (jo_of (je_rv (jr_of (je_errK (T.M_BadBook _ _ _ _) hr (jk_cons (jo_var (pv 0)) jk_nil))))) (ja_cons (jo_of (je_rv (jr_of (je_errK (T.M_BadWeb _ _ _ _) hr (jk_cons (jo_var (pv 0)) jk_nil))))) ja_nil)))))))
    (jss_cons (js_set (i := 1) (fun _ h => ps_set (i := 1) sc__law_by_name.nd rfl (by first | exact Or.inl rfl | exact Or.inr rfl) h) (hio 1 (by decide)) (jr_bin o_cat (jo_varF (pv 1) (hio 1 (by decide))) (jo_of (je_rv (jr_lst (ja_cons (jo_of (je_rv (jr_of (je_errK (T.M_BadPolynomial _ _ _ _) hr (jk_cons (jo_var (pv 0)) jk_nil))))) (ja_cons (jo_of (je_rv (jr_of (je_errK (T.M_BadQuotient _ _ _ _) hr (jk_cons (jo_var (pv 0)) jk_nil))))) (ja_cons (jo_of (je_rv (jr_of (je_errK (T.M_BadQuestion _ _ _ _) hr (jk_cons (jo_var (pv 0)) jk_nil))))) (ja_cons (jo_of (je_rv (jr_of (je_errK (T.M_BadTown _ _ _ _) hr (jk_cons (jo_var (pv 0)) jk_nil))))) ja_nil)))))))))
    (jss_cons (js_set (i := 1) (fun _ h => ps_set (i := 1) sc__law_by_name.nd rfl (by first | exact Or.inl rfl | exact Or.inr rfl) h) (hio 1 (by decide)) (jr_bin o_cat (jo_varF (pv 1) (hio 1 (by decide))) (jo_of (je_rv (jr_lst (ja_cons (jo_of (je_rv (jr_of (je_errK (T.M_BadPaper _ _ _ _) hr (jk_cons (jo_var (pv 0)) jk_nil))))) (ja_cons (jo_of (je_rv (jr_of (je_errK (T.M_BadDesk _ _ _ _) hr (jk_cons (jo_var (pv 0)) jk_nil))))) (ja_cons (jo_of (je_rv (jr_of (je_errK (T.M_Misfit _ _ _ _) hr (jk_cons (jo_var (pv 0)) jk_nil))))) (ja_cons (jo_of (je_rv (jr_of (je_errK (T.M_NoPoint _ _ _ _) hr (jk_cons (jo_var (pv 0)) jk_nil))))) (ja_cons (jo_of (je_rv (jr_of (je_errK (T.M_NoTie _ _ _ _) hr (jk_cons (jo_var (pv 0)) jk_nil))))) ja_nil))))))))))
    (jss_one (js_ret (jr_bin o_cat (jo_varF (pv 1) (hio 1 (by decide))) (jo_of (je_rv (jr_lst (ja_cons (jo_of (je_rv (jr_of (je_errK (T.M_NoSort _ _ _ _) hr (jk_cons (jo_var (pv 0)) jk_nil))))) (ja_cons (jo_of (je_rv (jr_of (je_errK (T.M_NoKind _ _ _ _) hr (jk_cons (jo_var (pv 0)) jk_nil))))) (ja_cons (jo_of (je_rv (jr_of (je_errK (T.M_NoName _ _ _ _) hr (jk_cons (jo_var (pv 0)) jk_nil))))) (ja_cons (jo_of (je_rv (jr_of (je_errK (T.M_Twice _ _ _ _) hr (jk_cons (jo_var (pv 0)) jk_nil))))) (ja_cons (jo_of (je_rv (jr_of (je_errK (T.M_Impossible _ _ _ _) hr (jk_cons (jo_var (pv 0)) jk_nil))))) ja_nil))))))))))))))
theorem sc__law_kept : FnScope N__law_kept p__law_kept (defScope s__law_kept) := ⟨rfl, rfl, rfl, by decide +kernel, rfl, by decide +kernel, by decide +kernel⟩
theorem ok__law_kept {f : Addr} {fd : FuncData} (F : Fun K "_law_kept" "_law_kept" s__law_kept f fd) (T : Txt K mg cn) : FnOk P w K mg base (L2.CX P w) 1 f fd p__law_kept (spD (gOf K mg cn ρ) (d__law_kept fu)) := by
  refine fnD_ok (g := gOf K mg cn ρ) (N := N__law_kept) (ps := p__law_kept) (body := b__law_kept fu) F sc__law_kept (by decide) fun cdv A outer s H E T0 hr hio => ?_
  unfold b__law_kept
  exact (jss_cons (js_if (jt_cmp (o_lt) (jo_var (pv 1)) (jo_of je_int) (nomark _)) (jss_one (js_ret (jr_of (je_ef rfl T.A_part (je_of (jo_var (pv 0))))))) jss_nil)
    (jss_one (js_ret (jr_of (je_if (jt_cmp (o_lt) (jo_var (pv 1)) (jo_of je_int) (nomark _)) (je_ef rfl T.A_value (je_of (jo_var (pv 0)))) (je_ef rfl T.A_paper (je_of (jo_var (pv 0)))))))))
theorem sc__law_single_right : FnScope N__law_single_right p__law_single_right (defScope s__law_single_right) := ⟨rfl, rfl, rfl, by decide +kernel, rfl, by decide +kernel, by decide +kernel⟩
theorem ok__law_single_right {f : Addr} {fd : FuncData} (F : Fun K "_law_single_right" "_law_single_right" s__law_single_right f fd) (T : Txt K mg cn) (C__law_is_one : Cl P w (gOf K mg cn ρ) base 1 "_law_is_one" p__law_is_one (d__law_is_one fu)) (C__law_by_place : Cl P w (gOf K mg cn ρ) base 3 "_law_by_place" p__law_by_place (d__law_by_place fu)) (C__law_by_name : Cl P w (gOf K mg cn ρ) base 3 "_law_by_name" p__law_by_name (d__law_by_name fu)) (C__law_kept : Cl P w (gOf K mg cn ρ) base 1 "_law_kept" p__law_kept (d__law_kept fu)) : FnOk P w K mg base (L2.CX P w) 4 f fd p__law_single_right (spD (gOf K mg cn ρ) (d__law_single_right fu)) := by
  refine fnD_ok (g := gOf K mg cn ρ) (N := N__law_single_right) (ps := p__law_single_right) (body := b__law_single_right fu) F sc__law_single_right (by decide) fun cdv A outer s H E T0 hr hio => ?_
  unfold b__law_single_right
  exact (jss_cons (js_par2 (i := 2) (j := 3) (fun _ h => ps_par (i := 2) (j := 3) rfl sc__law_single_right.nd rfl rfl (by decide) rfl rfl h rfl) (hio 2 (by decide)) (hio 3 (by decide)) (ja_cons (jo_of (je_rv (jr_callC C__law_by_place hr (by decide) rfl rfl rfl (takes_of rfl rfl rfl rfl) (ja_cons (jo_var (pv 0)) ja_nil)))) (ja_cons (jo_of (je_rv (jr_callC C__law_by_name hr (by decide) rfl rfl rfl (takes_of rfl rfl rfl rfl) (ja_cons (jo_var (pv 1)) ja_nil)))) ja_nil)))
    (jss_cons (js_for (passes_of rfl) rfl (ji_range1 rfl T.n_range (ja_cons (jo_of je_int) ja_nil)) (jg_name (i := 4) (pg_name (i := 4) sc__law_single_right.nd rfl (by first | exact Or.inl rfl | exact Or.inr rfl)) (hio 4 (by decide)) (fun _ h => by cases h)) (jss_cons (js_if (jt_w (jw_or (jt_not (jt_tru rfl (jo_of (je_rv (jr_callC C__law_is_one hr (by decide) rfl rfl rfl (takes_of rfl rfl rfl rfl) (ja_cons (jo_of (je_ix rfl (jo_varF (pv 2) (hio 2 (by decide))) (jo_var (pv 4)) (fun _ _ => rfl))) (ja_cons (jo_var (pv 4)) ja_nil))))) (fun _ => rfl))) (jw_or1 (jt_not (jt_tru rfl (jo_of (je_rv (jr_callC C__law_is_one hr (by decide) rfl rfl rfl (takes_of rfl rfl rfl rfl) (ja_cons (jo_of (je_ix rfl (jo_varF (pv 3) (hio 3 (by decide))) (jo_var (pv 4)) (fun _ _ => rfl))) (ja_cons (jo_var (pv 4)) ja_nil))))) (fun _ => rfl)))))) (jss_one (js_ret (jr_of je_bl))) jss_nil)
    (jss_one (js_if (jt_w (jw_or (jt_cmp (o_neS rfl (hu64 hr)) (jo_of (je_rv (jr_callC C__law_kept hr (by decide) rfl rfl rfl (takes_of rfl rfl rfl rfl) (ja_cons (jo_of (je_ix rfl (jo_varF (pv 2) (hio 2 (by decide))) (jo_var (pv 4)) (fun _ _ => rfl))) (ja_cons (jo_var (pv 4)) ja_nil))))) (jo_var (pv 0)) (nomark _)) (jw_or1 (jt_cmp (o_neS rfl (hu64 hr)) (jo_of (je_rv (jr_callC C__law_kept hr (by decide) rfl rfl rfl (takes_of rfl rfl rfl rfl) (ja_cons (jo_of (je_ix rfl (jo_varF (pv 3) (hio 3 (by decide))) (jo_var (pv 4)) (fun _ _ => rfl))) (ja_cons (jo_var (pv 4)) ja_nil))))) (jo_var (pv 1)) (nomark _))))) (jss_one (js_ret (jr_of je_bl))) jss_nil))))
    (jss_cons (js_set (i := 5) (fun _ h => ps_set (i := 5) sc__law_single_right.nd rfl (by first | exact Or.inl rfl | exact Or.inr rfl) h) (hio 5 (by decide)) (jr_of (je_errK (T.M_Missing _ _ _ _) hr (jk_cons (jo_var (pv 0)) jk_nil))))
    (jss_cons (js_if (jt_w (jw_or (jt_cmp (o_neS rfl (hu64 hr)) (jo_of (je_ef rfl T.A_value (je_of (jo_var (pv 5))))) (jo_var (pv 0)) (nomark _)) (jw_or (jt_not (jt_tru rfl (jo_of (je_isE T.I_ThinError (ClsV.own _) rfl T.n_isinstance (pe_glob (v := .ref (cn 125)) rfl T.m_ThinError rfl) (jo_var (pv 5)))) (fun _ => rfl))) (jw_or1 (jt_tru rfl (jo_of (je_isET T.I_NoPoint_NoTie_6 (.cons (ClsV.own _) (.cons (ClsV.own _) (.cons (ClsV.own _) (.cons (ClsV.own _) (.cons (ClsV.own _) (.cons (ClsV.own _) .nil)))))) (Nat.le_of_ble_eq_true rfl) rfl T.n_isinstance (pa_cons (pe_glob (v := .ref (cn 113)) rfl T.m_NoPoint rfl) (pa_cons (pe_glob (v := .ref (cn 114)) rfl T.m_NoTie rfl) (pa_cons (pe_glob (v := .ref (cn 115)) rfl T.m_NoSort rfl) (pa_cons (pe_glob (v := .ref (cn 116)) rfl T.m_NoKind rfl) (pa_cons (pe_glob (v := .ref (cn 117)) rfl T.m_NoName rfl) (pa_cons (pe_glob (v := .ref (cn 118)) rfl T.m_Twice rfl) pa_nil)))))) (fun _ _ _ h => h) (jo_var (pv 5)))) (fun _ => rfl)))))) (jss_one (js_ret (jr_of je_bl))) jss_nil)
    (jss_one (js_ret (jr_of (je_and (je_cmp (o_eqS rfl (hu64 hr)) (jo_of (je_ef rfl T.A_value (je_rv (jr_of (je_err (T.M_Missing _ _ _ _) hr (ja_cons (jo_var (pv 1)) ja_nil)))))) (jo_var (pv 1)) (nomark _)) (je_one (je_rv (jr_callC C__law_is_one hr (by decide) rfl rfl rfl (takes_of rfl rfl rfl rfl) (ja_cons (jo_of (je_rv (jr_of (je_err0 (T.Z_Nothing _))))) (ja_cons (jo_of je_int) ja_nil)))))))))))))
theorem sc__law_double_right : FnScope N__law_double_right p__law_double_right (defScope s__law_double_right) := ⟨rfl, rfl, rfl, by decide +kernel, rfl, by decide +kernel, by decide +kernel⟩
theorem ok__law_double_right {f : Addr} {fd : FuncData} (F : Fun K "_law_double_right" "_law_double_right" s__law_double_right f fd) (T : Txt K mg cn) (C__law_is_one : Cl P w (gOf K mg cn ρ) base 1 "_law_is_one" p__law_is_one (d__law_is_one fu)) : FnOk P w K mg base (L2.CX P w) 3 f fd p__law_double_right (spD (gOf K mg cn ρ) (d__law_double_right fu)) := by
  refine fnD_ok (g := gOf K mg cn ρ) (N := N__law_double_right) (ps := p__law_double_right) (body := b__law_double_right fu) F sc__law_double_right (by decide) fun cdv A outer s H E T0 hr hio => ?_
  unfold b__law_double_right
  exact (jss_cons (js_for (passes_of rfl) rfl (ji_seq rfl (je_tup (ja_cons (jo_of (je_rv (jr_of (je_err (T.M_TooMany _ _ _ _) hr (ja_cons (jo_var (pv 0)) (ja_cons (jo_var (pv 1)) ja_nil)))))) (ja_cons (jo_of (je_rv (jr_of (je_errKR (T.M_TooMany _ _ _ _) hr (jk_cons (jo_var (pv 1)) (jk_cons (jo_var (pv 0)) jk_nil)))))) ja_nil)))) (jg_name (i := 2) (pg_name (i := 2) sc__law_double_right.nd rfl (by first | exact Or.inl rfl | exact Or.inr rfl)) (hio 2 (by decide)) (fun _ h => by cases h)) (jss_one (js_if (jt_w (jw_or (jt_not (jt_tru rfl (jo_of (je_rv (jr_callC C__law_is_one hr (by decide) rfl rfl rfl (takes_of rfl rfl rfl rfl) (ja_cons (jo_var (pv 2)) (ja_cons (jo_of je_int) ja_nil))))) (fun _ => rfl))) (jw_or (jt_cmp (o_neS rfl (hu64 hr)) (jo_of (je_ef rfl T.A_what (je_of (jo_var (pv 2))))) (jo_var (pv 0)) (nomark _)) (jw_or1 (jt_cmp (o_neS rfl (hu64 hr)) (jo_of (je_ef rfl T.A_most (je_of (jo_var (pv 2))))) (jo_var (pv 1)) (nomark _)))))) (jss_one (js_ret (jr_of je_bl))) jss_nil)))
    (jss_cons (js_for (passes_of rfl) rfl (ji_seq rfl (je_tup (ja_cons (jo_of (je_rv (jr_of (je_err (T.M_BadText _ _ _ _) hr (ja_cons (jo_var (pv 0)) (ja_cons (jo_var (pv 1)) ja_nil)))))) (ja_cons (jo_of (je_rv (jr_of (je_errKR (T.M_BadText _ _ _ _) hr (jk_cons (jo_var (pv 1)) (jk_cons (jo_var (pv 0)) jk_nil)))))) ja_nil)))) (jg_name (i := 2) (pg_name (i := 2) sc__law_double_right.nd rfl (by first | exact Or.inl rfl | exact Or.inr rfl)) (hio 2 (by decide)) (fun _ h => by cases h)) (jss_one (js_if (jt_w (jw_or (jt_not (jt_tru rfl (jo_of (je_rv (jr_callC C__law_is_one hr (by decide) rfl rfl rfl (takes_of rfl rfl rfl rfl) (ja_cons (jo_var (pv 2)) (ja_cons (jo_of je_int) ja_nil))))) (fun _ => rfl))) (jw_or (jt_cmp (o_neS rfl (hu64 hr)) (jo_of (je_ef rfl T.A_line (je_of (jo_var (pv 2))))) (jo_var (pv 0)) (nomark _)) (jw_or1 (jt_cmp (o_neS rfl (hu64 hr)) (jo_of (je_ef rfl T.A_item (je_of (jo_var (pv 2))))) (jo_var (pv 1)) (nomark _)))))) (jss_one (js_ret (jr_of je_bl))) jss_nil)))
    (jss_cons (js_for (passes_of rfl) rfl (ji_seq rfl (je_tup (ja_cons (jo_of (je_rv (jr_of (je_err (T.M_BadLine _ _ _ _) hr (ja_cons (jo_var (pv 0)) (ja_cons (jo_var (pv 1)) ja_nil)))))) (ja_cons (jo_of (je_rv (jr_of (je_errKR (T.M_BadLine _ _ _ _) hr (jk_cons (jo_var (pv 1)) (jk_cons (jo_var (pv 0)) jk_nil)))))) ja_nil)))) (jg_name (i := 2) (pg_name (i := 2) sc__law_double_right.nd rfl (by first | exact Or.inl rfl | exact Or.inr rfl)) (hio 2 (by decide)) (fun _ h => by cases h)) (jss_one (js_if (jt_w (jw_or (jt_not (jt_tru rfl (jo_of (je_rv (jr_callC C__law_is_one hr (by decide) rfl rfl rfl (takes_of rfl rfl rfl rfl) (ja_cons (jo_var (pv 2)) (ja_cons (jo_of je_int) ja_nil))))) (fun _ => rfl))) (jw_or (jt_cmp (o_neS rfl (hu64 hr)) (jo_of (je_ef rfl T.A_line (je_of (jo_var (pv 2))))) (jo_var (pv 0)) (nomark _)) (jw_or1 (jt_cmp (o_neS rfl (hu64 hr)) (jo_of (je_ef rfl T.A_error (je_of (jo_var (pv 2))))) (jo_var (pv 1)) (nomark _)))))) (jss_one (js_ret (jr_of je_bl))) jss_nil)))
    (jss_one (js_ret (jr_of je_bl))))))
theorem sc__law_raised : FnScope N__law_raised p__law_raised (defScope s__law_raised) := ⟨rfl, rfl, rfl, by decide +kernel, rfl, by decide +kernel, by decide +kernel⟩
theorem ok__law_raised {f : Addr} {fd : FuncData} (F : Fun K "_law_raised" "_law_raised" s__law_raised f fd) (T : Txt K mg cn) : FnOk P w K mg base (L2.CX P w) 3 f fd p__law_raised (spD (gOf K mg cn ρ) (d__law_raised fu)) := by
  refine fnD_ok (g := gOf K mg cn ρ) (N := N__law_raised) (ps := p__law_raised) (body := b__law_raised fu) F sc__law_raised (by decide) fun cdv A outer s H E T0 hr hio => ?_
  unfold b__law_raised
  exact (jss_cons (js_if (jt_cmp (o_eqS rfl (hu64 hr)) (jo_var (pv 0)) (jo_of je_int) (nomark _)) (jss_one (js_raiseE (T.M_NoTie _ _ _ _) hr (takes_of rfl rfl rfl rfl) (ja_cons (jo_var (pv 1)) ja_nil))) jss_nil)
    (jss_cons (js_if (jt_cmp (o_eqS rfl (hu64 hr)) (jo_var (pv 0)) (jo_of je_int) (nomark _)) (jss_one (js_raiseE (T.M_Twice _ _ _ _) hr (takes_of rfl rfl rfl rfl) (ja_cons (jo_var (pv 1)) ja_nil))) jss_nil)
    (jss_one (js_raiseE (T.M_TooMany _ _ _ _) hr (takes_of rfl rfl rfl rfl) (ja_cons (jo_var (pv 1)) (ja_cons (jo_of je_int) ja_nil))))))
theorem sc__law_caught : FnScope N__law_caught p__law_caught (defScope s__law_caught) := ⟨rfl, rfl, rfl, by decide +kernel, rfl, by decide +kernel, by decide +kernel⟩
theorem ok__law_caught {f : Addr} {fd : FuncData} (F : Fun K "_law_caught" "_law_caught" s__law_caught f fd) (T : Txt K mg cn) (C__law_raised : Cl P w (gOf K mg cn ρ) base 3 "_law_raised" p__law_raised (d__law_raised fu)) : FnOk P w K mg base (L2.CX P w) 4 f fd p__law_caught (spD (gOf K mg cn ρ) (d__law_caught fu)) := by
  refine fnD_ok (g := gOf K mg cn ρ) (N := N__law_caught) (ps := p__law_caught) (body := b__law_caught fu) F sc__law_caught (by decide) fun cdv A outer s H E T0 hr hio => ?_
  unfold b__law_caught
  exact (jss_cons (js_tryL (k := 2) (hio 2 (by decide)) (fun W pn xe tk po => (jss_one (js_expr (je_rv (jr_callC C__law_raised hr (by decide) rfl rfl rfl tk (ja_cons (jo_var (pv 0)) (ja_cons (jo_var (pv 1)) ja_nil)))) rfl))) (.cons ⟨rfl, by decide, Or.inl T.m_Missing⟩ T.H_Missing (fun a x c ds s1 => hret_same a x c ds s1) (fun a oe c ds d pn hz hf => jss_hret rfl T.A_value hz hf (pv 2)) (.cons ⟨rfl, by decide, Or.inl T.m_Twice⟩ T.H_Twice (fun a x c ds s1 => hret_same a x c ds s1) (fun a oe c ds d pn hz hf => jss_hret rfl T.A_value hz hf (pv 2)) (.cons ⟨rfl, by decide, Or.inl T.m_ThinError⟩ T.H_ThinError (fun a x c ds s1 => hret_same a x c ds s1) (fun a oe c ds d pn hz hf => jss_hret rfl T.A_what hz hf (pv 2)) .nil))) rfl rfl sc__law_caught.nd)
    (jss_one (js_ret (jr_of je_non))))
theorem sc_law : FnScope N_law p_law (defScope s_law) := ⟨rfl, rfl, rfl, by decide +kernel, rfl, by decide +kernel, by decide +kernel⟩
theorem ok_law {f : Addr} {fd : FuncData} (F : Fun K "law" "law" s_law f fd) (T : Txt K mg cn) (C__law_bag : ∀ ρ : Nat → Option V, Cl P w (gOf K mg cn ρ) base 1 "_law_bag" p__law_bag (d__law_bag fu)) (C__law_field : ∀ ρ : Nat → Option V, Cl P w (gOf K mg cn ρ) base 3 "_law_field" p__law_field (d__law_field fu)) (C__law_single_right : ∀ ρ : Nat → Option V, Cl P w (gOf K mg cn ρ) base 4 "_law_single_right" p__law_single_right (d__law_single_right fu)) (C__law_double_right : ∀ ρ : Nat → Option V, Cl P w (gOf K mg cn ρ) base 3 "_law_double_right" p__law_double_right (d__law_double_right fu)) (C__law_caught : ∀ ρ : Nat → Option V, Cl P w (gOf K mg cn ρ) base 4 "_law_caught" p__law_caught (d__law_caught fu)) : FnOk P w K mg base (L2.CX P w) 5 f fd p_law (spD (gOf K mg cn ρ) (d_law fu)) := by
  refine fnD_ok0 (g := gOf K mg cn ρ) (N := N_law) (ps := p_law) (body := b_law fu) F sc_law (by decide) fun cdv A outer s H E T0 hr hio hT hτ => ?_
  unfold b_law
  exact (jss_cons (js_set (i := 1) (fun _ h => ps_set (i := 1) sc_law.nd rfl (by first | exact Or.inl rfl | exact Or.inr rfl) h) (hio 1 (by decide)) (jr_callC (C__law_bag ρ) hr (by decide) rfl rfl rfl (takes_of rfl rfl rfl rfl) (ja_cons (jo_var (pv 0)) ja_nil)))
    (jss_cons (js_for (passes_of rfl) rfl (ji_range1 rfl T.n_range (ja_cons (jo_of je_int) ja_nil)) (jg_name (i := 2) (pg_name (i := 2) sc_law.nd rfl (by first | exact Or.inl rfl | exact Or.inr rfl)) (hio 2 (by decide)) (fun _ h => by cases h)) (jss_cons (js_asg (fun _ _ h h2 => ps_asg h h2) (je_tup (ja_cons (jo_of (je_rv (jr_callC (C__law_field ρ) hr (by decide) rfl rfl rfl (takes_of rfl rfl rfl rfl) (ja_cons (jo_var (pv 1)) ja_nil)))) (ja_cons (jo_of (je_rv (jr_callC (C__law_field ρ) hr (by decide) rfl rfl rfl (takes_of rfl rfl rfl rfl) (ja_cons (jo_var (pv 1)) ja_nil)))) ja_nil))) (jg_tup (n := 2) rfl rfl (jgs_cons (jg_name (i := 3) (pg_name (i := 3) sc_law.nd rfl (by first | exact Or.inl rfl | exact Or.inr rfl)) (hio 3 (by decide)) (fun _ h => by cases h)) (jgs_cons (jg_name (i := 4) (pg_name (i := 4) sc_law.nd rfl (by first | exact Or.inl rfl | exact Or.inr rfl)) (hio 4 (by decide)) (fun _ h => by cases h)) jgs_nil))))
    (jss_switch (ec := ecB) (by decide) hT hτ T.ec (fun r => (show JSs _ (gOf K mg cn r) _ _ _ _ from (jss_cons (js_if (jt_w (jw_or (jt_not (jt_tru rfl (jo_of (je_rv (jr_callC (C__law_single_right r) hr (by decide) rfl rfl rfl (takes_of rfl rfl rfl rfl) (ja_cons (jo_var (pv 3)) (ja_cons (jo_var (pv 4)) ja_nil))))) (fun _ => rfl))) (jw_or (jt_not (jt_tru rfl (jo_of (je_rv (jr_callC (C__law_double_right r) hr (by decide) rfl rfl rfl (takes_of rfl rfl rfl rfl) (ja_cons (jo_var (pv 3)) (ja_cons (jo_var (pv 4)) ja_nil))))) (fun _ => rfl))) (jw_or1 (jt_not (jt_tru rfl (jo_of (je_rv (jr_callC (C__law_double_right r) hr (by decide) rfl rfl rfl (takes_of rfl rfl rfl rfl) (ja_cons (jo_var (pv 4)) (ja_cons (jo_var (pv 3)) ja_nil))))) (fun _ => rfl))))))) (jss_one (js_ret (jr_of je_bl))) jss_nil)
    (jss_one (js_if (jt_cmp (o_neS rfl (hu64 hr)) (jo_of (je_rv (jr_lc rfl sc_law.nd (ji_range1 rfl T.n_range (ja_cons (jo_of je_int) ja_nil)) (blkOk_by (own := [("_law_number", 5)]) (N := N_law) (sc := defScope s_law) (by decide +kernel)) rfl (fun _ _ _ _ _ => (jg_name (i := 5) (pg_name (i := 5) sc_law.nd rfl (by first | exact Or.inl rfl | exact Or.inr rfl)) (hio 5 (by decide)) (fun _ h => by cases h; decide))) (fun _ _ _ _ _ => jts_nil) (fun _ _ _ _ _ => (je_rv (jr_callC (C__law_caught r) hr (by decide) rfl rfl rfl takes0 (ja_cons (jo_var (pv 5)) (ja_cons (jo_var (pv 3)) ja_nil)))))))) (jo_of (je_rv (jr_lst (ja_cons (jo_of (je_tup (ja_cons (jo_of je_str) (ja_cons (jo_var (pv 3)) ja_nil)))) (ja_cons (jo_of (je_tup (ja_cons (jo_of je_str) (ja_cons (jo_var (pv 3)) ja_nil)))) (ja_cons (jo_of (je_tup (ja_cons (jo_of je_str) (ja_cons (jo_var (pv 3)) ja_nil)))) ja_nil)))))) (nomark _)) (jss_one (js_ret (jr_of je_bl))) jss_nil))))))))
    (jss_one (js_ret (jr_of je_bl)))))
end
end K00

set_option linter.all false
set_option autoImplicit false
set_option maxRecDepth 100000
set_option maxHeartbeats 4000000
/-! the toolkit of the plain laws: loops, rows of integers as data, sizes, draws -/
namespace TK
open PySem TW L2
/-! ## the toolkit -/
theorem ms_k {α : Type} {fa : M α} {k : α → MS} {a : α} {s s' : S} (h : fa s = .ok a s') : ms fa k s = k a s' := by unfold ms; rw [h]
theorem mb_k {α β : Type} {fa : M α} {k : α → M β} {a : α} {s s' : S} (h : fa s = .ok a s') : mbind fa k s = k a s' := by unfold mbind; rw [h]
theorem seq_nx {f k : MS} {s s' : S} (h : f s = .nx s') : mseq f k s = k s' := by unfold mseq; rw [h]
theorem seq_rt {f k : MS} {s s' : S} {r : Rv} (h : f s = .rt r s') : mseq f k s = .rt r s' := by unfold mseq; rw [h]
theorem forD_ok {tm : D → S → Option S} {bd : MS} (P : Nat → S → Prop) : ∀ (ds : List D) (i : Nat) (s : S), P i s → (∀ j d s, ds[j]? = some d → P (i + j) s → ∃ s0 s', tm d s = some s0 ∧ bd s0 = .nx s' ∧ P (i + j + 1) s') → ∃ s', forD tm bd ds s = .nx s' ∧ P (i + ds.length) s'
  | [], i, s, h, _ => ⟨s, rfl, h⟩
  | d :: r, i, s, h, st => by
    obtain ⟨s0, s1, e1, e2, h1⟩ := st 0 d s rfl h
    obtain ⟨s', e3, h3⟩ := forD_ok P r (i + 1) s1 h1 fun j d' s2 hj h2 => by
      have := st (j + 1) d' s2 (by simpa using hj) (by rw [show i + (j + 1) = i + 1 + j by omega]; exact h2)
      rwa [show i + (j + 1) + 1 = i + 1 + j + 1 by omega] at this
    refine ⟨s', ?_, by rw [show i + (d :: r).length = i + 1 + r.length by simp; omega]; exact h3⟩
    unfold forD
    rw [e1]; dsimp only; rw [e2]; exact e3
theorem for_ok {fi : M (List D)} {tm : D → S → Option S} {bd : MS} {ds : List D} {s s0 : S} (P : Nat → S → Prop) (hi : fi s = .ok ds s0) (h0 : P 0 s0) (st : ∀ j d s, ds[j]? = some d → P j s → ∃ s0 s', tm d s = some s0 ∧ bd s0 = .nx s' ∧ P (j + 1) s') : ∃ s', mfor fi tm bd s = .nx s' ∧ P ds.length s' := by
  obtain ⟨s', e, h⟩ := forD_ok P ds 0 s0 h0 fun j d s hj h => by
    rw [Nat.zero_add] at h ⊢; exact st j d s hj h
  refine ⟨s', ?_, by rwa [Nat.zero_add] at h⟩
  unfold mfor
  rw [ms_k hi]; exact e
/-- a while whose measure falls -/
theorem while_ok {ft : M Bool} {bd : MS} (P : S → Prop) (mu : S → Nat) : ∀ (n : Nat) (s : S), P s → mu s < n → (∀ s, P s → (∃ s', ft s = .ok false s') ∨ ∃ s1 s2, ft s = .ok true s1 ∧ bd s1 = .nx s2 ∧ P s2 ∧ mu s2 < mu s) →
    ∃ s' s0, whileD ft bd n s = .nx s' ∧ P s0 ∧ ft s0 = .ok false s'
  | 0, s, _, h, _ => absurd h (Nat.not_lt_zero _)
  | n + 1, s, hp, h, st => by
    rcases st s hp with ⟨s', e⟩ | ⟨s1, s2, e1, e2, h2, m2⟩
    · exact ⟨s', s, by unfold whileD; rw [e], hp, e⟩
    · obtain ⟨s', s0, e3, h3, h4⟩ := while_ok P mu n s2 h2 (by omega) st
      exact ⟨s', s0, by unfold whileD; rw [e1]; dsimp only; rw [e2]; exact e3, h3, h4⟩
theorem comp_ok {vs : List Nat} {tm : D → S → Option S} {tt : M Bool} {te : M D} (P : Nat → List D → S → Prop) : ∀ (ds : List D) (i : Nat) (acc : List D) (s : S), P i acc s → acc.length + ds.length ≤ 16000000 →
    (∀ j d acc s, ds[j]? = some d → P (i + j) acc s → ∃ s1 b s2, tm d s = some s1 ∧ tt s1 = .ok b s2 ∧ ((b = false ∧ plainS s2 vs = true ∧ P (i + j + 1) acc (wipeS s2 vs)) ∨ ∃ y s3, b = true ∧ te s2 = .ok y s3 ∧ plainS s3 vs = true ∧ P (i + j + 1) (acc ++ [y]) (wipeS s3 vs))) →
    ∃ acc' s', compD vs tm tt te ds acc s = .ok acc' s' ∧ P (i + ds.length) acc' s' ∧ acc'.length ≤ acc.length + ds.length
  | [], i, acc, s, h, _, _ => ⟨acc, s, rfl, h, Nat.le_refl _⟩
  | d :: r, i, acc, s, h, hl, st => by
    have hl' : acc.length + (r.length + 1) ≤ 16000000 := by simpa using hl
    obtain ⟨s1, b, s2, e1, e2, h2⟩ := st 0 d acc s rfl h
    have st' : ∀ j d' acc' s', r[j]? = some d' → P (i + 1 + j) acc' s' → ∃ s1 b s2, tm d' s' = some s1 ∧ tt s1 = .ok b s2 ∧ ((b = false ∧ plainS s2 vs = true ∧ P (i + 1 + j + 1) acc' (wipeS s2 vs)) ∨ ∃ y s3, b = true ∧ te s2 = .ok y s3 ∧ plainS s3 vs = true ∧ P (i + 1 + j + 1) (acc' ++ [y]) (wipeS s3 vs)) := fun j d' acc' s' hj hp => by
      have := st (j + 1) d' acc' s' (by simpa using hj) (by rw [show i + (j + 1) = i + 1 + j by omega]; exact hp)
      rwa [show i + (j + 1) + 1 = i + 1 + j + 1 by omega] at this
    rcases h2 with ⟨rfl, hp, h3⟩ | ⟨y, s3, rfl, e3, hp, h3⟩
    · obtain ⟨acc', s', e4, h4, h5⟩ := comp_ok P r (i + 1) acc _ h3 (by omega) st'
      refine ⟨acc', s', ?_, by rw [show i + (d :: r).length = i + 1 + r.length by simp; omega]; exact h4, by simp only [List.length_cons]; omega⟩
      unfold compD; rw [e1]; dsimp only; rw [e2]; dsimp only; rw [if_pos hp]; exact e4
    · obtain ⟨acc', s', e4, h4, h5⟩ := comp_ok P r (i + 1) (acc ++ [y]) _ h3 (by simp only [List.length_append, List.length_singleton]; omega) st'
      refine ⟨acc', s', ?_, by rw [show i + (d :: r).length = i + 1 + r.length by simp; omega]; exact h4, by simp only [List.length_append, List.length_cons, List.length_nil] at h5 ⊢; omega⟩
      unfold compD; rw [e1]; dsimp only; rw [e2]; dsimp only; rw [e3]; dsimp only; rw [if_pos (by rw [Bool.and_eq_true]; exact ⟨decide_eq_true (by omega), hp⟩)]; exact e4
/-! ### data equal -/
abbrev I (p : List Int) : List D := p.map D.int
theorem toPys_I : ∀ p : List Int, toPys (I p) = some (p.map PyData.int)
  | [] => rfl
  | a :: p => by
    show (match toPy (.int a), toPys (I p) with | some x, some xs => some (x :: xs) | _, _ => none) = _
    rw [toPys_I p]; rfl
theorem lay_I : ∀ p : List Int, PyData.canLayAll0 (p.map PyData.int) = true
  | [] => by unfold PyData.canLayAll0; rfl
  | a :: p => by
    rw [List.map_cons]; unfold PyData.canLayAll0; rw [lay_I p]; unfold PyData.canLay0; rfl
theorem depth_I : ∀ p : List Int, PyData.depthAll (p.map PyData.int) = 0
  | [] => by unfold PyData.depthAll; rfl
  | a :: p => by rw [List.map_cons]; unfold PyData.depthAll; rw [depth_I p]; unfold PyData.depth; rfl
theorem sh_int (i : Int) : SeqAt.shaped (.int i) = true := by unfold SeqAt.shaped PyData.canLay0 PyData.depth; rfl
theorem sh_lst (p : List Int) : SeqAt.shaped (.list (p.map PyData.int)) = true := by
  unfold SeqAt.shaped PyData.canLay0 PyData.depth; rw [lay_I, depth_I]; rfl
theorem sh_tup (p : List Int) : SeqAt.shaped (.tuple (p.map PyData.int)) = true := by
  unfold SeqAt.shaped PyData.canLay0 PyData.depth; rw [lay_I, depth_I]; rfl
theorem eqP_int (i j : Int) : eqP (.int i) (.int j) = some (decide (i = j)) := by
  unfold eqP toPy; dsimp only; rw [sh_int, sh_int]; simp [PyData.eqv]; rfl
theorem dEq_int (i j : Int) : dEq (.int i) (.int j) = some (.bl (decide (i = j))) := by unfold dEq; rw [eqP_int]; rfl
theorem dNe_int (i j : Int) : dNe (.int i) (.int j) = some (.bl (!decide (i = j))) := by unfold dNe; rw [eqP_int]; rfl
theorem eqP_lst (p : List Int) : eqP (.lst (I p)) (.lst []) = some p.isEmpty := by
  unfold eqP
  have e1 : toPy (.lst (I p)) = some (.list (p.map PyData.int)) := by show (toPys (I p)).map PyData.list = _; rw [toPys_I]; rfl
  have e2 : toPy (.lst []) = some (.list (([] : List Int).map PyData.int)) := rfl
  rw [e1, e2]; dsimp only; rw [sh_lst, sh_lst]
  cases p <;> simp [PyData.eqv, PyData.eqvAll]
theorem eqP_tup (p : List Int) : eqP (.tup (I p)) (.tup []) = some p.isEmpty := by
  unfold eqP
  have e1 : toPy (.tup (I p)) = some (.tuple (p.map PyData.int)) := by show (toPys (I p)).map PyData.tuple = _; rw [toPys_I]; rfl
  have e2 : toPy (.tup []) = some (.tuple (([] : List Int).map PyData.int)) := rfl
  rw [e1, e2]; dsimp only; rw [sh_tup, sh_tup]
  cases p <;> simp [PyData.eqv, PyData.eqvAll]
theorem dNe_lst (p : List Int) : dNe (.lst (I p)) (.lst []) = some (.bl (!p.isEmpty)) := by unfold dNe; rw [eqP_lst]; rfl
theorem dEq_tup (p : List Int) : dEq (.tup (I p)) (.tup []) = some (.bl p.isEmpty) := by unfold dEq; rw [eqP_tup]; rfl
theorem atI_I (p : List Int) (i : Int) : atI (I p) i = (atI p i).map D.int := by
  unfold atI
  rw [List.length_map]
  cases ixN p.length i with
  | none => rfl
  | some j => simp
theorem atI_nat' {α : Type} {p : List α} {j : Nat} (h : j < p.length) : atI p (j : Int) = some p[j] := by
  unfold atI ixN
  rw [if_pos (by omega), if_pos (by omega)]
  simp [h]
theorem ixN_nat {n j : Nat} (h : j < n) : ixN n (j : Int) = some j := by
  unfold ixN; rw [if_pos (by omega), if_pos (by omega)]; simp
theorem atI_m1 {p : List Int} (h : p ≠ []) : atI p (-1) = some (p.getLastD 0) := by
  have hl : 0 < p.length := List.length_pos_iff.mpr h
  unfold atI ixN
  rw [if_neg (by omega), if_pos (by omega)]
  have e : ((-1 : Int) + p.length).toNat = p.length - 1 := by omega
  rw [e]
  show p[p.length - 1]? = _
  rw [List.getLastD_eq_getLast?, List.getLast?_eq_getElem?]
  rw [List.getElem?_eq_getElem (by omega)]; rfl
/-! ### bits -/
def bd (k : Nat) (x : Int) : Prop := x.natAbs < 2 ^ k
def bdl (k : Nat) (p : List Int) : Prop := ∀ x ∈ p, bd k x
theorem bd.mono {j k : Nat} {x : Int} (h : bd j x) (hk : j ≤ k) : bd k x := Nat.lt_of_lt_of_le h (Nat.pow_le_pow_right (by decide) hk)
theorem bdl.mono {j k : Nat} {p : List Int} (h : bdl j p) (hk : j ≤ k) : bdl k p := fun x hx => (h x hx).mono hk
theorem bd.add {j k : Nat} {x y : Int} (h : bd j x) (h' : bd k y) {m : Nat} (hj : j + 1 ≤ m) (hk : k + 1 ≤ m) : bd m (x + y) := by
  have h1 : x.natAbs < 2 ^ (m - 1) := h.mono (by omega)
  have h2 : y.natAbs < 2 ^ (m - 1) := h'.mono (by omega)
  have e : 2 ^ m = 2 ^ (m - 1) + 2 ^ (m - 1) := by
    conv => lhs; rw [show m = (m - 1) + 1 by omega, Nat.pow_succ]
    omega
  unfold bd
  rw [e]; omega
theorem bd.mul {j k : Nat} {x y : Int} (h : bd j x) (h' : bd k y) : bd (j + k) (x * y) := by
  unfold bd
  rw [Int.natAbs_mul, Nat.pow_add]
  exact Nat.mul_lt_mul'' h h'
theorem bd.log {k : Nat} {x : Int} (h : bd k x) : x.natAbs.log2 ≤ k := by
  by_cases hx : x.natAbs = 0
  · rw [hx]; simp
  · exact Nat.le_of_lt ((Nat.log2_lt hx).mpr h)
theorem bd.cMul {j k : Nat} {x y : Int} (h : bd j x) (h' : bd k y) (hk : j + k < 134217000) : cMul x y = true := by
  have := h.log; have := h'.log
  exact decide_eq_true (by omega)
theorem I_len (q : List Int) : (I q).length = q.length := List.length_map _
theorem atI_In {q : List Int} {j : Nat} (h : j < q.length) : atI (I q) (j : Int) = some (D.int q[j]) := by rw [atI_I, atI_nat' h]; rfl
theorem I_set (q : List Int) (j : Nat) (z : Int) : (I q).set j (.int z) = I (q.set j z) := by
  show (q.map D.int).set j (D.int z) = (q.set j z).map D.int
  rw [List.map_set]
theorem rangeD_get {lo : Int} {n j : Nat} {d : D} (h : (rangeD lo n)[j]? = some d) : j < n ∧ d = .int (lo + (j : Nat)) := by
  unfold rangeD at h
  rw [List.getElem?_map] at h
  by_cases hj : j < n
  · rw [List.getElem?_range hj] at h; cases h; exact ⟨hj, rfl⟩
  · rw [List.getElem?_eq_none (by simpa using hj)] at h; cases h
theorem all_true : ∀ n : Nat, ((List.replicate n true).all id) = true
  | 0 => rfl
  | n + 1 => by rw [List.replicate_succ, List.all_cons, all_true n]; rfl
theorem blsD_rep : ∀ n : Nat, blsD (List.replicate n (D.bl true)) = some (List.replicate n true)
  | 0 => rfl
  | n + 1 => by
    rw [List.replicate_succ]
    unfold blsD
    rw [blsD_rep n]; rfl
theorem I_at {p : List Int} {j : Nat} {d : D} (h : (I p)[j]? = some d) : ∃ z, p[j]? = some z ∧ d = .int z := by
  rw [List.getElem?_map] at h
  cases hq : p[j]? with
  | none => rw [hq] at h; cases h
  | some z => rw [hq] at h; cases h; exact ⟨z, rfl, rfl⟩
theorem mod_small (a : Int) {m : Int} (hm : 0 < m) : 0 ≤ a % m ∧ a % m < m := ⟨Int.emod_nonneg _ (by omega), Int.emod_lt_of_pos _ hm⟩
theorem bdl.set {k : Nat} {q : List Int} {j : Nat} {z : Int} (h : bdl k q) (hz : bd k z) : bdl k (q.set j z) := fun x hx => by
  rcases List.mem_or_eq_of_mem_set hx with h' | rfl
  · exact h x h'
  · exact hz
theorem rangeC_get {lo c : Int} {n j : Nat} {d : D} (h : (rangeC lo c n)[j]? = some d) : j < n ∧ d = .int (lo + (j : Nat) * c) := by
  unfold rangeC at h
  rw [List.getElem?_map] at h
  by_cases hj : j < n
  · rw [List.getElem?_range hj] at h; cases h; exact ⟨hj, rfl⟩
  · rw [List.getElem?_eq_none (by simpa using hj)] at h; cases h
theorem bd_le {k : Nat} {x y : Int} (h : bd k y) (h0 : 0 ≤ x) (h1 : x ≤ y) : bd k x := by
  unfold bd at *; omega
theorem pow2_2 (k : Nat) : (2 ^ (k + 2) : Nat) = 4 * 2 ^ k := by rw [Nat.pow_add]; omega
/-- a row of integers as data: a tuple, a list -/
def isRow (d : D) (p : List Int) : Prop := d = .tup (I p) ∨ d = .lst (I p)
theorem row_items {d : D} {p : List Int} (h : isRow d p) : itemsD d = some (I p) := by rcases h with rfl | rfl <;> rfl
theorem atI_m1I {q : List Int} (h : q ≠ []) : atI (I q) (-1) = some (D.int (q.getLastD 0)) := by rw [atI_I, atI_m1 h]; rfl
theorem bd_div {k : Nat} {a m : Int} (h : bd k a) (h0 : 0 ≤ a) (hm : 1 ≤ m) : 0 ≤ a / m ∧ bd k (a / m) := by
  have h1 : 0 ≤ a / m := Int.ediv_nonneg h0 (by omega)
  exact ⟨h1, bd_le h h1 (Int.ediv_le_self _ h0)⟩
theorem okR_nat {n : Nat} (h : n ≤ 1000000) : okR (n : Int) = true := Nat.ble_eq_true_of_le (by omega)
/-! ### power -/
theorem bd_pow {kb : Nat} {b : Int} (hb : bd kb b) (hk : 1 ≤ kb) : ∀ i : Nat, bd (i * kb + 1) (b ^ i)
  | 0 => by rw [Int.pow_zero]; unfold bd; rw [Nat.zero_mul]; decide
  | i + 1 => by
    rw [Int.pow_succ]
    have := (bd_pow hb hk i).mul hb
    exact this.mono (by rw [Nat.succ_mul]; omega)
/-! ### cut -/
theorem maxOf_spec : ∀ (ns : List Int) (n : Int), PySem.W.maxOf n ns ∈ n :: ns ∧ ∀ x ∈ n :: ns, x ≤ PySem.W.maxOf n ns
  | [], n => ⟨List.mem_cons_self, fun x hx => by simp at hx; subst hx; exact Int.le_refl _⟩
  | a :: ns, n => by
    have e : PySem.W.maxOf n (a :: ns) = PySem.W.maxOf (if n < a then a else n) ns := by
      show List.foldl _ _ ns = List.foldl _ _ ns
      congr 1
      show (if decide (n < a) = true then a else n) = _
      by_cases h : n < a
      · rw [if_pos h, if_pos (decide_eq_true h)]
      · rw [if_neg h, if_neg (by simpa using h)]
    rw [e]
    obtain ⟨h1, h2⟩ := maxOf_spec ns (if n < a then a else n)
    refine ⟨?_, fun x hx => ?_⟩
    · rcases List.mem_cons.mp h1 with h | h
      · rw [h]; by_cases c : n < a
        · rw [if_pos c]; simp
        · rw [if_neg c]; simp
      · simp [h]
    · have h0 := h2 _ List.mem_cons_self
      rcases List.mem_cons.mp hx with rfl | hx
      · by_cases c : x < a
        · rw [if_pos c] at h0 ⊢; omega
        · rw [if_neg c] at h0 ⊢; omega
      · rcases List.mem_cons.mp hx with rfl | hx
        · by_cases c : n < x
          · rw [if_pos c] at h0 ⊢; omega
          · rw [if_neg c] at h0 ⊢; omega
        · exact h2 x (List.mem_cons_of_mem _ hx)
theorem intsD_I : ∀ q : List Int, intsD (I q) = some q
  | [] => rfl
  | a :: q => by
    show intsD (.int a :: I q) = _
    unfold intsD; rw [intsD_I q]; rfl
theorem enum_I {p : List Int} {j : Nat} {d : D} (h : (enumD (I p))[j]? = some d) : ∃ z, p[j]? = some z ∧ d = .tup [.int (j : Nat), .int z] := by
  obtain ⟨d', h1, rfl⟩ := enumD_get h
  obtain ⟨z, h2, rfl⟩ := I_at h1
  exact ⟨z, h2, rfl⟩
theorem onInts_sum (q : List Int) : sumD (.lst (I q)) = some (.v (.int q.sum)) := by
  show onInts _ _ = _
  unfold onInts; dsimp only; rw [intsD_I]; rfl
theorem dEq_lst (p : List Int) : dEq (.lst (I p)) (.lst []) = some (.bl p.isEmpty) := by unfold dEq; rw [eqP_lst]; rfl
theorem enum_len (q : List Int) : (enumD (I q)).length = q.length := by unfold enumD; simp
theorem eqP_str (x y : Str) (h1 : SeqAt.shaped (.str x) = true) (h2 : SeqAt.shaped (.str y) = true) : dEq (.str x) (.str y) = some (.bl (x == y)) := by
  unfold dEq eqP toPy; dsimp only; rw [h1, h2]; simp [PyData.eqv]
theorem blsD_map : ∀ bs : List Bool, blsD (bs.map D.bl) = some bs
  | [] => rfl
  | b :: bs => by rw [List.map_cons]; unfold blsD; rw [blsD_map bs]; rfl
theorem all_bls (bs : List Bool) : onBls (fun bs => bs.all id) (.lst (bs.map D.bl)) = some (.v (.bl (bs.all id))) := by
  unfold onBls; dsimp only; rw [blsD_map]; rfl
theorem rangeD_len (lo : Int) (n : Nat) : (rangeD lo n).length = n := by simp [rangeD]
theorem sh_non : SeqAt.shaped .none = true := by decide +kernel
theorem dEq_non : dEq .non .non = some (.bl true) := by
  unfold dEq eqP toPy; dsimp only; rw [sh_non]; simp [PyData.eqv]
theorem dNe_non : dNe .non .non = some (.bl false) := by
  unfold dNe eqP toPy; dsimp only; rw [sh_non]; simp [PyData.eqv]
theorem cut_tail (p : List Int) : cutD p (some 1) none = p.drop 1 := by
  unfold cutD HT.sIx
  cases p with
  | nil => rfl
  | cons a r => simp
theorem zip_I : ∀ p q : List Int, zipW (I p) (I q) = (p.zip q).map fun x => D.tup [.int x.1, .int x.2]
  | [], q => by cases q <;> rfl
  | a :: p, [] => rfl
  | a :: p, b :: q => by
    show _ :: zipW (I p) (I q) = _
    rw [zip_I p q]; rfl
/-! ### list comprehensions -/
theorem restore_wipe (s : S) (vs : List Nat) : restoreS s (wipeS s vs) vs = s := by
  apply List.ext_getElem?
  intro i
  unfold restoreS wipeS
  rw [List.getElem?_mapIdx, List.getElem?_mapIdx]
  cases h : s[i]? with
  | none => rfl
  | some x =>
    simp only [Option.map_some]
    by_cases hi : i ∈ vs
    · rw [if_pos hi]; simp [List.getD, h]
    · rw [if_neg hi, if_neg hi]
theorem compD_fm {vs : List Nat} {tm : D → S → Option S} {tt : M Bool} {te : M D} {g : D → Option D} {sw : S} : ∀ (ds acc : List D), acc.length + ds.length ≤ 16000000 →
    (∀ d ∈ ds, ∃ s1, tm d sw = some s1 ∧ ((∃ s2, g d = none ∧ tt s1 = .ok false s2 ∧ plainS s2 vs = true ∧ wipeS s2 vs = sw) ∨ ∃ y s2 s3, g d = some y ∧ tt s1 = .ok true s2 ∧ te s2 = .ok y s3 ∧ plainS s3 vs = true ∧ wipeS s3 vs = sw)) →
    compD vs tm tt te ds acc sw = .ok (acc ++ ds.filterMap g) sw
  | [], acc, _, _ => by unfold compD; simp
  | d :: r, acc, hl, st => by
    have hl' : acc.length + (r.length + 1) ≤ 16000000 := by simpa using hl
    obtain ⟨s1, e1, h⟩ := st d List.mem_cons_self
    have st' := fun d' hd => st d' (List.mem_cons_of_mem _ hd)
    rcases h with ⟨s2, g0, e2, hp, hw⟩ | ⟨y, s2, s3, g1, e2, e3, hp, hw⟩
    · unfold compD; rw [e1]; dsimp only; rw [e2]; dsimp only; rw [if_pos hp, hw, compD_fm r acc (by omega) st', List.filterMap_cons_none g0]
    · unfold compD; rw [e1]; dsimp only; rw [e2]; dsimp only; rw [e3]; dsimp only
      rw [if_pos (by rw [Bool.and_eq_true]; exact ⟨decide_eq_true (by omega), hp⟩), hw, compD_fm r (acc ++ [y]) (by simp; omega) st', List.filterMap_cons_some g1]; simp
/-- a comprehension that changes nothing: what is kept is a function of the item -/
theorem lc_fm {vs : List Nat} {fi : M (List D)} {tm : D → S → Option S} {tt : M Bool} {te : M D} {ds : List D} {s s0 : S} (g : D → Option D) (hi : fi s = .ok ds s0) (hp : plainS s0 vs = true) (hl : ds.length ≤ 16000000)
    (h : ∀ d ∈ ds, ∃ s1, tm d (wipeS s0 vs) = some s1 ∧ ((∃ s2, g d = none ∧ tt s1 = .ok false s2 ∧ plainS s2 vs = true ∧ wipeS s2 vs = wipeS s0 vs) ∨ ∃ y s2 s3, g d = some y ∧ tt s1 = .ok true s2 ∧ te s2 = .ok y s3 ∧ plainS s3 vs = true ∧ wipeS s3 vs = wipeS s0 vs)) :
    mlc vs fi tm tt te s = .ok (.l (ds.filterMap g)) s0 := by
  unfold mlc; rw [mb_k hi, if_pos hp, compD_fm ds [] (by simpa using hl) h]
  dsimp only
  rw [restore_wipe]; rfl
/-- .. without a test -/
theorem lc_map {vs : List Nat} {fi : M (List D)} {tm : D → S → Option S} {te : M D} {ds : List D} {s s0 : S} (f : D → D) (hi : fi s = .ok ds s0) (hp : plainS s0 vs = true) (hl : ds.length ≤ 16000000)
    (h : ∀ d ∈ ds, ∃ s1, tm d (wipeS s0 vs) = some s1 ∧ te s1 = .ok (f d) s1 ∧ plainS s1 vs = true ∧ wipeS s1 vs = wipeS s0 vs) :
    mlc vs fi tm (mret true) te s = .ok (.l (ds.map f)) s0 := by
  have e := lc_fm (te := te) (tm := tm) (tt := mret true) (fun d => some (f d)) hi hp hl fun d hd => by
    obtain ⟨s1, e1, e2, h1, h2⟩ := h d hd
    exact ⟨s1, e1, .inr ⟨f d, s1, s1, rfl, rfl, e2, h1, h2⟩⟩
  rw [e, List.filterMap_eq_map']
/-- a comprehension by an invariant -/
theorem lc_ok {vs : List Nat} {fi : M (List D)} {tm : D → S → Option S} {tt : M Bool} {te : M D} {ds : List D} {s s0 : S} (P : Nat → List D → S → Prop) (hi : fi s = .ok ds s0) (hp : plainS s0 vs = true) (hl : ds.length ≤ 16000000) (h0 : P 0 [] (wipeS s0 vs))
    (st : ∀ j d acc s, ds[j]? = some d → P j acc s → ∃ s1 b s2, tm d s = some s1 ∧ tt s1 = .ok b s2 ∧ ((b = false ∧ plainS s2 vs = true ∧ P (j + 1) acc (wipeS s2 vs)) ∨ ∃ y s3, b = true ∧ te s2 = .ok y s3 ∧ plainS s3 vs = true ∧ P (j + 1) (acc ++ [y]) (wipeS s3 vs))) :
    ∃ acc s', P ds.length acc s' ∧ mlc vs fi tm tt te s = .ok (.l acc) (restoreS s0 s' vs) := by
  obtain ⟨acc, s', e, h, _⟩ := comp_ok (tm := tm) (tt := tt) (te := te) P ds 0 [] _ h0 (by simpa using hl) fun j d acc s hj h => by
    rw [Nat.zero_add] at h ⊢; exact st j d acc s hj h
  rw [Nat.zero_add] at h
  refine ⟨acc, s', h, ?_⟩
  unfold mlc; rw [mb_k hi, if_pos hp, e]
/-! ### draws -/
/-- a well: its data; f takes the next number below m out of it -/
structure Src (f : Fd) (J : Nat → List D → Prop) : Prop where
  draw : ∀ {n : Nat} {ds : List D} {m : Int}, J n ds → n ≤ 800000 → 1 ≤ m → bd 8000 m → ∃ (y : Int) (ds' : List D), 0 ≤ y ∧ y < m ∧ J (n + 1) ds' ∧ f [.l ds, .v (.int m)] = .ret (.v (.int y)) [.l ds', .v (.int m)]
  up : ∀ {n n' : Nat} {ds : List D}, J n ds → n ≤ n' → J n' ds
abbrev jug (cs : List Int) (t : Nat) (r : Int) : List D := [.lst (I cs), .int (t : Int), .int r]
def Jug (n : Nat) (ds : List D) : Prop := ∃ (κ : Nat) (cs : List Int) (t : Nat) (r : Int), ds = jug cs t r ∧ κ ≤ 2000000 ∧ (∀ x ∈ cs, bd κ x) ∧ t ≤ n ∧ 0 ≤ r ∧ bd (κ + 3) r ∧ cs.length ≤ 63
theorem Jug.up {n n' : Nat} {ds : List D} (h : Jug n ds) (hn : n ≤ n') : Jug n' ds := by
  obtain ⟨κ, cs, t, r, h1, h2, h3, h4, h5⟩ := h
  exact ⟨κ, cs, t, r, h1, h2, h3, by omega, h5⟩
/-- the numbers of a drawing def -/
structure Cs (A A2 B C C2 E M1 M2 M3 : Int) : Prop where
  hA : bd 20 A
  hA2 : bd 20 A2
  hB : bd 20 B
  hC : bd 20 C
  hC2 : bd 20 C2
  hE : bd 20 E
  pM1 : 0 < M1
  bM1 : bd 31 M1
  pM2 : 0 < M2
  bM2 : bd 31 M2
  pM3 : 0 < M3
theorem cPow_of {z : Int} {k : Int} (h0 : 0 ≤ k) (h1 : k ≤ 1000) (hz : bd 64 z) : cPow z k = true := by
  show (decide (0 ≤ k) && (decide (k ≤ 1000000) && decide _)) = true
  rw [decide_eq_true h0, decide_eq_true (show k ≤ 1000000 by omega), decide_eq_true (show z.natAbs < 2 ^ 64 from hz)]; rfl
/-- the first mixing, of any cell -/
theorem Cs.mixA {A A2 B C C2 E M1 M2 M3 : Int} (S : Cs A A2 B C C2 E M1 M2 M3) (c : Int) {t : Int} (ht : bd 20 t) : cPow (c % M1 + C * t + B) 5 = true := by
  obtain ⟨h1, h2⟩ := mod_small c S.pM1
  have b1 : bd 61 (c % M1) := (bd_le S.bM1 h1 (by omega)).mono (by omega)
  have b2 : bd 61 (C * t) := (S.hC.mul ht).mono (by omega)
  have b3 := b1.add b2 (m := 62) (by omega) (by omega)
  exact cPow_of (by omega) (by omega) (b3.add S.hB (m := 64) (by omega) (by omega))
theorem Cs.mixB {A A2 B C C2 E M1 M2 M3 : Int} (S : Cs A A2 B C C2 E M1 M2 M3) (c : Int) {t : Int} (ht : bd 20 t) : cMul (c % M2) (2 * t + E) = true ∧ cPow (c % M2 * (2 * t + E) + A2 * t * t + C2) 3 = true := by
  obtain ⟨h1, h2⟩ := mod_small c S.pM2
  have bz : bd 31 (c % M2) := bd_le S.bM2 h1 (by omega)
  have b2 : bd 22 (2 * t) := bd.mul (j := 2) (k := 20) (by unfold bd; decide) ht
  have bt : bd 23 (2 * t + E) := b2.add S.hE (by omega) (by omega)
  have b3 : bd 62 (A2 * t * t) := ((S.hA2.mul ht).mul ht).mono (by omega)
  have b4 : bd 63 (c % M2 * (2 * t + E) + A2 * t * t) := ((bz.mul bt).mono (show 31 + 23 ≤ 62 by omega)).add b3 (by omega) (by omega)
  exact ⟨bz.cMul bt (by omega), cPow_of (by omega) (by omega) (b4.add (k := 63) (S.hC2.mono (by omega)) (by omega) (by omega))⟩
def bTip (A A2 B C C2 E M1 M2 M3 Z : Int) : MS :=
    (mseq (mcond (mbind (mbin dGt (mbind (mbin dIx (mvar 0) (mbind (mret (D.int 2)) fun d => mret (Opd.d d))) fun d => mret (Opd.d d)) (mbind (mret (D.int 0)) fun d => mret (Opd.d d))) tob) (mseq (ms (mbind (mbin dIx (mvar 0) (mbind (mret (D.int 2)) fun d => mret (Opd.d d))) fun d => mret (Rv.v d)) fun r => stSet 2 (Rv.sl r))
    (mseq (mseti 0 (mbin dDiv (mbind (mbind (mcb (on1 intOf) (mcons (mvar 2) (mret []))) fun r => mret (Rv.d r)) fun d => mret (Opd.d d)) (mvar 1)) (mret (D.int 2)))
    (ms (mbind (mbin dMod (mbind (mbind (mcb (on1 intOf) (mcons (mvar 2) (mret []))) fun r => mret (Rv.d r)) fun d => mret (Opd.d d)) (mvar 1)) fun d => mret (Rv.v d)) fun r s => OutS.rt r s))) (fun s => OutS.nx s))
    (mseq (ms (mbind (mbin dIx (mvar 0) (mbind (mret (D.int 1)) fun d => mret (Opd.d d))) fun d => mret (Rv.v d)) fun r => stSet 3 (Rv.sl r))
    (mseq (mseti 0 (mbin dAdd (mvar 3) (mbind (mret (D.int 1)) fun d => mret (Opd.d d))) (mret (D.int 1)))
    (mseq (ms (mbind (mbin dAdd (mbind (mbin dMul (mbind (mret (D.int A)) fun d => mret (Opd.d d)) (mvar 3)) fun d => mret (Opd.d d)) (mbind (mret (D.int B)) fun d => mret (Opd.d d))) fun d => mret (Rv.v d)) fun r => stSet 4 (Rv.sl r))
    (mseq (mcond (mbind (mbin dNe (mbind (mbin dIx (mvar 0) (mbind (mret (D.int 0)) fun d => mret (Opd.d d))) fun d => mret (Opd.d d)) (mbind (mbind (mlst (mret [])) fun r => mret (Rv.d r)) fun d => mret (Opd.d d))) tob) (ms (mbind (mbin dIx (mbind (mbin dIx (mvar 0) (mbind (mret (D.int 0)) fun d => mret (Opd.d d))) fun d => mret (Opd.d d)) (mbind (mbin dMod (mbind (mbind (mcb (on1 intOf) (mcons (mvar 3) (mret []))) fun r => mret (Rv.d r)) fun d => mret (Opd.d d)) (mbind (mbind (mcb (on1 lenD) (mcons (mbind (mbin dIx (mvar 0) (mbind (mret (D.int 0)) fun d => mret (Opd.d d))) fun d => mret (Opd.d d)) (mret []))) fun r => mret (Rv.d r)) fun d => mret (Opd.d d))) fun d => mret (Opd.d d))) fun d => mret (Rv.v d)) fun r => stSet 4 (Rv.sl r)) (fun s => OutS.nx s))
    (mseq (mcond (mif (mbind (mbin dLt (mvar 3) (mbind (mbind (mcb (on1 lenD) (mcons (mbind (mbin dIx (mvar 0) (mbind (mret (D.int 0)) fun d => mret (Opd.d d))) fun d => mret (Opd.d d)) (mret []))) fun r => mret (Rv.d r)) fun d => mret (Opd.d d))) tob) (mbind (mbin dGe (mbind (mbind (mcb (on1 absD) (mcons (mvar 4) (mret []))) fun r => mret (Rv.d r)) fun d => mret (Opd.d d)) (mbind (mbin dPow (mbind (mret (D.int 10)) fun d => mret (Opd.d d)) (mbind (mret (D.int 18)) fun d => mret (Opd.d d))) fun d => mret (Opd.d d))) tob) (mret false)) (mseq (ms (mbind (mbin dAdd (mbind (mbin dMul (mbind (mret (D.int 2)) fun d => mret (Opd.d d)) (mbind (mbin dSub (mbind (mbind (mcb (on1 absD) (mcons (mvar 4) (mret []))) fun r => mret (Rv.d r)) fun d => mret (Opd.d d)) (mbind (mbin dPow (mbind (mret (D.int 10)) fun d => mret (Opd.d d)) (mbind (mret (D.int 18)) fun d => mret (Opd.d d))) fun d => mret (Opd.d d))) fun d => mret (Opd.d d))) fun d => mret (Opd.d d)) (mbind (mbind (mcb (on1 intOf) (mcons (mbind (mbin dLt (mvar 4) (mbind (mret (D.int 0)) fun d => mret (Opd.d d))) fun d => mret (Opd.d d)) (mret []))) fun r => mret (Rv.d r)) fun d => mret (Opd.d d))) fun d => mret (Rv.v d)) fun r => stSet 2 (Rv.sl r))
    (mseq (mseti 0 (mbin dDiv (mbind (mbind (mcb (on1 intOf) (mcons (mvar 2) (mret []))) fun r => mret (Rv.d r)) fun d => mret (Opd.d d)) (mvar 1)) (mret (D.int 2)))
    (ms (mbind (mbin dMod (mbind (mbind (mcb (on1 intOf) (mcons (mvar 2) (mret []))) fun r => mret (Rv.d r)) fun d => mret (Opd.d d)) (mvar 1)) fun d => mret (Rv.v d)) fun r s => OutS.rt r s))) (fun s => OutS.nx s))
    (mseq (ms (mbind (mbin dMod (mbind (mbind (mcb (on1 intOf) (mcons (mbind (mbin dPow (mbind (mbin dAdd (mbind (mbin dAdd (mbind (mbin dMod (mbind (mbind (mcb (on1 intOf) (mcons (mvar 4) (mret []))) fun r => mret (Rv.d r)) fun d => mret (Opd.d d)) (mbind (mret (D.int M1)) fun d => mret (Opd.d d))) fun d => mret (Opd.d d)) (mbind (mbin dMul (mbind (mret (D.int C)) fun d => mret (Opd.d d)) (mvar 3)) fun d => mret (Opd.d d))) fun d => mret (Opd.d d)) (mbind (mret (D.int B)) fun d => mret (Opd.d d))) fun d => mret (Opd.d d)) (mbind (mret (D.int 5)) fun d => mret (Opd.d d))) fun d => mret (Opd.d d)) (mret []))) fun r => mret (Rv.d r)) fun d => mret (Opd.d d)) (mbind (mret (D.int M2)) fun d => mret (Opd.d d))) fun d => mret (Rv.v d)) fun r => stSet 5 (Rv.sl r))
    (mseq (ms (mbind (mbin dMod (mbind (mbind (mcb (on1 intOf) (mcons (mbind (mbin dPow (mbind (mbin dAdd (mbind (mbin dAdd (mbind (mbin dMul (mvar 5) (mbind (mbin dAdd (mbind (mbin dMul (mbind (mret (D.int 2)) fun d => mret (Opd.d d)) (mvar 3)) fun d => mret (Opd.d d)) (mbind (mret (D.int E)) fun d => mret (Opd.d d))) fun d => mret (Opd.d d))) fun d => mret (Opd.d d)) (mbind (mbin dMul (mbind (mbin dMul (mbind (mret (D.int A2)) fun d => mret (Opd.d d)) (mvar 3)) fun d => mret (Opd.d d)) (mvar 3)) fun d => mret (Opd.d d))) fun d => mret (Opd.d d)) (mbind (mret (D.int C2)) fun d => mret (Opd.d d))) fun d => mret (Opd.d d)) (mbind (mret (D.int 3)) fun d => mret (Opd.d d))) fun d => mret (Opd.d d)) (mret []))) fun r => mret (Rv.d r)) fun d => mret (Opd.d d)) (mbind (mret (D.int M3)) fun d => mret (Opd.d d))) fun d => mret (Rv.v d)) fun r => stSet 5 (Rv.sl r))
    (ms (mbind (mbin dMod (mbind (mbind (mcb (on1 intOf) (mcons (mbind (mbin dDiv (mvar 5) (mbind (mret (D.int Z)) fun d => mret (Opd.d d))) fun d => mret (Opd.d d)) (mret []))) fun r => mret (Rv.d r)) fun d => mret (Opd.d d)) (mvar 1)) fun d => mret (Rv.v d)) fun r s => OutS.rt r s)))))))))

theorem Jug.step {κ : Nat} {cs : List Int} {t n : Nat} {r : Int} (h2 : κ ≤ 2000000) (h3 : ∀ x ∈ cs, bd κ x) (h4 : t ≤ n) (h5 : 0 ≤ r) (h6 : bd (κ + 3) r) (h7 : cs.length ≤ 63) : Jug n (jug cs t r) := ⟨κ, cs, t, r, rfl, h2, h3, h4, h5, h6, h7⟩
theorem log_bd {m : Int} (h : bd 8000 m) : m.natAbs.log2 < 9000 := by have := h.log; omega
def mixZ (A A2 B C C2 E M1 M2 M3 Z t c : Int) : Int := (((c % M1 + C * t + B) ^ 5 % M2) * (2 * t + E) + A2 * t * t + C2) ^ 3 % M3 / Z
theorem tip_src {A A2 B C C2 E M1 M2 M3 Z : Int} (S : Cs A A2 B C C2 E M1 M2 M3) (hZ : 0 < Z) (hZ2 : bd 8000 Z) : Src (fnD 6 2 (bTip A A2 B C C2 E M1 M2 M3 Z)) Jug where
  up := Jug.up
  draw := by
    intro n ds m J hn hm hm2
    obtain ⟨κ, cs, t, r, rfl, hkap, hc, htn, hr0, hrb, hl⟩ := J
    have hmp : 0 < m := by omega
    have hlog := log_bd hm2
    have hlogZ := log_bd hZ2
    have x2 : ixN 3 2 = some 2 := by decide
    have x1 : ixN 3 1 = some 1 := by decide
    have a2 : ∀ x y z : D, atI [x, y, z] 2 = some z := fun x y z => rfl
    have a1 : ∀ x y z : D, atI [x, y, z] 1 = some y := fun x y z => rfl
    have a0 : ∀ x y z : D, atI [x, y, z] 0 = some x := fun x y z => rfl
    have M1p := S.pM1; have M2p := S.pM2; have M3p := S.pM3
    by_cases hr : 0 < r
    · obtain ⟨h1, h2⟩ := mod_small r hmp
      obtain ⟨h3, h4⟩ := bd_div hrb hr0 hm
      refine ⟨r % m, jug cs t (r / m), h1, h2, Jug.step hkap hc (by omega) h3 h4 hl, ?_⟩
      simp [bTip, ↓fnD, ↓ms, ↓mseq, ↓mbind, ↓mret, ↓mopt, ↓mbad, ↓mvar, ↓res, ↓strong, strongs, ress, ↓mun, ↓mbin, ↓mbinR, ↓mcb, ↓mcons, ↓mcond, ↓mif, ↓mandV, ↓morV, ↓mnotV, ↓tob, truD, ↓mfld, fldD, putO, ↓mputf, ↓stSet, ↓stSetP, ↓mfrz, ↓mlst, ↓mtup, ↓mslice, ↓mpart, intD, dSl, on1, on2, lenD, absD, TW.intOf, TW.listOf, TW.tupOf, dInt2, dCmp2, dNeg, dIx, dIsN, dNotN, D.isNon, dupFree, argsOf, argOf, Sl.some?, putBack, Opd.isS, Sl.own, Rv.sl, Rv.d, ↓mwalk, walkD, itemsD, ↓mrng, rng1, rng2, rng3, tgName, tgTup, tgCons, tgNil, ↓masg, ↓mpar2, stPar2, isiD, dTy, isiInt, isiBl, isiLst, isiTup, isiObj, or2, ↓mvarF, ↓mchain, ↓mop2, dAddX, dAddS, ↓mrev, lstD, ↓mrevA, ↓mpar3, stPar3, List.findIdx?_cons, List.findIdx?_nil, ↓mcall, ↓mmake, ↓mmth, ↓chk, ↓mbop, ↓mneg1, ↓chkT, ↓kB, ↓mceq, ↓mcalO, ↓mzip, zipD, ↓mrevT, revTD, dRepA, ↓tgSet, ↓mpar2L, ↓mseti, ↓menum, ↓mappend, ↓mpop, ↓mmaxd, ↓mstar, ↓mraise, ↓mtry, ↓mxf, a0, a1, a2, x1, x2, hr, hmp, hlog]
    · have hr0 : r = 0 := by omega
      have ht' : (t : Int) ≤ 800000 := by omega
      have bt : bd 20 (t : Int) := by unfold bd; omega
      have c1 : cMul A (t : Int) = true := S.hA.cMul bt (by omega)
      have c1' : cMul A2 (t : Int) = true := S.hA2.cMul bt (by omega)
      have c2 : cMul C (t : Int) = true := S.hC.cMul bt (by omega)
      have c3 : cMul 2 (t : Int) = true := bd.cMul (j := 20) (by unfold bd; decide) bt (by omega)
      have c5 : cMul (A2 * (t : Int)) (t : Int) = true := (S.hA2.mul bt).cMul bt (by omega)
      have p18 : cPow 10 18 = true := by decide +kernel
      have bz : bd (κ + 3) 0 := Nat.two_pow_pos _
      subst hr0
      by_cases hcs : cs = []
      · subst hcs
        have n0 : dNe (.lst []) (.lst []) = some (.bl false) := dNe_lst []
        obtain ⟨c, hc'⟩ : ∃ c, A * (t : Int) + B = c := ⟨_, rfl⟩
        obtain ⟨k1, k2⟩ := S.mixB ((c % M1 + C * (t : Int) + B) ^ 5) bt
        have k0 := S.mixA c bt
        have hnt : ¬ ((t : Int) < 0) := by omega
        refine ⟨mixZ A A2 B C C2 E M1 M2 M3 Z t c % m, jug [] (t + 1) 0, (mod_small _ hmp).1, (mod_small _ hmp).2, Jug.step hkap hc (by omega) (Int.le_refl 0) bz hl, ?_⟩
        simp [bTip, ↓fnD, ↓ms, ↓mseq, ↓mbind, ↓mret, ↓mopt, ↓mbad, ↓mvar, ↓res, ↓strong, strongs, ress, ↓mun, ↓mbin, ↓mbinR, ↓mcb, ↓mcons, ↓mcond, ↓mif, ↓mandV, ↓morV, ↓mnotV, ↓tob, truD, ↓mfld, fldD, putO, ↓mputf, ↓stSet, ↓stSetP, ↓mfrz, ↓mlst, ↓mtup, ↓mslice, ↓mpart, intD, dSl, on1, on2, lenD, absD, TW.intOf, TW.listOf, TW.tupOf, dInt2, dCmp2, dNeg, dIx, dIsN, dNotN, D.isNon, dupFree, argsOf, argOf, Sl.some?, putBack, Opd.isS, Sl.own, Rv.sl, Rv.d, ↓mwalk, walkD, itemsD, ↓mrng, rng1, rng2, rng3, tgName, tgTup, tgCons, tgNil, ↓masg, ↓mpar2, stPar2, isiD, dTy, isiInt, isiBl, isiLst, isiTup, isiObj, or2, ↓mvarF, ↓mchain, ↓mop2, dAddX, dAddS, ↓mrev, lstD, ↓mrevA, ↓mpar3, stPar3, List.findIdx?_cons, List.findIdx?_nil, ↓mcall, ↓mmake, ↓mmth, ↓chk, ↓mbop, ↓mneg1, ↓chkT, ↓kB, ↓mceq, ↓mcalO, ↓mzip, zipD, ↓mrevT, revTD, dRepA, ↓tgSet, ↓mpar2L, ↓mseti, ↓menum, ↓mappend, ↓mpop, ↓mmaxd, ↓mstar, ↓mraise, ↓mtry, ↓mxf, a0, a1, a2, x1, x2, hmp, hlog, c1, c1', c2, c3, c5, n0, hnt, k0, k1, k2, hlogZ, mixZ, hc', M1p, M2p, M3p, hZ]
      · have n0 : dNe (.lst (I cs)) (.lst []) = some (.bl true) := by rw [dNe_lst]; cases cs; exact absurd rfl hcs; rfl
        have hlen : 0 < cs.length := List.length_pos_iff.mpr hcs
        have hlt : t % cs.length < cs.length := Nat.mod_lt _ hlen
        have hcast : (t : Int) % (cs.length : Int) = ((t % cs.length : Nat) : Int) := by omega
        have hat : atI (I cs) ((t : Int) % (cs.length : Int)) = some (.int (cs[t % cs.length])) := by rw [hcast]; exact atI_In hlt
        have bc : bd κ (cs[t % cs.length]) := hc _ (List.getElem_mem _)
        generalize cs[t % cs.length] = c at hat bc
        have hlen' : 0 < (cs.length : Int) := by omega
        have hab : (if c < 0 then -c else c) = (c.natAbs : Int) := by by_cases h : c < 0; rw [if_pos h]; omega; rw [if_neg h]; omega
        by_cases hbig : (t : Int) < (cs.length : Int) ∧ (1000000000000000000 : Int) ≤ (c.natAbs : Int)
        · obtain ⟨hb1, hb2⟩ := hbig
          have bA : bd κ ((c.natAbs : Int) - 1000000000000000000) := by unfold bd at *; omega
          have cA : cMul 2 ((c.natAbs : Int) - 1000000000000000000) = true := bd.cMul (j := 2) (by unfold bd; decide) bA (by omega)
          have bi : bd 2 (if c < 0 then (1 : Int) else 0) := by by_cases h : c < 0; rw [if_pos h]; unfold bd; decide; rw [if_neg h]; unfold bd; decide
          have bR : bd (κ + 3) (2 * ((c.natAbs : Int) - 1000000000000000000) + (if c < 0 then (1 : Int) else 0)) := ((bd.mul (j := 2) (k := κ) (show bd 2 2 by unfold bd; decide) bA).mono (show 2 + κ ≤ κ + 2 by omega)).add (bi.mono (show 2 ≤ κ + 2 by omega)) (by omega) (by omega)
          have hR0 : 0 ≤ 2 * ((c.natAbs : Int) - 1000000000000000000) + (if c < 0 then (1 : Int) else 0) := by
            by_cases h : c < 0
            · rw [if_pos h]; omega
            · rw [if_neg h]; omega
          obtain ⟨h3, h4⟩ := bd_div bR hR0 hm
          refine ⟨(2 * ((c.natAbs : Int) - 1000000000000000000) + (if c < 0 then (1 : Int) else 0)) % m, jug cs (t + 1) ((2 * ((c.natAbs : Int) - 1000000000000000000) + (if c < 0 then (1 : Int) else 0)) / m), (mod_small _ hmp).1, (mod_small _ hmp).2, Jug.step hkap hc (by omega) h3 h4 hl, ?_⟩
          simp [bTip, ↓fnD, ↓ms, ↓mseq, ↓mbind, ↓mret, ↓mopt, ↓mbad, ↓mvar, ↓res, ↓strong, strongs, ress, ↓mun, ↓mbin, ↓mbinR, ↓mcb, ↓mcons, ↓mcond, ↓mif, ↓mandV, ↓morV, ↓mnotV, ↓tob, truD, ↓mfld, fldD, putO, ↓mputf, ↓stSet, ↓stSetP, ↓mfrz, ↓mlst, ↓mtup, ↓mslice, ↓mpart, intD, dSl, on1, on2, lenD, absD, TW.intOf, TW.listOf, TW.tupOf, dInt2, dCmp2, dNeg, dIx, dIsN, dNotN, D.isNon, dupFree, argsOf, argOf, Sl.some?, putBack, Opd.isS, Sl.own, Rv.sl, Rv.d, ↓mwalk, walkD, itemsD, ↓mrng, rng1, rng2, rng3, tgName, tgTup, tgCons, tgNil, ↓masg, ↓mpar2, stPar2, isiD, dTy, isiInt, isiBl, isiLst, isiTup, isiObj, or2, ↓mvarF, ↓mchain, ↓mop2, dAddX, dAddS, ↓mrev, lstD, ↓mrevA, ↓mpar3, stPar3, List.findIdx?_cons, List.findIdx?_nil, ↓mcall, ↓mmake, ↓mmth, ↓chk, ↓mbop, ↓mneg1, ↓chkT, ↓kB, ↓mceq, ↓mcalO, ↓mzip, zipD, ↓mrevT, revTD, dRepA, ↓tgSet, ↓mpar2L, ↓mseti, ↓menum, ↓mappend, ↓mpop, ↓mmaxd, ↓mstar, ↓mraise, ↓mtry, ↓mxf, a0, a1, a2, x1, x2, hmp, hlog, c1, c2, c3, c5, n0, I_len, hat, hab, hlen', hlen, hb1, hb2, p18, cA]
        · obtain ⟨k1, k2⟩ := S.mixB ((c % M1 + C * (t : Int) + B) ^ 5) bt
          have k0 := S.mixA c bt
          refine ⟨mixZ A A2 B C C2 E M1 M2 M3 Z t c % m, jug cs (t + 1) 0, (mod_small _ hmp).1, (mod_small _ hmp).2, Jug.step hkap hc (by omega) (Int.le_refl 0) bz hl, ?_⟩
          by_cases hb1 : (t : Int) < (cs.length : Int)
          · have hb2 : ¬ (1000000000000000000 : Int) ≤ (c.natAbs : Int) := fun h => hbig ⟨hb1, h⟩
            simp [bTip, ↓fnD, ↓ms, ↓mseq, ↓mbind, ↓mret, ↓mopt, ↓mbad, ↓mvar, ↓res, ↓strong, strongs, ress, ↓mun, ↓mbin, ↓mbinR, ↓mcb, ↓mcons, ↓mcond, ↓mif, ↓mandV, ↓morV, ↓mnotV, ↓tob, truD, ↓mfld, fldD, putO, ↓mputf, ↓stSet, ↓stSetP, ↓mfrz, ↓mlst, ↓mtup, ↓mslice, ↓mpart, intD, dSl, on1, on2, lenD, absD, TW.intOf, TW.listOf, TW.tupOf, dInt2, dCmp2, dNeg, dIx, dIsN, dNotN, D.isNon, dupFree, argsOf, argOf, Sl.some?, putBack, Opd.isS, Sl.own, Rv.sl, Rv.d, ↓mwalk, walkD, itemsD, ↓mrng, rng1, rng2, rng3, tgName, tgTup, tgCons, tgNil, ↓masg, ↓mpar2, stPar2, isiD, dTy, isiInt, isiBl, isiLst, isiTup, isiObj, or2, ↓mvarF, ↓mchain, ↓mop2, dAddX, dAddS, ↓mrev, lstD, ↓mrevA, ↓mpar3, stPar3, List.findIdx?_cons, List.findIdx?_nil, ↓mcall, ↓mmake, ↓mmth, ↓chk, ↓mbop, ↓mneg1, ↓chkT, ↓kB, ↓mceq, ↓mcalO, ↓mzip, zipD, ↓mrevT, revTD, dRepA, ↓tgSet, ↓mpar2L, ↓mseti, ↓menum, ↓mappend, ↓mpop, ↓mmaxd, ↓mstar, ↓mraise, ↓mtry, ↓mxf, a0, a1, a2, x1, x2, hmp, hlog, c1, c1', c2, c3, c5, n0, I_len, hat, hab, hlen', hlen, hb1, hb2, p18, k0, k1, k2, hlogZ, mixZ, M1p, M2p, M3p, hZ]
          · simp [bTip, ↓fnD, ↓ms, ↓mseq, ↓mbind, ↓mret, ↓mopt, ↓mbad, ↓mvar, ↓res, ↓strong, strongs, ress, ↓mun, ↓mbin, ↓mbinR, ↓mcb, ↓mcons, ↓mcond, ↓mif, ↓mandV, ↓morV, ↓mnotV, ↓tob, truD, ↓mfld, fldD, putO, ↓mputf, ↓stSet, ↓stSetP, ↓mfrz, ↓mlst, ↓mtup, ↓mslice, ↓mpart, intD, dSl, on1, on2, lenD, absD, TW.intOf, TW.listOf, TW.tupOf, dInt2, dCmp2, dNeg, dIx, dIsN, dNotN, D.isNon, dupFree, argsOf, argOf, Sl.some?, putBack, Opd.isS, Sl.own, Rv.sl, Rv.d, ↓mwalk, walkD, itemsD, ↓mrng, rng1, rng2, rng3, tgName, tgTup, tgCons, tgNil, ↓masg, ↓mpar2, stPar2, isiD, dTy, isiInt, isiBl, isiLst, isiTup, isiObj, or2, ↓mvarF, ↓mchain, ↓mop2, dAddX, dAddS, ↓mrev, lstD, ↓mrevA, ↓mpar3, stPar3, List.findIdx?_cons, List.findIdx?_nil, ↓mcall, ↓mmake, ↓mmth, ↓chk, ↓mbop, ↓mneg1, ↓chkT, ↓kB, ↓mceq, ↓mcalO, ↓mzip, zipD, ↓mrevT, revTD, dRepA, ↓tgSet, ↓mpar2L, ↓mseti, ↓menum, ↓mappend, ↓mpop, ↓mmaxd, ↓mstar, ↓mraise, ↓mtry, ↓mxf, a0, a1, a2, x1, x2, hmp, hlog, c1, c1', c2, c3, c5, n0, I_len, hat, hab, hlen', hlen, hb1, p18, k0, k1, k2, hlogZ, mixZ, M1p, M2p, M3p, hZ]
/-- an item of a list, drawn -/
theorem Src.take {f : Fd} {J : Nat → List D → Prop} (R : Src f J) {n : Nat} {js ds : List D} (h : J n js) (hn : n ≤ 800000) (h1 : 1 ≤ ds.length) (h2 : ds.length ≤ 100000) :
    ∃ (d : D) (js' : List D), d ∈ ds ∧ J (n + 1) js' ∧ (∃ j : Nat, ds[j]? = some d ∧ atI ds (j : Int) = some d ∧ f [.l js, .v (.int (ds.length : Int))] = .ret (.v (.int (j : Int))) [.l js', .v (.int (ds.length : Int))]) := by
  obtain ⟨y, js', y0, y1, J', e⟩ := R.draw h hn (m := (ds.length : Int)) (by omega) (bd.mono (j := 17) (by unfold bd; omega) (by omega))
  obtain ⟨j, rfl⟩ : ∃ j : Nat, y = (j : Int) := ⟨y.toNat, by omega⟩
  have hj : j < ds.length := by omega
  exact ⟨ds[j], js', List.getElem_mem hj, J', j, List.getElem?_eq_getElem hj, atI_nat' hj, e⟩
end TK

set_option linter.all false
set_option autoImplicit false
set_option maxRecDepth 100000
set_option maxHeartbeats 4000000
/-! data that is looked at -/
namespace TK
open PySem TW L2
def isI : D → Bool
  | .int _ => true
  | _ => false
/-- data that may be asked -/
def plainD : D → Bool
  | .obj _ _ => false
  | .exc _ _ _ _ => false
  | _ => true
/-- a bound: None or an integer -/
def bnd (o : Option Int) : D := match o with
  | none => .non
  | some i => .int i
def inB (z : Int) (lo hi : Option Int) : Bool := (match lo with | none => true | some l => decide (l ≤ z)) && (match hi with | none => true | some l => decide (z ≤ l))
def okD : D → Bool
  | .lst ds => decide (ds.length ≤ 1000000) && ds.all plainD
  | .tup ds => decide (ds.length ≤ 1000000) && ds.all plainD
  | .arg _ => false
  | d => plainD d
def allI : D → Bool
  | .lst ds => ds.all isI
  | .tup ds => ds.all isI
  | _ => false
theorem all_map (ds : List D) : (ds.map isI).all id = ds.all isI := by rw [List.all_map]; rfl
theorem all_isI : ∀ p : List Int, (I p).all isI = true
  | [] => rfl
  | a :: p => by show (true && (I p).all isI) = true; rw [all_isI p]; rfl
theorem all_plain : ∀ p : List Int, (I p).all plainD = true
  | [] => rfl
  | a :: p => by show (true && (I p).all plainD) = true; rw [all_plain p]; rfl
theorem row_ok {d : D} {p : List Int} (h : isRow d p) (hl : p.length ≤ 1000000) : okD d = true ∧ allI d = true := by
  rcases h with rfl | rfl <;> exact ⟨by show (decide _ && _) = true; rw [all_plain, I_len, decide_eq_true hl]; rfl, all_isI p⟩
theorem eqv_I : ∀ p q : List Int, PyData.eqvAll (p.map PyData.int) (q.map PyData.int) = decide (p = q)
  | [], [] => by simp [PyData.eqvAll]
  | [], y :: q => by simp [PyData.eqvAll]
  | x :: p, [] => by simp [PyData.eqvAll]
  | x :: p, y :: q => by
    rw [List.map_cons, List.map_cons, PyData.eqvAll, eqv_I p q]
    have : PyData.eqv (.int x) (.int y) = decide (x = y) := by simp [PyData.eqv]; rfl
    rw [this]
    by_cases h : x = y <;> by_cases h' : p = q <;> simp [h, h']
theorem toPy_tupI (p : List Int) : toPy (.tup (I p)) = some (.tuple (p.map PyData.int)) := by show (toPys (I p)).map PyData.tuple = _; rw [toPys_I]; rfl
theorem toPy_lstI (p : List Int) : toPy (.lst (I p)) = some (.list (p.map PyData.int)) := by show (toPys (I p)).map PyData.list = _; rw [toPys_I]; rfl
theorem eqP_tupI (p q : List Int) : eqP (.tup (I p)) (.tup (I q)) = some (decide (p = q)) := by
  unfold eqP; rw [toPy_tupI, toPy_tupI]; dsimp only; rw [sh_tup, sh_tup, PyData.eqv, eqv_I]; rfl
theorem eqP_lstI (p q : List Int) : eqP (.lst (I p)) (.lst (I q)) = some (decide (p = q)) := by
  unfold eqP; rw [toPy_lstI, toPy_lstI]; dsimp only; rw [sh_lst, sh_lst, PyData.eqv, eqv_I]; rfl
theorem dEq_tupI (p q : List Int) : dEq (.tup (I p)) (.tup (I q)) = some (.bl (decide (p = q))) := by unfold dEq; rw [eqP_tupI]; rfl
theorem dNe_tupI (p q : List Int) : dNe (.tup (I p)) (.tup (I q)) = some (.bl (!decide (p = q))) := by unfold dNe; rw [eqP_tupI]; rfl
theorem dEq_lstI (p q : List Int) : dEq (.lst (I p)) (.lst (I q)) = some (.bl (decide (p = q))) := by unfold dEq; rw [eqP_lstI]; rfl
theorem dNe_lstI (p q : List Int) : dNe (.lst (I p)) (.lst (I q)) = some (.bl (!decide (p = q))) := by unfold dNe; rw [eqP_lstI]; rfl
theorem all_rep (n : Nat) (x : Int) : I (List.replicate n x) = List.replicate n (D.int x) := List.map_replicate
theorem flat_rep (n : Nat) (d : D) : (List.replicate n [d]).flatten = List.replicate n d := by
  induction n with
  | zero => rfl
  | succ n ih => rw [List.replicate_succ, List.flatten_cons, ih, List.replicate_succ]; rfl
theorem getD_in {q : List Int} {j : Nat} (h : j < q.length) : q.getD j 0 = q[j] := by rw [List.getD_eq_getElem?_getD, List.getElem?_eq_getElem h]; rfl
theorem getD_out {q : List Int} {j : Nat} (h : q.length ≤ j) : q.getD j 0 = 0 := by rw [List.getD_eq_getElem?_getD, List.getElem?_eq_none h]; rfl
theorem getD_bd {k : Nat} {q : List Int} (h : bdl k q) (j : Nat) : bd k (q.getD j 0) := by
  by_cases hj : j < q.length
  · rw [getD_in hj]; exact h _ (List.getElem_mem hj)
  · rw [getD_out (by omega)]; exact Nat.two_pow_pos k
theorem bd.zero (k : Nat) : bd k 0 := Nat.two_pow_pos k
theorem bd.neg {k : Nat} {x : Int} (h : bd k x) : bd k (-x) := by unfold bd at *; omega
theorem dRep_nat {k : Nat} (h : k ≤ 1000000) (d : D) : dRep (.lst [d]) (.int (k : Int)) = some (.l (List.replicate k d)) := by
  unfold dRep; dsimp only
  rw [if_pos (by rw [Bool.and_eq_true, Nat.ble_eq, Nat.ble_eq]; exact ⟨by omega, by simp; omega⟩)]
  rw [show ((k : Int)).toNat = k by omega, flat_rep]
theorem dRep_int {z : Int} (h0 : 0 ≤ z) (h : z ≤ 1000000) (d : D) : dRep (.lst [d]) (.int z) = some (.l (List.replicate z.toNat d)) := by
  have e := dRep_nat (k := z.toNat) (by omega) d
  rwa [show ((z.toNat : Nat) : Int) = z by omega] at e
theorem dCat_ok {xs ys : List D} (h : xs.length + ys.length ≤ 16000000) : dCat (.lst xs) (.lst ys) = some (.l (xs ++ ys)) := by
  unfold dCat; dsimp only; rw [if_pos h]
theorem dCatT_ok {xs ys : List D} (h : xs.length + ys.length ≤ 16000000) : dCatT (.tup xs) (.tup ys) = some (.v (.tup (xs ++ ys))) := by
  unfold dCatT; dsimp only; rw [if_pos h]
theorem strongs_map : ∀ (ds : List D) (s : S), strongs (ds.map Opd.d) s = .ok ds s
  | [], s => rfl
  | d :: r, s => by
    show mbind (strong (.d d)) (fun x => mbind (strongs (r.map Opd.d)) fun ds => mret (x :: ds)) s = _
    unfold mbind
    rw [show strong (.d d) s = .ok d s from rfl]; dsimp only
    rw [strongs_map r s]; rfl
theorem strongs_I (p : List Int) (s : S) : strongs (p.map (Opd.d ∘ D.int)) s = .ok (I p) s := by rw [← List.map_map]; exact strongs_map (I p) s
theorem strongs_Ir (p : List Int) (k : Nat) (z : Int) (s : S) : strongs (p.map (Opd.d ∘ D.int) ++ List.replicate k (Opd.d (D.int z))) s = .ok (I (p ++ List.replicate k z)) s := by
  have := strongs_I (p ++ List.replicate k z) s
  rwa [List.map_append, List.map_replicate] at this
theorem strongs_r (k : Nat) (z : Int) (s : S) : strongs (List.replicate k (Opd.d (D.int z))) s = .ok (I (List.replicate k z)) s := by
  have := strongs_I (List.replicate k z) s
  rwa [List.map_replicate] at this
end TK

set_option linter.all false
set_option autoImplicit false
set_option maxRecDepth 100000
set_option maxHeartbeats 4000000
/-! what repr says of a row of integers -/
namespace TK
open PySem TW L2
theorem strOk_of (s : String) : PyData.strOk (Str.ofString s) = true := by
  unfold PyData.strOk
  rw [Str.ofString_eq_toList, List.all_toArray, List.all_eq_true]
  intro n hn
  obtain ⟨c, _, rfl⟩ := List.mem_map.mp hn
  refine decide_eq_true ?_
  rcases c.valid with h | h
  · have : c.toNat < 0xd800 := h
    omega
  · exact h.2
theorem len_of (s : String) : (Str.ofString s).length = s.length := by
  show (Str.ofString s).cps.size = _
  rw [Str.ofString_eq_toList]
  simp [String.length_toList]
theorem strOk_app (x y : Str) : PyData.strOk (x ++ y) = (PyData.strOk x && PyData.strOk y) := Array.all_append ..
theorem strOk_join (sep : Str) (hs : PyData.strOk sep = true) : ∀ ts : List Str, (∀ t ∈ ts, PyData.strOk t = true) → PyData.strOk (Str.join sep ts) = true
  | [], _ => by show PyData.strOk Str.empty = true; unfold PyData.strOk Str.empty; simp
  | [x], h => h x List.mem_cons_self
  | x :: y :: r, h => by
    show PyData.strOk (x ++ sep ++ Str.join sep (y :: r)) = true
    rw [strOk_app, strOk_app, h x List.mem_cons_self, hs, strOk_join sep hs (y :: r) fun t ht => h t (List.mem_cons_of_mem _ ht)]; rfl
theorem strOk_tup (ts : List Str) (h : ∀ t ∈ ts, PyData.strOk t = true) : PyData.strOk (tupleText ts) = true := by
  unfold tupleText
  rw [strOk_app, strOk_app, strOk_join _ (strOk_of _) ts h, strOk_of, strOk_of]; rfl
theorem shown_I (p : List Int) : PyData.shownAll (p.map PyData.int) = p.map fun i => ((toString i : String) : Str) := by
  induction p with
  | nil => rfl
  | cons a p ih => rw [List.map_cons, PyData.shownAll, ih]; rfl
theorem showable_I : ∀ p : List Int, (∀ x ∈ p, x.natAbs.log2 < 1920) → PyData.showableAll (p.map PyData.int) = true
  | [], _ => rfl
  | a :: p, h => by
    rw [List.map_cons, PyData.showableAll, showable_I p fun x hx => h x (List.mem_cons_of_mem _ hx), PyData.showable, decide_eq_true (h a List.mem_cons_self)]; rfl
theorem noDict_I (p : List Int) : (PyData.tuple (p.map PyData.int)).hasDict = false := PyData.hasDict_of_canLay _ (by rw [PyData.canLay0]; exact lay_I p)
theorem sum_le {α : Type} (f : α → Nat) (k : Nat) : ∀ l : List α, (∀ x ∈ l, f x ≤ k) → (l.map f).sum ≤ l.length * k
  | [], _ => Nat.zero_le _
  | a :: l, h => by
    have := sum_le f k l fun x hx => h x (List.mem_cons_of_mem _ hx)
    have h0 := h a List.mem_cons_self
    rw [List.map_cons, List.sum_cons, List.length_cons, Nat.succ_mul]; omega
theorem repr_I {p : List Int} {k : Nat} (hk : bdl k p) (hk2 : k ≤ 1900) (hl : p.length * (k + 10) ≤ 90000) : ∃ t : Str, reprD (.tup (I p)) = some (.v (.str t)) ∧ dNe (.str t) (.str t) = some (.bl false) := by
  have hsm : ∀ x ∈ p, x.natAbs.log2 < k + 1 := fun x hx => by have := (hk x hx).log; omega
  have hlen : ((PyData.tuple (p.map PyData.int)).shown).length ≤ 100000 := by
    rw [PyData.shown, shown_I]
    refine Nat.le_trans (tupleText_len_le _) ?_
    rw [List.map_map, List.length_map]
    have := sum_le ((fun t : Str => t.length) ∘ fun i : Int => ((toString i : String) : Str)) (k + 2) p fun x hx => by
      have h1 := int_text_length_le (a := x) (k := k + 1) (by omega) (hsm x hx)
      have h2 := len_of (toString x)
      show ((toString x : String) : Str).length ≤ k + 2
      omega
    have e : p.length * (k + 10) = p.length * (k + 2) + p.length * 8 := by rw [← Nat.mul_add]
    omega
  have hok : PyData.strOk (PyData.tuple (p.map PyData.int)).shown = true := by
    rw [PyData.shown, shown_I]
    refine strOk_tup _ fun t ht => ?_
    obtain ⟨x, _, rfl⟩ := List.mem_map.mp ht
    exact strOk_of _
  refine ⟨(PyData.tuple (p.map PyData.int)).shown, ?_, ?_⟩
  · unfold reprD
    rw [toPy_tupI]; dsimp only
    rw [if_pos]
    have h1 : (PyData.tuple (p.map PyData.int)).showable = true := by rw [PyData.showable]; exact showable_I p fun x hx => by have := hsm x hx; omega
    have h2 : (PyData.tuple (p.map PyData.int)).depth = 1 := by rw [PyData.depth, depth_I]
    rw [h1, noDict_I, h2, decide_eq_true hlen]; rfl
  · have hsh : SeqAt.shaped (.str (PyData.tuple (p.map PyData.int)).shown) = true := by
      unfold SeqAt.shaped PyData.canLay0 PyData.depth
      rw [hok]; rfl
    generalize (PyData.tuple (p.map PyData.int)).shown = t at hsh
    unfold dNe eqP toPy; dsimp only; rw [hsh]; simp [PyData.eqv]
end TK

set_option linter.all false
set_option pp.maxSteps 300
set_option autoImplicit false
set_option maxRecDepth 100000
set_option maxHeartbeats 4000000
/-! the laws' jars: made of the script; an item drawn -/
namespace TK
open PySem TW L2
theorem cutD_I (p : List Int) (lo hi : Option Int) : cutD (I p) lo hi = I (cutD p lo hi) := by unfold cutD; rw [List.length_map, ← List.map_drop, ← List.map_take]
theorem cutD_len {α : Type} (p : List α) (lo hi : Option Int) : (cutD p lo hi).length ≤ p.length := by unfold cutD; rw [List.length_take, List.length_drop]; omega
theorem mem_cutD {α : Type} {p : List α} {lo hi : Option Int} {x : α} (h : x ∈ cutD p lo hi) : x ∈ p := by unfold cutD at h; exact List.mem_of_mem_drop (List.mem_of_mem_take h)
theorem bits_bd {z : Int} (h : Builtin.Int.intBits z ≤ 1048576) : bd 1048577 z := by
  unfold Builtin.Int.intBits at h
  unfold bd
  by_cases h0 : z.natAbs = 0
  · rw [h0]; exact Nat.pow_pos (by decide)
  · rw [if_neg (by simpa using h0)] at h
    exact Nat.lt_of_lt_of_le ((Nat.log2_lt h0).mp (by omega : z.natAbs.log2 < 1048576)) (Nat.pow_le_pow_right (by decide) (by omega))
def bBinC (K : Int) : M Rv := mlc [1] (mwalk (mbind (mslice (mvar 0) (mret none) (mpart (mret (D.int K)))) fun r => mret (Rv.d r))) (tgName 1) (mret true) (mbind (mcb (on1 intOf) (mcons (mvar 1) (mret []))) fun r => mret (Rv.d r))
def bBin (K : Int) : MS := (ms (mlst (mcons (mbind (mbind (bBinC K) fun r => mret (Rv.d r)) fun d => mret (Opd.d d)) (mcons (mbind (mret (D.int 0)) fun d => mret (Opd.d d)) (mcons (mbind (mret (D.int 0)) fun d => mret (Opd.d d)) (mret []))))) fun r s => OutS.rt r s)
theorem bin_ok (K : Int) {ns : List Int} (hl : ns.length ≤ 63) (hb : ∀ z ∈ ns, Builtin.Int.intBits z ≤ 1048576) : ∃ js, fnD 2 1 (bBin K) [.v (.arg (I ns))] = .ret (.l js) [.v (.arg (I ns))] ∧ Jug 0 js := by
  have hlen := cutD_len ns none (some K)
  have hc := cutD_I ns none (some K)
  have hm : (mwalk (mbind (mslice (mvar 0) (mret none) (mpart (mret (D.int K)))) fun r => mret (Rv.d r))) [.v (.arg (I ns)), .no] = .ok (I (cutD ns none (some K))) [.v (.arg (I ns)), .no] := by
    generalize I (cutD ns none (some K)) = w2 at *
    generalize I ns = w at *
    simp [↓fnD, ↓ms, ↓mseq, ↓mbind, ↓mret, ↓mopt, ↓mbad, ↓mvar, ↓res, ↓strong, strongs, ress, ↓mun, ↓mbin, ↓mbinR, ↓mcb, ↓mcons, ↓mcond, ↓mif, ↓mandV, ↓morV, ↓mnotV, ↓tob, truD, ↓mfld, fldD, putO, ↓mputf, ↓stSet, ↓stSetP, ↓mfrz, ↓mlst, ↓mtup, ↓mslice, ↓mpart, intD, dSl, on1, on2, lenD, absD, TW.intOf, TW.listOf, TW.tupOf, dInt2, dCmp2, dNeg, dIx, dIsN, dNotN, D.isNon, dupFree, argsOf, argOf, Sl.some?, putBack, Opd.isS, Sl.own, Rv.sl, Rv.d, ↓mwalk, walkD, itemsD, ↓mrng, rng1, rng2, rng3, tgName, tgTup, tgCons, tgNil, ↓masg, ↓mpar2, stPar2, isiD, dTy, isiInt, isiBl, isiLst, isiTup, isiObj, or2, ↓mvarF, ↓mchain, ↓mop2, dAddX, dAddS, ↓mrev, lstD, ↓mrevA, ↓mpar3, stPar3, List.findIdx?_cons, List.findIdx?_nil, ↓mcall, ↓mmake, ↓mmth, ↓chk, ↓mbop, ↓mneg1, ↓chkT, ↓kB, ↓mceq, ↓mcalO, ↓mzip, zipD, ↓mrevT, revTD, dRepA, ↓tgSet, ↓mpar2L, ↓mseti, ↓menum, ↓mappend, ↓mpop, ↓mmaxd, ↓mstar, ↓mraise, ↓mtry, ↓mxf, hc]
  have ec : bBinC K [.v (.arg (I ns)), .no] = .ok (.l (I (cutD ns none (some K)))) [.v (.arg (I ns)), .no] := by
    have := lc_map (vs := [1]) (tm := tgName 1) (te := mbind (mcb (on1 intOf) (mcons (mvar 1) (mret []))) fun r => mret (Rv.d r)) (fun d => d) hm rfl (by rw [I_len]; omega) fun d hd => by
      obtain ⟨z, _, rfl⟩ := List.mem_map.mp hd
      exact ⟨[.v (.arg (I ns)), .v (.int z)], rfl, by simp [↓fnD, ↓ms, ↓mseq, ↓mbind, ↓mret, ↓mopt, ↓mbad, ↓mvar, ↓res, ↓strong, strongs, ress, ↓mun, ↓mbin, ↓mbinR, ↓mcb, ↓mcons, ↓mcond, ↓mif, ↓mandV, ↓morV, ↓mnotV, ↓tob, truD, ↓mfld, fldD, putO, ↓mputf, ↓stSet, ↓stSetP, ↓mfrz, ↓mlst, ↓mtup, ↓mslice, ↓mpart, intD, dSl, on1, on2, lenD, absD, TW.intOf, TW.listOf, TW.tupOf, dInt2, dCmp2, dNeg, dIx, dIsN, dNotN, D.isNon, dupFree, argsOf, argOf, Sl.some?, putBack, Opd.isS, Sl.own, Rv.sl, Rv.d, ↓mwalk, walkD, itemsD, ↓mrng, rng1, rng2, rng3, tgName, tgTup, tgCons, tgNil, ↓masg, ↓mpar2, stPar2, isiD, dTy, isiInt, isiBl, isiLst, isiTup, isiObj, or2, ↓mvarF, ↓mchain, ↓mop2, dAddX, dAddS, ↓mrev, lstD, ↓mrevA, ↓mpar3, stPar3, List.findIdx?_cons, List.findIdx?_nil, ↓mcall, ↓mmake, ↓mmth, ↓chk, ↓mbop, ↓mneg1, ↓chkT, ↓kB, ↓mceq, ↓mcalO, ↓mzip, zipD, ↓mrevT, revTD, dRepA, ↓tgSet, ↓mpar2L, ↓mseti, ↓menum, ↓mappend, ↓mpop, ↓mmaxd, ↓mstar, ↓mraise, ↓mtry, ↓mxf], rfl, rfl⟩
    unfold bBinC
    rw [this, List.map_id']
  refine ⟨jug (cutD ns none (some K)) 0 0, ?_, 1048577, _, 0, 0, rfl, by omega, fun x hx => bits_bd (hb x (mem_cutD hx)), Nat.le_refl 0, Int.le_refl 0, bd.zero _, by omega⟩
  show _ = OutF.ret (.l [.lst (I (cutD ns none (some K))), .int 0, .int 0]) _
  generalize I (cutD ns none (some K)) = w2 at *
  generalize I ns = w at *
  simp [bBin, ↓fnD, ↓ms, ↓mseq, ↓mbind, ↓mret, ↓mopt, ↓mbad, ↓mvar, ↓res, ↓strong, strongs, ress, ↓mun, ↓mbin, ↓mbinR, ↓mcb, ↓mcons, ↓mcond, ↓mif, ↓mandV, ↓morV, ↓mnotV, ↓tob, truD, ↓mfld, fldD, putO, ↓mputf, ↓stSet, ↓stSetP, ↓mfrz, ↓mlst, ↓mtup, ↓mslice, ↓mpart, intD, dSl, on1, on2, lenD, absD, TW.intOf, TW.listOf, TW.tupOf, dInt2, dCmp2, dNeg, dIx, dIsN, dNotN, D.isNon, dupFree, argsOf, argOf, Sl.some?, putBack, Opd.isS, Sl.own, Rv.sl, Rv.d, ↓mwalk, walkD, itemsD, ↓mrng, rng1, rng2, rng3, tgName, tgTup, tgCons, tgNil, ↓masg, ↓mpar2, stPar2, isiD, dTy, isiInt, isiBl, isiLst, isiTup, isiObj, or2, ↓mvarF, ↓mchain, ↓mop2, dAddX, dAddS, ↓mrev, lstD, ↓mrevA, ↓mpar3, stPar3, List.findIdx?_cons, List.findIdx?_nil, ↓mcall, ↓mmake, ↓mmth, ↓chk, ↓mbop, ↓mneg1, ↓chkT, ↓kB, ↓mceq, ↓mcalO, ↓mzip, zipD, ↓mrevT, revTD, dRepA, ↓tgSet, ↓mpar2L, ↓mseti, ↓menum, ↓mappend, ↓mpop, ↓mmaxd, ↓mstar, ↓mraise, ↓mtry, ↓mxf, ec]
def bTake (f : Fd) : MS := (ms (mbind (mbin dIx (mvar 1) (mbind (mbind (mcall f [] (mcons (mvar 0) (mcons (mbind (mbind (mcb (on1 lenD) (mcons (mvar 1) (mret []))) fun r => mret (Rv.d r)) fun d => mret (Opd.d d)) (mret [])))) fun r => mret (Rv.d r)) fun d => mret (Opd.d d))) fun d => mret (Rv.v d)) fun r s => OutS.rt r s)
theorem take_ok {f : Fd} {J : Nat → List D → Prop} (R : Src f J) {n : Nat} {js ds : List D} (h : J n js) (hn : n ≤ 800000) (h1 : 1 ≤ ds.length) (h2 : ds.length ≤ 100000) :
    ∃ (d : D) (js' : List D), d ∈ ds ∧ J (n + 1) js' ∧ fnD 2 2 (bTake f) [.l js, .v (.lst ds)] = .ret (.v d) [.l js', .v (.lst ds)] := by
  obtain ⟨d, js', hd, J', j, hj, ha, e⟩ := R.take h hn h1 h2
  exact ⟨d, js', hd, J', by simp [bTake, ↓fnD, ↓ms, ↓mseq, ↓mbind, ↓mret, ↓mopt, ↓mbad, ↓mvar, ↓res, ↓strong, strongs, ress, ↓mun, ↓mbin, ↓mbinR, ↓mcb, ↓mcons, ↓mcond, ↓mif, ↓mandV, ↓morV, ↓mnotV, ↓tob, truD, ↓mfld, fldD, putO, ↓mputf, ↓stSet, ↓stSetP, ↓mfrz, ↓mlst, ↓mtup, ↓mslice, ↓mpart, intD, dSl, on1, on2, lenD, absD, TW.intOf, TW.listOf, TW.tupOf, dInt2, dCmp2, dNeg, dIx, dIsN, dNotN, D.isNon, dupFree, argsOf, argOf, Sl.some?, putBack, Opd.isS, Sl.own, Rv.sl, Rv.d, ↓mwalk, walkD, itemsD, ↓mrng, rng1, rng2, rng3, tgName, tgTup, tgCons, tgNil, ↓masg, ↓mpar2, stPar2, isiD, dTy, isiInt, isiBl, isiLst, isiTup, isiObj, or2, ↓mvarF, ↓mchain, ↓mop2, dAddX, dAddS, ↓mrev, lstD, ↓mrevA, ↓mpar3, stPar3, List.findIdx?_cons, List.findIdx?_nil, ↓mcall, ↓mmake, ↓mmth, ↓chk, ↓mbop, ↓mneg1, ↓chkT, ↓kB, ↓mceq, ↓mcalO, ↓mzip, zipD, ↓mrevT, revTD, dRepA, ↓tgSet, ↓mpar2L, ↓mseti, ↓menum, ↓mappend, ↓mpop, ↓mmaxd, ↓mstar, ↓mraise, ↓mtry, ↓mxf, e, ha]⟩
theorem take_okT {f : Fd} {J : Nat → List D → Prop} (R : Src f J) {n : Nat} {js ds : List D} (h : J n js) (hn : n ≤ 800000) (h1 : 1 ≤ ds.length) (h2 : ds.length ≤ 100000) :
    ∃ (d : D) (js' : List D), d ∈ ds ∧ J (n + 1) js' ∧ fnD 2 2 (bTake f) [.l js, .v (.tup ds)] = .ret (.v d) [.l js', .v (.tup ds)] := by
  obtain ⟨d, js', hd, J', j, hj, ha, e⟩ := R.take h hn h1 h2
  exact ⟨d, js', hd, J', by simp [bTake, ↓fnD, ↓ms, ↓mseq, ↓mbind, ↓mret, ↓mopt, ↓mbad, ↓mvar, ↓res, ↓strong, strongs, ress, ↓mun, ↓mbin, ↓mbinR, ↓mcb, ↓mcons, ↓mcond, ↓mif, ↓mandV, ↓morV, ↓mnotV, ↓tob, truD, ↓mfld, fldD, putO, ↓mputf, ↓stSet, ↓stSetP, ↓mfrz, ↓mlst, ↓mtup, ↓mslice, ↓mpart, intD, dSl, on1, on2, lenD, absD, TW.intOf, TW.listOf, TW.tupOf, dInt2, dCmp2, dNeg, dIx, dIsN, dNotN, D.isNon, dupFree, argsOf, argOf, Sl.some?, putBack, Opd.isS, Sl.own, Rv.sl, Rv.d, ↓mwalk, walkD, itemsD, ↓mrng, rng1, rng2, rng3, tgName, tgTup, tgCons, tgNil, ↓masg, ↓mpar2, stPar2, isiD, dTy, isiInt, isiBl, isiLst, isiTup, isiObj, or2, ↓mvarF, ↓mchain, ↓mop2, dAddX, dAddS, ↓mrev, lstD, ↓mrevA, ↓mpar3, stPar3, List.findIdx?_cons, List.findIdx?_nil, ↓mcall, ↓mmake, ↓mmth, ↓chk, ↓mbop, ↓mneg1, ↓chkT, ↓kB, ↓mceq, ↓mcalO, ↓mzip, zipD, ↓mrevT, revTD, dRepA, ↓tgSet, ↓mpar2L, ↓mseti, ↓menum, ↓mappend, ↓mpop, ↓mmaxd, ↓mstar, ↓mraise, ↓mtry, ↓mxf, e, ha]⟩
end TK

set_option linter.all false
set_option autoImplicit false
set_option maxRecDepth 100000
set_option maxHeartbeats 4000000
namespace K00
open PySem TW L2 TK
theorem bd30 {x : Int} (h : x.natAbs < 1073741824) : bd 30 x := by unfold bd; omega
theorem dEqS_int (i j : Int) : dEqS (.int i) (.int j) = some (.bl (decide (i = j))) := by
  unfold dEqS dOr
  show (match dEqO (.int i) (.int j) with | some d => some d | none => dEq (.int i) (.int j)) = _
  rw [show dEqO (.int i) (.int j) = none from rfl]
  exact dEq_int i j
/-! ## the bag -/
def Bg (K : Nat) (b : List D) : Prop := ∃ n c m : Int, b = I [n, c, m] ∧ 0 ≤ c ∧ c ≤ (K : Int) ∧ 0 ≤ m ∧ m < 998244353
theorem Bg.mono {K K' : Nat} {b : List D} (h : Bg K b) (hk : K ≤ K') : Bg K' b := by
  obtain ⟨n, c, m, e, h1, h2, h3⟩ := h
  exact ⟨n, c, m, e, h1, by omega, h3⟩
theorem pull_ok (fu : Nat) {K : Nat} {b : List D} {k : Int} (h : Bg K b) (hK : K < 1000000) (hk : 0 < k) (hl : k.natAbs.log2 < 9000) :
    ∃ d b', d__law_pull fu [.l b, .v (.int k)] = .ret (.v (.int d)) [.l b', .v (.int k)] ∧ 0 ≤ d ∧ d < k ∧ Bg (K + 1) b' := by
  obtain ⟨n, c, m, rfl, h1, h2, h3, h4⟩ := h
  have hm : 0 ≤ m * (2 * (c + 1) + 1) := Int.mul_nonneg h3 (by omega)
  have hm2 : m * (2 * (c + 1) + 1) ≤ 998244353 * 3000000 := Int.mul_le_mul (by omega) (by omega) (by omega) (by omega)
  have hA : cMul m (2 * (c + 1) + 1) = true := by
    have b1 : bd 30 m := by unfold bd; omega
    have b2 : bd 30 (2 * (c + 1) + 1) := by unfold bd; omega
    exact b1.cMul b2 (by omega)
  have hB : cMul 2 (c + 1) = true := by
    have b1 : bd 30 (2 : Int) := by unfold bd; omega
    have b2 : bd 30 (c + 1) := by unfold bd; omega
    exact b1.cMul b2 (by omega)
  have hC : cMul 90523 (c + 1) = true := by
    have b1 : bd 30 (90523 : Int) := by unfold bd; omega
    have b2 : bd 30 (c + 1) := by unfold bd; omega
    exact b1.cMul b2 (by omega)
  have hP : (m * (2 * (c + 1) + 1) + 90523 * (c + 1) + 47).natAbs < 2 ^ 64 := by omega
  have e0 := dEqS_int n 0
  have hh := mod_small n hk
  have hA' := of_decide_eq_true hA
  have hB' := of_decide_eq_true hB
  have hC' := of_decide_eq_true hC
  by_cases hn : n = 0
  · subst hn
    have hg := mod_small ((m * (2 * (c + 1) + 1) + 90523 * (c + 1) + 47) ^ 3) hk
    refine ⟨(m * (2 * (c + 1) + 1) + 90523 * (c + 1) + 47) ^ 3 % k, I [(m * (2 * (c + 1) + 1) + 90523 * (c + 1) + 47) ^ 3 / k, c + 1, m], ?_, hg.1, hg.2, ⟨_, _, _, rfl, by omega, by omega, h3, h4⟩⟩
    simp [d__law_pull, b__law_pull, mcall, ↓fnD, ↓ms, ↓mseq, ↓mbind, ↓mret, ↓mopt, ↓mbad, ↓mvar, ↓res, ↓strong, strongs, ress, ↓mun, ↓mbin, ↓mbinR, ↓mcb, ↓mcons, ↓mcond, ↓mif, ↓mandV, ↓morV, ↓mnotV, ↓tob, truD, ↓mfld, fldD, putO, ↓mputf, ↓stSet, ↓stSetP, ↓mfrz, ↓mlst, ↓mtup, ↓mslice, ↓mpart, intD, dSl, on1, on2, lenD, absD, TW.intOf, TW.listOf, TW.tupOf, dInt2, dCmp2, dNeg, dIx, dIsN, dNotN, D.isNon, dupFree, argsOf, argOf, Sl.some?, putBack, Opd.isS, Sl.own, Rv.sl, Rv.d, ↓mwalk, walkD, itemsD, ↓mrng, rng1, rng2, rng3, tgName, tgTup, tgCons, tgNil, ↓masg, ↓mpar2, stPar2, isiD, dTy, isiInt, isiBl, isiLst, isiTup, isiObj, or2, ↓mvarF, ↓mchain, ↓mop2, dAddX, dAddS, ↓mrev, lstD, ↓mrevA, ↓mpar3, stPar3, List.findIdx?_cons, List.findIdx?_nil, ↓mcall, ↓mmake, ↓mmth, ↓chk, ↓mbop, ↓mneg1, ↓chkT, ↓kB, ↓mceq, ↓mcalO, ↓mzip, zipD, ↓mrevT, revTD, ↓tgSet, ↓mpar2L, ↓mpar2Q, stPar2Q, ↓mceqO, ↓chkO, ↓mxt, ↓mseti, ↓menum, ↓mappend, ↓mpop, ↓mmaxd, ↓mstar, ↓mraise, ↓mtry, ↓mxf, e0, hA, hB, hC, hA', hB', hC', hP, mseti, hk, hl, atI, ixN]
  · refine ⟨n % k, I [n / k, c, m], ?_, hh.1, hh.2, ⟨_, _, _, rfl, h1, by omega, h3, h4⟩⟩
    simp [d__law_pull, b__law_pull, mcall, ↓fnD, ↓ms, ↓mseq, ↓mbind, ↓mret, ↓mopt, ↓mbad, ↓mvar, ↓res, ↓strong, strongs, ress, ↓mun, ↓mbin, ↓mbinR, ↓mcb, ↓mcons, ↓mcond, ↓mif, ↓mandV, ↓morV, ↓mnotV, ↓tob, truD, ↓mfld, fldD, putO, ↓mputf, ↓stSet, ↓stSetP, ↓mfrz, ↓mlst, ↓mtup, ↓mslice, ↓mpart, intD, dSl, on1, on2, lenD, absD, TW.intOf, TW.listOf, TW.tupOf, dInt2, dCmp2, dNeg, dIx, dIsN, dNotN, D.isNon, dupFree, argsOf, argOf, Sl.some?, putBack, Opd.isS, Sl.own, Rv.sl, Rv.d, ↓mwalk, walkD, itemsD, ↓mrng, rng1, rng2, rng3, tgName, tgTup, tgCons, tgNil, ↓masg, ↓mpar2, stPar2, isiD, dTy, isiInt, isiBl, isiLst, isiTup, isiObj, or2, ↓mvarF, ↓mchain, ↓mop2, dAddX, dAddS, ↓mrev, lstD, ↓mrevA, ↓mpar3, stPar3, List.findIdx?_cons, List.findIdx?_nil, ↓mcall, ↓mmake, ↓mmth, ↓chk, ↓mbop, ↓mneg1, ↓chkT, ↓kB, ↓mceq, ↓mcalO, ↓mzip, zipD, ↓mrevT, revTD, ↓tgSet, ↓mpar2L, ↓mpar2Q, stPar2Q, ↓mceqO, ↓chkO, ↓mxt, ↓mseti, ↓menum, ↓mappend, ↓mpop, ↓mmaxd, ↓mstar, ↓mraise, ↓mtry, ↓mxf, e0, hn, mseti, hk, hl, atI, ixN]
/-! ## the bag is laid -/
theorem bag_step (fu : Nat) {ns : List Int} {z n : Int} {x : Sl} {i : Nat} (hz : bd 1048577 z) (h0 : 0 ≤ n) (hn : n < 2 ^ (1000 + 21 * i)) (hi : i ≤ 63) :
    ∃ n', lb__law_bag_1 fu [.v (.arg (I ns)), .v (.int n), .v (.int z)] = .nx [.v (.arg (I ns)), .v (.int n'), .v (.int z)] ∧ 0 ≤ n' ∧ n' < 2 ^ (1000 + 21 * (i + 1)) := by
  have hbn : bd (1000 + 21 * i) n := by
    unfold bd
    have : ((n.natAbs : Nat) : Int) = n := Int.natAbs_of_nonneg h0
    have h2 : ((n.natAbs : Nat) : Int) < ((2 ^ (1000 + 21 * i) : Nat) : Int) := by rw [this]; push_cast; exact hn
    exact_mod_cast h2
  have c1 : cMul n 1000621 = true := hbn.cMul (k := 30) (bd30 (by decide)) (by omega)
  have hza : bd 1048577 ((z.natAbs : Nat) : Int) := by unfold bd; rw [Int.natAbs_natCast]; exact hz
  have c2 : cMul 2 ((z.natAbs : Nat) : Int) = true := (bd30 (x := 2) (by decide)).cMul hza (by omega)
  have d1 : n.natAbs.log2 + Nat.log2 1000621 < 134217000 := of_decide_eq_true c1
  have d2 : Nat.log2 2 + z.natAbs.log2 < 134217000 := of_decide_eq_true c2
  have cp : cPowB 1000000000000000000000000000000000000000000000000000000000000 5 = true := by decide +kernel
  have cp1 := of_decide_eq_true (Bool.and_eq_true_iff.mp cp).2
  have hm := mod_small (2 * (z.natAbs : Int) + if z < 0 then 1 else 0) (m := (10 ^ 60) ^ 5) (by decide)
  have hp : (2 : Int) ^ (1000 + 21 * (i + 1)) = 2 ^ (1000 + 21 * i) * 2097152 := by rw [show 1000 + 21 * (i + 1) = 1000 + 21 * i + 21 by omega, Int.pow_add]; rfl
  have hq : ((10 : Int) ^ 60) ^ 5 ≤ 2 ^ (1000 + 21 * i) := by
    have h1 : ((10 : Int) ^ 60) ^ 5 ≤ 2 ^ 1000 := by decide +kernel
    have h2 : (2 : Int) ^ 1000 ≤ 2 ^ (1000 + 21 * i) := by
      rw [Int.pow_add]
      have h3 : (1 : Int) ≤ 2 ^ (21 * i) := by
        have : 0 < (2 : Nat) ^ (21 * i) := Nat.pow_pos (by decide)
        have h4 : (1 : Nat) ≤ 2 ^ (21 * i) := this
        exact_mod_cast h4
      have h5 : (0 : Int) ≤ 2 ^ 1000 := by decide +kernel
      calc (2 : Int) ^ 1000 = 2 ^ 1000 * 1 := by rw [Int.mul_one]
        _ ≤ 2 ^ 1000 * 2 ^ (21 * i) := Int.mul_le_mul_of_nonneg_left h3 h5
    omega
  refine ⟨n * 1000621 + (2 * (z.natAbs : Int) + if z < 0 then 1 else 0) % (10 ^ 60) ^ 5, ?_, by omega, by omega⟩
  by_cases hzn : z < 0
  · have ez : ((z.natAbs : Nat) : Int) = -z := by omega
    rw [ez]
    simp [lb__law_bag_1, ↓fnD, ↓ms, ↓mseq, ↓mbind, ↓mret, ↓mopt, ↓mbad, ↓mvar, ↓res, ↓strong, strongs, ress, ↓mun, ↓mbin, ↓mbinR, ↓mcb, ↓mcons, ↓mcond, ↓mif, ↓mandV, ↓morV, ↓mnotV, ↓tob, truD, ↓mfld, fldD, putO, ↓mputf, ↓stSet, ↓stSetP, ↓mfrz, ↓mlst, ↓mtup, ↓mslice, ↓mpart, intD, dSl, on1, on2, lenD, absD, TW.intOf, TW.listOf, TW.tupOf, dInt2, dCmp2, dNeg, dIx, dIsN, dNotN, D.isNon, dupFree, argsOf, argOf, Sl.some?, putBack, Opd.isS, Sl.own, Rv.sl, Rv.d, ↓mwalk, walkD, itemsD, ↓mrng, rng1, rng2, rng3, tgName, tgTup, tgCons, tgNil, ↓masg, ↓mpar2, stPar2, isiD, dTy, isiInt, isiBl, isiLst, isiTup, isiObj, or2, ↓mvarF, ↓mchain, ↓mop2, dAddX, dAddS, ↓mrev, lstD, ↓mrevA, ↓mpar3, stPar3, List.findIdx?_cons, List.findIdx?_nil, ↓mcall, ↓mmake, ↓mmth, ↓chk, ↓mbop, ↓mneg1, ↓chkT, ↓kB, ↓mceq, ↓mcalO, ↓mzip, zipD, ↓mrevT, revTD, ↓tgSet, ↓mpar2L, ↓mpar2Q, stPar2Q, ↓mceqO, ↓chkO, ↓mxt, ↓mseti, ↓menum, ↓mappend, ↓mpop, ↓mmaxd, ↓mstar, ↓mraise, ↓mtry, ↓mxf, d1, d2, cp, cp1, hzn, absD, TW.intOf]
  · have ez : ((z.natAbs : Nat) : Int) = z := by omega
    rw [ez]
    simp [lb__law_bag_1, ↓fnD, ↓ms, ↓mseq, ↓mbind, ↓mret, ↓mopt, ↓mbad, ↓mvar, ↓res, ↓strong, strongs, ress, ↓mun, ↓mbin, ↓mbinR, ↓mcb, ↓mcons, ↓mcond, ↓mif, ↓mandV, ↓morV, ↓mnotV, ↓tob, truD, ↓mfld, fldD, putO, ↓mputf, ↓stSet, ↓stSetP, ↓mfrz, ↓mlst, ↓mtup, ↓mslice, ↓mpart, intD, dSl, on1, on2, lenD, absD, TW.intOf, TW.listOf, TW.tupOf, dInt2, dCmp2, dNeg, dIx, dIsN, dNotN, D.isNon, dupFree, argsOf, argOf, Sl.some?, putBack, Opd.isS, Sl.own, Rv.sl, Rv.d, ↓mwalk, walkD, itemsD, ↓mrng, rng1, rng2, rng3, tgName, tgTup, tgCons, tgNil, ↓masg, ↓mpar2, stPar2, isiD, dTy, isiInt, isiBl, isiLst, isiTup, isiObj, or2, ↓mvarF, ↓mchain, ↓mop2, dAddX, dAddS, ↓mrev, lstD, ↓mrevA, ↓mpar3, stPar3, List.findIdx?_cons, List.findIdx?_nil, ↓mcall, ↓mmake, ↓mmth, ↓chk, ↓mbop, ↓mneg1, ↓chkT, ↓kB, ↓mceq, ↓mcalO, ↓mzip, zipD, ↓mrevT, revTD, ↓tgSet, ↓mpar2L, ↓mpar2Q, stPar2Q, ↓mceqO, ↓chkO, ↓mxt, ↓mseti, ↓menum, ↓mappend, ↓mpop, ↓mmaxd, ↓mstar, ↓mraise, ↓mtry, ↓mxf, d1, d2, cp, cp1, hzn, absD, TW.intOf]
theorem bag_ok (fu : Nat) {ns : List Int} (hl : ns.length ≤ 63) (hb : ∀ z ∈ ns, Builtin.Int.intBits z ≤ 1048576) :
    ∃ b, d__law_bag fu [.v (.arg (I ns))] = .ret (.l b) [.v (.arg (I ns))] ∧ Bg 0 b := by
  have hcl := cutD_len ns none (some 40)
  have hi : li__law_bag_1 fu [.v (.arg (I ns)), .v (.int 131), .no] = .ok (I (cutD ns none (some 40))) [.v (.arg (I ns)), .v (.int 131), .no] := by
    have e := cutD_I ns none (some 40)
    simp [li__law_bag_1, ↓fnD, ↓ms, ↓mseq, ↓mbind, ↓mret, ↓mopt, ↓mbad, ↓mvar, ↓res, ↓strong, strongs, ress, ↓mun, ↓mbin, ↓mbinR, ↓mcb, ↓mcons, ↓mcond, ↓mif, ↓mandV, ↓morV, ↓mnotV, ↓tob, truD, ↓mfld, fldD, putO, ↓mputf, ↓stSet, ↓stSetP, ↓mfrz, ↓mlst, ↓mtup, ↓mslice, ↓mpart, intD, dSl, on1, on2, lenD, absD, TW.intOf, TW.listOf, TW.tupOf, dInt2, dCmp2, dNeg, dIx, dIsN, dNotN, D.isNon, dupFree, argsOf, argOf, Sl.some?, putBack, Opd.isS, Sl.own, Rv.sl, Rv.d, ↓mwalk, walkD, itemsD, ↓mrng, rng1, rng2, rng3, tgName, tgTup, tgCons, tgNil, ↓masg, ↓mpar2, stPar2, isiD, dTy, isiInt, isiBl, isiLst, isiTup, isiObj, or2, ↓mvarF, ↓mchain, ↓mop2, dAddX, dAddS, ↓mrev, lstD, ↓mrevA, ↓mpar3, stPar3, List.findIdx?_cons, List.findIdx?_nil, ↓mcall, ↓mmake, ↓mmth, ↓chk, ↓mbop, ↓mneg1, ↓chkT, ↓kB, ↓mceq, ↓mcalO, ↓mzip, zipD, ↓mrevT, revTD, ↓tgSet, ↓mpar2L, ↓mpar2Q, stPar2Q, ↓mceqO, ↓chkO, ↓mxt, ↓mseti, ↓menum, ↓mappend, ↓mpop, ↓mmaxd, ↓mstar, ↓mraise, ↓mtry, ↓mxf, e]
  obtain ⟨s', es, n, x, rfl, h0, hn⟩ := for_ok (fi := li__law_bag_1 fu) (tm := tgName 2) (bd := lb__law_bag_1 fu) (fun i s => ∃ n x, s = [.v (.arg (I ns)), .v (.int n), x] ∧ (x.own = false) ∧ (0 : Int) ≤ n ∧ n < 2 ^ (1000 + 21 * i)) hi ⟨131, .no, rfl, rfl, by omega, by decide +kernel⟩ fun j d s hj hP => by
    obtain ⟨n, x, rfl, hx, h0, hn⟩ := hP
    obtain ⟨z, hz, rfl⟩ := I_at hj
    have hjl := (List.getElem?_eq_some_iff.mp hj).1
    rw [I_len] at hjl
    obtain ⟨n', e, h1, h2⟩ := bag_step fu (ns := ns) (x := .no) (i := j) (bits_bd (hb z (mem_cutD (List.mem_of_getElem? hz)))) h0 hn (by omega)
    refine ⟨_, _, ?_, e, n', _, rfl, rfl, h1, h2⟩
    simp [tgName, hx]
  have el : l__law_bag_1 fu [.v (.arg (I ns)), .v (.int 131), .no] = .nx [.v (.arg (I ns)), .v (.int n), x] := es
  have hm := mod_small n (m := 998244353) (by decide)
  refine ⟨I [n, 0, n % 998244353], ?_, n, 0, n % 998244353, rfl, by omega, by omega, hm.1, hm.2⟩
  simp [d__law_bag, b__law_bag, ↓fnD, ↓ms, ↓mseq, ↓mbind, ↓mret, ↓mopt, ↓mbad, ↓mvar, ↓res, ↓strong, strongs, ress, ↓mun, ↓mbin, ↓mbinR, ↓mcb, ↓mcons, ↓mcond, ↓mif, ↓mandV, ↓morV, ↓mnotV, ↓tob, truD, ↓mfld, fldD, putO, ↓mputf, ↓stSet, ↓stSetP, ↓mfrz, ↓mlst, ↓mtup, ↓mslice, ↓mpart, intD, dSl, on1, on2, lenD, absD, TW.intOf, TW.listOf, TW.tupOf, dInt2, dCmp2, dNeg, dIx, dIsN, dNotN, D.isNon, dupFree, argsOf, argOf, Sl.some?, putBack, Opd.isS, Sl.own, Rv.sl, Rv.d, ↓mwalk, walkD, itemsD, ↓mrng, rng1, rng2, rng3, tgName, tgTup, tgCons, tgNil, ↓masg, ↓mpar2, stPar2, isiD, dTy, isiInt, isiBl, isiLst, isiTup, isiObj, or2, ↓mvarF, ↓mchain, ↓mop2, dAddX, dAddS, ↓mrev, lstD, ↓mrevA, ↓mpar3, stPar3, List.findIdx?_cons, List.findIdx?_nil, ↓mcall, ↓mmake, ↓mmth, ↓chk, ↓mbop, ↓mneg1, ↓chkT, ↓kB, ↓mceq, ↓mcalO, ↓mzip, zipD, ↓mrevT, revTD, ↓tgSet, ↓mpar2L, ↓mpar2Q, stPar2Q, ↓mceqO, ↓chkO, ↓mxt, ↓mseti, ↓menum, ↓mappend, ↓mpop, ↓mmaxd, ↓mstar, ↓mraise, ↓mtry, ↓mxf, el, TW.intOf]
end K00

set_option linter.all false
set_option autoImplicit false
set_option maxRecDepth 100000
set_option maxHeartbeats 4000000
namespace K00
open PySem TW L2 TK
/-- what is drawn as a field -/
def fld (d : D) : Prop := noQ d = true ∧ slfN ecB d = true
theorem str_short : ∀ n : Fin 50, ((("web" : Str).length + (Str.ofString (((n : Nat) : Int)).repr).length) ≤ 100000) := by decide +kernel
theorem field_ok (fu : Nat) {K : Nat} {b : List D} (h : Bg K b) (hK : K < 999000) : ∃ d b', d__law_field fu [.l b] = .ret (.v d) [.l b'] ∧ fld d ∧ Bg (K + 3) b' := by
  obtain ⟨w, b1, e1, w0, w1, hb1⟩ := pull_ok fu (k := 11) h (by omega) (by decide) (by decide +kernel)
  obtain ⟨x, b2, e2, x0, x1, hb2⟩ := pull_ok fu (k := 10000000000000000000000) hb1 (by omega) (by decide) (by decide +kernel)
  obtain ⟨z, b3, e3, z0, z1, hb3⟩ := pull_ok fu (k := 50) hb2 (by omega) (by decide) (by decide +kernel)
  have hz : ∃ n : Fin 50, z = ((n : Nat) : Int) := ⟨⟨z.toNat, by omega⟩, by simp; omega⟩
  have hl : z.natAbs.log2 < 1920 := by
    have : bd 6 z := by unfold bd; omega
    have := this.log; omega
  have hs : (("web" : Str).length + (Str.ofString z.repr).length) ≤ 100000 := by obtain ⟨n, rfl⟩ := hz; exact str_short n
  have ha : dAddX (.str "web") (.str (Str.ofString z.repr)) = some (.str (("web" : Str) ++ (Str.ofString z.repr))) := if_pos hs
  have hst : strOf (.int z) = some (.v (.str (Str.ofString z.repr))) := if_pos hl
  have q3 := dEqS_int w 6
  have q4 := dEqS_int w 7
  have q5 := dEqS_int w 8
  have q6 := dEqS_int w 9
  have st1 : st__law_field_1 fu [.l b, .no, .no, .no] = .nx [.l b3, .v (.int w), .v (.int (x - 1000000000000000000000)), .v (.int z)] := by
    simp [st__law_field_1, ↓fnD, ↓ms, ↓mseq, ↓mbind, ↓mret, ↓mopt, ↓mbad, ↓mvar, ↓res, ↓strong, strongs, ress, ↓mun, ↓mbin, ↓mbinR, ↓mcb, ↓mcons, ↓mcond, ↓mif, ↓mandV, ↓morV, ↓mnotV, ↓tob, truD, ↓mfld, fldD, putO, ↓mputf, ↓stSet, ↓stSetP, ↓mfrz, ↓mlst, ↓mtup, ↓mslice, ↓mpart, intD, dSl, on1, on2, lenD, absD, TW.intOf, TW.listOf, TW.tupOf, dInt2, dCmp2, dNeg, dIx, dIsN, dNotN, D.isNon, dupFree, argsOf, argOf, Sl.some?, putBack, Opd.isS, Sl.own, Rv.sl, Rv.d, ↓mwalk, walkD, itemsD, ↓mrng, rng1, rng2, rng3, tgName, tgTup, tgCons, tgNil, ↓masg, ↓mpar2, stPar2, isiD, dTy, isiInt, isiBl, isiLst, isiTup, isiObj, or2, ↓mvarF, ↓mchain, ↓mop2, dAddX, dAddS, ↓mrev, lstD, ↓mrevA, ↓mpar3, stPar3, List.findIdx?_cons, List.findIdx?_nil, ↓mcall, ↓mmake, ↓mmth, ↓chk, ↓mbop, ↓mneg1, ↓chkT, ↓kB, ↓mceq, ↓mcalO, ↓mzip, zipD, ↓mrevT, revTD, ↓tgSet, ↓mpar2L, ↓mpar2Q, stPar2Q, ↓mceqO, ↓chkO, ↓mxt, ↓mseti, ↓menum, ↓mappend, ↓mpop, ↓mmaxd, ↓mstar, ↓mraise, ↓mtry, ↓mxf, e1, e2, e3]
  have hw : w = 0 ∨ w = 1 ∨ w = 2 ∨ w = 3 ∨ w = 4 ∨ w = 5 ∨ w = 6 ∨ w = 7 ∨ w = 8 ∨ w = 9 ∨ w = 10 := by omega
  have hb4 : Bg (K + 3) b3 := hb3
  have run : ∀ (r : D) (s' : S), mseq (st__law_field_2 fu) (mseq (st__law_field_3 fu) (mseq (st__law_field_4 fu) (mseq (st__law_field_5 fu) (mseq (st__law_field_6 fu) (st__law_field_7 fu))))) [.l b3, .v (.int w), .v (.int (x - 1000000000000000000000)), .v (.int z)] = .rt (.v r) ([.l b3] ++ s') → d__law_field fu [.l b] = .ret (.v r) [.l b3] := fun r s' e => by
    unfold d__law_field fnD b__law_field
    rw [if_pos (show [Sl.l b].length = 1 from rfl)]
    have e' : mseq (st__law_field_1 fu) (mseq (st__law_field_2 fu) (mseq (st__law_field_3 fu) (mseq (st__law_field_4 fu) (mseq (st__law_field_5 fu) (mseq (st__law_field_6 fu) (st__law_field_7 fu)))))) ([Sl.l b] ++ List.replicate (4 - 1) Sl.no) = .rt (.v r) ([.l b3] ++ s') := (seq_nx st1).trans e
    rw [e']
    rfl
  rcases hw with rfl | rfl | rfl | rfl | rfl | rfl | rfl | rfl | rfl | rfl | rfl
  · refine ⟨.int (x - 1000000000000000000000), b3, run _ [.v (.int 0), .v (.int (x - 1000000000000000000000)), .v (.int z)] ?_, ⟨rfl, rfl⟩, hb4⟩
    simp [↓mseq, st__law_field_2, ↓fnD, ↓ms, ↓mseq, ↓mbind, ↓mret, ↓mopt, ↓mbad, ↓mvar, ↓res, ↓strong, strongs, ress, ↓mun, ↓mbin, ↓mbinR, ↓mcb, ↓mcons, ↓mcond, ↓mif, ↓mandV, ↓morV, ↓mnotV, ↓tob, truD, ↓mfld, fldD, putO, ↓mputf, ↓stSet, ↓stSetP, ↓mfrz, ↓mlst, ↓mtup, ↓mslice, ↓mpart, intD, dSl, on1, on2, lenD, absD, TW.intOf, TW.listOf, TW.tupOf, dInt2, dCmp2, dNeg, dIx, dIsN, dNotN, D.isNon, dupFree, argsOf, argOf, Sl.some?, putBack, Opd.isS, Sl.own, Rv.sl, Rv.d, ↓mwalk, walkD, itemsD, ↓mrng, rng1, rng2, rng3, tgName, tgTup, tgCons, tgNil, ↓masg, ↓mpar2, stPar2, isiD, dTy, isiInt, isiBl, isiLst, isiTup, isiObj, or2, ↓mvarF, ↓mchain, ↓mop2, dAddX, dAddS, ↓mrev, lstD, ↓mrevA, ↓mpar3, stPar3, List.findIdx?_cons, List.findIdx?_nil, ↓mcall, ↓mmake, ↓mmth, ↓chk, ↓mbop, ↓mneg1, ↓chkT, ↓kB, ↓mceq, ↓mcalO, ↓mzip, zipD, ↓mrevT, revTD, ↓tgSet, ↓mpar2L, ↓mpar2Q, stPar2Q, ↓mceqO, ↓chkO, ↓mxt, ↓mseti, ↓menum, ↓mappend, ↓mpop, ↓mmaxd, ↓mstar, ↓mraise, ↓mtry, ↓mxf, atI, ixN, strOf, hl, hs, dAddS, mdctL, ↓merr, q3, q4, q5, q6]
  · refine ⟨.int z, b3, run _ [.v (.int 1), .v (.int (x - 1000000000000000000000)), .v (.int z)] ?_, ⟨rfl, rfl⟩, hb4⟩
    simp [↓mseq, st__law_field_2, ↓fnD, ↓ms, ↓mseq, ↓mbind, ↓mret, ↓mopt, ↓mbad, ↓mvar, ↓res, ↓strong, strongs, ress, ↓mun, ↓mbin, ↓mbinR, ↓mcb, ↓mcons, ↓mcond, ↓mif, ↓mandV, ↓morV, ↓mnotV, ↓tob, truD, ↓mfld, fldD, putO, ↓mputf, ↓stSet, ↓stSetP, ↓mfrz, ↓mlst, ↓mtup, ↓mslice, ↓mpart, intD, dSl, on1, on2, lenD, absD, TW.intOf, TW.listOf, TW.tupOf, dInt2, dCmp2, dNeg, dIx, dIsN, dNotN, D.isNon, dupFree, argsOf, argOf, Sl.some?, putBack, Opd.isS, Sl.own, Rv.sl, Rv.d, ↓mwalk, walkD, itemsD, ↓mrng, rng1, rng2, rng3, tgName, tgTup, tgCons, tgNil, ↓masg, ↓mpar2, stPar2, isiD, dTy, isiInt, isiBl, isiLst, isiTup, isiObj, or2, ↓mvarF, ↓mchain, ↓mop2, dAddX, dAddS, ↓mrev, lstD, ↓mrevA, ↓mpar3, stPar3, List.findIdx?_cons, List.findIdx?_nil, ↓mcall, ↓mmake, ↓mmth, ↓chk, ↓mbop, ↓mneg1, ↓chkT, ↓kB, ↓mceq, ↓mcalO, ↓mzip, zipD, ↓mrevT, revTD, ↓tgSet, ↓mpar2L, ↓mpar2Q, stPar2Q, ↓mceqO, ↓chkO, ↓mxt, ↓mseti, ↓menum, ↓mappend, ↓mpop, ↓mmaxd, ↓mstar, ↓mraise, ↓mtry, ↓mxf, atI, ixN, strOf, hl, hs, dAddS, mdctL, ↓merr, q3, q4, q5, q6]
  · refine ⟨.int (-z), b3, run _ [.v (.int 2), .v (.int (x - 1000000000000000000000)), .v (.int z)] ?_, ⟨rfl, rfl⟩, hb4⟩
    simp [↓mseq, st__law_field_2, ↓fnD, ↓ms, ↓mseq, ↓mbind, ↓mret, ↓mopt, ↓mbad, ↓mvar, ↓res, ↓strong, strongs, ress, ↓mun, ↓mbin, ↓mbinR, ↓mcb, ↓mcons, ↓mcond, ↓mif, ↓mandV, ↓morV, ↓mnotV, ↓tob, truD, ↓mfld, fldD, putO, ↓mputf, ↓stSet, ↓stSetP, ↓mfrz, ↓mlst, ↓mtup, ↓mslice, ↓mpart, intD, dSl, on1, on2, lenD, absD, TW.intOf, TW.listOf, TW.tupOf, dInt2, dCmp2, dNeg, dIx, dIsN, dNotN, D.isNon, dupFree, argsOf, argOf, Sl.some?, putBack, Opd.isS, Sl.own, Rv.sl, Rv.d, ↓mwalk, walkD, itemsD, ↓mrng, rng1, rng2, rng3, tgName, tgTup, tgCons, tgNil, ↓masg, ↓mpar2, stPar2, isiD, dTy, isiInt, isiBl, isiLst, isiTup, isiObj, or2, ↓mvarF, ↓mchain, ↓mop2, dAddX, dAddS, ↓mrev, lstD, ↓mrevA, ↓mpar3, stPar3, List.findIdx?_cons, List.findIdx?_nil, ↓mcall, ↓mmake, ↓mmth, ↓chk, ↓mbop, ↓mneg1, ↓chkT, ↓kB, ↓mceq, ↓mcalO, ↓mzip, zipD, ↓mrevT, revTD, ↓tgSet, ↓mpar2L, ↓mpar2Q, stPar2Q, ↓mceqO, ↓chkO, ↓mxt, ↓mseti, ↓menum, ↓mappend, ↓mpop, ↓mmaxd, ↓mstar, ↓mraise, ↓mtry, ↓mxf, atI, ixN, strOf, hl, hs, dAddS, mdctL, ↓merr, q3, q4, q5, q6]
  · refine ⟨.str (("web" : Str) ++ (Str.ofString z.repr)), b3, run _ [.v (.int 3), .v (.int (x - 1000000000000000000000)), .v (.int z)] ?_, ⟨rfl, rfl⟩, hb4⟩
    simp [↓mseq, st__law_field_2, st__law_field_3, ↓fnD, ↓ms, ↓mseq, ↓mbind, ↓mret, ↓mopt, ↓mbad, ↓mvar, ↓res, ↓strong, strongs, ress, ↓mun, ↓mbin, ↓mbinR, ↓mcb, ↓mcons, ↓mcond, ↓mif, ↓mandV, ↓morV, ↓mnotV, ↓tob, truD, ↓mfld, fldD, putO, ↓mputf, ↓stSet, ↓stSetP, ↓mfrz, ↓mlst, ↓mtup, ↓mslice, ↓mpart, intD, dSl, on1, on2, lenD, absD, TW.intOf, TW.listOf, TW.tupOf, dInt2, dCmp2, dNeg, dIx, dIsN, dNotN, D.isNon, dupFree, argsOf, argOf, Sl.some?, putBack, Opd.isS, Sl.own, Rv.sl, Rv.d, ↓mwalk, walkD, itemsD, ↓mrng, rng1, rng2, rng3, tgName, tgTup, tgCons, tgNil, ↓masg, ↓mpar2, stPar2, isiD, dTy, isiInt, isiBl, isiLst, isiTup, isiObj, or2, ↓mvarF, ↓mchain, ↓mop2, ↓mrev, lstD, ↓mrevA, ↓mpar3, stPar3, List.findIdx?_cons, List.findIdx?_nil, ↓mcall, ↓mmake, ↓mmth, ↓chk, ↓mbop, ↓mneg1, ↓chkT, ↓kB, ↓mceq, ↓mcalO, ↓mzip, zipD, ↓mrevT, revTD, ↓tgSet, ↓mpar2L, ↓mpar2Q, stPar2Q, ↓mceqO, ↓chkO, ↓mxt, ↓mseti, ↓menum, ↓mappend, ↓mpop, ↓mmaxd, ↓mstar, ↓mraise, ↓mtry, ↓mxf, atI, ixN, hst, ha, mdctL, ↓merr, q3, q4, q5, q6]
  · refine ⟨.str "", b3, run _ [.v (.int 4), .v (.int (x - 1000000000000000000000)), .v (.int z)] ?_, ⟨rfl, rfl⟩, hb4⟩
    simp [↓mseq, st__law_field_2, st__law_field_3, ↓fnD, ↓ms, ↓mseq, ↓mbind, ↓mret, ↓mopt, ↓mbad, ↓mvar, ↓res, ↓strong, strongs, ress, ↓mun, ↓mbin, ↓mbinR, ↓mcb, ↓mcons, ↓mcond, ↓mif, ↓mandV, ↓morV, ↓mnotV, ↓tob, truD, ↓mfld, fldD, putO, ↓mputf, ↓stSet, ↓stSetP, ↓mfrz, ↓mlst, ↓mtup, ↓mslice, ↓mpart, intD, dSl, on1, on2, lenD, absD, TW.intOf, TW.listOf, TW.tupOf, dInt2, dCmp2, dNeg, dIx, dIsN, dNotN, D.isNon, dupFree, argsOf, argOf, Sl.some?, putBack, Opd.isS, Sl.own, Rv.sl, Rv.d, ↓mwalk, walkD, itemsD, ↓mrng, rng1, rng2, rng3, tgName, tgTup, tgCons, tgNil, ↓masg, ↓mpar2, stPar2, isiD, dTy, isiInt, isiBl, isiLst, isiTup, isiObj, or2, ↓mvarF, ↓mchain, ↓mop2, ↓mrev, lstD, ↓mrevA, ↓mpar3, stPar3, List.findIdx?_cons, List.findIdx?_nil, ↓mcall, ↓mmake, ↓mmth, ↓chk, ↓mbop, ↓mneg1, ↓chkT, ↓kB, ↓mceq, ↓mcalO, ↓mzip, zipD, ↓mrevT, revTD, ↓tgSet, ↓mpar2L, ↓mpar2Q, stPar2Q, ↓mceqO, ↓chkO, ↓mxt, ↓mseti, ↓menum, ↓mappend, ↓mpop, ↓mmaxd, ↓mstar, ↓mraise, ↓mtry, ↓mxf, atI, ixN, hst, ha, mdctL, ↓merr, q3, q4, q5, q6]
  · refine ⟨.non, b3, run _ [.v (.int 5), .v (.int (x - 1000000000000000000000)), .v (.int z)] ?_, ⟨rfl, rfl⟩, hb4⟩
    simp [↓mseq, st__law_field_2, st__law_field_3, ↓fnD, ↓ms, ↓mseq, ↓mbind, ↓mret, ↓mopt, ↓mbad, ↓mvar, ↓res, ↓strong, strongs, ress, ↓mun, ↓mbin, ↓mbinR, ↓mcb, ↓mcons, ↓mcond, ↓mif, ↓mandV, ↓morV, ↓mnotV, ↓tob, truD, ↓mfld, fldD, putO, ↓mputf, ↓stSet, ↓stSetP, ↓mfrz, ↓mlst, ↓mtup, ↓mslice, ↓mpart, intD, dSl, on1, on2, lenD, absD, TW.intOf, TW.listOf, TW.tupOf, dInt2, dCmp2, dNeg, dIx, dIsN, dNotN, D.isNon, dupFree, argsOf, argOf, Sl.some?, putBack, Opd.isS, Sl.own, Rv.sl, Rv.d, ↓mwalk, walkD, itemsD, ↓mrng, rng1, rng2, rng3, tgName, tgTup, tgCons, tgNil, ↓masg, ↓mpar2, stPar2, isiD, dTy, isiInt, isiBl, isiLst, isiTup, isiObj, or2, ↓mvarF, ↓mchain, ↓mop2, ↓mrev, lstD, ↓mrevA, ↓mpar3, stPar3, List.findIdx?_cons, List.findIdx?_nil, ↓mcall, ↓mmake, ↓mmth, ↓chk, ↓mbop, ↓mneg1, ↓chkT, ↓kB, ↓mceq, ↓mcalO, ↓mzip, zipD, ↓mrevT, revTD, ↓tgSet, ↓mpar2L, ↓mpar2Q, stPar2Q, ↓mceqO, ↓chkO, ↓mxt, ↓mseti, ↓menum, ↓mappend, ↓mpop, ↓mmaxd, ↓mstar, ↓mraise, ↓mtry, ↓mxf, atI, ixN, hst, ha, mdctL, ↓merr, q3, q4, q5, q6]
  · refine ⟨.bl (decide (z < 25)), b3, run _ [.v (.int 6), .v (.int (x - 1000000000000000000000)), .v (.int z)] ?_, ⟨rfl, rfl⟩, hb4⟩
    simp [↓mseq, st__law_field_2, st__law_field_3, st__law_field_4, ↓fnD, ↓ms, ↓mseq, ↓mbind, ↓mret, ↓mopt, ↓mbad, ↓mvar, ↓res, ↓strong, strongs, ress, ↓mun, ↓mbin, ↓mbinR, ↓mcb, ↓mcons, ↓mcond, ↓mif, ↓mandV, ↓morV, ↓mnotV, ↓tob, truD, ↓mfld, fldD, putO, ↓mputf, ↓stSet, ↓stSetP, ↓mfrz, ↓mlst, ↓mtup, ↓mslice, ↓mpart, intD, dSl, on1, on2, lenD, absD, TW.intOf, TW.listOf, TW.tupOf, dInt2, dCmp2, dNeg, dIx, dIsN, dNotN, D.isNon, dupFree, argsOf, argOf, Sl.some?, putBack, Opd.isS, Sl.own, Rv.sl, Rv.d, ↓mwalk, walkD, itemsD, ↓mrng, rng1, rng2, rng3, tgName, tgTup, tgCons, tgNil, ↓masg, ↓mpar2, stPar2, isiD, dTy, isiInt, isiBl, isiLst, isiTup, isiObj, or2, ↓mvarF, ↓mchain, ↓mop2, dAddX, dAddS, ↓mrev, lstD, ↓mrevA, ↓mpar3, stPar3, List.findIdx?_cons, List.findIdx?_nil, ↓mcall, ↓mmake, ↓mmth, ↓chk, ↓mbop, ↓mneg1, ↓chkT, ↓kB, ↓mceq, ↓mcalO, ↓mzip, zipD, ↓mrevT, revTD, ↓tgSet, ↓mpar2L, ↓mpar2Q, stPar2Q, ↓mceqO, ↓chkO, ↓mxt, ↓mseti, ↓menum, ↓mappend, ↓mpop, ↓mmaxd, ↓mstar, ↓mraise, ↓mtry, ↓mxf, atI, ixN, strOf, hl, hs, dAddS, mdctL, ↓merr, q3, q4, q5, q6]
  · refine ⟨.lst [.int z, .lst [.int (x - 1000000000000000000000), .non], .str "a"], b3, run _ [.v (.int 7), .v (.int (x - 1000000000000000000000)), .v (.int z)] ?_, ⟨rfl, rfl⟩, hb4⟩
    simp [↓mseq, st__law_field_2, st__law_field_3, st__law_field_4, st__law_field_5, ↓fnD, ↓ms, ↓mseq, ↓mbind, ↓mret, ↓mopt, ↓mbad, ↓mvar, ↓res, ↓strong, strongs, ress, ↓mun, ↓mbin, ↓mbinR, ↓mcb, ↓mcons, ↓mcond, ↓mif, ↓mandV, ↓morV, ↓mnotV, ↓tob, truD, ↓mfld, fldD, putO, ↓mputf, ↓stSet, ↓stSetP, ↓mfrz, ↓mlst, ↓mtup, ↓mslice, ↓mpart, intD, dSl, on1, on2, lenD, absD, TW.intOf, TW.listOf, TW.tupOf, dInt2, dCmp2, dNeg, dIx, dIsN, dNotN, D.isNon, dupFree, argsOf, argOf, Sl.some?, putBack, Opd.isS, Sl.own, Rv.sl, Rv.d, ↓mwalk, walkD, itemsD, ↓mrng, rng1, rng2, rng3, tgName, tgTup, tgCons, tgNil, ↓masg, ↓mpar2, stPar2, isiD, dTy, isiInt, isiBl, isiLst, isiTup, isiObj, or2, ↓mvarF, ↓mchain, ↓mop2, dAddX, dAddS, ↓mrev, lstD, ↓mrevA, ↓mpar3, stPar3, List.findIdx?_cons, List.findIdx?_nil, ↓mcall, ↓mmake, ↓mmth, ↓chk, ↓mbop, ↓mneg1, ↓chkT, ↓kB, ↓mceq, ↓mcalO, ↓mzip, zipD, ↓mrevT, revTD, ↓tgSet, ↓mpar2L, ↓mpar2Q, stPar2Q, ↓mceqO, ↓chkO, ↓mxt, ↓mseti, ↓menum, ↓mappend, ↓mpop, ↓mmaxd, ↓mstar, ↓mraise, ↓mtry, ↓mxf, atI, ixN, strOf, hl, hs, dAddS, mdctL, ↓merr, q3, q4, q5, q6]
  · refine ⟨.tup [.int (x - 1000000000000000000000), .tup [.int z, .lst []]], b3, run _ [.v (.int 8), .v (.int (x - 1000000000000000000000)), .v (.int z)] ?_, ⟨rfl, rfl⟩, hb4⟩
    simp [↓mseq, st__law_field_2, st__law_field_3, st__law_field_4, st__law_field_5, st__law_field_6, ↓fnD, ↓ms, ↓mseq, ↓mbind, ↓mret, ↓mopt, ↓mbad, ↓mvar, ↓res, ↓strong, strongs, ress, ↓mun, ↓mbin, ↓mbinR, ↓mcb, ↓mcons, ↓mcond, ↓mif, ↓mandV, ↓morV, ↓mnotV, ↓tob, truD, ↓mfld, fldD, putO, ↓mputf, ↓stSet, ↓stSetP, ↓mfrz, ↓mlst, ↓mtup, ↓mslice, ↓mpart, intD, dSl, on1, on2, lenD, absD, TW.intOf, TW.listOf, TW.tupOf, dInt2, dCmp2, dNeg, dIx, dIsN, dNotN, D.isNon, dupFree, argsOf, argOf, Sl.some?, putBack, Opd.isS, Sl.own, Rv.sl, Rv.d, ↓mwalk, walkD, itemsD, ↓mrng, rng1, rng2, rng3, tgName, tgTup, tgCons, tgNil, ↓masg, ↓mpar2, stPar2, isiD, dTy, isiInt, isiBl, isiLst, isiTup, isiObj, or2, ↓mvarF, ↓mchain, ↓mop2, dAddX, dAddS, ↓mrev, lstD, ↓mrevA, ↓mpar3, stPar3, List.findIdx?_cons, List.findIdx?_nil, ↓mcall, ↓mmake, ↓mmth, ↓chk, ↓mbop, ↓mneg1, ↓chkT, ↓kB, ↓mceq, ↓mcalO, ↓mzip, zipD, ↓mrevT, revTD, ↓tgSet, ↓mpar2L, ↓mpar2Q, stPar2Q, ↓mceqO, ↓chkO, ↓mxt, ↓mseti, ↓menum, ↓mappend, ↓mpop, ↓mmaxd, ↓mstar, ↓mraise, ↓mtry, ↓mxf, atI, ixN, strOf, hl, hs, dAddS, mdctL, ↓merr, q3, q4, q5, q6]
  · refine ⟨.dct, b3, run _ [.v (.int 9), .v (.int (x - 1000000000000000000000)), .v (.int z)] ?_, ⟨rfl, rfl⟩, hb4⟩
    simp [↓mseq, st__law_field_2, st__law_field_3, st__law_field_4, st__law_field_5, st__law_field_6, st__law_field_7, ↓fnD, ↓ms, ↓mseq, ↓mbind, ↓mret, ↓mopt, ↓mbad, ↓mvar, ↓res, ↓strong, strongs, ress, ↓mun, ↓mbin, ↓mbinR, ↓mcb, ↓mcons, ↓mcond, ↓mif, ↓mandV, ↓morV, ↓mnotV, ↓tob, truD, ↓mfld, fldD, putO, ↓mputf, ↓stSet, ↓stSetP, ↓mfrz, ↓mlst, ↓mtup, ↓mslice, ↓mpart, intD, dSl, on1, on2, lenD, absD, TW.intOf, TW.listOf, TW.tupOf, dInt2, dCmp2, dNeg, dIx, dIsN, dNotN, D.isNon, dupFree, argsOf, argOf, Sl.some?, putBack, Opd.isS, Sl.own, Rv.sl, Rv.d, ↓mwalk, walkD, itemsD, ↓mrng, rng1, rng2, rng3, tgName, tgTup, tgCons, tgNil, ↓masg, ↓mpar2, stPar2, isiD, dTy, isiInt, isiBl, isiLst, isiTup, isiObj, or2, ↓mvarF, ↓mchain, ↓mop2, dAddX, dAddS, ↓mrev, lstD, ↓mrevA, ↓mpar3, stPar3, List.findIdx?_cons, List.findIdx?_nil, ↓mcall, ↓mmake, ↓mmth, ↓chk, ↓mbop, ↓mneg1, ↓chkT, ↓kB, ↓mceq, ↓mcalO, ↓mzip, zipD, ↓mrevT, revTD, ↓tgSet, ↓mpar2L, ↓mpar2Q, stPar2Q, ↓mceqO, ↓chkO, ↓mxt, ↓mseti, ↓menum, ↓mappend, ↓mpop, ↓mmaxd, ↓mstar, ↓mraise, ↓mtry, ↓mxf, atI, ixN, strOf, hl, hs, dAddS, mdctL, ↓merr, q3, q4, q5, q6]
  · refine ⟨.err 113 [.int z], b3, run _ [.v (.int 10), .v (.int (x - 1000000000000000000000)), .v (.int z)] ?_, ⟨rfl, rfl⟩, hb4⟩
    simp [↓mseq, st__law_field_2, st__law_field_3, st__law_field_4, st__law_field_5, st__law_field_6, st__law_field_7, ↓fnD, ↓ms, ↓mseq, ↓mbind, ↓mret, ↓mopt, ↓mbad, ↓mvar, ↓res, ↓strong, strongs, ress, ↓mun, ↓mbin, ↓mbinR, ↓mcb, ↓mcons, ↓mcond, ↓mif, ↓mandV, ↓morV, ↓mnotV, ↓tob, truD, ↓mfld, fldD, putO, ↓mputf, ↓stSet, ↓stSetP, ↓mfrz, ↓mlst, ↓mtup, ↓mslice, ↓mpart, intD, dSl, on1, on2, lenD, absD, TW.intOf, TW.listOf, TW.tupOf, dInt2, dCmp2, dNeg, dIx, dIsN, dNotN, D.isNon, dupFree, argsOf, argOf, Sl.some?, putBack, Opd.isS, Sl.own, Rv.sl, Rv.d, ↓mwalk, walkD, itemsD, ↓mrng, rng1, rng2, rng3, tgName, tgTup, tgCons, tgNil, ↓masg, ↓mpar2, stPar2, isiD, dTy, isiInt, isiBl, isiLst, isiTup, isiObj, or2, ↓mvarF, ↓mchain, ↓mop2, dAddX, dAddS, ↓mrev, lstD, ↓mrevA, ↓mpar3, stPar3, List.findIdx?_cons, List.findIdx?_nil, ↓mcall, ↓mmake, ↓mmth, ↓chk, ↓mbop, ↓mneg1, ↓chkT, ↓kB, ↓mceq, ↓mcalO, ↓mzip, zipD, ↓mrevT, revTD, ↓tgSet, ↓mpar2L, ↓mpar2Q, stPar2Q, ↓mceqO, ↓chkO, ↓mxt, ↓mseti, ↓menum, ↓mappend, ↓mpop, ↓mmaxd, ↓mstar, ↓mraise, ↓mtry, ↓mxf, atI, ixN, strOf, hl, hs, dAddS, mdctL, ↓merr, q3, q4, q5, q6]
end K00

set_option linter.all false
set_option autoImplicit false
set_option maxRecDepth 100000
set_option maxHeartbeats 4000000
namespace K00
open PySem TW L2 TK
/-- what is asked of the two fields -/
def rst (fu : Nat) : MS :=
    (mseq (mcond (mif (mbind (mbind (mbind (mbind (mcall (d__law_single_right fu) [] (mcons (mvar 3) (mcons (mvar 4) (mret [])))) fun r => mret (Rv.d r)) fun d => mret (Opd.d d)) fun o => mbind (res o) fun d => mopt (truD d)) fun b => mret (!b)) (mret true) (mif (mbind (mbind (mbind (mbind (mcall (d__law_double_right fu) [] (mcons (mvar 3) (mcons (mvar 4) (mret [])))) fun r => mret (Rv.d r)) fun d => mret (Opd.d d)) fun o => mbind (res o) fun d => mopt (truD d)) fun b => mret (!b)) (mret true) (mbind (mbind (mbind (mbind (mcall (d__law_double_right fu) [] (mcons (mvar 4) (mcons (mvar 3) (mret [])))) fun r => mret (Rv.d r)) fun d => mret (Opd.d d)) fun o => mbind (res o) fun d => mopt (truD d)) fun b => mret (!b)))) (ms (mbind (mret (D.bl false)) fun d => mret (Rv.v d)) fun r s => OutS.rt r s) (fun s => OutS.nx s))
    (mcond (mbind (mbin dNeS (mbind (mbind (c_law_1 fu) fun r => mret (Rv.d r)) fun d => mret (Opd.d d)) (mbind (mbind (mlst (mcons (mbind (mtup (mcons (mbind (mret (D.str "missing")) fun d => mret (Opd.d d)) (mcons (mvar 3) (mret [])))) fun d => mret (Opd.d d)) (mcons (mbind (mtup (mcons (mbind (mret (D.str "twice")) fun d => mret (Opd.d d)) (mcons (mvar 3) (mret [])))) fun d => mret (Opd.d d)) (mcons (mbind (mtup (mcons (mbind (mret (D.str "thin")) fun d => mret (Opd.d d)) (mcons (mvar 3) (mret [])))) fun d => mret (Opd.d d)) (mret []))))) fun r => mret (Rv.d r)) fun d => mret (Opd.d d))) tob) (ms (mbind (mret (D.bl false)) fun d => mret (Rv.v d)) fun r s => OutS.rt r s) (fun s => OutS.nx s)))
theorem cmp_ok {fu : Nat} {a b : D} {x0 x1 x2 : Sl} (h0 : d__law_caught fu [.v (.int 0), .v a] = .ret (.v (.tup [.str "missing", a])) [.v (.int 0), .v a])
    (h1 : d__law_caught fu [.v (.int 1), .v a] = .ret (.v (.tup [.str "twice", a])) [.v (.int 1), .v a]) (h2 : d__law_caught fu [.v (.int 2), .v a] = .ret (.v (.tup [.str "thin", a])) [.v (.int 2), .v a]) :
    c_law_1 fu [x0, x1, x2, .v a, .v b, .no] = .ok (.l [.tup [.str "missing", a], .tup [.str "twice", a], .tup [.str "thin", a]]) [x0, x1, x2, .v a, .v b, .no] := by
  have ok3 : okR 3 = true := by kernel_rfl
  simp [ok3, c_law_1, ci_law_1, ct_law_1, ce_law_1, mlc, compD, plainS, wipeS, restoreS, rangeD, List.range, List.range.loop, ↓fnD, ↓ms, ↓mseq, ↓mbind, ↓mret, ↓mopt, ↓mbad, ↓mvar, ↓res, ↓strong, strongs, ress, ↓mun, ↓mbin, ↓mbinR, ↓mcb, ↓mcons, ↓mcond, ↓mif, ↓mandV, ↓morV, ↓mnotV, ↓tob, truD, ↓mfld, fldD, putO, ↓mputf, ↓stSet, ↓stSetP, ↓mfrz, ↓mlst, ↓mtup, ↓mslice, ↓mpart, intD, dSl, on1, on2, lenD, absD, TW.intOf, TW.listOf, TW.tupOf, dInt2, dCmp2, dNeg, dIx, dIsN, dNotN, D.isNon, dupFree, argsOf, argOf, Sl.some?, putBack, Opd.isS, Sl.own, Rv.sl, Rv.d, ↓mwalk, walkD, itemsD, ↓mrng, rng1, rng2, rng3, tgName, tgTup, tgCons, tgNil, ↓masg, ↓mpar2, stPar2, isiD, dTy, isiInt, isiBl, isiLst, isiTup, isiObj, or2, ↓mvarF, ↓mchain, ↓mop2, dAddX, dAddS, ↓mrev, lstD, ↓mrevA, ↓mpar3, stPar3, List.findIdx?_cons, List.findIdx?_nil, ↓mcall, ↓mmake, ↓mmth, ↓chk, ↓mbop, ↓mneg1, ↓chkT, ↓kB, ↓mceq, ↓mcalO, ↓mzip, zipD, ↓mrevT, revTD, ↓tgSet, ↓mpar2L, ↓mpar2Q, stPar2Q, ↓mceqO, ↓chkO, ↓mxt, ↓mseti, ↓menum, ↓mappend, ↓mpop, ↓mmaxd, ↓mstar, ↓mraise, ↓mtry, ↓mxf, h0, h1, h2]
theorem rst_ok {fu : Nat} {a b : D} {x0 x1 x2 : Sl} (h0 : d__law_caught fu [.v (.int 0), .v a] = .ret (.v (.tup [.str "missing", a])) [.v (.int 0), .v a])
    (h1 : d__law_caught fu [.v (.int 1), .v a] = .ret (.v (.tup [.str "twice", a])) [.v (.int 1), .v a]) (h2 : d__law_caught fu [.v (.int 2), .v a] = .ret (.v (.tup [.str "thin", a])) [.v (.int 2), .v a])
    (h3 : d__law_single_right fu [.v a, .v b] = .ret (.v (.bl true)) [.v a, .v b]) (h4 : d__law_double_right fu [.v a, .v b] = .ret (.v (.bl true)) [.v a, .v b]) (h5 : d__law_double_right fu [.v b, .v a] = .ret (.v (.bl true)) [.v b, .v a])
    (h6 : dNeS (.lst [.tup [.str "missing", a], .tup [.str "twice", a], .tup [.str "thin", a]]) (.lst [.tup [.str "missing", a], .tup [.str "twice", a], .tup [.str "thin", a]]) = some (.bl false)) :
    rst fu [x0, x1, x2, .v a, .v b, .no] = .nx [x0, x1, x2, .v a, .v b, .no] := by
  have hc := cmp_ok (b := b) (x0 := x0) (x1 := x1) (x2 := x2) h0 h1 h2
  simp [rst, ↓mseq, ↓fnD, ↓ms, ↓mseq, ↓mbind, ↓mret, ↓mopt, ↓mbad, ↓mvar, ↓res, ↓strong, strongs, ress, ↓mun, ↓mbin, ↓mbinR, ↓mcb, ↓mcons, ↓mcond, ↓mif, ↓mandV, ↓morV, ↓mnotV, ↓tob, truD, ↓mfld, fldD, putO, ↓mputf, ↓stSet, ↓stSetP, ↓mfrz, ↓mlst, ↓mtup, ↓mslice, ↓mpart, intD, dSl, on1, on2, lenD, absD, TW.intOf, TW.listOf, TW.tupOf, dInt2, dCmp2, dNeg, dIx, dIsN, dNotN, D.isNon, dupFree, argsOf, argOf, Sl.some?, putBack, Opd.isS, Sl.own, Rv.sl, Rv.d, ↓mwalk, walkD, itemsD, ↓mrng, rng1, rng2, rng3, tgName, tgTup, tgCons, tgNil, ↓masg, ↓mpar2, stPar2, isiD, dTy, isiInt, isiBl, isiLst, isiTup, isiObj, or2, ↓mvarF, ↓mchain, ↓mop2, dAddX, dAddS, ↓mrev, lstD, ↓mrevA, ↓mpar3, stPar3, List.findIdx?_cons, List.findIdx?_nil, ↓mcall, ↓mmake, ↓mmth, ↓chk, ↓mbop, ↓mneg1, ↓chkT, ↓kB, ↓mceq, ↓mcalO, ↓mzip, zipD, ↓mrevT, revTD, ↓tgSet, ↓mpar2L, ↓mpar2Q, stPar2Q, ↓mceqO, ↓chkO, ↓mxt, ↓mseti, ↓menum, ↓mappend, ↓mpop, ↓mmaxd, ↓mstar, ↓mraise, ↓mtry, ↓mxf, h3, h4, h5, hc, h6]
theorem ca0 (fu : Nat) : d__law_caught fu [.v (.int 0), .v (.opq 0)] = .ret (.v (.tup [.str "missing", .opq 0])) [.v (.int 0), .v (.opq 0)] := by kernel_rfl
theorem ca1 (fu : Nat) : d__law_caught fu [.v (.int 1), .v (.opq 0)] = .ret (.v (.tup [.str "twice", .opq 0])) [.v (.int 1), .v (.opq 0)] := by kernel_rfl
theorem ca2 (fu : Nat) : d__law_caught fu [.v (.int 2), .v (.opq 0)] = .ret (.v (.tup [.str "thin", .opq 0])) [.v (.int 2), .v (.opq 0)] := by kernel_rfl
theorem cn0 (fu : Nat) : d__law_caught fu [.v (.int 0), .v .non] = .ret (.v (.tup [.str "missing", .non])) [.v (.int 0), .v .non] := by kernel_rfl
theorem cn1 (fu : Nat) : d__law_caught fu [.v (.int 1), .v .non] = .ret (.v (.tup [.str "twice", .non])) [.v (.int 1), .v .non] := by kernel_rfl
theorem cn2 (fu : Nat) : d__law_caught fu [.v (.int 2), .v .non] = .ret (.v (.tup [.str "thin", .non])) [.v (.int 2), .v .non] := by kernel_rfl
theorem ne0 : dNeS (.lst [.tup [.str "missing", .opq 0], .tup [.str "twice", .opq 0], .tup [.str "thin", .opq 0]]) (.lst [.tup [.str "missing", .opq 0], .tup [.str "twice", .opq 0], .tup [.str "thin", .opq 0]]) = some (.bl false) := by kernel_rfl
theorem ne1 : dNeS (.lst [.tup [.str "missing", .non], .tup [.str "twice", .non], .tup [.str "thin", .non]]) (.lst [.tup [.str "missing", .non], .tup [.str "twice", .non], .tup [.str "thin", .non]]) = some (.bl false) := by kernel_rfl
theorem sr00 (fu : Nat) : d__law_single_right fu [.v (.opq 0), .v (.opq 1)] = .ret (.v (.bl true)) [.v (.opq 0), .v (.opq 1)] := by kernel_rfl
theorem da00 (fu : Nat) : d__law_double_right fu [.v (.opq 0), .v (.opq 1)] = .ret (.v (.bl true)) [.v (.opq 0), .v (.opq 1)] := by kernel_rfl
theorem db00 (fu : Nat) : d__law_double_right fu [.v (.opq 1), .v (.opq 0)] = .ret (.v (.bl true)) [.v (.opq 1), .v (.opq 0)] := by kernel_rfl
theorem rest00 (fu : Nat) (x0 x1 x2 : Sl) : rst fu [x0, x1, x2, .v (.opq 0), .v (.opq 1), .no] = .nx [x0, x1, x2, .v (.opq 0), .v (.opq 1), .no] := rst_ok (ca0 fu) (ca1 fu) (ca2 fu) (sr00 fu) (da00 fu) (db00 fu) ne0
theorem sr01 (fu : Nat) : d__law_single_right fu [.v (.opq 0), .v .non] = .ret (.v (.bl true)) [.v (.opq 0), .v .non] := by kernel_rfl
theorem da01 (fu : Nat) : d__law_double_right fu [.v (.opq 0), .v .non] = .ret (.v (.bl true)) [.v (.opq 0), .v .non] := by kernel_rfl
theorem db01 (fu : Nat) : d__law_double_right fu [.v .non, .v (.opq 0)] = .ret (.v (.bl true)) [.v .non, .v (.opq 0)] := by kernel_rfl
theorem rest01 (fu : Nat) (x0 x1 x2 : Sl) : rst fu [x0, x1, x2, .v (.opq 0), .v .non, .no] = .nx [x0, x1, x2, .v (.opq 0), .v .non, .no] := rst_ok (ca0 fu) (ca1 fu) (ca2 fu) (sr01 fu) (da01 fu) (db01 fu) ne0
theorem sr10 (fu : Nat) : d__law_single_right fu [.v .non, .v (.opq 1)] = .ret (.v (.bl true)) [.v .non, .v (.opq 1)] := by kernel_rfl
theorem da10 (fu : Nat) : d__law_double_right fu [.v .non, .v (.opq 1)] = .ret (.v (.bl true)) [.v .non, .v (.opq 1)] := by kernel_rfl
theorem db10 (fu : Nat) : d__law_double_right fu [.v (.opq 1), .v .non] = .ret (.v (.bl true)) [.v (.opq 1), .v .non] := by kernel_rfl
theorem rest10 (fu : Nat) (x0 x1 x2 : Sl) : rst fu [x0, x1, x2, .v .non, .v (.opq 1), .no] = .nx [x0, x1, x2, .v .non, .v (.opq 1), .no] := rst_ok (cn0 fu) (cn1 fu) (cn2 fu) (sr10 fu) (da10 fu) (db10 fu) ne1
theorem sr11 (fu : Nat) : d__law_single_right fu [.v .non, .v .non] = .ret (.v (.bl true)) [.v .non, .v .non] := by kernel_rfl
theorem da11 (fu : Nat) : d__law_double_right fu [.v .non, .v .non] = .ret (.v (.bl true)) [.v .non, .v .non] := by kernel_rfl
theorem db11 (fu : Nat) : d__law_double_right fu [.v .non, .v .non] = .ret (.v (.bl true)) [.v .non, .v .non] := by kernel_rfl
theorem rest11 (fu : Nat) (x0 x1 x2 : Sl) : rst fu [x0, x1, x2, .v .non, .v .non, .no] = .nx [x0, x1, x2, .v .non, .v .non, .no] := rst_ok (cn0 fu) (cn1 fu) (cn2 fu) (sr11 fu) (da11 fu) (db11 fu) ne1
end K00

set_option linter.all false
set_option autoImplicit false
set_option maxRecDepth 100000
set_option maxHeartbeats 4000000
set_option pp.maxSteps 2000
namespace K00
open PySem TW L2 TK
theorem mswitch_nx {ec : Nat → Bool} {i j : Nat} {k : MS} {s s' : S} {d0 d1 e0 e1 : D} (h0 : s[i]? = some (.v d0)) (h1 : s[j]? = some (.v d1)) (hc : ((clr2 i j s).all noQsl && slfN ec d0 && slfN ec d1) = true)
    (hk : k ((s.set i (.v (opD 0 d0))).set j (.v (opD 1 d1))) = .nx s') (g0 : s'[i]? = some (.v e0)) (g1 : s'[j]? = some (.v e1)) (hn : (clr2 i j s').all noQsl = true) : mswitch ec i j k s = .nx (clr2 i j s') := by
  unfold mswitch
  rw [h0, h1]
  dsimp only
  rw [if_pos hc, hk]
  dsimp only
  rw [g0, g1]
  dsimp only
  rw [if_pos hn]
theorem noQs_I : ∀ q : List Int, noQs (I q) = true
  | [] => rfl
  | a :: q => by
    show (noQ (.int a) && noQs (I q)) = true
    rw [noQs_I q]; rfl
theorem opD_cases (n : Nat) (d : D) : opD n d = .non ∨ opD n d = .opq n := by cases d <;> first | exact .inl rfl | exact .inr rfl
theorem rst_any (fu : Nat) (x0 x1 x2 : Sl) (d1 d2 : D) : rst fu [x0, x1, x2, .v (opD 0 d1), .v (opD 1 d2), .no] = .nx [x0, x1, x2, .v (opD 0 d1), .v (opD 1 d2), .no] := by
  rcases opD_cases 0 d1 with e | e <;> rcases opD_cases 1 d2 with e' | e' <;> rw [e, e']
  · exact rest11 fu x0 x1 x2
  · exact rest10 fu x0 x1 x2
  · exact rest01 fu x0 x1 x2
  · exact rest00 fu x0 x1 x2
theorem sw_ok (fu : Nat) {ns : List Int} {b : List D} {K : Nat} {j : Int} {d1 d2 : D} (hb : Bg K b) (h1 : fld d1) (h2 : fld d2) :
    mswitch ecB 3 4 (rst fu) [.v (.arg (I ns)), .l b, .v (.int j), .v d1, .v d2, .no] = .nx [.v (.arg (I ns)), .l b, .v (.int j), .no, .no, .no] := by
  obtain ⟨n, c, m, rfl, _⟩ := hb
  have cl : ∀ y z : Sl, (clr2 3 4 [Sl.v (.arg (I ns)), .l (I [n, c, m]), .v (.int j), y, z, .no]) = [Sl.v (.arg (I ns)), .l (I [n, c, m]), .v (.int j), .no, .no, .no] := fun y z => rfl
  have al : ([Sl.v (.arg (I ns)), .l (I [n, c, m]), .v (.int j), .no, .no, .no] : S).all noQsl = true := by
    have e1 : noQsl (.v (.arg (I ns))) = true := noQs_I ns
    have e2 : noQsl (.l (I [n, c, m])) = true := noQs_I _
    have e3 : noQsl (.v (.int j)) = true := rfl
    have e4 : noQsl .no = true := rfl
    simp only [List.all_cons, e1, e2, e3, e4, List.all_nil, Bool.and_self]
  have hc : ((clr2 3 4 [Sl.v (.arg (I ns)), .l (I [n, c, m]), .v (.int j), .v d1, .v d2, .no]).all noQsl && slfN ecB d1 && slfN ecB d2) = true := by
    rw [cl, al, h1.2, h2.2]; rfl
  have h := mswitch_nx (ec := ecB) (i := 3) (j := 4) (k := rst fu) (s := [Sl.v (.arg (I ns)), .l (I [n, c, m]), .v (.int j), .v d1, .v d2, .no]) rfl rfl hc (rst_any fu _ _ _ d1 d2) rfl rfl (by rw [cl]; exact al)
  rw [cl] at h
  exact h
theorem turn_ok (fu : Nat) {ns : List Int} {b : List D} {K : Nat} {j : Int} (hb : Bg K b) (hK : K < 900000) :
    ∃ b', lb_law_2 fu [.v (.arg (I ns)), .l b, .v (.int j), .no, .no, .no] = .nx [.v (.arg (I ns)), .l b', .v (.int j), .no, .no, .no] ∧ Bg (K + 6) b' := by
  obtain ⟨d1, b1, e1, f1, hb1⟩ := field_ok fu hb (by omega)
  obtain ⟨d2, b2, e2, f2, hb2⟩ := field_ok fu hb1 (by omega)
  refine ⟨b2, ?_, hb2⟩
  have st : masg (mtup (mcons (mbind (mbind (mcall (d__law_field fu) [] (mcons (mvar 1) (mret []))) fun r => mret (Rv.d r)) fun d => mret (Opd.d d)) (mcons (mbind (mbind (mcall (d__law_field fu) [] (mcons (mvar 1) (mret []))) fun r => mret (Rv.d r)) fun d => mret (Opd.d d)) (mret [])))) (tgTup 2 (tgCons (tgName 3) (tgCons (tgName 4) tgNil))) [.v (.arg (I ns)), .l b, .v (.int j), .no, .no, .no] = .nx [.v (.arg (I ns)), .l b2, .v (.int j), .v d1, .v d2, .no] := by
    simp [↓fnD, ↓ms, ↓mseq, ↓mbind, ↓mret, ↓mopt, ↓mbad, ↓mvar, ↓res, ↓strong, strongs, ress, ↓mun, ↓mbin, ↓mbinR, ↓mcb, ↓mcons, ↓mcond, ↓mif, ↓mandV, ↓morV, ↓mnotV, ↓tob, truD, ↓mfld, fldD, putO, ↓mputf, ↓stSet, ↓stSetP, ↓mfrz, ↓mlst, ↓mtup, ↓mslice, ↓mpart, intD, dSl, on1, on2, lenD, absD, TW.intOf, TW.listOf, TW.tupOf, dInt2, dCmp2, dNeg, dIx, dIsN, dNotN, D.isNon, dupFree, argsOf, argOf, Sl.some?, putBack, Opd.isS, Sl.own, Rv.sl, Rv.d, ↓mwalk, walkD, itemsD, ↓mrng, rng1, rng2, rng3, tgName, tgTup, tgCons, tgNil, ↓masg, ↓mpar2, stPar2, isiD, dTy, isiInt, isiBl, isiLst, isiTup, isiObj, or2, ↓mvarF, ↓mchain, ↓mop2, dAddX, dAddS, ↓mrev, lstD, ↓mrevA, ↓mpar3, stPar3, List.findIdx?_cons, List.findIdx?_nil, ↓mcall, ↓mmake, ↓mmth, ↓chk, ↓mbop, ↓mneg1, ↓chkT, ↓kB, ↓mceq, ↓mcalO, ↓mzip, zipD, ↓mrevT, revTD, ↓tgSet, ↓mpar2L, ↓mpar2Q, stPar2Q, ↓mceqO, ↓chkO, ↓mxt, ↓mseti, ↓menum, ↓mappend, ↓mpop, ↓mmaxd, ↓mstar, ↓mraise, ↓mtry, ↓mxf, e1, e2]
  show mseq _ (mswitch ecB 3 4 (rst fu)) _ = _
  rw [seq_nx st]
  exact sw_ok fu hb2 f1 f2
theorem loop_ok (fu : Nat) {ns : List Int} {b : List D} (hb : Bg 0 b) : ∃ b', l_law_2 fu [.v (.arg (I ns)), .l b, .no, .no, .no, .no] = .nx [.v (.arg (I ns)), .l b', .v (.int 3), .no, .no, .no] := by
  obtain ⟨c0, t0, h0⟩ := turn_ok fu (ns := ns) (j := 0) hb (by omega)
  obtain ⟨c1, t1, h1⟩ := turn_ok fu (ns := ns) (j := 1) h0 (by omega)
  obtain ⟨c2, t2, h2⟩ := turn_ok fu (ns := ns) (j := 2) h1 (by omega)
  obtain ⟨c3, t3, h3⟩ := turn_ok fu (ns := ns) (j := 3) h2 (by omega)
  refine ⟨c3, ?_⟩
  have ok4 : okR 4 = true := by kernel_rfl
  simp [l_law_2, mfor, li_law_2, forD, ok4, rangeD, List.range, List.range.loop, ↓fnD, ↓ms, ↓mseq, ↓mbind, ↓mret, ↓mopt, ↓mbad, ↓mvar, ↓res, ↓strong, strongs, ress, ↓mun, ↓mbin, ↓mbinR, ↓mcb, ↓mcons, ↓mcond, ↓mif, ↓mandV, ↓morV, ↓mnotV, ↓tob, truD, ↓mfld, fldD, putO, ↓mputf, ↓stSet, ↓stSetP, ↓mfrz, ↓mlst, ↓mtup, ↓mslice, ↓mpart, intD, dSl, on1, on2, lenD, absD, TW.intOf, TW.listOf, TW.tupOf, dInt2, dCmp2, dNeg, dIx, dIsN, dNotN, D.isNon, dupFree, argsOf, argOf, Sl.some?, putBack, Opd.isS, Sl.own, Rv.sl, Rv.d, ↓mwalk, walkD, itemsD, ↓mrng, rng1, rng2, rng3, tgName, tgTup, tgCons, tgNil, ↓masg, ↓mpar2, stPar2, isiD, dTy, isiInt, isiBl, isiLst, isiTup, isiObj, or2, ↓mvarF, ↓mchain, ↓mop2, dAddX, dAddS, ↓mrev, lstD, ↓mrevA, ↓mpar3, stPar3, List.findIdx?_cons, List.findIdx?_nil, ↓mcall, ↓mmake, ↓mmth, ↓chk, ↓mbop, ↓mneg1, ↓chkT, ↓kB, ↓mceq, ↓mcalO, ↓mzip, zipD, ↓mrevT, revTD, ↓tgSet, ↓mpar2L, ↓mpar2Q, stPar2Q, ↓mceqO, ↓chkO, ↓mxt, ↓mseti, ↓menum, ↓mappend, ↓mpop, ↓mmaxd, ↓mstar, ↓mraise, ↓mtry, ↓mxf, t0, t1, t2, t3]
theorem law_ok {ns : List Int} (hl : ns.length ≤ 63) (hb : ∀ z ∈ ns, Builtin.Int.intBits z ≤ 1048576) : ∃ fu s', d_law fu [.v (.arg (ns.map D.int))] = .ret (.v (.bl true)) s' := by
  obtain ⟨b, eb, hB⟩ := bag_ok 0 hl hb
  obtain ⟨b', el⟩ := loop_ok 0 (ns := ns) hB
  refine ⟨0, [.v (.arg (I ns))], ?_⟩
  show d_law 0 [.v (.arg (I ns))] = _
  simp [d_law, b_law, ↓mseq, ↓fnD, ↓ms, ↓mseq, ↓mbind, ↓mret, ↓mopt, ↓mbad, ↓mvar, ↓res, ↓strong, strongs, ress, ↓mun, ↓mbin, ↓mbinR, ↓mcb, ↓mcons, ↓mcond, ↓mif, ↓mandV, ↓morV, ↓mnotV, ↓tob, truD, ↓mfld, fldD, putO, ↓mputf, ↓stSet, ↓stSetP, ↓mfrz, ↓mlst, ↓mtup, ↓mslice, ↓mpart, intD, dSl, on1, on2, lenD, absD, TW.intOf, TW.listOf, TW.tupOf, dInt2, dCmp2, dNeg, dIx, dIsN, dNotN, D.isNon, dupFree, argsOf, argOf, Sl.some?, putBack, Opd.isS, Sl.own, Rv.sl, Rv.d, ↓mwalk, walkD, itemsD, ↓mrng, rng1, rng2, rng3, tgName, tgTup, tgCons, tgNil, ↓masg, ↓mpar2, stPar2, isiD, dTy, isiInt, isiBl, isiLst, isiTup, isiObj, or2, ↓mvarF, ↓mchain, ↓mop2, dAddX, dAddS, ↓mrev, lstD, ↓mrevA, ↓mpar3, stPar3, List.findIdx?_cons, List.findIdx?_nil, ↓mcall, ↓mmake, ↓mmth, ↓chk, ↓mbop, ↓mneg1, ↓chkT, ↓kB, ↓mceq, ↓mcalO, ↓mzip, zipD, ↓mrevT, revTD, ↓tgSet, ↓mpar2L, ↓mpar2Q, stPar2Q, ↓mceqO, ↓chkO, ↓mxt, ↓mseti, ↓menum, ↓mappend, ↓mpop, ↓mmaxd, ↓mstar, ↓mraise, ↓mtry, ↓mxf, eb, el]
theorem dens_ints {g : TW.G} {B : Hp} : ∀ ns : List Int, Dens g B (ns.map D.int) (ns.map V.int)
  | [] => rfl
  | n :: ns => ⟨.int n, _, rfl, rfl, dens_ints ns⟩
end K00

set_option Elab.async false
set_option linter.all false
set_option autoImplicit false
set_option maxRecDepth 100000
set_option maxHeartbeats 4000000
/-! what a law's head asks of classes, errors, code objects -/
namespace TW
open PySem PySem.Spec PyProof.Rows L2
def isTyV : Value → Bool
  | .type _ => true
  | _ => false
theorem kit_other {K : PySem.W.Frag} {C : Addr} {n : String} (h1 : PySem.W.isClsIn K C = true) (h2 : PySem.W.typeIn K (.ref C) = some (.type "type")) (h3 : (PySem.fastBuiltinMro n).map (·.all isTyV) = some true) : PySem.W.kitOne K (.type n) (.ref C) = some false := by
  have e2 : ((PySem.W.clsIn K C).isSome && PySem.W.typeIn K (.ref C) == some (.type "type")) = true := by
    have h2' : (PySem.W.clsIn K C).isSome = true := h1
    rw [h2', h2] <;> rfl
  unfold PySem.W.kitOne
  rw [if_neg (by intro z; exact Value.noConfusion (beq_iff_eq.mp z))]
  show (if ((PySem.W.clsIn K C).isSome && PySem.W.typeIn K (.ref C) == some (.type "type")) = true then PySem.W.subIn K (.type n) (.ref C) else none) = some false
  rw [if_pos e2]
  show (PySem.fastBuiltinMro n).map (·.contains (.ref C)) = some false
  cases e : PySem.fastBuiltinMro n with
  | none => rw [e] at h3; cases h3
  | some l =>
    rw [e] at h3
    have h4 : l.all isTyV = true := Option.some.inj h3
    show some (l.contains (Value.ref C)) = some false
    congr 1
    rw [Bool.eq_false_iff]
    intro hc
    have := List.all_eq_true.mp h4 _ (List.contains_iff_mem.mp hc)
    cases this
/-- one own class against another -/
theorem kit_sub {K : PySem.W.Frag} {C D : Addr} {b : Bool} (h1 : PySem.W.isClsIn K D = true) (h2 : PySem.W.typeIn K (.ref D) = some (.type "type")) (hs : PySem.W.subIn K (.ref D) (.ref D) = some true) (h : PySem.W.subIn K (.ref C) (.ref D) = some b) : PySem.W.kitOne K (.ref C) (.ref D) = some b := by
  have e2 : ((PySem.W.clsIn K D).isSome && PySem.W.typeIn K (.ref D) == some (.type "type")) = true := by
    have h1' : (PySem.W.clsIn K D).isSome = true := h1
    rw [h1', h2] <;> rfl
  unfold PySem.W.kitOne
  by_cases hc : (Value.ref C == Value.ref D) = true
  · rw [if_pos hc]
    have e : C = D := Value.ref.inj (beq_iff_eq.mp hc)
    subst e
    rw [hs] at h; exact h
  · rw [if_neg hc]
    show (if ((PySem.W.clsIn K D).isSome && PySem.W.typeIn K (.ref D) == some (.type "type")) = true then PySem.W.subIn K (.ref C) (.ref D) else none) = some b
    rw [if_pos e2]; exact h
theorem exm_two {K : PySem.W.Frag} {C D : Addr} (h1 : PySem.W.subIn K (.ref D) (.type "BaseException") = some true) (h2 : PySem.W.isClsIn K D = true) (h3 : PySem.W.typeIn K (.ref D) = some (.type "type")) (h4 : PySem.W.subIn K (.ref C) (.ref D) = some true) :
    PySem.W.exmOne K (.ref C) (.ref D) = some true := by
  have w1 : (PySem.W.subIn K (.ref D) (.type "BaseException") == some true) = true := by rw [h1] <;> rfl
  have w2 : ((PySem.W.clsIn K D).isSome && PySem.W.typeIn K (.ref D) == some (.type "type")) = true := by
    have h2' : (PySem.W.clsIn K D).isSome = true := h2
    rw [h2', h3] <;> rfl
  show (if (PySem.W.subIn K (.ref D) (.type "BaseException") == some true) = true then (if ((PySem.W.clsIn K D).isSome && PySem.W.typeIn K (.ref D) == some (.type "type")) = true then PySem.W.subIn K (.ref C) (.ref D) else none) else none) = some true
  rw [if_pos w1, if_pos w2]; exact h4
/-- a code object's fields that are asked -/
def codeVs (vs : Array Value) : Bool := (match vs.getD 18 .none with | .str _ _ => true | _ => false) && ((match vs.getD 7 .none with | .int _ _ => true | _ => false) && ((match vs.getD 9 .none with | .bool _ => true | _ => false) && (match vs.getD 10 .none with | .int _ _ => true | _ => false)))
theorem code_hd {K : PySem.W.Frag} {h : Heap} {c Pt : Addr} {dd : Option Addr} {vs : Array Value} {sl : Array (Option Value)} (X : K.In h) (x : K.lookup c = some ⟨.type "code", dd, .fields vs, sl⟩) (ht : vs[11]? = some (.ref Pt)) (hv : codeVs vs = true) (ne : c ≠ Pt) : PySem.W.CodeHd h c Pt := by
  unfold codeVs at hv
  rw [Bool.and_eq_true, Bool.and_eq_true, Bool.and_eq_true] at hv
  obtain ⟨q1, q2, q3, q4⟩ := hv
  have g11 : vs.getD 11 .none = .ref Pt := by rw [Array.getD_eq_getD_getElem?, ht]; rfl
  cases e18 : vs.getD 18 .none <;> rw [e18] at q1 <;> try cases q1
  cases e7 : vs.getD 7 .none <;> rw [e7] at q2 <;> try cases q2
  cases e9 : vs.getD 9 .none <;> rw [e9] at q3 <;> try cases q3
  cases e10 : vs.getD 10 .none <;> rw [e10] at q4 <;> try cases q4
  exact ⟨_, vs, _, _, _, _, _, _, _, X _ _ x, rfl, rfl, ht, g11, e18, e7, e9, e10, ne⟩

theorem exm_self {K : PySem.W.Frag} {S : Addr} (h1 : PySem.W.subIn K (.ref S) (.type "BaseException") = some true) (h2 : PySem.W.isClsIn K S = true) (h3 : PySem.W.typeIn K (.ref S) = some (.type "type")) (h4 : PySem.W.subIn K (.ref S) (.ref S) = some true) :
    PySem.W.exmOne K (.ref S) (.ref S) = some true := by
  have e1 : (PySem.W.subIn K (.ref S) (.type "BaseException") == some true) = true := by rw [h1] <;> rfl
  have e2 : ((PySem.W.clsIn K S).isSome && PySem.W.typeIn K (.ref S) == some (.type "type")) = true := by
    have h2' : (PySem.W.clsIn K S).isSome = true := h2
    rw [h2', h3] <;> rfl
  show (if (PySem.W.subIn K (.ref S) (.type "BaseException") == some true) = true then (if ((PySem.W.clsIn K S).isSome && PySem.W.typeIn K (.ref S) == some (.type "type")) = true then PySem.W.subIn K (.ref S) (.ref S) else none) else none) = some true
  rw [if_pos e1, if_pos e2]
  exact h4
end TW

set_option Elab.async false
set_option linter.all false
set_option autoImplicit false
set_option maxRecDepth 100000
set_option maxHeartbeats 4000000
namespace K00
open PySem PySem.Spec PyProof.Rows L2 TW TX
def Math : Prop := ∀ ns : List Int, ns.length ≤ 63 → (∀ z ∈ ns, Builtin.Int.intBits z ≤ 1048576) → ∃ fu s', d_law fu [.v (.arg (ns.map D.int))] = .ret (.v (.bl true)) s'
def spLawT (K : PySem.W.Frag) : Sp := fun vs H Q _ => ∃ (a : Addr) (ns : List Int), vs = [.ref a] ∧ SqL K H a (ns.map V.int) ∧ ns.length ≤ 63 ∧ (∀ z ∈ ns, Builtin.Int.intBits z ≤ 1048576) ∧ ∀ H', Q (.bl true) H'
theorem law_spT {P : Program} {w : World} {K : PySem.W.Frag} {mg : Str → Option Value} {cn : Nat → Addr} {base : Heap} {f : Addr} {fd : FuncData} {k : Nat} {ps : List Str}  (F : ∀ fu, FnG P w K mg base (L2.CX P w) k f fd ps (spD (gOf K mg cn (fun _ => none)) (d_law fu))) (hm : Math) : FnG P w K mg base (L2.CX P w) k f fd ps (spLawT K) := by
  have key : ∀ vs H Q E, spLawT K vs H Q E → ∃ fu, (spD (gOf K mg cn (fun _ => none)) (d_law fu)) vs H Q E := fun vs H Q E h => by
    obtain ⟨a, ns, rfl, hS, hl, hb, q⟩ := h
    obtain ⟨fu, s', e⟩ := hm ns hl hb
    refine ⟨fu, H, [.v (.arg (ns.map D.int))], Evl.Ex.refl H, ⟨rfl, fun i x v h1 h2 => ?_, fun i j x y a' h1 _ h3 => ?_⟩, ?_⟩
    · match i, h1, h2 with
      | 0, h1, h2 => cases h1; cases h2; exact ⟨_, rfl, a, _, rfl, hS, dens_ints ns⟩
      | i + 1, h1, h2 => simp at h1
    · match i, h1 with
      | 0, h1 => cases h1; cases h3
      | i + 1, h1 => simp at h1
    · rw [e]
      intro v B' H' _ hv
      cases hv
      exact q H'
  refine ⟨fun vs H Q E h => ?_, fun A outer s H args us vs Q E hr hg e0 hb r h => ?_⟩
  · obtain ⟨fu, h'⟩ := key vs H Q E h
    exact (F fu).many vs H Q E h'
  · obtain ⟨fu, h'⟩ := key vs H Q E h
    exact (F fu).go A outer s H args us vs Q E hr hg e0 hb r h'
abbrev s_BadNumber : Stmt := inClass (top 2) 0
theorem scx_BadNumber : FnScope ["self", "part"] ["self", "part"] (defScope s_BadNumber) := ⟨rfl, rfl, rfl, by decide +kernel, rfl, by decide +kernel, by decide +kernel⟩
theorem okx_BadNumber {P : Program} {w : World} {K : PySem.W.Frag} {mg : Str → Option Value} {base : Heap} {f C : Addr} {fd : FuncData} (F : Fun K "__init__" "BadNumber.__init__" s_BadNumber f fd) (T : OexC K C) (nopart : PySem.W.findIn K (.ref C) "part" = some none) : FnOk P w K mg base CX0 1 f fd ["self", "part"] (spE C ["part"]) := by
  refine TW.FnOk.imp (?_ : FnOk P w K mg base CX0 1 f fd ["self", "part"] (spI1 C "part")) spE1
  refine F.ok scx_BadNumber (fun vs H Q E h => ?_) (fun cdv A outer s H vs Q E hr h => ?_)
  · obtain ⟨a, u0, rfl, _⟩ := h
    rfl
  · obtain ⟨a, u0, rfl, ha, k⟩ := h
    exact ⟨_, pss_one (ps_ost (pv 0) (pv 1)), u0, rfl, .ref a, rfl, a, C, rfl, T, nopart, .inl ⟨ha, fun dx h1 h2 => k dx h1 h2⟩⟩
abbrev s_BadRatio : Stmt := inClass (top 3) 0
theorem scx_BadRatio : FnScope ["self", "part"] ["self", "part"] (defScope s_BadRatio) := ⟨rfl, rfl, rfl, by decide +kernel, rfl, by decide +kernel, by decide +kernel⟩
theorem okx_BadRatio {P : Program} {w : World} {K : PySem.W.Frag} {mg : Str → Option Value} {base : Heap} {f C : Addr} {fd : FuncData} (F : Fun K "__init__" "BadRatio.__init__" s_BadRatio f fd) (T : OexC K C) (nopart : PySem.W.findIn K (.ref C) "part" = some none) : FnOk P w K mg base CX0 1 f fd ["self", "part"] (spE C ["part"]) := by
  refine TW.FnOk.imp (?_ : FnOk P w K mg base CX0 1 f fd ["self", "part"] (spI1 C "part")) spE1
  refine F.ok scx_BadRatio (fun vs H Q E h => ?_) (fun cdv A outer s H vs Q E hr h => ?_)
  · obtain ⟨a, u0, rfl, _⟩ := h
    rfl
  · obtain ⟨a, u0, rfl, ha, k⟩ := h
    exact ⟨_, pss_one (ps_ost (pv 0) (pv 1)), u0, rfl, .ref a, rfl, a, C, rfl, T, nopart, .inl ⟨ha, fun dx h1 h2 => k dx h1 h2⟩⟩
abbrev s_BadLot : Stmt := inClass (top 4) 0
theorem scx_BadLot : FnScope ["self", "part"] ["self", "part"] (defScope s_BadLot) := ⟨rfl, rfl, rfl, by decide +kernel, rfl, by decide +kernel, by decide +kernel⟩
theorem okx_BadLot {P : Program} {w : World} {K : PySem.W.Frag} {mg : Str → Option Value} {base : Heap} {f C : Addr} {fd : FuncData} (F : Fun K "__init__" "BadLot.__init__" s_BadLot f fd) (T : OexC K C) (nopart : PySem.W.findIn K (.ref C) "part" = some none) : FnOk P w K mg base CX0 1 f fd ["self", "part"] (spE C ["part"]) := by
  refine TW.FnOk.imp (?_ : FnOk P w K mg base CX0 1 f fd ["self", "part"] (spI1 C "part")) spE1
  refine F.ok scx_BadLot (fun vs H Q E h => ?_) (fun cdv A outer s H vs Q E hr h => ?_)
  · obtain ⟨a, u0, rfl, _⟩ := h
    rfl
  · obtain ⟨a, u0, rfl, ha, k⟩ := h
    exact ⟨_, pss_one (ps_ost (pv 0) (pv 1)), u0, rfl, .ref a, rfl, a, C, rfl, T, nopart, .inl ⟨ha, fun dx h1 h2 => k dx h1 h2⟩⟩
abbrev s_BadBook : Stmt := inClass (top 5) 0
theorem scx_BadBook : FnScope ["self", "part"] ["self", "part"] (defScope s_BadBook) := ⟨rfl, rfl, rfl, by decide +kernel, rfl, by decide +kernel, by decide +kernel⟩
theorem okx_BadBook {P : Program} {w : World} {K : PySem.W.Frag} {mg : Str → Option Value} {base : Heap} {f C : Addr} {fd : FuncData} (F : Fun K "__init__" "BadBook.__init__" s_BadBook f fd) (T : OexC K C) (nopart : PySem.W.findIn K (.ref C) "part" = some none) : FnOk P w K mg base CX0 1 f fd ["self", "part"] (spE C ["part"]) := by
  refine TW.FnOk.imp (?_ : FnOk P w K mg base CX0 1 f fd ["self", "part"] (spI1 C "part")) spE1
  refine F.ok scx_BadBook (fun vs H Q E h => ?_) (fun cdv A outer s H vs Q E hr h => ?_)
  · obtain ⟨a, u0, rfl, _⟩ := h
    rfl
  · obtain ⟨a, u0, rfl, ha, k⟩ := h
    exact ⟨_, pss_one (ps_ost (pv 0) (pv 1)), u0, rfl, .ref a, rfl, a, C, rfl, T, nopart, .inl ⟨ha, fun dx h1 h2 => k dx h1 h2⟩⟩
abbrev s_BadWeb : Stmt := inClass (top 6) 0
theorem scx_BadWeb : FnScope ["self", "part"] ["self", "part"] (defScope s_BadWeb) := ⟨rfl, rfl, rfl, by decide +kernel, rfl, by decide +kernel, by decide +kernel⟩
theorem okx_BadWeb {P : Program} {w : World} {K : PySem.W.Frag} {mg : Str → Option Value} {base : Heap} {f C : Addr} {fd : FuncData} (F : Fun K "__init__" "BadWeb.__init__" s_BadWeb f fd) (T : OexC K C) (nopart : PySem.W.findIn K (.ref C) "part" = some none) : FnOk P w K mg base CX0 1 f fd ["self", "part"] (spE C ["part"]) := by
  refine TW.FnOk.imp (?_ : FnOk P w K mg base CX0 1 f fd ["self", "part"] (spI1 C "part")) spE1
  refine F.ok scx_BadWeb (fun vs H Q E h => ?_) (fun cdv A outer s H vs Q E hr h => ?_)
  · obtain ⟨a, u0, rfl, _⟩ := h
    rfl
  · obtain ⟨a, u0, rfl, ha, k⟩ := h
    exact ⟨_, pss_one (ps_ost (pv 0) (pv 1)), u0, rfl, .ref a, rfl, a, C, rfl, T, nopart, .inl ⟨ha, fun dx h1 h2 => k dx h1 h2⟩⟩
abbrev s_BadPolynomial : Stmt := inClass (top 7) 0
theorem scx_BadPolynomial : FnScope ["self", "part"] ["self", "part"] (defScope s_BadPolynomial) := ⟨rfl, rfl, rfl, by decide +kernel, rfl, by decide +kernel, by decide +kernel⟩
theorem okx_BadPolynomial {P : Program} {w : World} {K : PySem.W.Frag} {mg : Str → Option Value} {base : Heap} {f C : Addr} {fd : FuncData} (F : Fun K "__init__" "BadPolynomial.__init__" s_BadPolynomial f fd) (T : OexC K C) (nopart : PySem.W.findIn K (.ref C) "part" = some none) : FnOk P w K mg base CX0 1 f fd ["self", "part"] (spE C ["part"]) := by
  refine TW.FnOk.imp (?_ : FnOk P w K mg base CX0 1 f fd ["self", "part"] (spI1 C "part")) spE1
  refine F.ok scx_BadPolynomial (fun vs H Q E h => ?_) (fun cdv A outer s H vs Q E hr h => ?_)
  · obtain ⟨a, u0, rfl, _⟩ := h
    rfl
  · obtain ⟨a, u0, rfl, ha, k⟩ := h
    exact ⟨_, pss_one (ps_ost (pv 0) (pv 1)), u0, rfl, .ref a, rfl, a, C, rfl, T, nopart, .inl ⟨ha, fun dx h1 h2 => k dx h1 h2⟩⟩
abbrev s_BadQuotient : Stmt := inClass (top 8) 0
theorem scx_BadQuotient : FnScope ["self", "part"] ["self", "part"] (defScope s_BadQuotient) := ⟨rfl, rfl, rfl, by decide +kernel, rfl, by decide +kernel, by decide +kernel⟩
theorem okx_BadQuotient {P : Program} {w : World} {K : PySem.W.Frag} {mg : Str → Option Value} {base : Heap} {f C : Addr} {fd : FuncData} (F : Fun K "__init__" "BadQuotient.__init__" s_BadQuotient f fd) (T : OexC K C) (nopart : PySem.W.findIn K (.ref C) "part" = some none) : FnOk P w K mg base CX0 1 f fd ["self", "part"] (spE C ["part"]) := by
  refine TW.FnOk.imp (?_ : FnOk P w K mg base CX0 1 f fd ["self", "part"] (spI1 C "part")) spE1
  refine F.ok scx_BadQuotient (fun vs H Q E h => ?_) (fun cdv A outer s H vs Q E hr h => ?_)
  · obtain ⟨a, u0, rfl, _⟩ := h
    rfl
  · obtain ⟨a, u0, rfl, ha, k⟩ := h
    exact ⟨_, pss_one (ps_ost (pv 0) (pv 1)), u0, rfl, .ref a, rfl, a, C, rfl, T, nopart, .inl ⟨ha, fun dx h1 h2 => k dx h1 h2⟩⟩
abbrev s_BadQuestion : Stmt := inClass (top 9) 0
theorem scx_BadQuestion : FnScope ["self", "part"] ["self", "part"] (defScope s_BadQuestion) := ⟨rfl, rfl, rfl, by decide +kernel, rfl, by decide +kernel, by decide +kernel⟩
theorem okx_BadQuestion {P : Program} {w : World} {K : PySem.W.Frag} {mg : Str → Option Value} {base : Heap} {f C : Addr} {fd : FuncData} (F : Fun K "__init__" "BadQuestion.__init__" s_BadQuestion f fd) (T : OexC K C) (nopart : PySem.W.findIn K (.ref C) "part" = some none) : FnOk P w K mg base CX0 1 f fd ["self", "part"] (spE C ["part"]) := by
  refine TW.FnOk.imp (?_ : FnOk P w K mg base CX0 1 f fd ["self", "part"] (spI1 C "part")) spE1
  refine F.ok scx_BadQuestion (fun vs H Q E h => ?_) (fun cdv A outer s H vs Q E hr h => ?_)
  · obtain ⟨a, u0, rfl, _⟩ := h
    rfl
  · obtain ⟨a, u0, rfl, ha, k⟩ := h
    exact ⟨_, pss_one (ps_ost (pv 0) (pv 1)), u0, rfl, .ref a, rfl, a, C, rfl, T, nopart, .inl ⟨ha, fun dx h1 h2 => k dx h1 h2⟩⟩
abbrev s_BadTown : Stmt := inClass (top 10) 0
theorem scx_BadTown : FnScope ["self", "part"] ["self", "part"] (defScope s_BadTown) := ⟨rfl, rfl, rfl, by decide +kernel, rfl, by decide +kernel, by decide +kernel⟩
theorem okx_BadTown {P : Program} {w : World} {K : PySem.W.Frag} {mg : Str → Option Value} {base : Heap} {f C : Addr} {fd : FuncData} (F : Fun K "__init__" "BadTown.__init__" s_BadTown f fd) (T : OexC K C) (nopart : PySem.W.findIn K (.ref C) "part" = some none) : FnOk P w K mg base CX0 1 f fd ["self", "part"] (spE C ["part"]) := by
  refine TW.FnOk.imp (?_ : FnOk P w K mg base CX0 1 f fd ["self", "part"] (spI1 C "part")) spE1
  refine F.ok scx_BadTown (fun vs H Q E h => ?_) (fun cdv A outer s H vs Q E hr h => ?_)
  · obtain ⟨a, u0, rfl, _⟩ := h
    rfl
  · obtain ⟨a, u0, rfl, ha, k⟩ := h
    exact ⟨_, pss_one (ps_ost (pv 0) (pv 1)), u0, rfl, .ref a, rfl, a, C, rfl, T, nopart, .inl ⟨ha, fun dx h1 h2 => k dx h1 h2⟩⟩
abbrev s_BadPaper : Stmt := inClass (top 11) 0
theorem scx_BadPaper : FnScope ["self", "part"] ["self", "part"] (defScope s_BadPaper) := ⟨rfl, rfl, rfl, by decide +kernel, rfl, by decide +kernel, by decide +kernel⟩
theorem okx_BadPaper {P : Program} {w : World} {K : PySem.W.Frag} {mg : Str → Option Value} {base : Heap} {f C : Addr} {fd : FuncData} (F : Fun K "__init__" "BadPaper.__init__" s_BadPaper f fd) (T : OexC K C) (nopart : PySem.W.findIn K (.ref C) "part" = some none) : FnOk P w K mg base CX0 1 f fd ["self", "part"] (spE C ["part"]) := by
  refine TW.FnOk.imp (?_ : FnOk P w K mg base CX0 1 f fd ["self", "part"] (spI1 C "part")) spE1
  refine F.ok scx_BadPaper (fun vs H Q E h => ?_) (fun cdv A outer s H vs Q E hr h => ?_)
  · obtain ⟨a, u0, rfl, _⟩ := h
    rfl
  · obtain ⟨a, u0, rfl, ha, k⟩ := h
    exact ⟨_, pss_one (ps_ost (pv 0) (pv 1)), u0, rfl, .ref a, rfl, a, C, rfl, T, nopart, .inl ⟨ha, fun dx h1 h2 => k dx h1 h2⟩⟩
abbrev s_BadDesk : Stmt := inClass (top 12) 0
theorem scx_BadDesk : FnScope ["self", "part"] ["self", "part"] (defScope s_BadDesk) := ⟨rfl, rfl, rfl, by decide +kernel, rfl, by decide +kernel, by decide +kernel⟩
theorem okx_BadDesk {P : Program} {w : World} {K : PySem.W.Frag} {mg : Str → Option Value} {base : Heap} {f C : Addr} {fd : FuncData} (F : Fun K "__init__" "BadDesk.__init__" s_BadDesk f fd) (T : OexC K C) (nopart : PySem.W.findIn K (.ref C) "part" = some none) : FnOk P w K mg base CX0 1 f fd ["self", "part"] (spE C ["part"]) := by
  refine TW.FnOk.imp (?_ : FnOk P w K mg base CX0 1 f fd ["self", "part"] (spI1 C "part")) spE1
  refine F.ok scx_BadDesk (fun vs H Q E h => ?_) (fun cdv A outer s H vs Q E hr h => ?_)
  · obtain ⟨a, u0, rfl, _⟩ := h
    rfl
  · obtain ⟨a, u0, rfl, ha, k⟩ := h
    exact ⟨_, pss_one (ps_ost (pv 0) (pv 1)), u0, rfl, .ref a, rfl, a, C, rfl, T, nopart, .inl ⟨ha, fun dx h1 h2 => k dx h1 h2⟩⟩
abbrev s_Misfit : Stmt := inClass (top 13) 0
theorem scx_Misfit : FnScope ["self", "part"] ["self", "part"] (defScope s_Misfit) := ⟨rfl, rfl, rfl, by decide +kernel, rfl, by decide +kernel, by decide +kernel⟩
theorem okx_Misfit {P : Program} {w : World} {K : PySem.W.Frag} {mg : Str → Option Value} {base : Heap} {f C : Addr} {fd : FuncData} (F : Fun K "__init__" "Misfit.__init__" s_Misfit f fd) (T : OexC K C) (nopart : PySem.W.findIn K (.ref C) "part" = some none) : FnOk P w K mg base CX0 1 f fd ["self", "part"] (spE C ["part"]) := by
  refine TW.FnOk.imp (?_ : FnOk P w K mg base CX0 1 f fd ["self", "part"] (spI1 C "part")) spE1
  refine F.ok scx_Misfit (fun vs H Q E h => ?_) (fun cdv A outer s H vs Q E hr h => ?_)
  · obtain ⟨a, u0, rfl, _⟩ := h
    rfl
  · obtain ⟨a, u0, rfl, ha, k⟩ := h
    exact ⟨_, pss_one (ps_ost (pv 0) (pv 1)), u0, rfl, .ref a, rfl, a, C, rfl, T, nopart, .inl ⟨ha, fun dx h1 h2 => k dx h1 h2⟩⟩
abbrev s_Twice : Stmt := inClass (top 20) 0
theorem scx_Twice : FnScope ["self", "value"] ["self", "value"] (defScope s_Twice) := ⟨rfl, rfl, rfl, by decide +kernel, rfl, by decide +kernel, by decide +kernel⟩
theorem okx_Twice {P : Program} {w : World} {K : PySem.W.Frag} {mg : Str → Option Value} {base : Heap} {f C : Addr} {fd : FuncData} (F : Fun K "__init__" "Twice.__init__" s_Twice f fd) (T : OexC K C) (novalue : PySem.W.findIn K (.ref C) "value" = some none) : FnOk P w K mg base CX0 1 f fd ["self", "value"] (spE C ["value"]) := by
  refine TW.FnOk.imp (?_ : FnOk P w K mg base CX0 1 f fd ["self", "value"] (spI1 C "value")) spE1
  refine F.ok scx_Twice (fun vs H Q E h => ?_) (fun cdv A outer s H vs Q E hr h => ?_)
  · obtain ⟨a, u0, rfl, _⟩ := h
    rfl
  · obtain ⟨a, u0, rfl, ha, k⟩ := h
    exact ⟨_, pss_one (ps_ost (pv 0) (pv 1)), u0, rfl, .ref a, rfl, a, C, rfl, T, novalue, .inl ⟨ha, fun dx h1 h2 => k dx h1 h2⟩⟩
abbrev s_Impossible : Stmt := inClass (top 21) 0
theorem scx_Impossible : FnScope ["self", "paper"] ["self", "paper"] (defScope s_Impossible) := ⟨rfl, rfl, rfl, by decide +kernel, rfl, by decide +kernel, by decide +kernel⟩
theorem okx_Impossible {P : Program} {w : World} {K : PySem.W.Frag} {mg : Str → Option Value} {base : Heap} {f C : Addr} {fd : FuncData} (F : Fun K "__init__" "Impossible.__init__" s_Impossible f fd) (T : OexC K C) (nopaper : PySem.W.findIn K (.ref C) "paper" = some none) : FnOk P w K mg base CX0 1 f fd ["self", "paper"] (spE C ["paper"]) := by
  refine TW.FnOk.imp (?_ : FnOk P w K mg base CX0 1 f fd ["self", "paper"] (spI1 C "paper")) spE1
  refine F.ok scx_Impossible (fun vs H Q E h => ?_) (fun cdv A outer s H vs Q E hr h => ?_)
  · obtain ⟨a, u0, rfl, _⟩ := h
    rfl
  · obtain ⟨a, u0, rfl, ha, k⟩ := h
    exact ⟨_, pss_one (ps_ost (pv 0) (pv 1)), u0, rfl, .ref a, rfl, a, C, rfl, T, nopaper, .inl ⟨ha, fun dx h1 h2 => k dx h1 h2⟩⟩
abbrev s_TooMany : Stmt := inClass (top 22) 0
theorem scx_TooMany : FnScope ["self", "what", "most"] ["self", "what", "most"] (defScope s_TooMany) := ⟨rfl, rfl, rfl, by decide +kernel, rfl, by decide +kernel, by decide +kernel⟩
theorem okx_TooMany {P : Program} {w : World} {K : PySem.W.Frag} {mg : Str → Option Value} {base : Heap} {f C : Addr} {fd : FuncData} (F : Fun K "__init__" "TooMany.__init__" s_TooMany f fd) (T : OexC K C) (nowhat : PySem.W.findIn K (.ref C) "what" = some none) (nomost : PySem.W.findIn K (.ref C) "most" = some none) : FnOk P w K mg base CX0 1 f fd ["self", "what", "most"] (spE C ["what", "most"]) := by
  refine TW.FnOk.imp (?_ : FnOk P w K mg base CX0 1 f fd ["self", "what", "most"] (spI2 C "what" "most")) spE2
  refine F.ok scx_TooMany (fun vs H Q E h => ?_) (fun cdv A outer s H vs Q E hr h => ?_)
  · obtain ⟨a, u0, u1, rfl, _⟩ := h
    rfl
  · obtain ⟨a, u0, u1, rfl, ha, k⟩ := h
    exact ⟨_, pss_cons (ps_ost (pv 0) (pv 1)) (pss_one (ps_ost (pv 0) (pv 2))), u0, rfl, .ref a, rfl, a, C, rfl, T, nowhat, .inl ⟨ha, fun dx h1 h2 => ⟨u1, rfl, .ref a, rfl, a, C, rfl, T, nomost, .inr ⟨dx, _, upd_same, by rw [upd_ne h2]; exact upd_same, by simp, k dx h1 h2⟩⟩⟩⟩
abbrev s_BadText : Stmt := inClass (top 24) 0
theorem scx_BadText : FnScope ["self", "line", "item"] ["self", "line", "item"] (defScope s_BadText) := ⟨rfl, rfl, rfl, by decide +kernel, rfl, by decide +kernel, by decide +kernel⟩
theorem okx_BadText {P : Program} {w : World} {K : PySem.W.Frag} {mg : Str → Option Value} {base : Heap} {f C : Addr} {fd : FuncData} (F : Fun K "__init__" "BadText.__init__" s_BadText f fd) (T : OexC K C) (noline : PySem.W.findIn K (.ref C) "line" = some none) (noitem : PySem.W.findIn K (.ref C) "item" = some none) : FnOk P w K mg base CX0 1 f fd ["self", "line", "item"] (spE C ["line", "item"]) := by
  refine TW.FnOk.imp (?_ : FnOk P w K mg base CX0 1 f fd ["self", "line", "item"] (spI2 C "line" "item")) spE2
  refine F.ok scx_BadText (fun vs H Q E h => ?_) (fun cdv A outer s H vs Q E hr h => ?_)
  · obtain ⟨a, u0, u1, rfl, _⟩ := h
    rfl
  · obtain ⟨a, u0, u1, rfl, ha, k⟩ := h
    exact ⟨_, pss_cons (ps_ost (pv 0) (pv 1)) (pss_one (ps_ost (pv 0) (pv 2))), u0, rfl, .ref a, rfl, a, C, rfl, T, noline, .inl ⟨ha, fun dx h1 h2 => ⟨u1, rfl, .ref a, rfl, a, C, rfl, T, noitem, .inr ⟨dx, _, upd_same, by rw [upd_ne h2]; exact upd_same, by simp, k dx h1 h2⟩⟩⟩⟩
abbrev s_BadLine : Stmt := inClass (top 25) 0
theorem scx_BadLine : FnScope ["self", "line", "error"] ["self", "line", "error"] (defScope s_BadLine) := ⟨rfl, rfl, rfl, by decide +kernel, rfl, by decide +kernel, by decide +kernel⟩
theorem okx_BadLine {P : Program} {w : World} {K : PySem.W.Frag} {mg : Str → Option Value} {base : Heap} {f C : Addr} {fd : FuncData} (F : Fun K "__init__" "BadLine.__init__" s_BadLine f fd) (T : OexC K C) (noline : PySem.W.findIn K (.ref C) "line" = some none) (noerror : PySem.W.findIn K (.ref C) "error" = some none) : FnOk P w K mg base CX0 1 f fd ["self", "line", "error"] (spE C ["line", "error"]) := by
  refine TW.FnOk.imp (?_ : FnOk P w K mg base CX0 1 f fd ["self", "line", "error"] (spI2 C "line" "error")) spE2
  refine F.ok scx_BadLine (fun vs H Q E h => ?_) (fun cdv A outer s H vs Q E hr h => ?_)
  · obtain ⟨a, u0, u1, rfl, _⟩ := h
    rfl
  · obtain ⟨a, u0, u1, rfl, ha, k⟩ := h
    exact ⟨_, pss_cons (ps_ost (pv 0) (pv 1)) (pss_one (ps_ost (pv 0) (pv 2))), u0, rfl, .ref a, rfl, a, C, rfl, T, noline, .inl ⟨ha, fun dx h1 h2 => ⟨u1, rfl, .ref a, rfl, a, C, rfl, T, noerror, .inr ⟨dx, _, upd_same, by rw [upd_ne h2]; exact upd_same, by simp, k dx h1 h2⟩⟩⟩⟩
abbrev s_Missing : Stmt := inClass (top 14) 0
theorem scx_Missing : FnScope ["self", "value"] ["self", "value"] (defScope s_Missing) := ⟨rfl, rfl, rfl, by decide +kernel, rfl, by decide +kernel, by decide +kernel⟩
theorem okx_Missing {P : Program} {w : World} {K : PySem.W.Frag} {mg : Str → Option Value} {base : Heap} {f C : Addr} {fd : FuncData} (F : Fun K "__init__" "Missing.__init__" s_Missing f fd) (T : OexC K C) (novalue : PySem.W.findIn K (.ref C) "value" = some none) : FnOk P w K mg base CX0 1 f fd ["self", "value"] (spE C ["value"]) := by
  refine TW.FnOk.imp (?_ : FnOk P w K mg base CX0 1 f fd ["self", "value"] (spI1 C "value")) spE1
  refine F.ok scx_Missing (fun vs H Q E h => ?_) (fun cdv A outer s H vs Q E hr h => ?_)
  · obtain ⟨a, u0, rfl, _⟩ := h
    rfl
  · obtain ⟨a, u0, rfl, ha, k⟩ := h
    exact ⟨_, pss_one (ps_ost (pv 0) (pv 1)), u0, rfl, .ref a, rfl, a, C, rfl, T, novalue, .inl ⟨ha, fun dx h1 h2 => k dx h1 h2⟩⟩
def misB (c : Nat) : Bool := (decide (113 ≤ c) && decide (c ≤ 117)) || c == 124
def bsOf (c : Nat) : List Bool := [c == 101, c == 102, c == 103, c == 104, c == 105, c == 106, c == 107, c == 108, c == 109, c == 110, c == 111, c == 112, c == 113, c == 114, c == 115, c == 116, c == 117, c == 118, c == 119, c == 120, c == 121, c == 122, c == 123, misB c, true, true]
theorem nm_bd {c : Nat} {f : Str} (h : f ∈ nm c) : 101 ≤ c ∧ c ≤ 124 := by
  unfold nm at h
  split at h <;> first | exact ⟨by decide, by decide⟩ | (cases h)
theorem isE_bd {c : Nat} (h : isE c = true) : 101 ≤ c ∧ c ≤ 124 := by
  unfold isE at h
  rw [Bool.and_eq_true] at h
  exact ⟨of_decide_eq_true h.1, of_decide_eq_true h.2⟩
theorem cases24 {c : Nat} (h1 : 101 ≤ c) (h2 : c ≤ 124) : c = 101 ∨ c = 102 ∨ c = 103 ∨ c = 104 ∨ c = 105 ∨ c = 106 ∨ c = 107 ∨ c = 108 ∨ c = 109 ∨ c = 110 ∨ c = 111 ∨ c = 112 ∨ c = 113 ∨ c = 114 ∨ c = 115 ∨ c = 116 ∨ c = 117 ∨ c = 118 ∨ c = 119 ∨ c = 120 ∨ c = 121 ∨ c = 122 ∨ c = 123 ∨ c = 124 := by omega
theorem all_mk {l : PySem.W.OpenLaw} {w : World} {K : PySem.W.Frag} {h : Heap} {mg : Str → Option Value} {fa C101 C102 C103 C104 C105 C106 C107 C108 C109 C110 C111 C112 C113 C114 C115 C116 C117 C118 C119 C120 C121 C122 C123 C124 C125 fiC101 fiC102 fiC103 fiC104 fiC105 fiC106 fiC107 fiC108 fiC109 fiC110 fiC111 fiC112 fiC118 fiC119 fiC120 fiC122 fiC123 fiC124 f__law_bag f__law_pull f__law_field f__law_is_one f__law_by_place f__law_by_name f__law_kept f__law_single_right f__law_double_right f__law_raised f__law_caught f_law : Addr} (X : K.In h) (G : h.Ns mainGlobals mg) (hfa : mg "law" = some (.ref fa))
    {nmC101 nmC102 nmC103 nmC104 nmC105 nmC106 nmC107 nmC108 nmC109 nmC110 nmC111 nmC112 nmC113 nmC114 nmC115 nmC116 nmC117 nmC118 nmC119 nmC120 nmC122 nmC123 nmC124 qC101 qC102 qC103 qC104 qC105 qC106 qC107 qC108 qC109 qC110 qC111 qC112 qC113 qC114 qC115 qC116 qC117 qC118 qC119 qC120 qC122 qC123 qC124 : Str} {NC101 NC102 NC103 NC104 NC105 NC106 NC107 NC108 NC109 NC110 NC111 NC112 NC113 NC114 NC115 NC116 NC117 NC118 NC119 NC120 NC122 NC123 NC124 : Addr} {bsC101 bsC102 bsC103 bsC104 bsC105 bsC106 bsC107 bsC108 bsC109 bsC110 bsC111 bsC112 bsC113 bsC114 bsC115 bsC116 bsC117 bsC118 bsC119 bsC120 bsC122 bsC123 bsC124 : List Value} {snC101 snC102 snC103 snC104 snC105 snC106 snC107 snC108 snC109 snC110 snC111 snC112 snC113 snC114 snC115 snC116 snC117 snC118 snC119 snC120 snC122 snC123 snC124 : List Str} {subC101 subC102 subC103 subC104 subC105 subC106 subC107 subC108 subC109 subC110 subC111 subC112 subC113 subC114 subC115 subC116 subC117 subC118 subC119 subC120 subC122 subC123 subC124 : List Value} {abC101 abC102 abC103 abC104 abC105 abC106 abC107 abC108 abC109 abC110 abC111 abC112 abC113 abC114 abC115 abC116 abC117 abC118 abC119 abC120 abC122 abC123 abC124 : Bool} {colC101 colC102 colC103 colC104 colC105 colC106 colC107 colC108 colC109 colC110 colC111 colC112 colC113 colC114 colC115 colC116 colC117 colC118 colC119 colC120 colC122 colC123 colC124 : Option Bool} {m0C101 m0C102 m0C103 m0C104 m0C105 m0C106 m0C107 m0C108 m0C109 m0C110 m0C111 m0C112 m0C113 m0C114 m0C115 m0C116 m0C117 m0C118 m0C119 m0C120 m0C122 m0C123 m0C124 : Option Addr} {m1C101 m1C102 m1C103 m1C104 m1C105 m1C106 m1C107 m1C108 m1C109 m1C110 m1C111 m1C112 m1C113 m1C114 m1C115 m1C116 m1C117 m1C118 m1C119 m1C120 m1C122 m1C123 m1C124 m2C101 m2C102 m2C103 m2C104 m2C105 m2C106 m2C107 m2C108 m2C109 m2C110 m2C111 m2C112 m2C113 m2C114 m2C115 m2C116 m2C117 m2C118 m2C119 m2C120 m2C122 m2C123 m2C124 m3C101 m3C102 m3C103 m3C104 m3C105 m3C106 m3C107 m3C108 m3C109 m3C110 m3C111 m3C112 m3C113 m3C114 m3C115 m3C116 m3C117 m3C118 m3C119 m3C120 m3C122 m3C123 m3C124 m4C101 m4C102 m4C103 m4C104 m4C105 m4C106 m4C107 m4C108 m4C109 m4C110 m4C111 m4C112 m4C113 m4C114 m4C115 m4C116 m4C117 m4C118 m4C119 m4C120 m4C122 m4C123 m4C124 m5C101 m5C102 m5C103 m5C104 m5C105 m5C106 m5C107 m5C108 m5C109 m5C110 m5C111 m5C112 m5C113 m5C114 m5C115 m5C116 m5C117 m5C118 m5C119 m5C120 m5C122 m5C123 m5C124 : Option Value}
    {odC101 odC102 odC103 odC104 odC105 odC106 odC107 odC108 odC109 odC110 odC111 odC112 odC118 odC119 odC120 odC122 odC123 odC124 od__law_bag od__law_pull od__law_field od__law_is_one od__law_by_place od__law_by_name od__law_kept od__law_single_right od__law_double_right od__law_raised od__law_caught od_law anC101 anC102 anC103 anC104 anC105 anC106 anC107 anC108 anC109 anC110 anC111 anC112 anC118 anC119 anC120 anC122 anC123 anC124 an__law_bag an__law_pull an__law_field an__law_is_one an__law_by_place an__law_by_name an__law_kept an__law_single_right an__law_double_right an__law_raised an__law_caught an_law : Option Addr} {slC101 slC102 slC103 slC104 slC105 slC106 slC107 slC108 slC109 slC110 slC111 slC112 slC118 slC119 slC120 slC122 slC123 slC124 sl__law_bag sl__law_pull sl__law_field sl__law_is_one sl__law_by_place sl__law_by_name sl__law_kept sl__law_single_right sl__law_double_right sl__law_raised sl__law_caught sl_law : Array (Option Value)} {ocC101 ocC102 ocC103 ocC104 ocC105 ocC106 ocC107 ocC108 ocC109 ocC110 ocC111 ocC112 ocC118 ocC119 ocC120 ocC122 ocC123 ocC124 oc__law_bag oc__law_pull oc__law_field oc__law_is_one oc__law_by_place oc__law_by_name oc__law_kept oc__law_single_right oc__law_double_right oc__law_raised oc__law_caught oc_law kVC101 kVC102 kVC103 kVC104 kVC105 kVC106 kVC107 kVC108 kVC109 kVC110 kVC111 kVC112 kVC118 kVC119 kVC120 kVC122 kVC123 kVC124 kV__law_bag kV__law_pull kV__law_field kV__law_is_one kV__law_by_place kV__law_by_name kV__law_kept kV__law_single_right kV__law_double_right kV__law_raised kV__law_caught kV_law dcC101 dcC102 dcC103 dcC104 dcC105 dcC106 dcC107 dcC108 dcC109 dcC110 dcC111 dcC112 dcC118 dcC119 dcC120 dcC122 dcC123 dcC124 dc__law_bag dc__law_pull dc__law_field dc__law_is_one dc__law_by_place dc__law_by_name dc__law_kept dc__law_single_right dc__law_double_right dc__law_raised dc__law_caught dc_law pmC101 pmC102 pmC103 pmC104 pmC105 pmC106 pmC107 pmC108 pmC109 pmC110 pmC111 pmC112 pmC118 pmC119 pmC120 pmC122 pmC123 pmC124 pm__law_bag pm__law_pull pm__law_field pm__law_is_one pm__law_by_place pm__law_by_name pm__law_kept pm__law_single_right pm__law_double_right pm__law_raised pm__law_caught pm_law cdC101 cdC102 cdC103 cdC104 cdC105 cdC106 cdC107 cdC108 cdC109 cdC110 cdC111 cdC112 cdC118 cdC119 cdC120 cdC122 cdC123 cdC124 cd__law_bag cd__law_pull cd__law_field cd__law_is_one cd__law_by_place cd__law_by_name cd__law_kept cd__law_single_right cd__law_double_right cd__law_raised cd__law_caught cd_law ctC101 ctC102 ctC103 ctC104 ctC105 ctC106 ctC107 ctC108 ctC109 ctC110 ctC111 ctC112 ctC118 ctC119 ctC120 ctC122 ctC123 ctC124 ct__law_bag ct__law_pull ct__law_field ct__law_is_one ct__law_by_place ct__law_by_name ct__law_kept ct__law_single_right ct__law_double_right ct__law_raised ct__law_caught ct_law : Value} 

    (hnA : PySem.W.specialIn K (.builtin "object.__class__") "__get__" = some (some (.builtin "getset_descriptor.__get__")))
    (htA : PySem.W.takesIn K (.builtin "object.__class__") = some true)
    (aC101 : PySem.W.nsIn K mainGlobals "BadNumber" = some (some (.ref C101)))
    (aC102 : PySem.W.nsIn K mainGlobals "BadRatio" = some (some (.ref C102)))
    (aC103 : PySem.W.nsIn K mainGlobals "BadLot" = some (some (.ref C103)))
    (aC104 : PySem.W.nsIn K mainGlobals "BadBook" = some (some (.ref C104)))
    (aC105 : PySem.W.nsIn K mainGlobals "BadWeb" = some (some (.ref C105)))
    (aC106 : PySem.W.nsIn K mainGlobals "BadPolynomial" = some (some (.ref C106)))
    (aC107 : PySem.W.nsIn K mainGlobals "BadQuotient" = some (some (.ref C107)))
    (aC108 : PySem.W.nsIn K mainGlobals "BadQuestion" = some (some (.ref C108)))
    (aC109 : PySem.W.nsIn K mainGlobals "BadTown" = some (some (.ref C109)))
    (aC110 : PySem.W.nsIn K mainGlobals "BadPaper" = some (some (.ref C110)))
    (aC111 : PySem.W.nsIn K mainGlobals "BadDesk" = some (some (.ref C111)))
    (aC112 : PySem.W.nsIn K mainGlobals "Misfit" = some (some (.ref C112)))
    (aC113 : PySem.W.nsIn K mainGlobals "NoPoint" = some (some (.ref C113)))
    (aC114 : PySem.W.nsIn K mainGlobals "NoTie" = some (some (.ref C114)))
    (aC115 : PySem.W.nsIn K mainGlobals "NoSort" = some (some (.ref C115)))
    (aC116 : PySem.W.nsIn K mainGlobals "NoKind" = some (some (.ref C116)))
    (aC117 : PySem.W.nsIn K mainGlobals "NoName" = some (some (.ref C117)))
    (aC118 : PySem.W.nsIn K mainGlobals "Twice" = some (some (.ref C118)))
    (aC119 : PySem.W.nsIn K mainGlobals "Impossible" = some (some (.ref C119)))
    (aC120 : PySem.W.nsIn K mainGlobals "TooMany" = some (some (.ref C120)))
    (aC121 : PySem.W.nsIn K mainGlobals "Nothing" = some (some (.ref C121)))
    (aC122 : PySem.W.nsIn K mainGlobals "BadText" = some (some (.ref C122)))
    (aC123 : PySem.W.nsIn K mainGlobals "BadLine" = some (some (.ref C123)))
    (aC124 : PySem.W.nsIn K mainGlobals "Missing" = some (some (.ref C124)))
    (aC125 : PySem.W.nsIn K mainGlobals "ThinError" = some (some (.ref C125)))
    (xLC101 : K.lookup C101 = some (excClassObj nmC101 qC101 C101 NC101 bsC101 [.ref C125, .type "ValueError", .type "Exception", .type "BaseException", .type "object"] true snC101 subC101 abC101 colC101 m0C101 m1C101 m2C101 m3C101 m4C101 m5C101 "ValueError.__new__"))
    (xLC102 : K.lookup C102 = some (excClassObj nmC102 qC102 C102 NC102 bsC102 [.ref C125, .type "ValueError", .type "Exception", .type "BaseException", .type "object"] true snC102 subC102 abC102 colC102 m0C102 m1C102 m2C102 m3C102 m4C102 m5C102 "ValueError.__new__"))
    (xLC103 : K.lookup C103 = some (excClassObj nmC103 qC103 C103 NC103 bsC103 [.ref C125, .type "ValueError", .type "Exception", .type "BaseException", .type "object"] true snC103 subC103 abC103 colC103 m0C103 m1C103 m2C103 m3C103 m4C103 m5C103 "ValueError.__new__"))
    (xLC104 : K.lookup C104 = some (excClassObj nmC104 qC104 C104 NC104 bsC104 [.ref C125, .type "ValueError", .type "Exception", .type "BaseException", .type "object"] true snC104 subC104 abC104 colC104 m0C104 m1C104 m2C104 m3C104 m4C104 m5C104 "ValueError.__new__"))
    (xLC105 : K.lookup C105 = some (excClassObj nmC105 qC105 C105 NC105 bsC105 [.ref C125, .type "ValueError", .type "Exception", .type "BaseException", .type "object"] true snC105 subC105 abC105 colC105 m0C105 m1C105 m2C105 m3C105 m4C105 m5C105 "ValueError.__new__"))
    (xLC106 : K.lookup C106 = some (excClassObj nmC106 qC106 C106 NC106 bsC106 [.ref C125, .type "ValueError", .type "Exception", .type "BaseException", .type "object"] true snC106 subC106 abC106 colC106 m0C106 m1C106 m2C106 m3C106 m4C106 m5C106 "ValueError.__new__"))
    (xLC107 : K.lookup C107 = some (excClassObj nmC107 qC107 C107 NC107 bsC107 [.ref C125, .type "ValueError", .type "Exception", .type "BaseException", .type "object"] true snC107 subC107 abC107 colC107 m0C107 m1C107 m2C107 m3C107 m4C107 m5C107 "ValueError.__new__"))
    (xLC108 : K.lookup C108 = some (excClassObj nmC108 qC108 C108 NC108 bsC108 [.ref C125, .type "ValueError", .type "Exception", .type "BaseException", .type "object"] true snC108 subC108 abC108 colC108 m0C108 m1C108 m2C108 m3C108 m4C108 m5C108 "ValueError.__new__"))
    (xLC109 : K.lookup C109 = some (excClassObj nmC109 qC109 C109 NC109 bsC109 [.ref C125, .type "ValueError", .type "Exception", .type "BaseException", .type "object"] true snC109 subC109 abC109 colC109 m0C109 m1C109 m2C109 m3C109 m4C109 m5C109 "ValueError.__new__"))
    (xLC110 : K.lookup C110 = some (excClassObj nmC110 qC110 C110 NC110 bsC110 [.ref C125, .type "ValueError", .type "Exception", .type "BaseException", .type "object"] true snC110 subC110 abC110 colC110 m0C110 m1C110 m2C110 m3C110 m4C110 m5C110 "ValueError.__new__"))
    (xLC111 : K.lookup C111 = some (excClassObj nmC111 qC111 C111 NC111 bsC111 [.ref C125, .type "ValueError", .type "Exception", .type "BaseException", .type "object"] true snC111 subC111 abC111 colC111 m0C111 m1C111 m2C111 m3C111 m4C111 m5C111 "ValueError.__new__"))
    (xLC112 : K.lookup C112 = some (excClassObj nmC112 qC112 C112 NC112 bsC112 [.ref C125, .type "ValueError", .type "Exception", .type "BaseException", .type "object"] true snC112 subC112 abC112 colC112 m0C112 m1C112 m2C112 m3C112 m4C112 m5C112 "ValueError.__new__"))
    (xLC113 : K.lookup C113 = some (excClassObj nmC113 qC113 C113 NC113 bsC113 [.ref C124, .ref C125, .type "ValueError", .type "Exception", .type "BaseException", .type "object"] true snC113 subC113 abC113 colC113 m0C113 m1C113 m2C113 m3C113 m4C113 m5C113 "ValueError.__new__"))
    (xLC114 : K.lookup C114 = some (excClassObj nmC114 qC114 C114 NC114 bsC114 [.ref C124, .ref C125, .type "ValueError", .type "Exception", .type "BaseException", .type "object"] true snC114 subC114 abC114 colC114 m0C114 m1C114 m2C114 m3C114 m4C114 m5C114 "ValueError.__new__"))
    (xLC115 : K.lookup C115 = some (excClassObj nmC115 qC115 C115 NC115 bsC115 [.ref C124, .ref C125, .type "ValueError", .type "Exception", .type "BaseException", .type "object"] true snC115 subC115 abC115 colC115 m0C115 m1C115 m2C115 m3C115 m4C115 m5C115 "ValueError.__new__"))
    (xLC116 : K.lookup C116 = some (excClassObj nmC116 qC116 C116 NC116 bsC116 [.ref C124, .ref C125, .type "ValueError", .type "Exception", .type "BaseException", .type "object"] true snC116 subC116 abC116 colC116 m0C116 m1C116 m2C116 m3C116 m4C116 m5C116 "ValueError.__new__"))
    (xLC117 : K.lookup C117 = some (excClassObj nmC117 qC117 C117 NC117 bsC117 [.ref C124, .ref C125, .type "ValueError", .type "Exception", .type "BaseException", .type "object"] true snC117 subC117 abC117 colC117 m0C117 m1C117 m2C117 m3C117 m4C117 m5C117 "ValueError.__new__"))
    (xLC118 : K.lookup C118 = some (excClassObj nmC118 qC118 C118 NC118 bsC118 [.ref C125, .type "ValueError", .type "Exception", .type "BaseException", .type "object"] true snC118 subC118 abC118 colC118 m0C118 m1C118 m2C118 m3C118 m4C118 m5C118 "ValueError.__new__"))
    (xLC119 : K.lookup C119 = some (excClassObj nmC119 qC119 C119 NC119 bsC119 [.ref C125, .type "ValueError", .type "Exception", .type "BaseException", .type "object"] true snC119 subC119 abC119 colC119 m0C119 m1C119 m2C119 m3C119 m4C119 m5C119 "ValueError.__new__"))
    (xLC120 : K.lookup C120 = some (excClassObj nmC120 qC120 C120 NC120 bsC120 [.ref C125, .type "ValueError", .type "Exception", .type "BaseException", .type "object"] true snC120 subC120 abC120 colC120 m0C120 m1C120 m2C120 m3C120 m4C120 m5C120 "ValueError.__new__"))
    (xLC122 : K.lookup C122 = some (excClassObj nmC122 qC122 C122 NC122 bsC122 [.ref C125, .type "ValueError", .type "Exception", .type "BaseException", .type "object"] true snC122 subC122 abC122 colC122 m0C122 m1C122 m2C122 m3C122 m4C122 m5C122 "ValueError.__new__"))
    (xLC123 : K.lookup C123 = some (excClassObj nmC123 qC123 C123 NC123 bsC123 [.ref C125, .type "ValueError", .type "Exception", .type "BaseException", .type "object"] true snC123 subC123 abC123 colC123 m0C123 m1C123 m2C123 m3C123 m4C123 m5C123 "ValueError.__new__"))
    (xLC124 : K.lookup C124 = some (excClassObj nmC124 qC124 C124 NC124 bsC124 [.ref C125, .type "ValueError", .type "Exception", .type "BaseException", .type "object"] true snC124 subC124 abC124 colC124 m0C124 m1C124 m2C124 m3C124 m4C124 m5C124 "ValueError.__new__"))
    (iC101 : PySem.W.findIn K (.ref C101) "__init__" = some (some (.ref fiC101)))
    (lC101 : K.lookup fiC101 = some ⟨ocC101, odC101, .func (PySem.W.fnOf "__init__" "BadNumber.__init__" (defArgs s_BadNumber) (defBody s_BadNumber) (defScope s_BadNumber) .none kVC101 dcC101 pmC101 anC101 cdC101 ctC101), slC101⟩)
    (cC101 : PySem.W.codeIn K cdC101 "BadNumber.__init__" = true)
    (kfC101 : PySem.W.keepIn K (.ref fiC101) = true)
    (iC102 : PySem.W.findIn K (.ref C102) "__init__" = some (some (.ref fiC102)))
    (lC102 : K.lookup fiC102 = some ⟨ocC102, odC102, .func (PySem.W.fnOf "__init__" "BadRatio.__init__" (defArgs s_BadRatio) (defBody s_BadRatio) (defScope s_BadRatio) .none kVC102 dcC102 pmC102 anC102 cdC102 ctC102), slC102⟩)
    (cC102 : PySem.W.codeIn K cdC102 "BadRatio.__init__" = true)
    (kfC102 : PySem.W.keepIn K (.ref fiC102) = true)
    (iC103 : PySem.W.findIn K (.ref C103) "__init__" = some (some (.ref fiC103)))
    (lC103 : K.lookup fiC103 = some ⟨ocC103, odC103, .func (PySem.W.fnOf "__init__" "BadLot.__init__" (defArgs s_BadLot) (defBody s_BadLot) (defScope s_BadLot) .none kVC103 dcC103 pmC103 anC103 cdC103 ctC103), slC103⟩)
    (cC103 : PySem.W.codeIn K cdC103 "BadLot.__init__" = true)
    (kfC103 : PySem.W.keepIn K (.ref fiC103) = true)
    (iC104 : PySem.W.findIn K (.ref C104) "__init__" = some (some (.ref fiC104)))
    (lC104 : K.lookup fiC104 = some ⟨ocC104, odC104, .func (PySem.W.fnOf "__init__" "BadBook.__init__" (defArgs s_BadBook) (defBody s_BadBook) (defScope s_BadBook) .none kVC104 dcC104 pmC104 anC104 cdC104 ctC104), slC104⟩)
    (cC104 : PySem.W.codeIn K cdC104 "BadBook.__init__" = true)
    (kfC104 : PySem.W.keepIn K (.ref fiC104) = true)
    (iC105 : PySem.W.findIn K (.ref C105) "__init__" = some (some (.ref fiC105)))
    (lC105 : K.lookup fiC105 = some ⟨ocC105, odC105, .func (PySem.W.fnOf "__init__" "BadWeb.__init__" (defArgs s_BadWeb) (defBody s_BadWeb) (defScope s_BadWeb) .none kVC105 dcC105 pmC105 anC105 cdC105 ctC105), slC105⟩)
    (cC105 : PySem.W.codeIn K cdC105 "BadWeb.__init__" = true)
    (kfC105 : PySem.W.keepIn K (.ref fiC105) = true)
    (iC106 : PySem.W.findIn K (.ref C106) "__init__" = some (some (.ref fiC106)))
    (lC106 : K.lookup fiC106 = some ⟨ocC106, odC106, .func (PySem.W.fnOf "__init__" "BadPolynomial.__init__" (defArgs s_BadPolynomial) (defBody s_BadPolynomial) (defScope s_BadPolynomial) .none kVC106 dcC106 pmC106 anC106 cdC106 ctC106), slC106⟩)
    (cC106 : PySem.W.codeIn K cdC106 "BadPolynomial.__init__" = true)
    (kfC106 : PySem.W.keepIn K (.ref fiC106) = true)
    (iC107 : PySem.W.findIn K (.ref C107) "__init__" = some (some (.ref fiC107)))
    (lC107 : K.lookup fiC107 = some ⟨ocC107, odC107, .func (PySem.W.fnOf "__init__" "BadQuotient.__init__" (defArgs s_BadQuotient) (defBody s_BadQuotient) (defScope s_BadQuotient) .none kVC107 dcC107 pmC107 anC107 cdC107 ctC107), slC107⟩)
    (cC107 : PySem.W.codeIn K cdC107 "BadQuotient.__init__" = true)
    (kfC107 : PySem.W.keepIn K (.ref fiC107) = true)
    (iC108 : PySem.W.findIn K (.ref C108) "__init__" = some (some (.ref fiC108)))
    (lC108 : K.lookup fiC108 = some ⟨ocC108, odC108, .func (PySem.W.fnOf "__init__" "BadQuestion.__init__" (defArgs s_BadQuestion) (defBody s_BadQuestion) (defScope s_BadQuestion) .none kVC108 dcC108 pmC108 anC108 cdC108 ctC108), slC108⟩)
    (cC108 : PySem.W.codeIn K cdC108 "BadQuestion.__init__" = true)
    (kfC108 : PySem.W.keepIn K (.ref fiC108) = true)
    (iC109 : PySem.W.findIn K (.ref C109) "__init__" = some (some (.ref fiC109)))
    (lC109 : K.lookup fiC109 = some ⟨ocC109, odC109, .func (PySem.W.fnOf "__init__" "BadTown.__init__" (defArgs s_BadTown) (defBody s_BadTown) (defScope s_BadTown) .none kVC109 dcC109 pmC109 anC109 cdC109 ctC109), slC109⟩)
    (cC109 : PySem.W.codeIn K cdC109 "BadTown.__init__" = true)
    (kfC109 : PySem.W.keepIn K (.ref fiC109) = true)
    (iC110 : PySem.W.findIn K (.ref C110) "__init__" = some (some (.ref fiC110)))
    (lC110 : K.lookup fiC110 = some ⟨ocC110, odC110, .func (PySem.W.fnOf "__init__" "BadPaper.__init__" (defArgs s_BadPaper) (defBody s_BadPaper) (defScope s_BadPaper) .none kVC110 dcC110 pmC110 anC110 cdC110 ctC110), slC110⟩)
    (cC110 : PySem.W.codeIn K cdC110 "BadPaper.__init__" = true)
    (kfC110 : PySem.W.keepIn K (.ref fiC110) = true)
    (iC111 : PySem.W.findIn K (.ref C111) "__init__" = some (some (.ref fiC111)))
    (lC111 : K.lookup fiC111 = some ⟨ocC111, odC111, .func (PySem.W.fnOf "__init__" "BadDesk.__init__" (defArgs s_BadDesk) (defBody s_BadDesk) (defScope s_BadDesk) .none kVC111 dcC111 pmC111 anC111 cdC111 ctC111), slC111⟩)
    (cC111 : PySem.W.codeIn K cdC111 "BadDesk.__init__" = true)
    (kfC111 : PySem.W.keepIn K (.ref fiC111) = true)
    (iC112 : PySem.W.findIn K (.ref C112) "__init__" = some (some (.ref fiC112)))
    (lC112 : K.lookup fiC112 = some ⟨ocC112, odC112, .func (PySem.W.fnOf "__init__" "Misfit.__init__" (defArgs s_Misfit) (defBody s_Misfit) (defScope s_Misfit) .none kVC112 dcC112 pmC112 anC112 cdC112 ctC112), slC112⟩)
    (cC112 : PySem.W.codeIn K cdC112 "Misfit.__init__" = true)
    (kfC112 : PySem.W.keepIn K (.ref fiC112) = true)
    (iC118 : PySem.W.findIn K (.ref C118) "__init__" = some (some (.ref fiC118)))
    (lC118 : K.lookup fiC118 = some ⟨ocC118, odC118, .func (PySem.W.fnOf "__init__" "Twice.__init__" (defArgs s_Twice) (defBody s_Twice) (defScope s_Twice) .none kVC118 dcC118 pmC118 anC118 cdC118 ctC118), slC118⟩)
    (cC118 : PySem.W.codeIn K cdC118 "Twice.__init__" = true)
    (kfC118 : PySem.W.keepIn K (.ref fiC118) = true)
    (iC119 : PySem.W.findIn K (.ref C119) "__init__" = some (some (.ref fiC119)))
    (lC119 : K.lookup fiC119 = some ⟨ocC119, odC119, .func (PySem.W.fnOf "__init__" "Impossible.__init__" (defArgs s_Impossible) (defBody s_Impossible) (defScope s_Impossible) .none kVC119 dcC119 pmC119 anC119 cdC119 ctC119), slC119⟩)
    (cC119 : PySem.W.codeIn K cdC119 "Impossible.__init__" = true)
    (kfC119 : PySem.W.keepIn K (.ref fiC119) = true)
    (iC120 : PySem.W.findIn K (.ref C120) "__init__" = some (some (.ref fiC120)))
    (lC120 : K.lookup fiC120 = some ⟨ocC120, odC120, .func (PySem.W.fnOf "__init__" "TooMany.__init__" (defArgs s_TooMany) (defBody s_TooMany) (defScope s_TooMany) .none kVC120 dcC120 pmC120 anC120 cdC120 ctC120), slC120⟩)
    (cC120 : PySem.W.codeIn K cdC120 "TooMany.__init__" = true)
    (kfC120 : PySem.W.keepIn K (.ref fiC120) = true)
    (iC122 : PySem.W.findIn K (.ref C122) "__init__" = some (some (.ref fiC122)))
    (lC122 : K.lookup fiC122 = some ⟨ocC122, odC122, .func (PySem.W.fnOf "__init__" "BadText.__init__" (defArgs s_BadText) (defBody s_BadText) (defScope s_BadText) .none kVC122 dcC122 pmC122 anC122 cdC122 ctC122), slC122⟩)
    (cC122 : PySem.W.codeIn K cdC122 "BadText.__init__" = true)
    (kfC122 : PySem.W.keepIn K (.ref fiC122) = true)
    (iC123 : PySem.W.findIn K (.ref C123) "__init__" = some (some (.ref fiC123)))
    (lC123 : K.lookup fiC123 = some ⟨ocC123, odC123, .func (PySem.W.fnOf "__init__" "BadLine.__init__" (defArgs s_BadLine) (defBody s_BadLine) (defScope s_BadLine) .none kVC123 dcC123 pmC123 anC123 cdC123 ctC123), slC123⟩)
    (cC123 : PySem.W.codeIn K cdC123 "BadLine.__init__" = true)
    (kfC123 : PySem.W.keepIn K (.ref fiC123) = true)
    (iC124 : PySem.W.findIn K (.ref C124) "__init__" = some (some (.ref fiC124)))
    (lC124 : K.lookup fiC124 = some ⟨ocC124, odC124, .func (PySem.W.fnOf "__init__" "Missing.__init__" (defArgs s_Missing) (defBody s_Missing) (defScope s_Missing) .none kVC124 dcC124 pmC124 anC124 cdC124 ctC124), slC124⟩)
    (cC124 : PySem.W.codeIn K cdC124 "Missing.__init__" = true)
    (kfC124 : PySem.W.keepIn K (.ref fiC124) = true)
    (erC101 : erB K C101 fiC101 ["part"] = true)
    (krC101 : kitRow K C101 [.ref C101, .ref C102, .ref C103, .ref C104, .ref C105, .ref C106, .ref C107, .ref C108, .ref C109, .ref C110, .ref C111, .ref C112, .ref C113, .ref C114, .ref C115, .ref C116, .ref C117, .ref C118, .ref C119, .ref C120, .ref C121, .ref C122, .ref C123, .ref C124, .ref C125, .type "ValueError"] (bsOf 101) = true)
    (k5C101 : kitRowAny K C101 [.type "LookupError", .type "TypeError", .type "ArithmeticError", .type "AttributeError", .type "RuntimeError"] false = true)
    (k6C101 : kitRowAny K C101 [.ref C113, .ref C114, .ref C115, .ref C116, .ref C117, .ref C118] (decide (113 ≤ 101) && decide (101 ≤ 118)) = true)
    (exC101 : exmRow K C101 [.ref C124, .ref C118, .ref C125] [misB 101, 101 == 118, true] = true)
    (erC102 : erB K C102 fiC102 ["part"] = true)
    (krC102 : kitRow K C102 [.ref C101, .ref C102, .ref C103, .ref C104, .ref C105, .ref C106, .ref C107, .ref C108, .ref C109, .ref C110, .ref C111, .ref C112, .ref C113, .ref C114, .ref C115, .ref C116, .ref C117, .ref C118, .ref C119, .ref C120, .ref C121, .ref C122, .ref C123, .ref C124, .ref C125, .type "ValueError"] (bsOf 102) = true)
    (k5C102 : kitRowAny K C102 [.type "LookupError", .type "TypeError", .type "ArithmeticError", .type "AttributeError", .type "RuntimeError"] false = true)
    (k6C102 : kitRowAny K C102 [.ref C113, .ref C114, .ref C115, .ref C116, .ref C117, .ref C118] (decide (113 ≤ 102) && decide (102 ≤ 118)) = true)
    (exC102 : exmRow K C102 [.ref C124, .ref C118, .ref C125] [misB 102, 102 == 118, true] = true)
    (erC103 : erB K C103 fiC103 ["part"] = true)
    (krC103 : kitRow K C103 [.ref C101, .ref C102, .ref C103, .ref C104, .ref C105, .ref C106, .ref C107, .ref C108, .ref C109, .ref C110, .ref C111, .ref C112, .ref C113, .ref C114, .ref C115, .ref C116, .ref C117, .ref C118, .ref C119, .ref C120, .ref C121, .ref C122, .ref C123, .ref C124, .ref C125, .type "ValueError"] (bsOf 103) = true)
    (k5C103 : kitRowAny K C103 [.type "LookupError", .type "TypeError", .type "ArithmeticError", .type "AttributeError", .type "RuntimeError"] false = true)
    (k6C103 : kitRowAny K C103 [.ref C113, .ref C114, .ref C115, .ref C116, .ref C117, .ref C118] (decide (113 ≤ 103) && decide (103 ≤ 118)) = true)
    (exC103 : exmRow K C103 [.ref C124, .ref C118, .ref C125] [misB 103, 103 == 118, true] = true)
    (erC104 : erB K C104 fiC104 ["part"] = true)
    (krC104 : kitRow K C104 [.ref C101, .ref C102, .ref C103, .ref C104, .ref C105, .ref C106, .ref C107, .ref C108, .ref C109, .ref C110, .ref C111, .ref C112, .ref C113, .ref C114, .ref C115, .ref C116, .ref C117, .ref C118, .ref C119, .ref C120, .ref C121, .ref C122, .ref C123, .ref C124, .ref C125, .type "ValueError"] (bsOf 104) = true)
    (k5C104 : kitRowAny K C104 [.type "LookupError", .type "TypeError", .type "ArithmeticError", .type "AttributeError", .type "RuntimeError"] false = true)
    (k6C104 : kitRowAny K C104 [.ref C113, .ref C114, .ref C115, .ref C116, .ref C117, .ref C118] (decide (113 ≤ 104) && decide (104 ≤ 118)) = true)
    (exC104 : exmRow K C104 [.ref C124, .ref C118, .ref C125] [misB 104, 104 == 118, true] = true)
    (erC105 : erB K C105 fiC105 ["part"] = true)
    (krC105 : kitRow K C105 [.ref C101, .ref C102, .ref C103, .ref C104, .ref C105, .ref C106, .ref C107, .ref C108, .ref C109, .ref C110, .ref C111, .ref C112, .ref C113, .ref C114, .ref C115, .ref C116, .ref C117, .ref C118, .ref C119, .ref C120, .ref C121, .ref C122, .ref C123, .ref C124, .ref C125, .type "ValueError"] (bsOf 105) = true)
    (k5C105 : kitRowAny K C105 [.type "LookupError", .type "TypeError", .type "ArithmeticError", .type "AttributeError", .type "RuntimeError"] false = true)
    (k6C105 : kitRowAny K C105 [.ref C113, .ref C114, .ref C115, .ref C116, .ref C117, .ref C118] (decide (113 ≤ 105) && decide (105 ≤ 118)) = true)
    (exC105 : exmRow K C105 [.ref C124, .ref C118, .ref C125] [misB 105, 105 == 118, true] = true)
    (erC106 : erB K C106 fiC106 ["part"] = true)
    (krC106 : kitRow K C106 [.ref C101, .ref C102, .ref C103, .ref C104, .ref C105, .ref C106, .ref C107, .ref C108, .ref C109, .ref C110, .ref C111, .ref C112, .ref C113, .ref C114, .ref C115, .ref C116, .ref C117, .ref C118, .ref C119, .ref C120, .ref C121, .ref C122, .ref C123, .ref C124, .ref C125, .type "ValueError"] (bsOf 106) = true)
    (k5C106 : kitRowAny K C106 [.type "LookupError", .type "TypeError", .type "ArithmeticError", .type "AttributeError", .type "RuntimeError"] false = true)
    (k6C106 : kitRowAny K C106 [.ref C113, .ref C114, .ref C115, .ref C116, .ref C117, .ref C118] (decide (113 ≤ 106) && decide (106 ≤ 118)) = true)
    (exC106 : exmRow K C106 [.ref C124, .ref C118, .ref C125] [misB 106, 106 == 118, true] = true)
    (erC107 : erB K C107 fiC107 ["part"] = true)
    (krC107 : kitRow K C107 [.ref C101, .ref C102, .ref C103, .ref C104, .ref C105, .ref C106, .ref C107, .ref C108, .ref C109, .ref C110, .ref C111, .ref C112, .ref C113, .ref C114, .ref C115, .ref C116, .ref C117, .ref C118, .ref C119, .ref C120, .ref C121, .ref C122, .ref C123, .ref C124, .ref C125, .type "ValueError"] (bsOf 107) = true)
    (k5C107 : kitRowAny K C107 [.type "LookupError", .type "TypeError", .type "ArithmeticError", .type "AttributeError", .type "RuntimeError"] false = true)
    (k6C107 : kitRowAny K C107 [.ref C113, .ref C114, .ref C115, .ref C116, .ref C117, .ref C118] (decide (113 ≤ 107) && decide (107 ≤ 118)) = true)
    (exC107 : exmRow K C107 [.ref C124, .ref C118, .ref C125] [misB 107, 107 == 118, true] = true)
    (erC108 : erB K C108 fiC108 ["part"] = true)
    (krC108 : kitRow K C108 [.ref C101, .ref C102, .ref C103, .ref C104, .ref C105, .ref C106, .ref C107, .ref C108, .ref C109, .ref C110, .ref C111, .ref C112, .ref C113, .ref C114, .ref C115, .ref C116, .ref C117, .ref C118, .ref C119, .ref C120, .ref C121, .ref C122, .ref C123, .ref C124, .ref C125, .type "ValueError"] (bsOf 108) = true)
    (k5C108 : kitRowAny K C108 [.type "LookupError", .type "TypeError", .type "ArithmeticError", .type "AttributeError", .type "RuntimeError"] false = true)
    (k6C108 : kitRowAny K C108 [.ref C113, .ref C114, .ref C115, .ref C116, .ref C117, .ref C118] (decide (113 ≤ 108) && decide (108 ≤ 118)) = true)
    (exC108 : exmRow K C108 [.ref C124, .ref C118, .ref C125] [misB 108, 108 == 118, true] = true)
    (erC109 : erB K C109 fiC109 ["part"] = true)
    (krC109 : kitRow K C109 [.ref C101, .ref C102, .ref C103, .ref C104, .ref C105, .ref C106, .ref C107, .ref C108, .ref C109, .ref C110, .ref C111, .ref C112, .ref C113, .ref C114, .ref C115, .ref C116, .ref C117, .ref C118, .ref C119, .ref C120, .ref C121, .ref C122, .ref C123, .ref C124, .ref C125, .type "ValueError"] (bsOf 109) = true)
    (k5C109 : kitRowAny K C109 [.type "LookupError", .type "TypeError", .type "ArithmeticError", .type "AttributeError", .type "RuntimeError"] false = true)
    (k6C109 : kitRowAny K C109 [.ref C113, .ref C114, .ref C115, .ref C116, .ref C117, .ref C118] (decide (113 ≤ 109) && decide (109 ≤ 118)) = true)
    (exC109 : exmRow K C109 [.ref C124, .ref C118, .ref C125] [misB 109, 109 == 118, true] = true)
    (erC110 : erB K C110 fiC110 ["part"] = true)
    (krC110 : kitRow K C110 [.ref C101, .ref C102, .ref C103, .ref C104, .ref C105, .ref C106, .ref C107, .ref C108, .ref C109, .ref C110, .ref C111, .ref C112, .ref C113, .ref C114, .ref C115, .ref C116, .ref C117, .ref C118, .ref C119, .ref C120, .ref C121, .ref C122, .ref C123, .ref C124, .ref C125, .type "ValueError"] (bsOf 110) = true)
    (k5C110 : kitRowAny K C110 [.type "LookupError", .type "TypeError", .type "ArithmeticError", .type "AttributeError", .type "RuntimeError"] false = true)
    (k6C110 : kitRowAny K C110 [.ref C113, .ref C114, .ref C115, .ref C116, .ref C117, .ref C118] (decide (113 ≤ 110) && decide (110 ≤ 118)) = true)
    (exC110 : exmRow K C110 [.ref C124, .ref C118, .ref C125] [misB 110, 110 == 118, true] = true)
    (erC111 : erB K C111 fiC111 ["part"] = true)
    (krC111 : kitRow K C111 [.ref C101, .ref C102, .ref C103, .ref C104, .ref C105, .ref C106, .ref C107, .ref C108, .ref C109, .ref C110, .ref C111, .ref C112, .ref C113, .ref C114, .ref C115, .ref C116, .ref C117, .ref C118, .ref C119, .ref C120, .ref C121, .ref C122, .ref C123, .ref C124, .ref C125, .type "ValueError"] (bsOf 111) = true)
    (k5C111 : kitRowAny K C111 [.type "LookupError", .type "TypeError", .type "ArithmeticError", .type "AttributeError", .type "RuntimeError"] false = true)
    (k6C111 : kitRowAny K C111 [.ref C113, .ref C114, .ref C115, .ref C116, .ref C117, .ref C118] (decide (113 ≤ 111) && decide (111 ≤ 118)) = true)
    (exC111 : exmRow K C111 [.ref C124, .ref C118, .ref C125] [misB 111, 111 == 118, true] = true)
    (erC112 : erB K C112 fiC112 ["part"] = true)
    (krC112 : kitRow K C112 [.ref C101, .ref C102, .ref C103, .ref C104, .ref C105, .ref C106, .ref C107, .ref C108, .ref C109, .ref C110, .ref C111, .ref C112, .ref C113, .ref C114, .ref C115, .ref C116, .ref C117, .ref C118, .ref C119, .ref C120, .ref C121, .ref C122, .ref C123, .ref C124, .ref C125, .type "ValueError"] (bsOf 112) = true)
    (k5C112 : kitRowAny K C112 [.type "LookupError", .type "TypeError", .type "ArithmeticError", .type "AttributeError", .type "RuntimeError"] false = true)
    (k6C112 : kitRowAny K C112 [.ref C113, .ref C114, .ref C115, .ref C116, .ref C117, .ref C118] (decide (113 ≤ 112) && decide (112 ≤ 118)) = true)
    (exC112 : exmRow K C112 [.ref C124, .ref C118, .ref C125] [misB 112, 112 == 118, true] = true)
    (erC113 : erB K C113 fiC124 ["value"] = true)
    (krC113 : kitRow K C113 [.ref C101, .ref C102, .ref C103, .ref C104, .ref C105, .ref C106, .ref C107, .ref C108, .ref C109, .ref C110, .ref C111, .ref C112, .ref C113, .ref C114, .ref C115, .ref C116, .ref C117, .ref C118, .ref C119, .ref C120, .ref C121, .ref C122, .ref C123, .ref C124, .ref C125, .type "ValueError"] (bsOf 113) = true)
    (k5C113 : kitRowAny K C113 [.type "LookupError", .type "TypeError", .type "ArithmeticError", .type "AttributeError", .type "RuntimeError"] false = true)
    (k6C113 : kitRowAny K C113 [.ref C113, .ref C114, .ref C115, .ref C116, .ref C117, .ref C118] (decide (113 ≤ 113) && decide (113 ≤ 118)) = true)
    (exC113 : exmRow K C113 [.ref C124, .ref C118, .ref C125] [misB 113, 113 == 118, true] = true)
    (erC114 : erB K C114 fiC124 ["value"] = true)
    (krC114 : kitRow K C114 [.ref C101, .ref C102, .ref C103, .ref C104, .ref C105, .ref C106, .ref C107, .ref C108, .ref C109, .ref C110, .ref C111, .ref C112, .ref C113, .ref C114, .ref C115, .ref C116, .ref C117, .ref C118, .ref C119, .ref C120, .ref C121, .ref C122, .ref C123, .ref C124, .ref C125, .type "ValueError"] (bsOf 114) = true)
    (k5C114 : kitRowAny K C114 [.type "LookupError", .type "TypeError", .type "ArithmeticError", .type "AttributeError", .type "RuntimeError"] false = true)
    (k6C114 : kitRowAny K C114 [.ref C113, .ref C114, .ref C115, .ref C116, .ref C117, .ref C118] (decide (113 ≤ 114) && decide (114 ≤ 118)) = true)
    (exC114 : exmRow K C114 [.ref C124, .ref C118, .ref C125] [misB 114, 114 == 118, true] = true)
    (erC115 : erB K C115 fiC124 ["value"] = true)
    (krC115 : kitRow K C115 [.ref C101, .ref C102, .ref C103, .ref C104, .ref C105, .ref C106, .ref C107, .ref C108, .ref C109, .ref C110, .ref C111, .ref C112, .ref C113, .ref C114, .ref C115, .ref C116, .ref C117, .ref C118, .ref C119, .ref C120, .ref C121, .ref C122, .ref C123, .ref C124, .ref C125, .type "ValueError"] (bsOf 115) = true)
    (k5C115 : kitRowAny K C115 [.type "LookupError", .type "TypeError", .type "ArithmeticError", .type "AttributeError", .type "RuntimeError"] false = true)
    (k6C115 : kitRowAny K C115 [.ref C113, .ref C114, .ref C115, .ref C116, .ref C117, .ref C118] (decide (113 ≤ 115) && decide (115 ≤ 118)) = true)
    (exC115 : exmRow K C115 [.ref C124, .ref C118, .ref C125] [misB 115, 115 == 118, true] = true)
    (erC116 : erB K C116 fiC124 ["value"] = true)
    (krC116 : kitRow K C116 [.ref C101, .ref C102, .ref C103, .ref C104, .ref C105, .ref C106, .ref C107, .ref C108, .ref C109, .ref C110, .ref C111, .ref C112, .ref C113, .ref C114, .ref C115, .ref C116, .ref C117, .ref C118, .ref C119, .ref C120, .ref C121, .ref C122, .ref C123, .ref C124, .ref C125, .type "ValueError"] (bsOf 116) = true)
    (k5C116 : kitRowAny K C116 [.type "LookupError", .type "TypeError", .type "ArithmeticError", .type "AttributeError", .type "RuntimeError"] false = true)
    (k6C116 : kitRowAny K C116 [.ref C113, .ref C114, .ref C115, .ref C116, .ref C117, .ref C118] (decide (113 ≤ 116) && decide (116 ≤ 118)) = true)
    (exC116 : exmRow K C116 [.ref C124, .ref C118, .ref C125] [misB 116, 116 == 118, true] = true)
    (erC117 : erB K C117 fiC124 ["value"] = true)
    (krC117 : kitRow K C117 [.ref C101, .ref C102, .ref C103, .ref C104, .ref C105, .ref C106, .ref C107, .ref C108, .ref C109, .ref C110, .ref C111, .ref C112, .ref C113, .ref C114, .ref C115, .ref C116, .ref C117, .ref C118, .ref C119, .ref C120, .ref C121, .ref C122, .ref C123, .ref C124, .ref C125, .type "ValueError"] (bsOf 117) = true)
    (k5C117 : kitRowAny K C117 [.type "LookupError", .type "TypeError", .type "ArithmeticError", .type "AttributeError", .type "RuntimeError"] false = true)
    (k6C117 : kitRowAny K C117 [.ref C113, .ref C114, .ref C115, .ref C116, .ref C117, .ref C118] (decide (113 ≤ 117) && decide (117 ≤ 118)) = true)
    (exC117 : exmRow K C117 [.ref C124, .ref C118, .ref C125] [misB 117, 117 == 118, true] = true)
    (erC118 : erB K C118 fiC118 ["value"] = true)
    (krC118 : kitRow K C118 [.ref C101, .ref C102, .ref C103, .ref C104, .ref C105, .ref C106, .ref C107, .ref C108, .ref C109, .ref C110, .ref C111, .ref C112, .ref C113, .ref C114, .ref C115, .ref C116, .ref C117, .ref C118, .ref C119, .ref C120, .ref C121, .ref C122, .ref C123, .ref C124, .ref C125, .type "ValueError"] (bsOf 118) = true)
    (k5C118 : kitRowAny K C118 [.type "LookupError", .type "TypeError", .type "ArithmeticError", .type "AttributeError", .type "RuntimeError"] false = true)
    (k6C118 : kitRowAny K C118 [.ref C113, .ref C114, .ref C115, .ref C116, .ref C117, .ref C118] (decide (113 ≤ 118) && decide (118 ≤ 118)) = true)
    (exC118 : exmRow K C118 [.ref C124, .ref C118, .ref C125] [misB 118, 118 == 118, true] = true)
    (erC119 : erB K C119 fiC119 ["paper"] = true)
    (krC119 : kitRow K C119 [.ref C101, .ref C102, .ref C103, .ref C104, .ref C105, .ref C106, .ref C107, .ref C108, .ref C109, .ref C110, .ref C111, .ref C112, .ref C113, .ref C114, .ref C115, .ref C116, .ref C117, .ref C118, .ref C119, .ref C120, .ref C121, .ref C122, .ref C123, .ref C124, .ref C125, .type "ValueError"] (bsOf 119) = true)
    (k5C119 : kitRowAny K C119 [.type "LookupError", .type "TypeError", .type "ArithmeticError", .type "AttributeError", .type "RuntimeError"] false = true)
    (k6C119 : kitRowAny K C119 [.ref C113, .ref C114, .ref C115, .ref C116, .ref C117, .ref C118] (decide (113 ≤ 119) && decide (119 ≤ 118)) = true)
    (exC119 : exmRow K C119 [.ref C124, .ref C118, .ref C125] [misB 119, 119 == 118, true] = true)
    (erC120 : erB K C120 fiC120 ["what", "most"] = true)
    (krC120 : kitRow K C120 [.ref C101, .ref C102, .ref C103, .ref C104, .ref C105, .ref C106, .ref C107, .ref C108, .ref C109, .ref C110, .ref C111, .ref C112, .ref C113, .ref C114, .ref C115, .ref C116, .ref C117, .ref C118, .ref C119, .ref C120, .ref C121, .ref C122, .ref C123, .ref C124, .ref C125, .type "ValueError"] (bsOf 120) = true)
    (k5C120 : kitRowAny K C120 [.type "LookupError", .type "TypeError", .type "ArithmeticError", .type "AttributeError", .type "RuntimeError"] false = true)
    (k6C120 : kitRowAny K C120 [.ref C113, .ref C114, .ref C115, .ref C116, .ref C117, .ref C118] (decide (113 ≤ 120) && decide (120 ≤ 118)) = true)
    (exC120 : exmRow K C120 [.ref C124, .ref C118, .ref C125] [misB 120, 120 == 118, true] = true)
    (erC121 : erB K C121 C121 [] = true)
    (krC121 : kitRow K C121 [.ref C101, .ref C102, .ref C103, .ref C104, .ref C105, .ref C106, .ref C107, .ref C108, .ref C109, .ref C110, .ref C111, .ref C112, .ref C113, .ref C114, .ref C115, .ref C116, .ref C117, .ref C118, .ref C119, .ref C120, .ref C121, .ref C122, .ref C123, .ref C124, .ref C125, .type "ValueError"] (bsOf 121) = true)
    (k5C121 : kitRowAny K C121 [.type "LookupError", .type "TypeError", .type "ArithmeticError", .type "AttributeError", .type "RuntimeError"] false = true)
    (k6C121 : kitRowAny K C121 [.ref C113, .ref C114, .ref C115, .ref C116, .ref C117, .ref C118] (decide (113 ≤ 121) && decide (121 ≤ 118)) = true)
    (exC121 : exmRow K C121 [.ref C124, .ref C118, .ref C125] [misB 121, 121 == 118, true] = true)
    (q0C121 : PySem.W.excIn K C121 bmVE "ValueError.__new__" = true)
    (erC122 : erB K C122 fiC122 ["line", "item"] = true)
    (krC122 : kitRow K C122 [.ref C101, .ref C102, .ref C103, .ref C104, .ref C105, .ref C106, .ref C107, .ref C108, .ref C109, .ref C110, .ref C111, .ref C112, .ref C113, .ref C114, .ref C115, .ref C116, .ref C117, .ref C118, .ref C119, .ref C120, .ref C121, .ref C122, .ref C123, .ref C124, .ref C125, .type "ValueError"] (bsOf 122) = true)
    (k5C122 : kitRowAny K C122 [.type "LookupError", .type "TypeError", .type "ArithmeticError", .type "AttributeError", .type "RuntimeError"] false = true)
    (k6C122 : kitRowAny K C122 [.ref C113, .ref C114, .ref C115, .ref C116, .ref C117, .ref C118] (decide (113 ≤ 122) && decide (122 ≤ 118)) = true)
    (exC122 : exmRow K C122 [.ref C124, .ref C118, .ref C125] [misB 122, 122 == 118, true] = true)
    (erC123 : erB K C123 fiC123 ["line", "error"] = true)
    (krC123 : kitRow K C123 [.ref C101, .ref C102, .ref C103, .ref C104, .ref C105, .ref C106, .ref C107, .ref C108, .ref C109, .ref C110, .ref C111, .ref C112, .ref C113, .ref C114, .ref C115, .ref C116, .ref C117, .ref C118, .ref C119, .ref C120, .ref C121, .ref C122, .ref C123, .ref C124, .ref C125, .type "ValueError"] (bsOf 123) = true)
    (k5C123 : kitRowAny K C123 [.type "LookupError", .type "TypeError", .type "ArithmeticError", .type "AttributeError", .type "RuntimeError"] false = true)
    (k6C123 : kitRowAny K C123 [.ref C113, .ref C114, .ref C115, .ref C116, .ref C117, .ref C118] (decide (113 ≤ 123) && decide (123 ≤ 118)) = true)
    (exC123 : exmRow K C123 [.ref C124, .ref C118, .ref C125] [misB 123, 123 == 118, true] = true)
    (erC124 : erB K C124 fiC124 ["value"] = true)
    (krC124 : kitRow K C124 [.ref C101, .ref C102, .ref C103, .ref C104, .ref C105, .ref C106, .ref C107, .ref C108, .ref C109, .ref C110, .ref C111, .ref C112, .ref C113, .ref C114, .ref C115, .ref C116, .ref C117, .ref C118, .ref C119, .ref C120, .ref C121, .ref C122, .ref C123, .ref C124, .ref C125, .type "ValueError"] (bsOf 124) = true)
    (k5C124 : kitRowAny K C124 [.type "LookupError", .type "TypeError", .type "ArithmeticError", .type "AttributeError", .type "RuntimeError"] false = true)
    (k6C124 : kitRowAny K C124 [.ref C113, .ref C114, .ref C115, .ref C116, .ref C117, .ref C118] (decide (113 ≤ 124) && decide (124 ≤ 118)) = true)
    (exC124 : exmRow K C124 [.ref C124, .ref C118, .ref C125] [misB 124, 124 == 118, true] = true)
    (z_ArithmeticError : PySem.W.nsIn K mainGlobals "ArithmeticError" = some none)
    (z_AttributeError : PySem.W.nsIn K mainGlobals "AttributeError" = some none)
    (z_LookupError : PySem.W.nsIn K mainGlobals "LookupError" = some none)
    (z_RuntimeError : PySem.W.nsIn K mainGlobals "RuntimeError" = some none)
    (z_TypeError : PySem.W.nsIn K mainGlobals "TypeError" = some none)
    (z_ValueError : PySem.W.nsIn K mainGlobals "ValueError" = some none)
    (z_abs : PySem.W.nsIn K mainGlobals "abs" = some none)
    (z_int : PySem.W.nsIn K mainGlobals "int" = some none)
    (z_isinstance : PySem.W.nsIn K mainGlobals "isinstance" = some none)
    (z_range : PySem.W.nsIn K mainGlobals "range" = some none)
    (z_str : PySem.W.nsIn K mainGlobals "str" = some none)
    (a__law_bag : PySem.W.nsIn K mainGlobals "_law_bag" = some (some (.ref f__law_bag)))
    (l__law_bag : K.lookup f__law_bag = some ⟨oc__law_bag, od__law_bag, .func (PySem.W.fnOf "_law_bag" "_law_bag" (defArgs s__law_bag) (defBody s__law_bag) (defScope s__law_bag) .none kV__law_bag dc__law_bag pm__law_bag an__law_bag cd__law_bag ct__law_bag), sl__law_bag⟩)
    (c__law_bag : PySem.W.codeIn K cd__law_bag "_law_bag" = true)
    (k__law_bag : PySem.W.keepIn K (.ref f__law_bag) = true)
    (a__law_pull : PySem.W.nsIn K mainGlobals "_law_pull" = some (some (.ref f__law_pull)))
    (l__law_pull : K.lookup f__law_pull = some ⟨oc__law_pull, od__law_pull, .func (PySem.W.fnOf "_law_pull" "_law_pull" (defArgs s__law_pull) (defBody s__law_pull) (defScope s__law_pull) .none kV__law_pull dc__law_pull pm__law_pull an__law_pull cd__law_pull ct__law_pull), sl__law_pull⟩)
    (c__law_pull : PySem.W.codeIn K cd__law_pull "_law_pull" = true)
    (k__law_pull : PySem.W.keepIn K (.ref f__law_pull) = true)
    (a__law_field : PySem.W.nsIn K mainGlobals "_law_field" = some (some (.ref f__law_field)))
    (l__law_field : K.lookup f__law_field = some ⟨oc__law_field, od__law_field, .func (PySem.W.fnOf "_law_field" "_law_field" (defArgs s__law_field) (defBody s__law_field) (defScope s__law_field) .none kV__law_field dc__law_field pm__law_field an__law_field cd__law_field ct__law_field), sl__law_field⟩)
    (c__law_field : PySem.W.codeIn K cd__law_field "_law_field" = true)
    (k__law_field : PySem.W.keepIn K (.ref f__law_field) = true)
    (a__law_is_one : PySem.W.nsIn K mainGlobals "_law_is_one" = some (some (.ref f__law_is_one)))
    (l__law_is_one : K.lookup f__law_is_one = some ⟨oc__law_is_one, od__law_is_one, .func (PySem.W.fnOf "_law_is_one" "_law_is_one" (defArgs s__law_is_one) (defBody s__law_is_one) (defScope s__law_is_one) .none kV__law_is_one dc__law_is_one pm__law_is_one an__law_is_one cd__law_is_one ct__law_is_one), sl__law_is_one⟩)
    (c__law_is_one : PySem.W.codeIn K cd__law_is_one "_law_is_one" = true)
    (k__law_is_one : PySem.W.keepIn K (.ref f__law_is_one) = true)
    (a__law_by_place : PySem.W.nsIn K mainGlobals "_law_by_place" = some (some (.ref f__law_by_place)))
    (l__law_by_place : K.lookup f__law_by_place = some ⟨oc__law_by_place, od__law_by_place, .func (PySem.W.fnOf "_law_by_place" "_law_by_place" (defArgs s__law_by_place) (defBody s__law_by_place) (defScope s__law_by_place) .none kV__law_by_place dc__law_by_place pm__law_by_place an__law_by_place cd__law_by_place ct__law_by_place), sl__law_by_place⟩)
    (c__law_by_place : PySem.W.codeIn K cd__law_by_place "_law_by_place" = true)
    (k__law_by_place : PySem.W.keepIn K (.ref f__law_by_place) = true)
    (a__law_by_name : PySem.W.nsIn K mainGlobals "_law_by_name" = some (some (.ref f__law_by_name)))
    (l__law_by_name : K.lookup f__law_by_name = some ⟨oc__law_by_name, od__law_by_name, .func (PySem.W.fnOf "_law_by_name" "_law_by_name" (defArgs s__law_by_name) (defBody s__law_by_name) (defScope s__law_by_name) .none kV__law_by_name dc__law_by_name pm__law_by_name an__law_by_name cd__law_by_name ct__law_by_name), sl__law_by_name⟩)
    (c__law_by_name : PySem.W.codeIn K cd__law_by_name "_law_by_name" = true)
    (k__law_by_name : PySem.W.keepIn K (.ref f__law_by_name) = true)
    (a__law_kept : PySem.W.nsIn K mainGlobals "_law_kept" = some (some (.ref f__law_kept)))
    (l__law_kept : K.lookup f__law_kept = some ⟨oc__law_kept, od__law_kept, .func (PySem.W.fnOf "_law_kept" "_law_kept" (defArgs s__law_kept) (defBody s__law_kept) (defScope s__law_kept) .none kV__law_kept dc__law_kept pm__law_kept an__law_kept cd__law_kept ct__law_kept), sl__law_kept⟩)
    (c__law_kept : PySem.W.codeIn K cd__law_kept "_law_kept" = true)
    (k__law_kept : PySem.W.keepIn K (.ref f__law_kept) = true)
    (a__law_single_right : PySem.W.nsIn K mainGlobals "_law_single_right" = some (some (.ref f__law_single_right)))
    (l__law_single_right : K.lookup f__law_single_right = some ⟨oc__law_single_right, od__law_single_right, .func (PySem.W.fnOf "_law_single_right" "_law_single_right" (defArgs s__law_single_right) (defBody s__law_single_right) (defScope s__law_single_right) .none kV__law_single_right dc__law_single_right pm__law_single_right an__law_single_right cd__law_single_right ct__law_single_right), sl__law_single_right⟩)
    (c__law_single_right : PySem.W.codeIn K cd__law_single_right "_law_single_right" = true)
    (k__law_single_right : PySem.W.keepIn K (.ref f__law_single_right) = true)
    (a__law_double_right : PySem.W.nsIn K mainGlobals "_law_double_right" = some (some (.ref f__law_double_right)))
    (l__law_double_right : K.lookup f__law_double_right = some ⟨oc__law_double_right, od__law_double_right, .func (PySem.W.fnOf "_law_double_right" "_law_double_right" (defArgs s__law_double_right) (defBody s__law_double_right) (defScope s__law_double_right) .none kV__law_double_right dc__law_double_right pm__law_double_right an__law_double_right cd__law_double_right ct__law_double_right), sl__law_double_right⟩)
    (c__law_double_right : PySem.W.codeIn K cd__law_double_right "_law_double_right" = true)
    (k__law_double_right : PySem.W.keepIn K (.ref f__law_double_right) = true)
    (a__law_raised : PySem.W.nsIn K mainGlobals "_law_raised" = some (some (.ref f__law_raised)))
    (l__law_raised : K.lookup f__law_raised = some ⟨oc__law_raised, od__law_raised, .func (PySem.W.fnOf "_law_raised" "_law_raised" (defArgs s__law_raised) (defBody s__law_raised) (defScope s__law_raised) .none kV__law_raised dc__law_raised pm__law_raised an__law_raised cd__law_raised ct__law_raised), sl__law_raised⟩)
    (c__law_raised : PySem.W.codeIn K cd__law_raised "_law_raised" = true)
    (k__law_raised : PySem.W.keepIn K (.ref f__law_raised) = true)
    (a__law_caught : PySem.W.nsIn K mainGlobals "_law_caught" = some (some (.ref f__law_caught)))
    (l__law_caught : K.lookup f__law_caught = some ⟨oc__law_caught, od__law_caught, .func (PySem.W.fnOf "_law_caught" "_law_caught" (defArgs s__law_caught) (defBody s__law_caught) (defScope s__law_caught) .none kV__law_caught dc__law_caught pm__law_caught an__law_caught cd__law_caught ct__law_caught), sl__law_caught⟩)
    (c__law_caught : PySem.W.codeIn K cd__law_caught "_law_caught" = true)
    (k__law_caught : PySem.W.keepIn K (.ref f__law_caught) = true)
    (a_law : PySem.W.nsIn K mainGlobals "law" = some (some (.ref f_law)))
    (l_law : K.lookup f_law = some ⟨oc_law, od_law, .func (PySem.W.fnOf "law" "law" (defArgs s_law) (defBody s_law) (defScope s_law) .none kV_law dc_law pm_law an_law cd_law ct_law), sl_law⟩)
    (c_law : PySem.W.codeIn K cd_law "law" = true)
    (k_law : PySem.W.keepIn K (.ref f_law) = true)
    (hlaw : Math)  : LawAtG l w K (L2.CX l.prog w) 5 63 "_law_script" mg fa h := by
  have e := hfa.symm.trans (PySem.W.mg_of X G a_law)
  cases e
  let cn : Nat → Addr := fun n => if n = 101 then C101 else if n = 102 then C102 else if n = 103 then C103 else if n = 104 then C104 else if n = 105 then C105 else if n = 106 then C106 else if n = 107 then C107 else if n = 108 then C108 else if n = 109 then C109 else if n = 110 then C110 else if n = 111 then C111 else if n = 112 then C112 else if n = 113 then C113 else if n = 114 then C114 else if n = 115 then C115 else if n = 116 then C116 else if n = 117 then C117 else if n = 118 then C118 else if n = 119 then C119 else if n = 120 then C120 else if n = 121 then C121 else if n = 122 then C122 else if n = 123 then C123 else if n = 124 then C124 else if n = 125 then C125 else C101
  have cn101 : cn 101 = C101 := by show (fun n => if n = 101 then C101 else if n = 102 then C102 else if n = 103 then C103 else if n = 104 then C104 else if n = 105 then C105 else if n = 106 then C106 else if n = 107 then C107 else if n = 108 then C108 else if n = 109 then C109 else if n = 110 then C110 else if n = 111 then C111 else if n = 112 then C112 else if n = 113 then C113 else if n = 114 then C114 else if n = 115 then C115 else if n = 116 then C116 else if n = 117 then C117 else if n = 118 then C118 else if n = 119 then C119 else if n = 120 then C120 else if n = 121 then C121 else if n = 122 then C122 else if n = 123 then C123 else if n = 124 then C124 else if n = 125 then C125 else C101) 101 = C101; dsimp only; rw [if_pos rfl]
  have cn102 : cn 102 = C102 := by show (fun n => if n = 101 then C101 else if n = 102 then C102 else if n = 103 then C103 else if n = 104 then C104 else if n = 105 then C105 else if n = 106 then C106 else if n = 107 then C107 else if n = 108 then C108 else if n = 109 then C109 else if n = 110 then C110 else if n = 111 then C111 else if n = 112 then C112 else if n = 113 then C113 else if n = 114 then C114 else if n = 115 then C115 else if n = 116 then C116 else if n = 117 then C117 else if n = 118 then C118 else if n = 119 then C119 else if n = 120 then C120 else if n = 121 then C121 else if n = 122 then C122 else if n = 123 then C123 else if n = 124 then C124 else if n = 125 then C125 else C101) 102 = C102; dsimp only; rw [if_neg (by decide), if_pos rfl]
  have cn103 : cn 103 = C103 := by show (fun n => if n = 101 then C101 else if n = 102 then C102 else if n = 103 then C103 else if n = 104 then C104 else if n = 105 then C105 else if n = 106 then C106 else if n = 107 then C107 else if n = 108 then C108 else if n = 109 then C109 else if n = 110 then C110 else if n = 111 then C111 else if n = 112 then C112 else if n = 113 then C113 else if n = 114 then C114 else if n = 115 then C115 else if n = 116 then C116 else if n = 117 then C117 else if n = 118 then C118 else if n = 119 then C119 else if n = 120 then C120 else if n = 121 then C121 else if n = 122 then C122 else if n = 123 then C123 else if n = 124 then C124 else if n = 125 then C125 else C101) 103 = C103; dsimp only; rw [if_neg (by decide), if_neg (by decide), if_pos rfl]
  have cn104 : cn 104 = C104 := by show (fun n => if n = 101 then C101 else if n = 102 then C102 else if n = 103 then C103 else if n = 104 then C104 else if n = 105 then C105 else if n = 106 then C106 else if n = 107 then C107 else if n = 108 then C108 else if n = 109 then C109 else if n = 110 then C110 else if n = 111 then C111 else if n = 112 then C112 else if n = 113 then C113 else if n = 114 then C114 else if n = 115 then C115 else if n = 116 then C116 else if n = 117 then C117 else if n = 118 then C118 else if n = 119 then C119 else if n = 120 then C120 else if n = 121 then C121 else if n = 122 then C122 else if n = 123 then C123 else if n = 124 then C124 else if n = 125 then C125 else C101) 104 = C104; dsimp only; rw [if_neg (by decide), if_neg (by decide), if_neg (by decide), if_pos rfl]
  have cn105 : cn 105 = C105 := by show (fun n => if n = 101 then C101 else if n = 102 then C102 else if n = 103 then C103 else if n = 104 then C104 else if n = 105 then C105 else if n = 106 then C106 else if n = 107 then C107 else if n = 108 then C108 else if n = 109 then C109 else if n = 110 then C110 else if n = 111 then C111 else if n = 112 then C112 else if n = 113 then C113 else if n = 114 then C114 else if n = 115 then C115 else if n = 116 then C116 else if n = 117 then C117 else if n = 118 then C118 else if n = 119 then C119 else if n = 120 then C120 else if n = 121 then C121 else if n = 122 then C122 else if n = 123 then C123 else if n = 124 then C124 else if n = 125 then C125 else C101) 105 = C105; dsimp only; rw [if_neg (by decide), if_neg (by decide), if_neg (by decide), if_neg (by decide), if_pos rfl]
  have cn106 : cn 106 = C106 := by show (fun n => if n = 101 then C101 else if n = 102 then C102 else if n = 103 then C103 else if n = 104 then C104 else if n = 105 then C105 else if n = 106 then C106 else if n = 107 then C107 else if n = 108 then C108 else if n = 109 then C109 else if n = 110 then C110 else if n = 111 then C111 else if n = 112 then C112 else if n = 113 then C113 else if n = 114 then C114 else if n = 115 then C115 else if n = 116 then C116 else if n = 117 then C117 else if n = 118 then C118 else if n = 119 then C119 else if n = 120 then C120 else if n = 121 then C121 else if n = 122 then C122 else if n = 123 then C123 else if n = 124 then C124 else if n = 125 then C125 else C101) 106 = C106; dsimp only; rw [if_neg (by decide), if_neg (by decide), if_neg (by decide), if_neg (by decide), if_neg (by decide), if_pos rfl]
  have cn107 : cn 107 = C107 := by show (fun n => if n = 101 then C101 else if n = 102 then C102 else if n = 103 then C103 else if n = 104 then C104 else if n = 105 then C105 else if n = 106 then C106 else if n = 107 then C107 else if n = 108 then C108 else if n = 109 then C109 else if n = 110 then C110 else if n = 111 then C111 else if n = 112 then C112 else if n = 113 then C113 else if n = 114 then C114 else if n = 115 then C115 else if n = 116 then C116 else if n = 117 then C117 else if n = 118 then C118 else if n = 119 then C119 else if n = 120 then C120 else if n = 121 then C121 else if n = 122 then C122 else if n = 123 then C123 else if n = 124 then C124 else if n = 125 then C125 else C101) 107 = C107; dsimp only; rw [if_neg (by decide), if_neg (by decide), if_neg (by decide), if_neg (by decide), if_neg (by decide), if_neg (by decide), if_pos rfl]
  have cn108 : cn 108 = C108 := by show (fun n => if n = 101 then C101 else if n = 102 then C102 else if n = 103 then C103 else if n = 104 then C104 else if n = 105 then C105 else if n = 106 then C106 else if n = 107 then C107 else if n = 108 then C108 else if n = 109 then C109 else if n = 110 then C110 else if n = 111 then C111 else if n = 112 then C112 else if n = 113 then C113 else if n = 114 then C114 else if n = 115 then C115 else if n = 116 then C116 else if n = 117 then C117 else if n = 118 then C118 else if n = 119 then C119 else if n = 120 then C120 else if n = 121 then C121 else if n = 122 then C122 else if n = 123 then C123 else if n = 124 then C124 else if n = 125 then C125 else C101) 108 = C108; dsimp only; rw [if_neg (by decide), if_neg (by decide), if_neg (by decide), if_neg (by decide), if_neg (by decide), if_neg (by decide), if_neg (by decide), if_pos rfl]
  have cn109 : cn 109 = C109 := by show (fun n => if n = 101 then C101 else if n = 102 then C102 else if n = 103 then C103 else if n = 104 then C104 else if n = 105 then C105 else if n = 106 then C106 else if n = 107 then C107 else if n = 108 then C108 else if n = 109 then C109 else if n = 110 then C110 else if n = 111 then C111 else if n = 112 then C112 else if n = 113 then C113 else if n = 114 then C114 else if n = 115 then C115 else if n = 116 then C116 else if n = 117 then C117 else if n = 118 then C118 else if n = 119 then C119 else if n = 120 then C120 else if n = 121 then C121 else if n = 122 then C122 else if n = 123 then C123 else if n = 124 then C124 else if n = 125 then C125 else C101) 109 = C109; dsimp only; rw [if_neg (by decide), if_neg (by decide), if_neg (by decide), if_neg (by decide), if_neg (by decide), if_neg (by decide), if_neg (by decide), if_neg (by decide), if_pos rfl]
  have cn110 : cn 110 = C110 := by show (fun n => if n = 101 then C101 else if n = 102 then C102 else if n = 103 then C103 else if n = 104 then C104 else if n = 105 then C105 else if n = 106 then C106 else if n = 107 then C107 else if n = 108 then C108 else if n = 109 then C109 else if n = 110 then C110 else if n = 111 then C111 else if n = 112 then C112 else if n = 113 then C113 else if n = 114 then C114 else if n = 115 then C115 else if n = 116 then C116 else if n = 117 then C117 else if n = 118 then C118 else if n = 119 then C119 else if n = 120 then C120 else if n = 121 then C121 else if n = 122 then C122 else if n = 123 then C123 else if n = 124 then C124 else if n = 125 then C125 else C101) 110 = C110; dsimp only; rw [if_neg (by decide), if_neg (by decide), if_neg (by decide), if_neg (by decide), if_neg (by decide), if_neg (by decide), if_neg (by decide), if_neg (by decide), if_neg (by decide), if_pos rfl]
  have cn111 : cn 111 = C111 := by show (fun n => if n = 101 then C101 else if n = 102 then C102 else if n = 103 then C103 else if n = 104 then C104 else if n = 105 then C105 else if n = 106 then C106 else if n = 107 then C107 else if n = 108 then C108 else if n = 109 then C109 else if n = 110 then C110 else if n = 111 then C111 else if n = 112 then C112 else if n = 113 then C113 else if n = 114 then C114 else if n = 115 then C115 else if n = 116 then C116 else if n = 117 then C117 else if n = 118 then C118 else if n = 119 then C119 else if n = 120 then C120 else if n = 121 then C121 else if n = 122 then C122 else if n = 123 then C123 else if n = 124 then C124 else if n = 125 then C125 else C101) 111 = C111; dsimp only; rw [if_neg (by decide), if_neg (by decide), if_neg (by decide), if_neg (by decide), if_neg (by decide), if_neg (by decide), if_neg (by decide), if_neg (by decide), if_neg (by decide), if_neg (by decide), if_pos rfl]
  have cn112 : cn 112 = C112 := by show (fun n => if n = 101 then C101 else if n = 102 then C102 else if n = 103 then C103 else if n = 104 then C104 else if n = 105 then C105 else if n = 106 then C106 else if n = 107 then C107 else if n = 108 then C108 else if n = 109 then C109 else if n = 110 then C110 else if n = 111 then C111 else if n = 112 then C112 else if n = 113 then C113 else if n = 114 then C114 else if n = 115 then C115 else if n = 116 then C116 else if n = 117 then C117 else if n = 118 then C118 else if n = 119 then C119 else if n = 120 then C120 else if n = 121 then C121 else if n = 122 then C122 else if n = 123 then C123 else if n = 124 then C124 else if n = 125 then C125 else C101) 112 = C112; dsimp only; rw [if_neg (by decide), if_neg (by decide), if_neg (by decide), if_neg (by decide), if_neg (by decide), if_neg (by decide), if_neg (by decide), if_neg (by decide), if_neg (by decide), if_neg (by decide), if_neg (by decide), if_pos rfl]
  have cn113 : cn 113 = C113 := by show (fun n => if n = 101 then C101 else if n = 102 then C102 else if n = 103 then C103 else if n = 104 then C104 else if n = 105 then C105 else if n = 106 then C106 else if n = 107 then C107 else if n = 108 then C108 else if n = 109 then C109 else if n = 110 then C110 else if n = 111 then C111 else if n = 112 then C112 else if n = 113 then C113 else if n = 114 then C114 else if n = 115 then C115 else if n = 116 then C116 else if n = 117 then C117 else if n = 118 then C118 else if n = 119 then C119 else if n = 120 then C120 else if n = 121 then C121 else if n = 122 then C122 else if n = 123 then C123 else if n = 124 then C124 else if n = 125 then C125 else C101) 113 = C113; dsimp only; rw [if_neg (by decide), if_neg (by decide), if_neg (by decide), if_neg (by decide), if_neg (by decide), if_neg (by decide), if_neg (by decide), if_neg (by decide), if_neg (by decide), if_neg (by decide), if_neg (by decide), if_neg (by decide), if_pos rfl]
  have cn114 : cn 114 = C114 := by show (fun n => if n = 101 then C101 else if n = 102 then C102 else if n = 103 then C103 else if n = 104 then C104 else if n = 105 then C105 else if n = 106 then C106 else if n = 107 then C107 else if n = 108 then C108 else if n = 109 then C109 else if n = 110 then C110 else if n = 111 then C111 else if n = 112 then C112 else if n = 113 then C113 else if n = 114 then C114 else if n = 115 then C115 else if n = 116 then C116 else if n = 117 then C117 else if n = 118 then C118 else if n = 119 then C119 else if n = 120 then C120 else if n = 121 then C121 else if n = 122 then C122 else if n = 123 then C123 else if n = 124 then C124 else if n = 125 then C125 else C101) 114 = C114; dsimp only; rw [if_neg (by decide), if_neg (by decide), if_neg (by decide), if_neg (by decide), if_neg (by decide), if_neg (by decide), if_neg (by decide), if_neg (by decide), if_neg (by decide), if_neg (by decide), if_neg (by decide), if_neg (by decide), if_neg (by decide), if_pos rfl]
  have cn115 : cn 115 = C115 := by show (fun n => if n = 101 then C101 else if n = 102 then C102 else if n = 103 then C103 else if n = 104 then C104 else if n = 105 then C105 else if n = 106 then C106 else if n = 107 then C107 else if n = 108 then C108 else if n = 109 then C109 else if n = 110 then C110 else if n = 111 then C111 else if n = 112 then C112 else if n = 113 then C113 else if n = 114 then C114 else if n = 115 then C115 else if n = 116 then C116 else if n = 117 then C117 else if n = 118 then C118 else if n = 119 then C119 else if n = 120 then C120 else if n = 121 then C121 else if n = 122 then C122 else if n = 123 then C123 else if n = 124 then C124 else if n = 125 then C125 else C101) 115 = C115; dsimp only; rw [if_neg (by decide), if_neg (by decide), if_neg (by decide), if_neg (by decide), if_neg (by decide), if_neg (by decide), if_neg (by decide), if_neg (by decide), if_neg (by decide), if_neg (by decide), if_neg (by decide), if_neg (by decide), if_neg (by decide), if_neg (by decide), if_pos rfl]
  have cn116 : cn 116 = C116 := by show (fun n => if n = 101 then C101 else if n = 102 then C102 else if n = 103 then C103 else if n = 104 then C104 else if n = 105 then C105 else if n = 106 then C106 else if n = 107 then C107 else if n = 108 then C108 else if n = 109 then C109 else if n = 110 then C110 else if n = 111 then C111 else if n = 112 then C112 else if n = 113 then C113 else if n = 114 then C114 else if n = 115 then C115 else if n = 116 then C116 else if n = 117 then C117 else if n = 118 then C118 else if n = 119 then C119 else if n = 120 then C120 else if n = 121 then C121 else if n = 122 then C122 else if n = 123 then C123 else if n = 124 then C124 else if n = 125 then C125 else C101) 116 = C116; dsimp only; rw [if_neg (by decide), if_neg (by decide), if_neg (by decide), if_neg (by decide), if_neg (by decide), if_neg (by decide), if_neg (by decide), if_neg (by decide), if_neg (by decide), if_neg (by decide), if_neg (by decide), if_neg (by decide), if_neg (by decide), if_neg (by decide), if_neg (by decide), if_pos rfl]
  have cn117 : cn 117 = C117 := by show (fun n => if n = 101 then C101 else if n = 102 then C102 else if n = 103 then C103 else if n = 104 then C104 else if n = 105 then C105 else if n = 106 then C106 else if n = 107 then C107 else if n = 108 then C108 else if n = 109 then C109 else if n = 110 then C110 else if n = 111 then C111 else if n = 112 then C112 else if n = 113 then C113 else if n = 114 then C114 else if n = 115 then C115 else if n = 116 then C116 else if n = 117 then C117 else if n = 118 then C118 else if n = 119 then C119 else if n = 120 then C120 else if n = 121 then C121 else if n = 122 then C122 else if n = 123 then C123 else if n = 124 then C124 else if n = 125 then C125 else C101) 117 = C117; dsimp only; rw [if_neg (by decide), if_neg (by decide), if_neg (by decide), if_neg (by decide), if_neg (by decide), if_neg (by decide), if_neg (by decide), if_neg (by decide), if_neg (by decide), if_neg (by decide), if_neg (by decide), if_neg (by decide), if_neg (by decide), if_neg (by decide), if_neg (by decide), if_neg (by decide), if_pos rfl]
  have cn118 : cn 118 = C118 := by show (fun n => if n = 101 then C101 else if n = 102 then C102 else if n = 103 then C103 else if n = 104 then C104 else if n = 105 then C105 else if n = 106 then C106 else if n = 107 then C107 else if n = 108 then C108 else if n = 109 then C109 else if n = 110 then C110 else if n = 111 then C111 else if n = 112 then C112 else if n = 113 then C113 else if n = 114 then C114 else if n = 115 then C115 else if n = 116 then C116 else if n = 117 then C117 else if n = 118 then C118 else if n = 119 then C119 else if n = 120 then C120 else if n = 121 then C121 else if n = 122 then C122 else if n = 123 then C123 else if n = 124 then C124 else if n = 125 then C125 else C101) 118 = C118; dsimp only; rw [if_neg (by decide), if_neg (by decide), if_neg (by decide), if_neg (by decide), if_neg (by decide), if_neg (by decide), if_neg (by decide), if_neg (by decide), if_neg (by decide), if_neg (by decide), if_neg (by decide), if_neg (by decide), if_neg (by decide), if_neg (by decide), if_neg (by decide), if_neg (by decide), if_neg (by decide), if_pos rfl]
  have cn119 : cn 119 = C119 := by show (fun n => if n = 101 then C101 else if n = 102 then C102 else if n = 103 then C103 else if n = 104 then C104 else if n = 105 then C105 else if n = 106 then C106 else if n = 107 then C107 else if n = 108 then C108 else if n = 109 then C109 else if n = 110 then C110 else if n = 111 then C111 else if n = 112 then C112 else if n = 113 then C113 else if n = 114 then C114 else if n = 115 then C115 else if n = 116 then C116 else if n = 117 then C117 else if n = 118 then C118 else if n = 119 then C119 else if n = 120 then C120 else if n = 121 then C121 else if n = 122 then C122 else if n = 123 then C123 else if n = 124 then C124 else if n = 125 then C125 else C101) 119 = C119; dsimp only; rw [if_neg (by decide), if_neg (by decide), if_neg (by decide), if_neg (by decide), if_neg (by decide), if_neg (by decide), if_neg (by decide), if_neg (by decide), if_neg (by decide), if_neg (by decide), if_neg (by decide), if_neg (by decide), if_neg (by decide), if_neg (by decide), if_neg (by decide), if_neg (by decide), if_neg (by decide), if_neg (by decide), if_pos rfl]
  have cn120 : cn 120 = C120 := by show (fun n => if n = 101 then C101 else if n = 102 then C102 else if n = 103 then C103 else if n = 104 then C104 else if n = 105 then C105 else if n = 106 then C106 else if n = 107 then C107 else if n = 108 then C108 else if n = 109 then C109 else if n = 110 then C110 else if n = 111 then C111 else if n = 112 then C112 else if n = 113 then C113 else if n = 114 then C114 else if n = 115 then C115 else if n = 116 then C116 else if n = 117 then C117 else if n = 118 then C118 else if n = 119 then C119 else if n = 120 then C120 else if n = 121 then C121 else if n = 122 then C122 else if n = 123 then C123 else if n = 124 then C124 else if n = 125 then C125 else C101) 120 = C120; dsimp only; rw [if_neg (by decide), if_neg (by decide), if_neg (by decide), if_neg (by decide), if_neg (by decide), if_neg (by decide), if_neg (by decide), if_neg (by decide), if_neg (by decide), if_neg (by decide), if_neg (by decide), if_neg (by decide), if_neg (by decide), if_neg (by decide), if_neg (by decide), if_neg (by decide), if_neg (by decide), if_neg (by decide), if_neg (by decide), if_pos rfl]
  have cn121 : cn 121 = C121 := by show (fun n => if n = 101 then C101 else if n = 102 then C102 else if n = 103 then C103 else if n = 104 then C104 else if n = 105 then C105 else if n = 106 then C106 else if n = 107 then C107 else if n = 108 then C108 else if n = 109 then C109 else if n = 110 then C110 else if n = 111 then C111 else if n = 112 then C112 else if n = 113 then C113 else if n = 114 then C114 else if n = 115 then C115 else if n = 116 then C116 else if n = 117 then C117 else if n = 118 then C118 else if n = 119 then C119 else if n = 120 then C120 else if n = 121 then C121 else if n = 122 then C122 else if n = 123 then C123 else if n = 124 then C124 else if n = 125 then C125 else C101) 121 = C121; dsimp only; rw [if_neg (by decide), if_neg (by decide), if_neg (by decide), if_neg (by decide), if_neg (by decide), if_neg (by decide), if_neg (by decide), if_neg (by decide), if_neg (by decide), if_neg (by decide), if_neg (by decide), if_neg (by decide), if_neg (by decide), if_neg (by decide), if_neg (by decide), if_neg (by decide), if_neg (by decide), if_neg (by decide), if_neg (by decide), if_neg (by decide), if_pos rfl]
  have cn122 : cn 122 = C122 := by show (fun n => if n = 101 then C101 else if n = 102 then C102 else if n = 103 then C103 else if n = 104 then C104 else if n = 105 then C105 else if n = 106 then C106 else if n = 107 then C107 else if n = 108 then C108 else if n = 109 then C109 else if n = 110 then C110 else if n = 111 then C111 else if n = 112 then C112 else if n = 113 then C113 else if n = 114 then C114 else if n = 115 then C115 else if n = 116 then C116 else if n = 117 then C117 else if n = 118 then C118 else if n = 119 then C119 else if n = 120 then C120 else if n = 121 then C121 else if n = 122 then C122 else if n = 123 then C123 else if n = 124 then C124 else if n = 125 then C125 else C101) 122 = C122; dsimp only; rw [if_neg (by decide), if_neg (by decide), if_neg (by decide), if_neg (by decide), if_neg (by decide), if_neg (by decide), if_neg (by decide), if_neg (by decide), if_neg (by decide), if_neg (by decide), if_neg (by decide), if_neg (by decide), if_neg (by decide), if_neg (by decide), if_neg (by decide), if_neg (by decide), if_neg (by decide), if_neg (by decide), if_neg (by decide), if_neg (by decide), if_neg (by decide), if_pos rfl]
  have cn123 : cn 123 = C123 := by show (fun n => if n = 101 then C101 else if n = 102 then C102 else if n = 103 then C103 else if n = 104 then C104 else if n = 105 then C105 else if n = 106 then C106 else if n = 107 then C107 else if n = 108 then C108 else if n = 109 then C109 else if n = 110 then C110 else if n = 111 then C111 else if n = 112 then C112 else if n = 113 then C113 else if n = 114 then C114 else if n = 115 then C115 else if n = 116 then C116 else if n = 117 then C117 else if n = 118 then C118 else if n = 119 then C119 else if n = 120 then C120 else if n = 121 then C121 else if n = 122 then C122 else if n = 123 then C123 else if n = 124 then C124 else if n = 125 then C125 else C101) 123 = C123; dsimp only; rw [if_neg (by decide), if_neg (by decide), if_neg (by decide), if_neg (by decide), if_neg (by decide), if_neg (by decide), if_neg (by decide), if_neg (by decide), if_neg (by decide), if_neg (by decide), if_neg (by decide), if_neg (by decide), if_neg (by decide), if_neg (by decide), if_neg (by decide), if_neg (by decide), if_neg (by decide), if_neg (by decide), if_neg (by decide), if_neg (by decide), if_neg (by decide), if_neg (by decide), if_pos rfl]
  have cn124 : cn 124 = C124 := by show (fun n => if n = 101 then C101 else if n = 102 then C102 else if n = 103 then C103 else if n = 104 then C104 else if n = 105 then C105 else if n = 106 then C106 else if n = 107 then C107 else if n = 108 then C108 else if n = 109 then C109 else if n = 110 then C110 else if n = 111 then C111 else if n = 112 then C112 else if n = 113 then C113 else if n = 114 then C114 else if n = 115 then C115 else if n = 116 then C116 else if n = 117 then C117 else if n = 118 then C118 else if n = 119 then C119 else if n = 120 then C120 else if n = 121 then C121 else if n = 122 then C122 else if n = 123 then C123 else if n = 124 then C124 else if n = 125 then C125 else C101) 124 = C124; dsimp only; rw [if_neg (by decide), if_neg (by decide), if_neg (by decide), if_neg (by decide), if_neg (by decide), if_neg (by decide), if_neg (by decide), if_neg (by decide), if_neg (by decide), if_neg (by decide), if_neg (by decide), if_neg (by decide), if_neg (by decide), if_neg (by decide), if_neg (by decide), if_neg (by decide), if_neg (by decide), if_neg (by decide), if_neg (by decide), if_neg (by decide), if_neg (by decide), if_neg (by decide), if_neg (by decide), if_pos rfl]
  have cn125 : cn 125 = C125 := by show (fun n => if n = 101 then C101 else if n = 102 then C102 else if n = 103 then C103 else if n = 104 then C104 else if n = 105 then C105 else if n = 106 then C106 else if n = 107 then C107 else if n = 108 then C108 else if n = 109 then C109 else if n = 110 then C110 else if n = 111 then C111 else if n = 112 then C112 else if n = 113 then C113 else if n = 114 then C114 else if n = 115 then C115 else if n = 116 then C116 else if n = 117 then C117 else if n = 118 then C118 else if n = 119 then C119 else if n = 120 then C120 else if n = 121 then C121 else if n = 122 then C122 else if n = 123 then C123 else if n = 124 then C124 else if n = 125 then C125 else C101) 125 = C125; dsimp only; rw [if_neg (by decide), if_neg (by decide), if_neg (by decide), if_neg (by decide), if_neg (by decide), if_neg (by decide), if_neg (by decide), if_neg (by decide), if_neg (by decide), if_neg (by decide), if_neg (by decide), if_neg (by decide), if_neg (by decide), if_neg (by decide), if_neg (by decide), if_neg (by decide), if_neg (by decide), if_neg (by decide), if_neg (by decide), if_neg (by decide), if_neg (by decide), if_neg (by decide), if_neg (by decide), if_neg (by decide), if_pos rfl]
  have FIC101 := fun_mk (st := s_BadNumber) lC101 cC101 kfC101
  have bIC101 := FIC101.binds (ps := ["self", "part"]) fun _ _ _ _ _ _ us hl => match us, hl with | [_, _], _ => rfl
  have FIC102 := fun_mk (st := s_BadRatio) lC102 cC102 kfC102
  have bIC102 := FIC102.binds (ps := ["self", "part"]) fun _ _ _ _ _ _ us hl => match us, hl with | [_, _], _ => rfl
  have FIC103 := fun_mk (st := s_BadLot) lC103 cC103 kfC103
  have bIC103 := FIC103.binds (ps := ["self", "part"]) fun _ _ _ _ _ _ us hl => match us, hl with | [_, _], _ => rfl
  have FIC104 := fun_mk (st := s_BadBook) lC104 cC104 kfC104
  have bIC104 := FIC104.binds (ps := ["self", "part"]) fun _ _ _ _ _ _ us hl => match us, hl with | [_, _], _ => rfl
  have FIC105 := fun_mk (st := s_BadWeb) lC105 cC105 kfC105
  have bIC105 := FIC105.binds (ps := ["self", "part"]) fun _ _ _ _ _ _ us hl => match us, hl with | [_, _], _ => rfl
  have FIC106 := fun_mk (st := s_BadPolynomial) lC106 cC106 kfC106
  have bIC106 := FIC106.binds (ps := ["self", "part"]) fun _ _ _ _ _ _ us hl => match us, hl with | [_, _], _ => rfl
  have FIC107 := fun_mk (st := s_BadQuotient) lC107 cC107 kfC107
  have bIC107 := FIC107.binds (ps := ["self", "part"]) fun _ _ _ _ _ _ us hl => match us, hl with | [_, _], _ => rfl
  have FIC108 := fun_mk (st := s_BadQuestion) lC108 cC108 kfC108
  have bIC108 := FIC108.binds (ps := ["self", "part"]) fun _ _ _ _ _ _ us hl => match us, hl with | [_, _], _ => rfl
  have FIC109 := fun_mk (st := s_BadTown) lC109 cC109 kfC109
  have bIC109 := FIC109.binds (ps := ["self", "part"]) fun _ _ _ _ _ _ us hl => match us, hl with | [_, _], _ => rfl
  have FIC110 := fun_mk (st := s_BadPaper) lC110 cC110 kfC110
  have bIC110 := FIC110.binds (ps := ["self", "part"]) fun _ _ _ _ _ _ us hl => match us, hl with | [_, _], _ => rfl
  have FIC111 := fun_mk (st := s_BadDesk) lC111 cC111 kfC111
  have bIC111 := FIC111.binds (ps := ["self", "part"]) fun _ _ _ _ _ _ us hl => match us, hl with | [_, _], _ => rfl
  have FIC112 := fun_mk (st := s_Misfit) lC112 cC112 kfC112
  have bIC112 := FIC112.binds (ps := ["self", "part"]) fun _ _ _ _ _ _ us hl => match us, hl with | [_, _], _ => rfl
  have FIC118 := fun_mk (st := s_Twice) lC118 cC118 kfC118
  have bIC118 := FIC118.binds (ps := ["self", "value"]) fun _ _ _ _ _ _ us hl => match us, hl with | [_, _], _ => rfl
  have FIC119 := fun_mk (st := s_Impossible) lC119 cC119 kfC119
  have bIC119 := FIC119.binds (ps := ["self", "paper"]) fun _ _ _ _ _ _ us hl => match us, hl with | [_, _], _ => rfl
  have FIC120 := fun_mk (st := s_TooMany) lC120 cC120 kfC120
  have bIC120 := FIC120.binds (ps := ["self", "what", "most"]) fun _ _ _ _ _ _ us hl => match us, hl with | [_, _, _], _ => rfl
  have FIC122 := fun_mk (st := s_BadText) lC122 cC122 kfC122
  have bIC122 := FIC122.binds (ps := ["self", "line", "item"]) fun _ _ _ _ _ _ us hl => match us, hl with | [_, _, _], _ => rfl
  have FIC123 := fun_mk (st := s_BadLine) lC123 cC123 kfC123
  have bIC123 := FIC123.binds (ps := ["self", "line", "error"]) fun _ _ _ _ _ _ us hl => match us, hl with | [_, _, _], _ => rfl
  have FIC124 := fun_mk (st := s_Missing) lC124 cC124 kfC124
  have bIC124 := FIC124.binds (ps := ["self", "value"]) fun _ _ _ _ _ _ us hl => match us, hl with | [_, _], _ => rfl
  have oexC101 : OexC K C101 := ⟨⟨nmC101, qC101, NC101, bsC101, _, snC101, subC101, abC101, colC101, m0C101, m1C101, m2C101, m3C101, m4C101, m5C101, xLC101, rfl⟩, (erB_ok erC101).sa, (erB_ok erC101).xf.exC, (erB_ok erC101).ty, (erB_ok erC101).kp⟩
  have oexC102 : OexC K C102 := ⟨⟨nmC102, qC102, NC102, bsC102, _, snC102, subC102, abC102, colC102, m0C102, m1C102, m2C102, m3C102, m4C102, m5C102, xLC102, rfl⟩, (erB_ok erC102).sa, (erB_ok erC102).xf.exC, (erB_ok erC102).ty, (erB_ok erC102).kp⟩
  have oexC103 : OexC K C103 := ⟨⟨nmC103, qC103, NC103, bsC103, _, snC103, subC103, abC103, colC103, m0C103, m1C103, m2C103, m3C103, m4C103, m5C103, xLC103, rfl⟩, (erB_ok erC103).sa, (erB_ok erC103).xf.exC, (erB_ok erC103).ty, (erB_ok erC103).kp⟩
  have oexC104 : OexC K C104 := ⟨⟨nmC104, qC104, NC104, bsC104, _, snC104, subC104, abC104, colC104, m0C104, m1C104, m2C104, m3C104, m4C104, m5C104, xLC104, rfl⟩, (erB_ok erC104).sa, (erB_ok erC104).xf.exC, (erB_ok erC104).ty, (erB_ok erC104).kp⟩
  have oexC105 : OexC K C105 := ⟨⟨nmC105, qC105, NC105, bsC105, _, snC105, subC105, abC105, colC105, m0C105, m1C105, m2C105, m3C105, m4C105, m5C105, xLC105, rfl⟩, (erB_ok erC105).sa, (erB_ok erC105).xf.exC, (erB_ok erC105).ty, (erB_ok erC105).kp⟩
  have oexC106 : OexC K C106 := ⟨⟨nmC106, qC106, NC106, bsC106, _, snC106, subC106, abC106, colC106, m0C106, m1C106, m2C106, m3C106, m4C106, m5C106, xLC106, rfl⟩, (erB_ok erC106).sa, (erB_ok erC106).xf.exC, (erB_ok erC106).ty, (erB_ok erC106).kp⟩
  have oexC107 : OexC K C107 := ⟨⟨nmC107, qC107, NC107, bsC107, _, snC107, subC107, abC107, colC107, m0C107, m1C107, m2C107, m3C107, m4C107, m5C107, xLC107, rfl⟩, (erB_ok erC107).sa, (erB_ok erC107).xf.exC, (erB_ok erC107).ty, (erB_ok erC107).kp⟩
  have oexC108 : OexC K C108 := ⟨⟨nmC108, qC108, NC108, bsC108, _, snC108, subC108, abC108, colC108, m0C108, m1C108, m2C108, m3C108, m4C108, m5C108, xLC108, rfl⟩, (erB_ok erC108).sa, (erB_ok erC108).xf.exC, (erB_ok erC108).ty, (erB_ok erC108).kp⟩
  have oexC109 : OexC K C109 := ⟨⟨nmC109, qC109, NC109, bsC109, _, snC109, subC109, abC109, colC109, m0C109, m1C109, m2C109, m3C109, m4C109, m5C109, xLC109, rfl⟩, (erB_ok erC109).sa, (erB_ok erC109).xf.exC, (erB_ok erC109).ty, (erB_ok erC109).kp⟩
  have oexC110 : OexC K C110 := ⟨⟨nmC110, qC110, NC110, bsC110, _, snC110, subC110, abC110, colC110, m0C110, m1C110, m2C110, m3C110, m4C110, m5C110, xLC110, rfl⟩, (erB_ok erC110).sa, (erB_ok erC110).xf.exC, (erB_ok erC110).ty, (erB_ok erC110).kp⟩
  have oexC111 : OexC K C111 := ⟨⟨nmC111, qC111, NC111, bsC111, _, snC111, subC111, abC111, colC111, m0C111, m1C111, m2C111, m3C111, m4C111, m5C111, xLC111, rfl⟩, (erB_ok erC111).sa, (erB_ok erC111).xf.exC, (erB_ok erC111).ty, (erB_ok erC111).kp⟩
  have oexC112 : OexC K C112 := ⟨⟨nmC112, qC112, NC112, bsC112, _, snC112, subC112, abC112, colC112, m0C112, m1C112, m2C112, m3C112, m4C112, m5C112, xLC112, rfl⟩, (erB_ok erC112).sa, (erB_ok erC112).xf.exC, (erB_ok erC112).ty, (erB_ok erC112).kp⟩
  have oexC113 : OexC K C113 := ⟨⟨nmC113, qC113, NC113, bsC113, _, snC113, subC113, abC113, colC113, m0C113, m1C113, m2C113, m3C113, m4C113, m5C113, xLC113, rfl⟩, (erB_ok erC113).sa, (erB_ok erC113).xf.exC, (erB_ok erC113).ty, (erB_ok erC113).kp⟩
  have oexC114 : OexC K C114 := ⟨⟨nmC114, qC114, NC114, bsC114, _, snC114, subC114, abC114, colC114, m0C114, m1C114, m2C114, m3C114, m4C114, m5C114, xLC114, rfl⟩, (erB_ok erC114).sa, (erB_ok erC114).xf.exC, (erB_ok erC114).ty, (erB_ok erC114).kp⟩
  have oexC115 : OexC K C115 := ⟨⟨nmC115, qC115, NC115, bsC115, _, snC115, subC115, abC115, colC115, m0C115, m1C115, m2C115, m3C115, m4C115, m5C115, xLC115, rfl⟩, (erB_ok erC115).sa, (erB_ok erC115).xf.exC, (erB_ok erC115).ty, (erB_ok erC115).kp⟩
  have oexC116 : OexC K C116 := ⟨⟨nmC116, qC116, NC116, bsC116, _, snC116, subC116, abC116, colC116, m0C116, m1C116, m2C116, m3C116, m4C116, m5C116, xLC116, rfl⟩, (erB_ok erC116).sa, (erB_ok erC116).xf.exC, (erB_ok erC116).ty, (erB_ok erC116).kp⟩
  have oexC117 : OexC K C117 := ⟨⟨nmC117, qC117, NC117, bsC117, _, snC117, subC117, abC117, colC117, m0C117, m1C117, m2C117, m3C117, m4C117, m5C117, xLC117, rfl⟩, (erB_ok erC117).sa, (erB_ok erC117).xf.exC, (erB_ok erC117).ty, (erB_ok erC117).kp⟩
  have oexC118 : OexC K C118 := ⟨⟨nmC118, qC118, NC118, bsC118, _, snC118, subC118, abC118, colC118, m0C118, m1C118, m2C118, m3C118, m4C118, m5C118, xLC118, rfl⟩, (erB_ok erC118).sa, (erB_ok erC118).xf.exC, (erB_ok erC118).ty, (erB_ok erC118).kp⟩
  have oexC119 : OexC K C119 := ⟨⟨nmC119, qC119, NC119, bsC119, _, snC119, subC119, abC119, colC119, m0C119, m1C119, m2C119, m3C119, m4C119, m5C119, xLC119, rfl⟩, (erB_ok erC119).sa, (erB_ok erC119).xf.exC, (erB_ok erC119).ty, (erB_ok erC119).kp⟩
  have oexC120 : OexC K C120 := ⟨⟨nmC120, qC120, NC120, bsC120, _, snC120, subC120, abC120, colC120, m0C120, m1C120, m2C120, m3C120, m4C120, m5C120, xLC120, rfl⟩, (erB_ok erC120).sa, (erB_ok erC120).xf.exC, (erB_ok erC120).ty, (erB_ok erC120).kp⟩
  have oexC122 : OexC K C122 := ⟨⟨nmC122, qC122, NC122, bsC122, _, snC122, subC122, abC122, colC122, m0C122, m1C122, m2C122, m3C122, m4C122, m5C122, xLC122, rfl⟩, (erB_ok erC122).sa, (erB_ok erC122).xf.exC, (erB_ok erC122).ty, (erB_ok erC122).kp⟩
  have oexC123 : OexC K C123 := ⟨⟨nmC123, qC123, NC123, bsC123, _, snC123, subC123, abC123, colC123, m0C123, m1C123, m2C123, m3C123, m4C123, m5C123, xLC123, rfl⟩, (erB_ok erC123).sa, (erB_ok erC123).xf.exC, (erB_ok erC123).ty, (erB_ok erC123).kp⟩
  have oexC124 : OexC K C124 := ⟨⟨nmC124, qC124, NC124, bsC124, _, snC124, subC124, abC124, colC124, m0C124, m1C124, m2C124, m3C124, m4C124, m5C124, xLC124, rfl⟩, (erB_ok erC124).sa, (erB_ok erC124).xf.exC, (erB_ok erC124).ty, (erB_ok erC124).kp⟩
  have EB : ∀ c, 101 ≤ c → c ≤ 124 → ∃ fi, ErB K (cn c) fi (nm c) := fun c h1 h2 => by
    rcases cases24 h1 h2 with rfl | rfl | rfl | rfl | rfl | rfl | rfl | rfl | rfl | rfl | rfl | rfl | rfl | rfl | rfl | rfl | rfl | rfl | rfl | rfl | rfl | rfl | rfl | rfl
    · rw [cn101]; exact ⟨_, erB_ok erC101⟩
    · rw [cn102]; exact ⟨_, erB_ok erC102⟩
    · rw [cn103]; exact ⟨_, erB_ok erC103⟩
    · rw [cn104]; exact ⟨_, erB_ok erC104⟩
    · rw [cn105]; exact ⟨_, erB_ok erC105⟩
    · rw [cn106]; exact ⟨_, erB_ok erC106⟩
    · rw [cn107]; exact ⟨_, erB_ok erC107⟩
    · rw [cn108]; exact ⟨_, erB_ok erC108⟩
    · rw [cn109]; exact ⟨_, erB_ok erC109⟩
    · rw [cn110]; exact ⟨_, erB_ok erC110⟩
    · rw [cn111]; exact ⟨_, erB_ok erC111⟩
    · rw [cn112]; exact ⟨_, erB_ok erC112⟩
    · rw [cn113]; exact ⟨_, erB_ok erC113⟩
    · rw [cn114]; exact ⟨_, erB_ok erC114⟩
    · rw [cn115]; exact ⟨_, erB_ok erC115⟩
    · rw [cn116]; exact ⟨_, erB_ok erC116⟩
    · rw [cn117]; exact ⟨_, erB_ok erC117⟩
    · rw [cn118]; exact ⟨_, erB_ok erC118⟩
    · rw [cn119]; exact ⟨_, erB_ok erC119⟩
    · rw [cn120]; exact ⟨_, erB_ok erC120⟩
    · rw [cn121]; exact ⟨_, erB_ok erC121⟩
    · rw [cn122]; exact ⟨_, erB_ok erC122⟩
    · rw [cn123]; exact ⟨_, erB_ok erC123⟩
    · rw [cn124]; exact ⟨_, erB_ok erC124⟩
  have KT : ∀ c, 101 ≤ c → c ≤ 124 → kitRow K (cn c) [.ref C101, .ref C102, .ref C103, .ref C104, .ref C105, .ref C106, .ref C107, .ref C108, .ref C109, .ref C110, .ref C111, .ref C112, .ref C113, .ref C114, .ref C115, .ref C116, .ref C117, .ref C118, .ref C119, .ref C120, .ref C121, .ref C122, .ref C123, .ref C124, .ref C125, .type "ValueError"] (bsOf c) = true := fun c h1 h2 => by
    rcases cases24 h1 h2 with rfl | rfl | rfl | rfl | rfl | rfl | rfl | rfl | rfl | rfl | rfl | rfl | rfl | rfl | rfl | rfl | rfl | rfl | rfl | rfl | rfl | rfl | rfl | rfl
    · rw [cn101]; exact krC101
    · rw [cn102]; exact krC102
    · rw [cn103]; exact krC103
    · rw [cn104]; exact krC104
    · rw [cn105]; exact krC105
    · rw [cn106]; exact krC106
    · rw [cn107]; exact krC107
    · rw [cn108]; exact krC108
    · rw [cn109]; exact krC109
    · rw [cn110]; exact krC110
    · rw [cn111]; exact krC111
    · rw [cn112]; exact krC112
    · rw [cn113]; exact krC113
    · rw [cn114]; exact krC114
    · rw [cn115]; exact krC115
    · rw [cn116]; exact krC116
    · rw [cn117]; exact krC117
    · rw [cn118]; exact krC118
    · rw [cn119]; exact krC119
    · rw [cn120]; exact krC120
    · rw [cn121]; exact krC121
    · rw [cn122]; exact krC122
    · rw [cn123]; exact krC123
    · rw [cn124]; exact krC124
  have K5 : ∀ c, 101 ≤ c → c ≤ 124 → kitRowAny K (cn c) [.type "LookupError", .type "TypeError", .type "ArithmeticError", .type "AttributeError", .type "RuntimeError"] false = true := fun c h1 h2 => by
    rcases cases24 h1 h2 with rfl | rfl | rfl | rfl | rfl | rfl | rfl | rfl | rfl | rfl | rfl | rfl | rfl | rfl | rfl | rfl | rfl | rfl | rfl | rfl | rfl | rfl | rfl | rfl
    · rw [cn101]; exact k5C101
    · rw [cn102]; exact k5C102
    · rw [cn103]; exact k5C103
    · rw [cn104]; exact k5C104
    · rw [cn105]; exact k5C105
    · rw [cn106]; exact k5C106
    · rw [cn107]; exact k5C107
    · rw [cn108]; exact k5C108
    · rw [cn109]; exact k5C109
    · rw [cn110]; exact k5C110
    · rw [cn111]; exact k5C111
    · rw [cn112]; exact k5C112
    · rw [cn113]; exact k5C113
    · rw [cn114]; exact k5C114
    · rw [cn115]; exact k5C115
    · rw [cn116]; exact k5C116
    · rw [cn117]; exact k5C117
    · rw [cn118]; exact k5C118
    · rw [cn119]; exact k5C119
    · rw [cn120]; exact k5C120
    · rw [cn121]; exact k5C121
    · rw [cn122]; exact k5C122
    · rw [cn123]; exact k5C123
    · rw [cn124]; exact k5C124
  have K6 : ∀ c, 101 ≤ c → c ≤ 124 → kitRowAny K (cn c) [.ref C113, .ref C114, .ref C115, .ref C116, .ref C117, .ref C118] (decide (113 ≤ c) && decide (c ≤ 118)) = true := fun c h1 h2 => by
    rcases cases24 h1 h2 with rfl | rfl | rfl | rfl | rfl | rfl | rfl | rfl | rfl | rfl | rfl | rfl | rfl | rfl | rfl | rfl | rfl | rfl | rfl | rfl | rfl | rfl | rfl | rfl
    · rw [cn101]; exact k6C101
    · rw [cn102]; exact k6C102
    · rw [cn103]; exact k6C103
    · rw [cn104]; exact k6C104
    · rw [cn105]; exact k6C105
    · rw [cn106]; exact k6C106
    · rw [cn107]; exact k6C107
    · rw [cn108]; exact k6C108
    · rw [cn109]; exact k6C109
    · rw [cn110]; exact k6C110
    · rw [cn111]; exact k6C111
    · rw [cn112]; exact k6C112
    · rw [cn113]; exact k6C113
    · rw [cn114]; exact k6C114
    · rw [cn115]; exact k6C115
    · rw [cn116]; exact k6C116
    · rw [cn117]; exact k6C117
    · rw [cn118]; exact k6C118
    · rw [cn119]; exact k6C119
    · rw [cn120]; exact k6C120
    · rw [cn121]; exact k6C121
    · rw [cn122]; exact k6C122
    · rw [cn123]; exact k6C123
    · rw [cn124]; exact k6C124
  have EX : ∀ c, 101 ≤ c → c ≤ 124 → exmRow K (cn c) [.ref C124, .ref C118, .ref C125] [misB c, c == 118, true] = true := fun c h1 h2 => by
    rcases cases24 h1 h2 with rfl | rfl | rfl | rfl | rfl | rfl | rfl | rfl | rfl | rfl | rfl | rfl | rfl | rfl | rfl | rfl | rfl | rfl | rfl | rfl | rfl | rfl | rfl | rfl
    · rw [cn101]; exact exC101
    · rw [cn102]; exact exC102
    · rw [cn103]; exact exC103
    · rw [cn104]; exact exC104
    · rw [cn105]; exact exC105
    · rw [cn106]; exact exC106
    · rw [cn107]; exact exC107
    · rw [cn108]; exact exC108
    · rw [cn109]; exact exC109
    · rw [cn110]; exact exC110
    · rw [cn111]; exact exC111
    · rw [cn112]; exact exC112
    · rw [cn113]; exact exC113
    · rw [cn114]; exact exC114
    · rw [cn115]; exact exC115
    · rw [cn116]; exact exC116
    · rw [cn117]; exact exC117
    · rw [cn118]; exact exC118
    · rw [cn119]; exact exC119
    · rw [cn120]; exact exC120
    · rw [cn121]; exact exC121
    · rw [cn122]; exact exC122
    · rw [cn123]; exact exC123
    · rw [cn124]; exact exC124
  have T : Txt K mg cn := {
    n_ArithmeticError := PySem.W.mg_none_of X G z_ArithmeticError
    n_AttributeError := PySem.W.mg_none_of X G z_AttributeError
    n_LookupError := PySem.W.mg_none_of X G z_LookupError
    n_RuntimeError := PySem.W.mg_none_of X G z_RuntimeError
    n_TypeError := PySem.W.mg_none_of X G z_TypeError
    n_ValueError := PySem.W.mg_none_of X G z_ValueError
    n_abs := PySem.W.mg_none_of X G z_abs
    n_int := PySem.W.mg_none_of X G z_int
    n_isinstance := PySem.W.mg_none_of X G z_isinstance
    n_range := PySem.W.mg_none_of X G z_range
    n_str := PySem.W.mg_none_of X G z_str
    A_error := fun c hc => by
      obtain ⟨h1, h2⟩ := nm_bd hc
      obtain ⟨fi, E⟩ := EB c h1 h2
      exact ⟨E.xf, E.no _ hc⟩
    A_item := fun c hc => by
      obtain ⟨h1, h2⟩ := nm_bd hc
      obtain ⟨fi, E⟩ := EB c h1 h2
      exact ⟨E.xf, E.no _ hc⟩
    A_line := fun c hc => by
      obtain ⟨h1, h2⟩ := nm_bd hc
      obtain ⟨fi, E⟩ := EB c h1 h2
      exact ⟨E.xf, E.no _ hc⟩
    A_most := fun c hc => by
      obtain ⟨h1, h2⟩ := nm_bd hc
      obtain ⟨fi, E⟩ := EB c h1 h2
      exact ⟨E.xf, E.no _ hc⟩
    A_paper := fun c hc => by
      obtain ⟨h1, h2⟩ := nm_bd hc
      obtain ⟨fi, E⟩ := EB c h1 h2
      exact ⟨E.xf, E.no _ hc⟩
    A_part := fun c hc => by
      obtain ⟨h1, h2⟩ := nm_bd hc
      obtain ⟨fi, E⟩ := EB c h1 h2
      exact ⟨E.xf, E.no _ hc⟩
    A_value := fun c hc => by
      obtain ⟨h1, h2⟩ := nm_bd hc
      obtain ⟨fi, E⟩ := EB c h1 h2
      exact ⟨E.xf, E.no _ hc⟩
    A_what := fun c hc => by
      obtain ⟨h1, h2⟩ := nm_bd hc
      obtain ⟨fi, E⟩ := EB c h1 h2
      exact ⟨E.xf, E.no _ hc⟩
    I_BadBook := fun c b h => by
      unfold isf_BadBook at h
      by_cases hE : isE c = true
      · rw [if_pos hE] at h; cases h
        obtain ⟨h1, h2⟩ := isE_bd hE
        obtain ⟨fi, E⟩ := EB c h1 h2
        exact ⟨E.erC hnA htA, by rw [cn104]; exact kitRow_get (KT c h1 h2) (i := 3) rfl rfl⟩
      · rw [if_neg hE] at h; cases h
    I_BadDesk := fun c b h => by
      unfold isf_BadDesk at h
      by_cases hE : isE c = true
      · rw [if_pos hE] at h; cases h
        obtain ⟨h1, h2⟩ := isE_bd hE
        obtain ⟨fi, E⟩ := EB c h1 h2
        exact ⟨E.erC hnA htA, by rw [cn111]; exact kitRow_get (KT c h1 h2) (i := 10) rfl rfl⟩
      · rw [if_neg hE] at h; cases h
    I_BadLine := fun c b h => by
      unfold isf_BadLine at h
      by_cases hE : isE c = true
      · rw [if_pos hE] at h; cases h
        obtain ⟨h1, h2⟩ := isE_bd hE
        obtain ⟨fi, E⟩ := EB c h1 h2
        exact ⟨E.erC hnA htA, by rw [cn123]; exact kitRow_get (KT c h1 h2) (i := 22) rfl rfl⟩
      · rw [if_neg hE] at h; cases h
    I_BadLot := fun c b h => by
      unfold isf_BadLot at h
      by_cases hE : isE c = true
      · rw [if_pos hE] at h; cases h
        obtain ⟨h1, h2⟩ := isE_bd hE
        obtain ⟨fi, E⟩ := EB c h1 h2
        exact ⟨E.erC hnA htA, by rw [cn103]; exact kitRow_get (KT c h1 h2) (i := 2) rfl rfl⟩
      · rw [if_neg hE] at h; cases h
    I_BadNumber := fun c b h => by
      unfold isf_BadNumber at h
      by_cases hE : isE c = true
      · rw [if_pos hE] at h; cases h
        obtain ⟨h1, h2⟩ := isE_bd hE
        obtain ⟨fi, E⟩ := EB c h1 h2
        exact ⟨E.erC hnA htA, by rw [cn101]; exact kitRow_get (KT c h1 h2) (i := 0) rfl rfl⟩
      · rw [if_neg hE] at h; cases h
    I_BadPaper := fun c b h => by
      unfold isf_BadPaper at h
      by_cases hE : isE c = true
      · rw [if_pos hE] at h; cases h
        obtain ⟨h1, h2⟩ := isE_bd hE
        obtain ⟨fi, E⟩ := EB c h1 h2
        exact ⟨E.erC hnA htA, by rw [cn110]; exact kitRow_get (KT c h1 h2) (i := 9) rfl rfl⟩
      · rw [if_neg hE] at h; cases h
    I_BadPolynomial := fun c b h => by
      unfold isf_BadPolynomial at h
      by_cases hE : isE c = true
      · rw [if_pos hE] at h; cases h
        obtain ⟨h1, h2⟩ := isE_bd hE
        obtain ⟨fi, E⟩ := EB c h1 h2
        exact ⟨E.erC hnA htA, by rw [cn106]; exact kitRow_get (KT c h1 h2) (i := 5) rfl rfl⟩
      · rw [if_neg hE] at h; cases h
    I_BadQuestion := fun c b h => by
      unfold isf_BadQuestion at h
      by_cases hE : isE c = true
      · rw [if_pos hE] at h; cases h
        obtain ⟨h1, h2⟩ := isE_bd hE
        obtain ⟨fi, E⟩ := EB c h1 h2
        exact ⟨E.erC hnA htA, by rw [cn108]; exact kitRow_get (KT c h1 h2) (i := 7) rfl rfl⟩
      · rw [if_neg hE] at h; cases h
    I_BadQuotient := fun c b h => by
      unfold isf_BadQuotient at h
      by_cases hE : isE c = true
      · rw [if_pos hE] at h; cases h
        obtain ⟨h1, h2⟩ := isE_bd hE
        obtain ⟨fi, E⟩ := EB c h1 h2
        exact ⟨E.erC hnA htA, by rw [cn107]; exact kitRow_get (KT c h1 h2) (i := 6) rfl rfl⟩
      · rw [if_neg hE] at h; cases h
    I_BadRatio := fun c b h => by
      unfold isf_BadRatio at h
      by_cases hE : isE c = true
      · rw [if_pos hE] at h; cases h
        obtain ⟨h1, h2⟩ := isE_bd hE
        obtain ⟨fi, E⟩ := EB c h1 h2
        exact ⟨E.erC hnA htA, by rw [cn102]; exact kitRow_get (KT c h1 h2) (i := 1) rfl rfl⟩
      · rw [if_neg hE] at h; cases h
    I_BadText := fun c b h => by
      unfold isf_BadText at h
      by_cases hE : isE c = true
      · rw [if_pos hE] at h; cases h
        obtain ⟨h1, h2⟩ := isE_bd hE
        obtain ⟨fi, E⟩ := EB c h1 h2
        exact ⟨E.erC hnA htA, by rw [cn122]; exact kitRow_get (KT c h1 h2) (i := 21) rfl rfl⟩
      · rw [if_neg hE] at h; cases h
    I_BadTown := fun c b h => by
      unfold isf_BadTown at h
      by_cases hE : isE c = true
      · rw [if_pos hE] at h; cases h
        obtain ⟨h1, h2⟩ := isE_bd hE
        obtain ⟨fi, E⟩ := EB c h1 h2
        exact ⟨E.erC hnA htA, by rw [cn109]; exact kitRow_get (KT c h1 h2) (i := 8) rfl rfl⟩
      · rw [if_neg hE] at h; cases h
    I_BadWeb := fun c b h => by
      unfold isf_BadWeb at h
      by_cases hE : isE c = true
      · rw [if_pos hE] at h; cases h
        obtain ⟨h1, h2⟩ := isE_bd hE
        obtain ⟨fi, E⟩ := EB c h1 h2
        exact ⟨E.erC hnA htA, by rw [cn105]; exact kitRow_get (KT c h1 h2) (i := 4) rfl rfl⟩
      · rw [if_neg hE] at h; cases h
    I_Impossible := fun c b h => by
      unfold isf_Impossible at h
      by_cases hE : isE c = true
      · rw [if_pos hE] at h; cases h
        obtain ⟨h1, h2⟩ := isE_bd hE
        obtain ⟨fi, E⟩ := EB c h1 h2
        exact ⟨E.erC hnA htA, by rw [cn119]; exact kitRow_get (KT c h1 h2) (i := 18) rfl rfl⟩
      · rw [if_neg hE] at h; cases h
    I_Misfit := fun c b h => by
      unfold isf_Misfit at h
      by_cases hE : isE c = true
      · rw [if_pos hE] at h; cases h
        obtain ⟨h1, h2⟩ := isE_bd hE
        obtain ⟨fi, E⟩ := EB c h1 h2
        exact ⟨E.erC hnA htA, by rw [cn112]; exact kitRow_get (KT c h1 h2) (i := 11) rfl rfl⟩
      · rw [if_neg hE] at h; cases h
    I_Missing := fun c b h => by
      unfold isf_Missing at h
      by_cases hE : isE c = true
      · rw [if_pos hE] at h; cases h
        obtain ⟨h1, h2⟩ := isE_bd hE
        obtain ⟨fi, E⟩ := EB c h1 h2
        exact ⟨E.erC hnA htA, by rw [cn124]; exact kitRow_get (KT c h1 h2) (i := 23) rfl rfl⟩
      · rw [if_neg hE] at h; cases h
    I_NoKind := fun c b h => by
      unfold isf_NoKind at h
      by_cases hE : isE c = true
      · rw [if_pos hE] at h; cases h
        obtain ⟨h1, h2⟩ := isE_bd hE
        obtain ⟨fi, E⟩ := EB c h1 h2
        exact ⟨E.erC hnA htA, by rw [cn116]; exact kitRow_get (KT c h1 h2) (i := 15) rfl rfl⟩
      · rw [if_neg hE] at h; cases h
    I_NoName := fun c b h => by
      unfold isf_NoName at h
      by_cases hE : isE c = true
      · rw [if_pos hE] at h; cases h
        obtain ⟨h1, h2⟩ := isE_bd hE
        obtain ⟨fi, E⟩ := EB c h1 h2
        exact ⟨E.erC hnA htA, by rw [cn117]; exact kitRow_get (KT c h1 h2) (i := 16) rfl rfl⟩
      · rw [if_neg hE] at h; cases h
    I_NoPoint := fun c b h => by
      unfold isf_NoPoint at h
      by_cases hE : isE c = true
      · rw [if_pos hE] at h; cases h
        obtain ⟨h1, h2⟩ := isE_bd hE
        obtain ⟨fi, E⟩ := EB c h1 h2
        exact ⟨E.erC hnA htA, by rw [cn113]; exact kitRow_get (KT c h1 h2) (i := 12) rfl rfl⟩
      · rw [if_neg hE] at h; cases h
    I_NoSort := fun c b h => by
      unfold isf_NoSort at h
      by_cases hE : isE c = true
      · rw [if_pos hE] at h; cases h
        obtain ⟨h1, h2⟩ := isE_bd hE
        obtain ⟨fi, E⟩ := EB c h1 h2
        exact ⟨E.erC hnA htA, by rw [cn115]; exact kitRow_get (KT c h1 h2) (i := 14) rfl rfl⟩
      · rw [if_neg hE] at h; cases h
    I_NoTie := fun c b h => by
      unfold isf_NoTie at h
      by_cases hE : isE c = true
      · rw [if_pos hE] at h; cases h
        obtain ⟨h1, h2⟩ := isE_bd hE
        obtain ⟨fi, E⟩ := EB c h1 h2
        exact ⟨E.erC hnA htA, by rw [cn114]; exact kitRow_get (KT c h1 h2) (i := 13) rfl rfl⟩
      · rw [if_neg hE] at h; cases h
    I_Nothing := fun c b h => by
      unfold isf_Nothing at h
      by_cases hE : isE c = true
      · rw [if_pos hE] at h; cases h
        obtain ⟨h1, h2⟩ := isE_bd hE
        obtain ⟨fi, E⟩ := EB c h1 h2
        exact ⟨E.erC hnA htA, by rw [cn121]; exact kitRow_get (KT c h1 h2) (i := 20) rfl rfl⟩
      · rw [if_neg hE] at h; cases h
    I_ThinError := fun c b h => by
      unfold isf_ThinError at h
      by_cases hE : isE c = true
      · rw [if_pos hE] at h; cases h
        obtain ⟨h1, h2⟩ := isE_bd hE
        obtain ⟨fi, E⟩ := EB c h1 h2
        exact ⟨E.erC hnA htA, by rw [cn125]; exact kitRow_get (KT c h1 h2) (i := 24) rfl rfl⟩
      · rw [if_neg hE] at h; cases h
    I_TooMany := fun c b h => by
      unfold isf_TooMany at h
      by_cases hE : isE c = true
      · rw [if_pos hE] at h; cases h
        obtain ⟨h1, h2⟩ := isE_bd hE
        obtain ⟨fi, E⟩ := EB c h1 h2
        exact ⟨E.erC hnA htA, by rw [cn120]; exact kitRow_get (KT c h1 h2) (i := 19) rfl rfl⟩
      · rw [if_neg hE] at h; cases h
    I_Twice := fun c b h => by
      unfold isf_Twice at h
      by_cases hE : isE c = true
      · rw [if_pos hE] at h; cases h
        obtain ⟨h1, h2⟩ := isE_bd hE
        obtain ⟨fi, E⟩ := EB c h1 h2
        exact ⟨E.erC hnA htA, by rw [cn118]; exact kitRow_get (KT c h1 h2) (i := 17) rfl rfl⟩
      · rw [if_neg hE] at h; cases h
    I_ValueError := fun c b h => by
      unfold isf_ValueError at h
      by_cases hE : isE c = true
      · rw [if_pos hE] at h; cases h
        obtain ⟨h1, h2⟩ := isE_bd hE
        obtain ⟨fi, E⟩ := EB c h1 h2
        exact ⟨E.erC hnA htA, by exact kitRow_get (KT c h1 h2) (i := 25) rfl rfl⟩
      · rw [if_neg hE] at h; cases h
    I_LookupError_TypeError_5 := fun c b h => by
      unfold isf_LookupError_TypeError_5 at h
      by_cases hE : isE c = true
      · rw [if_pos hE] at h; cases h
        obtain ⟨h1, h2⟩ := isE_bd hE
        obtain ⟨fi, E⟩ := EB c h1 h2
        exact ⟨E.erC hnA htA, kitAny_get (K5 c h1 h2)⟩
      · rw [if_neg hE] at h; cases h
    I_NoPoint_NoTie_6 := fun c b h => by
      unfold isf_NoPoint_NoTie_6 at h
      by_cases hE : isE c = true
      · rw [if_pos hE] at h; cases h
        obtain ⟨h1, h2⟩ := isE_bd hE
        obtain ⟨fi, E⟩ := EB c h1 h2
        refine ⟨E.erC hnA htA, ?_⟩
        rw [cn113, cn114, cn115, cn116, cn117, cn118]
        exact kitAny_get (K6 c h1 h2)
      · rw [if_neg hE] at h; cases h
    H_Missing := fun c b h => by
      unfold isf_Missing at h
      by_cases hE : isE c = true
      · rw [if_pos hE] at h; cases h
        obtain ⟨h1, h2⟩ := isE_bd hE
        rw [cn124]
        exact exmRow_get (EX c h1 h2) (i := 0) rfl rfl
      · rw [if_neg hE] at h; cases h
    H_ThinError := fun c b h => by
      unfold isf_ThinError at h
      by_cases hE : isE c = true
      · rw [if_pos hE] at h; cases h
        obtain ⟨h1, h2⟩ := isE_bd hE
        rw [cn125]
        exact exmRow_get (EX c h1 h2) (i := 2) rfl rfl
      · rw [if_neg hE] at h; cases h
    H_Twice := fun c b h => by
      unfold isf_Twice at h
      by_cases hE : isE c = true
      · rw [if_pos hE] at h; cases h
        obtain ⟨h1, h2⟩ := isE_bd hE
        rw [cn118]
        exact exmRow_get (EX c h1 h2) (i := 1) rfl rfl
      · rw [if_neg hE] at h; cases h
    m_BadBook := by rw [cn104]; exact PySem.W.mg_of X G aC104
    m_BadDesk := by rw [cn111]; exact PySem.W.mg_of X G aC111
    m_BadLine := by rw [cn123]; exact PySem.W.mg_of X G aC123
    m_BadLot := by rw [cn103]; exact PySem.W.mg_of X G aC103
    m_BadNumber := by rw [cn101]; exact PySem.W.mg_of X G aC101
    m_BadPaper := by rw [cn110]; exact PySem.W.mg_of X G aC110
    m_BadPolynomial := by rw [cn106]; exact PySem.W.mg_of X G aC106
    m_BadQuestion := by rw [cn108]; exact PySem.W.mg_of X G aC108
    m_BadQuotient := by rw [cn107]; exact PySem.W.mg_of X G aC107
    m_BadRatio := by rw [cn102]; exact PySem.W.mg_of X G aC102
    m_BadText := by rw [cn122]; exact PySem.W.mg_of X G aC122
    m_BadTown := by rw [cn109]; exact PySem.W.mg_of X G aC109
    m_BadWeb := by rw [cn105]; exact PySem.W.mg_of X G aC105
    m_Impossible := by rw [cn119]; exact PySem.W.mg_of X G aC119
    m_Misfit := by rw [cn112]; exact PySem.W.mg_of X G aC112
    m_Missing := by rw [cn124]; exact PySem.W.mg_of X G aC124
    m_NoKind := by rw [cn116]; exact PySem.W.mg_of X G aC116
    m_NoName := by rw [cn117]; exact PySem.W.mg_of X G aC117
    m_NoPoint := by rw [cn113]; exact PySem.W.mg_of X G aC113
    m_NoSort := by rw [cn115]; exact PySem.W.mg_of X G aC115
    m_NoTie := by rw [cn114]; exact PySem.W.mg_of X G aC114
    m_Nothing := by rw [cn121]; exact PySem.W.mg_of X G aC121
    m_ThinError := by rw [cn125]; exact PySem.W.mg_of X G aC125
    m_TooMany := by rw [cn120]; exact PySem.W.mg_of X G aC120
    m_Twice := by rw [cn118]; exact PySem.W.mg_of X G aC118
    M_BadBook := fun ρ P w base => by
      refine ⟨fiC104, _, ?_, ?_, ((erB_ok erC104).ini (by simp)).2, ?_, ?_, bIC104, rfl, by decide, by decide, fun u0 us hl s => match us, hl with | [_], _ => .of_eq rfl, fun u0 us hl s => match us, hl with | [_], _ => .of_eq rfl⟩
      · show OexC K (cn 104); rw [cn104]; exact oexC104
      · show PySem.W.findIn K (.ref (cn 104)) "__init__" = some (some (.ref fiC104)); rw [cn104]; exact ((erB_ok erC104).ini (by simp)).1
      · show mg "BadBook" = some (.ref (cn 104)); rw [cn104]; exact PySem.W.mg_of X G aC104
      · show FnOk P w K mg base CX0 1 fiC104 _ ["self", "part"] (spE (cn 104) ["part"]); rw [cn104]; exact okx_BadBook FIC104 oexC104 ((erB_ok erC104).no "part" (by simp))
    M_BadDesk := fun ρ P w base => by
      refine ⟨fiC111, _, ?_, ?_, ((erB_ok erC111).ini (by simp)).2, ?_, ?_, bIC111, rfl, by decide, by decide, fun u0 us hl s => match us, hl with | [_], _ => .of_eq rfl, fun u0 us hl s => match us, hl with | [_], _ => .of_eq rfl⟩
      · show OexC K (cn 111); rw [cn111]; exact oexC111
      · show PySem.W.findIn K (.ref (cn 111)) "__init__" = some (some (.ref fiC111)); rw [cn111]; exact ((erB_ok erC111).ini (by simp)).1
      · show mg "BadDesk" = some (.ref (cn 111)); rw [cn111]; exact PySem.W.mg_of X G aC111
      · show FnOk P w K mg base CX0 1 fiC111 _ ["self", "part"] (spE (cn 111) ["part"]); rw [cn111]; exact okx_BadDesk FIC111 oexC111 ((erB_ok erC111).no "part" (by simp))
    M_BadLine := fun ρ P w base => by
      refine ⟨fiC123, _, ?_, ?_, ((erB_ok erC123).ini (by simp)).2, ?_, ?_, bIC123, rfl, by decide, by decide, fun u0 us hl s => match us, hl with | [_, _], _ => .of_eq rfl, fun u0 us hl s => match us, hl with | [_, _], _ => .of_eq rfl⟩
      · show OexC K (cn 123); rw [cn123]; exact oexC123
      · show PySem.W.findIn K (.ref (cn 123)) "__init__" = some (some (.ref fiC123)); rw [cn123]; exact ((erB_ok erC123).ini (by simp)).1
      · show mg "BadLine" = some (.ref (cn 123)); rw [cn123]; exact PySem.W.mg_of X G aC123
      · show FnOk P w K mg base CX0 1 fiC123 _ ["self", "line", "error"] (spE (cn 123) ["line", "error"]); rw [cn123]; exact okx_BadLine FIC123 oexC123 ((erB_ok erC123).no "line" (by simp)) ((erB_ok erC123).no "error" (by simp))
    M_BadLot := fun ρ P w base => by
      refine ⟨fiC103, _, ?_, ?_, ((erB_ok erC103).ini (by simp)).2, ?_, ?_, bIC103, rfl, by decide, by decide, fun u0 us hl s => match us, hl with | [_], _ => .of_eq rfl, fun u0 us hl s => match us, hl with | [_], _ => .of_eq rfl⟩
      · show OexC K (cn 103); rw [cn103]; exact oexC103
      · show PySem.W.findIn K (.ref (cn 103)) "__init__" = some (some (.ref fiC103)); rw [cn103]; exact ((erB_ok erC103).ini (by simp)).1
      · show mg "BadLot" = some (.ref (cn 103)); rw [cn103]; exact PySem.W.mg_of X G aC103
      · show FnOk P w K mg base CX0 1 fiC103 _ ["self", "part"] (spE (cn 103) ["part"]); rw [cn103]; exact okx_BadLot FIC103 oexC103 ((erB_ok erC103).no "part" (by simp))
    M_BadNumber := fun ρ P w base => by
      refine ⟨fiC101, _, ?_, ?_, ((erB_ok erC101).ini (by simp)).2, ?_, ?_, bIC101, rfl, by decide, by decide, fun u0 us hl s => match us, hl with | [_], _ => .of_eq rfl, fun u0 us hl s => match us, hl with | [_], _ => .of_eq rfl⟩
      · show OexC K (cn 101); rw [cn101]; exact oexC101
      · show PySem.W.findIn K (.ref (cn 101)) "__init__" = some (some (.ref fiC101)); rw [cn101]; exact ((erB_ok erC101).ini (by simp)).1
      · show mg "BadNumber" = some (.ref (cn 101)); rw [cn101]; exact PySem.W.mg_of X G aC101
      · show FnOk P w K mg base CX0 1 fiC101 _ ["self", "part"] (spE (cn 101) ["part"]); rw [cn101]; exact okx_BadNumber FIC101 oexC101 ((erB_ok erC101).no "part" (by simp))
    M_BadPaper := fun ρ P w base => by
      refine ⟨fiC110, _, ?_, ?_, ((erB_ok erC110).ini (by simp)).2, ?_, ?_, bIC110, rfl, by decide, by decide, fun u0 us hl s => match us, hl with | [_], _ => .of_eq rfl, fun u0 us hl s => match us, hl with | [_], _ => .of_eq rfl⟩
      · show OexC K (cn 110); rw [cn110]; exact oexC110
      · show PySem.W.findIn K (.ref (cn 110)) "__init__" = some (some (.ref fiC110)); rw [cn110]; exact ((erB_ok erC110).ini (by simp)).1
      · show mg "BadPaper" = some (.ref (cn 110)); rw [cn110]; exact PySem.W.mg_of X G aC110
      · show FnOk P w K mg base CX0 1 fiC110 _ ["self", "part"] (spE (cn 110) ["part"]); rw [cn110]; exact okx_BadPaper FIC110 oexC110 ((erB_ok erC110).no "part" (by simp))
    M_BadPolynomial := fun ρ P w base => by
      refine ⟨fiC106, _, ?_, ?_, ((erB_ok erC106).ini (by simp)).2, ?_, ?_, bIC106, rfl, by decide, by decide, fun u0 us hl s => match us, hl with | [_], _ => .of_eq rfl, fun u0 us hl s => match us, hl with | [_], _ => .of_eq rfl⟩
      · show OexC K (cn 106); rw [cn106]; exact oexC106
      · show PySem.W.findIn K (.ref (cn 106)) "__init__" = some (some (.ref fiC106)); rw [cn106]; exact ((erB_ok erC106).ini (by simp)).1
      · show mg "BadPolynomial" = some (.ref (cn 106)); rw [cn106]; exact PySem.W.mg_of X G aC106
      · show FnOk P w K mg base CX0 1 fiC106 _ ["self", "part"] (spE (cn 106) ["part"]); rw [cn106]; exact okx_BadPolynomial FIC106 oexC106 ((erB_ok erC106).no "part" (by simp))
    M_BadQuestion := fun ρ P w base => by
      refine ⟨fiC108, _, ?_, ?_, ((erB_ok erC108).ini (by simp)).2, ?_, ?_, bIC108, rfl, by decide, by decide, fun u0 us hl s => match us, hl with | [_], _ => .of_eq rfl, fun u0 us hl s => match us, hl with | [_], _ => .of_eq rfl⟩
      · show OexC K (cn 108); rw [cn108]; exact oexC108
      · show PySem.W.findIn K (.ref (cn 108)) "__init__" = some (some (.ref fiC108)); rw [cn108]; exact ((erB_ok erC108).ini (by simp)).1
      · show mg "BadQuestion" = some (.ref (cn 108)); rw [cn108]; exact PySem.W.mg_of X G aC108
      · show FnOk P w K mg base CX0 1 fiC108 _ ["self", "part"] (spE (cn 108) ["part"]); rw [cn108]; exact okx_BadQuestion FIC108 oexC108 ((erB_ok erC108).no "part" (by simp))
    M_BadQuotient := fun ρ P w base => by
      refine ⟨fiC107, _, ?_, ?_, ((erB_ok erC107).ini (by simp)).2, ?_, ?_, bIC107, rfl, by decide, by decide, fun u0 us hl s => match us, hl with | [_], _ => .of_eq rfl, fun u0 us hl s => match us, hl with | [_], _ => .of_eq rfl⟩
      · show OexC K (cn 107); rw [cn107]; exact oexC107
      · show PySem.W.findIn K (.ref (cn 107)) "__init__" = some (some (.ref fiC107)); rw [cn107]; exact ((erB_ok erC107).ini (by simp)).1
      · show mg "BadQuotient" = some (.ref (cn 107)); rw [cn107]; exact PySem.W.mg_of X G aC107
      · show FnOk P w K mg base CX0 1 fiC107 _ ["self", "part"] (spE (cn 107) ["part"]); rw [cn107]; exact okx_BadQuotient FIC107 oexC107 ((erB_ok erC107).no "part" (by simp))
    M_BadRatio := fun ρ P w base => by
      refine ⟨fiC102, _, ?_, ?_, ((erB_ok erC102).ini (by simp)).2, ?_, ?_, bIC102, rfl, by decide, by decide, fun u0 us hl s => match us, hl with | [_], _ => .of_eq rfl, fun u0 us hl s => match us, hl with | [_], _ => .of_eq rfl⟩
      · show OexC K (cn 102); rw [cn102]; exact oexC102
      · show PySem.W.findIn K (.ref (cn 102)) "__init__" = some (some (.ref fiC102)); rw [cn102]; exact ((erB_ok erC102).ini (by simp)).1
      · show mg "BadRatio" = some (.ref (cn 102)); rw [cn102]; exact PySem.W.mg_of X G aC102
      · show FnOk P w K mg base CX0 1 fiC102 _ ["self", "part"] (spE (cn 102) ["part"]); rw [cn102]; exact okx_BadRatio FIC102 oexC102 ((erB_ok erC102).no "part" (by simp))
    M_BadText := fun ρ P w base => by
      refine ⟨fiC122, _, ?_, ?_, ((erB_ok erC122).ini (by simp)).2, ?_, ?_, bIC122, rfl, by decide, by decide, fun u0 us hl s => match us, hl with | [_, _], _ => .of_eq rfl, fun u0 us hl s => match us, hl with | [_, _], _ => .of_eq rfl⟩
      · show OexC K (cn 122); rw [cn122]; exact oexC122
      · show PySem.W.findIn K (.ref (cn 122)) "__init__" = some (some (.ref fiC122)); rw [cn122]; exact ((erB_ok erC122).ini (by simp)).1
      · show mg "BadText" = some (.ref (cn 122)); rw [cn122]; exact PySem.W.mg_of X G aC122
      · show FnOk P w K mg base CX0 1 fiC122 _ ["self", "line", "item"] (spE (cn 122) ["line", "item"]); rw [cn122]; exact okx_BadText FIC122 oexC122 ((erB_ok erC122).no "line" (by simp)) ((erB_ok erC122).no "item" (by simp))
    M_BadTown := fun ρ P w base => by
      refine ⟨fiC109, _, ?_, ?_, ((erB_ok erC109).ini (by simp)).2, ?_, ?_, bIC109, rfl, by decide, by decide, fun u0 us hl s => match us, hl with | [_], _ => .of_eq rfl, fun u0 us hl s => match us, hl with | [_], _ => .of_eq rfl⟩
      · show OexC K (cn 109); rw [cn109]; exact oexC109
      · show PySem.W.findIn K (.ref (cn 109)) "__init__" = some (some (.ref fiC109)); rw [cn109]; exact ((erB_ok erC109).ini (by simp)).1
      · show mg "BadTown" = some (.ref (cn 109)); rw [cn109]; exact PySem.W.mg_of X G aC109
      · show FnOk P w K mg base CX0 1 fiC109 _ ["self", "part"] (spE (cn 109) ["part"]); rw [cn109]; exact okx_BadTown FIC109 oexC109 ((erB_ok erC109).no "part" (by simp))
    M_BadWeb := fun ρ P w base => by
      refine ⟨fiC105, _, ?_, ?_, ((erB_ok erC105).ini (by simp)).2, ?_, ?_, bIC105, rfl, by decide, by decide, fun u0 us hl s => match us, hl with | [_], _ => .of_eq rfl, fun u0 us hl s => match us, hl with | [_], _ => .of_eq rfl⟩
      · show OexC K (cn 105); rw [cn105]; exact oexC105
      · show PySem.W.findIn K (.ref (cn 105)) "__init__" = some (some (.ref fiC105)); rw [cn105]; exact ((erB_ok erC105).ini (by simp)).1
      · show mg "BadWeb" = some (.ref (cn 105)); rw [cn105]; exact PySem.W.mg_of X G aC105
      · show FnOk P w K mg base CX0 1 fiC105 _ ["self", "part"] (spE (cn 105) ["part"]); rw [cn105]; exact okx_BadWeb FIC105 oexC105 ((erB_ok erC105).no "part" (by simp))
    M_Impossible := fun ρ P w base => by
      refine ⟨fiC119, _, ?_, ?_, ((erB_ok erC119).ini (by simp)).2, ?_, ?_, bIC119, rfl, by decide, by decide, fun u0 us hl s => match us, hl with | [_], _ => .of_eq rfl, fun u0 us hl s => match us, hl with | [_], _ => .of_eq rfl⟩
      · show OexC K (cn 119); rw [cn119]; exact oexC119
      · show PySem.W.findIn K (.ref (cn 119)) "__init__" = some (some (.ref fiC119)); rw [cn119]; exact ((erB_ok erC119).ini (by simp)).1
      · show mg "Impossible" = some (.ref (cn 119)); rw [cn119]; exact PySem.W.mg_of X G aC119
      · show FnOk P w K mg base CX0 1 fiC119 _ ["self", "paper"] (spE (cn 119) ["paper"]); rw [cn119]; exact okx_Impossible FIC119 oexC119 ((erB_ok erC119).no "paper" (by simp))
    M_Misfit := fun ρ P w base => by
      refine ⟨fiC112, _, ?_, ?_, ((erB_ok erC112).ini (by simp)).2, ?_, ?_, bIC112, rfl, by decide, by decide, fun u0 us hl s => match us, hl with | [_], _ => .of_eq rfl, fun u0 us hl s => match us, hl with | [_], _ => .of_eq rfl⟩
      · show OexC K (cn 112); rw [cn112]; exact oexC112
      · show PySem.W.findIn K (.ref (cn 112)) "__init__" = some (some (.ref fiC112)); rw [cn112]; exact ((erB_ok erC112).ini (by simp)).1
      · show mg "Misfit" = some (.ref (cn 112)); rw [cn112]; exact PySem.W.mg_of X G aC112
      · show FnOk P w K mg base CX0 1 fiC112 _ ["self", "part"] (spE (cn 112) ["part"]); rw [cn112]; exact okx_Misfit FIC112 oexC112 ((erB_ok erC112).no "part" (by simp))
    M_Missing := fun ρ P w base => by
      refine ⟨fiC124, _, ?_, ?_, ((erB_ok erC124).ini (by simp)).2, ?_, ?_, bIC124, rfl, by decide, by decide, fun u0 us hl s => match us, hl with | [_], _ => .of_eq rfl, fun u0 us hl s => match us, hl with | [_], _ => .of_eq rfl⟩
      · show OexC K (cn 124); rw [cn124]; exact oexC124
      · show PySem.W.findIn K (.ref (cn 124)) "__init__" = some (some (.ref fiC124)); rw [cn124]; exact ((erB_ok erC124).ini (by simp)).1
      · show mg "Missing" = some (.ref (cn 124)); rw [cn124]; exact PySem.W.mg_of X G aC124
      · show FnOk P w K mg base CX0 1 fiC124 _ ["self", "value"] (spE (cn 124) ["value"]); rw [cn124]; exact okx_Missing FIC124 oexC124 ((erB_ok erC124).no "value" (by simp))
    M_NoKind := fun ρ P w base => by
      refine ⟨fiC124, _, ?_, ?_, ((erB_ok erC116).ini (by simp)).2, ?_, ?_, bIC124, rfl, by decide, by decide, fun u0 us hl s => match us, hl with | [_], _ => .of_eq rfl, fun u0 us hl s => match us, hl with | [_], _ => .of_eq rfl⟩
      · show OexC K (cn 116); rw [cn116]; exact oexC116
      · show PySem.W.findIn K (.ref (cn 116)) "__init__" = some (some (.ref fiC124)); rw [cn116]; exact ((erB_ok erC116).ini (by simp)).1
      · show mg "NoKind" = some (.ref (cn 116)); rw [cn116]; exact PySem.W.mg_of X G aC116
      · show FnOk P w K mg base CX0 1 fiC124 _ ["self", "value"] (spE (cn 116) ["value"]); rw [cn116]; exact okx_Missing FIC124 oexC116 ((erB_ok erC116).no "value" (by simp))
    M_NoName := fun ρ P w base => by
      refine ⟨fiC124, _, ?_, ?_, ((erB_ok erC117).ini (by simp)).2, ?_, ?_, bIC124, rfl, by decide, by decide, fun u0 us hl s => match us, hl with | [_], _ => .of_eq rfl, fun u0 us hl s => match us, hl with | [_], _ => .of_eq rfl⟩
      · show OexC K (cn 117); rw [cn117]; exact oexC117
      · show PySem.W.findIn K (.ref (cn 117)) "__init__" = some (some (.ref fiC124)); rw [cn117]; exact ((erB_ok erC117).ini (by simp)).1
      · show mg "NoName" = some (.ref (cn 117)); rw [cn117]; exact PySem.W.mg_of X G aC117
      · show FnOk P w K mg base CX0 1 fiC124 _ ["self", "value"] (spE (cn 117) ["value"]); rw [cn117]; exact okx_Missing FIC124 oexC117 ((erB_ok erC117).no "value" (by simp))
    M_NoPoint := fun ρ P w base => by
      refine ⟨fiC124, _, ?_, ?_, ((erB_ok erC113).ini (by simp)).2, ?_, ?_, bIC124, rfl, by decide, by decide, fun u0 us hl s => match us, hl with | [_], _ => .of_eq rfl, fun u0 us hl s => match us, hl with | [_], _ => .of_eq rfl⟩
      · show OexC K (cn 113); rw [cn113]; exact oexC113
      · show PySem.W.findIn K (.ref (cn 113)) "__init__" = some (some (.ref fiC124)); rw [cn113]; exact ((erB_ok erC113).ini (by simp)).1
      · show mg "NoPoint" = some (.ref (cn 113)); rw [cn113]; exact PySem.W.mg_of X G aC113
      · show FnOk P w K mg base CX0 1 fiC124 _ ["self", "value"] (spE (cn 113) ["value"]); rw [cn113]; exact okx_Missing FIC124 oexC113 ((erB_ok erC113).no "value" (by simp))
    M_NoSort := fun ρ P w base => by
      refine ⟨fiC124, _, ?_, ?_, ((erB_ok erC115).ini (by simp)).2, ?_, ?_, bIC124, rfl, by decide, by decide, fun u0 us hl s => match us, hl with | [_], _ => .of_eq rfl, fun u0 us hl s => match us, hl with | [_], _ => .of_eq rfl⟩
      · show OexC K (cn 115); rw [cn115]; exact oexC115
      · show PySem.W.findIn K (.ref (cn 115)) "__init__" = some (some (.ref fiC124)); rw [cn115]; exact ((erB_ok erC115).ini (by simp)).1
      · show mg "NoSort" = some (.ref (cn 115)); rw [cn115]; exact PySem.W.mg_of X G aC115
      · show FnOk P w K mg base CX0 1 fiC124 _ ["self", "value"] (spE (cn 115) ["value"]); rw [cn115]; exact okx_Missing FIC124 oexC115 ((erB_ok erC115).no "value" (by simp))
    M_NoTie := fun ρ P w base => by
      refine ⟨fiC124, _, ?_, ?_, ((erB_ok erC114).ini (by simp)).2, ?_, ?_, bIC124, rfl, by decide, by decide, fun u0 us hl s => match us, hl with | [_], _ => .of_eq rfl, fun u0 us hl s => match us, hl with | [_], _ => .of_eq rfl⟩
      · show OexC K (cn 114); rw [cn114]; exact oexC114
      · show PySem.W.findIn K (.ref (cn 114)) "__init__" = some (some (.ref fiC124)); rw [cn114]; exact ((erB_ok erC114).ini (by simp)).1
      · show mg "NoTie" = some (.ref (cn 114)); rw [cn114]; exact PySem.W.mg_of X G aC114
      · show FnOk P w K mg base CX0 1 fiC124 _ ["self", "value"] (spE (cn 114) ["value"]); rw [cn114]; exact okx_Missing FIC124 oexC114 ((erB_ok erC114).no "value" (by simp))
    M_TooMany := fun ρ P w base => by
      refine ⟨fiC120, _, ?_, ?_, ((erB_ok erC120).ini (by simp)).2, ?_, ?_, bIC120, rfl, by decide, by decide, fun u0 us hl s => match us, hl with | [_, _], _ => .of_eq rfl, fun u0 us hl s => match us, hl with | [_, _], _ => .of_eq rfl⟩
      · show OexC K (cn 120); rw [cn120]; exact oexC120
      · show PySem.W.findIn K (.ref (cn 120)) "__init__" = some (some (.ref fiC120)); rw [cn120]; exact ((erB_ok erC120).ini (by simp)).1
      · show mg "TooMany" = some (.ref (cn 120)); rw [cn120]; exact PySem.W.mg_of X G aC120
      · show FnOk P w K mg base CX0 1 fiC120 _ ["self", "what", "most"] (spE (cn 120) ["what", "most"]); rw [cn120]; exact okx_TooMany FIC120 oexC120 ((erB_ok erC120).no "what" (by simp)) ((erB_ok erC120).no "most" (by simp))
    M_Twice := fun ρ P w base => by
      refine ⟨fiC118, _, ?_, ?_, ((erB_ok erC118).ini (by simp)).2, ?_, ?_, bIC118, rfl, by decide, by decide, fun u0 us hl s => match us, hl with | [_], _ => .of_eq rfl, fun u0 us hl s => match us, hl with | [_], _ => .of_eq rfl⟩
      · show OexC K (cn 118); rw [cn118]; exact oexC118
      · show PySem.W.findIn K (.ref (cn 118)) "__init__" = some (some (.ref fiC118)); rw [cn118]; exact ((erB_ok erC118).ini (by simp)).1
      · show mg "Twice" = some (.ref (cn 118)); rw [cn118]; exact PySem.W.mg_of X G aC118
      · show FnOk P w K mg base CX0 1 fiC118 _ ["self", "value"] (spE (cn 118) ["value"]); rw [cn118]; exact okx_Twice FIC118 oexC118 ((erB_ok erC118).no "value" (by simp))
    Z_Nothing := fun ρ => ⟨by show PySem.W.excIn K (cn 121) bmVE "ValueError.__new__" = true; rw [cn121]; exact q0C121, by show PySem.W.keepIn K (.ref (cn 121)) = true; rw [cn121]; exact (erB_ok erC121).kp, by show mg "Nothing" = some (.ref (cn 121)); rw [cn121]; exact PySem.W.mg_of X G aC121⟩
    ec := fun c h => by rw [beq_iff_eq.mp h, cn113]; exact (erB_ok erC113).eq }
  have F__law_bag := fun_mk (st := s__law_bag) l__law_bag c__law_bag k__law_bag
  have bb__law_bag := F__law_bag.binds (ps := p__law_bag) fun _ _ _ _ _ _ us hl => match us, hl with | [_], _ => rfl
  have F__law_pull := fun_mk (st := s__law_pull) l__law_pull c__law_pull k__law_pull
  have bb__law_pull := F__law_pull.binds (ps := p__law_pull) fun _ _ _ _ _ _ us hl => match us, hl with | [_, _], _ => rfl
  have F__law_field := fun_mk (st := s__law_field) l__law_field c__law_field k__law_field
  have bb__law_field := F__law_field.binds (ps := p__law_field) fun _ _ _ _ _ _ us hl => match us, hl with | [_], _ => rfl
  have F__law_is_one := fun_mk (st := s__law_is_one) l__law_is_one c__law_is_one k__law_is_one
  have bb__law_is_one := F__law_is_one.binds (ps := p__law_is_one) fun _ _ _ _ _ _ us hl => match us, hl with | [_, _], _ => rfl
  have F__law_by_place := fun_mk (st := s__law_by_place) l__law_by_place c__law_by_place k__law_by_place
  have bb__law_by_place := F__law_by_place.binds (ps := p__law_by_place) fun _ _ _ _ _ _ us hl => match us, hl with | [_], _ => rfl
  have F__law_by_name := fun_mk (st := s__law_by_name) l__law_by_name c__law_by_name k__law_by_name
  have bb__law_by_name := F__law_by_name.binds (ps := p__law_by_name) fun _ _ _ _ _ _ us hl => match us, hl with | [_], _ => rfl
  have F__law_kept := fun_mk (st := s__law_kept) l__law_kept c__law_kept k__law_kept
  have bb__law_kept := F__law_kept.binds (ps := p__law_kept) fun _ _ _ _ _ _ us hl => match us, hl with | [_, _], _ => rfl
  have F__law_single_right := fun_mk (st := s__law_single_right) l__law_single_right c__law_single_right k__law_single_right
  have bb__law_single_right := F__law_single_right.binds (ps := p__law_single_right) fun _ _ _ _ _ _ us hl => match us, hl with | [_, _], _ => rfl
  have F__law_double_right := fun_mk (st := s__law_double_right) l__law_double_right c__law_double_right k__law_double_right
  have bb__law_double_right := F__law_double_right.binds (ps := p__law_double_right) fun _ _ _ _ _ _ us hl => match us, hl with | [_, _], _ => rfl
  have F__law_raised := fun_mk (st := s__law_raised) l__law_raised c__law_raised k__law_raised
  have bb__law_raised := F__law_raised.binds (ps := p__law_raised) fun _ _ _ _ _ _ us hl => match us, hl with | [_, _], _ => rfl
  have F__law_caught := fun_mk (st := s__law_caught) l__law_caught c__law_caught k__law_caught
  have bb__law_caught := F__law_caught.binds (ps := p__law_caught) fun _ _ _ _ _ _ us hl => match us, hl with | [_, _], _ => rfl
  have F_law := fun_mk (st := s_law) l_law c_law k_law
  have bb_law := F_law.binds (ps := p_law) fun _ _ _ _ _ _ us hl => match us, hl with | [_], _ => rfl
  refine ⟨PySem.W.fnOf "law" "law" (defArgs s_law) (defBody s_law) (defScope s_law) .none kV_law dc_law pm_law an_law cd_law ct_law, [], spLawT K, fun p hp => (nomatch hp), fun s v => .of_eq rfl,
    fun H a ns hl hb _ hS => ⟨a, ns, rfl, hS, hl, hb, fun _ => rfl⟩, fun base _ _ TBs => law_spT (cn := cn) (fun fu => ?_) hlaw⟩
  have C__law_bag : ∀ ρ : Nat → Option V, Cl l.prog w (gOf K mg cn ρ) base 1 "_law_bag" p__law_bag (d__law_bag fu) := fun ρ => ⟨⟨f__law_bag, _, ok__law_bag F__law_bag T, PySem.W.mg_of X G a__law_bag, k__law_bag, bb__law_bag, fun us hl s => match us, hl with | [_], _ => .of_eq rfl⟩⟩
  have C__law_pull : ∀ ρ : Nat → Option V, Cl l.prog w (gOf K mg cn ρ) base 1 "_law_pull" p__law_pull (d__law_pull fu) := fun ρ => ⟨⟨f__law_pull, _, ok__law_pull F__law_pull T, PySem.W.mg_of X G a__law_pull, k__law_pull, bb__law_pull, fun us hl s => match us, hl with | [_, _], _ => .of_eq rfl⟩⟩
  have C__law_field : ∀ ρ : Nat → Option V, Cl l.prog w (gOf K mg cn ρ) base 3 "_law_field" p__law_field (d__law_field fu) := fun ρ => ⟨⟨f__law_field, _, ok__law_field F__law_field T (C__law_pull ρ), PySem.W.mg_of X G a__law_field, k__law_field, bb__law_field, fun us hl s => match us, hl with | [_], _ => .of_eq rfl⟩⟩
  have C__law_is_one : ∀ ρ : Nat → Option V, Cl l.prog w (gOf K mg cn ρ) base 1 "_law_is_one" p__law_is_one (d__law_is_one fu) := fun ρ => ⟨⟨f__law_is_one, _, ok__law_is_one F__law_is_one T, PySem.W.mg_of X G a__law_is_one, k__law_is_one, bb__law_is_one, fun us hl s => match us, hl with | [_, _], _ => .of_eq rfl⟩⟩
  have C__law_by_place : ∀ ρ : Nat → Option V, Cl l.prog w (gOf K mg cn ρ) base 3 "_law_by_place" p__law_by_place (d__law_by_place fu) := fun ρ => ⟨⟨f__law_by_place, _, ok__law_by_place F__law_by_place T, PySem.W.mg_of X G a__law_by_place, k__law_by_place, bb__law_by_place, fun us hl s => match us, hl with | [_], _ => .of_eq rfl⟩⟩
  have C__law_by_name : ∀ ρ : Nat → Option V, Cl l.prog w (gOf K mg cn ρ) base 3 "_law_by_name" p__law_by_name (d__law_by_name fu) := fun ρ => ⟨⟨f__law_by_name, _, ok__law_by_name F__law_by_name T, PySem.W.mg_of X G a__law_by_name, k__law_by_name, bb__law_by_name, fun us hl s => match us, hl with | [_], _ => .of_eq rfl⟩⟩
  have C__law_kept : ∀ ρ : Nat → Option V, Cl l.prog w (gOf K mg cn ρ) base 1 "_law_kept" p__law_kept (d__law_kept fu) := fun ρ => ⟨⟨f__law_kept, _, ok__law_kept F__law_kept T, PySem.W.mg_of X G a__law_kept, k__law_kept, bb__law_kept, fun us hl s => match us, hl with | [_, _], _ => .of_eq rfl⟩⟩
  have C__law_single_right : ∀ ρ : Nat → Option V, Cl l.prog w (gOf K mg cn ρ) base 4 "_law_single_right" p__law_single_right (d__law_single_right fu) := fun ρ => ⟨⟨f__law_single_right, _, ok__law_single_right F__law_single_right T (C__law_is_one ρ) (C__law_by_place ρ) (C__law_by_name ρ) (C__law_kept ρ), PySem.W.mg_of X G a__law_single_right, k__law_single_right, bb__law_single_right, fun us hl s => match us, hl with | [_, _], _ => .of_eq rfl⟩⟩
  have C__law_double_right : ∀ ρ : Nat → Option V, Cl l.prog w (gOf K mg cn ρ) base 3 "_law_double_right" p__law_double_right (d__law_double_right fu) := fun ρ => ⟨⟨f__law_double_right, _, ok__law_double_right F__law_double_right T (C__law_is_one ρ), PySem.W.mg_of X G a__law_double_right, k__law_double_right, bb__law_double_right, fun us hl s => match us, hl with | [_, _], _ => .of_eq rfl⟩⟩
  have C__law_raised : ∀ ρ : Nat → Option V, Cl l.prog w (gOf K mg cn ρ) base 3 "_law_raised" p__law_raised (d__law_raised fu) := fun ρ => ⟨⟨f__law_raised, _, ok__law_raised F__law_raised T, PySem.W.mg_of X G a__law_raised, k__law_raised, bb__law_raised, fun us hl s => match us, hl with | [_, _], _ => .of_eq rfl⟩⟩
  have C__law_caught : ∀ ρ : Nat → Option V, Cl l.prog w (gOf K mg cn ρ) base 4 "_law_caught" p__law_caught (d__law_caught fu) := fun ρ => ⟨⟨f__law_caught, _, ok__law_caught F__law_caught T (C__law_raised ρ), PySem.W.mg_of X G a__law_caught, k__law_caught, bb__law_caught, fun us hl s => match us, hl with | [_, _], _ => .of_eq rfl⟩⟩
  exact FnG.of (ok_law F_law T C__law_bag C__law_field C__law_single_right C__law_double_right C__law_caught)
end K00
open PySem PySem.W PyProof.Rows in
set_option maxRecDepth 100000 in
set_option maxHeartbeats 0 in
set_option pp.maxSteps 60 in
theorem PySem.Challenge.cw_thincoins_k00_errors_keep_their_fields_holds : PySem.Challenge.rw_thincoins_k00_errors_keep_their_fields.Holds := by
  w_on; o_law; k_head; (case hw => w_witness2)
  k_fill
  refine TW.walk_ofG (l := PySem.Challenge.rw_thincoins_k00_errors_keep_their_fields) (n := 63) (k := 5) (x := "_law_script") (CX := fun w => L2.CX (PySem.Challenge.rw_thincoins_k00_errors_keep_their_fields).prog w) rfl (by decide) rfl ⟨rfl, by decide, by decide⟩ (fun w h Y => PySem.W.kIn_of Y) ?F ?C
  case C => exact fun _ _ _ _ _ ⟨_, _, _, _, _, _, _, _, _, _, _, _, z⟩ => z
  case F =>
    intro w mg fa h Y KX G hmg own
    refine' K00.all_mk KX G hmg ?hnA ?htA ?aC101 ?aC102 ?aC103 ?aC104 ?aC105 ?aC106 ?aC107 ?aC108 ?aC109 ?aC110 ?aC111 ?aC112 ?aC113 ?aC114 ?aC115 ?aC116 ?aC117 ?aC118 ?aC119 ?aC120 ?aC121 ?aC122 ?aC123 ?aC124 ?aC125 ?xLC101 ?xLC102 ?xLC103 ?xLC104 ?xLC105 ?xLC106 ?xLC107 ?xLC108 ?xLC109 ?xLC110 ?xLC111 ?xLC112 ?xLC113 ?xLC114 ?xLC115 ?xLC116 ?xLC117 ?xLC118 ?xLC119 ?xLC120 ?xLC122 ?xLC123 ?xLC124 ?iC101 ?lC101 ?cC101 ?kfC101 ?iC102 ?lC102 ?cC102 ?kfC102 ?iC103 ?lC103 ?cC103 ?kfC103 ?iC104 ?lC104 ?cC104 ?kfC104 ?iC105 ?lC105 ?cC105 ?kfC105 ?iC106 ?lC106 ?cC106 ?kfC106 ?iC107 ?lC107 ?cC107 ?kfC107 ?iC108 ?lC108 ?cC108 ?kfC108 ?iC109 ?lC109 ?cC109 ?kfC109 ?iC110 ?lC110 ?cC110 ?kfC110 ?iC111 ?lC111 ?cC111 ?kfC111 ?iC112 ?lC112 ?cC112 ?kfC112 ?iC118 ?lC118 ?cC118 ?kfC118 ?iC119 ?lC119 ?cC119 ?kfC119 ?iC120 ?lC120 ?cC120 ?kfC120 ?iC122 ?lC122 ?cC122 ?kfC122 ?iC123 ?lC123 ?cC123 ?kfC123 ?iC124 ?lC124 ?cC124 ?kfC124 ?erC101 ?krC101 ?k5C101 ?k6C101 ?exC101 ?erC102 ?krC102 ?k5C102 ?k6C102 ?exC102 ?erC103 ?krC103 ?k5C103 ?k6C103 ?exC103 ?erC104 ?krC104 ?k5C104 ?k6C104 ?exC104 ?erC105 ?krC105 ?k5C105 ?k6C105 ?exC105 ?erC106 ?krC106 ?k5C106 ?k6C106 ?exC106 ?erC107 ?krC107 ?k5C107 ?k6C107 ?exC107 ?erC108 ?krC108 ?k5C108 ?k6C108 ?exC108 ?erC109 ?krC109 ?k5C109 ?k6C109 ?exC109 ?erC110 ?krC110 ?k5C110 ?k6C110 ?exC110 ?erC111 ?krC111 ?k5C111 ?k6C111 ?exC111 ?erC112 ?krC112 ?k5C112 ?k6C112 ?exC112 ?erC113 ?krC113 ?k5C113 ?k6C113 ?exC113 ?erC114 ?krC114 ?k5C114 ?k6C114 ?exC114 ?erC115 ?krC115 ?k5C115 ?k6C115 ?exC115 ?erC116 ?krC116 ?k5C116 ?k6C116 ?exC116 ?erC117 ?krC117 ?k5C117 ?k6C117 ?exC117 ?erC118 ?krC118 ?k5C118 ?k6C118 ?exC118 ?erC119 ?krC119 ?k5C119 ?k6C119 ?exC119 ?erC120 ?krC120 ?k5C120 ?k6C120 ?exC120 ?erC121 ?krC121 ?k5C121 ?k6C121 ?exC121 ?q0C121 ?erC122 ?krC122 ?k5C122 ?k6C122 ?exC122 ?erC123 ?krC123 ?k5C123 ?k6C123 ?exC123 ?erC124 ?krC124 ?k5C124 ?k6C124 ?exC124 ?z_ArithmeticError ?z_AttributeError ?z_LookupError ?z_RuntimeError ?z_TypeError ?z_ValueError ?z_abs ?z_int ?z_isinstance ?z_range ?z_str ?a__law_bag ?l__law_bag ?c__law_bag ?k__law_bag ?a__law_pull ?l__law_pull ?c__law_pull ?k__law_pull ?a__law_field ?l__law_field ?c__law_field ?k__law_field ?a__law_is_one ?l__law_is_one ?c__law_is_one ?k__law_is_one ?a__law_by_place ?l__law_by_place ?c__law_by_place ?k__law_by_place ?a__law_by_name ?l__law_by_name ?c__law_by_name ?k__law_by_name ?a__law_kept ?l__law_kept ?c__law_kept ?k__law_kept ?a__law_single_right ?l__law_single_right ?c__law_single_right ?k__law_single_right ?a__law_double_right ?l__law_double_right ?c__law_double_right ?k__law_double_right ?a__law_raised ?l__law_raised ?c__law_raised ?k__law_raised ?a__law_caught ?l__law_caught ?c__law_caught ?k__law_caught ?a_law ?l_law ?c_law ?k_law ?hlaw
    (case hlaw => exact fun ns hl hb => K00.law_ok hl hb)
    (case hnA => k_is)
    (case htA => k_is)
    (case aC101 => k_is)
    (case aC102 => k_is)
    (case aC103 => k_is)
    (case aC104 => k_is)
    (case aC105 => k_is)
    (case aC106 => k_is)
    (case aC107 => k_is)
    (case aC108 => k_is)
    (case aC109 => k_is)
    (case aC110 => k_is)
    (case aC111 => k_is)
    (case aC112 => k_is)
    (case aC113 => k_is)
    (case aC114 => k_is)
    (case aC115 => k_is)
    (case aC116 => k_is)
    (case aC117 => k_is)
    (case aC118 => k_is)
    (case aC119 => k_is)
    (case aC120 => k_is)
    (case aC121 => k_is)
    (case aC122 => k_is)
    (case aC123 => k_is)
    (case aC124 => k_is)
    (case aC125 => k_is)
    (case xLC101 => k_is)
    (case xLC102 => k_is)
    (case xLC103 => k_is)
    (case xLC104 => k_is)
    (case xLC105 => k_is)
    (case xLC106 => k_is)
    (case xLC107 => k_is)
    (case xLC108 => k_is)
    (case xLC109 => k_is)
    (case xLC110 => k_is)
    (case xLC111 => k_is)
    (case xLC112 => k_is)
    (case xLC113 => k_is)
    (case xLC114 => k_is)
    (case xLC115 => k_is)
    (case xLC116 => k_is)
    (case xLC117 => k_is)
    (case xLC118 => k_is)
    (case xLC119 => k_is)
    (case xLC120 => k_is)
    (case xLC122 => k_is)
    (case xLC123 => k_is)
    (case xLC124 => k_is)
    (case iC101 => k_is)
    (case lC101 => k_is)
    (case cC101 => k_is)
    (case kfC101 => k_is)
    (case iC102 => k_is)
    (case lC102 => k_is)
    (case cC102 => k_is)
    (case kfC102 => k_is)
    (case iC103 => k_is)
    (case lC103 => k_is)
    (case cC103 => k_is)
    (case kfC103 => k_is)
    (case iC104 => k_is)
    (case lC104 => k_is)
    (case cC104 => k_is)
    (case kfC104 => k_is)
    (case iC105 => k_is)
    (case lC105 => k_is)
    (case cC105 => k_is)
    (case kfC105 => k_is)
    (case iC106 => k_is)
    (case lC106 => k_is)
    (case cC106 => k_is)
    (case kfC106 => k_is)
    (case iC107 => k_is)
    (case lC107 => k_is)
    (case cC107 => k_is)
    (case kfC107 => k_is)
    (case iC108 => k_is)
    (case lC108 => k_is)
    (case cC108 => k_is)
    (case kfC108 => k_is)
    (case iC109 => k_is)
    (case lC109 => k_is)
    (case cC109 => k_is)
    (case kfC109 => k_is)
    (case iC110 => k_is)
    (case lC110 => k_is)
    (case cC110 => k_is)
    (case kfC110 => k_is)
    (case iC111 => k_is)
    (case lC111 => k_is)
    (case cC111 => k_is)
    (case kfC111 => k_is)
    (case iC112 => k_is)
    (case lC112 => k_is)
    (case cC112 => k_is)
    (case kfC112 => k_is)
    (case iC118 => k_is)
    (case lC118 => k_is)
    (case cC118 => k_is)
    (case kfC118 => k_is)
    (case iC119 => k_is)
    (case lC119 => k_is)
    (case cC119 => k_is)
    (case kfC119 => k_is)
    (case iC120 => k_is)
    (case lC120 => k_is)
    (case cC120 => k_is)
    (case kfC120 => k_is)
    (case iC122 => k_is)
    (case lC122 => k_is)
    (case cC122 => k_is)
    (case kfC122 => k_is)
    (case iC123 => k_is)
    (case lC123 => k_is)
    (case cC123 => k_is)
    (case kfC123 => k_is)
    (case iC124 => k_is)
    (case lC124 => k_is)
    (case cC124 => k_is)
    (case kfC124 => k_is)
    (case erC101 => kernel_rfl)
    (case krC101 => kernel_rfl)
    (case k5C101 => kernel_rfl)
    (case k6C101 => kernel_rfl)
    (case exC101 => kernel_rfl)
    (case erC102 => kernel_rfl)
    (case krC102 => kernel_rfl)
    (case k5C102 => kernel_rfl)
    (case k6C102 => kernel_rfl)
    (case exC102 => kernel_rfl)
    (case erC103 => kernel_rfl)
    (case krC103 => kernel_rfl)
    (case k5C103 => kernel_rfl)
    (case k6C103 => kernel_rfl)
    (case exC103 => kernel_rfl)
    (case erC104 => kernel_rfl)
    (case krC104 => kernel_rfl)
    (case k5C104 => kernel_rfl)
    (case k6C104 => kernel_rfl)
    (case exC104 => kernel_rfl)
    (case erC105 => kernel_rfl)
    (case krC105 => kernel_rfl)
    (case k5C105 => kernel_rfl)
    (case k6C105 => kernel_rfl)
    (case exC105 => kernel_rfl)
    (case erC106 => kernel_rfl)
    (case krC106 => kernel_rfl)
    (case k5C106 => kernel_rfl)
    (case k6C106 => kernel_rfl)
    (case exC106 => kernel_rfl)
    (case erC107 => kernel_rfl)
    (case krC107 => kernel_rfl)
    (case k5C107 => kernel_rfl)
    (case k6C107 => kernel_rfl)
    (case exC107 => kernel_rfl)
    (case erC108 => kernel_rfl)
    (case krC108 => kernel_rfl)
    (case k5C108 => kernel_rfl)
    (case k6C108 => kernel_rfl)
    (case exC108 => kernel_rfl)
    (case erC109 => kernel_rfl)
    (case krC109 => kernel_rfl)
    (case k5C109 => kernel_rfl)
    (case k6C109 => kernel_rfl)
    (case exC109 => kernel_rfl)
    (case erC110 => kernel_rfl)
    (case krC110 => kernel_rfl)
    (case k5C110 => kernel_rfl)
    (case k6C110 => kernel_rfl)
    (case exC110 => kernel_rfl)
    (case erC111 => kernel_rfl)
    (case krC111 => kernel_rfl)
    (case k5C111 => kernel_rfl)
    (case k6C111 => kernel_rfl)
    (case exC111 => kernel_rfl)
    (case erC112 => kernel_rfl)
    (case krC112 => kernel_rfl)
    (case k5C112 => kernel_rfl)
    (case k6C112 => kernel_rfl)
    (case exC112 => kernel_rfl)
    (case erC113 => kernel_rfl)
    (case krC113 => kernel_rfl)
    (case k5C113 => kernel_rfl)
    (case k6C113 => kernel_rfl)
    (case exC113 => kernel_rfl)
    (case erC114 => kernel_rfl)
    (case krC114 => kernel_rfl)
    (case k5C114 => kernel_rfl)
    (case k6C114 => kernel_rfl)
    (case exC114 => kernel_rfl)
    (case erC115 => kernel_rfl)
    (case krC115 => kernel_rfl)
    (case k5C115 => kernel_rfl)
    (case k6C115 => kernel_rfl)
    (case exC115 => kernel_rfl)
    (case erC116 => kernel_rfl)
    (case krC116 => kernel_rfl)
    (case k5C116 => kernel_rfl)
    (case k6C116 => kernel_rfl)
    (case exC116 => kernel_rfl)
    (case erC117 => kernel_rfl)
    (case krC117 => kernel_rfl)
    (case k5C117 => kernel_rfl)
    (case k6C117 => kernel_rfl)
    (case exC117 => kernel_rfl)
    (case erC118 => kernel_rfl)
    (case krC118 => kernel_rfl)
    (case k5C118 => kernel_rfl)
    (case k6C118 => kernel_rfl)
    (case exC118 => kernel_rfl)
    (case erC119 => kernel_rfl)
    (case krC119 => kernel_rfl)
    (case k5C119 => kernel_rfl)
    (case k6C119 => kernel_rfl)
    (case exC119 => kernel_rfl)
    (case erC120 => kernel_rfl)
    (case krC120 => kernel_rfl)
    (case k5C120 => kernel_rfl)
    (case k6C120 => kernel_rfl)
    (case exC120 => kernel_rfl)
    (case erC121 => kernel_rfl)
    (case krC121 => kernel_rfl)
    (case k5C121 => kernel_rfl)
    (case k6C121 => kernel_rfl)
    (case exC121 => kernel_rfl)
    (case q0C121 => kernel_rfl)
    (case erC122 => kernel_rfl)
    (case krC122 => kernel_rfl)
    (case k5C122 => kernel_rfl)
    (case k6C122 => kernel_rfl)
    (case exC122 => kernel_rfl)
    (case erC123 => kernel_rfl)
    (case krC123 => kernel_rfl)
    (case k5C123 => kernel_rfl)
    (case k6C123 => kernel_rfl)
    (case exC123 => kernel_rfl)
    (case erC124 => kernel_rfl)
    (case krC124 => kernel_rfl)
    (case k5C124 => kernel_rfl)
    (case k6C124 => kernel_rfl)
    (case exC124 => kernel_rfl)
    (case z_ArithmeticError => k_is)
    (case z_AttributeError => k_is)
    (case z_LookupError => k_is)
    (case z_RuntimeError => k_is)
    (case z_TypeError => k_is)
    (case z_ValueError => k_is)
    (case z_abs => k_is)
    (case z_int => k_is)
    (case z_isinstance => k_is)
    (case z_range => k_is)
    (case z_str => k_is)
    (case a__law_bag => k_is)
    (case l__law_bag => k_is)
    (case c__law_bag => k_is)
    (case k__law_bag => k_is)
    (case a__law_pull => k_is)
    (case l__law_pull => k_is)
    (case c__law_pull => k_is)
    (case k__law_pull => k_is)
    (case a__law_field => k_is)
    (case l__law_field => k_is)
    (case c__law_field => k_is)
    (case k__law_field => k_is)
    (case a__law_is_one => k_is)
    (case l__law_is_one => k_is)
    (case c__law_is_one => k_is)
    (case k__law_is_one => k_is)
    (case a__law_by_place => k_is)
    (case l__law_by_place => k_is)
    (case c__law_by_place => k_is)
    (case k__law_by_place => k_is)
    (case a__law_by_name => k_is)
    (case l__law_by_name => k_is)
    (case c__law_by_name => k_is)
    (case k__law_by_name => k_is)
    (case a__law_kept => k_is)
    (case l__law_kept => k_is)
    (case c__law_kept => k_is)
    (case k__law_kept => k_is)
    (case a__law_single_right => k_is)
    (case l__law_single_right => k_is)
    (case c__law_single_right => k_is)
    (case k__law_single_right => k_is)
    (case a__law_double_right => k_is)
    (case l__law_double_right => k_is)
    (case c__law_double_right => k_is)
    (case k__law_double_right => k_is)
    (case a__law_raised => k_is)
    (case l__law_raised => k_is)
    (case c__law_raised => k_is)
    (case k__law_raised => k_is)
    (case a__law_caught => k_is)
    (case l__law_caught => k_is)
    (case c__law_caught => k_is)
    (case k__law_caught => k_is)
    (case a_law => k_is)
    (case l_law => k_is)
    (case c_law => k_is)
    (case k_law => k_is)
#print axioms PySem.Challenge.cw_thincoins_k00_errors_keep_their_fields_holds

