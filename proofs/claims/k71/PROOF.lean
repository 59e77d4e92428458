import PyProof.Rows.All
import Wide.All
import OpenK.AllK
import Wide.FinOn
import HandS.ForMost
import HandS.IsInst
import HandS.TupAny
import HandS.Zip
import HandS.Deep
import HandS.Wide
import HandS.TupSets
import KE.GoesMore
import KE.GoesEnum
import HandS.WideBits
import KE.KDictZip
import KE.GoesZip
import KE.IntBitsLaws
import PySem.Challenge.RW_quillmoot_k71_places_by_halving
set_option Elab.async false
set_option linter.all false
set_option maxRecDepth 100000
set_option maxHeartbeats 8000000
/-! Dn: what a piece of Python computes, as a function on plain data (values without addresses); lists that a def owns are a second kind of slot. -/
namespace Dn
open PySem PySem.Spec PyProof.Rows L2

abbrev D := PyData
/-- a list that is read but never owned (the script) -/
abbrev scr (ds : List D) : D := .dict [(.none, .list ds)]
/-- a thing of the store, by its number -/
abbrev ob (n : Nat) : D := .dict [(.none, .int n)]
/-- the mark, in the data part of a heap, of where a thing of the store lies -/
abbrev gh (n : Nat) : HO := .rng n 0

structure Exn where
  cls : Str
  fs : List (Str × D)

inductive R (α : Type) where
  | bad
  | er (x : Exn)
  | ok (a : α)

def R.bind {α β : Type} (r : R α) (f : α → R β) : R β := match r with
  | .bad => .bad
  | .er x => .er x
  | .ok a => f a
@[simp] theorem R.bind_bad {α β : Type} (f : α → R β) : R.bind .bad f = .bad := rfl
@[simp] theorem R.bind_er {α β : Type} (x : Exn) (f : α → R β) : R.bind (.er x) f = .er x := rfl
@[simp] theorem R.bind_ok {α β : Type} (a : α) (f : α → R β) : R.bind (.ok a) f = f a := rfl

/-! ### how data lie in a heap -/
mutual
inductive Rp (K : PySem.W.Frag) (H : Hp) : V → D → Prop
  | non : Rp K H .non .none
  | bl (b : Bool) : Rp K H (.bl b) (.bool b)
  | int (i : Int) : Rp K H (.int i) (.int i)
  | str (x : Str) : Rp K H (.str x) (.str x)
  | lst {a : Addr} {xs : List V} {ds : List D} : H a = some (.lst xs) → RpAll K H xs ds → Rp K H (.ref a) (.list ds)
  | tup {a : Addr} {xs : List V} {ds : List D} : SqT K H a xs → RpAll K H xs ds → Rp K H (.ref a) (.tuple ds)
  | scr {a : Addr} {xs : List V} {ds : List D} : SqL K H a xs → RpAll K H xs ds → Rp K H (.ref a) (scr ds)
  | ob {a : Addr} {n : Nat} : H a = some (gh n) → Rp K H (.ref a) (ob n)
inductive RpAll (K : PySem.W.Frag) (H : Hp) : List V → List D → Prop
  | nil : RpAll K H [] []
  | cons {v : V} {vs : List V} {d : D} {ds : List D} : Rp K H v d → RpAll K H vs ds → RpAll K H (v :: vs) (d :: ds)
end

theorem same_t {K : PySem.W.Frag} {H H' : Hp} {a : Addr} {xs : List V} (e : Same H H') (h : SqT K H a xs) : SqT K H' a xs := by
  rcases h with (h | ⟨o, h⟩) | h
  · exact .inl (.inl (e _ _ h))
  · exact .inl (.inr ⟨o, e _ _ h⟩)
  · exact .inr h

section
variable {K : PySem.W.Frag} {H H' : Hp}
mutual
theorem Rp.mono (e : Same H H') : ∀ {v : V} {d : D}, Rp K H v d → Rp K H' v d
  | _, _, .non => .non
  | _, _, .bl b => .bl b
  | _, _, .int i => .int i
  | _, _, .str x => .str x
  | _, _, .lst h r => .lst (e _ _ h) (RpAll.mono e r)
  | _, _, .tup h r => .tup (same_t e h) (RpAll.mono e r)
  | _, _, .scr h r => .scr (e.seq h) (RpAll.mono e r)
  | _, _, .ob h => .ob (e _ _ h)
theorem RpAll.mono (e : Same H H') : ∀ {vs : List V} {ds : List D}, RpAll K H vs ds → RpAll K H' vs ds
  | _, _, .nil => .nil
  | _, _, .cons a b => .cons (Rp.mono e a) (RpAll.mono e b)
end
theorem RpAll.length : ∀ {vs : List V} {ds : List D}, RpAll K H vs ds → vs.length = ds.length
  | _, _, .nil => rfl
  | _, _, .cons _ b => congrArg Nat.succ (RpAll.length b)
theorem RpAll.get : ∀ {vs : List V} {ds : List D} {i : Nat} {d : D}, RpAll K H vs ds → ds[i]? = some d → ∃ v, vs[i]? = some v ∧ Rp K H v d
  | _, _, _, _, .nil, e => by simp at e
  | _, _, 0, _, .cons r _, e => by simp at e; subst e; exact ⟨_, rfl, r⟩
  | _, _, i + 1, _, .cons _ t, e => by
    obtain ⟨v, h1, h2⟩ := RpAll.get (i := i) t (by simpa using e)
    exact ⟨v, by simpa using h1, h2⟩
theorem RpAll.get' : ∀ {vs : List V} {ds : List D} {i : Nat} {v : V}, RpAll K H vs ds → vs[i]? = some v → ∃ d, ds[i]? = some d ∧ Rp K H v d
  | _, _, _, _, .nil, e => by simp at e
  | _, _, 0, _, .cons r _, e => by simp at e; subst e; exact ⟨_, rfl, r⟩
  | _, _, i + 1, _, .cons _ t, e => by
    obtain ⟨v, h1, h2⟩ := RpAll.get' (i := i) t (by simpa using e)
    exact ⟨v, by simpa using h1, h2⟩
theorem RpAll.append : ∀ {vs ws : List V} {ds es : List D}, RpAll K H vs ds → RpAll K H ws es → RpAll K H (vs ++ ws) (ds ++ es)
  | _, _, _, _, .nil, b => b
  | _, _, _, _, .cons r t, b => .cons r (RpAll.append t b)
theorem RpAll.take : ∀ {vs : List V} {ds : List D} (n : Nat), RpAll K H vs ds → RpAll K H (vs.take n) (ds.take n)
  | _, _, 0, _ => .nil
  | _, _, _ + 1, .nil => .nil
  | _, _, n + 1, .cons r t => .cons r (RpAll.take n t)
theorem RpAll.drop : ∀ {vs : List V} {ds : List D} (n : Nat), RpAll K H vs ds → RpAll K H (vs.drop n) (ds.drop n)
  | _, _, 0, r => r
  | _, _, _ + 1, .nil => .nil
  | _, _, n + 1, .cons _ t => RpAll.drop n t
theorem RpAll.set : ∀ {vs : List V} {ds : List D} {v : V} {d : D} (n : Nat), RpAll K H vs ds → Rp K H v d → RpAll K H (vs.set n v) (ds.set n d)
  | _, _, _, _, _, .nil, _ => .nil
  | _, _, _, _, 0, .cons _ t, r => .cons r t
  | _, _, _, _, n + 1, .cons q t, r => .cons q (RpAll.set n t r)
theorem RpAll.ints : ∀ {vs : List V} {ns : List Int}, RpAll K H vs (ns.map PyData.int) → vs = ns.map V.int
  | _, [], .nil => rfl
  | _, n :: ns, .cons (.int _) t => by rw [RpAll.ints t]; rfl
theorem RpAll.bools : ∀ {vs : List V} {bs : List Bool}, RpAll K H vs (bs.map PyData.bool) → vs = bs.map V.bl
  | _, [], .nil => rfl
  | _, n :: ns, .cons (.bl _) t => by rw [RpAll.bools t]; rfl
theorem RpAll.strs : ∀ {vs : List V} {bs : List Str}, RpAll K H vs (bs.map PyData.str) → vs = bs.map V.str
  | _, [], .nil => rfl
  | _, n :: ns, .cons (.str _) t => by rw [RpAll.strs t]; rfl

/-! the data part within the heap: all but the marks -/
def Fz (H0 H : Hp) : Prop := ∀ a o, H0 a = some o → H a = some o ∨ (∃ n, o = gh n) ∧ H a ≠ none
theorem Fz.real (e : Fz H H') {a : Addr} {o : HO} (h : H a = some o) (ne : ∀ n, o ≠ gh n) : H' a = some o := (e a o h).elim id fun ⟨⟨n, q⟩, _⟩ => absurd q (ne n)
theorem Fz.lst (e : Fz H H') {a : Addr} {xs : List V} (h : H a = some (.lst xs)) : H' a = some (.lst xs) := e.real h fun _ z => nomatch z
theorem Fz.free (e : Fz H H') {a : Addr} (h : H' a = none) : H a = none := by
  cases q : H a with
  | none => rfl
  | some o =>
    rcases e a o q with z | ⟨_, z⟩
    · rw [h] at z; cases z
    · exact absurd h z
theorem Fz.of (e : Same H H') : Fz H H' := fun a o h => .inl (e a o h)
theorem Fz.left {H0 : Hp} (a : Same H0 H) (b : Fz H H') : Fz H0 H' := fun p o h => b p o (a p o h)
theorem Fz.right {H0 : Hp} (a : Fz H0 H) (b : Same H H') : Fz H0 H' := fun p o h => (a p o h).elim (fun q => .inl (b _ _ q)) fun ⟨q, z⟩ => .inr ⟨q, fun y => by
  cases w : H p with
  | none => exact z w
  | some u => rw [b _ _ w] at y; cases y⟩
theorem Fz.rd (e : Fz H H') {a : Addr} {u : HO} (ne : ∀ n, u ≠ gh n) (h : Rd H a u) : Rd H' a u := by
  rcases h with h | ⟨o, h⟩
  · exact .inl (e.real h ne)
  · exact .inr ⟨o, e.real h fun _ z => nomatch z⟩
theorem Fz.seq (e : Fz H H') {a : Addr} {xs : List V} (h : SqL K H a xs) : SqL K H' a xs := h.elim (fun h => .inl (e.rd (fun _ z => nomatch z) h)) .inr
theorem Fz.tup (e : Fz H H') {a : Addr} {xs : List V} (h : SqT K H a xs) : SqT K H' a xs := h.elim (fun h => .inl (e.rd (fun _ z => nomatch z) h)) .inr

/-! data without dicts: what the library == reads -/
mutual
theorem Rp.dp (e : Fz H H') : ∀ {v : V} {d : D}, Rp K H v d → d.canLay0 = true → Dp K H' v d
  | _, _, .non, _ => .non
  | _, _, .bl b, _ => .bl b
  | _, _, .int i, _ => .int i
  | _, _, .str x, _ => .str x
  | _, _, .lst h r, q => .lst (SqL.of (e.lst h)) (RpAll.dp e r (by simpa [PyData.canLay0] using q))
  | _, _, .tup h r, q => .tup (e.tup h) (RpAll.dp e r (by simpa [PyData.canLay0] using q))
  | _, _, .scr h r, q => by simp [PyData.canLay0] at q
  | _, _, .ob h, q => by simp [PyData.canLay0] at q
theorem RpAll.dp (e : Fz H H') : ∀ {vs : List V} {ds : List D}, RpAll K H vs ds → PyData.canLayAll0 ds = true → DpAll K H' vs ds
  | _, _, .nil, _ => .nil
  | _, _, .cons a b, q => by
    have q' := q
    simp only [PyData.canLayAll0, Bool.and_eq_true] at q'
    exact .cons (Rp.dp e a q'.1) (RpAll.dp e b q'.2)
end
end

/-! ### heaps: the data part H0 within H -/
/-- an expression was evaluated: nothing that stood changed; what H knew beside H0 stays beside it -/
structure Up (H0 H H0' H' : Hp) : Prop where
  a : Same H0 H0'
  b : Fz H0' H'
  c : Same H H'
  d : ∀ p, H p ≠ none → H0 p = none → H0' p = none
  g : ∀ p n, H0' p = some (gh n) → H0 p = some (gh n)
theorem Up.refl {H0 H : Hp} (e : Fz H0 H) : Up H0 H H0 H := ⟨.refl _, e, .refl _, fun _ _ h => h, fun _ _ h => h⟩
theorem Same.ne {H H' : Hp} (e : Same H H') {p : Addr} (h : H p ≠ none) : H' p ≠ none := by
  cases q : H p with
  | none => exact absurd q h
  | some o => rw [e _ _ q]; exact fun z => nomatch z
theorem Up.trans {H0 H H1 H1' H2 H2' : Hp} (x : Up H0 H H1 H1') (y : Up H1 H1' H2 H2') : Up H0 H H2 H2' :=
  ⟨x.a.trans y.a, y.b, x.c.trans y.c, fun p h1 h2 => y.d p (Same.ne x.c h1) (x.d p h1 h2), fun p n h => x.g p n (y.g p n h)⟩
theorem Same.upd {H : Hp} {p : Addr} {o : HO} (h : H p = none) : Same H (upd H p o) := fun b x e => by
  rw [upd_ne (ne_of_none e h)]
  exact e
theorem Fz.upd {H0 H : Hp} {p : Addr} {o : HO} (e : Fz H0 H) : Fz (L2.upd H0 p o) (L2.upd H p o) := fun b x q => by
  by_cases hb : b = p
  · subst hb; rw [upd_same] at q ⊢; exact .inl q
  · rw [upd_ne hb] at q ⊢; exact e _ _ q
/-- a new object that never changes -/
theorem Up.new {H0 H : Hp} {p : Addr} {o : HO} (e : Fz H0 H) (h : H p = none) (ng : ∀ n, o ≠ gh n := by intro _ z; cases z) : Up H0 H (upd H0 p o) (upd H p o) :=
  ⟨Same.upd (e.free h), e.upd, Same.upd h, fun q h1 h2 => by
    have hq : q ≠ p := fun z => h1 (z ▸ h)
    rw [upd_ne hq]; exact h2, fun q n z => by
    by_cases hq : q = p
    · subst hq; rw [upd_same] at z; exact absurd (Option.some.inj z) (ng n)
    · rwa [upd_ne hq] at z⟩
/-- a new object that is owned -/
theorem Up.own {H0 H : Hp} {p : Addr} {o : HO} (e : Fz H0 H) (h : H p = none) : Up H0 H H0 (upd H p o) :=
  ⟨.refl _, e.right (Same.upd h), Same.upd h, fun _ _ h => h, fun _ _ h => h⟩

/-! ### slots -/
inductive SV where
  | no
  | dat (d : D)
  | own (ds : List D)
abbrev DSt := List SV

structure Sl (K : PySem.W.Frag) (B H0 H : Hp) (σ : L2.St) (δ : DSt) : Prop where
  base : Same B H
  ex : Fz H0 H
  len : σ.length = δ.length
  dat : ∀ (i : Nat) (d : D), δ[i]? = some (SV.dat d) → ∃ v, σ[i]? = some (some v) ∧ Rp K H0 v d
  own : ∀ (i : Nat) (ds : List D), δ[i]? = some (SV.own ds) → ∃ p vs, σ[i]? = some (some (V.ref p)) ∧ H0 p = none ∧ B p = none ∧ H p = some (.lst vs) ∧ RpAll K H0 vs ds
  sep : ∀ (i j : Nat) (ds es : List D) (p : Addr), i ≠ j → δ[i]? = some (SV.own ds) → δ[j]? = some (SV.own es) → σ[i]? = some (some (V.ref p)) → σ[j]? ≠ some (some (V.ref p))
theorem Sl.up {K : PySem.W.Frag} {B H0 H H0' H' : Hp} {σ : L2.St} {δ : DSt} (s : Sl K B H0 H σ δ) (u : Up H0 H H0' H') : Sl K B H0' H' σ δ := by
  refine ⟨s.base.trans u.c, u.b, s.len, fun i d h => ?_, fun i ds h => ?_, s.sep⟩
  · obtain ⟨v, e, r⟩ := s.dat i d h
    exact ⟨v, e, r.mono u.a⟩
  · obtain ⟨p, vs, e, h1, h2, h3, r⟩ := s.own i ds h
    exact ⟨p, vs, e, u.d p (by rw [h3]; exact fun z => nomatch z) h1, h2, u.c _ _ h3, r.mono u.a⟩

/-! ### exceptions -/
def XR (K : PySem.W.Frag) (G : Str → Addr) (H0 H : Hp) (c : Value) (dd : Option Addr) (x : Exn) : Prop :=
  c = .ref (G x.cls) ∧ ∃ (d : Addr) (vs : List V), dd = some d ∧ H d = some (.xd ((x.fs.map (·.1)).zip vs)) ∧ RpAll K H0 vs (x.fs.map (·.2))

/-! ### evaluation -/
/-- what a result is, from the start's heap, in the heaps behind -/
abbrev Rel (β α : Type) := Hp → Hp → Hp → β → α → Prop
def Rel.M {β α : Type} (rel : Rel β α) : Prop := ∀ Hs Hs' H0 H b a, Same Hs Hs' → rel Hs' H0 H b a → rel Hs H0 H b a
def rV (K : PySem.W.Frag) : Rel V D := fun _ H0 _ v d => Rp K H0 v d
def rA (K : PySem.W.Frag) : Rel (List V) (List D) := fun _ H0 _ v d => RpAll K H0 v d
def rB : Rel Bool Bool := fun _ _ _ b a => b = a
def rO : Rel (Option Int) (Option Int) := fun _ _ _ b a => b = a
/-- a new list, owned -/
def rN (K : PySem.W.Frag) : Rel V (List D) := fun Hs H0 H v ds => ∃ p vs, v = .ref p ∧ Hs p = none ∧ H0 p = none ∧ H p = some (.lst vs) ∧ RpAll K H0 vs ds
/-- an operand: data, or a list that the def owns -/
inductive Op where
  | d (x : D)
  | o (ds : List D)
def rP (K : PySem.W.Frag) : Rel V Op := fun _ H0 H v x => match x with
  | .d x => Rp K H0 v x
  | .o ds => ∃ p vs, v = .ref p ∧ H p = some (.lst vs) ∧ RpAll K H0 vs ds
theorem mV {K} : Rel.M (rV K) := fun _ _ _ _ _ _ _ h => h
theorem mA {K} : Rel.M (rA K) := fun _ _ _ _ _ _ _ h => h
theorem mB : Rel.M rB := fun _ _ _ _ _ _ _ h => h
theorem mO : Rel.M rO := fun _ _ _ _ _ _ _ h => h
theorem mP {K} : Rel.M (rP K) := fun _ _ _ _ _ _ _ h => h
theorem mN {K} : Rel.M (rN K) := fun _ _ _ _ _ _ e ⟨p, vs, h1, h2, h3⟩ => ⟨p, vs, h1, e.free h2, h3⟩

section
variable {K : PySem.W.Frag} {G : Str → Addr} {E : XK}
def At (K : PySem.W.Frag) (G : Str → Addr) (E : XK) {β α : Type} (rel : Rel β α) (H0 H : Hp) (t : (β → Hp → Prop) → Prop) (r : R α) : Prop := match r with
  | .bad => True
  | .er x => ∀ Q : β → Hp → Prop, (∀ c dd H0' H', Up H0 H H0' H' → XR K G H0' H' c dd x → E c dd H') → t Q
  | .ok a => ∀ Q : β → Hp → Prop, (∀ b H0' H', Up H0 H H0' H' → rel H H0' H' b a → Q b H') → t Q
theorem at_bind {β α γ ε : Type} {r1 : Rel β α} {r2 : Rel γ ε} {H0 H : Hp} {t : (β → Hp → Prop) → Prop} {k : β → Hp → (γ → Hp → Prop) → Prop} {r : R α} {g : α → R ε} (m2 : Rel.M r2) (h : At K G E r1 H0 H t r)
    (hk : ∀ a b H0' H', Up H0 H H0' H' → r1 H H0' H' b a → At K G E r2 H0' H' (k b H') (g a)) : At K G E r2 H0 H (fun Q => t fun b H1 => k b H1 Q) (r.bind g) := by
  cases r with
  | bad => exact True.intro
  | er x =>
    intro Q hq
    exact h _ hq
  | ok a =>
    show At K G E r2 H0 H _ (g a)
    cases e : g a with
    | bad => exact True.intro
    | er x =>
      intro Q hq
      refine h _ fun b H0' H' u rb => ?_
      have z := hk a b H0' H' u rb
      rw [e] at z
      exact z Q fun c dd H0'' H'' u2 x2 => hq c dd H0'' H'' (u.trans u2) x2
    | ok y =>
      intro Q hq
      refine h _ fun b H0' H' u rb => ?_
      have z := hk a b H0' H' u rb
      rw [e] at z
      exact z Q fun c H0'' H'' u2 rc => hq c H0'' H'' (u.trans u2) (m2 _ _ _ _ _ _ u.c rc)
theorem at_ok {β α : Type} {rel : Rel β α} {H0 H : Hp} {b : β} {a : α} (e : Fz H0 H) (h : rel H H0 H b a) : At K G E rel H0 H (fun Q => Q b H) (.ok a) := fun Q q => q b H0 H (.refl e) h
theorem At.imp {β α : Type} {rel : Rel β α} {H0 H : Hp} {t t' : (β → Hp → Prop) → Prop} {r : R α} (h : At K G E rel H0 H t r) (w : ∀ Q, t Q → t' Q) : At K G E rel H0 H t' r := by
  cases r with
  | bad => exact True.intro
  | er x => exact fun Q q => w Q (h Q q)
  | ok a => exact fun Q q => w Q (h Q q)

def Ev (K : PySem.W.Frag) (G : Str → Addr) (E : XK) {β α : Type} (rel : Rel β α) (t : L2.St → Hp → (β → Hp → Prop) → Prop) (f : DSt → R α) : Prop :=
  ∀ B δ σ H0 H, Sl K B H0 H σ δ → At K G E rel H0 H (t σ H) (f δ)
/-- one part, then what follows from its value -/
theorem ev_bind {β α γ ε : Type} {r1 : Rel β α} {r2 : Rel γ ε} {t : L2.St → Hp → (β → Hp → Prop) → Prop} {k : β → L2.St → Hp → (γ → Hp → Prop) → Prop} {f : DSt → R α} {g : α → DSt → R ε} (m2 : Rel.M r2) (h : Ev K G E r1 t f)
    (hk : ∀ a b B δ σ H0 H Hs, Sl K B H0 H σ δ → r1 Hs H0 H b a → At K G E r2 H0 H (k b σ H) (g a δ)) : Ev K G E r2 (fun σ H Q => t σ H fun b H1 => k b σ H1 Q) (fun δ => (f δ).bind fun a => g a δ) :=
  fun B δ σ H0 H s => at_bind m2 (h B δ σ H0 H s) fun a b H0' H' u rb => hk a b B δ σ H0' H' H (s.up u) rb
end

/-! ### the judgements: a piece of syntax and what it computes -/
section
variable (G : Str → Addr) (E : XK) (X : Cx)
def De (e : Expr) (f : DSt → R D) : Prop := ∃ t, PE X e t ∧ Ev X.K G E (rV X.K) t f
def DN (e : Expr) (f : DSt → R (List D)) : Prop := ∃ t, PE X e t ∧ Ev X.K G E (rN X.K) t f
def DO (e : Expr) (f : DSt → R Op) : Prop := ∃ t, PE X e t ∧ Ev X.K G E (rP X.K) t f
def Dt (e : Expr) (f : DSt → R Bool) : Prop := ∃ t, PT X e t ∧ Ev X.K G E rB t f
def Dw (e : Expr) (f : DSt → R Bool) : Prop := ∃ t, PW X e t ∧ Ev X.K G E rB t f
def Da (es : List Expr) (f : DSt → R (List D)) : Prop := ∃ t, PA X es t ∧ Ev X.K G E (rA X.K) t f
def Dp' (e : Option Expr) (f : DSt → R (Option Int)) : Prop := ∃ t, PO X e t ∧ Ev X.K G E rO t f
end
end Dn

namespace Dn
open PySem PySem.Spec PyProof.Rows L2

abbrev LIM : Nat := 100000
theorem lim_le {n : Nat} (h : n ≤ LIM) : n ≤ sizeLine := Nat.le_trans h (by decide)
theorem lim_lt {n : Nat} (h : n < LIM) : n < sizeLine := Nat.lt_of_lt_of_le h (by decide)

/-! ### relations that stay -/
def Rel.S {β α : Type} (rel : Rel β α) : Prop := ∀ Hs H0 H H0' H' b a, Up H0 H H0' H' → rel Hs H0 H b a → rel Hs H0' H' b a
theorem sV {K} : Rel.S (rV K) := fun _ _ _ _ _ _ _ u h => Rp.mono u.a h
theorem sA {K} : Rel.S (rA K) := fun _ _ _ _ _ _ _ u h => RpAll.mono u.a h
theorem sB : Rel.S rB := fun _ _ _ _ _ _ _ _ h => h
theorem sO : Rel.S rO := fun _ _ _ _ _ _ _ _ h => h
theorem sP {K} : Rel.S (rP K) := fun _ _ _ _ _ b a u h => match a, h with
  | .d _, h => Rp.mono u.a h
  | .o _, ⟨p, vs, h1, h2, h3⟩ => ⟨p, vs, h1, u.c _ _ h2, RpAll.mono u.a h3⟩

section
variable {K : PySem.W.Frag} {G : Str → Addr} {E : XK}
/-- two parts -/
theorem ev_op {α β' γ : Type} {ra : Rel V α} {rb : Rel V β'} {rc : Rel V γ} {r : R2} {ta tb : TE} {fa : DSt → R α} {fb : DSt → R β'} {g : α → β' → R γ} (sa : Rel.S ra) (mc : Rel.M rc) (ha : Ev K G E ra ta fa) (hb : Ev K G E rb tb fb)
    (hk : ∀ x y v w Hs Hs' H0 H, Fz H0 H → ra Hs H0 H v x → rb Hs' H0 H w y → At K G E rc H0 H (r v w H) (g x y)) : Ev K G E rc (tOp r ta tb) (fun δ => (fa δ).bind fun x => (fb δ).bind fun y => g x y) :=
  fun B δ σ H0 H s => at_bind (t := ta σ H) (k := fun v H1 Q => tb σ H1 fun w H2 => r v w H2 Q) mc (ha B δ σ H0 H s) fun x v H1 H1' u rx => at_bind (t := tb σ H1') (k := fun w H2 Q => r v w H2 Q) mc (hb B δ σ H1 H1' (s.up u)) fun y w H2 H2' u2 ry => hk x y v w H H1' H2 H2' u2.b (sa _ _ _ _ _ _ _ u2 rx) ry
theorem ev_un {α γ : Type} {ra : Rel V α} {rc : Rel V γ} {r : V → Hp → VK → Prop} {ta : TE} {fa : DSt → R α} {g : α → R γ} (mc : Rel.M rc) (ha : Ev K G E ra ta fa)
    (hk : ∀ x v Hs H0 H, Fz H0 H → ra Hs H0 H v x → At K G E rc H0 H (r v H) (g x)) : Ev K G E rc (tUn r ta) (fun δ => (fa δ).bind g) :=
  fun B δ σ H0 H s => at_bind (t := ta σ H) (k := fun v H1 Q => r v H1 Q) mc (ha B δ σ H0 H s) fun x v H1 H1' u rx => hk x v H H1 H1' u.b rx
theorem ev_cb {γ : Type} {rc : Rel V γ} {r : List V → Hp → VK → Prop} {ta : TA} {fa : DSt → R (List D)} {g : List D → R γ} (mc : Rel.M rc) (ha : Ev K G E (rA K) ta fa)
    (hk : ∀ ds vs H0 H, Fz H0 H → RpAll K H0 vs ds → At K G E rc H0 H (r vs H) (g ds)) : Ev K G E rc (tCB r ta) (fun δ => (fa δ).bind g) :=
  fun B δ σ H0 H s => at_bind (t := ta σ H) (k := fun v H1 Q => r v H1 Q) mc (ha B δ σ H0 H s) fun x v H1 H1' u rx => hk x v H1 H1' u.b rx
end

/-! ### names, constants -/
def dVar (i : Nat) : DSt → R D := fun δ => match δ[i]? with
  | some (SV.dat d) => .ok d
  | _ => .bad
def dVarO (i : Nat) : DSt → R Op := fun δ => match δ[i]? with
  | some (SV.dat d) => .ok (.d d)
  | some (SV.own ds) => .ok (.o ds)
  | _ => .bad
def dC (d : D) : DSt → R D := fun _ => .ok d
def dOp (f : DSt → R D) : DSt → R Op := fun δ => (f δ).bind fun d => .ok (.d d)

section
variable {G : Str → Addr} {E : XK} {X : Cx} {pos p p2 : Pos} {a b e : Expr} {es : List Expr}
theorem de_var (i : Nat) {x : Str} (hN : X.N[i]? = some x := by rfl) (hv : Vis X.env.scope x := by first | exact Or.inl rfl | exact Or.inr (Or.inl rfl) | exact Or.inr (Or.inr rfl)) (hd : (x == ("__debug__" : Str)) = false := by decide)
    (hcd : (x == ("__classdict__" : Str)) = false := by decide) : De G E X (.Name x pos) (dVar i) := by
  refine ⟨_, pe_var hN hv hd hcd, fun B δ σ H0 H s => ?_⟩
  unfold dVar
  cases q : δ[i]? with
  | none => exact True.intro
  | some w =>
    cases w with
    | no => exact True.intro
    | own _ => exact True.intro
    | dat d =>
      obtain ⟨v, e, r⟩ := s.dat i d q
      exact fun Q k => ⟨v, e, k v H0 H (.refl s.ex) r⟩
theorem do_var (i : Nat) {x : Str} (hN : X.N[i]? = some x := by rfl) (hv : Vis X.env.scope x := by first | exact Or.inl rfl | exact Or.inr (Or.inl rfl) | exact Or.inr (Or.inr rfl)) (hd : (x == ("__debug__" : Str)) = false := by decide)
    (hcd : (x == ("__classdict__" : Str)) = false := by decide) : DO G E X (.Name x pos) (dVarO i) := by
  refine ⟨_, pe_var hN hv hd hcd, fun B δ σ H0 H s => ?_⟩
  unfold dVarO
  cases q : δ[i]? with
  | none => exact True.intro
  | some w =>
    cases w with
    | no => exact True.intro
    | own ds =>
      obtain ⟨p, vs, e, h0, hb, h, r⟩ := s.own i ds q
      exact fun Q k => ⟨_, e, k _ H0 H (.refl s.ex) ⟨p, vs, rfl, h, r⟩⟩
    | dat d =>
      obtain ⟨v, e, r⟩ := s.dat i d q
      exact fun Q k => ⟨v, e, k v H0 H (.refl s.ex) r⟩
theorem ev_c {K : PySem.W.Frag} {v : V} {d : D} (h : ∀ H, Rp K H v d) : Ev K G E (rV K) (tC v) (dC d) := fun B δ σ H0 H s Q q => q v H0 H (.refl s.ex) (h _)
theorem de_int {i : Int} {j} : De G E X (.Constant (.int i) j pos) (dC (.int i)) := ⟨_, pe_int, ev_c fun _ => .int i⟩
theorem de_bl {i : Bool} {j} : De G E X (.Constant (.bool i) j pos) (dC (.bool i)) := ⟨_, pe_bl, ev_c fun _ => .bl i⟩
theorem de_non {j} : De G E X (.Constant .none j pos) (dC .none) := ⟨_, pe_non, ev_c fun _ => .non⟩
theorem de_str {i : Str} {j} : De G E X (.Constant (.str i) j pos) (dC (.str i)) := ⟨_, pe_str, ev_c fun _ => .str i⟩
/-- a constant of the module -/
theorem de_glob {x : Str} {v : V} {u : Value} {d : D} (hg : Gl X x) (hm : X.mg x = some u) (r : RelV v u) (h : ∀ H, Rp X.K H v d) (hd : (x == ("__debug__" : Str)) = false := by decide) : De G E X (.Name x pos) (dC d) := ⟨_, pe_glob hg hm r hd, ev_c h⟩
/-- data as an operand -/
theorem do_of {f : DSt → R D} (h : De G E X e f) : DO G E X e (dOp f) := by
  obtain ⟨t, h1, h2⟩ := h
  refine ⟨t, h1, fun B δ σ H0 H s => ?_⟩
  have z := h2 B δ σ H0 H s
  unfold dOp
  cases q : f δ with
  | bad => exact True.intro
  | er x => rw [q] at z; exact z
  | ok d => rw [q] at z; exact z

/-! ### operators -/
theorem op_or {f : Value → Value → Sem Value} {r r' : R2} (h : OpR X f r) (h' : OpR X f r') : OpR X f (fun x y H Q => r x y H Q ∨ r' x y H Q) := by
  intro pins s σ H x y v u Q I rx ry q
  rcases q with q | q
  · exact h pins s σ H x y v u Q I rx ry q
  · exact h' pins s σ H x y v u Q I rx ry q
theorem call_or {f : Value} {r r' : List V → Hp → VK → Prop} (h : CallR X f r) (h' : CallR X f r') : CallR X f (fun x H Q => r x H Q ∨ r' x H Q) := by
  intro pins s σ H xs us Q I rx q
  rcases q with q | q
  · exact h pins s σ H xs us Q I rx q
  · exact h' pins s σ H xs us Q I rx q

def asSq : Op → Option (List D)
  | .o ds => some ds
  | .d (.list ds) => some ds
  | .d (.tuple ds) => some ds
  | .d (.dict [(.none, .list ds)]) => some ds
  | _ => none
theorem as_sq {K : PySem.W.Frag} {Hs H0 H : Hp} {v : V} {x : Op} {ds : List D} (e : Fz H0 H) (h : rP K Hs H0 H v x) (q : asSq x = some ds) : ∃ a vs, v = .ref a ∧ (SqL K H a vs ∨ SqT K H a vs) ∧ RpAll K H0 vs ds := by
  cases x with
  | o es =>
    cases q
    obtain ⟨p, vs, rfl, h1, h2⟩ := h
    exact ⟨p, vs, rfl, .inl (SqL.of h1), h2⟩
  | d d =>
    have h : Rp K H0 v d := h
    cases h with
    | non => cases q
    | bl _ => cases q
    | int _ => cases q
    | str _ => cases q
    | lst h1 h2 => cases q; exact ⟨_, _, rfl, .inl (SqL.of (e.lst h1)), h2⟩
    | tup h1 h2 => cases q; exact ⟨_, _, rfl, .inr (e.tup h1), h2⟩
    | scr h1 h2 => cases q; exact ⟨_, _, rfl, .inl (e.seq h1), h2⟩
    | ob _ => cases q
/-- a list: tracked, or to be read -/
def asL : Op → Option (List D)
  | .o ds => some ds
  | .d (.list ds) => some ds
  | .d (.dict [(.none, .list ds)]) => some ds
  | _ => none
theorem as_l {K : PySem.W.Frag} {Hs H0 H : Hp} {v : V} {x : Op} {ds : List D} (e : Fz H0 H) (h : rP K Hs H0 H v x) (q : asL x = some ds) : ∃ a vs, v = .ref a ∧ SqL K H a vs ∧ RpAll K H0 vs ds := by
  cases x with
  | o es =>
    cases q
    obtain ⟨p, vs, rfl, h1, h2⟩ := h
    exact ⟨p, vs, rfl, SqL.of h1, h2⟩
  | d d =>
    have h : Rp K H0 v d := h
    cases h with
    | non => cases q
    | bl _ => cases q
    | int _ => cases q
    | str _ => cases q
    | lst h1 h2 => cases q; exact ⟨_, _, rfl, (SqL.of (e.lst h1)), h2⟩
    | tup h1 h2 => cases q
    | scr h1 h2 => cases q; exact ⟨_, _, rfl, (e.seq h1), h2⟩
    | ob _ => cases q
/-- a list that is tracked -/
def asLt : Op → Option (List D)
  | .o ds => some ds
  | .d (.list ds) => some ds
  | _ => none
theorem as_lt {K : PySem.W.Frag} {Hs H0 H : Hp} {v : V} {x : Op} {ds : List D} (e : Fz H0 H) (h : rP K Hs H0 H v x) (q : asLt x = some ds) : ∃ a vs, v = .ref a ∧ H a = some (.lst vs) ∧ RpAll K H0 vs ds := by
  cases x with
  | o es =>
    cases q
    obtain ⟨p, vs, rfl, h1, h2⟩ := h
    exact ⟨p, vs, rfl, h1, h2⟩
  | d d =>
    have h : Rp K H0 v d := h
    cases h with
    | non => cases q
    | bl _ => cases q
    | int _ => cases q
    | str _ => cases q
    | lst h1 h2 => cases q; exact ⟨_, _, rfl, (e.lst h1), h2⟩
    | tup h1 h2 => cases q
    | scr h1 h2 => cases q
    | ob _ => cases q

theorem at_new {K : PySem.W.Frag} {H0 H : Hp} {o : HO} {d : D} (ng : ∀ n, o ≠ gh n) (e : Fz H0 H) (h : ∀ p, Rp K (upd H0 p o) (.ref p) d ∨ H p ≠ none) : At K G E (rV K) H0 H (fun Q => ∀ p, H p = none → Q (.ref p) (upd H p o)) (.ok d) := fun Q q p hp =>
  q _ _ _ (Up.new e hp ng) ((h p).elim id fun z => absurd hp z)
theorem at_newT {K : PySem.W.Frag} {H0 H : Hp} {vs : List V} {ds : List D} (e : Fz H0 H) (h : RpAll K H0 vs ds) : At K G E (rV K) H0 H (fun Q => ∀ p, H p = none → Q (.ref p) (upd H p (.tup vs))) (.ok (.tuple ds)) := fun Q q p hp =>
  q _ _ _ (Up.new e hp) (.tup (SqT.of upd_same) (h.mono (Same.upd (e.free hp))))
theorem at_newL {K : PySem.W.Frag} {H0 H : Hp} {vs : List V} {ds : List D} (e : Fz H0 H) (h : RpAll K H0 vs ds) : At K G E (rV K) H0 H (fun Q => ∀ p, H p = none → Q (.ref p) (upd H p (.lst vs))) (.ok (.list ds)) := fun Q q p hp =>
  q _ _ _ (Up.new e hp) (.lst upd_same (h.mono (Same.upd (e.free hp))))
theorem at_newN {K : PySem.W.Frag} {H0 H : Hp} {vs : List V} {ds : List D} (e : Fz H0 H) (h : RpAll K H0 vs ds) : At K G E (rN K) H0 H (fun Q => ∀ p, H p = none → Q (.ref p) (upd H p (.lst vs))) (.ok ds) := fun Q q p hp =>
  q _ _ _ (Up.own e hp) ⟨p, vs, rfl, hp, e.free hp, upd_same, h⟩

/-- + of ints, texts, tuples, lists -/
def P.add : Op → Op → R D
  | .d (.int i), .d (.int j) => .ok (.int (i + j))
  | .d (.str a), .d (.str b) => if a.length + b.length ≤ LIM then .ok (.str (a ++ b)) else .bad
  | .d (.tuple a), .d (.tuple b) => if a.length + b.length ≤ LIM then .ok (.tuple (a ++ b)) else .bad
  | x, y => match asLt x, asLt y with
    | some a, some b => if a.length + b.length ≤ LIM then .ok (.list (a ++ b)) else .bad
    | _, _ => .bad
def rAddD (K : PySem.W.Frag) : R2 := fun x y H Q => rI0 (fun i j => .int (i + j)) x y H Q ∨ (∃ i j, x = .str i ∧ y = .str j ∧ i.length + j.length ≤ sizeLine ∧ Q (.str (i ++ j)) H) ∨ rCatA K x y H Q ∨ rCat x y H Q
theorem op_addD : OpR X (binaryOp .Add) (rAddD X.K) := op_or op_add (op_or op_add_str (op_or op_catA op_cat))
theorem at_add {K : PySem.W.Frag} {Hs Hs' H0 H : Hp} {v w : V} {x y : Op} (e : Fz H0 H) (hx : rP K Hs H0 H v x) (hy : rP K Hs' H0 H w y) : At K G E (rV K) H0 H (rAddD K v w H) (P.add x y) := by
  unfold P.add
  split
  · cases (show Rp K H0 v _ from hx); cases (show Rp K H0 w _ from hy)
    exact fun Q q => .inl ⟨_, _, rfl, rfl, q _ H0 H (.refl e) (.int _)⟩
  · rename_i a b
    cases (show Rp K H0 v _ from hx); cases (show Rp K H0 w _ from hy)
    split
    · rename_i hl
      exact fun Q q => .inr (.inl ⟨_, _, rfl, rfl, lim_le hl, q _ H0 H (.refl e) (.str _)⟩)
    · exact True.intro
  · rename_i a b
    split
    · rename_i hl
      cases (show Rp K H0 v _ from hx) with
      | tup h1 r1 =>
        cases (show Rp K H0 w _ from hy) with
        | tup h2 r2 =>
          refine fun Q q => .inr (.inr (.inl ⟨_, _, _, _, rfl, rfl, e.tup h1, e.tup h2, by rw [r1.length, r2.length]; exact lim_le hl, fun z => ?_, fun _ z => ?_, fun _ _ => ?_⟩))
          · subst z
            cases r1
            exact q _ H0 H (.refl e) (.tup h2 r2)
          · subst z
            cases r2
            rw [List.append_nil] at q
            exact q _ H0 H (.refl e) (.tup h1 r1)
          · exact at_newT (G := G) (E := E) e (r1.append r2) Q q
    · exact True.intro
  · split
    · rename_i a b ha hb
      split
      · rename_i hl
        obtain ⟨p1, vs1, rfl, h1, r1⟩ := as_lt e hx ha
        obtain ⟨p2, vs2, rfl, h2, r2⟩ := as_lt e hy hb
        refine fun Q q => .inr (.inr (.inr ⟨_, _, _, _, rfl, rfl, h1, h2, by rw [r1.length, r2.length]; exact lim_le hl, ?_⟩))
        exact at_newL (G := G) (E := E) e (r1.append r2) Q q
      · exact True.intro
    · exact True.intro
def dAdd (f g : DSt → R Op) : DSt → R D := fun δ => (f δ).bind fun x => (g δ).bind fun y => P.add x y
theorem de_add {f g} (ha : DO G E X a f) (hb : DO G E X b g) : De G E X (.BinOp a .Add b pos) (dAdd f g) := by
  obtain ⟨t, h1, h2⟩ := ha
  obtain ⟨u, k1, k2⟩ := hb
  exact ⟨_, pe_op op_addD h1 k1, ev_op sP mV h2 k2 fun x y v w Hs Hs' H0 H e rx ry => at_add e rx ry⟩
/-- xs + ys, the new list owned -/
def P.catN (x y : Op) : R (List D) := match asLt x, asLt y with
  | some a, some b => if a.length + b.length ≤ LIM then .ok (a ++ b) else .bad
  | _, _ => .bad
def dCatN (f g : DSt → R Op) : DSt → R (List D) := fun δ => (f δ).bind fun x => (g δ).bind fun y => P.catN x y
theorem dn_cat {f g} (ha : DO G E X a f) (hb : DO G E X b g) : DN G E X (.BinOp a .Add b pos) (dCatN f g) := by
  obtain ⟨t, h1, h2⟩ := ha
  obtain ⟨u, k1, k2⟩ := hb
  refine ⟨_, pe_op op_cat h1 k1, ev_op sP mN h2 k2 fun x y v w Hs Hs' H0 H e rx ry => ?_⟩
  unfold P.catN
  split
  · rename_i a b ha hb
    split
    · rename_i hl
      obtain ⟨p1, vs1, rfl, h1, r1⟩ := as_lt e rx ha
      obtain ⟨p2, vs2, rfl, h2, r2⟩ := as_lt e ry hb
      refine fun Q q => ⟨_, _, _, _, rfl, rfl, h1, h2, by rw [r1.length, r2.length]; exact lim_le hl, ?_⟩
      exact at_newN (G := G) (E := E) e (r1.append r2) Q q
    · exact True.intro
  · exact True.intro

/-- two ints -/
def P.int2 (c : Int → Int → Bool) (g : Int → Int → D) : D → D → R D
  | .int i, .int j => if c i j then .ok (g i j) else .bad
  | _, _ => .bad
def dInt2 (c : Int → Int → Bool) (h : Int → Int → D) (f g : DSt → R D) : DSt → R D := fun δ => (f δ).bind fun x => (g δ).bind fun y => P.int2 c h x y
theorem de_int2 {o : Operator} {C : Int → Int → Prop} {c : Int → Int → Bool} {h : Int → Int → D} {h' : Int → Int → V} {f g} (ho : OpR X (binaryOp o) (rI C h')) (hc : ∀ i j, c i j = true → C i j) (hh : ∀ K H i j, c i j = true → Rp K H (h' i j) (h i j))
    (ha : De G E X a f) (hb : De G E X b g) : De G E X (.BinOp a o b pos) (dInt2 c h f g) := by
  obtain ⟨t, h1, h2⟩ := ha
  obtain ⟨u, k1, k2⟩ := hb
  refine ⟨_, pe_op ho h1 k1, ev_op sV mV h2 k2 fun x y v w Hs Hs' H0 H e rx ry => ?_⟩
  unfold P.int2
  split
  · split
    · rename_i q
      cases (show Rp X.K H0 v _ from rx); cases (show Rp X.K H0 w _ from ry)
      exact fun Q k => ⟨_, _, rfl, rfl, hc _ _ q, k _ H0 H (.refl e) (hh _ _ _ _ q)⟩
    · exact True.intro
  · exact True.intro
def cTrue : Int → Int → Bool := fun _ _ => true
theorem op_subC : OpR X (binaryOp .Sub) (rI (fun _ _ => True) fun i j => .int (i - j)) := by
  intro pins s σ H x y v u Q I rx ry ⟨i, j, h1, h2, _, q⟩
  exact op_sub pins s σ H x y v u Q I rx ry ⟨i, j, h1, h2, q⟩
abbrev dSub := dInt2 cTrue fun i j => .int (i - j)
theorem de_sub {f g} (ha : De G E X a f) (hb : De G E X b g) : De G E X (.BinOp a .Sub b pos) (dSub f g) := de_int2 op_subC (fun _ _ _ => True.intro) (fun _ _ _ _ _ => .int _) ha hb
def cMul : Int → Int → Bool := fun i j => (decide (-(2 ^ 64) < i) && decide (i < 2 ^ 64)) || (decide (-(2 ^ 64) < j) && decide (j < 2 ^ 64))
abbrev dMul := dInt2 cMul fun i j => .int (i * j)
theorem de_mul {f g} (ha : De G E X a f) (hb : De G E X b g) : De G E X (.BinOp a .Mult b pos) (dMul f g) := de_int2 op_mul (fun i j h => by
  unfold cMul at h
  simp only [Bool.or_eq_true, Bool.and_eq_true, decide_eq_true_eq] at h
  exact h) (fun _ _ _ _ _ => .int _) ha hb
def cPos : Int → Int → Bool := fun _ j => decide (0 < j)
abbrev dMod := dInt2 cPos fun i j => .int (i % j)
theorem de_mod {f g} (ha : De G E X a f) (hb : De G E X b g) : De G E X (.BinOp a .Mod b pos) (dMod f g) := de_int2 op_mod (fun i j h => of_decide_eq_true h) (fun _ _ _ _ _ => .int _) ha hb
def cDiv : Int → Int → Bool := fun _ j => decide (0 < j) && decide (j < 1073741824)
abbrev dDiv := dInt2 cDiv fun i j => .int (i / j)
theorem de_div {f g} (ha : De G E X a f) (hb : De G E X b g) : De G E X (.BinOp a .FloorDiv b pos) (dDiv f g) := de_int2 op_fdiv (fun i j h => by
  unfold cDiv at h
  simp only [Bool.and_eq_true, decide_eq_true_eq] at h
  exact ⟨h.1, by omega⟩) (fun _ _ _ _ _ => .int _) ha hb
def cPow : Int → Int → Bool := fun i j => decide (0 ≤ j) && decide (j ≤ 1000) && decide (i.natAbs < 2 ^ 64)
abbrev dPow := dInt2 cPow fun i j => .int (i ^ j.toNat)
theorem de_pow {f g} (ha : De G E X a f) (hb : De G E X b g) : De G E X (.BinOp a .Pow b pos) (dPow f g) := de_int2 op_pow (fun i j h => by
  unfold cPow at h
  simp only [Bool.and_eq_true, decide_eq_true_eq] at h
  exact ⟨h.1.1, by omega, h.2⟩) (fun _ _ _ _ _ => .int _) ha hb
/-- -a -/
def P.neg : D → R D
  | .int i => .ok (.int (-i))
  | _ => .bad
def dNeg (f : DSt → R D) : DSt → R D := fun δ => (f δ).bind P.neg
theorem de_neg {f} (ha : De G E X a f) : De G E X (.UnaryOp .USub a pos) (dNeg f) := by
  obtain ⟨t, h1, h2⟩ := ha
  refine ⟨_, pe_un un_neg h1, ev_un mV h2 fun x v Hs H0 H e rx => ?_⟩
  unfold P.neg
  split
  · cases (show Rp X.K H0 v _ from rx)
    exact fun Q k => ⟨_, rfl, k _ H0 H (.refl e) (.int _)⟩
  · exact True.intro

/-! ### comparisons -/
def DC (G : Str → Addr) (E : XK) (X : Cx) (o : CmpOp) (a b : Expr) (f : DSt → R D) : Prop := ∃ r ta tb, OpR X (compareOp o) r ∧ PE X a ta ∧ PE X b tb ∧ behindInMarks o b = false ∧ Ev X.K G E (rV X.K) (tOp r ta tb) f
theorem de_c {o : CmpOp} {f} (h : DC G E X o a b f) : De G E X (.Compare a [o] [b] pos) f := by
  obtain ⟨r, ta, tb, h1, h2, h3, h4, h5⟩ := h
  exact ⟨_, pe_cmpR h1 h2 h3 h4, h5⟩
def P.tru : D → R Bool
  | .bool b => .ok b
  | _ => .bad
def dTru (f : DSt → R D) : DSt → R Bool := fun δ => (f δ).bind P.tru
theorem dt_c {o : CmpOp} {f} (h : DC G E X o a b f) : Dt G E X (.Compare a [o] [b] pos) (dTru f) := by
  obtain ⟨r, ta, tb, h1, h2, h3, h4, h5⟩ := h
  refine ⟨_, pt_cmpR h1 h2 h3 h4, fun B δ σ H0 H s => at_bind (t := tOp r ta tb σ H) mB (h5 B δ σ H0 H s) fun x v H1 H1' u rx => ?_⟩
  unfold P.tru
  split
  · cases (show Rp X.K H1 v _ from rx)
    exact fun Q q => ⟨_, rfl, q _ H1 H1' (.refl u.b) rfl⟩
  · exact True.intro
def opD : Op → D
  | .d x => x
  | .o ds => .list ds
theorem op_dp {K : PySem.W.Frag} {Hs H0 H : Hp} {v : V} {x : Op} (e : Fz H0 H) (h : rP K Hs H0 H v x) (q : SeqAt.shaped (opD x) = true) : Dp K H v (opD x) := by
  cases x with
  | d d => exact Rp.dp e h (SeqAt.canLay_of_shaped q)
  | o ds =>
    obtain ⟨p, vs, rfl, h1, h2⟩ := h
    have z := SeqAt.canLay_of_shaped q
    exact .lst (SqL.of h1) (RpAll.dp e h2 (by simpa [opD, PyData.canLay0] using z))
def P.eq (x y : Op) : R D := if SeqAt.shaped (opD x) && SeqAt.shaped (opD y) then .ok (.bool (PyData.eqv (opD x) (opD y))) else .bad
def P.ne (x y : Op) : R D := if SeqAt.shaped (opD x) && SeqAt.shaped (opD y) then .ok (.bool (!PyData.eqv (opD x) (opD y))) else .bad
def d2 (p : Op → Op → R D) (f g : DSt → R Op) : DSt → R D := fun δ => (f δ).bind fun x => (g δ).bind fun y => p x y
theorem dc_eq {f g} (hu : X.A.units + 64 < cLine) (ha : DO G E X a f) (hb : DO G E X b g) : DC G E X .Eq a b (d2 P.eq f g) := by
  obtain ⟨t, h1, h2⟩ := ha
  obtain ⟨u, k1, k2⟩ := hb
  refine ⟨_, _, _, op_eqD hu, h1, k1, nomark _, ev_op sP mV h2 k2 fun x y v w Hs Hs' H0 H e rx ry => ?_⟩
  unfold P.eq
  split
  · rename_i q
    simp only [Bool.and_eq_true] at q
    exact fun Q k => ⟨_, _, op_dp e rx q.1, op_dp e ry q.2, q.1, q.2, k _ H0 H (.refl e) (.bl _)⟩
  · exact True.intro
theorem dc_ne {f g} (hu : X.A.units + 64 < cLine) (ha : DO G E X a f) (hb : DO G E X b g) : DC G E X .NotEq a b (d2 P.ne f g) := by
  obtain ⟨t, h1, h2⟩ := ha
  obtain ⟨u, k1, k2⟩ := hb
  refine ⟨_, _, _, op_neD hu, h1, k1, nomark _, ev_op sP mV h2 k2 fun x y v w Hs Hs' H0 H e rx ry => ?_⟩
  unfold P.ne
  split
  · rename_i q
    simp only [Bool.and_eq_true] at q
    exact fun Q k => ⟨_, _, op_dp e rx q.1, op_dp e ry q.2, q.1, q.2, k _ H0 H (.refl e) (.bl _)⟩
  · exact True.intro
/-- an order of ints -/
def P.cmp (g : Int → Int → Bool) : D → D → R D
  | .int i, .int j => .ok (.bool (g i j))
  | _, _ => .bad
def dCmp (c : Int → Int → Bool) (f g : DSt → R D) : DSt → R D := fun δ => (f δ).bind fun x => (g δ).bind fun y => P.cmp c x y
theorem dc_cmp {o : CmpOp} {c : Int → Int → Bool} {f g} (ho : OpR X (compareOp o) (rI0 fun i j => .bl (c i j))) (hm : behindInMarks o b = false) (ha : De G E X a f) (hb : De G E X b g) : DC G E X o a b (dCmp c f g) := by
  obtain ⟨t, h1, h2⟩ := ha
  obtain ⟨u, k1, k2⟩ := hb
  refine ⟨_, _, _, ho, h1, k1, hm, ev_op sV mV h2 k2 fun x y v w Hs Hs' H0 H e rx ry => ?_⟩
  unfold P.cmp
  split
  · cases (show Rp X.K H0 v _ from rx); cases (show Rp X.K H0 w _ from ry)
    exact fun Q k => ⟨_, _, rfl, rfl, k _ H0 H (.refl e) (.bl _)⟩
  · exact True.intro
abbrev dLt := dCmp fun i j => decide (i < j)
abbrev dLe := dCmp fun i j => decide (i ≤ j)
abbrev dGt := dCmp fun i j => decide (j < i)
abbrev dGe := dCmp fun i j => decide (j ≤ i)
theorem dc_lt {f g} (ha : De G E X a f) (hb : De G E X b g) : DC G E X .Lt a b (dLt f g) := dc_cmp op_lt (nomark _) ha hb
theorem dc_le {f g} (ha : De G E X a f) (hb : De G E X b g) : DC G E X .LtE a b (dLe f g) := dc_cmp op_le (nomark _) ha hb
theorem dc_gt {f g} (ha : De G E X a f) (hb : De G E X b g) : DC G E X .Gt a b (dGt f g) := dc_cmp op_gt (nomark _) ha hb
theorem dc_ge {f g} (ha : De G E X a f) (hb : De G E X b g) : DC G E X .GtE a b (dGe f g) := dc_cmp op_ge (nomark _) ha hb
/-- is None -/
def P.isN : Op → D
  | .d .none => .bool true
  | _ => .bool false
def P.notN : Op → D
  | .d .none => .bool false
  | _ => .bool true
theorem isN_eq {K : PySem.W.Frag} {Hs H0 H : Hp} {v : V} {x : Op} (h : rP K Hs H0 H v x) : P.isN x = .bool (decide (v = .non)) ∧ P.notN x = .bool (!decide (v = .non)) := by
  cases x with
  | o ds => obtain ⟨p, vs, rfl, _⟩ := h; exact ⟨rfl, rfl⟩
  | d d =>
    have h : Rp K H0 v d := h
    cases h <;> exact ⟨rfl, rfl⟩
def dIsN (f : DSt → R Op) : DSt → R D := fun δ => (f δ).bind fun x => .ok (P.isN x)
def dNotN (f : DSt → R Op) : DSt → R D := fun δ => (f δ).bind fun x => .ok (P.notN x)
theorem dc_isN {f j} (ha : DO G E X a f) : DC G E X .Is a (.Constant .none j p) (dIsN f) := by
  obtain ⟨t, h1, h2⟩ := ha
  refine ⟨_, _, _, op_isN, h1, pe_non, nomark _, fun B δ σ H0 H s => at_bind (t := t σ H) (k := fun x H1 Q => V.non = .non ∧ Q (.bl (decide (x = .non))) H1) mV (h2 B δ σ H0 H s) fun x v H1 H1' u rx => ?_⟩
  rw [(isN_eq rx).1]
  exact fun Q q => ⟨rfl, q _ H1 H1' (.refl u.b) (.bl _)⟩
theorem dc_notN {f j} (ha : DO G E X a f) : DC G E X .IsNot a (.Constant .none j p) (dNotN f) := by
  obtain ⟨t, h1, h2⟩ := ha
  refine ⟨_, _, _, op_notN, h1, pe_non, nomark _, fun B δ σ H0 H s => at_bind (t := t σ H) (k := fun x H1 Q => V.non = .non ∧ Q (.bl (!decide (x = .non))) H1) mV (h2 B δ σ H0 H s) fun x v H1 H1' u rx => ?_⟩
  rw [(isN_eq rx).2]
  exact fun Q q => ⟨rfl, q _ H1 H1' (.refl u.b) (.bl _)⟩

/-! ### tests -/
theorem dt_val {f} (h : De G E X e f) (he : ∀ whole, isTrue e X.env whole = (do let v ← whole; standAt e.pos; holding [v] (truthy v)) := by intro _; rfl) : Dt G E X e (dTru f) := by
  obtain ⟨t, h1, h2⟩ := h
  refine ⟨_, pt_val h1 he, fun B δ σ H0 H s => at_bind (t := t σ H) mB (h2 B δ σ H0 H s) fun x v H1 H1' u rx => ?_⟩
  unfold P.tru
  split
  · cases (show Rp X.K H1 v _ from rx)
    exact fun Q q => ⟨_, rfl, q _ H1 H1' (.refl u.b) rfl⟩
  · exact True.intro
def dNot (f : DSt → R Bool) : DSt → R Bool := fun δ => (f δ).bind fun b => .ok (!b)
theorem dt_not {f} (h : Dt G E X a f) : Dt G E X (.UnaryOp .Not a pos) (dNot f) := by
  obtain ⟨t, h1, h2⟩ := h
  refine ⟨_, pt_not h1, fun B δ σ H0 H s => at_bind (t := t σ H) mB (h2 B δ σ H0 H s) fun x v H1 H1' u rx => ?_⟩
  cases (show v = x from rx)
  exact fun Q q => q _ H1 H1' (.refl u.b) rfl
def dAnd (f g : DSt → R Bool) : DSt → R Bool := fun δ => (f δ).bind fun b => if b then g δ else .ok false
def dOr (f g : DSt → R Bool) : DSt → R Bool := fun δ => (f δ).bind fun b => if b then .ok true else g δ
theorem dw_and1 {f} (h : Dt G E X a f) : Dw G E X (.BoolOp .And [a] pos) f := by
  obtain ⟨t, h1, h2⟩ := h
  exact ⟨_, pw_and1 h1, h2⟩
theorem dw_or1 {f} (h : Dt G E X a f) : Dw G E X (.BoolOp .Or [a] pos) f := by
  obtain ⟨t, h1, h2⟩ := h
  exact ⟨_, pw_or1 h1, h2⟩
theorem dw_and {f g} (h : Dt G E X a f) (k : Dw G E X (.BoolOp .And (b :: es) pos) g) : Dw G E X (.BoolOp .And (a :: b :: es) pos) (dAnd f g) := by
  obtain ⟨t, h1, h2⟩ := h
  obtain ⟨u, k1, k2⟩ := k
  refine ⟨_, pw_and h1 k1, fun B δ σ H0 H s => at_bind (t := t σ H) mB (h2 B δ σ H0 H s) fun x v H1 H1' w rx => ?_⟩
  cases (show v = x from rx)
  cases x with
  | true => exact k2 B δ σ H1 H1' (s.up w)
  | false => exact fun Q q => q _ H1 H1' (.refl w.b) rfl
theorem dw_or {f g} (h : Dt G E X a f) (k : Dw G E X (.BoolOp .Or (b :: es) pos) g) : Dw G E X (.BoolOp .Or (a :: b :: es) pos) (dOr f g) := by
  obtain ⟨t, h1, h2⟩ := h
  obtain ⟨u, k1, k2⟩ := k
  refine ⟨_, pw_or h1 k1, fun B δ σ H0 H s => at_bind (t := t σ H) mB (h2 B δ σ H0 H s) fun x v H1 H1' w rx => ?_⟩
  cases (show v = x from rx)
  cases x with
  | false => exact k2 B δ σ H1 H1' (s.up w)
  | true => exact fun Q q => q _ H1 H1' (.refl w.b) rfl
theorem dt_w {f} (h : Dw G E X e f) : Dt G E X e f := by
  obtain ⟨t, h1, h2⟩ := h
  exact ⟨_, PW.pt h1, h2⟩
/-- and, or, not as values (all but the last True or False) -/
def dAndV (f g : DSt → R D) : DSt → R D := fun δ => (f δ).bind fun x => (P.tru x).bind fun b => if b then g δ else .ok (.bool false)
def dOrV (f g : DSt → R D) : DSt → R D := fun δ => (f δ).bind fun x => (P.tru x).bind fun b => if b then .ok (.bool true) else g δ
def dNotV (f : DSt → R D) : DSt → R D := fun δ => (f δ).bind fun x => (P.tru x).bind fun b => .ok (.bool (!b))
theorem de_one {f o} (h : De G E X a f) : De G E X (.BoolOp o [a] pos) f := by
  obtain ⟨t, h1, h2⟩ := h
  exact ⟨_, pe_one h1, h2⟩
theorem de_and {f g} (h : De G E X a f) (k : De G E X (.BoolOp .And (b :: es) pos) g) : De G E X (.BoolOp .And (a :: b :: es) pos) (dAndV f g) := by
  obtain ⟨t, h1, h2⟩ := h
  obtain ⟨u, k1, k2⟩ := k
  refine ⟨_, pe_and h1 k1, fun B δ σ H0 H s => at_bind (t := t σ H) mV (h2 B δ σ H0 H s) fun x v H1 H1' w rx => ?_⟩
  cases x with
  | bool c =>
    cases (show Rp X.K H1 v _ from rx)
    cases c with
    | true =>
      exact At.imp (k2 B δ σ H1 H1' (s.up w)) fun Q q => ⟨true, rfl, q⟩
    | false => exact fun Q q => ⟨false, rfl, q _ H1 H1' (.refl w.b) (.bl _)⟩
  | _ => exact True.intro
theorem de_or {f g} (h : De G E X a f) (k : De G E X (.BoolOp .Or (b :: es) pos) g) : De G E X (.BoolOp .Or (a :: b :: es) pos) (dOrV f g) := by
  obtain ⟨t, h1, h2⟩ := h
  obtain ⟨u, k1, k2⟩ := k
  refine ⟨_, pe_or h1 k1, fun B δ σ H0 H s => at_bind (t := t σ H) mV (h2 B δ σ H0 H s) fun x v H1 H1' w rx => ?_⟩
  cases x with
  | bool c =>
    cases (show Rp X.K H1 v _ from rx)
    cases c with
    | false =>
      exact At.imp (k2 B δ σ H1 H1' (s.up w)) fun Q q => ⟨false, rfl, q⟩
    | true => exact fun Q q => ⟨true, rfl, q _ H1 H1' (.refl w.b) (.bl _)⟩
  | _ => exact True.intro
theorem de_not {f} (h : De G E X a f) : De G E X (.UnaryOp .Not a pos) (dNotV f) := by
  obtain ⟨t, h1, h2⟩ := h
  refine ⟨_, pe_not h1, fun B δ σ H0 H s => at_bind (t := t σ H) mV (h2 B δ σ H0 H s) fun x v H1 H1' w rx => ?_⟩
  cases x with
  | bool c =>
    cases (show Rp X.K H1 v _ from rx)
    exact fun Q q => ⟨c, rfl, q _ H1 H1' (.refl w.b) (.bl _)⟩
  | _ => exact True.intro
/-- a if t else b -/
def dIf {α : Type} (c : DSt → R Bool) (f g : DSt → R α) : DSt → R α := fun δ => (c δ).bind fun b => if b then f δ else g δ
theorem de_if {c : Expr} {h f g} (hc : Dt G E X c h) (ha : De G E X a f) (hb : De G E X b g) : De G E X (.IfExp c a b pos) (dIf h f g) := by
  obtain ⟨t, h1, h2⟩ := hc
  obtain ⟨u, k1, k2⟩ := ha
  obtain ⟨u', l1, l2⟩ := hb
  refine ⟨_, pe_ifExp h1 k1 l1, fun B δ σ H0 H s => at_bind (t := t σ H) mV (h2 B δ σ H0 H s) fun x v H1 H1' w rx => ?_⟩
  cases (show v = x from rx)
  cases x with
  | true => exact k2 B δ σ H1 H1' (s.up w)
  | false => exact l2 B δ σ H1 H1' (s.up w)

/-! ### argument lists, displays -/
def dNil : DSt → R (List D) := fun _ => .ok []
def dCons (f : DSt → R D) (g : DSt → R (List D)) : DSt → R (List D) := fun δ => (f δ).bind fun x => (g δ).bind fun xs => .ok (x :: xs)
theorem da_nil : Da G E X [] dNil := ⟨_, pa_nil, fun B δ σ H0 H s Q q => q [] H0 H (.refl s.ex) .nil⟩
theorem da_cons {f g} (h : De G E X e f) (k : Da G E X es g) (hs : starEach (e :: es) X.env = (false, eval e X.env) :: starEach es X.env := by rfl) : Da G E X (e :: es) (dCons f g) := by
  obtain ⟨t, h1, h2⟩ := h
  obtain ⟨u, k1, k2⟩ := k
  refine ⟨_, pa_cons h1 k1 hs, fun B δ σ H0 H s => at_bind (t := t σ H) mA (h2 B δ σ H0 H s) fun x v H1 H1' w rx => at_bind (t := u σ H1') (k := fun vs H2 Q => Q (v :: vs) H2) mA (k2 B δ σ H1 H1' (s.up w)) fun xs vs H2 H2' w2 rxs => ?_⟩
  exact fun Q q => q _ H2 H2' (.refl w2.b) (.cons (Rp.mono w2.a rx) rxs)
def dTup (f : DSt → R (List D)) : DSt → R D := fun δ => (f δ).bind fun xs => if xs.length ≤ LIM then .ok (.tuple xs) else .bad
theorem de_tup {f x1} (h : Da G E X es f) : De G E X (.Tuple es x1 pos) (dTup f) := by
  obtain ⟨t, h1, h2⟩ := h
  refine ⟨_, pe_tup h1, fun B δ σ H0 H s => at_bind (t := t σ H) mV (h2 B δ σ H0 H s) fun xs vs H1 H1' w rx => ?_⟩
  split
  · rename_i hl
    exact At.imp (at_newT w.b rx) fun Q q => ⟨by rw [RpAll.length rx]; exact lim_le hl, q⟩
  · exact True.intro
def dLst (f : DSt → R (List D)) : DSt → R D := fun δ => (f δ).bind fun xs => if xs.length ≤ LIM then .ok (.list xs) else .bad
theorem de_lst {f} (h : Da G E X es f) : De G E X (.List es pos) (dLst f) := by
  obtain ⟨t, h1, h2⟩ := h
  refine ⟨_, pe_lst h1, fun B δ σ H0 H s => at_bind (t := t σ H) mV (h2 B δ σ H0 H s) fun xs vs H1 H1' w rx => ?_⟩
  split
  · rename_i hl
    exact At.imp (at_newL w.b rx) fun Q q => ⟨by rw [RpAll.length rx]; exact lim_le hl, q⟩
  · exact True.intro
def dLstN (f : DSt → R (List D)) : DSt → R (List D) := fun δ => (f δ).bind fun xs => if xs.length ≤ LIM then .ok xs else .bad
theorem dn_lst {f} (h : Da G E X es f) : DN G E X (.List es pos) (dLstN f) := by
  obtain ⟨t, h1, h2⟩ := h
  refine ⟨_, pe_lst h1, fun B δ σ H0 H s => at_bind (t := t σ H) mN (h2 B δ σ H0 H s) fun xs vs H1 H1' w rx => ?_⟩
  split
  · rename_i hl
    exact At.imp (at_newN w.b rx) fun Q q => ⟨by rw [RpAll.length rx]; exact lim_le hl, q⟩
  · exact True.intro
/-- a new list as data -/
def dFre (f : DSt → R (List D)) : DSt → R D := fun δ => (f δ).bind fun xs => .ok (.list xs)
theorem de_fre {f} (h : DN G E X e f) : De G E X e (dFre f) := by
  obtain ⟨t, h1, h2⟩ := h
  refine ⟨t, h1, fun B δ σ H0 H s => ?_⟩
  have z := h2 B δ σ H0 H s
  unfold dFre
  cases q : f δ with
  | bad => exact True.intro
  | er x => rw [q] at z; exact z
  | ok ds =>
    rw [q] at z
    refine fun Q k => z Q fun b H0' H' u ⟨p, vs, e, hs, h0, hp, r⟩ => ?_
    subst e
    refine k _ (upd H0' p (.lst vs)) H' ⟨u.a.trans (Same.upd h0), fun c o w => ?_, u.c, fun c n1 n2 => ?_, fun c n z => ?_⟩ (.lst upd_same (r.mono (Same.upd h0)))
    · by_cases hc : c = p
      · subst hc; rw [upd_same] at w; cases w; exact .inl hp
      · rw [upd_ne hc] at w; exact u.b _ _ w
    · have hc : c ≠ p := fun z => n1 (z ▸ hs)
      rw [upd_ne hc]; exact u.d c n1 n2
    · by_cases hc : c = p
      · subst hc; rw [upd_same] at z; cases z
      · rw [upd_ne hc] at z; exact u.g c n z
end
end Dn

namespace Dn
open PySem PySem.Spec PyProof.Rows L2

/-! ### items, slices, lengths, classes -/
section
variable {K : PySem.W.Frag} {H : Hp}
theorem RpAll.atI {vs : List V} {ds : List D} {i : Int} {d : D} (r : RpAll K H vs ds) (h : L2.atI ds i = some d) : ∃ v, L2.atI vs i = some v ∧ Rp K H v d := by
  unfold L2.atI at h ⊢
  rw [r.length]
  cases q : ixN ds.length i with
  | none => rw [q] at h; cases h
  | some j =>
    rw [q] at h
    exact r.get h
end
def P.idx (x : Op) (y : D) : R D := match y with
  | .int i => match asSq x with
    | some ds => match atI ds i with
      | some d => .ok d
      | none => .bad
    | none => match x with
      | .d (.str z) => if z.length ≤ LIM then (match atI z.cps.toList i with
        | some c => .ok (.str ⟨#[c]⟩)
        | none => .bad) else .bad
      | _ => .bad
  | _ => .bad
def dIdx (f : DSt → R Op) (g : DSt → R D) : DSt → R D := fun δ => (f δ).bind fun x => (g δ).bind fun y => P.idx x y
section
variable {G : Str → Addr} {E : XK} {X : Cx} {pos p p2 p3 : Pos} {a b e : Expr} {es : List Expr}
theorem de_ix {f g} (ha : DO G E X a f) (hb : De G E X b g) (hs : PlainIx b) : De G E X (.Subscript a b pos) (dIdx f g) := by
  obtain ⟨t, h1, h2⟩ := ha
  obtain ⟨u, k1, k2⟩ := hb
  refine ⟨_, pe_ix ix_seq h1 k1 hs, ev_op sP mV h2 k2 fun x y v w Hs Hs' H0 H e rx ry => ?_⟩
  unfold P.idx
  cases y with
  | int i =>
    cases (show Rp X.K H0 w _ from ry)
    show At X.K G E (rV X.K) H0 H _ (match asSq x with | some ds => _ | none => _)
    split
    · rename_i ds hd
      obtain ⟨a, vs, rfl, hq, r⟩ := as_sq e rx hd
      split
      · rename_i d hi
        obtain ⟨v, hv, rv⟩ := r.atI hi
        rcases hq with hq | hq
        · exact fun Q q => .inl ⟨_, _, _, _, rfl, rfl, hq, hv, q _ H0 H (.refl e) rv⟩
        · exact fun Q q => .inr (.inl ⟨_, _, _, _, rfl, rfl, hq, hv, q _ H0 H (.refl e) rv⟩)
      · exact True.intro
    · split
      · cases (show Rp X.K H0 v _ from rx)
        split
        · rename_i hl
          split
          · rename_i c hc
            exact fun Q q => .inr (.inr ⟨_, _, _, rfl, rfl, lim_le hl, hc, q _ H0 H (.refl e) (.str _)⟩)
          · exact True.intro
        · exact True.intro
      · exact True.intro
  | _ => exact True.intro
/-- a slice's parts -/
def dNoPart : DSt → R (Option Int) := fun _ => .ok none
def P.part : D → R (Option Int)
  | .int i => .ok (some i)
  | _ => .bad
def dPart (f : DSt → R D) : DSt → R (Option Int) := fun δ => (f δ).bind P.part
theorem dp_none : Dp' G E X none dNoPart := ⟨_, po_none, fun B δ σ H0 H s Q q => q none H0 H (.refl s.ex) rfl⟩
theorem dp_some {f} (h : De G E X e f) : Dp' G E X (some e) (dPart f) := by
  obtain ⟨t, h1, h2⟩ := h
  refine ⟨_, po_some h1, fun B δ σ H0 H s => at_bind (t := t σ H) mO (h2 B δ σ H0 H s) fun x v H1 H1' w rx => ?_⟩
  cases x with
  | int i =>
    cases (show Rp X.K H1 v _ from rx)
    exact fun Q q => ⟨_, rfl, q _ H1 H1' (.refl w.b) rfl⟩
  | _ => exact True.intro
def cutD (ds : List D) (lo hi : Option Int) : List D := (ds.drop (HT.sIx ds.length 0 lo)).take (HT.sIx ds.length ds.length hi - HT.sIx ds.length 0 lo)
theorem cut_rp {K : PySem.W.Frag} {H : Hp} {vs : List V} {ds : List D} {lo hi : Option Int} (r : RpAll K H vs ds) : RpAll K H (cutV vs lo hi) (cutD ds lo hi) := by
  unfold cutV cutD
  rw [r.length]
  exact (r.drop _).take _
def P.slice (x : Op) (lo hi : Option Int) : R D := match asL x with
  | some ds => .ok (.list (cutD ds lo hi))
  | none => match x with
    | .d (.tuple ds) => .ok (.tuple (cutD ds lo hi))
    | .d (.str z) => if z.length ≤ LIM then .ok (.str (cutS z lo hi)) else .bad
    | _ => .bad
def rSlD (K : PySem.W.Frag) : V → Option Int → Option Int → Hp → VK → Prop := fun x lo hi H Q => rSlL K x lo hi H Q ∨ rSlA K x lo hi H Q ∨ rSlS x lo hi H Q
theorem sl_d : SlR X (rSlD X.K) := by
  intro pins s σ H x v vl vu lo hi sl Q I rx hs pl pu h
  rcases h with h | h | h
  · exact sl_list pins s σ H x v vl vu lo hi sl Q I rx hs pl pu h
  · exact sl_tupA pins s σ H x v vl vu lo hi sl Q I rx hs pl pu h
  · exact sl_str pins s σ H x v vl vu lo hi sl Q I rx hs pl pu h
def dSlice (f : DSt → R Op) (l h : DSt → R (Option Int)) : DSt → R D := fun δ => (f δ).bind fun x => (l δ).bind fun lo => (h δ).bind fun hi => P.slice x lo hi
theorem cutD_all {α : Type} {ds : List α} {lo hi : Option Int} (h : HT.sIx ds.length 0 lo = 0 ∧ HT.sIx ds.length ds.length hi = ds.length) : (ds.drop (HT.sIx ds.length 0 lo)).take (HT.sIx ds.length ds.length hi - HT.sIx ds.length 0 lo) = ds := by
  rw [h.1, h.2, Nat.sub_zero, List.drop_zero, List.take_length]
theorem de_slice {lo hi : Option Expr} {f l h} (ha : DO G E X e f) (hl : Dp' G E X lo l) (hh : Dp' G E X hi h) : De G E X (.Subscript e (.Slice lo hi none p2) pos) (dSlice f l h) := by
  obtain ⟨t, h1, h2⟩ := ha
  obtain ⟨tl, l1, l2⟩ := hl
  obtain ⟨th, k1, k2⟩ := hh
  refine ⟨_, pe_slice sl_d h1 l1 k1, fun B δ σ H0 H s => at_bind (t := t σ H) (k := fun x H1 Q => tl σ H1 fun l H2 => th σ H2 fun u H3 => rSlD X.K x l u H3 Q) mV (h2 B δ σ H0 H s) fun x v H1 H1' w rx =>
    at_bind (t := tl σ H1') (k := fun l H2 Q => th σ H2 fun u H3 => rSlD X.K v l u H3 Q) mV (l2 B δ σ H1 H1' (s.up w)) fun lo' lo2 H2 H2' w2 e1 => at_bind (t := th σ H2') (k := fun u H3 Q => rSlD X.K v lo2 u H3 Q) mV (k2 B δ σ H2 H2' ((s.up w).up w2)) fun hi' hi2 H3 H3' w3 e2 => ?_⟩
  cases (show lo2 = lo' from e1)
  cases (show hi2 = hi' from e2)
  have rx : rP X.K H H3 H3' v x := sP _ _ _ _ _ _ _ w3 (sP _ _ _ _ _ _ _ w2 rx)
  have e := w3.b
  unfold P.slice
  split
  · rename_i ds hd
    obtain ⟨a, vs, rfl, hq, r⟩ := as_l e rx hd
    exact fun Q q => .inl ⟨_, _, rfl, hq, at_newL (G := G) (E := E) e (cut_rp r) Q q⟩
  · split
    · cases (show Rp X.K H3 v _ from rx) with
      | @tup a xs ds h1 r =>
        refine fun Q q => .inr (.inl ⟨_, _, rfl, e.tup h1, fun z => ?_, fun z => at_newT (G := G) (E := E) e (cut_rp r) Q q⟩)
        have z' := z
        rw [r.length] at z'
        refine q _ H3 H3' (.refl e) ?_
        show Rp X.K H3 (.ref a) (.tuple (cutD _ lo' hi'))
        unfold cutD
        rw [cutD_all z']
        exact .tup h1 r
    · cases (show Rp X.K H3 v _ from rx)
      split
      · rename_i hl
        exact fun Q q => .inr (.inr ⟨_, rfl, lim_le hl, q _ H3 H3' (.refl e) (.str _)⟩)
      · exact True.intro
    · exact True.intro
/-- len -/
def P.len (x : Op) : R D := match asSq x with
  | some ds => .ok (.int ds.length)
  | none => match x with
    | .d (.str z) => if z.length ≤ LIM then .ok (.int z.length) else .bad
    | _ => .bad
def dLen (f : DSt → R Op) : DSt → R D := fun δ => (f δ).bind P.len
/-- a built-in of one operand -/
theorem ev_cb1 {K : PySem.W.Frag} {γ : Type} {rc : Rel V γ} {r : List V → Hp → VK → Prop} {ta : TE} {fa : DSt → R Op} {g : Op → R γ} (mc : Rel.M rc) (ha : Ev K G E (rP K) ta fa)
    (hk : ∀ x v Hs H0 H, Fz H0 H → rP K Hs H0 H v x → At K G E rc H0 H (r [v] H) (g x)) : Ev K G E rc (tCB r (tCons ta tNil)) (fun δ => (fa δ).bind g) :=
  fun B δ σ H0 H s => at_bind (t := ta σ H) (k := fun v H1 Q => r [v] H1 Q) mc (ha B δ σ H0 H s) fun x v H1 H1' u rx => hk x v H H1 H1' u.b rx
theorem de_len {f} (hg : Gl X "len") (hm : X.mg "len" = none) (ha : DO G E X e f) (he : starEach [e] X.env = (false, eval e X.env) :: starEach [] X.env := by rfl) (hpl : (backTo pos (starEach [] X.env)).any (·.1) = false := by rfl) :
    De G E X (.Call (.Name "len" p) [e] [] pos) (dLen f) := by
  obtain ⟨t, h1, h2⟩ := ha
  refine ⟨_, pe_callB call_len hg hm PySem.boot_len (pa_cons h1 pa_nil he) (by decide) (by decide) he hpl, ev_cb1 mV h2 fun x v Hs H0 H e rx => ?_⟩
  unfold P.len
  split
  · rename_i ds hd
    obtain ⟨a, vs, rfl, hq, r⟩ := as_sq e rx hd
    exact fun Q q => ⟨_, _, rfl, hq.elim (fun z => .inl ⟨_, z, r.length.symm⟩) (fun z => .inr ⟨_, z, r.length.symm⟩), q _ H0 H (.refl e) (.int _)⟩
  · split
    · cases (show Rp X.K H0 v _ from rx)
      split
      · rename_i hl
        exact fun Q q => ⟨_, _, rfl, ⟨lim_le hl, rfl⟩, q _ H0 H (.refl e) (.int _)⟩
      · exact True.intro
    · exact True.intro
/-- isinstance with a built-in class -/
def tyN : Op → String
  | .o _ => "list"
  | .d .none => "NoneType"
  | .d (.bool _) => "bool"
  | .d (.int _) => "int"
  | .d (.str _) => "str"
  | .d (.list _) => "list"
  | .d (.tuple _) => "tuple"
  | .d (.dict [(.none, .list _)]) => "list"
  | .d (.dict _) => "dict"
def isOb : Op → Bool
  | .d (.dict [(.none, .int _)]) => true
  | _ => false
theorem tyX_of {K : PySem.W.Frag} {Hs H0 H : Hp} {v : V} {x : Op} (e : Fz H0 H) (h : rP K Hs H0 H v x) (no : isOb x = false) : TyX K H v (.type (tyN x)) := by
  cases x with
  | o ds => obtain ⟨p, vs, rfl, h1, _⟩ := h; exact .base (.lst h1)
  | d d =>
    have h : Rp K H0 v d := h
    cases h with
    | non => exact .base .non
    | bl b => exact .base (.bl b)
    | int i => exact .base (.int i)
    | str s => exact .base (.str s)
    | lst h1 _ => exact .base (.lst (e.lst h1))
    | tup h1 _ =>
      rcases e.tup h1 with (h | ⟨o, h⟩) | ⟨o, its, n, hk, hc, _⟩
      · exact .base (.tup h)
      · exact .fTuple h
      · exact .kTuple hk hc
    | scr h1 _ =>
      rcases e.seq h1 with (h | ⟨o, h⟩) | ⟨o, its, n, hk, hc, _⟩
      · exact .base (.lst h)
      · exact .base (.frz h)
      · exact .kList hk hc
    | ob _ =>
      have no : isOb (.d (ob _)) = false := no
      cases no
def P.isi (T : String) (x : Op) : R D := if isOb x then .bad else match kitB (tyN x) T with
  | some b => .ok (.bool b)
  | none => .bad
def dIsi (T : String) (f : DSt → R Op) : DSt → R D := fun δ => (f δ).bind (P.isi T)
theorem de_isi {f} {T : String} {cn : Str} (hg : Gl X "isinstance") (hm : X.mg "isinstance" = none) (hv : bootBuiltins "isinstance" = some (.builtin "isinstance")) (hgT : Gl X cn) (hmT : X.mg cn = none) (hvT : bootBuiltins cn = some (.type T)) (ha : DO G E X e f)
    (hn : cn ≠ "__name__" := by decide) (hd : (cn == ("__debug__" : Str)) = false := by decide)
    (he : starEach [e, .Name cn p2] X.env = (false, eval e X.env) :: starEach [.Name cn p2] X.env := by rfl) (he2 : starEach [.Name cn p2] X.env = (false, eval (.Name cn p2) X.env) :: starEach [] X.env := by rfl) (hpl : (backTo pos (starEach [.Name cn p2] X.env)).any (·.1) = false := by rfl) :
    De G E X (.Call (.Name "isinstance" p) [e, .Name cn p2] [] pos) (dIsi T f) := by
  obtain ⟨t, h1, h2⟩ := ha
  refine ⟨_, pe_callB call_isi hg hm hv (pa_cons h1 (pa_cons (pe_bltn (v := .ty T) hgT hmT hvT rfl hn hd) pa_nil he2) he) (by decide) (by decide) he hpl, fun B δ σ H0 H s => at_bind (t := t σ H) (k := fun v H1 Q => rIsi X.K [v, .ty T] H1 Q) mV (h2 B δ σ H0 H s) fun x v H1 H1' w rx => ?_⟩
  unfold P.isi
  split
  · exact True.intro
  · rename_i no
    split
    · rename_i b hb
      exact fun Q q => ⟨_, _, _, _, _, rfl, .ty T, tyX_of w.b rx (by simpa using no), kit_ty hb, q _ H1 H1' (.refl w.b) (.bl _)⟩
    · exact True.intro
/-- int(x), max(x, y), min(x, y) -/
def P.toInt : Op → R D
  | .d (.int i) => .ok (.int i)
  | .d (.bool b) => .ok (.int (if b then 1 else 0))
  | _ => .bad
def dToInt (f : DSt → R Op) : DSt → R D := fun δ => (f δ).bind P.toInt
theorem de_toInt {f} (hg : Gl X "int") (hm : X.mg "int" = none) (hv : bootBuiltins "int" = some (.type "int")) (ha : DO G E X e f) (he : starEach [e] X.env = (false, eval e X.env) :: starEach [] X.env := by rfl) (hpl : (backTo pos (starEach [] X.env)).any (·.1) = false := by rfl) :
    De G E X (.Call (.Name "int" p) [e] [] pos) (dToInt f) := by
  obtain ⟨t, h1, h2⟩ := ha
  refine ⟨_, pe_callTy call_int1 hg hm hv (pa_cons h1 pa_nil he) (by decide) (by decide) he hpl, ev_cb1 mV h2 fun x v Hs H0 H e rx => ?_⟩
  unfold P.toInt
  split
  · cases (show Rp X.K H0 v _ from rx)
    exact fun Q q => .inl ⟨_, rfl, q _ H0 H (.refl e) (.int _)⟩
  · cases (show Rp X.K H0 v _ from rx)
    exact fun Q q => .inr ⟨_, rfl, q _ H0 H (.refl e) (.int _)⟩
  · exact True.intro
def P.max2 : List D → R D
  | [.int i, .int j] => .ok (.int (if j > i then j else i))
  | _ => .bad
def P.min2 : List D → R D
  | [.int i, .int j] => .ok (.int (if j < i then j else i))
  | _ => .bad
def dCall1 (p : List D → R D) (f : DSt → R (List D)) : DSt → R D := fun δ => (f δ).bind p
theorem de_max2 {f} (hc : X.calm = true) (hg : Gl X "max") (hm : X.mg "max" = none) (hv : bootBuiltins "max" = some (.builtin "max")) (ha : Da G E X (e :: es) f) (he : starEach (e :: es) X.env = (false, eval e X.env) :: starEach es X.env := by rfl) (hpl : (backTo pos (starEach es X.env)).any (·.1) = false := by rfl) :
    De G E X (.Call (.Name "max" p) (e :: es) [] pos) (dCall1 P.max2 f) := by
  obtain ⟨t, h1, h2⟩ := ha
  refine ⟨_, pe_callB (call_max2 hc) hg hm hv h1 (by decide) (by decide) he hpl, ev_cb mV h2 fun ds vs H0 H e rx => ?_⟩
  unfold P.max2
  split
  · cases rx with
    | cons r1 r2 =>
      cases r2 with
      | cons r3 r4 =>
        cases r4; cases r1; cases r3
        exact fun Q q => ⟨_, _, rfl, q _ H0 H (.refl e) (.int _)⟩
  · exact True.intro
theorem de_min2 {f} (hc : X.calm = true) (hg : Gl X "min") (hm : X.mg "min" = none) (hv : bootBuiltins "min" = some (.builtin "min")) (ha : Da G E X (e :: es) f) (he : starEach (e :: es) X.env = (false, eval e X.env) :: starEach es X.env := by rfl) (hpl : (backTo pos (starEach es X.env)).any (·.1) = false := by rfl) :
    De G E X (.Call (.Name "min" p) (e :: es) [] pos) (dCall1 P.min2 f) := by
  obtain ⟨t, h1, h2⟩ := ha
  refine ⟨_, pe_callB (call_min2 hc) hg hm hv h1 (by decide) (by decide) he hpl, ev_cb mV h2 fun ds vs H0 H e rx => ?_⟩
  unfold P.min2
  split
  · cases rx with
    | cons r1 r2 =>
      cases r2 with
      | cons r3 r4 =>
        cases r4; cases r1; cases r3
        exact fun Q q => ⟨_, _, rfl, q _ H0 H (.refl e) (.int _)⟩
  · exact True.intro
/-- all, any of a list of truth values -/
def bools? : List D → Option (List Bool)
  | [] => some []
  | .bool b :: ds => (bools? ds).map (b :: ·)
  | _ => none
theorem bools_rp {K : PySem.W.Frag} {H : Hp} : ∀ {ds : List D} {vs : List V} {bs : List Bool}, bools? ds = some bs → RpAll K H vs ds → vs = bs.map V.bl
  | [], _, _, h, .nil => by cases h; rfl
  | .bool b :: ds, _, bs, h, .cons (.bl _) r => by
    unfold bools? at h
    cases q : bools? ds with
    | none => rw [q] at h; cases h
    | some cs =>
      rw [q] at h
      cases h
      rw [bools_rp q r]
      rfl
def P.all (x : Op) : R D := match (asL x).bind bools? with
  | some bs => .ok (.bool (bs.all id))
  | none => .bad
def P.any (x : Op) : R D := match (asL x).bind bools? with
  | some bs => .ok (.bool (bs.any id))
  | none => .bad
def d1 (p : Op → R D) (f : DSt → R Op) : DSt → R D := fun δ => (f δ).bind p
theorem de_all {f} (hc : X.calm = true) (hg : Gl X "all") (hm : X.mg "all" = none) (hv : bootBuiltins "all" = some (.builtin "all")) (ha : DO G E X e f) (he : starEach [e] X.env = (false, eval e X.env) :: starEach [] X.env := by rfl) (hpl : (backTo pos (starEach [] X.env)).any (·.1) = false := by rfl) :
    De G E X (.Call (.Name "all" p) [e] [] pos) (d1 P.all f) := by
  obtain ⟨t, h1, h2⟩ := ha
  refine ⟨_, pe_callB (cr_all hc) hg hm hv (pa_cons h1 pa_nil he) (by decide) (by decide) he hpl, ev_cb1 mV h2 fun x v Hs H0 H e rx => ?_⟩
  unfold P.all
  split
  · rename_i bs hb
    cases q : asL x with
    | none => rw [q] at hb; cases hb
    | some ds =>
      rw [q] at hb
      obtain ⟨a, vs, rfl, hq, r⟩ := as_l e rx q
      have z := bools_rp hb r
      subst z
      exact fun Q q => ⟨_, _, rfl, hq, q _ H0 H (.refl e) (.bl _)⟩
  · exact True.intro
theorem de_any {f} (hc : X.calm = true) (hg : Gl X "any") (hm : X.mg "any" = none) (hv : bootBuiltins "any" = some (.builtin "any")) (ha : DO G E X e f) (he : starEach [e] X.env = (false, eval e X.env) :: starEach [] X.env := by rfl) (hpl : (backTo pos (starEach [] X.env)).any (·.1) = false := by rfl) :
    De G E X (.Call (.Name "any" p) [e] [] pos) (d1 P.any f) := by
  obtain ⟨t, h1, h2⟩ := ha
  refine ⟨_, pe_callB (cr_any hc) hg hm hv (pa_cons h1 pa_nil he) (by decide) (by decide) he hpl, ev_cb1 mV h2 fun x v Hs H0 H e rx => ?_⟩
  unfold P.any
  split
  · rename_i bs hb
    cases q : asL x with
    | none => rw [q] at hb; cases hb
    | some ds =>
      rw [q] at hb
      obtain ⟨a, vs, rfl, hq, r⟩ := as_l e rx q
      have z := bools_rp hb r
      subst z
      exact fun Q q => ⟨_, _, rfl, hq, q _ H0 H (.refl e) (.bl _)⟩
  · exact True.intro
/-- tuple(x), list(x) -/
def P.tuple (x : Op) : R D := match asSq x with
  | some ds => .ok (.tuple ds)
  | none => .bad
theorem de_tuple {f} (hg : Gl X "tuple") (hm : X.mg "tuple" = none) (hv : bootBuiltins "tuple" = some (.type "tuple")) (ha : DO G E X e f) (he : starEach [e] X.env = (false, eval e X.env) :: starEach [] X.env := by rfl) (hpl : (backTo pos (starEach [] X.env)).any (·.1) = false := by rfl) :
    De G E X (.Call (.Name "tuple" p) [e] [] pos) (d1 P.tuple f) := by
  obtain ⟨t, h1, h2⟩ := ha
  refine ⟨_, pe_callTy call_tuple_of hg hm hv (pa_cons h1 pa_nil he) (by decide) (by decide) he hpl, ev_cb1 mV h2 fun x v Hs H0 H e rx => ?_⟩
  unfold P.tuple
  cases q : asSq x with
  | none => exact True.intro
  | some ds =>
    obtain ⟨a, vs, rfl, hq, r⟩ := as_sq e rx q
    rcases hq with hq | hq
    · exact fun Q q => ⟨_, _, rfl, .inl ⟨hq, at_newT (G := G) (E := E) e r Q q⟩⟩
    · -- a tuple is itself: its place must be the data's
      cases x with
      | o es => 
        obtain ⟨p, ws, e1, h1, h2⟩ := rx
        cases e1
        cases q
        exact fun Q q => ⟨_, _, rfl, .inl ⟨SqL.of h1, at_newT (G := G) (E := E) e h2 Q q⟩⟩
      | d d =>
        have rx : Rp X.K H0 (.ref a) d := rx
        cases rx with
        | lst h1 h2 => cases q; exact fun Q q => ⟨_, _, rfl, .inl ⟨SqL.of (e.lst h1), at_newT (G := G) (E := E) e h2 Q q⟩⟩
        | tup h1 h2 => cases q; exact fun Q q => ⟨_, _, rfl, .inr ⟨e.tup h1, q _ H0 H (.refl e) (.tup h1 h2)⟩⟩
        | scr h1 h2 => cases q; exact fun Q q => ⟨_, _, rfl, .inl ⟨e.seq h1, at_newT (G := G) (E := E) e h2 Q q⟩⟩
        | ob _ => cases q
def P.listN (x : Op) : R (List D) := match asSq x with
  | some ds => .ok ds
  | none => .bad
def dListN (f : DSt → R Op) : DSt → R (List D) := fun δ => (f δ).bind P.listN
theorem dn_list {f} (hg : Gl X "list") (hm : X.mg "list" = none) (hv : bootBuiltins "list" = some (.type "list")) (ha : DO G E X e f) (he : starEach [e] X.env = (false, eval e X.env) :: starEach [] X.env := by rfl) (hpl : (backTo pos (starEach [] X.env)).any (·.1) = false := by rfl) :
    DN G E X (.Call (.Name "list" p) [e] [] pos) (dListN f) := by
  obtain ⟨t, h1, h2⟩ := ha
  refine ⟨_, pe_callTy call_list_of hg hm hv (pa_cons h1 pa_nil he) (by decide) (by decide) he hpl, ev_cb1 mN h2 fun x v Hs H0 H e rx => ?_⟩
  unfold P.listN
  cases q : asSq x with
  | none => exact True.intro
  | some ds =>
    obtain ⟨a, vs, rfl, hq, r⟩ := as_sq e rx q
    exact fun Q q => ⟨_, _, rfl, hq, at_newN (G := G) (E := E) e r Q q⟩
end
end Dn

namespace Dn
open PySem PySem.Spec PyProof.Rows L2

/-! ### what is walked -/
structure Wk (K : PySem.W.Frag) (J : It) (ds : List D) (H0 : Hp) (Kp : Hp → Prop) : Prop where
  go : ∀ (i : Nat) (d : D) H', Kp H' → ds[i]? = some d → J.go i H'
  yld : ∀ (i : Nat) (d : D) H0' H' x H3, Kp H' → Same H0 H0' → Fz H0' H' → ds[i]? = some d → J.yld i H' x H3 → ∃ H03, Up H0' H' H03 H3 ∧ Rp K H03 x d
  stop : ∀ H', Kp H' → J.stop ds.length H'
/-- m: whether the walk goes on under the stores of a loop's body -/
def rI (K : PySem.W.Frag) (m : Bool) : Rel It (List D) := fun _ H0 H J ds => ∃ Kp : Hp → Prop, Wk K J ds H0 Kp ∧ ∀ H'', Fz H0 H'' → (m = false → Same H H'') → Kp H''
theorem mI {K m} : Rel.M (rI K m) := fun _ _ _ _ _ _ _ h => h
def DI (G : Str → Addr) (E : XK) (X : Cx) (m : Bool) (tg it : Expr) (f : DSt → R (List D)) : Prop := ∃ w, PI X tg it w ∧ Ev X.K G E (rI X.K m) w f

theorem wk_list {K : PySem.W.Frag} {a : Addr} {vs : List V} {ds : List D} {H0 : Hp} {Kp : Hp → Prop} (r : RpAll K H0 vs ds) (k : ∀ H', Kp H' → SqL K H' a vs) : Wk K (Itl K a) ds H0 Kp where
  go := fun i d H' kp hd => by
    obtain ⟨v, hv, _⟩ := r.get hd
    exact ⟨vs, v, k H' kp, hv⟩
  yld := fun i d H0' H' x H3 kp e1 e2 hd hy => by
    obtain ⟨v, hv, rv⟩ := r.get hd
    obtain ⟨rfl, h⟩ := hy
    have z := (h vs (k _ kp)).symm.trans hv
    cases z
    exact ⟨H0', .refl e2, rv.mono e1⟩
  stop := fun H' kp => ⟨vs, k H' kp, by rw [r.length]; exact Nat.le_refl _⟩
theorem wk_tup {K : PySem.W.Frag} {a : Addr} {vs : List V} {ds : List D} {H0 : Hp} {Kp : Hp → Prop} (r : RpAll K H0 vs ds) (k : ∀ H', Kp H' → SqT K H' a vs) : Wk K (Itt K a) ds H0 Kp where
  go := fun i d H' kp hd => by
    obtain ⟨v, hv, _⟩ := r.get hd
    exact ⟨vs, v, k H' kp, hv⟩
  yld := fun i d H0' H' x H3 kp e1 e2 hd hy => by
    obtain ⟨v, hv, rv⟩ := r.get hd
    obtain ⟨rfl, h⟩ := hy
    have z := (h vs (k _ kp)).symm.trans hv
    cases z
    exact ⟨H0', .refl e2, rv.mono e1⟩
  stop := fun H' kp => ⟨vs, k H' kp, by rw [r.length]; exact Nat.le_refl _⟩
def signs (z : Str) : List D := z.cps.toList.map fun c => .str ⟨#[c]⟩
theorem wk_str {K : PySem.W.Frag} {z : Str} {H0 : Hp} {Kp : Hp → Prop} : Wk K (Its z) (signs z) H0 Kp where
  go := fun i d H' kp hd => by
    have h := (List.getElem?_eq_some_iff.mp hd).1
    show i < z.cps.size
    simpa [signs] using h
  yld := fun i d H0' H' x H3 kp e1 e2 hd hy => by
    obtain ⟨rfl, c, hc, rfl⟩ := hy
    have : (signs z)[i]? = some (.str ⟨#[c]⟩) := by
      unfold signs
      rw [List.getElem?_map, Array.getElem?_toList, hc]
      rfl
    rw [this] at hd
    cases hd
    exact ⟨H0', .refl e2, .str _⟩
  stop := fun H' kp => by
    show z.cps.size ≤ (signs z).length
    simp [signs]
def rngD (lo : Int) (n : Nat) : List D := (List.range n).map fun i => .int (lo + (i : Nat))
theorem rngD_get {lo : Int} {n i : Nat} (h : i < n) : (rngD lo n)[i]? = some (.int (lo + (i : Nat))) := by
  unfold rngD
  rw [List.getElem?_map, List.getElem?_range h]
  rfl
theorem rngD_len {lo : Int} {n : Nat} : (rngD lo n).length = n := by simp [rngD]
theorem wk_range {K : PySem.W.Frag} {lo : Int} {n : Nat} {H0 : Hp} {Kp : Hp → Prop} : Wk K (Itr lo n) (rngD lo n) H0 Kp where
  go := fun i d H' kp hd => by
    have h := (List.getElem?_eq_some_iff.mp hd).1
    rw [rngD_len] at h
    exact h
  yld := fun i d H0' H' x H3 kp e1 e2 hd hy => by
    obtain ⟨rfl, rfl⟩ := hy
    have h := (List.getElem?_eq_some_iff.mp hd).1
    rw [rngD_len] at h
    rw [rngD_get h] at hd
    cases hd
    exact ⟨H0', .refl e2, .int _⟩
  stop := fun H' kp => by rw [rngD_len]; exact Nat.le_refl _
def pairs (xs ys : List D) : List D := (xs.zip ys).map fun p => .tuple [p.1, p.2]
theorem pairs_get {xs ys : List D} {i : Nat} {d : D} (h : (pairs xs ys)[i]? = some d) : ∃ x y, xs[i]? = some x ∧ ys[i]? = some y ∧ d = .tuple [x, y] := by
  unfold pairs at h
  rw [List.getElem?_map] at h
  cases q : (xs.zip ys)[i]? with
  | none => rw [q] at h; cases h
  | some p =>
    rw [q] at h
    cases h
    rw [List.getElem?_zip_eq_some] at q
    exact ⟨_, _, q.1, q.2, rfl⟩
theorem pairs_len {xs ys : List D} : (pairs xs ys).length = min xs.length ys.length := by simp [pairs]
theorem wk_zipL {K : PySem.W.Frag} {a b : Addr} {vs ws : List V} {ds es : List D} {H0 : Hp} {Kp : Hp → Prop} (r : RpAll K H0 vs ds) (r' : RpAll K H0 ws es) (k : ∀ H', Kp H' → SqL K H' a vs ∧ SqL K H' b ws) : Wk K (Itz K a b) (pairs ds es) H0 Kp where
  go := fun i d H' kp hd => by
    obtain ⟨x, y, hx, hy, rfl⟩ := pairs_get hd
    obtain ⟨v, hv, _⟩ := r.get hx
    obtain ⟨w, hw, _⟩ := r'.get hy
    exact ⟨vs, ws, v, w, (k H' kp).1, (k H' kp).2, hv, hw⟩
  yld := fun i d H0' H' x H3 kp e1 e2 hd hy => by
    obtain ⟨x, y, hx, hy', rfl⟩ := pairs_get hd
    obtain ⟨v, hv, rv⟩ := r.get hx
    obtain ⟨w, hw, rw'⟩ := r'.get hy'
    obtain ⟨T, v', w', rfl, hT, rfl, f1, f2⟩ := hy
    have z1 := (f1 vs (k _ kp).1).symm.trans hv
    have z2 := (f2 ws (k _ kp).2).symm.trans hw
    cases z1; cases z2
    refine ⟨_, Up.new (o := .tup [v, w]) e2 hT, .tup (SqT.of upd_same) (.cons ?_ (.cons ?_ .nil))⟩
    · exact (rv.mono e1).mono (Same.upd (e2.free hT))
    · exact (rw'.mono e1).mono (Same.upd (e2.free hT))
  stop := fun H' kp => ⟨vs, ws, (k H' kp).1, (k H' kp).2, by
    rw [pairs_len, r.length, r'.length]
    omega⟩
theorem wk_zipT {K : PySem.W.Frag} {a b : Addr} {vs ws : List V} {ds es : List D} {H0 : Hp} {Kp : Hp → Prop} (r : RpAll K H0 vs ds) (r' : RpAll K H0 ws es) (k : ∀ H', Kp H' → SqT K H' a vs ∧ SqT K H' b ws) : Wk K (RZ.ItzT K a b) (pairs ds es) H0 Kp where
  go := fun i d H' kp hd => by
    obtain ⟨x, y, hx, hy, rfl⟩ := pairs_get hd
    obtain ⟨v, hv, _⟩ := r.get hx
    obtain ⟨w, hw, _⟩ := r'.get hy
    exact ⟨vs, ws, v, w, (k H' kp).1, (k H' kp).2, hv, hw⟩
  yld := fun i d H0' H' x H3 kp e1 e2 hd hy => by
    obtain ⟨x, y, hx, hy', rfl⟩ := pairs_get hd
    obtain ⟨v, hv, rv⟩ := r.get hx
    obtain ⟨w, hw, rw'⟩ := r'.get hy'
    obtain ⟨T, v', w', rfl, hT, rfl, f1, f2⟩ := hy
    have z1 := (f1 vs (k _ kp).1).symm.trans hv
    have z2 := (f2 ws (k _ kp).2).symm.trans hw
    cases z1; cases z2
    refine ⟨_, Up.new (o := .tup [v, w]) e2 hT, .tup (SqT.of upd_same) (.cons ?_ (.cons ?_ .nil))⟩
    · exact (rv.mono e1).mono (Same.upd (e2.free hT))
    · exact (rw'.mono e1).mono (Same.upd (e2.free hT))
  stop := fun H' kp => ⟨vs, ws, (k H' kp).1, (k H' kp).2, by
    rw [pairs_len, r.length, r'.length]
    omega⟩

section
variable {G : Str → Addr} {E : XK} {X : Cx} {pos p p2 : Pos} {a b e tg : Expr} {es : List Expr} {m : Bool}
/-- a list, a tuple or a text -/
def iAny (K : PySem.W.Frag) (tl : TE) : TI := fun σ H R => tl σ H fun x H1 => (∃ a, x = .ref a ∧ (∃ xs, SqL K H1 a xs) ∧ R (Itl K a) H1) ∨ (∃ a, x = .ref a ∧ (∃ xs, SqT K H1 a xs) ∧ R (Itt K a) H1) ∨ ∃ z, x = .str z ∧ R (Its z) H1
theorem pi_any {l : Expr} {tl : TE} (hl : PE X l tl) : PI X tg l (iAny X.K tl) := by
  refine ⟨fun pins s σ H R I h => ?_⟩
  refine thn (hl.run pins s σ H _ I h) fun v s1 ⟨x, H1, I1, r1, q1⟩ => ?_
  rcases q1 with ⟨a, e, ⟨xs, hq⟩, q⟩ | ⟨a, e, ⟨xs, hq⟩, q⟩ | ⟨x, e, q⟩
  · subst e
    cases r1
    obtain ⟨its, rv, p, hz⟩ := I1.list hq
    refine wpAny_pyIter_list p.isList ?_
    refine ⟨s1.heap.objs.size, [s1.heap.objs.size], _, _, H1, rfl, I1.kept (t' := s1.toks) fun b o e => Heap.get?_push_of_some _ e, turn_list a _, ⟨_, Heap.get?_push_size _ rfl, rfl, rfl⟩, fun b hb => ?_, q⟩
    have e : b = s1.heap.objs.size := by simpa using hb
    subst e
    exact I1.fpOk (Nat.le_refl _) (I1.hok.fresh (Nat.le_refl _))
  · subst e
    cases r1
    obtain ⟨its, rv, p, hz⟩ := I1.tuple hq
    refine wpAny_pyIter_tuple (show s1.heap.IsTuple a its.toArray from p) ?_
    refine ⟨s1.heap.objs.size, [s1.heap.objs.size], _, _, H1, rfl, I1.kept (t' := s1.toks) fun b o e => Heap.get?_push_of_some _ e, turn_tuple a _, ⟨_, Heap.get?_push_size _ rfl, rfl, rfl⟩, fun b hb => ?_, q⟩
    have e : b = s1.heap.objs.size := by simpa using hb
    subst e
    exact I1.fpOk (Nat.le_refl _) (I1.hok.fresh (Nat.le_refl _))
  · subst e
    obtain ⟨t, rfl⟩ := r1
    cases ha : x.cps.all (· < 128)
    · exact wpAny_pyIter_wide ha (pi_one (tk := s1.toks) I1 _ (turn_str _ x t "str_iterator" (.inr rfl)) ⟨_, Heap.get?_push_size _ rfl, rfl, rfl⟩ q)
    · exact wpAny_pyIter_ascii ha (pi_one (tk := s1.toks) I1 _ (turn_str _ x t "str_ascii_iterator" (.inl rfl)) ⟨_, Heap.get?_push_size _ rfl, rfl, rfl⟩ q)
def P.items : D → R (List D)
  | .list ds => .ok ds
  | .tuple ds => .ok ds
  | .dict [(.none, .list ds)] => .ok ds
  | .str z => .ok (signs z)
  | _ => .bad
def dItems (f : DSt → R D) : DSt → R (List D) := fun δ => (f δ).bind P.items
theorem di_any {f} (h : De G E X e f) : DI G E X m tg e (dItems f) := by
  obtain ⟨t, h1, h2⟩ := h
  refine ⟨_, pi_any h1, fun B δ σ H0 H s => at_bind (t := t σ H) (k := fun x H1 R => (∃ a, x = .ref a ∧ (∃ xs, SqL X.K H1 a xs) ∧ R (Itl X.K a) H1) ∨ (∃ a, x = .ref a ∧ (∃ xs, SqT X.K H1 a xs) ∧ R (Itt X.K a) H1) ∨ ∃ z, x = .str z ∧ R (Its z) H1) mI (h2 B δ σ H0 H s) fun x v H1 H1' w rx => ?_⟩
  have rx : Rp X.K H1 v x := rx
  have e := w.b
  cases rx with
  | non => exact True.intro
  | bl _ => exact True.intro
  | int _ => exact True.intro
  | str z => exact fun Q q => .inr (.inr ⟨z, rfl, q _ H1 H1' (.refl e) ⟨fun _ => True, wk_str, fun _ _ _ => True.intro⟩⟩)
  | lst h r => exact fun Q q => .inl ⟨_, rfl, ⟨_, SqL.of (e.lst h)⟩, q _ H1 H1' (.refl e) ⟨fun H' => SqL X.K H' _ _, wk_list r fun _ k => k, fun H'' e2 _ => SqL.of (e2.lst h)⟩⟩
  | tup h r => exact fun Q q => .inr (.inl ⟨_, rfl, ⟨_, e.tup h⟩, q _ H1 H1' (.refl e) ⟨fun H' => SqT X.K H' _ _, wk_tup r fun _ k => k, fun H'' e2 _ => e2.tup h⟩⟩)
  | scr h r => exact fun Q q => .inl ⟨_, rfl, ⟨_, e.seq h⟩, q _ H1 H1' (.refl e) ⟨fun H' => SqL X.K H' _ _, wk_list r fun _ k => k, fun H'' e2 _ => e2.seq h⟩⟩
  | ob _ => exact True.intro
/-- a list that the def owns, walked in a comprehension -/
def P.itemsO : Op → R (List D)
  | .o ds => .ok ds
  | .d x => P.items x
def dItemsO (f : DSt → R Op) : DSt → R (List D) := fun δ => (f δ).bind P.itemsO
theorem di_own {f} (h : DO G E X e f) : DI G E X false tg e (dItemsO f) := by
  obtain ⟨t, h1, h2⟩ := h
  refine ⟨_, pi_any h1, fun B δ σ H0 H s => at_bind (t := t σ H) (k := fun x H1 R => (∃ a, x = .ref a ∧ (∃ xs, SqL X.K H1 a xs) ∧ R (Itl X.K a) H1) ∨ (∃ a, x = .ref a ∧ (∃ xs, SqT X.K H1 a xs) ∧ R (Itt X.K a) H1) ∨ ∃ z, x = .str z ∧ R (Its z) H1) mI (h2 B δ σ H0 H s) fun x v H1 H1' w rx => ?_⟩
  have e := w.b
  cases x with
  | o ds =>
    obtain ⟨a, vs, rfl, h, r⟩ := rx
    exact fun Q q => .inl ⟨_, rfl, ⟨_, SqL.of h⟩, q _ H1 H1' (.refl e) ⟨fun H' => SqL X.K H' _ _, wk_list r fun _ k => k, fun H'' _ e2 => SqL.of (e2 rfl _ _ h)⟩⟩
  | d x =>
    have rx : Rp X.K H1 v x := rx
    cases rx with
    | non => exact True.intro
    | bl _ => exact True.intro
    | int _ => exact True.intro
    | str z => exact fun Q q => .inr (.inr ⟨z, rfl, q _ H1 H1' (.refl e) ⟨fun _ => True, wk_str, fun _ _ _ => True.intro⟩⟩)
    | lst h r => exact fun Q q => .inl ⟨_, rfl, ⟨_, SqL.of (e.lst h)⟩, q _ H1 H1' (.refl e) ⟨fun H' => SqL X.K H' _ _, wk_list r fun _ k => k, fun H'' e2 _ => SqL.of (e2.lst h)⟩⟩
    | tup h r => exact fun Q q => .inr (.inl ⟨_, rfl, ⟨_, e.tup h⟩, q _ H1 H1' (.refl e) ⟨fun H' => SqT X.K H' _ _, wk_tup r fun _ k => k, fun H'' e2 _ => e2.tup h⟩⟩)
    | scr h r => exact fun Q q => .inl ⟨_, rfl, ⟨_, e.seq h⟩, q _ H1 H1' (.refl e) ⟨fun H' => SqL X.K H' _ _, wk_list r fun _ k => k, fun H'' e2 _ => e2.seq h⟩⟩
    | ob _ => exact True.intro
/-- range -/
def P.range1 : List D → R (List D)
  | [.int n] => if n.natAbs ≤ LIM then .ok (rngD 0 n.toNat) else .bad
  | _ => .bad
def P.range2 : List D → R (List D)
  | [.int a, .int b] => if a.natAbs ≤ LIM ∧ b.natAbs ≤ LIM then .ok (rngD a (b - a).toNat) else .bad
  | _ => .bad
def dRng (p : List D → R (List D)) (f : DSt → R (List D)) : DSt → R (List D) := fun δ => (f δ).bind p
theorem di_range1 {f} (hg : Gl X "range") (hm : X.mg "range" = none) (h : Da G E X [a] f) (hs : starEach [a] X.env = [(false, eval a X.env)] := by rfl) : DI G E X m tg (.Call (.Name "range" p) [a] [] pos) (dRng P.range1 f) := by
  obtain ⟨t, h1, h2⟩ := h
  refine ⟨_, pi_range1 hg hm h1 hs, fun B δ σ H0 H s => at_bind (t := t σ H) (k := fun vs H1 R => ∃ j : Int, vs = [.int j] ∧ -(2 ^ 62) ≤ j ∧ j < 2 ^ 62 ∧ R (Itr 0 j.toNat) H1) mI (h2 B δ σ H0 H s) fun x v H1 H1' w rx => ?_⟩
  unfold P.range1
  split
  · split
    · rename_i n hl
      cases rx with
      | cons r1 r2 =>
        cases r2; cases r1
        exact fun Q q => ⟨_, rfl, by unfold LIM at hl; omega, by unfold LIM at hl; omega, q _ H1 H1' (.refl w.b) ⟨fun _ => True, wk_range, fun _ _ _ => True.intro⟩⟩
    · exact True.intro
  · exact True.intro
theorem di_range2 {f} (hg : Gl X "range") (hm : X.mg "range" = none) (h : Da G E X [a, b] f) (hs : starEach [a, b] X.env = [(false, eval a X.env), (false, eval b X.env)] := by rfl) (hs2 : starEach [b] X.env = [(false, eval b X.env)] := by rfl) :
    DI G E X m tg (.Call (.Name "range" p) [a, b] [] pos) (dRng P.range2 f) := by
  obtain ⟨t, h1, h2⟩ := h
  refine ⟨_, pi_range2 hg hm h1 hs hs2, fun B δ σ H0 H s => at_bind (t := t σ H) (k := fun vs H1 R => ∃ i j : Int, vs = [.int i, .int j] ∧ (-(2 ^ 62) ≤ i ∧ i < 2 ^ 62 ∧ -(2 ^ 62) ≤ j ∧ j < 2 ^ 62) ∧ R (Itr i (j - i).toNat) H1) mI (h2 B δ σ H0 H s) fun x v H1 H1' w rx => ?_⟩
  unfold P.range2
  split
  · split
    · rename_i n k hl
      cases rx with
      | cons r1 r2 =>
        cases r2 with
        | cons r3 r4 =>
          cases r4; cases r1; cases r3
          exact fun Q q => ⟨_, _, rfl, by unfold LIM at hl; omega, q _ H1 H1' (.refl w.b) ⟨fun _ => True, wk_range, fun _ _ _ => True.intro⟩⟩
    · exact True.intro
  · exact True.intro
/-- zip of two lists, of two tuples -/
def P.zip : List D → R (List D)
  | [.list xs, .list ys] => .ok (pairs xs ys)
  | [.tuple xs, .tuple ys] => .ok (pairs xs ys)
  | _ => .bad
theorem di_zip {f} {elts : List Expr} {kk : Nat} {tpos : Pos} (hg : Gl X "zip") (hm : X.mg "zip" = none) (h : Da G E X [a, b] f) (hs : starEach [a, b] X.env = (false, eval a X.env) :: starEach [b] X.env := by rfl) (hpl : (backTo pos (starEach [b] X.env)).any (·.1) = false := by rfl) :
    DI G E X m (.Tuple elts kk tpos) (.Call (.Name "zip" p) [a, b] [] pos) (dRng P.zip f) := by
  obtain ⟨t, h1, h2⟩ := h
  refine ⟨_, RZ.pi_zipA hg hm h1 hs hpl, fun B δ σ H0 H s => at_bind (t := t σ H) (k := fun vs H1 R => ∃ a b xs ys, vs = [.ref a, .ref b] ∧ ((SqL X.K H1 a xs ∧ SqL X.K H1 b ys ∧ R (Itz X.K a b) H1) ∨ (SqT X.K H1 a xs ∧ SqT X.K H1 b ys ∧ R (RZ.ItzT X.K a b) H1))) mI (h2 B δ σ H0 H s) fun x v H1 H1' w rx => ?_⟩
  have e := w.b
  unfold P.zip
  split
  · cases rx with
    | cons r1 r2 =>
      cases r2 with
      | cons r3 r4 =>
        cases r4
        cases r1 with
        | lst g1 q1 =>
          cases r3 with
          | lst g2 q2 =>
            exact fun Q q => ⟨_, _, _, _, rfl, .inl ⟨SqL.of (e.lst g1), SqL.of (e.lst g2), q _ H1 H1' (.refl e) ⟨fun H' => SqL X.K H' _ _ ∧ SqL X.K H' _ _, wk_zipL q1 q2 fun _ k => k, fun H'' e2 _ => ⟨SqL.of (e2.lst g1), SqL.of (e2.lst g2)⟩⟩⟩⟩
  · cases rx with
    | cons r1 r2 =>
      cases r2 with
      | cons r3 r4 =>
        cases r4
        cases r1 with
        | tup g1 q1 =>
          cases r3 with
          | tup g2 q2 =>
            exact fun Q q => ⟨_, _, _, _, rfl, .inr ⟨e.tup g1, e.tup g2, q _ H1 H1' (.refl e) ⟨fun H' => SqT X.K H' _ _ ∧ SqT X.K H' _ _, wk_zipT q1 q2 fun _ k => k, fun H'' e2 _ => ⟨e2.tup g1, e2.tup g2⟩⟩⟩⟩
  · exact True.intro
end

/-! ### slots stored, forgotten -/
theorem Sl.set {K : PySem.W.Frag} {B H0 H : Hp} {σ : L2.St} {δ : DSt} {i : Nat} {v : V} {d : D} (s : Sl K B H0 H σ δ) (r : Rp K H0 v d) : Sl K B H0 H (σ.set i (some v)) (δ.set i (.dat d)) := by
  have key : ∀ (j : Nat) (w : SV), (δ.set i (.dat d))[j]? = some w → (j = i ∧ w = .dat d ∧ i < δ.length) ∨ (j ≠ i ∧ δ[j]? = some w) := fun j w h => by
    by_cases hj : j = i
    · subst hj
      by_cases hl : j < δ.length
      · rw [List.getElem?_set_self hl] at h
        exact .inl ⟨rfl, (Option.some.inj h).symm, hl⟩
      · rw [List.getElem?_eq_none (by simpa using hl)] at h
        cases h
    · rw [List.getElem?_set_ne (Ne.symm hj)] at h
      exact .inr ⟨hj, h⟩
  refine ⟨s.base, s.ex, by simp [s.len], fun j e h => ?_, fun j ds h => ?_, fun j k ds es p hjk h1 h2 h3 => ?_⟩
  · rcases key j _ h with ⟨rfl, e1, hl⟩ | ⟨hj, h⟩
    · cases e1
      exact ⟨v, List.getElem?_set_self (by rw [s.len]; exact hl), r⟩
    · obtain ⟨w, e1, r1⟩ := s.dat j e h
      exact ⟨w, by rw [List.getElem?_set_ne (Ne.symm hj)]; exact e1, r1⟩
  · rcases key j _ h with ⟨rfl, e1, hl⟩ | ⟨hj, h⟩
    · cases e1
    · obtain ⟨p, vs, e1, r1⟩ := s.own j ds h
      exact ⟨p, vs, by rw [List.getElem?_set_ne (Ne.symm hj)]; exact e1, r1⟩
  · rcases key j _ h1 with ⟨rfl, e1, hl⟩ | ⟨hj, h1⟩
    · cases e1
    · rcases key k _ h2 with ⟨rfl, e1, hl⟩ | ⟨hk, h2⟩
      · cases e1
      · rw [List.getElem?_set_ne (Ne.symm hj)] at h3
        rw [List.getElem?_set_ne (Ne.symm hk)]
        exact s.sep j k ds es p hjk h1 h2 h3
/-- a new list, owned from here on -/
theorem Sl.setN {K : PySem.W.Frag} {B H0 H : Hp} {σ : L2.St} {δ : DSt} {i : Nat} {p : Addr} {vs : List V} {ds : List D} (s : Sl K B H0 H σ δ) (h0 : H0 p = none) (hb : B p = none) (hp : H p = some (.lst vs)) (r : RpAll K H0 vs ds)
    (new : ∀ (j : Nat) (es : List D), δ[j]? = some (SV.own es) → σ[j]? ≠ some (some (V.ref p))) : Sl K B H0 H (σ.set i (some (.ref p))) (δ.set i (.own ds)) := by
  have key : ∀ (j : Nat) (w : SV), (δ.set i (.own ds))[j]? = some w → (j = i ∧ w = .own ds ∧ i < δ.length) ∨ (j ≠ i ∧ δ[j]? = some w) := fun j w h => by
    by_cases hj : j = i
    · subst hj
      by_cases hl : j < δ.length
      · rw [List.getElem?_set_self hl] at h
        exact .inl ⟨rfl, (Option.some.inj h).symm, hl⟩
      · rw [List.getElem?_eq_none (by simpa using hl)] at h
        cases h
    · rw [List.getElem?_set_ne (Ne.symm hj)] at h
      exact .inr ⟨hj, h⟩
  refine ⟨s.base, s.ex, by simp [s.len], fun j e h => ?_, fun j es h => ?_, fun j k d1 d2 q hjk h1 h2 h3 => ?_⟩
  rotate_right
  have h1' := h1
  rotate_left
  · rcases key j _ h with ⟨rfl, e1, hl⟩ | ⟨hj, h⟩
    · cases e1
    · obtain ⟨w, e1, r1⟩ := s.dat j e h
      exact ⟨w, by rw [List.getElem?_set_ne (Ne.symm hj)]; exact e1, r1⟩
  · rcases key j _ h with ⟨rfl, e1, hl⟩ | ⟨hj, h⟩
    · cases e1
      exact ⟨p, vs, List.getElem?_set_self (by rw [s.len]; exact hl), h0, hb, hp, r⟩
    · obtain ⟨q, ws, e1, r1⟩ := s.own j es h
      exact ⟨q, ws, by rw [List.getElem?_set_ne (Ne.symm hj)]; exact e1, r1⟩
  · rcases key j _ h1 with ⟨rfl, e1, hl⟩ | ⟨hj, h1⟩
    · rcases key k _ h2 with ⟨rfl, e2, hl2⟩ | ⟨hk, h2⟩
      · exact absurd rfl hjk
      · rw [List.getElem?_set_self (by rw [s.len]; exact hl)] at h3
        cases h3
        rw [List.getElem?_set_ne (Ne.symm hk)]
        exact new k _ h2
    · rcases key k _ h2 with ⟨rfl, e1, hl⟩ | ⟨hk, h2⟩
      · rw [List.getElem?_set_ne (Ne.symm hj)] at h3
        rw [List.getElem?_set_self (by rw [s.len]; exact hl)]
        intro z
        cases z
        exact new j d1 ((key j _ h1').elim (fun w => absurd w.1 hj) fun w => w.2) h3
      · rw [List.getElem?_set_ne (Ne.symm hj)] at h3
        rw [List.getElem?_set_ne (Ne.symm hk)]
        exact s.sep j k d1 d2 q hjk h1 h2 h3
theorem dat_no {d : D} : SV.dat d ≠ .no := by intro z; cases z
theorem own_no {d : List D} : SV.own d ≠ .no := by intro z; cases z
/-- slots forgotten: in the data, or also in the frame -/
def fgt (δ : DSt) : List Nat → DSt
  | [] => δ
  | v :: vs => (fgt δ vs).set v .no
theorem fgt_some {δ : DSt} {i : Nat} {w : SV} (hw : w ≠ .no) : ∀ {vs : List Nat}, (fgt δ vs)[i]? = some w → δ[i]? = some w ∧ i ∉ vs
  | [], h => ⟨h, by simp⟩
  | v :: vs, h => by
    unfold fgt at h
    by_cases hi : v = i
    · subst hi
      by_cases hv : v < (fgt δ vs).length
      · rw [List.getElem?_set_self hv] at h
        exact absurd (Option.some.inj h).symm hw
      · rw [List.getElem?_eq_none (by simpa using hv)] at h; cases h
    · rw [List.getElem?_set_ne hi] at h
      obtain ⟨h1, h2⟩ := fgt_some hw h
      exact ⟨h1, by simp only [List.mem_cons, not_or]; exact ⟨fun e => hi e.symm, h2⟩⟩
theorem fgt_len (δ : DSt) : ∀ vs : List Nat, (fgt δ vs).length = δ.length
  | [] => rfl
  | v :: vs => by unfold fgt; rw [List.length_set, fgt_len δ vs]
theorem wipe_out' {σ : L2.St} {i : Nat} : ∀ {vs : List Nat}, i ∉ vs → (wipe σ vs)[i]? = σ[i]?
  | [], _ => rfl
  | v :: vs, h => by
    simp only [List.mem_cons, not_or] at h
    unfold wipe
    rw [List.getElem?_set_ne (Ne.symm h.1), wipe_out' h.2]
theorem Sl.fgt {K : PySem.W.Frag} {B H0 H : Hp} {σ : L2.St} {δ : DSt} (s : Sl K B H0 H σ δ) (vs : List Nat) : Sl K B H0 H σ (fgt δ vs) := by
  refine ⟨s.base, s.ex, by rw [fgt_len]; exact s.len, fun i d h => ?_, fun i ds h => ?_, fun i j ds es p hij h1 h2 => ?_⟩
  · exact s.dat i d (fgt_some dat_no h).1
  · exact s.own i ds (fgt_some own_no h).1
  · exact s.sep i j ds es p hij (fgt_some own_no h1).1 (fgt_some own_no h2).1
theorem Sl.wipe {K : PySem.W.Frag} {B H0 H : Hp} {σ : L2.St} {δ : DSt} (s : Sl K B H0 H σ δ) (vs : List Nat) : Sl K B H0 H (wipe σ vs) (Dn.fgt δ vs) := by
  refine ⟨s.base, s.ex, by rw [fgt_len, wipe_length]; exact s.len, fun i d h => ?_, fun i ds h => ?_, fun i j ds es p hij h1 h2 h3 => ?_⟩
  · obtain ⟨a, b⟩ := fgt_some dat_no h
    obtain ⟨v, e, r⟩ := s.dat i d a
    exact ⟨v, by rw [wipe_out' b]; exact e, r⟩
  · obtain ⟨a, b⟩ := fgt_some own_no h
    obtain ⟨p, ws, e, r⟩ := s.own i ds a
    exact ⟨p, ws, by rw [wipe_out' b]; exact e, r⟩
  · obtain ⟨a, b⟩ := fgt_some own_no h1
    obtain ⟨c, d⟩ := fgt_some own_no h2
    rw [wipe_out' b] at h3
    rw [wipe_out' d]
    exact s.sep i j ds es p hij a c h3
theorem wipe_set {σ : L2.St} {i : Nat} {x : Option V} : ∀ {vs : List Nat}, i ∈ vs → L2.wipe (σ.set i x) vs = L2.wipe σ vs
  | [], h => by simp at h
  | v :: vs, h => by
    unfold L2.wipe
    by_cases hi : i ∈ vs
    · rw [wipe_set hi]
    · have e : i = v := by
        rcases List.mem_cons.mp h with e | e
        · exact e
        · exact absurd e hi
      subst e
      have q : ∀ (ws : List Nat), i ∉ ws → (L2.wipe (σ.set i x) ws) = (L2.wipe σ ws).set i x := fun ws => by
        induction ws with
        | nil => intro _; rfl
        | cons w ws ih =>
          intro hw
          simp only [List.mem_cons, not_or] at hw
          unfold L2.wipe
          rw [ih hw.2, List.set_comm _ _ hw.1]
      rw [q vs hi, List.set_set]
theorem wipe_wipe {σ : L2.St} : ∀ {vs ws : List Nat}, (∀ i ∈ vs, i ∈ ws) → L2.wipe (L2.wipe σ vs) ws = L2.wipe σ ws
  | [], _, _ => rfl
  | v :: vs, ws, h => by
    show L2.wipe ((L2.wipe σ vs).set v none) ws = L2.wipe σ ws
    rw [wipe_set (h v (by simp)), wipe_wipe fun i hi => h i (by simp [hi])]

/-! ### targets -/
abbrev TGd := D → DSt → Option DSt
def EvG (K : PySem.W.Frag) (vs : List Nat) (g : TG) (f : TGd) : Prop := ∀ B δ σ H0 H v d δ', Sl K B H0 H σ δ → Rp K H0 v d → f d δ = some δ' → ∀ Q : L2.St → Hp → Prop, (∀ σ', Sl K B H0 H σ' δ' → L2.wipe σ' vs = L2.wipe σ vs → Q σ' H) → g v σ H Q
def EvGs (K : PySem.W.Frag) (vs : List Nat) (g : TGs) (f : List D → DSt → Option DSt) : Prop := ∀ B δ σ H0 H ws ds δ', Sl K B H0 H σ δ → RpAll K H0 ws ds → f ds δ = some δ' → ∀ Q : L2.St → Hp → Prop, (∀ σ', Sl K B H0 H σ' δ' → L2.wipe σ' vs = L2.wipe σ vs → Q σ' H) → g ws σ H Q
def DG (X : Cx) (vs : List Nat) (tg : Expr) (f : TGd) : Prop := ∃ g, PG X tg g ∧ EvG X.K vs g f
def DGs (X : Cx) (vs : List Nat) (tgs : List Expr) (f : List D → DSt → Option DSt) : Prop := ∃ g, PGs X tgs g ∧ EvGs X.K vs g f
def gN (i : Nat) : TGd := fun d δ => some (δ.set i (.dat d))
def gsN : List D → DSt → Option DSt
  | [], δ => some δ
  | _ :: _, _ => none
def gsC (t : TGd) (u : List D → DSt → Option DSt) : List D → DSt → Option DSt
  | [], _ => none
  | d :: ds, δ => (t d δ).bind (u ds)
def gT (n : Nat) (u : List D → DSt → Option DSt) : TGd := fun d δ => match d with
  | .tuple ds => if ds.length = n then u ds δ else none
  | _ => none
section
variable {X : Cx} {pos : Pos} {vs : List Nat}
theorem dg_name (i : Nat) {x : Str} (hi' : i ∈ vs) (hN : X.N.Nodup) (hi : X.N[i]? = some x) (hx : Loc X.env.scope x) (hf : X.fn x = true ∨ X.env.scope.names.lookup x = some .local := by first | exact .inl rfl | exact .inr rfl | assumption) : DG X vs (.Name x pos) (gN i) :=
  ⟨_, pg_name hN hi hx hf, fun B δ σ H0 H v d δ' s r e Q q => by
    cases e
    exact q _ (s.set r) (wipe_set hi')⟩
theorem dgs_nil : DGs X vs [] gsN := ⟨_, pgs_nil, fun B δ σ H0 H ws ds δ' s r e Q q => by
  cases r with
  | nil => cases e; exact ⟨rfl, q _ s rfl⟩
  | cons _ _ => cases e⟩
theorem dgs_cons {e : Expr} {es : List Expr} {t : TGd} {u} (h : DG X vs e t) (k : DGs X vs es u) (hs : (assignEach (e :: es) X.env).map (·.2) = assign e X.env :: (assignEach es X.env).map (·.2) := by rfl) : DGs X vs (e :: es) (gsC t u) := by
  obtain ⟨g, h1, h2⟩ := h
  obtain ⟨g', k1, k2⟩ := k
  refine ⟨_, pgs_cons h1 k1 hs, fun B δ σ H0 H ws ds δ' s r e Q q => ?_⟩
  cases r with
  | nil => cases e
  | cons r1 r2 =>
    rename_i v vr d dr
    have e : (t d δ).bind (u dr) = some δ' := e
    cases ht : t d δ with
    | none => rw [ht] at e; cases e
    | some δ1 =>
      rw [ht] at e
      refine ⟨_, _, rfl, h2 B δ σ H0 H _ _ _ s r1 ht _ fun σ1 s1 w1 => k2 B δ1 σ1 H0 H _ _ _ s1 r2 e _ fun σ2 s2 w2 => q σ2 s2 (w2.trans w1)⟩
theorem dg_tup {es : List Expr} {k n : Nat} {u} (hc : X.calm = true) (h : DGs X vs es u) (hn : (assignEach es X.env).length = n := by rfl) (hst : (assignEach es X.env).findIdx? (·.1) = none := by rfl) : DG X vs (.Tuple es k pos) (gT n u) := by
  obtain ⟨g, h1, h2⟩ := h
  refine ⟨_, pg_tup hc h1 hn hst, fun B δ σ H0 H v d δ' s r e Q q => ?_⟩
  cases d with
  | tuple ds =>
    have e : (if ds.length = n then u ds δ else none) = some δ' := e
    by_cases hl : ds.length = n
    · rw [if_pos hl] at e
      cases r with
      | tup hq rr => exact ⟨_, _, rfl, s.ex.tup hq, by rw [rr.length]; exact hl, h2 B δ σ H0 H _ _ _ s rr e Q q⟩
    · rw [if_neg hl] at e
      cases e
  | _ => cases e
end

/-! ### list comprehensions -/
def lcGo (tg : TGd) (c : DSt → R Bool) (f : DSt → R D) (δ : DSt) : List D → R (List D)
  | [] => .ok []
  | x :: xs => match tg x δ with
    | none => .bad
    | some δ' => (c δ').bind fun b => if b then (f δ').bind fun y => (lcGo tg c f δ xs).bind fun ys => .ok (y :: ys) else lcGo tg c f δ xs
def dLc (src : DSt → R (List D)) (tg : TGd) (c : DSt → R Bool) (f : DSt → R D) (vs : List Nat) : DSt → R (List D) := fun δ => (src δ).bind fun ds => if ds.length ≤ LIM then lcGo tg c f (fgt δ vs) ds else .bad
def DTs (G : Str → Addr) (E : XK) (X : Cx) (ifs : List Expr) (f : DSt → R Bool) : Prop := ∃ t, PTs X ifs t ∧ Ev X.K G E rB t f
def dYes : DSt → R Bool := fun _ => .ok true
theorem lcGo_len {tg c f δ} : ∀ {ds ys}, lcGo tg c f δ ds = .ok ys → ys.length ≤ ds.length
  | [], ys, h => by cases h; exact Nat.le_refl _
  | x :: xs, ys, h => by
    unfold lcGo at h
    cases ht : tg x δ with
    | none => rw [ht] at h; cases h
    | some δ' =>
      rw [ht] at h
      simp only at h
      cases hc : c δ' with
      | bad => rw [hc] at h; cases h
      | er _ => rw [hc] at h; cases h
      | ok b =>
        rw [hc] at h
        cases b with
        | true =>
          simp only [R.bind_ok, if_true] at h
          cases hf : f δ' with
          | bad => rw [hf] at h; cases h
          | er _ => rw [hf] at h; cases h
          | ok y =>
            rw [hf] at h
            cases hr : lcGo tg c f δ xs with
            | bad => rw [hr] at h; cases h
            | er _ => rw [hr] at h; cases h
            | ok r =>
              rw [hr] at h
              cases h
              have := lcGo_len hr
              simp only [List.length_cons]
              omega
        | false =>
          simp only [R.bind_ok] at h
          have := lcGo_len (ds := xs) (ys := ys) (by simpa using h)
          simp only [List.length_cons]
          omega
theorem lcGo_cons {tg c f δ x xs} : lcGo tg c f δ (x :: xs) = (match tg x δ with
    | none => .bad
    | some δ' => (c δ').bind fun b => if b then (f δ').bind fun y => (lcGo tg c f δ xs).bind fun ys => .ok (y :: ys) else lcGo tg c f δ xs) := rfl
/-- what is left of the loop, what is made so far -/
def lcRest (tg : TGd) (c : DSt → R Bool) (f : DSt → R D) (δ : DSt) (ys ds : List D) : R (List D) := (lcGo tg c f δ ds).bind fun r => .ok (ys ++ r)
theorem ev_lc {K : PySem.W.Frag} {G : Str → Addr} {E : XK} {m : Bool} {wi : TI} {g : TG} {tt : TT} {te : TE} {vs : List Nat} {src tg c f} (hi : Ev K G E (rI K m) wi src) (hg : EvG K vs g tg) (ht : Ev K G E rB tt c) (he : Ev K G E (rV K) te f) :
    Ev K G E (rN K) (tLc wi g tt te vs) (dLc src tg c f vs) := by
  refine fun B δ σ H0 H s => at_bind (t := wi σ H) (k := fun J H1 Q => ∀ D, H1 D = none → ∃ W : Nat → Nat → Hp → Prop, (∃ m, W 0 m (upd H1 D (.lst []))) ∧ ∀ i m H, W i m H →
    (J.stop i H ∧ Q (.ref D) H) ∨ (J.go i H ∧ ∃ Nx : Hp → Prop, (∀ H', Nx H' → ∃ m', m' < m ∧ W (i + 1) m' H') ∧ ∀ x H', J.yld i H x H' → g x (L2.wipe σ vs) H' fun σ2 H2 => L2.wipe σ2 vs = L2.wipe σ vs ∧ tt σ2 H2 fun b H3 =>
      if b = true then te σ2 H3 fun y H4 => ∃ acc, H4 D = some (.lst acc) ∧ acc.length < sizeLine ∧ Nx (upd H4 D (.lst (acc ++ [y]))) else Nx H3)) mN (hi B δ σ H0 H s) fun ds J H1 H1' u1 ⟨Kp, W, keep⟩ => ?_
  have s1 : Sl K B H1 H1' (L2.wipe σ vs) (Dn.fgt δ vs) := (s.up u1).wipe vs
  split
  · rename_i hlim
    generalize hδ : Dn.fgt δ vs = δw at s1
    -- the turns, for any end
    have turns : ∀ (Q : V → Hp → Prop) (Dl : Addr), H1' Dl = none → lcGo tg c f δw ds ≠ .bad →
        (∀ ys, lcGo tg c f δw ds = .ok ys → ∀ H0' H' acc, Up H1 H1' H0' H' → H0' Dl = none → H' Dl = some (.lst acc) → RpAll K H0' acc ys → Q (.ref Dl) H') →
        (∀ x, lcGo tg c f δw ds = .er x → ∀ cc dd H0' H', Up H1 H1' H0' H' → XR K G H0' H' cc dd x → E cc dd H') →
        ∃ W : Nat → Nat → Hp → Prop, (∃ m, W 0 m (upd H1' Dl (.lst []))) ∧ ∀ i m H, W i m H →
          (J.stop i H ∧ Q (.ref Dl) H) ∨ (J.go i H ∧ ∃ Nx : Hp → Prop, (∀ H', Nx H' → ∃ m', m' < m ∧ W (i + 1) m' H') ∧ ∀ x H', J.yld i H x H' → g x (L2.wipe σ vs) H' fun σ2 H2 => L2.wipe σ2 vs = L2.wipe σ vs ∧ tt σ2 H2 fun b H3 =>
            if b = true then te σ2 H3 fun y H4 => ∃ acc, H4 Dl = some (.lst acc) ∧ acc.length < sizeLine ∧ Nx (upd H4 Dl (.lst (acc ++ [y]))) else Nx H3) := by
      intro Q Dl hD nb fin ex
      refine ⟨fun i m H' => m = ds.length - i ∧ i ≤ ds.length ∧ ∃ H0' acc ys, Up H1 H1' H0' H' ∧ H0' Dl = none ∧ H' Dl = some (.lst acc) ∧ RpAll K H0' acc ys ∧ ys.length ≤ i ∧ lcRest tg c f δw ys (ds.drop i) = lcGo tg c f δw ds,
        ⟨ds.length, by simp, Nat.zero_le _, H1, [], [], .own u1.b hD, u1.b.free hD, upd_same, .nil, Nat.le_refl _, ?_⟩, ?_⟩
      · unfold lcRest
        rw [List.drop_zero]
        cases lcGo tg c f δw ds <;> rfl
      rintro i m H' ⟨rfl, hle, H0', acc, ys, up, h0, hacc, racc, hly, hres⟩
      have kp : Kp H' := keep H' (Fz.left up.a up.b) fun _ => up.c
      by_cases hlt : i < ds.length
      · obtain ⟨d, hd⟩ : ∃ d, ds[i]? = some d := ⟨ds[i], List.getElem?_eq_getElem hlt⟩
        have hdrop : ds.drop i = d :: ds.drop (i + 1) := by
          rw [List.drop_eq_getElem_cons hlt]
          congr 1
          rw [List.getElem?_eq_getElem hlt] at hd
          exact Option.some.inj hd
        refine .inr ⟨W.go i d H' kp hd, fun H'' => ∃ H0'' acc' ys', Up H1 H1' H0'' H'' ∧ H0'' Dl = none ∧ H'' Dl = some (.lst acc') ∧ RpAll K H0'' acc' ys' ∧ ys'.length ≤ i + 1 ∧ lcRest tg c f δw ys' (ds.drop (i + 1)) = lcGo tg c f δw ds,
          fun H'' n => ⟨ds.length - (i + 1), by omega, rfl, hlt, n⟩, fun x H3 hy => ?_⟩
        obtain ⟨H03, u3, rx⟩ := W.yld i d H0' H' x H3 kp up.a up.b hd hy
        have up3 := up.trans u3
        have nD : H' Dl ≠ none := by rw [hacc]; exact fun z => nomatch z
        have h03 : H03 Dl = none := u3.d _ nD h0
        have hacc3 : H3 Dl = some (.lst acc) := u3.c _ _ hacc
        have racc3 := RpAll.mono u3.a racc
        have s3 : Sl K B H03 H3 (L2.wipe σ vs) δw := s1.up up3
        rw [hdrop] at hres
        unfold lcRest at hres
        rw [lcGo_cons] at hres
        cases htg : tg d δw with
        | none => rw [htg] at hres; exact absurd hres.symm nb
        | some δ' =>
          rw [htg] at hres
          simp only at hres
          refine hg B δw (L2.wipe σ vs) H03 H3 x d δ' s3 rx htg _ fun σ2 s2 w2 => ⟨w2.trans (wipe_wipe fun _ h => h), ?_⟩
          have zt := ht B δ' σ2 H03 H3 s2
          cases hc : c δ' with
          | bad => rw [hc] at hres; exact absurd hres.symm nb
          | er xx =>
            rw [hc] at zt hres
            exact zt _ fun cc dd H0a Ha ua xa => ex xx (hres.symm.trans rfl) cc dd H0a Ha (up3.trans ua) xa
          | ok b =>
            rw [hc] at zt hres
            refine zt _ fun b' H04 H4 u4 eb => ?_
            cases (show b' = b from eb)
            have up4 := up3.trans u4
            have h04 : H04 Dl = none := u4.d _ (by rw [hacc3]; exact fun z => nomatch z) h03
            have hacc4 : H4 Dl = some (.lst acc) := u4.c _ _ hacc3
            cases b with
            | false =>
              show ∃ H0'' acc' ys', Up H1 H1' H0'' H4 ∧ _
              exact ⟨H04, acc, ys, up4, h04, hacc4, RpAll.mono u4.a racc3, by omega, by simpa [lcRest] using hres⟩
            | true =>
              show te σ2 H4 _
              have ze := he B δ' σ2 H04 H4 (s2.up u4)
              simp only [R.bind_ok, if_true] at hres
              cases hf : f δ' with
              | bad => rw [hf] at hres; exact absurd hres.symm nb
              | er xx =>
                rw [hf] at ze hres
                exact ze _ fun cc dd H0a Ha ua xa => ex xx (hres.symm.trans rfl) cc dd H0a Ha (up4.trans ua) xa
              | ok y =>
                rw [hf] at ze hres
                refine ze _ fun yv H05 H5 u5 ry => ?_
                have up5 := up4.trans u5
                have h05 : H05 Dl = none := u5.d _ (by rw [hacc4]; exact fun z => nomatch z) h04
                have hacc5 : H5 Dl = some (.lst acc) := u5.c _ _ hacc4
                have racc5 := RpAll.mono (K := K) u5.a (RpAll.mono u4.a racc3)
                refine ⟨acc, hacc5, lim_lt ?_, H05, acc ++ [yv], ys ++ [y], ⟨up5.a, fun q o hq => ?_, fun q o hq => ?_, fun q n1 n2 => up5.d q n1 n2, fun q n z => up5.g q n z⟩, h05, upd_same, racc5.append (.cons ry .nil), by simp; omega, ?_⟩
                · rw [racc.length]; unfold LIM at *; omega
                · rw [upd_ne (ne_of_none hq h05)]; exact up5.b _ _ hq
                · rw [upd_ne (ne_of_none hq hD)]; exact up5.c _ _ hq
                · simp only [R.bind_ok] at hres
                  rw [← hres]
                  unfold lcRest
                  cases lcGo tg c f δw (ds.drop (i + 1)) with
                  | bad => rfl
                  | er _ => rfl
                  | ok r => simp
      · have hi : i = ds.length := by omega
        subst hi
        refine .inl ⟨W.stop H' kp, ?_⟩
        rw [List.drop_eq_nil_of_le (Nat.le_refl _)] at hres
        have hres : R.ok (ys ++ []) = lcGo tg c f δw ds := hres
        rw [List.append_nil] at hres
        exact fin ys hres.symm H0' H' acc up h0 hacc racc
    cases hr : lcGo tg c f δw ds with
    | bad => exact True.intro
    | er x =>
      intro Q hq Dl hD
      refine turns Q Dl hD (by rw [hr]; exact fun z => nomatch z) (fun ys z => by rw [hr] at z; cases z) fun x' z cc dd H0' H' ua xa => ?_
      rw [hr] at z
      cases z
      exact hq cc dd H0' H' ua xa
    | ok ys =>
      intro Q hq Dl hD
      refine turns Q Dl hD (by rw [hr]; exact fun z => nomatch z) (fun ys' z H0' H' acc ua h0 hacc r => ?_) fun x' z => by rw [hr] at z; cases z
      rw [hr] at z
      cases z
      exact hq _ H0' H' ua ⟨Dl, acc, rfl, hD, h0, hacc, r⟩
  · exact True.intro
section
variable {G : Str → Addr} {E : XK} {X : Cx} {m : Bool}
theorem dts_nil : DTs G E X [] dYes := ⟨_, pts_nil, fun B δ σ H0 H s Q q => q true H0 H (.refl s.ex) rfl⟩
theorem dts_one {c : Expr} {f} (h : Dt G E X c f) : DTs G E X [c] f := by
  obtain ⟨t, h1, h2⟩ := h
  exact ⟨_, pts_one h1, h2⟩
end
end Dn

namespace Dn
open PySem PySem.Spec PyProof.Rows L2

/-! ### the least reading of what is computed -/
def tCan (K : PySem.W.Frag) (G : Str → Addr) (E : XK) {β α : Type} (rel : Rel β α) (f : DSt → R α) : L2.St → Hp → (β → Hp → Prop) → Prop := fun σ H Q =>
  ∃ B δ H0, Sl K B H0 H σ δ ∧ f δ ≠ .bad ∧ (∀ a, f δ = .ok a → ∀ b H0' H', Up H0 H H0' H' → rel H H0' H' b a → Q b H') ∧ (∀ x, f δ = .er x → ∀ c dd H0' H', Up H0 H H0' H' → XR K G H0' H' c dd x → E c dd H')
section
variable {K : PySem.W.Frag} {G : Str → Addr} {E : XK}
theorem ev_can {β α : Type} {rel : Rel β α} {f : DSt → R α} : Ev K G E rel (tCan K G E rel f) f := fun B δ σ H0 H s => by
  cases q : f δ with
  | bad => exact True.intro
  | er x => exact fun Q h => ⟨B, δ, H0, s, by rw [q]; exact (fun z => nomatch z), (fun a z => by rw [q] at z; cases z), fun y z => by rw [q] at z; cases z; exact h⟩
  | ok a => exact fun Q h => ⟨B, δ, H0, s, by rw [q]; exact (fun z => nomatch z), (fun b z => by rw [q] at z; cases z; exact h), fun y z => by rw [q] at z; cases z⟩
theorem can_le {β α : Type} {rel : Rel β α} {f : DSt → R α} {t} (h : Ev K G E rel t f) {σ H Q} (c : tCan K G E rel f σ H Q) : t σ H Q := by
  obtain ⟨B, δ, H0, s, nb, h1, h2⟩ := c
  have z := h B δ σ H0 H s
  cases q : f δ with
  | bad => exact absurd q nb
  | er x => rw [q] at z; exact z Q (h2 x q)
  | ok a => rw [q] at z; exact z Q (h1 a q)
end
section
variable {G : Str → Addr} {E : XK} {X : Cx} {e : Expr}
theorem De.can {f} (h : De G E X e f) : PE X e (tCan X.K G E (rV X.K) f) := by
  obtain ⟨t, h1, h2⟩ := h
  exact ⟨fun pins s σ H Q I c => h1.run pins s σ H Q I (can_le h2 c)⟩
theorem DTs.can {es f} (h : DTs G E X es f) : PTs X es (tCan X.K G E rB f) := by
  obtain ⟨t, h1, h2⟩ := h
  exact ⟨fun pins s σ H Q I c => h1.run pins s σ H Q I (can_le h2 c)⟩
def gCan (K : PySem.W.Frag) (vs : List Nat) (f : TGd) : TG := fun v σ H Q => ∃ B δ H0 d δ', Sl K B H0 H σ δ ∧ Rp K H0 v d ∧ f d δ = some δ' ∧ ∀ σ', Sl K B H0 H σ' δ' → L2.wipe σ' vs = L2.wipe σ vs → Q σ' H
theorem evg_can {K vs f} : EvG K vs (gCan K vs f) f := fun B δ σ H0 H v d δ' s r e Q q => ⟨B, δ, H0, d, δ', s, r, e, q⟩
theorem DG.can {vs f} (h : DG X vs e f) : PG X e (gCan X.K vs f) := by
  obtain ⟨g, h1, h2⟩ := h
  exact ⟨fun pins s σ H v u Q I r c => by
    obtain ⟨B, δ, H0, d, δ', s', r', e', q⟩ := c
    exact h1.run pins s σ H v u Q I r (h2 B δ σ H0 H v d δ' s' r' e' Q q)⟩
def R.noer {α : Type} : R α → R α
  | .ok a => .ok a
  | _ => .bad
@[simp] theorem R.noer_ok {α : Type} (a : α) : R.noer (.ok a) = .ok a := rfl
theorem ev_noer {K : PySem.W.Frag} {β α : Type} {rel : Rel β α} {f : DSt → R α} {t} (h : Ev K G E0 rel t f) : Ev K G E rel t fun δ => (f δ).noer := fun B δ σ H0 H s => by
  have z := h B δ σ H0 H s
  show At K G E rel H0 H (t σ H) (f δ).noer
  cases q : f δ with
  | bad => exact True.intro
  | er x => exact True.intro
  | ok a => rw [q] at z; exact z
/-- [elt for tg in iter if ..] -/
theorem dn_lc {elt tg iter : Expr} {ifs : List Expr} {scope : Scope} {own : List (Str × Nat)} {pos : Pos} {src tgf c f} {m : Bool} (hc : X.calm = true) (hN : X.N.Nodup) (hi : DI G E X m tg iter src) (ok : BlkOk X.N X.env.scope scope own)
    (hg : ∀ (s : Shared) (H : Hp) (C : Addr) (cl : List (Str × Addr)) (fp : List Addr), DG (X.blk s H scope (compEnvC scope cl C X.env) fp) (own.map (·.2)) tg tgf)
    (ht : ∀ (s : Shared) (H : Hp) (C : Addr) (cl : List (Str × Addr)) (fp : List Addr), DTs G E0 (X.blk s H scope (compEnvC scope cl C X.env) fp) ifs c)
    (he : ∀ (s : Shared) (H : Hp) (C : Addr) (cl : List (Str × Addr)) (fp : List Addr), De G E0 (X.blk s H scope (compEnvC scope cl C X.env) fp) elt f) (hs : ∀ x, foldedSetIterable iter X.env x = pure x := by intro _; rfl) :
    DN G E X (.ListComp elt [⟨tg, iter, ifs, 0⟩] scope pos) (dLc src tgf (fun δ => (c δ).noer) (fun δ => (f δ).noer) (own.map (·.2))) := by
  obtain ⟨wi, h1, h2⟩ := hi
  exact ⟨_, pe_lc hc hN h1 ok (fun s H C cl fp => (hg s H C cl fp).can) (fun s H C cl fp => (ht s H C cl fp).can) (fun s H C cl fp => (he s H C cl fp).can) hs, ev_lc h2 evg_can (ev_noer ev_can) (ev_noer ev_can)⟩
end

/-! ### statements -/
inductive Out where
  | nx (δ : DSt)
  | rt (d : D)
  | bk (δ : DSt)
  | ct (δ : DSt)
/-- a statement was run; B: what the caller knew -/
structure Us (B H0 H0' H' : Hp) : Prop where
  a : Same H0 H0'
  b : Fz H0' H'
  c : Same B H'
  d : ∀ p, B p ≠ none → H0 p = none → H0' p = none
  g : ∀ p n, H0' p = some (gh n) → H0 p = some (gh n)
theorem Us.refl {B H0 H : Hp} (e : Fz H0 H) (e2 : Same B H) : Us B H0 H0 H := ⟨.refl _, e, e2, fun _ _ h => h, fun _ _ h => h⟩
theorem Us.trans {B H0 H1 H1' H2 H2' : Hp} (x : Us B H0 H1 H1') (y : Us B H1 H2 H2') : Us B H0 H2 H2' := ⟨x.a.trans y.a, y.b, y.c, fun p h1 h2 => y.d p h1 (x.d p h1 h2), fun p n h => x.g p n (y.g p n h)⟩
theorem Up.us {B H0 H H0' H' : Hp} (u : Up H0 H H0' H') (e : Same B H) : Us B H0 H0' H' := ⟨u.a, u.b, e.trans u.c, fun p h1 h2 => u.d p (Same.ne e h1) h2, u.g⟩

section
variable (K : PySem.W.Frag) (G : Str → Addr) (E : XK)
def EndOk (B H0 : Hp) (D : Ends) : Out → Prop
  | .nx δ' => ∀ σ' H0' H', Us B H0 H0' H' → Sl K B H0' H' σ' δ' → D.nx σ' H'
  | .rt d => ∀ v H0' H', Us B H0 H0' H' → Rp K H0' v d → D.rt v H'
  | .bk δ' => ∀ σ' H0' H', Us B H0 H0' H' → Sl K B H0' H' σ' δ' → D.bk σ' H'
  | .ct δ' => ∀ σ' H0' H', Us B H0 H0' H' → Sl K B H0' H' σ' δ' → D.ct σ' H'
def SAt (B H0 H : Hp) (T : Ends → Prop) (r : R Out) : Prop := match r with
  | .bad => True
  | .er x => ∀ D : Ends, (∀ c dd H0' H', Us B H0 H0' H' → XR K G H0' H' c dd x → E c dd H') → T D
  | .ok o => ∀ D : Ends, EndOk K B H0 D o → T D
def Sd (t : TS) (b : DSt → R Out) : Prop := ∀ B δ σ H0 H, Sl K B H0 H σ δ → SAt K G E B H0 H (fun D => t D σ H) (b δ)
end
section
variable {K : PySem.W.Frag} {G : Str → Addr} {E : XK}
theorem EndOk.up {B H0 H1 H1' : Hp} {D : Ends} {o : Out} (u : Us B H0 H1 H1') (h : EndOk K B H0 D o) : EndOk K B H1 D o := by
  cases o with
  | nx δ => exact fun σ' H0' H' u2 s => h σ' H0' H' (u.trans u2) s
  | rt d => exact fun v H0' H' u2 r => h v H0' H' (u.trans u2) r
  | bk δ => exact fun σ' H0' H' u2 s => h σ' H0' H' (u.trans u2) s
  | ct δ => exact fun σ' H0' H' u2 s => h σ' H0' H' (u.trans u2) s
theorem SAt.imp {B H0 H : Hp} {T T' : Ends → Prop} {r : R Out} (h : SAt K G E B H0 H T r) (w : ∀ D, T D → T' D) : SAt K G E B H0 H T' r := by
  cases r with
  | bad => exact True.intro
  | er x => exact fun D q => w D (h D q)
  | ok a => exact fun D q => w D (h D q)
/-- an expression's value, then a statement's rest -/
theorem sat_bind {β α : Type} {rel : Rel β α} {B H0 H : Hp} {t : (β → Hp → Prop) → Prop} {k : β → Hp → Ends → Prop} {r : R α} {g : α → R Out} (eB : Same B H) (h : At K G E rel H0 H t r)
    (hk : ∀ a b H0' H', Up H0 H H0' H' → rel H H0' H' b a → SAt K G E B H0' H' (k b H') (g a)) : SAt K G E B H0 H (fun D => t fun b H1 => k b H1 D) (r.bind g) := by
  cases r with
  | bad => exact True.intro
  | er x => exact fun D hq => h _ fun c dd H0' H' u x2 => hq c dd H0' H' (u.us eB) x2
  | ok a =>
    show SAt K G E B H0 H _ (g a)
    cases e : g a with
    | bad => exact True.intro
    | er x =>
      refine fun D hq => h _ fun b H0' H' u rb => ?_
      have z := hk a b H0' H' u rb
      rw [e] at z
      exact z D fun c dd H0'' H'' u2 x2 => hq c dd H0'' H'' ((u.us eB).trans u2) x2
    | ok o =>
      refine fun D hq => h _ fun b H0' H' u rb => ?_
      have z := hk a b H0' H' u rb
      rw [e] at z
      exact z D (hq.up (u.us eB))
def dSeq (f g : DSt → R Out) : DSt → R Out := fun δ => (f δ).bind fun o => match o with
  | .nx δ' => g δ'
  | o => .ok o
theorem sd_seq {t u : TS} {f g} (h : Sd K G E t f) (k : Sd K G E u g) : Sd K G E (tSeq t u) (dSeq f g) := by
  intro B δ σ H0 H s
  have z := h B δ σ H0 H s
  unfold dSeq
  cases e : f δ with
  | bad => exact True.intro
  | er x => rw [e] at z; exact fun D q => z { D with nx := u D } q
  | ok o =>
    rw [e] at z
    cases o with
    | rt d => exact fun D q => z { D with nx := u D } q
    | bk δ => exact fun D q => z { D with nx := u D } q
    | ct δ => exact fun D q => z { D with nx := u D } q
    | nx δ' =>
      show SAt K G E B H0 H _ (g δ')
      cases e2 : g δ' with
      | bad => exact True.intro
      | er x =>
        refine fun D q => z { D with nx := u D } fun σ' H0' H' u1 s1 => ?_
        have y := k B δ' σ' H0' H' s1
        rw [e2] at y
        exact y D fun c dd H0'' H'' u2 x2 => q c dd H0'' H'' (u1.trans u2) x2
      | ok o =>
        refine fun D q => z { D with nx := u D } fun σ' H0' H' u1 s1 => ?_
        have y := k B δ' σ' H0' H' s1
        rw [e2] at y
        exact y D (q.up u1)
end
section
variable (G : Str → Addr) (E : XK) (X : Cx)
def Ds (st : Stmt) (b : DSt → R Out) : Prop := ∃ t, PS X st t ∧ Sd X.K G E t b
def Dss (sts : List Stmt) (b : DSt → R Out) : Prop := ∃ t, PSs X sts t ∧ Sd X.K G E t b
end
section
variable {G : Str → Addr} {E : XK} {X : Cx} {pos p p2 : Pos} {st : Stmt} {sts ss : List Stmt} {e a b : Expr}
def dNext : DSt → R Out := fun δ => .ok (.nx δ)
def dBrk : DSt → R Out := fun δ => .ok (.bk δ)
def dCnt : DSt → R Out := fun δ => .ok (.ct δ)
theorem Sl.us {K B H0 H σ δ} (s : Sl K B H0 H σ δ) : Us B H0 H0 H := .refl s.ex s.base
theorem dss_nil : Dss G E X [] dNext := ⟨_, pss_nil, fun B δ σ H0 H s D q => q σ H0 H s.us s⟩
theorem dss_one {f} (h : Ds G E X st f) : Dss G E X [st] f := by
  obtain ⟨t, h1, h2⟩ := h
  exact ⟨_, pss_one h1, h2⟩
theorem dss_cons {f g} (h : Ds G E X st f) (k : Dss G E X sts g) : Dss G E X (st :: sts) (dSeq f g) := by
  obtain ⟨t, h1, h2⟩ := h
  obtain ⟨u, k1, k2⟩ := k
  exact ⟨_, pss_cons h1 k1, sd_seq h2 k2⟩
theorem ds_pass : Ds G E X (.Pass pos) dNext := ⟨_, ps_pass, fun B δ σ H0 H s D q => q σ H0 H s.us s⟩
theorem ds_break : Ds G E X (.Break pos) dBrk := ⟨_, ps_break, fun B δ σ H0 H s D q => q σ H0 H s.us s⟩
theorem ds_continue : Ds G E X (.Continue pos) dCnt := ⟨_, ps_continue, fun B δ σ H0 H s D q => q σ H0 H s.us s⟩
/-- return e -/
def dRet (f : DSt → R D) : DSt → R Out := fun δ => (f δ).bind fun d => .ok (.rt d)
theorem ds_ret {f} (h : De G E X e f) : Ds G E X (.Return (some e) pos) (dRet f) := by
  obtain ⟨t, h1, h2⟩ := h
  exact ⟨_, ps_ret h1, fun B δ σ H0 H s => sat_bind (t := t σ H) (k := fun v H1 D => D.rt v H1) s.base (h2 B δ σ H0 H s) fun d v H1 H1' u r D q => q v H1 H1' (.refl u.b (s.base.trans u.c)) r⟩
/-- name = e -/
def dSet (i : Nat) (f : DSt → R D) : DSt → R Out := fun δ => (f δ).bind fun d => .ok (.nx (δ.set i (.dat d)))
theorem ds_set {i : Nat} {x : Str} {f} (hN : X.N.Nodup) (hi : X.N[i]? = some x) (hx : Loc X.env.scope x) (h : De G E X e f) (hs : swapsWith e (some (.Name x p)) pos.line X.env = pure false := by rfl) (hf : X.fn x = true ∨ X.env.scope.names.lookup x = some .local := by first | exact .inl rfl | exact .inr rfl | assumption) :
    Ds G E X (.Assign [.Name x p] e pos) (dSet i f) := by
  obtain ⟨t, h1, h2⟩ := h
  exact ⟨_, ps_set hN hi hx h1 hs hf, fun B δ σ H0 H s => sat_bind (t := t σ H) (k := fun v H1 D => D.nx (σ.set i (some v)) H1) s.base (h2 B δ σ H0 H s) fun d v H1 H1' u r D q => q _ H1 H1' (.refl u.b (s.base.trans u.c)) ((s.up u).set r)⟩
/-- name = a new list -/
def dSetN (i : Nat) (f : DSt → R (List D)) : DSt → R Out := fun δ => (f δ).bind fun d => .ok (.nx (δ.set i (.own d)))
theorem sl_setN {K : PySem.W.Frag} {B H0 H H1 H1' : Hp} {σ : L2.St} {δ : DSt} {i : Nat} {v : V} {ds : List D} (s : Sl K B H0 H σ δ) (u : Up H0 H H1 H1') (r : rN K H H1 H1' v ds) : Sl K B H1 H1' (σ.set i (some v)) (δ.set i (.own ds)) := by
  obtain ⟨q, vs, rfl, hs, h0, hp, rr⟩ := r
  refine (s.up u).setN h0 ?_ hp rr fun j es h z => ?_
  · exact Same.free s.base hs
  · obtain ⟨q', ws, e1, h1, h2, h3, _⟩ := s.own j es h
    rw [z] at e1
    cases e1
    rw [hs] at h3
    cases h3
theorem ds_setN {i : Nat} {x : Str} {f} (hN : X.N.Nodup) (hi : X.N[i]? = some x) (hx : Loc X.env.scope x) (h : DN G E X e f) (hs : swapsWith e (some (.Name x p)) pos.line X.env = pure false := by rfl) (hf : X.fn x = true ∨ X.env.scope.names.lookup x = some .local := by first | exact .inl rfl | exact .inr rfl | assumption) :
    Ds G E X (.Assign [.Name x p] e pos) (dSetN i f) := by
  obtain ⟨t, h1, h2⟩ := h
  exact ⟨_, ps_set hN hi hx h1 hs hf, fun B δ σ H0 H s => sat_bind (t := t σ H) (k := fun v H1 D => D.nx (σ.set i (some v)) H1) s.base (h2 B δ σ H0 H s) fun d v H1 H1' u r D q => q _ H1 H1' (.refl u.b (s.base.trans u.c)) (sl_setN s u r)⟩
/-- (a, b, ..) = e, any target -/
def dAsg (f : DSt → R D) (g : TGd) : DSt → R Out := fun δ => (f δ).bind fun d => match g d δ with
  | some δ' => .ok (.nx δ')
  | none => .bad
theorem ds_asg {tg : Expr} {f g vs} (h : De G E X e f) (hg : DG X vs tg g) (hs : swapsWithSole [tg] e pos.line X.env = pure false := by rfl) (hw : swappedStores [tg] e X.env = pure none := by rfl)
    (h1 : (assignEach [tg] X.env).map (·.2) = [assign tg X.env] := by rfl) : Ds G E X (.Assign [tg] e pos) (dAsg f g) := by
  obtain ⟨t, k1, k2⟩ := h
  obtain ⟨gg, g1, g2⟩ := hg
  refine ⟨_, ps_asg k1 g1 hs hw h1, fun B δ σ H0 H s => sat_bind (t := t σ H) (k := fun v H1 D => gg v σ H1 D.nx) s.base (k2 B δ σ H0 H s) fun d v H1 H1' u r => ?_⟩
  cases q : g d δ with
  | none => exact True.intro
  | some δ' => exact fun D q' => g2 B δ σ H1 H1' v d δ' (s.up u) r q _ fun σ' s' _ => q' σ' H1 H1' (.refl u.b (s.base.trans u.c)) s'
/-- name = [.. for ..], one line -/
theorem ds_setLc {i : Nat} {y : Str} {py : Pos} {elt tg iter : Expr} {ifs : List Expr} {scope : Scope} {own : List (Str × Nat)} {spos : Pos} {src tgf c f} {m : Bool} (hc : X.calm = true) (hN : X.N.Nodup) (hy : X.N[i]? = some y) (hyl : X.env.scope.names.lookup y = some .local)
    (hsw : swapsWith (.ListComp elt [⟨tg, iter, ifs, 0⟩] scope pos) (some (.Name y py)) spos.line X.env = pure true) (hi : DI G E X m tg iter src) (ok : BlkOk X.N X.env.scope scope own)
    (hg : ∀ (s : Shared) (H : Hp) (C : Addr) (cl : List (Str × Addr)) (fp : List Addr), DG (X.blk s H scope (compEnvC scope cl C X.env) fp) (own.map (·.2)) tg tgf)
    (ht : ∀ (s : Shared) (H : Hp) (C : Addr) (cl : List (Str × Addr)) (fp : List Addr), DTs G E0 (X.blk s H scope (compEnvC scope cl C X.env) fp) ifs c)
    (he : ∀ (s : Shared) (H : Hp) (C : Addr) (cl : List (Str × Addr)) (fp : List Addr), De G E0 (X.blk s H scope (compEnvC scope cl C X.env) fp) elt f) (hs : ∀ x, foldedSetIterable iter X.env x = pure x := by intro _; rfl) :
    Ds G E X (.Assign [.Name y py] (.ListComp elt [⟨tg, iter, ifs, 0⟩] scope pos) spos) (dSetN i (dLc src tgf (fun δ => (c δ).noer) (fun δ => (f δ).noer) (own.map (·.2)))) := by
  obtain ⟨wi, h1, h2⟩ := hi
  have z := ev_lc (E := E) h2 (evg_can (K := X.K) (vs := own.map (·.2)) (f := tgf)) (ev_noer (E := E) (ev_can (K := X.K) (G := G) (rel := rB) (f := c))) (ev_noer (E := E) (ev_can (K := X.K) (G := G) (rel := rV X.K) (f := f)))
  exact ⟨_, ps_setLc hc hN hy hyl hsw h1 ok (fun s H C cl fp => (hg s H C cl fp).can) (fun s H C cl fp => (ht s H C cl fp).can) (fun s H C cl fp => (he s H C cl fp).can) hs,
    fun B δ σ H0 H s => sat_bind (t := tLc wi _ _ _ _ σ H) (k := fun v H1 D => D.nx (σ.set i (some v)) H1) s.base (z B δ σ H0 H s) fun d v H1 H1' u r D q => q _ H1 H1' (.refl u.b (s.base.trans u.c)) (sl_setN s u r)⟩
/-- an owned list is data from here on -/
theorem Sl.freeze {K : PySem.W.Frag} {B H0 H : Hp} {σ : L2.St} {δ : DSt} {i : Nat} {ds : List D} (s : Sl K B H0 H σ δ) (h : δ[i]? = some (SV.own ds)) : ∃ H0', Us B H0 H0' H ∧ Sl K B H0' H σ (δ.set i (.dat (.list ds))) := by
  obtain ⟨q, vs, e1, h0, hb, hp, r⟩ := s.own i ds h
  have e0 : Same H0 (upd H0 q (.lst vs)) := Same.upd h0
  have ex : Fz (upd H0 q (.lst vs)) H := fun c o w => by
    by_cases hc : c = q
    · subst hc; rw [upd_same] at w; cases w; exact .inl hp
    · rw [upd_ne hc] at w; exact s.ex _ _ w
  have key : ∀ (j : Nat) (w : SV), (δ.set i (.dat (.list ds)))[j]? = some w → (j = i ∧ w = .dat (.list ds)) ∨ (j ≠ i ∧ δ[j]? = some w) := fun j w h' => by
    by_cases hj : j = i
    · subst hj
      rw [List.getElem?_set_self (List.getElem?_eq_some_iff.mp h).1] at h'
      exact .inl ⟨rfl, (Option.some.inj h').symm⟩
    · rw [List.getElem?_set_ne (Ne.symm hj)] at h'
      exact .inr ⟨hj, h'⟩
  refine ⟨upd H0 q (.lst vs), ⟨e0, ex, s.base, fun c n1 n2 => ?_, fun c n z => ?_⟩, s.base, ex, by simp [s.len], fun j d w => ?_, fun j es w => ?_, fun j k d1 d2 c hjk w1 w2 w3 => ?_⟩
  · have hc : c ≠ q := fun z => n1 (z ▸ hb)
    rw [upd_ne hc]; exact n2
  · by_cases hc : c = q
    · subst hc; rw [upd_same] at z; cases z
    · rwa [upd_ne hc] at z
  · rcases key j _ w with ⟨rfl, e2⟩ | ⟨hj, w⟩
    · cases e2
      exact ⟨_, e1, .lst upd_same (r.mono e0)⟩
    · obtain ⟨v, a, b⟩ := s.dat j d w
      exact ⟨v, a, b.mono e0⟩
  · rcases key j _ w with ⟨rfl, e2⟩ | ⟨hj, w⟩
    · cases e2
    · obtain ⟨c, ws, a1, a2, a3, a4, a5⟩ := s.own j es w
      refine ⟨c, ws, a1, ?_, a3, a4, a5.mono e0⟩
      have hc : c ≠ q := fun z => by
        subst z
        exact s.sep j i es ds c hj w h a1 e1
      rw [upd_ne hc]; exact a2
  · rcases key j _ w1 with ⟨rfl, e2⟩ | ⟨hj, w1⟩
    · cases e2
    · rcases key k _ w2 with ⟨rfl, e2⟩ | ⟨hk, w2⟩
      · cases e2
      · exact s.sep j k d1 d2 c hjk w1 w2 w3
def frz1 (i : Nat) (δ : DSt) : DSt := match δ[i]? with
  | some (SV.own ds) => δ.set i (.dat (.list ds))
  | _ => δ
theorem Sl.frz1 {K : PySem.W.Frag} {B H0 H : Hp} {σ : L2.St} {δ : DSt} (s : Sl K B H0 H σ δ) (i : Nat) : ∃ H0', Us B H0 H0' H ∧ Sl K B H0' H σ (Dn.frz1 i δ) := by
  unfold Dn.frz1
  split
  · rename_i ds h
    exact s.freeze h
  · exact ⟨H0, s.us, s⟩
/-- ahead of a statement -/
theorem dss_frz {f} (i : Nat) (h : Dss G E X sts f) : Dss G E X sts fun δ => f (frz1 i δ) := by
  obtain ⟨t, h1, h2⟩ := h
  refine ⟨t, h1, fun B δ σ H0 H s => ?_⟩
  obtain ⟨H0', u, s'⟩ := s.frz1 i
  have z := h2 B _ σ H0' H s'
  show SAt X.K G E B H0 H _ (f (frz1 i δ))
  cases q : f (frz1 i δ) with
  | bad => exact True.intro
  | er x => rw [q] at z; exact fun D k => z D fun c dd Ha Hb ua xa => k c dd Ha Hb (u.trans ua) xa
  | ok o => rw [q] at z; exact fun D k => z D (k.up u)
/-- if -/
theorem ds_if {c f g} (hc : Dt G E X e c) (h1 : Dss G E X sts f) (h2 : Dss G E X ss g) : Ds G E X (.If e sts ss pos) (dIf c f g) := by
  obtain ⟨t, a1, a2⟩ := hc
  obtain ⟨u, b1, b2⟩ := h1
  obtain ⟨w, c1, c2⟩ := h2
  refine ⟨_, ps_if a1 b1 c1, fun B δ σ H0 H s => sat_bind (t := t σ H) (k := fun b H1 D => if b = true then u D σ H1 else w D σ H1) s.base (a2 B δ σ H0 H s) fun x y H1 H1' up r => ?_⟩
  cases (show y = x from r)
  cases x with
  | true => exact b2 B δ σ H1 H1' (s.up up)
  | false => exact c2 B δ σ H1 H1' (s.up up)
/-- xs.append(e) of an owned list -/
def dApp (i : Nat) (f : DSt → R D) : DSt → R Out := fun δ => match δ[i]? with
  | some (SV.own ds) => (f δ).bind fun d => if ds.length < LIM then .ok (.nx (δ.set i (.own (ds ++ [d])))) else .bad
  | _ => .bad
theorem Sl.mut {K : PySem.W.Frag} {B H0 H : Hp} {σ : L2.St} {δ : DSt} {i : Nat} {ds es : List D} {q : Addr} {ws : List V} (s : Sl K B H0 H σ δ) (h : δ[i]? = some (SV.own ds)) (e1 : σ[i]? = some (some (V.ref q))) (h0 : H0 q = none) (hb : B q = none) (r : RpAll K H0 ws es) :
    Us B H0 H0 (upd H q (.lst ws)) ∧ Sl K B H0 (upd H q (.lst ws)) σ (δ.set i (.own es)) := by
  have ex : Fz H0 (upd H q (.lst ws)) := fun c o w => by rw [upd_ne (ne_of_none w h0)]; exact s.ex _ _ w
  have eb : Same B (upd H q (.lst ws)) := fun c o w => by rw [upd_ne (ne_of_none w hb)]; exact s.base _ _ w
  have key : ∀ (j : Nat) (w : SV), (δ.set i (.own es))[j]? = some w → (j = i ∧ w = .own es) ∨ (j ≠ i ∧ δ[j]? = some w) := fun j w h' => by
    by_cases hj : j = i
    · subst hj
      rw [List.getElem?_set_self (List.getElem?_eq_some_iff.mp h).1] at h'
      exact .inl ⟨rfl, (Option.some.inj h').symm⟩
    · rw [List.getElem?_set_ne (Ne.symm hj)] at h'
      exact .inr ⟨hj, h'⟩
  refine ⟨⟨.refl _, ex, eb, fun _ _ z => z, fun _ _ z => z⟩, eb, ex, by simp [s.len], fun j d w => ?_, fun j d1 w => ?_, fun j k d1 d2 c hjk w1 w2 w3 => ?_⟩
  · rcases key j _ w with ⟨rfl, e2⟩ | ⟨hj, w⟩
    · cases e2
    · exact s.dat j d w
  · rcases key j _ w with ⟨rfl, e2⟩ | ⟨hj, w⟩
    · cases e2
      exact ⟨q, ws, e1, h0, hb, upd_same, r⟩
    · obtain ⟨c, us, a1, a2, a3, a4, a5⟩ := s.own j d1 w
      have hc : c ≠ q := fun z => by
        subst z
        exact s.sep j i d1 ds c hj w h a1 e1
      exact ⟨c, us, a1, a2, a3, by rw [upd_ne hc]; exact a4, a5⟩
  · rcases key j _ w1 with ⟨rfl, e2⟩ | ⟨hj, w1⟩
    · rcases key k _ w2 with ⟨rfl, e2⟩ | ⟨hk, w2⟩
      · exact absurd rfl hjk
      · exact s.sep j k ds d2 c hjk h w2 w3
    · have w1' := w1
      rcases key k _ w2 with ⟨rfl, e2⟩ | ⟨hk, w2⟩
      · exact s.sep j k d1 ds c hjk (by first | exact w1' | exact ((key j _ w1').elim (fun z => absurd z.1 hj) fun z => z.2)) h w3
      · exact s.sep j k d1 d2 c hjk w1 w2 w3
theorem ds_app {i : Nat} {x : Str} {f} {pa pc : Pos} (hN : X.N[i]? = some x) (hv : Vis X.env.scope x) (h : De G E X e f) (hd : (x == ("__debug__" : Str)) = false := by decide) (hcd : (x == ("__classdict__" : Str)) = false := by decide)
    (he : starEach [e] X.env = (false, eval e X.env) :: starEach [] X.env := by rfl)
    (hbase : attributeBase (.Name x p) "append" X.env (eval (.Name x p) X.env) = eval (.Name x p) X.env := by rfl)
    (hfew : ((backTo pc (starEach [e] X.env)).all (fun x => !x.1) && (backToKw pc (keywordEach [] X.env)).all (fun x => x.1.isSome)
      && decide ([e].length + ([] : List Keyword).length + (if ([] : List Keyword).isEmpty then 0 else 1) < 30)) = true := by rfl)
    (hline : (pa.endLine == pc.line) = true := by rfl) (hplain : (backTo pc (starEach [] X.env)).any (·.1) = false := by rfl)
    (hs : swapsWith (.Call (.Attribute (.Name x p) "append" pa) [e] [] pc) none pos.line X.env = pure false := by rfl) :
    Ds G E X (.Expr (.Call (.Attribute (.Name x p) "append" pa) [e] [] pc) pos) (dApp i f) := by
  obtain ⟨t, h1, h2⟩ := h
  refine ⟨_, ps_expr (pe_bm PySem.F.plainAttrs_list PySem.F.slot_list_append PySem.F.type_list_append mt_append (pe_var hN hv hd hcd) (pa_cons h1 pa_nil he) hbase hfew hline he hplain) hs, fun B δ σ H0 H s => ?_⟩
  unfold dApp
  split
  · rename_i ds hi
    obtain ⟨q, vs, e1, h0, hb, hp, r⟩ := s.own i ds hi
    refine SAt.imp (sat_bind (t := t σ H) (k := fun v H1 D => ∃ l xs y, V.ref q = .ref l ∧ [v] = [y] ∧ H1 l = some (.lst xs) ∧ xs.length < sizeLine ∧ D.nx σ (upd H1 l (.lst (xs ++ [y])))) s.base (h2 B δ σ H0 H s) fun d v H1 H1' u rv => ?_) fun D w => ⟨_, e1, .inl ⟨rfl, _, SqL.of hp⟩, w⟩
    split
    · rename_i hl
      refine fun D k => ⟨q, vs, v, rfl, rfl, u.c _ _ hp, lim_lt (by rw [r.length]; exact hl), ?_⟩
      have q0 : H1 q = none := u.d q (by rw [hp]; exact fun z => nomatch z) h0
      obtain ⟨u2, s2⟩ := (s.up u).mut hi e1 q0 hb ((r.mono u.a).append (.cons rv .nil))
      exact k σ H1 _ u2 s2
    · exact True.intro
  · exact True.intro
end
end Dn

namespace Dn
open PySem PySem.Spec PyProof.Rows L2

/-! ### loops -/
def forGo (tg : TGd) (b : DSt → R Out) (fs : List Nat) : List D → DSt → R Out
  | [], δ => .ok (.nx (fgt δ fs))
  | x :: xs, δ => match tg x (fgt δ fs) with
    | none => .bad
    | some δ' => (b δ').bind fun o => match o with
      | .nx δ2 => forGo tg b fs xs δ2
      | .ct δ2 => forGo tg b fs xs δ2
      | .bk δ2 => .ok (.nx (fgt δ2 fs))
      | .rt d => .ok (.rt d)
theorem forGo_cons {tg b fs x xs δ} : forGo tg b fs (x :: xs) δ = (match tg x (fgt δ fs) with
    | none => .bad
    | some δ' => (b δ').bind fun o => match o with
      | .nx δ2 => forGo tg b fs xs δ2
      | .ct δ2 => forGo tg b fs xs δ2
      | .bk δ2 => .ok (.nx (fgt δ2 fs))
      | .rt d => .ok (.rt d)) := rfl
def dFor (src : DSt → R (List D)) (tg : TGd) (b : DSt → R Out) (fs : List Nat) : DSt → R Out := fun δ => (src δ).bind fun ds => forGo tg b fs ds δ
section
variable {K : PySem.W.Frag} {G : Str → Addr} {E : XK}
theorem sd_for {wi : TI} {g : TG} {tb : TS} {src tg b} {vs fs : List Nat} (hi : Ev K G E (rI K true) wi src) (hg : EvG K vs g tg) (hb : Sd K G E tb b) : Sd K G E (tFor wi g tb) (dFor src tg b fs) := by
  refine fun B δ σ H0 H s => sat_bind (t := wi σ H) (k := fun J H1 D => ∃ W : Nat → Nat → L2.St → Hp → Prop, (∃ m, W 0 m σ H1) ∧ ∀ i m σ H, W i m σ H →
    (J.stop i H ∧ D.nx σ H) ∨ (J.go i H ∧ ∃ N : L2.St → Hp → Prop, (∀ σ' H', N σ' H' → ∃ m', m' < m ∧ W (i + 1) m' σ' H') ∧ ∀ x H', J.yld i H x H' → g x σ H' fun σ2 H2 => tb { D with nx := N, ct := N, bk := D.nx } σ2 H2)) s.base (hi B δ σ H0 H s) fun ds J H1 H1' u1 ⟨Kp, W, keep⟩ => ?_
  have s1 := s.up u1
  have turns : ∀ D : Ends, forGo tg b fs ds δ ≠ .bad → (∀ o, forGo tg b fs ds δ = .ok o → EndOk K B H1 D o) → (∀ x, forGo tg b fs ds δ = .er x → ∀ cc dd H0' H', Us B H1 H0' H' → XR K G H0' H' cc dd x → E cc dd H') →
      ∃ W : Nat → Nat → L2.St → Hp → Prop, (∃ m, W 0 m σ H1') ∧ ∀ i m σ H, W i m σ H →
        (J.stop i H ∧ D.nx σ H) ∨ (J.go i H ∧ ∃ N : L2.St → Hp → Prop, (∀ σ' H', N σ' H' → ∃ m', m' < m ∧ W (i + 1) m' σ' H') ∧ ∀ x H', J.yld i H x H' → g x σ H' fun σ2 H2 => tb { D with nx := N, ct := N, bk := D.nx } σ2 H2) := by
    intro D nb fin ex
    refine ⟨fun i m σ' H' => m = ds.length - i ∧ i ≤ ds.length ∧ ∃ H0' δ', Us B H1 H0' H' ∧ Sl K B H0' H' σ' δ' ∧ forGo tg b fs (ds.drop i) δ' = forGo tg b fs ds δ, ⟨ds.length, by simp, Nat.zero_le _, H1, δ, s1.us, s1, by rw [List.drop_zero]⟩, ?_⟩
    rintro i m σ' H' ⟨rfl, hle, H0', δ', up, s', hres⟩
    have kp : Kp H' := keep H' (Fz.left up.a up.b) fun z => nomatch z
    by_cases hlt : i < ds.length
    · obtain ⟨d, hd⟩ : ∃ d, ds[i]? = some d := ⟨ds[i], List.getElem?_eq_getElem hlt⟩
      have hdrop : ds.drop i = d :: ds.drop (i + 1) := by
        rw [List.drop_eq_getElem_cons hlt]
        congr 1
        rw [List.getElem?_eq_getElem hlt] at hd
        exact Option.some.inj hd
      refine .inr ⟨W.go i d H' kp hd, fun σ'' H'' => ∃ H0'' δ'', Us B H1 H0'' H'' ∧ Sl K B H0'' H'' σ'' δ'' ∧ forGo tg b fs (ds.drop (i + 1)) δ'' = forGo tg b fs ds δ, fun σ'' H'' n => ⟨ds.length - (i + 1), by omega, rfl, hlt, n⟩, fun x H3 hy => ?_⟩
      obtain ⟨H03, u3, rx⟩ := W.yld i d H0' H' x H3 kp up.a up.b hd hy
      have up3 := up.trans (u3.us s'.base)
      have s3 := (s'.up u3).fgt fs
      rw [hdrop, forGo_cons] at hres
      cases htg : tg d (fgt δ' fs) with
      | none => rw [htg] at hres; exact absurd hres.symm nb
      | some δ2 =>
        rw [htg] at hres
        simp only at hres
        refine hg B _ σ' H03 H3 x d δ2 s3 rx htg _ fun σ2 s2 w2 => ?_
        have z := hb B δ2 σ2 H03 H3 s2
        cases hbo : b δ2 with
        | bad => rw [hbo] at hres; exact absurd hres.symm nb
        | er xx =>
          rw [hbo] at z hres
          exact z _ fun cc dd Ha Hb ua xa => ex xx (hres.symm.trans rfl) cc dd Ha Hb (up3.trans ua) xa
        | ok o =>
          rw [hbo] at z hres
          refine z _ ?_
          cases o with
          | nx δ3 => exact fun σ4 Ha Hb ua sa => ⟨Ha, δ3, up3.trans ua, sa, hres⟩
          | ct δ3 => exact fun σ4 Ha Hb ua sa => ⟨Ha, δ3, up3.trans ua, sa, hres⟩
          | bk δ3 =>
            have f := fin _ (hres.symm.trans rfl)
            exact fun σ4 Ha Hb ua sa => f σ4 Ha Hb (up3.trans ua) (sa.fgt fs)
          | rt d =>
            have f := fin _ (hres.symm.trans rfl)
            exact fun v Ha Hb ua ra => f v Ha Hb (up3.trans ua) ra
    · have hi : i = ds.length := by omega
      subst hi
      rw [List.drop_eq_nil_of_le (Nat.le_refl _)] at hres
      have f := fin _ (hres.symm.trans rfl)
      exact .inl ⟨W.stop H' kp, f σ' H0' H' up (s'.fgt fs)⟩
  cases hr : forGo tg b fs ds δ with
  | bad => exact True.intro
  | er x => exact fun D q => turns D (by rw [hr]; exact fun z => nomatch z) (fun o z => by rw [hr] at z; cases z) fun y z => by rw [hr] at z; cases z; exact q
  | ok o => exact fun D q => turns D (by rw [hr]; exact fun z => nomatch z) (fun o z => by rw [hr] at z; cases z; exact q) fun y z => by rw [hr] at z; cases z
def whGo (c : DSt → R Bool) (b : DSt → R Out) (fs : List Nat) : Nat → DSt → R Out
  | 0, _ => .bad
  | n + 1, δ => (c (fgt δ fs)).bind fun t => if t then (b (fgt δ fs)).bind fun o => match o with
      | .nx δ2 => whGo c b fs n δ2
      | .ct δ2 => whGo c b fs n δ2
      | .bk δ2 => .ok (.nx (fgt δ2 fs))
      | .rt d => .ok (.rt d)
    else .ok (.nx (fgt δ fs))
theorem whGo_succ {c b fs n δ} : whGo c b fs (n + 1) δ = (c (fgt δ fs)).bind fun t => if t then (b (fgt δ fs)).bind fun o => match o with
      | .nx δ2 => whGo c b fs n δ2
      | .ct δ2 => whGo c b fs n δ2
      | .bk δ2 => .ok (.nx (fgt δ2 fs))
      | .rt d => .ok (.rt d)
    else .ok (.nx (fgt δ fs)) := rfl
theorem sd_while {tc : TT} {tb : TS} {c b} {fs : List Nat} (n : Nat) (hc : Ev K G E rB tc c) (hb : Sd K G E tb b) : Sd K G E (tWhile tc tb) (whGo c b fs n) := by
  intro B δ σ H0 H s
  have turns : ∀ D : Ends, whGo c b fs n δ ≠ .bad → (∀ o, whGo c b fs n δ = .ok o → EndOk K B H0 D o) → (∀ x, whGo c b fs n δ = .er x → ∀ cc dd H0' H', Us B H0 H0' H' → XR K G H0' H' cc dd x → E cc dd H') → tWhile tc tb D σ H := by
    intro D nb fin ex
    refine ⟨fun m σ' H' => ∃ H0' δ', Us B H0 H0' H' ∧ Sl K B H0' H' σ' δ' ∧ whGo c b fs m δ' = whGo c b fs n δ, ⟨n, H0, δ, s.us, s, rfl⟩, ?_⟩
    rintro m σ' H' ⟨H0', δ', up, s', hres⟩
    cases m with
    | zero => exact absurd hres.symm nb
    | succ m =>
      rw [whGo_succ] at hres
      have s1 := s'.fgt fs
      have z := hc B _ σ' H0' H' s1
      cases hcc : c (fgt δ' fs) with
      | bad => rw [hcc] at hres; exact absurd hres.symm nb
      | er xx =>
        rw [hcc] at z hres
        exact z _ fun cc dd Ha Hb ua xa => ex xx (hres.symm.trans rfl) cc dd Ha Hb (up.trans (ua.us s'.base)) xa
      | ok t =>
        rw [hcc] at z hres
        refine z _ fun t' Ha Hb ua e => ?_
        cases (show t' = t from e)
        have up2 := up.trans (ua.us s'.base)
        have s2 := s1.up ua
        cases t with
        | false =>
          have f := fin _ (hres.symm.trans rfl)
          exact f σ' Ha Hb up2 s2
        | true =>
          refine ⟨fun σ'' H'' => ∃ H0'' δ'', Us B H0 H0'' H'' ∧ Sl K B H0'' H'' σ'' δ'' ∧ whGo c b fs m δ'' = whGo c b fs n δ, fun σ'' H'' w => ⟨m, Nat.lt_succ_self m, w⟩, ?_⟩
          simp only [R.bind_ok, if_true] at hres
          have y := hb B _ σ' Ha Hb s2
          cases hbo : b (fgt δ' fs) with
          | bad => rw [hbo] at hres; exact absurd hres.symm nb
          | er xx =>
            rw [hbo] at y hres
            exact y _ fun cc dd Hc Hd uc xc => ex xx (hres.symm.trans rfl) cc dd Hc Hd (up2.trans uc) xc
          | ok o =>
            rw [hbo] at y hres
            refine y _ ?_
            cases o with
            | nx δ3 => exact fun σ4 Hc Hd uc sc => ⟨Hc, δ3, up2.trans uc, sc, hres⟩
            | ct δ3 => exact fun σ4 Hc Hd uc sc => ⟨Hc, δ3, up2.trans uc, sc, hres⟩
            | bk δ3 =>
              have f := fin _ (hres.symm.trans rfl)
              exact fun σ4 Hc Hd uc sc => f σ4 Hc Hd (up2.trans uc) (sc.fgt fs)
            | rt d =>
              have f := fin _ (hres.symm.trans rfl)
              exact fun v Hc Hd uc rc => f v Hc Hd (up2.trans uc) rc
  cases hr : whGo c b fs n δ with
  | bad => exact True.intro
  | er x => exact fun D q => turns D (by rw [hr]; exact fun z => nomatch z) (fun o z => by rw [hr] at z; cases z) fun y z => by rw [hr] at z; cases z; exact q
  | ok o => exact fun D q => turns D (by rw [hr]; exact fun z => nomatch z) (fun o z => by rw [hr] at z; cases z; exact q) fun y z => by rw [hr] at z; cases z
end
section
variable {G : Str → Addr} {E : XK} {X : Cx} {pos p p2 : Pos} {st : Stmt} {sts ss : List Stmt} {e a b : Expr}
theorem ds_for {tg iter : Expr} {body : List Stmt} {src tgf f} {vs : List Nat} (fs : List Nat) (hp : PassesOwn (model X.prog X.w) X.A X.env X.xe) (hc : X.calm = true) (hi : DI G E X true tg iter src) (hg : DG X vs tg tgf) (hb : Dss G E X body f)
    (hs : ∀ x, foldedSetIterable iter X.env x = pure x := by intro _; rfl) : Ds G E X (.For tg iter body [] pos) (dFor src tgf f fs) := by
  obtain ⟨w, h1, h2⟩ := hi
  obtain ⟨g, g1, g2⟩ := hg
  obtain ⟨t, b1, b2⟩ := hb
  exact ⟨_, ps_for hp hc h1 g1 b1 hs, sd_for h2 g2 b2⟩
theorem ds_while {c : Expr} {body : List Stmt} {h f} (n : Nat) (fs : List Nat) (hp : PassesOwn (model X.prog X.w) X.A X.env X.xe) (hc : Dt G E X c h) (hb : Dss G E X body f) : Ds G E X (.While c body [] pos) (whGo h f fs n) := by
  obtain ⟨t, h1, h2⟩ := hc
  obtain ⟨u, b1, b2⟩ := hb
  exact ⟨_, ps_while hp h1 b1, sd_while n h2 b2⟩

/-! ### an owned list lent as data, where a plain value comes back -/
def plain : D → Bool
  | .none => true
  | .bool _ => true
  | .int _ => true
  | .str _ => true
  | _ => false
theorem plain_rp {K : PySem.W.Frag} {H H' : Hp} {v : V} {d : D} (h : plain d = true) (r : Rp K H v d) : Rp K H' v d := by
  cases r with
  | non => exact .non
  | bl b => exact .bl b
  | int i => exact .int i
  | str s => exact .str s
  | lst _ _ => cases h
  | tup _ _ => cases h
  | scr _ _ => cases h
  | ob _ => cases h
def frzL : List Nat → DSt → DSt
  | [], δ => δ
  | i :: is, δ => frz1 i (frzL is δ)
theorem Sl.frzU {K : PySem.W.Frag} {B H0 H : Hp} {σ : L2.St} {δ : DSt} (s : Sl K B H0 H σ δ) : ∀ is : List Nat, ∃ H0', Us B H0 H0' H ∧ Sl K B H0' H σ (frzL is δ)
  | [] => ⟨H0, s.us, s⟩
  | i :: is => by
    obtain ⟨H1, u1, s1⟩ := Sl.frzU s is
    obtain ⟨H2, u2, s2⟩ := s1.frz1 i
    exact ⟨H2, u1.trans u2, s2⟩
def dLend (is : List Nat) (f : DSt → R D) : DSt → R D := fun δ => match f (frzL is δ) with
  | .ok d => if plain d then .ok d else .bad
  | _ => .bad
theorem de_lend {f} (is : List Nat) (h : De G E X e f) : De G E X e (dLend is f) := by
  obtain ⟨t, h1, h2⟩ := h
  refine ⟨t, h1, fun B δ σ H0 H s => ?_⟩
  obtain ⟨H1, u1, s1⟩ := s.frzU is
  have z := h2 B _ σ H1 H s1
  unfold dLend
  cases q : f (frzL is δ) with
  | bad => exact True.intro
  | er x => exact True.intro
  | ok d =>
    rw [q] at z
    show At X.K G E (rV X.K) H0 H (t σ H) (if plain d then .ok d else .bad)
    cases hp : plain d with
    | false => exact True.intro
    | true =>
      refine fun Q k => z Q fun v Ha Hb ua ra => k v H0 Hb ⟨.refl _, s.ex.right ua.c, ua.c, fun _ _ w => w, fun _ _ w => w⟩ (plain_rp hp ra)
def dLendT (is : List Nat) (f : DSt → R Bool) : DSt → R Bool := fun δ => match f (frzL is δ) with
  | .ok d => .ok d
  | _ => .bad
theorem dt_lend {f} (is : List Nat) (h : Dt G E X e f) : Dt G E X e (dLendT is f) := by
  obtain ⟨t, h1, h2⟩ := h
  refine ⟨t, h1, fun B δ σ H0 H s => ?_⟩
  obtain ⟨H1, u1, s1⟩ := s.frzU is
  have z := h2 B _ σ H1 H s1
  unfold dLendT
  cases q : f (frzL is δ) with
  | bad => exact True.intro
  | er x => exact True.intro
  | ok d =>
    rw [q] at z
    exact fun Q k => z Q fun v Ha Hb ua ra => k v H0 Hb ⟨.refl _, s.ex.right ua.c, ua.c, fun _ _ w => w, fun _ _ w => w⟩ ra

/-! ### xs[i] = e of an owned list -/
def dSetI (i : Nat) (g : DSt → R D) (f : DSt → R D) : DSt → R Out := fun δ => match δ[i]? with
  | some (SV.own ds) => (f δ).bind fun d => (g δ).bind fun k => match k with
    | .int k => match ixN ds.length k with
      | some j => .ok (.nx (δ.set i (.own (ds.set j d))))
      | none => .bad
    | _ => .bad
  | _ => .bad
theorem ds_setI {i : Nat} {x : Str} {f g} (hN : X.N[i]? = some x) (hv : Vis X.env.scope x) (hk : De G E X a g) (h : De G E X e f) (hd : (x == ("__debug__" : Str)) = false := by decide) (hcd : (x == ("__classdict__" : Str)) = false := by decide)
    (ha : ∀ v, assign (.Subscript (.Name x p) a p2) X.env v = (do
      let ov ← holding [v] (eval (.Name x p) X.env)
      let iv ← holding [v, ov] (eval a X.env)
      standAt p2
      holding [v, ov, iv] (setItem ov iv v)
      release [v, ov, iv] []) := by intro _; rfl)
    (hs : swapsWithSole [.Subscript (.Name x p) a p2] e pos.line X.env = pure false := by rfl) (hw : swappedStores [.Subscript (.Name x p) a p2] e X.env = pure none := by rfl)
    (h1 : (assignEach [.Subscript (.Name x p) a p2] X.env).map (·.2) = [assign (.Subscript (.Name x p) a p2) X.env] := by rfl) :
    Ds G E X (.Assign [.Subscript (.Name x p) a p2] e pos) (dSetI i g f) := by
  obtain ⟨t, k1, k2⟩ := h
  obtain ⟨u, l1, l2⟩ := hk
  refine ⟨_, ps_asg k1 (pg_sub (pe_var hN hv hd hcd) l1 set_list ha) hs hw h1, fun B δ σ H0 H s => ?_⟩
  unfold dSetI
  split
  · rename_i ds hi
    obtain ⟨q, vs, e1, h0, hb, hp, r⟩ := s.own i ds hi
    refine SAt.imp (sat_bind (t := t σ H) (k := fun v H1 D => u σ H1 fun y H2 => rSetL (.ref q) y v H2 fun H3 => D.nx σ H3) s.base (k2 B δ σ H0 H s) fun d v H1 H1' u1 rv => sat_bind (t := u σ H1') (k := fun y H2 D => rSetL (.ref q) y v H2 fun H3 => D.nx σ H3) (s.base.trans u1.c) (l2 B δ σ H1 H1' (s.up u1)) fun k y H2 H2' u2 rk => ?_) fun D w => ?_
    · split
      · cases (show Rp X.K H2 y _ from rk)
        split
        · rename_i j hj
          have u12 := u1.trans u2
          refine fun D kk => ⟨q, vs, _, j, rfl, rfl, u12.c _ _ hp, by rw [r.length]; exact hj, ?_⟩
          have q0 : H2 q = none := u12.d q (by rw [hp]; exact fun z => nomatch z) h0
          obtain ⟨u3, s3⟩ := (s.up u12).mut hi e1 q0 hb ((r.mono u12.a).set j (Rp.mono u2.a rv))
          exact kk σ H2 _ u3 s3
        · exact True.intro
      · exact True.intro
    · -- the value, then the list, then the index
      show t σ H fun x H1 => gSub (tVar i) u rSetL x σ H1 D.nx
      show t σ H fun x H1 => tVar i σ H1 fun o H2 => u σ H2 fun y H3 => rSetL o y x H3 fun H4 => D.nx σ H4
      have fin : (fun (x : V) (H1 : Hp) => tVar i σ H1 fun o H2 => u σ H2 fun y H3 => rSetL o y x H3 fun H4 => D.nx σ H4) = fun x H1 => ∃ v, σ[i]? = some (some v) ∧ u σ H1 fun y H3 => rSetL v y x H3 fun H4 => D.nx σ H4 := rfl
      rw [fin]
      have fin2 : (fun (x : V) (H1 : Hp) => ∃ v, σ[i]? = some (some v) ∧ u σ H1 fun y H3 => rSetL v y x H3 fun H4 => D.nx σ H4) = fun x H1 => u σ H1 fun y H3 => rSetL (.ref q) y x H3 fun H4 => D.nx σ H4 := by
        funext x H1
        refine propext ⟨fun ⟨v, e2, z⟩ => ?_, fun z => ⟨_, e1, z⟩⟩
        rw [e1] at e2
        cases e2
        exact z
      rw [fin2]
      exact w
  · exact True.intro

/-! ### defs and their calls -/
/-- the promise of a def that computes F -/
def spD (K : PySem.W.Frag) (G : Str → Addr) (n : Nat) (F : List D → R D) : Sp := fun vs H Q E => ∃ H0 ds, vs.length = n ∧ Fz H0 H ∧ RpAll K H0 vs ds ∧ F ds ≠ .bad ∧
  (∀ d, F ds = .ok d → ∀ v H0' H', Up H0 H H0' H' → Rp K H0' v d → Q v H') ∧ (∀ x, F ds = .er x → ∀ c dd H0' H', Up H0 H H0' H' → XR K G H0' H' c dd x → E c dd H')
def dCall (F : List D → R D) (f : DSt → R (List D)) : DSt → R D := fun δ => (f δ).bind F
theorem at_call {K : PySem.W.Frag} {n : Nat} {F : List D → R D} {H0 H : Hp} {vs : List V} {ds : List D} (e : Fz H0 H) (hn : vs.length = n) (r : RpAll K H0 vs ds) : At K G E (rV K) H0 H (fun Q => spD K G n F vs H Q E) (F ds) := by
  cases q : F ds with
  | bad => exact True.intro
  | er x => exact fun Q k => ⟨H0, ds, hn, e, r, by rw [q]; exact (fun z => nomatch z), (fun d z => by rw [q] at z; cases z), fun y z => by rw [q] at z; cases z; exact k⟩
  | ok d => exact fun Q k => ⟨H0, ds, hn, e, r, by rw [q]; exact (fun z => nomatch z), (fun y z => by rw [q] at z; cases z; exact k), fun y z => by rw [q] at z; cases z⟩
def dCallN (n : Nat) (F : List D → R D) (f : DSt → R (List D)) : DSt → R D := fun δ => (f δ).bind fun ds => if ds.length = n then F ds else .bad
theorem de_call {CX : CXT} {k : Nat} {f : Addr} {fd : FuncData} {ps : List Str} {x : Str} {n : Nat} {F : List D → R D} {g} {es : List Expr} (hF : FnOk X.prog X.w X.K X.mg X.base CX k f fd ps (spD X.K G n F)) (hr : Room k X.A) (hg : Gl X x) (hm : X.mg x = some (.ref f)) (hk : PySem.W.keepIn X.K (.ref f) = true)
    (hb : Binds X.K fd ps []) (hx : Passes CX X E) (ha : Da G E X (e :: es) g) (hdb : (x == ("__debug__" : Str)) = false := by decide) (he : starEach (e :: es) X.env = (false, eval e X.env) :: starEach es X.env := by rfl) (hpl : (backTo pos (starEach es X.env)).any (·.1) = false := by rfl) :
    De G E X (.Call (.Name x p) (e :: es) [] pos) (dCallN n F g) := by
  obtain ⟨t, h1, h2⟩ := ha
  refine ⟨_, pe_call hF hr hg hm hk hb .nil hx h1 hdb he hpl, fun B δ σ H0 H s => at_bind (t := t σ H) (k := fun vs H1 Q => spD X.K G n F (vs ++ []) H1 Q E) mV (h2 B δ σ H0 H s) fun ds vs H1 H1' u r => ?_⟩
  split
  · rename_i hn
    rw [List.append_nil]
    exact at_call u.b (by rw [r.length]; exact hn) r
  · exact True.intro
end
/-- what a def computes: its body from its arguments -/
def runF (m : Nat) (b : DSt → R Out) : List D → R D := fun ds => (b (ds.map SV.dat ++ List.replicate (m - ds.length) SV.no)).bind fun o => match o with
  | .rt d => .ok d
  | .nx _ => .ok .none
  | _ => .bad
theorem sl_start {K : PySem.W.Frag} {H0 H : Hp} {vs : List V} {ds : List D} {N : List Str} (e : Fz H0 H) (r : RpAll K H0 vs ds) (hl : vs.length ≤ N.length) : Sl K H H0 H (L2.start N vs) (ds.map SV.dat ++ List.replicate (N.length - ds.length) SV.no) := by
  have len := r.length
  have key : ∀ (i : Nat) (w : SV), (ds.map SV.dat ++ List.replicate (N.length - ds.length) SV.no)[i]? = some w → (∃ d, ds[i]? = some d ∧ w = .dat d) ∨ w = .no := fun i w h => by
    by_cases hi : i < ds.length
    · rw [List.getElem?_append_left (by simpa using hi), List.getElem?_map, List.getElem?_eq_getElem hi] at h
      cases h
      exact .inl ⟨_, List.getElem?_eq_getElem hi, rfl⟩
    · rw [List.getElem?_append_right (by simpa using hi), List.getElem?_replicate] at h
      split at h
      · cases h; exact .inr rfl
      · cases h
  refine ⟨.refl _, e, ?_, fun i d h => ?_, fun i es h => ?_, fun i j d1 d2 p hij h1 h2 => ?_⟩
  · unfold L2.start
    simp [len]
  · rcases key i _ h with ⟨d', h1, h2⟩ | h2
    · cases h2
      obtain ⟨v, hv, rv⟩ := r.get h1
      refine ⟨v, ?_, rv⟩
      unfold L2.start
      rw [List.getElem?_append_left (by simpa using (List.getElem?_eq_some_iff.mp hv).1), List.getElem?_map, hv]
      rfl
    · cases h2
  · rcases key i _ h with ⟨d', h1, h2⟩ | h2 <;> cases h2
  · rcases key i _ h1 with ⟨d', h3, h4⟩ | h4 <;> cases h4
/-- THE RULE: a def that lets no exception out, by what its body computes -/
theorem fnD {P : Program} {w : World} {K : PySem.W.Frag} {mg : Str → Option Value} {base : Heap} {G : Str → Addr} {x qual : Str} {st : Stmt} {f : Addr} {fd : FuncData} {N ps : List Str} {k m n : Nat} {b : DSt → R Out} (F : Fun K x qual st f fd) (S : FnScope N ps (defScope st)) (hm : N.length = m) (hn : ps.length = n)
    (hb : ∀ (cdv : Value) (A : Around) (outer : List Env) (s : Shared) (H : Hp) (E : XK), Room k (A.deeper (envOfC qual (defScope st) s.heap.objs.size f cdv)) → Dss G E0 (cxOf CX0 P w K mg base N qual (defScope st) f cdv A outer s H E).nox (defBody st) b) :
    FnOk P w K mg base CX0 (k + 1) f fd ps (spD K G n fun ds => (runF m b ds).noer) := by
  subst hm hn
  refine F.ok S (fun vs H Q E h => by obtain ⟨_, _, h, _⟩ := h; exact h) (fun cdv A outer s H vs Q E hr h => ?_)
  obtain ⟨H0, ds, hl, e, r, nb, q, _⟩ := h
  obtain ⟨t, h1, h2⟩ := hb cdv A outer s H E hr
  refine ⟨t, h1, ?_⟩
  have hpl : ps.length ≤ N.length := by have := congrArg List.length S.pre; rw [List.length_take] at this; omega
  have s0 := sl_start (N := N) e r (by omega)
  have z := h2 H _ _ H0 H s0
  unfold runF at nb q
  dsimp only at nb q
  cases hbo : b (ds.map SV.dat ++ List.replicate (N.length - ds.length) SV.no) with
  | bad => rw [hbo] at nb; exact absurd rfl nb
  | er y => rw [hbo] at nb; exact absurd rfl nb
  | ok o =>
    rw [hbo] at nb q z
    refine z _ ?_
    cases o with
    | nx δ => exact fun σ' H0' H' u s' => q _ rfl _ H0' H' ⟨u.a, u.b, u.c, fun p h1 h2 => u.d p h1 h2, u.g⟩ .non
    | rt d => exact fun v H0' H' u r' => q _ rfl _ H0' H' ⟨u.a, u.b, u.c, fun p h1 h2 => u.d p h1 h2, u.g⟩ r'
    | bk δ => exact absurd rfl nb
    | ct δ => exact absurd rfl nb
/-- a promise may be told by another function, where that one says as much -/
theorem FnOk.toD {P : Program} {w : World} {K : PySem.W.Frag} {mg : Str → Option Value} {base : Heap} {CX : CXT} {k : Nat} {f : Addr} {fd : FuncData} {ps : List Str} {G : Str → Addr} {n : Nat} {F F' : List D → R D} (h : FnOk P w K mg base CX k f fd ps (spD K G n F)) (e : ∀ ds, F' ds ≠ .bad → F ds = F' ds) : FnOk P w K mg base CX k f fd ps (spD K G n F') :=
  h.imp fun vs H Q E ⟨H0, ds, hl, hs, r, nb, q1, q2⟩ => ⟨H0, ds, hl, hs, r, by rw [e ds nb]; exact nb, by rw [e ds nb]; exact q1, by rw [e ds nb]; exact q2⟩
end Dn

namespace Dn
open PySem PySem.Spec PyProof.Rows L2

/-! ### a def of the text and what it computes, as a caller uses it -/
structure EntD (P : Program) (w : World) (K : PySem.W.Frag) (mg : Str → Option Value) (base : Heap) (G : Str → Addr) (x : Str) (k n : Nat) (F : List D → R D) : Prop where
  ex : ∃ f fd ps, FnOk P w K mg base CX0 k f fd ps (spD K G n F) ∧ Binds K fd ps [] ∧ mg x = some (.ref f) ∧ PySem.W.keepIn K (.ref f) = true
/-- a constant of the module -/
def CstD (K : PySem.W.Frag) (mg : Str → Option Value) (x : Str) (d : D) : Prop := ∃ v u, mg x = some u ∧ RelV v u ∧ ∀ H, Rp K H v d
/-- a def of the text as it stands behind the top -/
structure FunE (K : PySem.W.Frag) (mg : Str → Option Value) (x : Str) (st : Stmt) (ps : List Str) : Prop where
  ex : ∃ f fd, Fun K x x st f fd ∧ Binds K fd ps [] ∧ mg x = some (.ref f)
section
variable {G : Str → Addr} {E : XK} {X : Cx} {pos p p2 : Pos} {a b e : Expr} {es : List Expr}
theorem de_callE {x : Str} {k n : Nat} {F : List D → R D} {g} (h : EntD X.prog X.w X.K X.mg X.base G x k n F) (hr : Room k X.A) (hg : Gl X x) (ha : Da G E0 X (e :: es) g) (hdb : (x == ("__debug__" : Str)) = false := by decide)
    (he : starEach (e :: es) X.env = (false, eval e X.env) :: starEach es X.env := by rfl) (hpl : (backTo pos (starEach es X.env)).any (·.1) = false := by rfl) : De G E0 X (.Call (.Name x p) (e :: es) [] pos) (dCallN n F g) := by
  obtain ⟨f, fd, ps, h1, h2, h3, h4⟩ := h.ex
  exact de_call h1 hr hg h3 h4 h2 pass0 ha hdb he hpl
theorem de_cst {x : Str} {d : D} (h : CstD X.K X.mg x d) (hg : Gl X x) (hd : (x == ("__debug__" : Str)) = false := by decide) : De G E X (.Name x pos) (dC d) := by
  obtain ⟨v, u, h1, h2, h3⟩ := h
  exact de_glob hg h1 h2 h3 hd
theorem entD {P : Program} {w : World} {K : PySem.W.Frag} {mg : Str → Option Value} {base : Heap} {x : Str} {st : Stmt} {N ps : List Str} {k m n : Nat} {b : DSt → R Out} (F : FunE K mg x st ps) (S : FnScope N ps (defScope st)) (hm : N.length = m) (hn : ps.length = n)
    (hb : ∀ (f : Addr) (cdv : Value) (A : Around) (outer : List Env) (s : Shared) (H : Hp) (E : XK), Room k (A.deeper (envOfC x (defScope st) s.heap.objs.size f cdv)) → Dss G E0 (cxOf CX0 P w K mg base N x (defScope st) f cdv A outer s H E).nox (defBody st) b) :
    EntD P w K mg base G x (k + 1) n fun ds => (runF m b ds).noer := by
  obtain ⟨f, fd, h1, h2, h3⟩ := F.ex
  exact ⟨f, fd, ps, fnD h1 S hm hn (hb f), h2, h3, h1.kp⟩
theorem EntD.to {P : Program} {w : World} {K : PySem.W.Frag} {mg : Str → Option Value} {base : Heap} {x : Str} {k n : Nat} {F F' : List D → R D} (h : EntD P w K mg base G x k n F) (e : ∀ ds, F' ds ≠ .bad → F ds = F' ds) : EntD P w K mg base G x k n F' := by
  obtain ⟨f, fd, ps, h1, h2⟩ := h.ex
  exact ⟨f, fd, ps, FnOk.toD h1 e, h2⟩
theorem EntD.mono {P : Program} {w : World} {K : PySem.W.Frag} {mg : Str → Option Value} {base : Heap} {x : Str} {j k n : Nat} {F : List D → R D} (h : EntD P w K mg base G x j n F) (l : j ≤ k) : EntD P w K mg base G x k n F := by
  obtain ⟨f, fd, ps, h1, h2⟩ := h.ex
  exact ⟨f, fd, ps, h1.mono l, h2⟩

theorem rp_ints (K : PySem.W.Frag) (H : Hp) : ∀ ns : List Int, RpAll K H (ns.map V.int) (ns.map PyData.int)
  | [] => .nil
  | n :: ns => .cons (.int n) (rp_ints K H ns)

/-! ### in, not in -/
def flatD : D → Bool
  | .none => true
  | .bool _ => true
  | .int _ => true
  | .str _ => true
  | _ => false
theorem flat_rp {K : PySem.W.Frag} {H : Hp} {v : V} {d : D} (r : Rp K H v d) (h : flatD d = true) : flatV v = true := by
  cases r <;> first | rfl | cases h
theorem eq_rp {K : PySem.W.Frag} {H : Hp} {v w : V} {d e : D} (r : Rp K H v d) (r' : Rp K H w e) (h : flatD d = true) (h' : flatD e = true) : eqV v w = PyData.eqv d e := by
  cases r with
  | lst _ _ => cases h
  | tup _ _ => cases h
  | scr _ _ => cases h
  | ob _ => cases h
  | non => cases r' <;> first | simp only [eqV, PyData.eqv] | cases h'
  | bl _ => cases r' <;> first | simp only [eqV, PyData.eqv] | cases h'
  | int _ => cases r' <;> first | simp only [eqV, PyData.eqv] | cases h'
  | str _ => cases r' <;> first | simp only [eqV, PyData.eqv] | cases h'
theorem in_rp {K : PySem.W.Frag} {H : Hp} {v : V} {d : D} (r : Rp K H v d) (h : flatD d = true) : ∀ {vs : List V} {ds : List D}, RpAll K H vs ds → ds.all flatD = true → (vs.all flatV = true ∧ inV v vs = ds.any fun z => PyData.eqv z d)
  | _, _, .nil, _ => ⟨rfl, rfl⟩
  | _, _, .cons a b, q => by
    simp only [List.all_cons, Bool.and_eq_true] at q
    obtain ⟨h1, h2⟩ := in_rp r h b q.2
    refine ⟨by simp only [List.all_cons, Bool.and_eq_true]; exact ⟨flat_rp a q.1, h1⟩, ?_⟩
    unfold inV at h2 ⊢
    simp only [List.any_cons]
    rw [h2, eq_rp a r q.1 h]
def P.inF (neg : Bool) (x : D) (y : Op) : R D := match asSq y with
  | some ds => if flatD x && ds.all flatD then .ok (.bool (if neg then !ds.any fun z => PyData.eqv z x else ds.any fun z => PyData.eqv z x)) else .bad
  | none => match x, y with
    | .str a, .d (.str z) => match a.cps.toList with
      | [c] => .ok (.bool (if neg then !decide (c ∈ z.cps.toList) else decide (c ∈ z.cps.toList)))
      | _ => .bad
    | _, _ => .bad
def dIn (neg : Bool) (f : DSt → R D) (g : DSt → R Op) : DSt → R D := fun δ => (f δ).bind fun x => (g δ).bind fun y => P.inF neg x y
theorem str1 {a : Str} {c : Nat} (h : a.cps.toList = [c]) : a = ⟨#[c]⟩ := by
  cases a with
  | mk cps =>
    have : cps = #[c] := by
      apply Array.toList_inj.mp
      exact h
    rw [this]
theorem dc_in {f g} (hm : behindInMarks .In b = false) (ha : De G E X a f) (hb : DO G E X b g) : DC G E X .In a b (dIn false f g) := by
  obtain ⟨t, h1, h2⟩ := ha
  obtain ⟨u, k1, k2⟩ := hb
  refine ⟨_, _, _, op_or op_in_seq op_in_sign, h1, k1, hm, ev_op sV mV h2 k2 fun x y v w Hs Hs' H0 H e rx ry => ?_⟩
  unfold P.inF
  split
  · rename_i ds hd
    split
    · rename_i q
      simp only [Bool.and_eq_true] at q
      obtain ⟨p', vs, rfl, hq, r⟩ := as_sq e ry hd
      obtain ⟨i1, i2⟩ := in_rp rx q.1 r q.2
      refine fun Q k => .inl ⟨_, _, rfl, hq, flat_rp rx q.1, i1, ?_⟩
      rw [i2]
      exact k _ H0 H (.refl e) (.bl _)
    · exact True.intro
  · split
    · split
      · rename_i c hc
        cases (show Rp X.K H0 v _ from rx); cases (show Rp X.K H0 w _ from ry)
        exact fun Q k => .inr ⟨c, _, by rw [← str1 hc], rfl, k _ H0 H (.refl e) (.bl _)⟩
      · exact True.intro
    · exact True.intro
theorem dc_notIn {f g} (hm : behindInMarks .NotIn b = false) (ha : De G E X a f) (hb : DO G E X b g) : DC G E X .NotIn a b (dIn true f g) := by
  obtain ⟨t, h1, h2⟩ := ha
  obtain ⟨u, k1, k2⟩ := hb
  refine ⟨_, _, _, op_or op_notIn_seq op_notIn_sign, h1, k1, hm, ev_op sV mV h2 k2 fun x y v w Hs Hs' H0 H e rx ry => ?_⟩
  unfold P.inF
  split
  · rename_i ds hd
    split
    · rename_i q
      simp only [Bool.and_eq_true] at q
      obtain ⟨p', vs, rfl, hq, r⟩ := as_sq e ry hd
      obtain ⟨i1, i2⟩ := in_rp rx q.1 r q.2
      refine fun Q k => .inl ⟨_, _, rfl, hq, flat_rp rx q.1, i1, ?_⟩
      rw [i2]
      exact k _ H0 H (.refl e) (.bl _)
    · exact True.intro
  · split
    · split
      · rename_i c hc
        cases (show Rp X.K H0 v _ from rx); cases (show Rp X.K H0 w _ from ry)
        exact fun Q k => .inr ⟨c, _, by rw [← str1 hc], rfl, k _ H0 H (.refl e) (.bl _)⟩
      · exact True.intro
    · exact True.intro

/-! ### {'a': 'b', ..}[e], written texts -/
def dlook (kvs : List (Str × Str)) (s : Str) : Option V := valV (mergeK [] (kvs.map fun p => (Sum.inr p.1, V.str p.2))) (.inr s)
def dLit (kvs : List (Str × Str)) (f : DSt → R D) : DSt → R D := fun δ => (f δ).bind fun k => match k with
  | .str s => match dlook kvs s with
    | some (.str r) => .ok (.str r)
    | _ => .bad
  | _ => .bad
theorem pairs_str : ∀ (kvs : List (Str × Str)) (σ : L2.St) (H : Hp) (Q : List (V × V) → Hp → Prop), Q (kvs.map fun p => (V.str p.1, V.str p.2)) H → tPairs (kvs.map fun p => (tC (.str p.1), tC (.str p.2))) σ H Q
  | [], _, _, _, q => q
  | p :: r, σ, H, Q, q => pairs_str r σ H (fun ps H3 => Q ((V.str p.1, V.str p.2) :: ps) H3) q
theorem de_dlit {keys : List (Option Expr)} {values : List Expr} {kvs : List (Str × Str)} {f} (hu : X.A.units + 1 < cLine) (h : PPs X p keys values (kvs.map fun q => (tC (.str q.1), tC (.str q.2)))) (hk : De G E X e f) (hn : NoSl e)
    (h15 : kvs.length ≤ 15) (hall : keys.all (·.isSome) = true := by rfl) (hl : keys.length = values.length := by rfl) (h0 : keys ≠ [] := by intro z; cases z) (h15' : keys.length ≤ 15 := by decide) :
    De G E X (.Subscript (.Dict keys values p) e pos) (dLit kvs f) := by
  obtain ⟨t, h1, h2⟩ := hk
  refine ⟨_, pe_dget hu (pe_disp h hall hl h0 h15') h1 hn, fun B δ σ H0 H s => ?_⟩
  have key : ∀ q, H q = none → ∀ Q : V → Hp → Prop, (t σ (upd H q (.dK (mergeK [] (kvs.map fun p => (Sum.inr p.1, V.str p.2))))) fun y H2 => ∃ a v, V.ref q = .ref a ∧ DGet H2 a y (some v) ∧ Q v H2) →
      tPairs (kvs.map fun q => (tC (.str q.1), tC (.str q.2))) σ (upd H q (.dK [])) fun ps H2 => H2 q = some (.dK []) ∧ ∃ kvs : List (Key × V), ps = kvs.map (fun kv => (kV kv.1, kv.2)) ∧ kvs.length ≤ 15 ∧ (fun x H1 => t σ H1 fun y H2 => ∃ a v, x = V.ref a ∧ DGet H2 a y (some v) ∧ Q v H2) (.ref q) (upd H2 q (.dK (mergeK [] kvs))) := by
    intro q hq Q z
    refine pairs_str kvs σ _ _ ⟨upd_same, kvs.map fun p => (Sum.inr p.1, V.str p.2), ?_, by simpa using h15, ?_⟩
    · rw [List.map_map]
      rfl
    · show t σ (upd (upd H q (.dK [])) q (.dK _)) _
      rw [upd_upd]
      exact z
  have run : ∀ q, H q = none → At X.K G E (rV X.K) H0 H (fun Q => t σ (upd H q (.dK (mergeK [] (kvs.map fun p => (Sum.inr p.1, V.str p.2))))) fun y H2 => ∃ a v, V.ref q = .ref a ∧ DGet H2 a y (some v) ∧ Q v H2) (dLit kvs f δ) := by
    intro q hq
    have u0 : Up H0 H H0 (upd H q (.dK (mergeK [] (kvs.map fun p => (Sum.inr p.1, V.str p.2))))) := Up.own s.ex hq
    have z := at_bind (t := t σ (upd H q (.dK (mergeK [] (kvs.map fun p => (Sum.inr p.1, V.str p.2)))))) (k := fun y H2 Q => ∃ a v, V.ref q = .ref a ∧ DGet H2 a y (some v) ∧ Q v H2) (r2 := rV X.K) mV (h2 B δ σ H0 _ (s.up u0)) (g := fun k => match k with
      | .str s => match dlook kvs s with
        | some (.str r) => .ok (.str r)
        | _ => .bad
      | _ => .bad) fun k y H1 H1' u1 rk => by
        cases k with
        | str s' =>
          cases (show Rp X.K H1 y _ from rk)
          show At X.K G E (rV X.K) H1 H1' _ (match dlook kvs s' with | some (.str r) => R.ok (PyData.str r) | _ => .bad)
          split
          · rename_i r hr
            refine fun Q kk => ⟨q, _, rfl, ?_, kk _ H1 H1' (.refl u1.b) (.str r)⟩
            have g := DGet.k (k := Sum.inr s') (u1.c q _ upd_same)
            unfold dlook at hr
            rw [hr] at g
            exact g
          · exact True.intro
        | _ => exact True.intro
    show At X.K G E (rV X.K) H0 H _ (dLit kvs f δ)
    unfold dLit
    cases e0 : (f δ).bind (fun k => match k with
      | .str s => match dlook kvs s with
        | some (.str r) => R.ok (PyData.str r)
        | _ => .bad
      | _ => .bad) with
    | bad => exact True.intro
    | er x => rw [e0] at z; exact fun Q k => z Q fun c dd Ha Hb ua xa => k c dd Ha Hb (u0.trans ua) xa
    | ok d => rw [e0] at z; exact fun Q k => z Q fun v Ha Hb ua ra => k v Ha Hb (u0.trans ua) ra
  cases e0 : dLit kvs f δ with
  | bad => exact True.intro
  | er x =>
    intro Q k q hq
    have z := run q hq
    rw [e0] at z
    exact key q hq Q (z Q k)
  | ok d =>
    intro Q k q hq
    have z := run q hq
    rw [e0] at z
    exact key q hq Q (z Q k)
end
end Dn

namespace Dn
open PySem PySem.Spec PyProof.Rows L2

def dYesN : DSt → R Bool := fun δ => (dYes δ).noer
section
variable {G : Str → Addr} {E : XK} {X : Cx} {pos p p2 : Pos} {a b c e : Expr} {es : List Expr}
/-! ### a <= b < c, ints -/
def IntOp (X : Cx) (o : CmpOp) (g : Int → Int → Bool) : Prop := OpR X (compareOp o) (rI0 fun i j => .bl (g i j))
theorem io_lt : IntOp X .Lt fun i j => decide (i < j) := op_lt
theorem io_le : IntOp X .LtE fun i j => decide (i ≤ j) := op_le
theorem io_gt : IntOp X .Gt fun i j => decide (j < i) := op_gt
theorem io_ge : IntOp X .GtE fun i j => decide (j ≤ i) := op_ge
abbrev gLt : Int → Int → Bool := fun i j => decide (i < j)
abbrev gLe : Int → Int → Bool := fun i j => decide (i ≤ j)
abbrev gGt : Int → Int → Bool := fun i j => decide (j < i)
abbrev gGe : Int → Int → Bool := fun i j => decide (j ≤ i)
def dChain (g g' : Int → Int → Bool) (f k l : DSt → R D) : DSt → R D := fun δ => (f δ).bind fun x => (k δ).bind fun y => (P.cmp g x y).bind fun z => (P.tru z).bind fun q => if q then (l δ).bind fun w => P.cmp g' y w else .ok (.bool false)
theorem ev_chain {K : PySem.W.Frag} {g g' : Int → Int → Bool} {ta tb tc : TE} {f k l} (ha : Ev K G E (rV K) ta f) (hb : Ev K G E (rV K) tb k) (hc : Ev K G E (rV K) tc l) :
    Ev K G E (rV K) (tChain (rI0 fun i j => .bl (g i j)) (rI0 fun i j => .bl (g' i j)) ta tb tc) (dChain g g' f k l) := fun B δ σ H0 H s =>
  at_bind (t := ta σ H) (k := fun x H1 Q => tb σ H1 fun y H2 => rI0 (fun i j => .bl (g i j)) x y H2 fun z H3 => ∃ k, z = .bl k ∧ (if k = true then tc σ H3 fun w' H4 => rI0 (fun i j => .bl (g' i j)) y w' H4 Q else Q (.bl false) H3)) mV (ha B δ σ H0 H s) fun x v H1 H1' u rx =>
  at_bind (t := tb σ H1') (k := fun y H2 Q => rI0 (fun i j => .bl (g i j)) v y H2 fun z H3 => ∃ k, z = .bl k ∧ (if k = true then tc σ H3 fun w' H4 => rI0 (fun i j => .bl (g' i j)) y w' H4 Q else Q (.bl false) H3)) mV (hb B δ σ H1 H1' (s.up u)) fun y w H2 H2' u2 ry => by
    cases x with
    | int i =>
      cases y with
      | int j =>
        cases (show Rp K H1 v _ from rx); cases (show Rp K H2 w _ from ry)
        show At K G E (rV K) H2 H2' _ (if g i j = true then (l δ).bind fun w => P.cmp g' (PyData.int j) w else R.ok (PyData.bool false))
        cases q : g i j with
        | true =>
          refine At.imp (t := fun Q => tc σ H2' fun w' H4 => rI0 (fun i j => .bl (g' i j)) (.int j) w' H4 Q) (at_bind (t := tc σ H2') (k := fun w' H4 Q => rI0 (fun i j => .bl (g' i j)) (.int j) w' H4 Q) mV (hc B δ σ H2 H2' ((s.up u).up u2)) fun z w' H3 H3' u3 rz => ?_) fun Q h => ⟨i, j, rfl, rfl, true, congrArg V.bl q, h⟩
          cases z with
          | int k =>
            cases (show Rp K H3 w' _ from rz)
            exact fun Q h => ⟨_, _, rfl, rfl, h _ H3 H3' (.refl u3.b) (.bl _)⟩
          | _ => exact True.intro
        | false => exact fun Q h => ⟨i, j, rfl, rfl, false, congrArg V.bl q, h _ H2 H2' (.refl u2.b) (.bl _)⟩
      | _ => exact True.intro
    | _ => exact True.intro
theorem de_chain {o o' : CmpOp} {g g' : Int → Int → Bool} {f k l} (ho : IntOp X o g) (ho' : IntOp X o' g') (ha : De G E X a f) (hb : De G E X b k) (hc : De G E X c l) (hm : lastMarks [o, o'] [b, c] = false := by with_unfolding_all rfl) :
    De G E X (.Compare a [o, o'] [b, c] pos) (dChain g g' f k l) := by
  obtain ⟨t, h1, h2⟩ := ha
  obtain ⟨u, k1, k2⟩ := hb
  obtain ⟨w, l1, l2⟩ := hc
  exact ⟨_, pe_chain ho ho' h1 k1 l1 hm, ev_chain h2 k2 l2⟩
theorem dt_chain {o o' : CmpOp} {g g' : Int → Int → Bool} {f k l} (ho : IntOp X o g) (ho' : IntOp X o' g') (ha : De G E X a f) (hb : De G E X b k) (hc : De G E X c l) (hm : lastMarks [o, o'] [b, c] = false := by with_unfolding_all rfl) :
    Dt G E X (.Compare a [o, o'] [b, c] pos) (dTru (dChain g g' f k l)) := by
  obtain ⟨t, h1, h2⟩ := ha
  obtain ⟨u, k1, k2⟩ := hb
  obtain ⟨w, l1, l2⟩ := hc
  refine ⟨_, pt_chain ho ho' h1 k1 l1 hm, fun B δ σ H0 H s => at_bind (t := tChain (rI0 fun i j => .bl (g i j)) (rI0 fun i j => .bl (g' i j)) t u w σ H) mB (ev_chain h2 k2 l2 B δ σ H0 H s) fun x v H1 H1' u rx => ?_⟩
  unfold P.tru
  split
  · cases (show Rp X.K H1 v _ from rx)
    exact fun Q q => ⟨_, rfl, q _ H1 H1' (.refl u.b) rfl⟩
  · exact True.intro

/-! ### ints within data -/
def intsD : List D → Option (List Int)
  | [] => some []
  | .int i :: ds => (intsD ds).map (i :: ·)
  | _ => none
theorem intsD_eq : ∀ {ds : List D} {ns : List Int}, intsD ds = some ns → ds = ns.map PyData.int
  | [], _, h => by cases h; rfl
  | .int i :: ds, _, h => by
    unfold intsD at h
    cases q : intsD ds with
    | none => rw [q] at h; cases h
    | some ms =>
      rw [q] at h
      cases h
      rw [intsD_eq q]
      rfl
theorem intsD_map : ∀ ns : List Int, intsD (ns.map PyData.int) = some ns
  | [] => rfl
  | n :: ns => by
    show (intsD (ns.map PyData.int)).map _ = _
    rw [intsD_map ns]
    rfl
/-! ### < of ints and of tuples of ints -/
def tupI : D → Option (List Int)
  | .tuple ds => intsD ds
  | _ => none
theorem tupI_eq {d : D} {ns : List Int} (h : tupI d = some ns) : d = .tuple (ns.map PyData.int) := by
  cases d with
  | tuple ds => rw [intsD_eq h]
  | _ => cases h
theorem tupI_rp {K : PySem.W.Frag} {H0 H : Hp} {v : V} {d : D} {ns : List Int} (e : Fz H0 H) (r : Rp K H0 v d) (h : tupI d = some ns) : ∃ t, v = .ref t ∧ SqT K H t (ns.map V.int) := by
  have := tupI_eq h
  subst this
  cases r with
  | tup h1 h2 =>
    have z := RpAll.ints h2
    subst z
    exact ⟨_, rfl, e.tup h1⟩
def P.ltG (x y : D) : R D := match x, y with
  | .int i, .int j => .ok (.bool (decide (i < j)))
  | _, _ => match tupI x, tupI y with
    | some a, some b => .ok (.bool (HT.lexLt a b))
    | _, _ => .bad
def dLtG (f g : DSt → R D) : DSt → R D := fun δ => (f δ).bind fun x => (g δ).bind fun y => P.ltG x y
theorem dc_ltG {f g} (hu : X.A.units < cLine) (ha : De G E X a f) (hb : De G E X b g) : DC G E X .Lt a b (dLtG f g) := by
  obtain ⟨t, h1, h2⟩ := ha
  obtain ⟨u, k1, k2⟩ := hb
  refine ⟨_, _, _, op_or op_lt (op_ltT hu), h1, k1, nomark _, ev_op sV mV h2 k2 fun x y v w Hs Hs' H0 H e rx ry => ?_⟩
  unfold P.ltG
  split
  · cases (show Rp X.K H0 v _ from rx); cases (show Rp X.K H0 w _ from ry)
    exact fun Q k => .inl ⟨_, _, rfl, rfl, k _ H0 H (.refl e) (.bl _)⟩
  · split
    · rename_i a b ha hb
      obtain ⟨t, rfl, ht⟩ := tupI_rp e rx ha
      obtain ⟨t', rfl, ht'⟩ := tupI_rp e ry hb
      exact fun Q k => .inr ⟨_, _, _, _, rfl, rfl, ht, ht', k _ H0 H (.refl e) (.bl _)⟩
    · exact True.intro

/-! ### in, not in, whatever the items are -/
theorem hu65 {k : Nat} {A : Around} (r : Room k A) : A.units + 65 < cLine := by have := r.un; omega
def rInS (K : PySem.W.Frag) (n : Bool) : R2 := fun x y H Q => ∃ d ds, Dp K H x d ∧ (Dp K H y (.list ds) ∧ SeqAt.shaped (.list ds) = true ∨ Dp K H y (.tuple ds) ∧ SeqAt.shaped (.tuple ds) = true) ∧ SeqAt.shaped d = true ∧ Q (.bl (if n then !ds.any fun z => PyData.eqv z d else ds.any fun z => PyData.eqv z d)) H
theorem op_inS (hu : X.A.units + 65 < cLine) : OpR X (compareOp .In) (rInS X.K false) := by
  intro pins s σ H x y v u Q I rx ry h
  obtain ⟨d, ds, hd, he, sd, q⟩ := h
  obtain ⟨as, r1⟩ := Dp.reads I d x v hd rx
  rcases he with ⟨he, se⟩ | ⟨he, se⟩
  · obtain ⟨bs, r2⟩ := Dp.reads I (.list ds) y u he ry
    exact SeqAt.in_list_reads r2 r1 (SeqAt.canLay_of_shaped se) (SeqAt.canLay_of_shaped sd) (room_in_shaped sd hu) ⟨.bl _, H, I, rfl, q⟩
  · obtain ⟨bs, r2⟩ := Dp.reads I (.tuple ds) y u he ry
    exact SeqAt.in_tuple_reads r2 r1 (SeqAt.canLay_of_shaped se) (SeqAt.canLay_of_shaped sd) (room_in_shaped sd hu) ⟨.bl _, H, I, rfl, q⟩
theorem op_notInS (hu : X.A.units + 65 < cLine) : OpR X (compareOp .NotIn) (rInS X.K true) := by
  intro pins s σ H x y v u Q I rx ry h
  obtain ⟨d, ds, hd, he, sd, q⟩ := h
  obtain ⟨as, r1⟩ := Dp.reads I d x v hd rx
  rcases he with ⟨he, se⟩ | ⟨he, se⟩
  · obtain ⟨bs, r2⟩ := Dp.reads I (.list ds) y u he ry
    exact SeqAt.notIn_list_reads r2 r1 (SeqAt.canLay_of_shaped se) (SeqAt.canLay_of_shaped sd) (room_in_shaped sd hu) ⟨.bl _, H, I, rfl, q⟩
  · obtain ⟨bs, r2⟩ := Dp.reads I (.tuple ds) y u he ry
    exact SeqAt.notIn_tuple_reads r2 r1 (SeqAt.canLay_of_shaped se) (SeqAt.canLay_of_shaped sd) (room_in_shaped sd hu) ⟨.bl _, H, I, rfl, q⟩
def seqD : Op → Option (List D)
  | .o ds => some ds
  | .d (.list ds) => some ds
  | .d (.tuple ds) => some ds
  | _ => none
def P.inS (neg : Bool) (x : D) (y : Op) : R D := match seqD y with
  | some ds => if (flatD x && ds.all flatD) || (SeqAt.shaped x && SeqAt.shaped (opD y)) then .ok (.bool (if neg then !ds.any fun z => PyData.eqv z x else ds.any fun z => PyData.eqv z x)) else .bad
  | none => P.inF neg x y
def dInS (neg : Bool) (f : DSt → R D) (g : DSt → R Op) : DSt → R D := fun δ => (f δ).bind fun x => (g δ).bind fun y => P.inS neg x y
theorem seqD_asSq {y : Op} {ds : List D} (h : seqD y = some ds) : asSq y = some ds := by
  cases y with
  | o es => exact h
  | d d => cases d <;> first | exact h | cases h
theorem in_dp {K : PySem.W.Frag} {Hs H0 H : Hp} {v : V} {y : Op} {ds : List D} (e : Fz H0 H) (r : rP K Hs H0 H v y) (h : seqD y = some ds) (q : SeqAt.shaped (opD y) = true) :
    Dp K H v (.list ds) ∧ SeqAt.shaped (.list ds) = true ∨ Dp K H v (.tuple ds) ∧ SeqAt.shaped (.tuple ds) = true := by
  have z := op_dp e r q
  cases y with
  | o es => cases h; exact .inl ⟨z, q⟩
  | d d =>
    cases d with
    | list es => cases h; exact .inl ⟨z, q⟩
    | tuple es => cases h; exact .inr ⟨z, q⟩
    | _ => cases h
theorem dc_inS {f g} (hm : behindInMarks .In b = false) (hu : X.A.units + 65 < cLine) (ha : De G E X a f) (hb : DO G E X b g) : DC G E X .In a b (dInS false f g) := by
  obtain ⟨t, h1, h2⟩ := ha
  obtain ⟨u, k1, k2⟩ := hb
  refine ⟨_, _, _, op_or (op_or op_in_seq op_in_sign) (op_inS hu), h1, k1, hm, ev_op sV mV h2 k2 fun x y v w Hs Hs' H0 H e rx ry => ?_⟩
  unfold P.inS
  split
  · rename_i ds hd
    split
    · rename_i q
      cases q1 : flatD x && ds.all flatD with
      | true =>
        simp only [Bool.and_eq_true] at q1
        obtain ⟨p', vs, rfl, hq, r⟩ := as_sq e ry (seqD_asSq hd)
        obtain ⟨i1, i2⟩ := in_rp rx q1.1 r q1.2
        refine fun Q k => .inl (.inl ⟨_, _, rfl, hq, flat_rp rx q1.1, i1, ?_⟩)
        rw [i2]
        exact k _ H0 H (.refl e) (.bl _)
      | false =>
        rw [q1, Bool.false_or, Bool.and_eq_true] at q
        exact fun Q k => .inr ⟨_, _, Rp.dp e rx (SeqAt.canLay_of_shaped q.1), in_dp e ry hd q.2, q.1, k _ H0 H (.refl e) (.bl _)⟩
    · exact True.intro
  · unfold P.inF
    split
    · rename_i ds hd
      split
      · rename_i q
        simp only [Bool.and_eq_true] at q
        obtain ⟨p', vs, rfl, hq, r⟩ := as_sq e ry hd
        obtain ⟨i1, i2⟩ := in_rp rx q.1 r q.2
        refine fun Q k => .inl (.inl ⟨_, _, rfl, hq, flat_rp rx q.1, i1, ?_⟩)
        rw [i2]
        exact k _ H0 H (.refl e) (.bl _)
      · exact True.intro
    · split
      · split
        · rename_i c hc
          cases (show Rp X.K H0 v _ from rx); cases (show Rp X.K H0 w _ from ry)
          exact fun Q k => .inl (.inr ⟨c, _, by rw [← str1 hc], rfl, k _ H0 H (.refl e) (.bl _)⟩)
        · exact True.intro
      · exact True.intro
theorem dc_notInS {f g} (hm : behindInMarks .NotIn b = false) (hu : X.A.units + 65 < cLine) (ha : De G E X a f) (hb : DO G E X b g) : DC G E X .NotIn a b (dInS true f g) := by
  obtain ⟨t, h1, h2⟩ := ha
  obtain ⟨u, k1, k2⟩ := hb
  refine ⟨_, _, _, op_or (op_or op_notIn_seq op_notIn_sign) (op_notInS hu), h1, k1, hm, ev_op sV mV h2 k2 fun x y v w Hs Hs' H0 H e rx ry => ?_⟩
  unfold P.inS
  split
  · rename_i ds hd
    split
    · rename_i q
      cases q1 : flatD x && ds.all flatD with
      | true =>
        simp only [Bool.and_eq_true] at q1
        obtain ⟨p', vs, rfl, hq, r⟩ := as_sq e ry (seqD_asSq hd)
        obtain ⟨i1, i2⟩ := in_rp rx q1.1 r q1.2
        refine fun Q k => .inl (.inl ⟨_, _, rfl, hq, flat_rp rx q1.1, i1, ?_⟩)
        rw [i2]
        exact k _ H0 H (.refl e) (.bl _)
      | false =>
        rw [q1, Bool.false_or, Bool.and_eq_true] at q
        exact fun Q k => .inr ⟨_, _, Rp.dp e rx (SeqAt.canLay_of_shaped q.1), in_dp e ry hd q.2, q.1, k _ H0 H (.refl e) (.bl _)⟩
    · exact True.intro
  · unfold P.inF
    split
    · rename_i ds hd
      split
      · rename_i q
        simp only [Bool.and_eq_true] at q
        obtain ⟨p', vs, rfl, hq, r⟩ := as_sq e ry hd
        obtain ⟨i1, i2⟩ := in_rp rx q.1 r q.2
        refine fun Q k => .inl (.inl ⟨_, _, rfl, hq, flat_rp rx q.1, i1, ?_⟩)
        rw [i2]
        exact k _ H0 H (.refl e) (.bl _)
      · exact True.intro
    · split
      · split
        · rename_i c hc
          cases (show Rp X.K H0 v _ from rx); cases (show Rp X.K H0 w _ from ry)
          exact fun Q k => .inl (.inr ⟨c, _, by rw [← str1 hc], rfl, k _ H0 H (.refl e) (.bl _)⟩)
        · exact True.intro
      · exact True.intro

/-! ### str(n) -/
def P.str : Op → R D
  | .d (.int i) => if i.natAbs.log2 < 1920 then .ok (.str (toString i)) else .bad
  | _ => .bad
theorem de_strI {f} (hg : Gl X "str") (hm : X.mg "str" = none) (hv : bootBuiltins "str" = some (.type "str")) (ha : DO G E X e f) (he : starEach [e] X.env = (false, eval e X.env) :: starEach [] X.env := by rfl) (hpl : (backTo pos (starEach [] X.env)).any (·.1) = false := by rfl) :
    De G E X (.Call (.Name "str" p) [e] [] pos) (d1 P.str f) := by
  obtain ⟨t, h1, h2⟩ := ha
  refine ⟨_, pe_callTy call_str_int hg hm hv (pa_cons h1 pa_nil he) (by decide) (by decide) he hpl, ev_cb1 mV h2 fun x v Hs H0 H e rx => ?_⟩
  unfold P.str
  split
  · split
    · rename_i q
      cases (show Rp X.K H0 v _ from rx)
      exact fun Q k => ⟨_, rfl, q, k _ H0 H (.refl e) (.str _)⟩
    · exact True.intro
  · exact True.intro

/-! ### sorted(xs), xs of tuples of ints -/
def BIG : Int := 1000000000000000000000000000000
def bigI (n : Int) : Bool := decide (0 ≤ n) && decide (n < BIG)
theorem bd_of {ns : List Int} (h : ns.all bigI = true) : TS.Bd BIG ns := fun m hm => by
  have z := List.all_eq_true.mp h m hm
  unfold bigI at z
  simpa using z
theorem code_lex : ∀ {x y : List Int}, x.length = y.length → TS.Bd BIG x → TS.Bd BIG y → (TS.code BIG x < TS.code BIG y ↔ HT.lexLt x y = true)
  | [], [], _, _, _ => by simp [HT.lexLt, TS.code]
  | [], _ :: _, h, _, _ => by cases h
  | _ :: _, [], h, _, _ => by cases h
  | i :: x, j :: y, h, hx, hy => by
    have hl : x.length = y.length := by simpa using h
    have ih := code_lex hl hx.tail hy.tail
    rcases Int.lt_trichotomy i j with q | q | q
    · have z := TS.code_lt hl hx.tail hy.tail q
      have n2 : ¬ i = j := by omega
      simp [HT.lexLt, z, q, n2]
    · subst q
      rw [TS.code_same hl, ih]
      simp [HT.lexLt]
    · have z := TS.code_lt hl.symm hy.tail hx.tail q
      have n1 : ¬ i < j := by omega
      have n2 : ¬ i = j := by omega
      simp [HT.lexLt, n1, n2]
      omega
def keyI (d : D) : List Int := (tupI d).getD []
def leT (x y : D) : Bool := !HT.lexLt (keyI y) (keyI x)
def sortT (ds : List D) : List D := ds.mergeSort leT
theorem lexLt_cons {i j : Int} {x y : List Int} : HT.lexLt (i :: x) (j :: y) = true ↔ i < j ∨ (i = j ∧ HT.lexLt x y = true) := by
  by_cases q : i = j
  · subst q; simp [HT.lexLt]
  · simp [HT.lexLt, q]
theorem lexLt_irrefl : ∀ x : List Int, HT.lexLt x x = false
  | [] => rfl
  | i :: x => by simp [HT.lexLt, lexLt_irrefl x]
theorem lexLt_trans : ∀ {x y z : List Int}, HT.lexLt x y = true → HT.lexLt y z = true → HT.lexLt x z = true
  | x, [], z, h, _ => by cases x <;> simp [HT.lexLt] at h
  | _, _ :: _, [], _, h => by simp [HT.lexLt] at h
  | [], _ :: _, _ :: _, _, _ => by simp [HT.lexLt]
  | i :: x, j :: y, k :: z, h, h' => by
    rw [lexLt_cons] at h h' ⊢
    rcases h with h | ⟨rfl, h⟩ <;> rcases h' with h' | ⟨rfl, h'⟩
    · exact .inl (by omega)
    · exact .inl h
    · exact .inl h'
    · exact .inr ⟨rfl, lexLt_trans h h'⟩
theorem lexLt_tri : ∀ {x y : List Int}, HT.lexLt x y = false → HT.lexLt y x = false → x = y
  | [], [], _, _ => rfl
  | [], _ :: _, h, _ => by simp [HT.lexLt] at h
  | _ :: _, [], _, h => by simp [HT.lexLt] at h
  | i :: x, j :: y, h, h' => by
    have key : i = j ∧ HT.lexLt x y = false ∧ HT.lexLt y x = false := by
      rcases Int.lt_trichotomy i j with q | q | q
      · rw [lexLt_cons.mpr (.inl q)] at h
        cases h
      · subst q
        simp [HT.lexLt] at h h'
        exact ⟨rfl, h, h'⟩
      · rw [lexLt_cons.mpr (.inl q)] at h'
        cases h'
    rw [key.1, lexLt_tri key.2.1 key.2.2]
theorem leT_trans (a b c : D) (h : leT a b = true) (h' : leT b c = true) : leT a c = true := by
  unfold leT at h h' ⊢
  simp only [Bool.not_eq_true', ] at h h' ⊢
  cases q : HT.lexLt (keyI c) (keyI a) with
  | false => rfl
  | true =>
    exfalso
    cases q2 : HT.lexLt (keyI a) (keyI b) with
    | true =>
      rw [lexLt_trans q q2] at h'
      cases h'
    | false =>
      have e := lexLt_tri q2 h
      rw [e] at q
      rw [q] at h'
      cases h'
theorem leT_total (a b : D) : (leT a b || leT b a) = true := by
  unfold leT
  cases q : HT.lexLt (keyI b) (keyI a) with
  | false => rfl
  | true =>
    cases q2 : HT.lexLt (keyI a) (keyI b) with
    | false => rfl
    | true =>
      have z := lexLt_trans q q2
      rw [lexLt_irrefl] at z
      cases z
theorem sortT_perm (ds : List D) : (sortT ds).Perm ds := List.mergeSort_perm _ _
theorem sortT_pw (ds : List D) : (sortT ds).Pairwise fun x y => leT x y = true := List.pairwise_mergeSort leT_trans leT_total ds
theorem RpAll.perm {K : PySem.W.Frag} {H : Hp} {xs ys : List V} (h : xs.Perm ys) : ∀ {ds : List D}, RpAll K H xs ds → ∃ es, RpAll K H ys es ∧ ds.Perm es := by
  induction h with
  | nil => exact fun r => ⟨_, r, .refl _⟩
  | cons x _ ih =>
    intro ds r
    cases r with
    | cons r1 r2 =>
      obtain ⟨es, h1, h2⟩ := ih r2
      exact ⟨_ :: es, .cons r1 h1, .cons _ h2⟩
  | swap x y l =>
    intro ds r
    cases r with
    | cons r1 r2 =>
      cases r2 with
      | cons r2 r3 => exact ⟨_, .cons r2 (.cons r1 r3), .swap _ _ _⟩
  | trans _ _ ih1 ih2 =>
    intro ds r
    obtain ⟨es, h1, h2⟩ := ih1 r
    obtain ⟨fs, h3, h4⟩ := ih2 h1
    exact ⟨fs, h3, h2.trans h4⟩
theorem RpAll.mem' {K : PySem.W.Frag} {H : Hp} : ∀ {xs : List V} {ds : List D} {v : V}, RpAll K H xs ds → v ∈ xs → ∃ d, d ∈ ds ∧ Rp K H v d
  | _, _, _, .nil, h => by cases h
  | _, _, v, .cons r t, h => by
    rcases List.mem_cons.mp h with q | q
    · subst q; exact ⟨_, List.mem_cons_self .., r⟩
    · obtain ⟨d, h1, h2⟩ := RpAll.mem' t q
      exact ⟨d, List.mem_cons_of_mem _ h1, h2⟩
theorem RpAll.pw {K : PySem.W.Frag} {H : Hp} {S : V → V → Prop} {T : D → D → Prop} (hst : ∀ x y d e, Rp K H x d → Rp K H y e → S x y → T d e) : ∀ {xs : List V} {ds : List D}, RpAll K H xs ds → xs.Pairwise S → ds.Pairwise T
  | _, _, .nil, _ => .nil
  | _, _, .cons r t, h => by
    cases h with
    | cons h1 h2 =>
      refine .cons (fun e he => ?_) (RpAll.pw hst t h2)
      have key : ∀ {xs : List V} {ds : List D}, RpAll K H xs ds → ∀ e ∈ ds, ∃ v, v ∈ xs ∧ Rp K H v e := by
        intro xs ds r e he
        obtain ⟨i, hi, rfl⟩ := List.getElem_of_mem he
        obtain ⟨v, hv, rv⟩ := r.get (List.getElem?_eq_getElem hi)
        exact ⟨v, List.mem_of_getElem? hv, rv⟩
      obtain ⟨v, hv, rv⟩ := key t e he
      exact hst _ _ _ _ r rv (h1 v hv)
/-- all are tuples of n ints that are not too great -/
def okT (n : Nat) (d : D) : Bool := match tupI d with
  | some ns => ns.length == n && ns.all bigI
  | none => false
def P.sortedN (x : Op) : R (List D) := match asL x with
  | some ds => if decide (ds.length < 64) && ds.all (okT ((ds.head?.bind tupI).map List.length |>.getD 1)) && decide (1 ≤ ((ds.head?.bind tupI).map List.length |>.getD 1)) then .ok (sortT ds) else .bad
  | none => .bad
def rSortAny (K : PySem.W.Frag) : List V → Hp → VK → Prop := fun vs H Q => ∃ d, 1 ≤ d ∧ rSortU K d BIG vs H Q
theorem cr_sortAny : CallR X (.builtin "sorted") (rSortAny X.K) := by
  intro pins s σ H vs us Q I r h
  obtain ⟨d, hd, h⟩ := h
  exact cr_sortT hd pins s σ H vs us Q I r h
def dSorted (f : DSt → R Op) : DSt → R (List D) := fun δ => (f δ).bind P.sortedN
theorem okT_of {n : Nat} {d : D} (h : okT n d = true) : ∃ ns, tupI d = some ns ∧ ns.length = n ∧ TS.Bd BIG ns := by
  unfold okT at h
  split at h
  · rename_i ns q
    simp only [Bool.and_eq_true, beq_iff_eq] at h
    exact ⟨ns, q, h.1, bd_of h.2⟩
  · cases h
theorem dn_sorted {f} (hg : Gl X "sorted") (hm : X.mg "sorted" = none) (hv : bootBuiltins "sorted" = some (.builtin "sorted")) (ha : DO G E X e f) (he : starEach [e] X.env = (false, eval e X.env) :: starEach [] X.env := by rfl) (hpl : (backTo pos (starEach [] X.env)).any (·.1) = false := by rfl) :
    DN G E X (.Call (.Name "sorted" p) [e] [] pos) (dSorted f) := by
  obtain ⟨t, h1, h2⟩ := ha
  refine ⟨_, pe_callB cr_sortAny hg hm hv (pa_cons h1 pa_nil he) (by decide) (by decide) he hpl, ev_cb1 mN h2 fun x v Hs H0 H e rx => ?_⟩
  unfold P.sortedN
  cases q : asL x with
  | none => exact True.intro
  | some ds =>
    show At X.K G E (rN X.K) H0 H _ (if _ then _ else _)
    split
    · rename_i c
      simp only [Bool.and_eq_true, decide_eq_true_eq] at c
      obtain ⟨⟨c1, c2⟩, c3⟩ := c
      generalize ((ds.head?.bind tupI).map List.length).getD 1 = n at c2 c3
      obtain ⟨a, vs, rfl, hq, r⟩ := as_l e rx q
      have okA := List.all_eq_true.mp c2
      refine fun Q k => ⟨n, c3, a, vs, rfl, hq, by rw [r.length]; exact c1, fun x hx => ?_, fun ys p' hp pw hn => ?_⟩
      · obtain ⟨d, hd, rd⟩ := r.mem' hx
        obtain ⟨ns, t1, t2, t3⟩ := okT_of (okA d hd)
        exact ⟨ns, tupI_rp e rd t1, t2, t3⟩
      · obtain ⟨fs, r2, pf⟩ := r.perm hp.symm
        have okF : ∀ d ∈ fs, okT n d = true := fun d hd => okA d (pf.mem_iff.mpr hd)
        have pw2 : fs.Pairwise fun x y => leT x y = true := by
          have pw1 : fs.Pairwise fun x y => okT n x = true → okT n y = true → leT x y = true := by
            refine RpAll.pw (fun x y d e' rx ry h od oe => ?_) r2 pw
            obtain ⟨ns, t1, t2, t3⟩ := okT_of od
            obtain ⟨ms, u1, u2, u3⟩ := okT_of oe
            have z := h ns ms (tupI_rp e rx t1) (tupI_rp e ry u1)
            unfold leT keyI
            rw [t1, u1]
            show (!HT.lexLt ms ns) = true
            cases w : HT.lexLt ms ns with
            | false => rfl
            | true =>
              have := (code_lex (by rw [u2, t2]) u3 t3).mpr w
              omega
          exact pw1.imp_of_mem fun h1 h2 h => h (okF _ h1) (okF _ h2)
        have eq : sortT ds = fs := by
          refine List.Perm.eq_of_pairwise (le := fun x y => leT x y = true) (fun x y hx hy h1 h2 => ?_) (sortT_pw ds) pw2 ((sortT_perm ds).trans pf)
          have ox : okT n x = true := okA x ((sortT_perm ds).mem_iff.mp hx)
          have oy := okF y hy
          obtain ⟨ns, t1, t2, t3⟩ := okT_of ox
          obtain ⟨ms, u1, u2, u3⟩ := okT_of oy
          unfold leT keyI at h1 h2
          rw [t1, u1] at h1 h2
          have e1 : HT.lexLt ms ns = false := by simpa using h1
          have e2 : HT.lexLt ns ms = false := by simpa using h2
          rw [tupI_eq t1, tupI_eq u1, lexLt_tri e2 e1]
        rw [eq] at k
        exact at_newN (G := G) (E := E) e r2 Q k p' hn
    · exact True.intro
end
end Dn

namespace Dn
open PySem PySem.Spec PyProof.Rows L2

/-! ### zip of any two of list, tuple, text -/
inductive Src where
  | l (a : Addr)
  | t (a : Addr)
  | s (z : Str)
def Src.v : Src → V
  | .l a => .ref a
  | .t a => .ref a
  | .s z => .str z
def Src.fp : Src → List Addr
  | .l a => [a]
  | .t a => [a]
  | .s _ => []
def Src.has (K : PySem.W.Frag) (H : Hp) : Src → List V → Prop
  | .l a, xs => SqL K H a xs
  | .t a, xs => SqT K H a xs
  | .s z, xs => xs = z.cps.toList.map fun c => V.str ⟨#[c]⟩
def Src.st (it : Addr) (k : Tok) (i : Nat) (h : Heap) : Src → Prop
  | .l a => h.IsListIter it a i
  | .t a => h.IsTupleIter it a i
  | .s z => h.IsStrIter it (strIterType z) z k i
theorem Src.keep {S : Src} {it : Addr} {k : Tok} {i : Nat} {h h' : Heap} (x : S.st it k i h) (hk : ∀ o, h.get? it = some o → h'.get? it = some o) : S.st it k i h' := by
  cases S with
  | l a => exact Heap.IsListIter.at x hk
  | t a => exact Heap.IsTupleIter.at x hk
  | s z =>
    obtain ⟨o, e, r⟩ := x
    exact ⟨o, hk _ e, r⟩
theorem Src.live {S : Src} {it : Addr} {k : Tok} {i : Nat} {h : Heap} (x : S.st it k i h) : ∃ o, h.get? it = some o ∧ ∀ v, o.data ≠ .cell v := by
  cases S with
  | l a => obtain ⟨o, e, _, d⟩ := x; exact ⟨o, e, fun v q => by rw [d] at q; cases q⟩
  | t a => obtain ⟨o, e, _, d⟩ := x; exact ⟨o, e, fun v q => by rw [d] at q; cases q⟩
  | s z => obtain ⟨o, e, _, d⟩ := x; exact ⟨o, e, fun v q => by rw [d] at q; cases q⟩
theorem draws_n {prog : Program} {w : World} {A : Around} {it : Addr} {fp : List Addr} {n m : Nat} {Pv : Nat → Value → Prop} {St : Nat → Heap → Prop} (e : n = m) (D : Draws prog w A it fp n Pv St) : Draws prog w A it fp m Pv St := e ▸ D
theorem vals_get' : ∀ {xs : List V} {us : List Value} {i : Nat} {u : Value}, Vals xs us → us[i]? = some u → ∃ x, xs[i]? = some x ∧ RelV x u
  | _, _, _, _, .nil, e => by simp at e
  | _, _, 0, _, .cons r _, e => by simp at e; subst e; exact ⟨_, rfl, r⟩
  | _, _, i + 1, _, .cons _ t, e => by
    obtain ⟨v, h1, h2⟩ := vals_get' (i := i) t (by simpa using e)
    exact ⟨v, by simpa using h1, h2⟩
section
variable {X : Cx} {pins : List (Addr × Obj)} {σ : L2.St} {H : Hp} {s : Shared}
theorem Src.inj {S : Src} (I : Inv X pins σ H s) {xs ys : List V} (h : S.has X.K H xs) (h' : S.has X.K H ys) : xs = ys := by
  cases S with
  | l a => exact I.list_inj h h'
  | t a => exact I.tuple_inj h h'
  | s z => exact h.trans h'.symm
theorem Src.draws {S : Src} (I : Inv X pins σ H s) {xs : List V} (h : S.has X.K H xs) (hh : X.A.handled = none) {it : Addr} (k : Tok) (ne : ∀ a ∈ S.fp, a ≠ it) :
    ∃ (Pv : Nat → Value → Prop) (St : Nat → Heap → Prop), Draws X.prog X.w X.A.in1 it (it :: S.fp) xs.length Pv St ∧ (∀ i v, Pv i v → ∃ x, xs[i]? = some x ∧ RelV x v) ∧ (∀ i, S.st it k i s.heap → St i s.heap) ∧ ∀ i h, St i h → S.st it k i h := by
  cases S with
  | l a =>
    obtain ⟨its, rv, p, _⟩ := I.list h
    refine ⟨_, _, draws_n rv.length.symm (Draws.list (A := X.A.in1) hh it a (ne a (by simp [Src.fp])) its.toArray), fun i v e => ?_, fun i e => ⟨e, p.isList⟩, fun i h e => e.1⟩
    have e' : its[i]? = some v := by simpa using e
    exact vals_get' rv e'
  | t a =>
    obtain ⟨its, rv, p, _⟩ := I.tuple h
    refine ⟨_, _, draws_n rv.length.symm (Draws.tuple (A := X.A.in1) hh it a (ne a (by simp [Src.fp])) its.toArray), fun i v e => ?_, fun i e => ⟨e, show s.heap.IsTuple a its.toArray from p⟩, fun i h e => e.1⟩
    have e' : its[i]? = some v := by simpa using e
    exact vals_get' rv e'
  | s z =>
    cases (show xs = _ from h)
    have hl : (z.cps.toList.map fun c => V.str ⟨#[c]⟩).length = z.cps.size := by simp
    refine ⟨_, _, draws_n hl.symm (Draws.text (A := X.A.in1) hh it z k), fun i v e => ?_, fun i e => e, fun i h e => e⟩
    obtain ⟨c, u, e1, rfl⟩ := e
    refine ⟨.str ⟨#[c]⟩, ?_, ⟨u, rfl⟩⟩
    rw [List.getElem?_map, Array.getElem?_toList, e1]
    rfl
end
/-- the sources as they stand at each turn, the items in new pairs -/
def ItzS (K : PySem.W.Frag) (S1 S2 : Src) : It :=
  ⟨fun i H => ∃ (xs ys : List V) (x y : V), S1.has K H xs ∧ S2.has K H ys ∧ xs[i]? = some x ∧ ys[i]? = some y,
    fun i H v H' => ∃ T x y, v = .ref T ∧ H T = none ∧ H' = upd H T (.tup [x, y]) ∧ (∀ xs, S1.has K H xs → xs[i]? = some x) ∧ ∀ ys, S2.has K H ys → ys[i]? = some y,
    fun i H => ∃ xs ys : List V, S1.has K H xs ∧ S2.has K H ys ∧ i = min xs.length ys.length⟩
theorem turn_zipS {P : Program} {w : World} {K : PySem.W.Frag} {elts : List Expr} {kk : Nat} {tpos : Pos} {S1 S2 : Src} {k1 k2 : Tok} {z TI TO i1 i2 : Addr} (D : ZipSep2 z TI TO i1 i2 (i1 :: S1.fp) (i2 :: S2.fp)) (n1 : ∀ a ∈ S1.fp, a ≠ i1) (n2 : ∀ a ∈ S2.fp, a ≠ i2) :
    Turn P w K (.Tuple elts kk tpos) (ItzS K S1 S2) [z, TI, TO, i1, i2] z (fun i h => IsZip h z TI TO .none ∧ IsTupOf2 h TI (.ref i1) (.ref i2) ∧ (∃ x y, IsTupOf2 h TO x y) ∧ S1.st i1 k1 i h ∧ S2.st i2 k2 i h) where
  mem := by simp
  obj := fun i h st c hc => by
    obtain ⟨hz, hTI, ⟨x, y, hTO⟩, s1, s2⟩ := st
    have e' : c = z ∨ c = TI ∨ c = TO ∨ c = i1 ∨ c = i2 := by simpa using hc
    rcases e' with q | q | q | q | q
    · rw [q]; exact ⟨_, hz, fun v q => nomatch q⟩
    · rw [q]; exact ⟨_, hTI, fun v q => nomatch q⟩
    · rw [q]; exact ⟨_, hTO, fun v q => nomatch q⟩
    · rw [q]; exact Src.live s1
    · rw [q]; exact Src.live s2
  keep := fun i h h' st k => by
    obtain ⟨hz, hTI, ⟨x, y, hTO⟩, h1, h2⟩ := st
    exact ⟨k z (by simp) _ hz, k TI (by simp) _ hTI, ⟨x, y, k TO (by simp) _ hTO⟩, Src.keep h1 fun o q => k i1 (by simp) o q, Src.keep h2 fun o q => k i2 (by simp) o q⟩
  item := by
    intro X hP hw hK hc i pins s σ H E I hf st hg
    subst hP hw hK
    obtain ⟨hz, hTI, hTO, h1, h2⟩ := st
    obtain ⟨xs, ys, x, y, hqx, hqy, hx, hy⟩ := hg
    obtain ⟨P1, St1, D1, p1, a1, b1⟩ := Src.draws I hqx (I.ok.hd hc) k1 n1
    obtain ⟨P2, St2, D2, p2, a2, b2⟩ := Src.draws I hqy (I.ok.hd hc) k2 n2
    have W := WalksT.zipD2 (A := X.A) D D1 D2
    have l1 := (List.getElem?_eq_some_iff.mp hx).1
    have l2 := (List.getElem?_eq_some_iff.mp hy).1
    have sub : ∀ c, c ∈ [z, TO, i1, i2] → c ∈ [z, TI, TO, i1, i2] := fun c hc => by
      have e' : c = z ∨ c = TO ∨ c = i1 ∨ c = i2 := by simpa using hc
      rcases e' with q | q | q | q <;> simp [q]
    have zf : ∀ {c o}, s.heap.get? c = some o → c < s.heap.objs.size := fun e => Heap.lt_size e
    refine W.item i s _ _ (by omega) ⟨hz, hTI, hTO, a1 i h1, a2 i h2⟩ fun T vals h' tk hp hT hv mid hk => ?_
    obtain ⟨x1, x2, q1, q2, rfl⟩ := hp
    refine ⟨_, rfl, W.go elts kk tpos i T _ _ _ mid fun h'' st' hk' => ?_⟩
    obtain ⟨hz', hTI', hTO', s1', s2'⟩ := st'
    obtain ⟨o, ho, hc', n, hd⟩ := id hv
    have nT : T ∉ [z, TO, i1, i2] := W.apart i T h' mid
    have hT2 : h''.get? T = some o := hk' T o nT ho
    obtain ⟨u1, e1, r1⟩ := p1 _ _ q1
    obtain ⟨u2, e2, r2⟩ := p2 _ _ q2
    cases hx.symm.trans e1
    cases hy.symm.trans e2
    have new : ObjOk X.prog X.w (upd H T (.tup [x, y])) h'' T (.tup [x, y]) :=
      ⟨by show 2 ≤ sizeLine; decide, [x1, x2], .cons r1 (.cons r2 .nil), ⟨_, hT2, hc', n, hd⟩⟩
    have I1 : Inv X pins σ (upd H T (.tup [x, y])) { s with heap := h'', toks := tk } :=
      I.turnedNew (t' := tk) (ch := [z, TI, TO, i1, i2]) (fun c o hb q => hk' c o (fun m => hb (sub c m)) (hk c o (fun m => hb (sub c m)) q)) hf hT new
    refine ⟨.ref T, _, I1, rfl, ⟨_, x, y, rfl, I.hok.fresh hT, rfl, fun l hl => by rw [Src.inj I hl hqx]; exact hx, fun l hl => by rw [Src.inj I hl hqy]; exact hy⟩, ⟨hz', hTI', hTO', b1 _ _ s1', b2 _ _ s2'⟩, fun c hcm => ?_⟩
    have hlt : c < s.heap.objs.size := by
      have e' : c = z ∨ c = TI ∨ c = TO ∨ c = i1 ∨ c = i2 := by simpa using hcm
      obtain ⟨_, _, hTO⟩ := hTO
      rcases e' with q | q | q | q | q
      · rw [q]; exact zf hz
      · rw [q]; exact zf hTI
      · rw [q]; exact zf hTO
      · rw [q]; obtain ⟨_, e, _⟩ := Src.live h1; exact zf e
      · rw [q]; obtain ⟨_, e, _⟩ := Src.live h2; exact zf e
    rw [upd_ne (Nat.ne_of_lt (Nat.lt_of_lt_of_le hlt hT))]
    exact (hf c hcm).1
  done := by
    intro X hP hw hK hc i pins s σ H E I hf st hg
    subst hP hw hK
    obtain ⟨hz, hTI, hTO, h1, h2⟩ := st
    obtain ⟨xs, ys, hqx, hqy, rfl⟩ := hg
    obtain ⟨P1, St1, D1, p1, a1, b1⟩ := Src.draws I hqx (I.ok.hd hc) k1 n1
    obtain ⟨P2, St2, D2, p2, a2, b2⟩ := Src.draws I hqy (I.ok.hd hc) k2 n2
    have W := WalksT.zipD2 (A := X.A) D D1 D2
    refine W.done s _ _ ⟨hz, hTI, hTO, a1 _ h1, a2 _ h2⟩ fun h' tk hk => ⟨rfl, ?_⟩
    refine I.turnedL (t' := tk) (ch := [z, TI, TO, i1, i2]) (fun c o hb q => hk c o (fun m => hb ?_) q) hf
    have e' : c = z ∨ c = TO ∨ c = i1 ∨ c = i2 := by simpa using m
    rcases e' with q | q | q | q <;> simp [q]
  self := fun A i s Q E st h => wpAny_pyIter_zip st.1 h
/-- how iter(v) begins -/
theorem Src.begins {X : Cx} {pins : List (Addr × Obj)} {σ : L2.St} {H : Hp} {s : Shared} {S : Src} (I : Inv X pins σ H s) {xs : List V} {u : Value} (h : S.has X.K H xs) (r : RelV S.v u) :
    ∃ (o : Obj) (B : Heap → Prop) (k : Tok), Begins u o B ∧ B s.heap ∧ (∀ it h', h'.get? it = some o → S.st it k 0 h') ∧ ∀ a ∈ S.fp, a < s.heap.objs.size := by
  cases S with
  | l a =>
    cases (show u = .ref a from r)
    obtain ⟨its, rv, p, _⟩ := I.list h
    exact ⟨_, _, 0, begins_list a its.toArray, p.isList, fun it h' e => ⟨_, e, rfl, rfl⟩, fun b hb => by
      cases (show b = a by simpa [Src.fp] using hb)
      exact p.lt⟩
  | t a =>
    cases (show u = .ref a from r)
    obtain ⟨its, rv, p, _⟩ := I.tuple h
    exact ⟨_, _, 0, begins_tuple a its.toArray, p, fun it h' e => ⟨_, e, rfl, rfl⟩, fun b hb => by
      cases (show b = a by simpa [Src.fp] using hb)
      obtain ⟨_, e, _⟩ := p
      exact Heap.lt_size e⟩
  | s z =>
    obtain ⟨t, rfl⟩ := (show ∃ t, u = .str z t from r)
    exact ⟨_, _, t, begins_text z t, trivial, fun it h' e => ⟨_, e, rfl, rfl⟩, fun b hb => by simp [Src.fp] at hb⟩
def iZipS (K : PySem.W.Frag) (ta : TA) : TI := fun σ H R => ta σ H fun vs H1 => ∃ S1 S2 xs ys, vs = [Src.v S1, Src.v S2] ∧ S1.has K H1 xs ∧ S2.has K H1 ys ∧ R (ItzS K S1 S2) H1
theorem pi_zipS {X : Cx} {e e2 : Expr} {ta : TA} {p pos tpos : Pos} {elts : List Expr} {kk : Nat} (hg : Gl X "zip") (hm : X.mg "zip" = none) (ha : PA X [e, e2] ta)
    (hs : starEach [e, e2] X.env = (false, eval e X.env) :: starEach [e2] X.env := by rfl) (hpl : (backTo pos (starEach [e2] X.env)).any (·.1) = false := by rfl) :
    PI X (.Tuple elts kk tpos) (.Call (.Name "zip" p) [e, e2] [] pos) (iZipS X.K ta) := by
  refine ⟨fun pins s σ H R I h => ?_⟩
  refine Call_ (ld_blt I hg hm PyProof.Rows.boot_zip (PyProof.Rows.callWith_type1 (thn (ha.run pos pins s σ H _ I h) fun us s1 ⟨vs, H1, I1, r1, q1⟩ => ?_) hs hpl))
  obtain ⟨S1, S2, xs, ys, ex, q1, q2, q3⟩ := q1
  subst ex
  cases r1 with
  | cons r rr =>
    cases rr with
    | cons r' rr =>
      cases rr
      have fresh5 : ∀ c, c ∈ [s1.heap.objs.size + 4, s1.heap.objs.size + 2, s1.heap.objs.size + 3, s1.heap.objs.size, s1.heap.objs.size + 1] → FpOk X pins H1 c := fun c hcm => by
        have e' : c = s1.heap.objs.size + 4 ∨ c = s1.heap.objs.size + 2 ∨ c = s1.heap.objs.size + 3 ∨ c = s1.heap.objs.size ∨ c = s1.heap.objs.size + 1 := by simpa using hcm
        have hle : s1.heap.objs.size ≤ c := by
          rcases e' with z | z | z | z | z
          · rw [z]; exact Nat.le_add_right _ _
          · rw [z]; exact Nat.le_add_right _ _
          · rw [z]; exact Nat.le_add_right _ _
          · rw [z]; exact Nat.le_refl _
          · rw [z]; exact Nat.le_add_right _ _
        exact I1.fpOk hle (I1.hok.fresh hle)
      obtain ⟨o1, B1, k1, b1, g1, t1, f1⟩ := Src.begins I1 q1 r
      obtain ⟨o2, B2, k2, b2, g2, t2, f2⟩ := Src.begins I1 q2 r'
      refine zip_begins2 b1 b2 g1 g2 fun h' hz hTI hTO h1 h2 hsz hk => wpAny_pyIter_zip hz ?_
      have I2 : Inv X pins σ H1 { s1 with heap := h' } := I1.kept (t' := s1.toks) hk
      exact ⟨s1.heap.objs.size + 4, [s1.heap.objs.size + 4, s1.heap.objs.size + 2, s1.heap.objs.size + 3, s1.heap.objs.size, s1.heap.objs.size + 1], _, _, H1, rfl, I2,
        turn_zipS (k1 := k1) (k2 := k2) (zip_sep2 f1 f2) (fun a ha => Nat.ne_of_lt (f1 a ha)) (fun a ha => Nat.ne_of_lt (Nat.lt_of_lt_of_le (f2 a ha) (Nat.le_add_right _ _))), ⟨hz, hTI, ⟨_, _, hTO⟩, t1 _ _ h1, t2 _ _ h2⟩, fresh5, q3⟩

/-! ### as a source -/
theorem wk_zipS {K : PySem.W.Frag} {S1 S2 : Src} {vs ws : List V} {ds es : List D} {H0 : Hp} {Kp : Hp → Prop} (r : RpAll K H0 vs ds) (r' : RpAll K H0 ws es) (k : ∀ H', Kp H' → S1.has K H' vs ∧ S2.has K H' ws) : Wk K (ItzS K S1 S2) (pairs ds es) H0 Kp where
  go := fun i d H' kp hd => by
    obtain ⟨x, y, hx, hy, rfl⟩ := pairs_get hd
    obtain ⟨v, hv, _⟩ := r.get hx
    obtain ⟨w, hw, _⟩ := r'.get hy
    exact ⟨vs, ws, v, w, (k H' kp).1, (k H' kp).2, hv, hw⟩
  yld := fun i d H0' H' x H3 kp e1 e2 hd hy => by
    obtain ⟨x, y, hx, hy', rfl⟩ := pairs_get hd
    obtain ⟨v, hv, rv⟩ := r.get hx
    obtain ⟨w, hw, rw'⟩ := r'.get hy'
    obtain ⟨T, v', w', rfl, hT, rfl, f1, f2⟩ := hy
    have z1 := (f1 vs (k _ kp).1).symm.trans hv
    have z2 := (f2 ws (k _ kp).2).symm.trans hw
    cases z1; cases z2
    refine ⟨_, Up.new (o := .tup [v, w]) e2 hT, .tup (SqT.of upd_same) (.cons ?_ (.cons ?_ .nil))⟩
    · exact (rv.mono e1).mono (Same.upd (e2.free hT))
    · exact (rw'.mono e1).mono (Same.upd (e2.free hT))
  stop := fun H' kp => ⟨vs, ws, (k H' kp).1, (k H' kp).2, by
    rw [pairs_len, r.length, r'.length]⟩
theorem signs_rp {K : PySem.W.Frag} {H : Hp} (z : Str) : RpAll K H (z.cps.toList.map fun c => V.str ⟨#[c]⟩) (signs z) := by
  unfold signs
  induction z.cps.toList with
  | nil => exact .nil
  | cons c l ih => exact .cons (.str _) ih
/-- what stands behind data that can be walked -/
theorem src_of {K : PySem.W.Frag} {H0 H : Hp} {v : V} {d : D} {ds : List D} (e : Fz H0 H) (r : Rp K H0 v d) (h : P.items d = .ok ds) : ∃ (S : Src) (vs : List V), v = S.v ∧ RpAll K H0 vs ds ∧ ∀ H', Fz H0 H' → S.has K H' vs := by
  cases r with
  | non => cases h
  | bl _ => cases h
  | int _ => cases h
  | str z => cases h; exact ⟨.s z, _, rfl, signs_rp z, fun _ _ => rfl⟩
  | lst h1 r => cases h; exact ⟨.l _, _, rfl, r, fun H' e' => SqL.of (e'.lst h1)⟩
  | tup h1 r => cases h; exact ⟨.t _, _, rfl, r, fun H' e' => e'.tup h1⟩
  | scr h1 r => cases h; exact ⟨.l _, _, rfl, r, fun H' e' => e'.seq h1⟩
  | ob _ => cases h
def P.zipS : List D → R (List D)
  | [x, y] => (P.items x).bind fun xs => (P.items y).bind fun ys => .ok (pairs xs ys)
  | _ => .bad
section
variable {G : Str → Addr} {E : XK} {X : Cx} {pos p p2 : Pos} {a b e tg : Expr} {es : List Expr} {m : Bool}
theorem di_zipS {f} {elts : List Expr} {kk : Nat} {tpos : Pos} (hg : Gl X "zip") (hm : X.mg "zip" = none) (h : Da G E X [a, b] f) (hs : starEach [a, b] X.env = (false, eval a X.env) :: starEach [b] X.env := by rfl) (hpl : (backTo pos (starEach [b] X.env)).any (·.1) = false := by rfl) :
    DI G E X m (.Tuple elts kk tpos) (.Call (.Name "zip" p) [a, b] [] pos) (dRng P.zipS f) := by
  obtain ⟨t, h1, h2⟩ := h
  refine ⟨_, pi_zipS hg hm h1 hs hpl, fun B δ σ H0 H s => at_bind (t := t σ H) (k := fun vs H1 R => ∃ S1 S2 xs ys, vs = [Src.v S1, Src.v S2] ∧ S1.has X.K H1 xs ∧ S2.has X.K H1 ys ∧ R (ItzS X.K S1 S2) H1) mI (h2 B δ σ H0 H s) fun x v H1 H1' w rx => ?_⟩
  have e := w.b
  cases rx with
  | nil => exact True.intro
  | cons r1 r2 =>
    cases r2 with
    | nil => exact True.intro
    | cons r2 r3 =>
      cases r3 with
      | cons _ _ => exact True.intro
      | nil =>
        rename_i v1 d1 v2 d2
        show At X.K G E (rI X.K m) H1 H1' _ ((P.items d1).bind fun xs => (P.items d2).bind fun ys => .ok (pairs xs ys))
        cases q1 : P.items d1 with
        | bad => exact True.intro
        | er x => exfalso; unfold P.items at q1; split at q1 <;> cases q1
        | ok xs =>
          cases q2 : P.items d2 with
          | bad => exact True.intro
          | er x => exfalso; unfold P.items at q2; split at q2 <;> cases q2
          | ok ys =>
            obtain ⟨S1, vs1, rfl, w1, k1⟩ := src_of e r1 q1
            obtain ⟨S2, vs2, rfl, w2, k2⟩ := src_of e r2 q2
            exact fun Q q => ⟨S1, S2, vs1, vs2, rfl, k1 _ e, k2 _ e, q _ H1 H1' (.refl e) ⟨fun H' => S1.has X.K H' _ ∧ S2.has X.K H' _, wk_zipS w1 w2 fun _ k => k, fun H'' e2 _ => ⟨k1 _ e2, k2 _ e2⟩⟩⟩
end
end Dn

namespace Dn
open PySem PySem.Spec PyProof.Rows L2

/-! ### a dict of the module with text keys -/
def klook (kvs : List (Str × D)) (z : Str) : Option D := (kvs.find? fun p => p.1 == z).map (·.2)
structure DctE (K : PySem.W.Frag) (w : World) (mg : Str → Option Value) (x : Str) (kvs : List (Str × D)) : Prop where
  ex : ∃ d es n, mg x = some (.ref d) ∧ KDict K w d es n ∧ ∀ z : Str, match klook kvs z with
    | some dd => ∃ u0 v0, PySem.W.nsIn K d z = some (some u0) ∧ RelV v0 u0 ∧ ∀ H, Rp K H v0 dd
    | none => PySem.W.nsIn K d z = some none
def keyTx (e : DictEntry) : Option Str := match e.key with
  | .str x _ => some x
  | _ => none
theorem keyTx_some {e : DictEntry} {x : Str} (h : keyTx e = some x) : ∃ t, e.key = .str x t := by
  unfold keyTx at h
  split at h
  · rename_i y t q
    cases h
    exact ⟨t, q⟩
  · cases h
theorem nsIn_not {K : PySem.W.Frag} {d : Addr} {es : Array DictEntry} {n : Nat} {ks : List Str} (hl : K.lookup d = some ⟨.type "dict", none, .dict es n, #[]⟩) (hk : es.toList.map keyTx = ks.map some) {z : Str} (hz : z ∉ ks) : PySem.W.nsIn K d z = some none := by
  unfold PySem.W.nsIn
  rw [hl]
  show (match es.toList.find? (·.key.isStr z) with | some e => some (some e.val) | none => if es.toList.any (·.refKey) then none else some none) = some none
  have all : ∀ e ∈ es.toList, ∃ x t, x ∈ ks ∧ e.key = .str x t := fun e he => by
    have h1 : keyTx e ∈ es.toList.map keyTx := List.mem_map_of_mem he
    rw [hk] at h1
    obtain ⟨x, hx, e1⟩ := List.mem_map.mp h1
    obtain ⟨t, ht⟩ := keyTx_some e1.symm
    exact ⟨x, t, hx, ht⟩
  have e1 : es.toList.find? (·.key.isStr z) = none := by
    rw [List.find?_eq_none]
    intro e he
    obtain ⟨x, t, hx, e2⟩ := all e he
    rw [e2]
    intro c
    have : x = z := by simpa [Value.isStr] using c
    exact hz (this ▸ hx)
  have e2 : es.toList.any (·.refKey) = false := by
    rw [List.any_eq_false]
    intro e he
    obtain ⟨x, t, hx, e2⟩ := all e he
    simp [DictEntry.refKey, e2]
  rw [e1, e2]
  rfl
/-- the dict's texts, by key -/
inductive NsAll (K : PySem.W.Frag) (d : Addr) : List (Str × D) → Prop where
  | nil : NsAll K d []
  | str {k v : Str} {t : Tok} {r : List (Str × D)} : PySem.W.nsIn K d k = some (some (.str v t)) → NsAll K d r → NsAll K d ((k, .str v) :: r)
  | int {k : Str} {v : Int} {t : Tok} {r : List (Str × D)} : PySem.W.nsIn K d k = some (some (.int v t)) → NsAll K d r → NsAll K d ((k, .int v) :: r)
theorem nsAll_get {K : PySem.W.Frag} {d : Addr} {z : Str} {dd : D} : ∀ {kvs : List (Str × D)}, NsAll K d kvs → klook kvs z = some dd → ∃ u0 v0, PySem.W.nsIn K d z = some (some u0) ∧ RelV v0 u0 ∧ ∀ H, Rp K H v0 dd
  | _, .nil, h => by cases h
  | _, .str (k := k) h1 r, h => by
    unfold klook at h
    rw [List.find?_cons] at h
    cases q : k == z with
    | true =>
      rw [q] at h
      cases h
      cases (beq_iff_eq.mp q)
      exact ⟨_, .str _, h1, ⟨_, rfl⟩, fun H => .str _⟩
    | false =>
      rw [q] at h
      exact nsAll_get r h
  | _, .int (k := k) h1 r, h => by
    unfold klook at h
    rw [List.find?_cons] at h
    cases q : k == z with
    | true =>
      rw [q] at h
      cases h
      cases (beq_iff_eq.mp q)
      exact ⟨_, .int _, h1, ⟨_, rfl⟩, fun H => .int _⟩
    | false =>
      rw [q] at h
      exact nsAll_get r h
theorem dctE_mk {K : PySem.W.Frag} {w : World} {mg : Str → Option Value} {x : Str} {d : Addr} {es : Array DictEntry} {n : Nat} {kvs : List (Str × D)} (hx : mg x = some (.ref d)) (hl : K.lookup d = some ⟨.type "dict", none, .dict es n, #[]⟩) (kl : PySem.W.KeysLit w.params es.toList) (low : (d == sysModules) = false)
    (hk : es.toList.map keyTx = (kvs.map (·.1)).map some) (na : NsAll K d kvs) : DctE K w mg x kvs := by
  refine ⟨d, es, n, hx, ⟨hl, kl, low⟩, fun z => ?_⟩
  split
  · rename_i dd h
    exact nsAll_get na h
  · rename_i h
    refine nsIn_not hl hk fun m => ?_
    obtain ⟨p, hp, e⟩ := List.mem_map.mp m
    unfold klook at h
    rw [Option.map_eq_none_iff, List.find?_eq_none] at h
    exact h p hp (by simp [e])

section
variable {G : Str → Addr} {E : XK} {X : Cx} {pos p p2 : Pos} {a b e : Expr} {es : List Expr}
def P.kin (neg : Bool) (kvs : List (Str × D)) : D → R D
  | .str z => .ok (.bool (if neg then !(klook kvs z).isSome else (klook kvs z).isSome))
  | _ => .bad
def dKin (neg : Bool) (kvs : List (Str × D)) (f : DSt → R D) : DSt → R D := fun δ => (f δ).bind (P.kin neg kvs)
theorem dc_kin {x : Str} {kvs : List (Str × D)} {f} (h : DctE X.K X.w X.mg x kvs) (hg : Gl X x) (ha : De G E X a f) (hd : (x == ("__debug__" : Str)) = false := by decide) : DC G E X .In a (.Name x p) (dKin false kvs f) := by
  obtain ⟨d, es, n, hm, D, k⟩ := h.ex
  obtain ⟨t, h1, h2⟩ := ha
  refine ⟨_, _, _, op_in_kd D, h1, pe_glob (v := .ref d) hg hm rfl hd, rfl, fun B δ σ H0 H s => at_bind (t := t σ H) (k := fun x H1 Q => ∃ (z : Str) (r : Option Value), x = .str z ∧ V.ref d = .ref d ∧ PySem.W.nsIn X.K d z = some r ∧ Q (.bl r.isSome) H1) mV (h2 B δ σ H0 H s) fun x v H1 H1' u rx => ?_⟩
  cases x with
  | str z =>
    cases (show Rp X.K H1 v _ from rx)
    show At X.K G E (rV X.K) H1 H1' _ (.ok (.bool (klook kvs z).isSome))
    have kz := k z
    cases q : klook kvs z with
    | none =>
      rw [q] at kz
      exact fun Q q => ⟨z, none, rfl, rfl, kz, q _ H1 H1' (.refl u.b) (.bl _)⟩
    | some dd =>
      rw [q] at kz
      obtain ⟨u0, v0, e1, _⟩ := kz
      exact fun Q q => ⟨z, some u0, rfl, rfl, e1, q _ H1 H1' (.refl u.b) (.bl _)⟩
  | _ => exact True.intro
theorem dc_knotIn {x : Str} {kvs : List (Str × D)} {f} (h : DctE X.K X.w X.mg x kvs) (hg : Gl X x) (ha : De G E X a f) (hd : (x == ("__debug__" : Str)) = false := by decide) : DC G E X .NotIn a (.Name x p) (dKin true kvs f) := by
  obtain ⟨d, es, n, hm, D, k⟩ := h.ex
  obtain ⟨t, h1, h2⟩ := ha
  refine ⟨_, _, _, op_notIn_kd D, h1, pe_glob (v := .ref d) hg hm rfl hd, rfl, fun B δ σ H0 H s => at_bind (t := t σ H) (k := fun x H1 Q => ∃ (z : Str) (r : Option Value), x = .str z ∧ V.ref d = .ref d ∧ PySem.W.nsIn X.K d z = some r ∧ Q (.bl (!r.isSome)) H1) mV (h2 B δ σ H0 H s) fun x v H1 H1' u rx => ?_⟩
  cases x with
  | str z =>
    cases (show Rp X.K H1 v _ from rx)
    show At X.K G E (rV X.K) H1 H1' _ (.ok (.bool (!(klook kvs z).isSome)))
    have kz := k z
    cases q : klook kvs z with
    | none =>
      rw [q] at kz
      exact fun Q q => ⟨z, none, rfl, rfl, kz, q _ H1 H1' (.refl u.b) (.bl _)⟩
    | some dd =>
      rw [q] at kz
      obtain ⟨u0, v0, e1, _⟩ := kz
      exact fun Q q => ⟨z, some u0, rfl, rfl, e1, q _ H1 H1' (.refl u.b) (.bl _)⟩
  | _ => exact True.intro
def P.kix (kvs : List (Str × D)) : D → R D
  | .str z => match klook kvs z with
    | some d => .ok d
    | none => .bad
  | _ => .bad
def dKix (kvs : List (Str × D)) (f : DSt → R D) : DSt → R D := fun δ => (f δ).bind (P.kix kvs)
theorem de_kix {x : Str} {kvs : List (Str × D)} {f} (h : DctE X.K X.w X.mg x kvs) (hg : Gl X x) (ha : De G E X a f) (hs : PlainIx a) (hd : (x == ("__debug__" : Str)) = false := by decide) : De G E X (.Subscript (.Name x p) a pos) (dKix kvs f) := by
  obtain ⟨d, es, n, hm, D, k⟩ := h.ex
  obtain ⟨t, h1, h2⟩ := ha
  refine ⟨_, pe_ix ix_kdict (pe_glob (v := .ref d) hg hm rfl hd) h1 hs, fun B δ σ H0 H s => at_bind (t := t σ H) (k := fun x H1 Q => ∃ p z v, V.ref d = .ref p ∧ x = .str z ∧ KDct X.K X.w p z v ∧ Q v H1) mV (h2 B δ σ H0 H s) fun x v H1 H1' u rx => ?_⟩
  cases x with
  | str z =>
    cases (show Rp X.K H1 v _ from rx)
    show At X.K G E (rV X.K) H1 H1' _ (match klook kvs z with | some d => R.ok d | none => .bad)
    have kz := k z
    cases q : klook kvs z with
    | none => exact True.intro
    | some dd =>
      rw [q] at kz
      obtain ⟨u0, v0, e1, e2, e3⟩ := kz
      exact fun Q q => ⟨d, z, v0, rfl, rfl, ⟨es, n, u0, D.at_, D.lit, e1, e2⟩, q _ H1 H1' (.refl u.b) (e3 _)⟩
  | _ => exact True.intro
end
end Dn

namespace Dn
open PySem PySem.Spec PyProof.Rows L2

/-! ### f(b = .., a = ..): two parameters told by name, the second first -/
def gSwap : List Value → List Value → List Value
  | [], [b, a] => [a, b]
  | _, _ => []
def gSwapV : List V → List V → List V
  | [], [b, a] => [a, b]
  | _, _ => []
def P.swap : List D → List D
  | [b, a] => [a, b]
  | _ => []
theorem kb_swap {K : PySem.W.Frag} {fd : FuncData} {p1 p2 : Str} (h : ∀ (s : Shared) (a b : Value), BindsTo s fd ⟨[], [(p2, b), (p1, a)]⟩ [(p1, a), (p2, b)]) : KBinds K fd [p1, p2] [p2, p1] gSwap gSwapV where
  to := fun s us ws _ hl => by
    match us, ws, hl with
    | [], [b, a], _ => exact h s a b
    | [], [], hl => cases hl
    | [], [_], hl => cases hl
    | [], _ :: _ :: _ :: _, hl => cases hl
    | _ :: _, _, hl => simp [gSwap] at hl
  rel := fun {vs us zs ws} r rz => by
    cases r with
    | nil =>
      cases rz with
      | nil => exact .nil
      | cons b t =>
        cases t with
        | nil => exact .nil
        | cons a t =>
          cases t with
          | nil => exact .cons a (.cons b .nil)
          | cons _ _ => exact .nil
    | cons _ _ => exact .nil
structure EntK (P : Program) (w : World) (K : PySem.W.Frag) (mg : Str → Option Value) (base : Heap) (G : Str → Addr) (x : Str) (k : Nat) (p1 p2 : Str) (F : List D → R D) : Prop where
  ex : ∃ f fd, FnOk P w K mg base CX0 k f fd [p1, p2] (spD K G 2 F) ∧ (∀ (s : Shared) (a b : Value), BindsTo s fd ⟨[], [(p2, b), (p1, a)]⟩ [(p1, a), (p2, b)]) ∧ mg x = some (.ref f) ∧ PySem.W.keepIn K (.ref f) = true
section
variable {G : Str → Addr} {E : XK} {X : Cx} {pos p p2 kpos : Pos} {a b e : Expr} {kws : List Keyword} {nm : Option Str}
def DaK (G : Str → Addr) (E : XK) (X : Cx) (kws : List Keyword) (f : DSt → R (List D)) : Prop := ∃ t, PK X kws t ∧ Ev X.K G E (rA X.K) t f
theorem dak_nil : DaK G E X [] dNil := ⟨_, pk_nil, fun B δ σ H0 H s Q q => q [] H0 H (.refl s.ex) .nil⟩
theorem dak_cons {f g} (h : De G E X e f) (k : DaK G E X kws g) : DaK G E X (⟨nm, e, kpos⟩ :: kws) (dCons f g) := by
  obtain ⟨t, h1, h2⟩ := h
  obtain ⟨u, k1, k2⟩ := k
  refine ⟨_, pk_cons h1 k1, fun B δ σ H0 H s => at_bind (t := t σ H) mA (h2 B δ σ H0 H s) fun x v H1 H1' w rx => at_bind (t := u σ H1') (k := fun vs H2 Q => Q (v :: vs) H2) mA (k2 B δ σ H1 H1' (s.up w)) fun xs vs H2 H2' w2 rxs => ?_⟩
  exact fun Q q => q _ H2 H2' (.refl w2.b) (.cons (Rp.mono w2.a rx) rxs)
def tCallK0 (sp : Sp) (gV : List V → List V → List V) (E : XK) (tk : TA) : TE := fun σ H Q => tk σ H fun zs H2 => sp (gV [] zs) H2 Q E
theorem pe_callK0 {CX : CXT} {k : Nat} {f : Addr} {fd : FuncData} {ps ks : List Str} {sp : Sp} {x : Str} {tk : TA} {g : List Value → List Value → List Value} {gV : List V → List V → List V} (F : FnOk X.prog X.w X.K X.mg X.base CX k f fd ps sp) (hr : Room k X.A) (hg : Gl X x) (hm : X.mg x = some (.ref f)) (hk : PySem.W.keepIn X.K (.ref f) = true) (hb : KBinds X.K fd ps ks g gV) (hx : Passes CX X E)
    (hkw : PK X kws tk) (hall : (backToKw pos (keywordEach kws X.env)).all (·.1.isSome) = true := by rfl) (hks : (backToKw pos (keywordEach kws X.env)).filterMap (·.1) = ks := by rfl)
    (hdb : (x == ("__debug__" : Str)) = false := by decide)
    (hpl : ((backTo pos (starEach [] X.env)).any (·.1) || (backToKw pos (keywordEach kws X.env)).any (·.1.isNone)) = false := by rfl) :
    PE X (.Call (.Name x p) [] kws pos) (tCallK0 sp gV E tk) := by
  refine ⟨fun pins s σ H Q I h => ?_⟩
  refine wpAny_Call_Name_kw (ld_glob I hg hm ?_ hdb)
  refine PySem.W.callWith_KW0 (h₀ := X.base) I.ok.mod.kin hk hall (thn (hkw.run pos pins s σ H _ I h) fun ws s2 ⟨zs, H2, I2, rz, q2⟩ => ⟨I2.kIn, ?_⟩) hpl
  rw [hks]
  exact run_fnk (us := []) (vs := []) F hr hb hx I2 .nil rz q2
def dCallSw (F : List D → R D) (f : DSt → R (List D)) : DSt → R D := fun δ => (f δ).bind fun ds => if ds.length = 2 then F (P.swap ds) else .bad
theorem de_callSw {x p1 p2' : Str} {k : Nat} {F : List D → R D} {g} (h : EntK X.prog X.w X.K X.mg X.base G x k p1 p2' F) (hr : Room k X.A) (hg : Gl X x) (ha : DaK G E0 X kws g) (hall : (backToKw pos (keywordEach kws X.env)).all (·.1.isSome) = true := by rfl) (hks : (backToKw pos (keywordEach kws X.env)).filterMap (·.1) = [p2', p1] := by rfl)
    (hdb : (x == ("__debug__" : Str)) = false := by decide)
    (hpl : ((backTo pos (starEach [] X.env)).any (·.1) || (backToKw pos (keywordEach kws X.env)).any (·.1.isNone)) = false := by rfl) : De G E0 X (.Call (.Name x p) [] kws pos) (dCallSw F g) := by
  obtain ⟨f, fd, h1, h2, h3, h4⟩ := h.ex
  obtain ⟨t, k1, k2⟩ := ha
  refine ⟨_, pe_callK0 h1 hr hg h3 h4 (kb_swap h2) pass0 k1 hall hks hdb hpl, fun B δ σ H0 H s => at_bind (t := t σ H) (k := fun zs H2 Q => spD X.K G 2 F (gSwapV [] zs) H2 Q E0) mV (k2 B δ σ H0 H s) fun ds vs H1 H1' u r => ?_⟩
  split
  · rename_i hn
    match ds, vs, r, hn with
    | [d1, d2], [v1, v2], .cons r1 (.cons r2 .nil), _ => exact at_call u.b rfl (.cons r2 (.cons r1 .nil))
  · exact True.intro
end
structure FunK (K : PySem.W.Frag) (mg : Str → Option Value) (x : Str) (st : Stmt) (p1 p2 : Str) : Prop where
  ex : ∃ f fd, Fun K x x st f fd ∧ (∀ (s : Shared) (a b : Value), BindsTo s fd ⟨[], [(p2, b), (p1, a)]⟩ [(p1, a), (p2, b)]) ∧ mg x = some (.ref f)
theorem entK {P : Program} {w : World} {K : PySem.W.Frag} {mg : Str → Option Value} {base : Heap} {G : Str → Addr} {x : Str} {st : Stmt} {N : List Str} {p1 p2 : Str} {k m : Nat} {b : DSt → R Out} (F : FunK K mg x st p1 p2) (S : FnScope N [p1, p2] (defScope st)) (hm : N.length = m)
    (hb : ∀ (f : Addr) (cdv : Value) (A : Around) (outer : List Env) (s : Shared) (H : Hp) (E : XK), Room k (A.deeper (envOfC x (defScope st) s.heap.objs.size f cdv)) → Dss G E0 (cxOf CX0 P w K mg base N x (defScope st) f cdv A outer s H E).nox (defBody st) b) :
    EntK P w K mg base G x (k + 1) p1 p2 fun ds => (runF m b ds).noer := by
  obtain ⟨f, fd, h1, h2, h3⟩ := F.ex
  exact ⟨f, fd, fnD h1 S hm rfl (hb f), h2, h3, h1.kp⟩
end Dn

/-! Sn: pieces of Python that read and write a store (dicts, instances, shared lists), over Dn. -/
namespace Dn
open PySem PySem.Spec PyProof.Rows L2

inductive Ob where
  | dct (kvs : List (D × D))
  | dcT (kvs : List (D × D))
  | ins (cls : Str) (fs : List (Str × D))
  | lst (ds : List D)
abbrev Sto := List Ob
def kD : Key → D
  | .inl i => .int i
  | .inr s => .str s
def kT (ks : List Key) : D := .tuple (ks.map kD)
section
variable (K : PySem.W.Frag) (G : Str → Addr)
def ObAt (H0 H : Hp) (a : Addr) : Ob → Prop
  | .lst ds => ∃ vs, H a = some (.lst vs) ∧ RpAll K H0 vs ds
  | .dct kvs => ∃ xs : List (Key × V), H a = some (.dK xs) ∧ xs.map (fun p => kD p.1) = kvs.map (·.1) ∧ RpAll K H0 (xs.map (·.2)) (kvs.map (·.2))
  | .dcT kvs => ∃ xs : List (List Key × V), H a = some (.dT xs) ∧ xs.map (fun p => kT p.1) = kvs.map (·.1) ∧ RpAll K H0 (xs.map (·.2)) (kvs.map (·.2))
  | .ins c fs => ∃ (dx : Addr) (xs : List (Str × V)), H a = some (.ins (G c) dx xs) ∧ xs.map (·.1) = fs.map (·.1) ∧ RpAll K H0 (xs.map (·.2)) (fs.map (·.2)) ∧ H dx = some (.own a)
/-- the store lies in the heap, where the marks say -/
structure So (H0 H : Hp) (S : Sto) : Prop where
  at_ : ∀ a n, H0 a = some (gh n) → ∃ o, S[n]? = some o ∧ ObAt K G H0 H a o
  uq : ∀ a b n, H0 a = some (gh n) → H0 b = some (gh n) → a = b
end
/-- what a frame knows holds nothing of the store -/
def Nb (B H0 : Hp) : Prop := ∀ p n, H0 p = some (gh n) → B p = none
/-- an expression was evaluated, the store may have changed -/
structure UpS (H0 H H0' H' : Hp) : Prop where
  a : Same H0 H0'
  b : Fz H0' H'
  c : ∀ p o, H p = some o → (∀ n, H0 p ≠ some (gh n)) → H' p = some o
  n : ∀ p, H p ≠ none → H' p ≠ none
  d : ∀ p, H p ≠ none → H0 p = none → H0' p = none
  e : ∀ p n, H0' p = some (gh n) → H0 p = some (gh n) ∨ H p = none
theorem UpS.refl {H0 H : Hp} (e : Fz H0 H) : UpS H0 H H0 H := ⟨.refl _, e, fun _ _ h _ => h, fun _ h => h, fun _ _ h => h, fun _ _ h => .inl h⟩
theorem Up.toS {H0 H H0' H' : Hp} (u : Up H0 H H0' H') : UpS H0 H H0' H' := ⟨u.a, u.b, fun p o h _ => u.c p o h, fun p h => Same.ne u.c h, u.d, fun p n h => .inl (u.g p n h)⟩
theorem UpS.trans {H0 H H1 H1' H2 H2' : Hp} (x : UpS H0 H H1 H1') (y : UpS H1 H1' H2 H2') : UpS H0 H H2 H2' where
  a := x.a.trans y.a
  b := y.b
  c := fun p o h ng => by
    refine y.c p o (x.c p o h ng) fun n z => ?_
    rcases x.e p n z with w | w
    · exact ng n w
    · rw [w] at h; cases h
  n := fun p h => y.n p (x.n p h)
  d := fun p h1 h2 => y.d p (x.n p h1) (x.d p h1 h2)
  e := fun p n h => by
    rcases y.e p n h with w | w
    · exact x.e p n w
    · refine .inr ?_
      cases q : H p with
      | none => rfl
      | some o => exact absurd w (x.n p (by rw [q]; exact fun z => nomatch z))
section
variable {K : PySem.W.Frag} {G : Str → Addr} {E : XK}
theorem ObAt.mono {H0 H H0' H' : Hp} {a : Addr} {o : Ob} (e : Same H0 H0') (k : ∀ p u, H p = some u → (p = a ∨ u = .own a) → H' p = some u) (h : ObAt K G H0 H a o) : ObAt K G H0' H' a o := by
  cases o with
  | lst ds =>
    obtain ⟨vs, h1, h2⟩ := h
    exact ⟨vs, k _ _ h1 (.inl rfl), h2.mono e⟩
  | dct kvs =>
    obtain ⟨xs, h1, h2, h3⟩ := h
    exact ⟨xs, k _ _ h1 (.inl rfl), h2, h3.mono e⟩
  | dcT kvs =>
    obtain ⟨xs, h1, h2, h3⟩ := h
    exact ⟨xs, k _ _ h1 (.inl rfl), h2, h3.mono e⟩
  | ins c fs =>
    obtain ⟨dx, xs, h1, h2, h3, h4⟩ := h
    exact ⟨dx, xs, k _ _ h1 (.inl rfl), h2, h3.mono e, k _ _ h4 (.inr rfl)⟩
theorem So.up {H0 H H0' H' : Hp} {S : Sto} (s : So K G H0 H S) (u : Up H0 H H0' H') : So K G H0' H' S where
  at_ := fun a n h => by
    obtain ⟨o, h1, h2⟩ := s.at_ a n (u.g a n h)
    exact ⟨o, h1, h2.mono u.a fun p x q _ => u.c p x q⟩
  uq := fun a b n h1 h2 => s.uq a b n (u.g a n h1) (u.g b n h2)
theorem Nb.up {B H0 H H0' H' : Hp} (h : Nb B H0) (e : Same B H) (u : UpS H0 H H0' H') : Nb B H0' := fun p n q => by
  rcases u.e p n q with w | w
  · exact h p n w
  · exact Same.free e w
theorem Sl.upS {B H0 H H0' H' : Hp} {σ : L2.St} {δ : DSt} (s : Sl K B H0 H σ δ) (nb : Nb B H0) (u : UpS H0 H H0' H') : Sl K B H0' H' σ δ := by
  refine ⟨fun p o h => u.c p o (s.base p o h) fun n z => (by rw [nb p n z] at h; exact nomatch h), u.b, s.len, fun i d h => ?_, fun i ds h => ?_, s.sep⟩
  · obtain ⟨v, e, r⟩ := s.dat i d h
    exact ⟨v, e, r.mono u.a⟩
  · obtain ⟨p, vs, e, h1, h2, h3, r⟩ := s.own i ds h
    exact ⟨p, vs, e, u.d p (by rw [h3]; exact fun z => nomatch z) h1, h2, u.c _ _ h3 (fun n z => by rw [h1] at z; cases z), r.mono u.a⟩
end

/-! ### results with a store -/
inductive Rs (α : Type) where
  | bad
  | er (x : Exn) (S : Sto)
  | ok (a : α) (S : Sto)
def Rs.bind {α β : Type} (r : Rs α) (f : α → Sto → Rs β) : Rs β := match r with
  | .bad => .bad
  | .er x S => .er x S
  | .ok a S => f a S
@[simp] theorem Rs.bind_bad {α β : Type} (f : α → Sto → Rs β) : Rs.bind .bad f = .bad := rfl
@[simp] theorem Rs.bind_er {α β : Type} (x : Exn) (S : Sto) (f : α → Sto → Rs β) : Rs.bind (.er x S) f = .er x S := rfl
@[simp] theorem Rs.bind_ok {α β : Type} (a : α) (S : Sto) (f : α → Sto → Rs β) : Rs.bind (.ok a S) f = f a S := rfl
abbrev Sf (α : Type) := DSt → Sto → Rs α
def R.at_ {α : Type} (r : R α) (S : Sto) : Rs α := match r with
  | .bad => .bad
  | .er x => .er x S
  | .ok a => .ok a S
@[simp] theorem R.at_bad {α : Type} (S : Sto) : (R.bad : R α).at_ S = .bad := rfl
@[simp] theorem R.at_er {α : Type} (x : Exn) (S : Sto) : (R.er x : R α).at_ S = .er x S := rfl
@[simp] theorem R.at_ok {α : Type} (a : α) (S : Sto) : (R.ok a).at_ S = .ok a S := rfl
def sL {α : Type} (f : DSt → R α) : Sf α := fun δ S => (f δ).at_ S
def s1 {α γ : Type} (g : α → R γ) (f : Sf α) : Sf γ := fun δ S => (f δ S).bind fun x S1 => (g x).at_ S1
def s2 {α β γ : Type} (g : α → β → R γ) (f : Sf α) (k : Sf β) : Sf γ := fun δ S => (f δ S).bind fun x S1 => (k δ S1).bind fun y S2 => (g x y).at_ S2
def s3 {α β ε γ : Type} (g : α → β → ε → R γ) (f : Sf α) (k : Sf β) (l : Sf ε) : Sf γ := fun δ S => (f δ S).bind fun x S1 => (k δ S1).bind fun y S2 => (l δ S2).bind fun z S3 => (g x y z).at_ S3

section
variable {K : PySem.W.Frag} {G : Str → Addr} {E : XK}
def AtS (K : PySem.W.Frag) (G : Str → Addr) (E : XK) {β α : Type} (rel : Rel β α) (H0 H : Hp) (t : (β → Hp → Prop) → Prop) (r : Rs α) : Prop := match r with
  | .bad => True
  | .er x S => ∀ Q : β → Hp → Prop, (∀ c dd H0' H', UpS H0 H H0' H' → So K G H0' H' S → XR K G H0' H' c dd x → E c dd H') → t Q
  | .ok a S => ∀ Q : β → Hp → Prop, (∀ b H0' H', UpS H0 H H0' H' → So K G H0' H' S → rel H H0' H' b a → Q b H') → t Q
/-- a relation told from an earlier heap -/
def Rel.MS {β α : Type} (rel : Rel β α) : Prop := ∀ Hs Hs' H0 H b a, (∀ p, Hs p ≠ none → Hs' p ≠ none) → rel Hs' H0 H b a → rel Hs H0 H b a
theorem msV {K} : Rel.MS (rV K) := fun _ _ _ _ _ _ _ h => h
theorem msA {K} : Rel.MS (rA K) := fun _ _ _ _ _ _ _ h => h
theorem msB : Rel.MS rB := fun _ _ _ _ _ _ _ h => h
theorem msO : Rel.MS rO := fun _ _ _ _ _ _ _ h => h
theorem msN {K} : Rel.MS (rN K) := fun Hs Hs' _ _ _ _ e ⟨p, vs, h1, h2, h3⟩ => ⟨p, vs, h1, by
  cases q : Hs p with
  | none => rfl
  | some o => exact absurd h2 (e p (by rw [q]; exact fun z => nomatch z)), h3⟩
def Rel.SS {β α : Type} (rel : Rel β α) : Prop := ∀ Hs H0 H H0' H' b a, UpS H0 H H0' H' → rel Hs H0 H b a → rel Hs H0' H' b a
theorem ssV {K} : Rel.SS (rV K) := fun _ _ _ _ _ _ _ u h => Rp.mono u.a h
theorem ssA {K} : Rel.SS (rA K) := fun _ _ _ _ _ _ _ u h => RpAll.mono u.a h
theorem ssB : Rel.SS rB := fun _ _ _ _ _ _ _ _ h => h
theorem ssO : Rel.SS rO := fun _ _ _ _ _ _ _ _ h => h
theorem ats_of {β α : Type} {rel : Rel β α} {H0 H : Hp} {t : (β → Hp → Prop) → Prop} {r : R α} {S : Sto} (o : So K G H0 H S) (h : At K G E rel H0 H t r) : AtS K G E rel H0 H t (r.at_ S) := by
  cases r with
  | bad => exact True.intro
  | er x => exact fun Q q => h Q fun c dd H0' H' u => q c dd H0' H' u.toS (o.up u)
  | ok a => exact fun Q q => h Q fun b H0' H' u => q b H0' H' u.toS (o.up u)
theorem ats_bind {β α γ ε : Type} {r1 : Rel β α} {r2 : Rel γ ε} {H0 H : Hp} {t : (β → Hp → Prop) → Prop} {k : β → Hp → (γ → Hp → Prop) → Prop} {r : Rs α} {g : α → Sto → Rs ε} (m2 : Rel.MS r2) (h : AtS K G E r1 H0 H t r)
    (hk : ∀ a b H0' H' S, UpS H0 H H0' H' → So K G H0' H' S → r1 H H0' H' b a → AtS K G E r2 H0' H' (k b H') (g a S)) : AtS K G E r2 H0 H (fun Q => t fun b H1 => k b H1 Q) (r.bind g) := by
  cases r with
  | bad => exact True.intro
  | er x S =>
    intro Q hq
    exact h _ hq
  | ok a S =>
    show AtS K G E r2 H0 H _ (g a S)
    cases e : g a S with
    | bad => exact True.intro
    | er x S' =>
      intro Q hq
      refine h _ fun b H0' H' u o rb => ?_
      have z := hk a b H0' H' S u o rb
      rw [e] at z
      exact z Q fun c dd H0'' H'' u2 o2 x2 => hq c dd H0'' H'' (u.trans u2) o2 x2
    | ok y S' =>
      intro Q hq
      refine h _ fun b H0' H' u o rb => ?_
      have z := hk a b H0' H' S u o rb
      rw [e] at z
      exact z Q fun c H0'' H'' u2 o2 rc => hq c H0'' H'' (u.trans u2) o2 (m2 _ _ _ _ _ _ u.n rc)
theorem AtS.imp {β α : Type} {rel : Rel β α} {H0 H : Hp} {t t' : (β → Hp → Prop) → Prop} {r : Rs α} (h : AtS K G E rel H0 H t r) (w : ∀ Q, t Q → t' Q) : AtS K G E rel H0 H t' r := by
  cases r with
  | bad => exact True.intro
  | er x S => exact fun Q q => w Q (h Q q)
  | ok a S => exact fun Q q => w Q (h Q q)
def EvS (K : PySem.W.Frag) (G : Str → Addr) (E : XK) {β α : Type} (rel : Rel β α) (t : L2.St → Hp → (β → Hp → Prop) → Prop) (f : Sf α) : Prop :=
  ∀ B δ σ H0 H S, Sl K B H0 H σ δ → Nb B H0 → So K G H0 H S → AtS K G E rel H0 H (t σ H) (f δ S)
theorem evs_lift {β α : Type} {rel : Rel β α} {t : L2.St → Hp → (β → Hp → Prop) → Prop} {f : DSt → R α} (h : Ev K G E rel t f) : EvS K G E rel t (sL f) := fun B δ σ H0 H S s nb o => ats_of o (h B δ σ H0 H s)
theorem evs_un {α γ : Type} {ra : Rel V α} {rc : Rel V γ} {r : V → Hp → VK → Prop} {ta : TE} {fa : Sf α} {g : α → R γ} (mc : Rel.MS rc) (ha : EvS K G E ra ta fa)
    (hk : ∀ x v Hs H0 H, Fz H0 H → ra Hs H0 H v x → At K G E rc H0 H (r v H) (g x)) : EvS K G E rc (tUn r ta) (s1 g fa) :=
  fun B δ σ H0 H S s nb o => ats_bind (t := ta σ H) (k := fun v H1 Q => r v H1 Q) mc (ha B δ σ H0 H S s nb o) fun x v H1 H1' S1 u o1 rx => ats_of o1 (hk x v H H1 H1' u.b rx)
theorem evs_op {α β' γ : Type} {ra : Rel V α} {rb : Rel V β'} {rc : Rel V γ} {r : R2} {ta tb : TE} {fa : Sf α} {fb : Sf β'} {g : α → β' → R γ} (sa : Rel.SS ra) (mc : Rel.MS rc) (ha : EvS K G E ra ta fa) (hb : EvS K G E rb tb fb)
    (hk : ∀ x y v w Hs Hs' H0 H, Fz H0 H → ra Hs H0 H v x → rb Hs' H0 H w y → At K G E rc H0 H (r v w H) (g x y)) : EvS K G E rc (tOp r ta tb) (s2 g fa fb) :=
  fun B δ σ H0 H S s nb o => ats_bind (t := ta σ H) (k := fun v H1 Q => tb σ H1 fun w H2 => r v w H2 Q) mc (ha B δ σ H0 H S s nb o) fun x v H1 H1' S1 u o1 rx =>
    ats_bind (t := tb σ H1') (k := fun w H2 Q => r v w H2 Q) mc (hb B δ σ H1 H1' S1 (s.upS nb u) (nb.up s.base u) o1) fun y w H2 H2' S2 u2 o2 ry => ats_of o2 (hk x y v w H H1' H2 H2' u2.b (sa _ _ _ _ _ _ _ u2 rx) ry)
theorem evs_cb {γ : Type} {rc : Rel V γ} {r : List V → Hp → VK → Prop} {ta : TA} {fa : Sf (List D)} {g : List D → R γ} (mc : Rel.MS rc) (ha : EvS K G E (rA K) ta fa)
    (hk : ∀ ds vs H0 H, Fz H0 H → RpAll K H0 vs ds → At K G E rc H0 H (r vs H) (g ds)) : EvS K G E rc (tCB r ta) (s1 g fa) :=
  fun B δ σ H0 H S s nb o => ats_bind (t := ta σ H) (k := fun v H1 Q => r v H1 Q) mc (ha B δ σ H0 H S s nb o) fun x v H1 H1' S1 u o1 rx => ats_of o1 (hk x v H1 H1' u.b rx)
end
section
variable (G : Str → Addr) (E : XK) (X : Cx)
def Dz (e : Expr) (f : Sf D) : Prop := ∃ t, PE X e t ∧ EvS X.K G E (rV X.K) t f
def DzN (e : Expr) (f : Sf (List D)) : Prop := ∃ t, PE X e t ∧ EvS X.K G E (rN X.K) t f
def DzT (e : Expr) (f : Sf Bool) : Prop := ∃ t, PT X e t ∧ EvS X.K G E rB t f
def DzW (e : Expr) (f : Sf Bool) : Prop := ∃ t, PW X e t ∧ EvS X.K G E rB t f
def DzA (es : List Expr) (f : Sf (List D)) : Prop := ∃ t, PA X es t ∧ EvS X.K G E (rA X.K) t f
def DzP (e : Option Expr) (f : Sf (Option Int)) : Prop := ∃ t, PO X e t ∧ EvS X.K G E rO t f
end
section
variable {G : Str → Addr} {E : XK} {X : Cx} {e : Expr} {es : List Expr}
theorem De.z {f} (h : De G E X e f) : Dz G E X e (sL f) := by
  obtain ⟨t, h1, h2⟩ := h
  exact ⟨t, h1, evs_lift h2⟩
theorem DN.z {f} (h : DN G E X e f) : DzN G E X e (sL f) := by
  obtain ⟨t, h1, h2⟩ := h
  exact ⟨t, h1, evs_lift h2⟩
theorem Dt.z {f} (h : Dt G E X e f) : DzT G E X e (sL f) := by
  obtain ⟨t, h1, h2⟩ := h
  exact ⟨t, h1, evs_lift h2⟩
theorem Da.z {f} (h : Da G E X es f) : DzA G E X es (sL f) := by
  obtain ⟨t, h1, h2⟩ := h
  exact ⟨t, h1, evs_lift h2⟩
theorem Dp'.z {e : Option Expr} {f} (h : Dp' G E X e f) : DzP G E X e (sL f) := by
  obtain ⟨t, h1, h2⟩ := h
  exact ⟨t, h1, evs_lift h2⟩
end
end Dn

namespace Dn
open PySem PySem.Spec PyProof.Rows L2
section
variable {G : Str → Addr} {E : XK} {X : Cx} {pos p p2 : Pos} {a b c e : Expr} {es : List Expr}
/-! ### operators -/
def P.addD (x y : D) : R D := P.add (.d x) (.d y)
theorem dz_add {f g} (ha : Dz G E X a f) (hb : Dz G E X b g) : Dz G E X (.BinOp a .Add b pos) (s2 P.addD f g) := by
  obtain ⟨t, h1, h2⟩ := ha
  obtain ⟨u, k1, k2⟩ := hb
  exact ⟨_, pe_op op_addD h1 k1, evs_op ssV msV h2 k2 fun x y v w Hs Hs' H0 H e rx ry => at_add (Hs := Hs) (Hs' := Hs') (x := .d x) (y := .d y) e rx ry⟩
def P.catD (x y : D) : R (List D) := P.catN (.d x) (.d y)
theorem dzn_cat {f g} (ha : Dz G E X a f) (hb : Dz G E X b g) : DzN G E X (.BinOp a .Add b pos) (s2 P.catD f g) := by
  obtain ⟨t, h1, h2⟩ := ha
  obtain ⟨u, k1, k2⟩ := hb
  refine ⟨_, pe_op op_cat h1 k1, evs_op ssV msN h2 k2 fun x y v w Hs Hs' H0 H e rx ry => ?_⟩
  unfold P.catD P.catN
  split
  · rename_i a b ha hb
    split
    · rename_i hl
      obtain ⟨p1, vs1, rfl, h1, r1⟩ := as_lt (Hs := Hs) e (show rP X.K Hs H0 H v (.d x) from rx) ha
      obtain ⟨p2, vs2, rfl, h2, r2⟩ := as_lt (Hs := Hs) e (show rP X.K Hs H0 H w (.d y) from ry) hb
      refine fun Q q => ⟨_, _, _, _, rfl, rfl, h1, h2, by rw [r1.length, r2.length]; exact lim_le hl, ?_⟩
      exact at_newN (G := G) (E := E) e (r1.append r2) Q q
    · exact True.intro
  · exact True.intro
theorem dz_int2 {o : Operator} {C : Int → Int → Prop} {c : Int → Int → Bool} {h : Int → Int → D} {h' : Int → Int → V} {f g} (ho : OpR X (binaryOp o) (L2.rI C h')) (hc : ∀ i j, c i j = true → C i j) (hh : ∀ K H i j, c i j = true → Rp K H (h' i j) (h i j))
    (ha : Dz G E X a f) (hb : Dz G E X b g) : Dz G E X (.BinOp a o b pos) (s2 (P.int2 c h) f g) := by
  obtain ⟨t, h1, h2⟩ := ha
  obtain ⟨u, k1, k2⟩ := hb
  refine ⟨_, pe_op ho h1 k1, evs_op ssV msV h2 k2 fun x y v w Hs Hs' H0 H e rx ry => ?_⟩
  unfold P.int2
  split
  · split
    · rename_i q
      cases (show Rp X.K H0 v _ from rx); cases (show Rp X.K H0 w _ from ry)
      exact fun Q k => ⟨_, _, rfl, rfl, hc _ _ q, k _ H0 H (.refl e) (hh _ _ _ _ q)⟩
    · exact True.intro
  · exact True.intro
abbrev P.sub := P.int2 cTrue fun i j => .int (i - j)
abbrev P.mul := P.int2 cMul fun i j => .int (i * j)
abbrev P.mod := P.int2 cPos fun i j => .int (i % j)
abbrev P.div := P.int2 cDiv fun i j => .int (i / j)
abbrev P.pow := P.int2 cPow fun i j => .int (i ^ j.toNat)
theorem dz_sub {f g} (ha : Dz G E X a f) (hb : Dz G E X b g) : Dz G E X (.BinOp a .Sub b pos) (s2 P.sub f g) := dz_int2 op_subC (fun _ _ _ => True.intro) (fun _ _ _ _ _ => .int _) ha hb
theorem dz_mul {f g} (ha : Dz G E X a f) (hb : Dz G E X b g) : Dz G E X (.BinOp a .Mult b pos) (s2 P.mul f g) := dz_int2 op_mul (fun i j h => by
  unfold cMul at h
  simp only [Bool.or_eq_true, Bool.and_eq_true, decide_eq_true_eq] at h
  exact h) (fun _ _ _ _ _ => .int _) ha hb
theorem dz_mod {f g} (ha : Dz G E X a f) (hb : Dz G E X b g) : Dz G E X (.BinOp a .Mod b pos) (s2 P.mod f g) := dz_int2 op_mod (fun i j h => of_decide_eq_true h) (fun _ _ _ _ _ => .int _) ha hb
theorem dz_div {f g} (ha : Dz G E X a f) (hb : Dz G E X b g) : Dz G E X (.BinOp a .FloorDiv b pos) (s2 P.div f g) := dz_int2 op_fdiv (fun i j h => by
  unfold cDiv at h
  simp only [Bool.and_eq_true, decide_eq_true_eq] at h
  exact ⟨h.1, by omega⟩) (fun _ _ _ _ _ => .int _) ha hb
theorem dz_pow {f g} (ha : Dz G E X a f) (hb : Dz G E X b g) : Dz G E X (.BinOp a .Pow b pos) (s2 P.pow f g) := dz_int2 op_pow (fun i j h => by
  unfold cPow at h
  simp only [Bool.and_eq_true, decide_eq_true_eq] at h
  exact ⟨h.1.1, by omega, h.2⟩) (fun _ _ _ _ _ => .int _) ha hb
/-! ### comparisons -/
def DzC (G : Str → Addr) (E : XK) (X : Cx) (o : CmpOp) (a b : Expr) (f : Sf D) : Prop := ∃ r ta tb, OpR X (compareOp o) r ∧ PE X a ta ∧ PE X b tb ∧ behindInMarks o b = false ∧ EvS X.K G E (rV X.K) (tOp r ta tb) f
theorem dz_c {o : CmpOp} {f} (h : DzC G E X o a b f) : Dz G E X (.Compare a [o] [b] pos) f := by
  obtain ⟨r, ta, tb, h1, h2, h3, h4, h5⟩ := h
  exact ⟨_, pe_cmpR h1 h2 h3 h4, h5⟩
theorem at_tru {K : PySem.W.Frag} {H0 H : Hp} {v : V} {x : D} (e : Fz H0 H) (rx : Rp K H0 v x) : At K G E rB H0 H (fun Q => ∃ k, v = .bl k ∧ Q k H) (P.tru x) := by
  unfold P.tru
  split
  · cases rx
    exact fun Q q => ⟨_, rfl, q _ H0 H (.refl e) rfl⟩
  · exact True.intro
theorem dzt_c {o : CmpOp} {f} (h : DzC G E X o a b f) : DzT G E X (.Compare a [o] [b] pos) (s1 P.tru f) := by
  obtain ⟨r, ta, tb, h1, h2, h3, h4, h5⟩ := h
  exact ⟨_, pt_cmpR h1 h2 h3 h4, fun B δ σ H0 H S s nb o => ats_bind (t := tOp r ta tb σ H) (k := fun v H1 Q => ∃ k, v = .bl k ∧ Q k H1) msB (h5 B δ σ H0 H S s nb o) fun x v H1 H1' S1 u o1 rx => ats_of o1 (at_tru u.b rx)⟩
def P.eqD (x y : D) : R D := P.eq (.d x) (.d y)
def P.neD (x y : D) : R D := P.ne (.d x) (.d y)
theorem dzc_eq {f g} (hu : X.A.units + 64 < cLine) (ha : Dz G E X a f) (hb : Dz G E X b g) : DzC G E X .Eq a b (s2 P.eqD f g) := by
  obtain ⟨t, h1, h2⟩ := ha
  obtain ⟨u, k1, k2⟩ := hb
  refine ⟨_, _, _, op_eqD hu, h1, k1, nomark _, evs_op ssV msV h2 k2 fun x y v w Hs Hs' H0 H e rx ry => ?_⟩
  unfold P.eqD P.eq
  split
  · rename_i q
    simp only [Bool.and_eq_true] at q
    exact fun Q k => ⟨_, _, op_dp (Hs := Hs) (x := .d x) e rx q.1, op_dp (Hs := Hs) (x := .d y) e ry q.2, q.1, q.2, k _ H0 H (.refl e) (.bl _)⟩
  · exact True.intro
theorem dzc_ne {f g} (hu : X.A.units + 64 < cLine) (ha : Dz G E X a f) (hb : Dz G E X b g) : DzC G E X .NotEq a b (s2 P.neD f g) := by
  obtain ⟨t, h1, h2⟩ := ha
  obtain ⟨u, k1, k2⟩ := hb
  refine ⟨_, _, _, op_neD hu, h1, k1, nomark _, evs_op ssV msV h2 k2 fun x y v w Hs Hs' H0 H e rx ry => ?_⟩
  unfold P.neD P.ne
  split
  · rename_i q
    simp only [Bool.and_eq_true] at q
    exact fun Q k => ⟨_, _, op_dp (Hs := Hs) (x := .d x) e rx q.1, op_dp (Hs := Hs) (x := .d y) e ry q.2, q.1, q.2, k _ H0 H (.refl e) (.bl _)⟩
  · exact True.intro
theorem dzc_cmp {o : CmpOp} {c : Int → Int → Bool} {f g} (ho : OpR X (compareOp o) (rI0 fun i j => .bl (c i j))) (hm : behindInMarks o b = false) (ha : Dz G E X a f) (hb : Dz G E X b g) : DzC G E X o a b (s2 (P.cmp c) f g) := by
  obtain ⟨t, h1, h2⟩ := ha
  obtain ⟨u, k1, k2⟩ := hb
  refine ⟨_, _, _, ho, h1, k1, hm, evs_op ssV msV h2 k2 fun x y v w Hs Hs' H0 H e rx ry => ?_⟩
  unfold P.cmp
  split
  · cases (show Rp X.K H0 v _ from rx); cases (show Rp X.K H0 w _ from ry)
    exact fun Q k => ⟨_, _, rfl, rfl, k _ H0 H (.refl e) (.bl _)⟩
  · exact True.intro
theorem dzc_lt {f g} (ha : Dz G E X a f) (hb : Dz G E X b g) : DzC G E X .Lt a b (s2 (P.cmp gLt) f g) := dzc_cmp op_lt (nomark _) ha hb
theorem dzc_le {f g} (ha : Dz G E X a f) (hb : Dz G E X b g) : DzC G E X .LtE a b (s2 (P.cmp gLe) f g) := dzc_cmp op_le (nomark _) ha hb
theorem dzc_gt {f g} (ha : Dz G E X a f) (hb : Dz G E X b g) : DzC G E X .Gt a b (s2 (P.cmp gGt) f g) := dzc_cmp op_gt (nomark _) ha hb
theorem dzc_ge {f g} (ha : Dz G E X a f) (hb : Dz G E X b g) : DzC G E X .GtE a b (s2 (P.cmp gGe) f g) := dzc_cmp op_ge (nomark _) ha hb
def P.isND (x : D) : R D := .ok (P.isN (.d x))
def P.notND (x : D) : R D := .ok (P.notN (.d x))
theorem dzc_isN {f j} (ha : Dz G E X a f) : DzC G E X .Is a (.Constant .none j p) (s1 P.isND f) := by
  obtain ⟨t, h1, h2⟩ := ha
  refine ⟨_, _, _, op_isN, h1, pe_non, nomark _, fun B δ σ H0 H S s nb o => ats_bind (t := t σ H) (k := fun x H1 Q => V.non = .non ∧ Q (.bl (decide (x = .non))) H1) msV (h2 B δ σ H0 H S s nb o) fun x v H1 H1' S1 u o1 rx => ats_of o1 ?_⟩
  unfold P.isND
  rw [(isN_eq (Hs := H) (H := H1') (x := .d x) rx).1]
  exact fun Q q => ⟨rfl, q _ H1 H1' (.refl u.b) (.bl _)⟩
theorem dzc_notN {f j} (ha : Dz G E X a f) : DzC G E X .IsNot a (.Constant .none j p) (s1 P.notND f) := by
  obtain ⟨t, h1, h2⟩ := ha
  refine ⟨_, _, _, op_notN, h1, pe_non, nomark _, fun B δ σ H0 H S s nb o => ats_bind (t := t σ H) (k := fun x H1 Q => V.non = .non ∧ Q (.bl (!decide (x = .non))) H1) msV (h2 B δ σ H0 H S s nb o) fun x v H1 H1' S1 u o1 rx => ats_of o1 ?_⟩
  unfold P.notND
  rw [(isN_eq (Hs := H) (H := H1') (x := .d x) rx).2]
  exact fun Q q => ⟨rfl, q _ H1 H1' (.refl u.b) (.bl _)⟩
/-! ### tests -/
theorem dzt_val {f} (h : Dz G E X e f) (he : ∀ whole, isTrue e X.env whole = (do let v ← whole; standAt e.pos; holding [v] (truthy v)) := by intro _; rfl) : DzT G E X e (s1 P.tru f) := by
  obtain ⟨t, h1, h2⟩ := h
  exact ⟨_, pt_val h1 he, fun B δ σ H0 H S s nb o => ats_bind (t := t σ H) (k := fun v H1 Q => ∃ k, v = .bl k ∧ Q k H1) msB (h2 B δ σ H0 H S s nb o) fun x v H1 H1' S1 u o1 rx => ats_of o1 (at_tru u.b rx)⟩
def sNot (f : Sf Bool) : Sf Bool := fun δ S => (f δ S).bind fun b S1 => .ok (!b) S1
def sAnd (f g : Sf Bool) : Sf Bool := fun δ S => (f δ S).bind fun b S1 => if b then g δ S1 else .ok false S1
def sOr (f g : Sf Bool) : Sf Bool := fun δ S => (f δ S).bind fun b S1 => if b then .ok true S1 else g δ S1
theorem dzt_not {f} (h : DzT G E X a f) : DzT G E X (.UnaryOp .Not a pos) (sNot f) := by
  obtain ⟨t, h1, h2⟩ := h
  refine ⟨_, pt_not h1, fun B δ σ H0 H S s nb o => ats_bind (t := t σ H) msB (h2 B δ σ H0 H S s nb o) fun x v H1 H1' S1 u o1 rx => ?_⟩
  cases (show v = x from rx)
  exact fun Q q => q _ H1 H1' (.refl u.b) o1 rfl
theorem dzw_and1 {f} (h : DzT G E X a f) : DzW G E X (.BoolOp .And [a] pos) f := by
  obtain ⟨t, h1, h2⟩ := h
  exact ⟨_, pw_and1 h1, h2⟩
theorem dzw_or1 {f} (h : DzT G E X a f) : DzW G E X (.BoolOp .Or [a] pos) f := by
  obtain ⟨t, h1, h2⟩ := h
  exact ⟨_, pw_or1 h1, h2⟩
theorem dzw_and {f g} (h : DzT G E X a f) (k : DzW G E X (.BoolOp .And (b :: es) pos) g) : DzW G E X (.BoolOp .And (a :: b :: es) pos) (sAnd f g) := by
  obtain ⟨t, h1, h2⟩ := h
  obtain ⟨u, k1, k2⟩ := k
  refine ⟨_, pw_and h1 k1, fun B δ σ H0 H S s nb o => ats_bind (t := t σ H) msB (h2 B δ σ H0 H S s nb o) fun x v H1 H1' S1 w o1 rx => ?_⟩
  cases (show v = x from rx)
  cases x with
  | true => exact k2 B δ σ H1 H1' S1 (s.upS nb w) (nb.up s.base w) o1
  | false => exact fun Q q => q _ H1 H1' (.refl w.b) o1 rfl
theorem dzw_or {f g} (h : DzT G E X a f) (k : DzW G E X (.BoolOp .Or (b :: es) pos) g) : DzW G E X (.BoolOp .Or (a :: b :: es) pos) (sOr f g) := by
  obtain ⟨t, h1, h2⟩ := h
  obtain ⟨u, k1, k2⟩ := k
  refine ⟨_, pw_or h1 k1, fun B δ σ H0 H S s nb o => ats_bind (t := t σ H) msB (h2 B δ σ H0 H S s nb o) fun x v H1 H1' S1 w o1 rx => ?_⟩
  cases (show v = x from rx)
  cases x with
  | false => exact k2 B δ σ H1 H1' S1 (s.upS nb w) (nb.up s.base w) o1
  | true => exact fun Q q => q _ H1 H1' (.refl w.b) o1 rfl
theorem dzt_w {f} (h : DzW G E X e f) : DzT G E X e f := by
  obtain ⟨t, h1, h2⟩ := h
  exact ⟨_, PW.pt h1, h2⟩
def sAndV (f g : Sf D) : Sf D := fun δ S => (f δ S).bind fun x S1 => ((P.tru x).at_ S1).bind fun b S2 => if b then g δ S2 else .ok (.bool false) S2
def sOrV (f g : Sf D) : Sf D := fun δ S => (f δ S).bind fun x S1 => ((P.tru x).at_ S1).bind fun b S2 => if b then .ok (.bool true) S2 else g δ S2
def P.notV (x : D) : R D := (P.tru x).bind fun b => .ok (.bool (!b))
theorem dz_one {f o} (h : Dz G E X a f) : Dz G E X (.BoolOp o [a] pos) f := by
  obtain ⟨t, h1, h2⟩ := h
  exact ⟨_, pe_one h1, h2⟩
theorem dz_and {f g} (h : Dz G E X a f) (k : Dz G E X (.BoolOp .And (b :: es) pos) g) : Dz G E X (.BoolOp .And (a :: b :: es) pos) (sAndV f g) := by
  obtain ⟨t, h1, h2⟩ := h
  obtain ⟨u, k1, k2⟩ := k
  refine ⟨_, pe_and h1 k1, fun B δ σ H0 H S s nb o => ats_bind (t := t σ H) msV (h2 B δ σ H0 H S s nb o) fun x v H1 H1' S1 w o1 rx => ?_⟩
  cases x with
  | bool c =>
    cases (show Rp X.K H1 v _ from rx)
    cases c with
    | true => exact AtS.imp (k2 B δ σ H1 H1' S1 (s.upS nb w) (nb.up s.base w) o1) fun Q q => ⟨true, rfl, q⟩
    | false => exact fun Q q => ⟨false, rfl, q _ H1 H1' (.refl w.b) o1 (.bl _)⟩
  | _ => exact True.intro
theorem dz_or {f g} (h : Dz G E X a f) (k : Dz G E X (.BoolOp .Or (b :: es) pos) g) : Dz G E X (.BoolOp .Or (a :: b :: es) pos) (sOrV f g) := by
  obtain ⟨t, h1, h2⟩ := h
  obtain ⟨u, k1, k2⟩ := k
  refine ⟨_, pe_or h1 k1, fun B δ σ H0 H S s nb o => ats_bind (t := t σ H) msV (h2 B δ σ H0 H S s nb o) fun x v H1 H1' S1 w o1 rx => ?_⟩
  cases x with
  | bool c =>
    cases (show Rp X.K H1 v _ from rx)
    cases c with
    | false => exact AtS.imp (k2 B δ σ H1 H1' S1 (s.upS nb w) (nb.up s.base w) o1) fun Q q => ⟨false, rfl, q⟩
    | true => exact fun Q q => ⟨true, rfl, q _ H1 H1' (.refl w.b) o1 (.bl _)⟩
  | _ => exact True.intro
theorem dz_not {f} (h : Dz G E X a f) : Dz G E X (.UnaryOp .Not a pos) (s1 P.notV f) := by
  obtain ⟨t, h1, h2⟩ := h
  refine ⟨_, pe_not h1, fun B δ σ H0 H S s nb o => ats_bind (t := t σ H) msV (h2 B δ σ H0 H S s nb o) fun x v H1 H1' S1 w o1 rx => ?_⟩
  cases x with
  | bool c =>
    cases (show Rp X.K H1 v _ from rx)
    exact fun Q q => ⟨c, rfl, q _ H1 H1' (.refl w.b) o1 (.bl _)⟩
  | _ => exact True.intro
def sIf {α : Type} (c : Sf Bool) (f g : Sf α) : Sf α := fun δ S => (c δ S).bind fun b S1 => if b then f δ S1 else g δ S1
theorem dz_if {c : Expr} {h f g} (hc : DzT G E X c h) (ha : Dz G E X a f) (hb : Dz G E X b g) : Dz G E X (.IfExp c a b pos) (sIf h f g) := by
  obtain ⟨t, h1, h2⟩ := hc
  obtain ⟨u, k1, k2⟩ := ha
  obtain ⟨u', l1, l2⟩ := hb
  refine ⟨_, pe_ifExp h1 k1 l1, fun B δ σ H0 H S s nb o => ats_bind (t := t σ H) msV (h2 B δ σ H0 H S s nb o) fun x v H1 H1' S1 w o1 rx => ?_⟩
  cases (show v = x from rx)
  cases x with
  | true => exact k2 B δ σ H1 H1' S1 (s.upS nb w) (nb.up s.base w) o1
  | false => exact l2 B δ σ H1 H1' S1 (s.upS nb w) (nb.up s.base w) o1
/-! ### argument lists, displays -/
def sNil : Sf (List D) := fun _ S => .ok [] S
def sCons (f : Sf D) (g : Sf (List D)) : Sf (List D) := fun δ S => (f δ S).bind fun x S1 => (g δ S1).bind fun xs S2 => .ok (x :: xs) S2
theorem dza_nil : DzA G E X [] sNil := ⟨_, pa_nil, fun B δ σ H0 H S s nb o Q q => q [] H0 H (.refl s.ex) o .nil⟩
theorem dza_cons {f g} (h : Dz G E X e f) (k : DzA G E X es g) (hs : starEach (e :: es) X.env = (false, eval e X.env) :: starEach es X.env := by rfl) : DzA G E X (e :: es) (sCons f g) := by
  obtain ⟨t, h1, h2⟩ := h
  obtain ⟨u, k1, k2⟩ := k
  refine ⟨_, pa_cons h1 k1 hs, fun B δ σ H0 H S s nb o => ats_bind (t := t σ H) msA (h2 B δ σ H0 H S s nb o) fun x v H1 H1' S1 w o1 rx => ats_bind (t := u σ H1') (k := fun vs H2 Q => Q (v :: vs) H2) msA (k2 B δ σ H1 H1' S1 (s.upS nb w) (nb.up s.base w) o1) fun xs vs H2 H2' S2 w2 o2 rxs => ?_⟩
  exact fun Q q => q _ H2 H2' (.refl w2.b) o2 (.cons (Rp.mono w2.a rx) rxs)
def P.tupD (xs : List D) : R D := if xs.length ≤ LIM then .ok (.tuple xs) else .bad
theorem dz_tup {f x1} (h : DzA G E X es f) : Dz G E X (.Tuple es x1 pos) (s1 P.tupD f) := by
  obtain ⟨t, h1, h2⟩ := h
  refine ⟨_, pe_tup h1, fun B δ σ H0 H S s nb o => ats_bind (t := t σ H) msV (h2 B δ σ H0 H S s nb o) fun xs vs H1 H1' S1 w o1 rx => ats_of o1 ?_⟩
  unfold P.tupD
  split
  · rename_i hl
    exact At.imp (at_newT w.b rx) fun Q q => ⟨by rw [RpAll.length rx]; exact lim_le hl, q⟩
  · exact True.intro
def P.lstD (xs : List D) : R D := if xs.length ≤ LIM then .ok (.list xs) else .bad
theorem dz_lst {f} (h : DzA G E X es f) : Dz G E X (.List es pos) (s1 P.lstD f) := by
  obtain ⟨t, h1, h2⟩ := h
  refine ⟨_, pe_lst h1, fun B δ σ H0 H S s nb o => ats_bind (t := t σ H) msV (h2 B δ σ H0 H S s nb o) fun xs vs H1 H1' S1 w o1 rx => ats_of o1 ?_⟩
  unfold P.lstD
  split
  · rename_i hl
    exact At.imp (at_newL w.b rx) fun Q q => ⟨by rw [RpAll.length rx]; exact lim_le hl, q⟩
  · exact True.intro
def P.lstN (xs : List D) : R (List D) := if xs.length ≤ LIM then .ok xs else .bad
theorem dzn_lst {f} (h : DzA G E X es f) : DzN G E X (.List es pos) (s1 P.lstN f) := by
  obtain ⟨t, h1, h2⟩ := h
  refine ⟨_, pe_lst h1, fun B δ σ H0 H S s nb o => ats_bind (t := t σ H) msN (h2 B δ σ H0 H S s nb o) fun xs vs H1 H1' S1 w o1 rx => ats_of o1 ?_⟩
  unfold P.lstN
  split
  · rename_i hl
    exact At.imp (at_newN w.b rx) fun Q q => ⟨by rw [RpAll.length rx]; exact lim_le hl, q⟩
  · exact True.intro
/-- a new list as data -/
def P.fre (xs : List D) : R D := .ok (.list xs)
theorem dz_fre {f} (h : DzN G E X e f) : Dz G E X e (s1 P.fre f) := by
  obtain ⟨t, h1, h2⟩ := h
  refine ⟨t, h1, fun B δ σ H0 H S s nb o => ?_⟩
  have z := h2 B δ σ H0 H S s nb o
  show AtS X.K G E (rV X.K) H0 H _ ((f δ S).bind fun x S1 => (P.fre x).at_ S1)
  cases q : f δ S with
  | bad => exact True.intro
  | er x => rw [q] at z; exact z
  | ok ds S1 =>
    rw [q] at z
    refine fun Q k => z Q fun b H0' H' u o1 ⟨p, vs, e, hs, h0, hp, r⟩ => ?_
    subst e
    have e0 : Same H0' (upd H0' p (.lst vs)) := Same.upd h0
    have u1 : Up H0' H' (upd H0' p (.lst vs)) H' → True := fun _ => True.intro
    have mk : ∀ c n, upd H0' p (.lst vs) c = some (gh n) → H0' c = some (gh n) := fun c n w => by
      by_cases hc : c = p
      · subst hc; rw [upd_same] at w; cases w
      · rwa [upd_ne hc] at w
    have so : So X.K G (upd H0' p (.lst vs)) H' S1 := ⟨fun c n w => by
      obtain ⟨o, w1, w2⟩ := o1.at_ c n (mk c n w)
      exact ⟨o, w1, w2.mono e0 fun _ _ w _ => w⟩, fun c d n w1 w2 => o1.uq c d n (mk c n w1) (mk d n w2)⟩
    refine k _ (upd H0' p (.lst vs)) H' ⟨u.a.trans e0, fun c o w => ?_, u.c, u.n, fun c n1 n2 => ?_, fun c n w => u.e c n (mk c n w)⟩ so (.lst upd_same (r.mono e0))
    · by_cases hc : c = p
      · subst hc; rw [upd_same] at w; cases w; exact .inl hp
      · rw [upd_ne hc] at w; exact u.b _ _ w
    · have hc : c ≠ p := fun z => n1 (z ▸ hs)
      rw [upd_ne hc]; exact u.d c n1 n2
/-! ### items, slices -/
def P.idxD (x y : D) : R D := P.idx (.d x) y
theorem dz_ix {f g} (ha : Dz G E X a f) (hb : Dz G E X b g) (hs : PlainIx b) : Dz G E X (.Subscript a b pos) (s2 P.idxD f g) := by
  obtain ⟨t, h1, h2⟩ := ha
  obtain ⟨u, k1, k2⟩ := hb
  refine ⟨_, pe_ix ix_seq h1 k1 hs, evs_op ssV msV h2 k2 fun x y v w Hs Hs' H0 H e rx ry => ?_⟩
  unfold P.idxD P.idx
  cases y with
  | int i =>
    cases (show Rp X.K H0 w _ from ry)
    show At X.K G E (rV X.K) H0 H _ (match asSq (.d x) with | some ds => _ | none => _)
    split
    · rename_i ds hd
      obtain ⟨a, vs, rfl, hq, r⟩ := as_sq (Hs := Hs) e (show rP X.K Hs H0 H v (.d x) from rx) hd
      split
      · rename_i d hi
        obtain ⟨v, hv, rv⟩ := r.atI hi
        rcases hq with hq | hq
        · exact fun Q q => .inl ⟨_, _, _, _, rfl, rfl, hq, hv, q _ H0 H (.refl e) rv⟩
        · exact fun Q q => .inr (.inl ⟨_, _, _, _, rfl, rfl, hq, hv, q _ H0 H (.refl e) rv⟩)
      · exact True.intro
    · split
      · rename_i z hz
        cases hz
        cases (show Rp X.K H0 v _ from rx)
        split
        · rename_i hl
          split
          · rename_i c hc
            exact fun Q q => .inr (.inr ⟨_, _, _, rfl, rfl, lim_le hl, hc, q _ H0 H (.refl e) (.str _)⟩)
          · exact True.intro
        · exact True.intro
      · exact True.intro
  | _ => exact True.intro
end
end Dn

namespace Dn
open PySem PySem.Spec PyProof.Rows L2

/-! ### statements that may change the store -/
structure UsS (B H0 H0' H' : Hp) : Prop where
  a : Same H0 H0'
  b : Fz H0' H'
  c : Same B H'
  d : ∀ p, B p ≠ none → H0 p = none → H0' p = none
  e : ∀ p n, H0' p = some (gh n) → H0 p = some (gh n) ∨ B p = none
theorem UsS.refl {B H0 H : Hp} (e : Fz H0 H) (e2 : Same B H) : UsS B H0 H0 H := ⟨.refl _, e, e2, fun _ _ h => h, fun _ _ h => .inl h⟩
theorem UsS.trans {B H0 H1 H1' H2 H2' : Hp} (x : UsS B H0 H1 H1') (y : UsS B H1 H2 H2') : UsS B H0 H2 H2' := ⟨x.a.trans y.a, y.b, y.c, fun p h1 h2 => y.d p h1 (x.d p h1 h2), fun p n h => (y.e p n h).elim (fun q => x.e p n q) .inr⟩
theorem UpS.us {B H0 H H0' H' : Hp} (u : UpS H0 H H0' H') (e : Same B H) (nb : Nb B H0) : UsS B H0 H0' H' :=
  ⟨u.a, u.b, fun p o h => u.c p o (e p o h) fun n z => (by rw [nb p n z] at h; exact nomatch h), fun p h1 h2 => u.d p (Same.ne e h1) h2, fun p n h => (u.e p n h).imp id fun q => Same.free e q⟩
theorem Us.toS {B H0 H0' H' : Hp} (u : Us B H0 H0' H') : UsS B H0 H0' H' := ⟨u.a, u.b, u.c, u.d, fun p n h => .inl (u.g p n h)⟩
theorem Nb.us {B H0 H0' H' : Hp} (nb : Nb B H0) (u : UsS B H0 H0' H') : Nb B H0' := fun p n h => (u.e p n h).elim (nb p n) id
abbrev Sb := DSt → Sto → Rs Out
section
variable (K : PySem.W.Frag) (G : Str → Addr) (E : XK)
def EndOkS (B H0 : Hp) (D : Ends) (S : Sto) : Out → Prop
  | .nx δ' => ∀ σ' H0' H', UsS B H0 H0' H' → Sl K B H0' H' σ' δ' → So K G H0' H' S → D.nx σ' H'
  | .rt d => ∀ v H0' H', UsS B H0 H0' H' → So K G H0' H' S → Rp K H0' v d → D.rt v H'
  | .bk δ' => ∀ σ' H0' H', UsS B H0 H0' H' → Sl K B H0' H' σ' δ' → So K G H0' H' S → D.bk σ' H'
  | .ct δ' => ∀ σ' H0' H', UsS B H0 H0' H' → Sl K B H0' H' σ' δ' → So K G H0' H' S → D.ct σ' H'
def SAtS (B H0 H : Hp) (T : Ends → Prop) (r : Rs Out) : Prop := match r with
  | .bad => True
  | .er x S => ∀ D : Ends, (∀ c dd H0' H', UsS B H0 H0' H' → So K G H0' H' S → XR K G H0' H' c dd x → E c dd H') → T D
  | .ok o S => ∀ D : Ends, EndOkS K G B H0 D S o → T D
def SdS (t : TS) (b : Sb) : Prop := ∀ B δ σ H0 H S, Sl K B H0 H σ δ → Nb B H0 → So K G H0 H S → SAtS K G E B H0 H (fun D => t D σ H) (b δ S)
end
section
variable {K : PySem.W.Frag} {G : Str → Addr} {E : XK}
theorem EndOkS.up {B H0 H1 H1' : Hp} {D : Ends} {S : Sto} {o : Out} (u : UsS B H0 H1 H1') (h : EndOkS K G B H0 D S o) : EndOkS K G B H1 D S o := by
  cases o with
  | nx δ => exact fun σ' H0' H' u2 s o => h σ' H0' H' (u.trans u2) s o
  | rt d => exact fun v H0' H' u2 o r => h v H0' H' (u.trans u2) o r
  | bk δ => exact fun σ' H0' H' u2 s o => h σ' H0' H' (u.trans u2) s o
  | ct δ => exact fun σ' H0' H' u2 s o => h σ' H0' H' (u.trans u2) s o
theorem SAtS.imp {B H0 H : Hp} {T T' : Ends → Prop} {r : Rs Out} (h : SAtS K G E B H0 H T r) (w : ∀ D, T D → T' D) : SAtS K G E B H0 H T' r := by
  cases r with
  | bad => exact True.intro
  | er x S => exact fun D q => w D (h D q)
  | ok a S => exact fun D q => w D (h D q)
theorem So.us {H0 H0' B : Hp} {S : Sto} {H : Hp} (o : So K G H0 H S) (u : Us B H0 H0' H) : So K G H0' H S where
  at_ := fun a n h => by
    obtain ⟨x, h1, h2⟩ := o.at_ a n (u.g a n h)
    exact ⟨x, h1, h2.mono u.a fun _ _ q _ => q⟩
  uq := fun a b n h1 h2 => o.uq a b n (u.g a n h1) (u.g b n h2)
/-- an expression's value, then a statement's rest -/
theorem sats_bind {β α : Type} {rel : Rel β α} {B H0 H : Hp} {t : (β → Hp → Prop) → Prop} {k : β → Hp → Ends → Prop} {r : Rs α} {g : α → Sto → Rs Out} (eB : Same B H) (nb : Nb B H0) (h : AtS K G E rel H0 H t r)
    (hk : ∀ a b H0' H' S, UpS H0 H H0' H' → So K G H0' H' S → rel H H0' H' b a → SAtS K G E B H0' H' (k b H') (g a S)) : SAtS K G E B H0 H (fun D => t fun b H1 => k b H1 D) (r.bind g) := by
  cases r with
  | bad => exact True.intro
  | er x S => exact fun D hq => h _ fun c dd H0' H' u o x2 => hq c dd H0' H' (u.us eB nb) o x2
  | ok a S =>
    show SAtS K G E B H0 H _ (g a S)
    cases e : g a S with
    | bad => exact True.intro
    | er x S' =>
      refine fun D hq => h _ fun b H0' H' u o rb => ?_
      have z := hk a b H0' H' S u o rb
      rw [e] at z
      exact z D fun c dd H0'' H'' u2 o2 x2 => hq c dd H0'' H'' ((u.us eB nb).trans u2) o2 x2
    | ok y S' =>
      refine fun D hq => h _ fun b H0' H' u o rb => ?_
      have z := hk a b H0' H' S u o rb
      rw [e] at z
      exact z D (hq.up (u.us eB nb))
/-- a pure statement -/
def sbL (f : DSt → R Out) : Sb := fun δ S => (f δ).at_ S
def sSeq (f g : Sb) : Sb := fun δ S => (f δ S).bind fun o S1 => match o with
  | .nx δ' => g δ' S1
  | o => .ok o S1
theorem sds_seq {t u : TS} {f g} (h : SdS K G E t f) (k : SdS K G E u g) : SdS K G E (tSeq t u) (sSeq f g) := by
  intro B δ σ H0 H S s nb o
  have z := h B δ σ H0 H S s nb o
  unfold sSeq
  cases e : f δ S with
  | bad => exact True.intro
  | er x S1 => rw [e] at z; exact fun D q => z { D with nx := u D } q
  | ok o S1 =>
    rw [e] at z
    cases o with
    | rt d => exact fun D q => z { D with nx := u D } q
    | bk δ => exact fun D q => z { D with nx := u D } q
    | ct δ => exact fun D q => z { D with nx := u D } q
    | nx δ' =>
      show SAtS K G E B H0 H _ (g δ' S1)
      cases e2 : g δ' S1 with
      | bad => exact True.intro
      | er x S2 =>
        refine fun D q => z { D with nx := u D } fun σ' H0' H' u1 s1 o1 => ?_
        have y := k B δ' σ' H0' H' S1 s1 (nb.us u1) o1
        rw [e2] at y
        exact y D fun c dd H0'' H'' u2 o2 x2 => q c dd H0'' H'' (u1.trans u2) o2 x2
      | ok o S2 =>
        refine fun D q => z { D with nx := u D } fun σ' H0' H' u1 s1 o1 => ?_
        have y := k B δ' σ' H0' H' S1 s1 (nb.us u1) o1
        rw [e2] at y
        exact y D (q.up u1)
end
section
variable (G : Str → Addr) (E : XK) (X : Cx)
def Dzs (st : Stmt) (b : Sb) : Prop := ∃ t, PS X st t ∧ SdS X.K G E t b
def Dzss (sts : List Stmt) (b : Sb) : Prop := ∃ t, PSs X sts t ∧ SdS X.K G E t b
end
section
variable {G : Str → Addr} {E : XK} {X : Cx} {pos p p2 : Pos} {st : Stmt} {sts ss : List Stmt} {e a b : Expr}
def sNext : Sb := fun δ S => .ok (.nx δ) S
def sBrk : Sb := fun δ S => .ok (.bk δ) S
def sCnt : Sb := fun δ S => .ok (.ct δ) S
theorem Sl.usS {K B H0 H σ δ} (s : Sl K B H0 H σ δ) : UsS B H0 H0 H := .refl s.ex s.base
theorem dzss_nil : Dzss G E X [] sNext := ⟨_, pss_nil, fun B δ σ H0 H S s nb o D q => q σ H0 H s.usS s o⟩
theorem dzss_one {f} (h : Dzs G E X st f) : Dzss G E X [st] f := by
  obtain ⟨t, h1, h2⟩ := h
  exact ⟨_, pss_one h1, h2⟩
theorem dzss_cons {f g} (h : Dzs G E X st f) (k : Dzss G E X sts g) : Dzss G E X (st :: sts) (sSeq f g) := by
  obtain ⟨t, h1, h2⟩ := h
  obtain ⟨u, k1, k2⟩ := k
  exact ⟨_, pss_cons h1 k1, sds_seq h2 k2⟩
theorem dzs_pass : Dzs G E X (.Pass pos) sNext := ⟨_, ps_pass, fun B δ σ H0 H S s nb o D q => q σ H0 H s.usS s o⟩
theorem dzs_break : Dzs G E X (.Break pos) sBrk := ⟨_, ps_break, fun B δ σ H0 H S s nb o D q => q σ H0 H s.usS s o⟩
theorem dzs_continue : Dzs G E X (.Continue pos) sCnt := ⟨_, ps_continue, fun B δ σ H0 H S s nb o D q => q σ H0 H s.usS s o⟩
def sRet (f : Sf D) : Sb := fun δ S => (f δ S).bind fun d S1 => .ok (.rt d) S1
theorem dzs_ret {f} (h : Dz G E X e f) : Dzs G E X (.Return (some e) pos) (sRet f) := by
  obtain ⟨t, h1, h2⟩ := h
  exact ⟨_, ps_ret h1, fun B δ σ H0 H S s nb o => sats_bind (t := t σ H) (k := fun v H1 D => D.rt v H1) s.base nb (h2 B δ σ H0 H S s nb o) fun d v H1 H1' S1 u o1 r D q => q v H1 H1' (.refl u.b (s.upS nb u).base) o1 r⟩
def sSet (i : Nat) (f : Sf D) : Sb := fun δ S => (f δ S).bind fun d S1 => .ok (.nx (δ.set i (.dat d))) S1
theorem dzs_set {i : Nat} {x : Str} {f} (hN : X.N.Nodup) (hi : X.N[i]? = some x) (hx : Loc X.env.scope x) (h : Dz G E X e f) (hs : swapsWith e (some (.Name x p)) pos.line X.env = pure false := by rfl) (hf : X.fn x = true ∨ X.env.scope.names.lookup x = some .local := by first | exact .inl rfl | exact .inr rfl | assumption) :
    Dzs G E X (.Assign [.Name x p] e pos) (sSet i f) := by
  obtain ⟨t, h1, h2⟩ := h
  exact ⟨_, ps_set hN hi hx h1 hs hf, fun B δ σ H0 H S s nb o => sats_bind (t := t σ H) (k := fun v H1 D => D.nx (σ.set i (some v)) H1) s.base nb (h2 B δ σ H0 H S s nb o) fun d v H1 H1' S1 u o1 r D q => q _ H1 H1' (.refl u.b (s.upS nb u).base) ((s.upS nb u).set r) o1⟩
def sSetN (i : Nat) (f : Sf (List D)) : Sb := fun δ S => (f δ S).bind fun d S1 => .ok (.nx (δ.set i (.own d))) S1
theorem sls_setN {K : PySem.W.Frag} {B H0 H H1 H1' : Hp} {σ : L2.St} {δ : DSt} {i : Nat} {v : V} {ds : List D} (s : Sl K B H0 H σ δ) (nb : Nb B H0) (u : UpS H0 H H1 H1') (r : rN K H H1 H1' v ds) : Sl K B H1 H1' (σ.set i (some v)) (δ.set i (.own ds)) := by
  obtain ⟨q, vs, rfl, hs, h0, hp, rr⟩ := r
  refine (s.upS nb u).setN h0 ?_ hp rr fun j es h z => ?_
  · exact Same.free s.base hs
  · obtain ⟨q', ws, e1, h1, h2, h3, _⟩ := s.own j es h
    rw [z] at e1
    cases e1
    rw [hs] at h3
    cases h3
theorem dzs_setN {i : Nat} {x : Str} {f} (hN : X.N.Nodup) (hi : X.N[i]? = some x) (hx : Loc X.env.scope x) (h : DzN G E X e f) (hs : swapsWith e (some (.Name x p)) pos.line X.env = pure false := by rfl) (hf : X.fn x = true ∨ X.env.scope.names.lookup x = some .local := by first | exact .inl rfl | exact .inr rfl | assumption) :
    Dzs G E X (.Assign [.Name x p] e pos) (sSetN i f) := by
  obtain ⟨t, h1, h2⟩ := h
  exact ⟨_, ps_set hN hi hx h1 hs hf, fun B δ σ H0 H S s nb o => sats_bind (t := t σ H) (k := fun v H1 D => D.nx (σ.set i (some v)) H1) s.base nb (h2 B δ σ H0 H S s nb o) fun d v H1 H1' S1 u o1 r D q => q _ H1 H1' (.refl u.b (s.upS nb u).base) (sls_setN s nb u r) o1⟩
def sbIf (c : Sf Bool) (f g : Sb) : Sb := fun δ S => (c δ S).bind fun b S1 => if b then f δ S1 else g δ S1
theorem dzs_if {c f g} (hc : DzT G E X e c) (h1 : Dzss G E X sts f) (h2 : Dzss G E X ss g) : Dzs G E X (.If e sts ss pos) (sbIf c f g) := by
  obtain ⟨t, a1, a2⟩ := hc
  obtain ⟨u, b1, b2⟩ := h1
  obtain ⟨w, c1, c2⟩ := h2
  refine ⟨_, ps_if a1 b1 c1, fun B δ σ H0 H S s nb o => sats_bind (t := t σ H) (k := fun b H1 D => if b = true then u D σ H1 else w D σ H1) s.base nb (a2 B δ σ H0 H S s nb o) fun x y H1 H1' S1 up o1 r => ?_⟩
  cases (show y = x from r)
  cases x with
  | true => exact b2 B δ σ H1 H1' S1 (s.upS nb up) (nb.up s.base up) o1
  | false => exact c2 B δ σ H1 H1' S1 (s.upS nb up) (nb.up s.base up) o1
/-- an own list lies apart from the store -/
theorem So.mut {K : PySem.W.Frag} {G : Str → Addr} {H0 H : Hp} {S : Sto} {q : Addr} {vs ws : List V} (o : So K G H0 H S) (h0 : H0 q = none) (hq : H q = some (.lst vs)) : So K G H0 (upd H q (.lst ws)) S where
  at_ := fun a n h => by
    obtain ⟨x, h1, h2⟩ := o.at_ a n h
    refine ⟨x, h1, h2.mono (.refl _) fun p u w c => ?_⟩
    have hp : p ≠ q := fun z => by
      subst z
      rcases c with rfl | rfl
      · rw [h0] at h; cases h
      · rw [hq] at w; cases w
    rw [upd_ne hp]; exact w
  uq := o.uq
def sApp (i : Nat) (f : Sf D) : Sb := fun δ S => match δ[i]? with
  | some (SV.own ds) => (f δ S).bind fun d S1 => if ds.length < LIM then .ok (.nx (δ.set i (.own (ds ++ [d])))) S1 else .bad
  | _ => .bad
end
end Dn

namespace Dn
open PySem PySem.Spec PyProof.Rows L2
section
variable {G : Str → Addr} {E : XK} {X : Cx} {pos p p2 : Pos} {st : Stmt} {sts ss : List Stmt} {e a b : Expr}
theorem dzs_app {i : Nat} {x : Str} {f} {pa pc : Pos} (hN : X.N[i]? = some x) (hv : Vis X.env.scope x) (h : Dz G E X e f) (hd : (x == ("__debug__" : Str)) = false := by decide) (hcd : (x == ("__classdict__" : Str)) = false := by decide)
    (he : starEach [e] X.env = (false, eval e X.env) :: starEach [] X.env := by rfl)
    (hbase : attributeBase (.Name x p) "append" X.env (eval (.Name x p) X.env) = eval (.Name x p) X.env := by rfl)
    (hfew : ((backTo pc (starEach [e] X.env)).all (fun x => !x.1) && (backToKw pc (keywordEach [] X.env)).all (fun x => x.1.isSome)
      && decide ([e].length + ([] : List Keyword).length + (if ([] : List Keyword).isEmpty then 0 else 1) < 30)) = true := by rfl)
    (hline : (pa.endLine == pc.line) = true := by rfl) (hplain : (backTo pc (starEach [] X.env)).any (·.1) = false := by rfl)
    (hs : swapsWith (.Call (.Attribute (.Name x p) "append" pa) [e] [] pc) none pos.line X.env = pure false := by rfl) :
    Dzs G E X (.Expr (.Call (.Attribute (.Name x p) "append" pa) [e] [] pc) pos) (sApp i f) := by
  obtain ⟨t, h1, h2⟩ := h
  refine ⟨_, ps_expr (pe_bm PySem.F.plainAttrs_list PySem.F.slot_list_append PySem.F.type_list_append mt_append (pe_var hN hv hd hcd) (pa_cons h1 pa_nil he) hbase hfew hline he hplain) hs, fun B δ σ H0 H S s nb o => ?_⟩
  unfold sApp
  split
  · rename_i ds hi
    obtain ⟨q, vs, e1, h0, hb, hp, r⟩ := s.own i ds hi
    refine SAtS.imp (sats_bind (t := t σ H) (k := fun v H1 D => ∃ l xs y, V.ref q = .ref l ∧ [v] = [y] ∧ H1 l = some (.lst xs) ∧ xs.length < sizeLine ∧ D.nx σ (upd H1 l (.lst (xs ++ [y])))) s.base nb (h2 B δ σ H0 H S s nb o) fun d v H1 H1' S1 u o1 rv => ?_) fun D w => ⟨_, e1, .inl ⟨rfl, _, SqL.of hp⟩, w⟩
    split
    · rename_i hl
      have hp1 : H1' q = some (.lst vs) := u.c _ _ hp fun n z => by rw [h0] at z; cases z
      refine fun D k => ⟨q, vs, v, rfl, rfl, hp1, lim_lt (by rw [r.length]; exact hl), ?_⟩
      have q0 : H1 q = none := u.d q (by rw [hp]; exact fun z => nomatch z) h0
      obtain ⟨u2, s2⟩ := (s.upS nb u).mut hi e1 q0 hb ((r.mono u.a).append (.cons rv .nil))
      exact k σ H1 _ u2.toS s2 (o1.mut q0 hp1)
    · exact True.intro
  · exact True.intro
def sSetI (i : Nat) (g : Sf D) (f : Sf D) : Sb := fun δ S => match δ[i]? with
  | some (SV.own ds) => (f δ S).bind fun d S1 => (g δ S1).bind fun k S2 => match k with
    | .int k => match ixN ds.length k with
      | some j => .ok (.nx (δ.set i (.own (ds.set j d)))) S2
      | none => .bad
    | _ => .bad
  | _ => .bad
theorem dzs_setI {i : Nat} {x : Str} {f g} (hN : X.N[i]? = some x) (hv : Vis X.env.scope x) (hk : Dz G E X a g) (h : Dz G E X e f) (hd : (x == ("__debug__" : Str)) = false := by decide) (hcd : (x == ("__classdict__" : Str)) = false := by decide)
    (ha : ∀ v, assign (.Subscript (.Name x p) a p2) X.env v = (do
      let ov ← holding [v] (eval (.Name x p) X.env)
      let iv ← holding [v, ov] (eval a X.env)
      standAt p2
      holding [v, ov, iv] (setItem ov iv v)
      release [v, ov, iv] []) := by intro _; rfl)
    (hs : swapsWithSole [.Subscript (.Name x p) a p2] e pos.line X.env = pure false := by rfl) (hw : swappedStores [.Subscript (.Name x p) a p2] e X.env = pure none := by rfl)
    (h1 : (assignEach [.Subscript (.Name x p) a p2] X.env).map (·.2) = [assign (.Subscript (.Name x p) a p2) X.env] := by rfl) :
    Dzs G E X (.Assign [.Subscript (.Name x p) a p2] e pos) (sSetI i g f) := by
  obtain ⟨t, k1, k2⟩ := h
  obtain ⟨u, l1, l2⟩ := hk
  refine ⟨_, ps_asg k1 (pg_sub (pe_var hN hv hd hcd) l1 set_list ha) hs hw h1, fun B δ σ H0 H S s nb o => ?_⟩
  unfold sSetI
  split
  · rename_i ds hi
    obtain ⟨q, vs, e1, h0, hb, hp, r⟩ := s.own i ds hi
    refine SAtS.imp (sats_bind (t := t σ H) (k := fun v H1 D => u σ H1 fun y H2 => rSetL (.ref q) y v H2 fun H3 => D.nx σ H3) s.base nb (k2 B δ σ H0 H S s nb o) fun d v H1 H1' S1 u1 o1 rv => sats_bind (t := u σ H1') (k := fun y H2 D => rSetL (.ref q) y v H2 fun H3 => D.nx σ H3) (s.upS nb u1).base (nb.up s.base u1) (l2 B δ σ H1 H1' S1 (s.upS nb u1) (nb.up s.base u1) o1) fun k y H2 H2' S2 u2 o2 rk => ?_) fun D w => ?_
    · split
      · cases (show Rp X.K H2 y _ from rk)
        split
        · rename_i j hj
          have u12 := u1.trans u2
          have hp2 : H2' q = some (.lst vs) := u12.c _ _ hp fun n z => by rw [h0] at z; cases z
          refine fun D kk => ⟨q, vs, _, j, rfl, rfl, hp2, by rw [r.length]; exact hj, ?_⟩
          have q0 : H2 q = none := u12.d q (by rw [hp]; exact fun z => nomatch z) h0
          obtain ⟨u3, s3⟩ := (s.upS nb u12).mut hi e1 q0 hb ((r.mono u12.a).set j (Rp.mono u2.a rv))
          exact kk σ H2 _ u3.toS s3 (o2.mut q0 hp2)
        · exact True.intro
      · exact True.intro
    · show t σ H fun x H1 => gSub (tVar i) u rSetL x σ H1 D.nx
      show t σ H fun x H1 => tVar i σ H1 fun o H2 => u σ H2 fun y H3 => rSetL o y x H3 fun H4 => D.nx σ H4
      have fin : (fun (x : V) (H1 : Hp) => tVar i σ H1 fun o H2 => u σ H2 fun y H3 => rSetL o y x H3 fun H4 => D.nx σ H4) = fun x H1 => ∃ v, σ[i]? = some (some v) ∧ u σ H1 fun y H3 => rSetL v y x H3 fun H4 => D.nx σ H4 := rfl
      rw [fin]
      have fin2 : (fun (x : V) (H1 : Hp) => ∃ v, σ[i]? = some (some v) ∧ u σ H1 fun y H3 => rSetL v y x H3 fun H4 => D.nx σ H4) = fun x H1 => u σ H1 fun y H3 => rSetL (.ref q) y x H3 fun H4 => D.nx σ H4 := by
        funext x H1
        refine propext ⟨fun ⟨v, e2, z⟩ => ?_, fun z => ⟨_, e1, z⟩⟩
        rw [e1] at e2
        cases e2
        exact z
      rw [fin2]
      exact w
  · exact True.intro
/-- a pure statement (it lets no exception out) -/
theorem Us.ends {B H0 H0' H' : Hp} (u : Us B H0 H0' H') : UsS B H0 H0' H' := u.toS
/-- ahead of a statement: a list is frozen -/
theorem dzss_frz {f} (i : Nat) (h : Dzss G E X sts f) : Dzss G E X sts fun δ S => f (frz1 i δ) S := by
  obtain ⟨t, h1, h2⟩ := h
  refine ⟨t, h1, fun B δ σ H0 H S s nb o => ?_⟩
  obtain ⟨H0', u, s'⟩ := s.frz1 i
  have z := h2 B _ σ H0' H S s' (nb.us u.toS) (o.us u)
  show SAtS X.K G E B H0 H _ (f (frz1 i δ) S)
  cases q : f (frz1 i δ) S with
  | bad => exact True.intro
  | er x S1 => rw [q] at z; exact fun D k => z D fun c dd Ha Hb ua oa xa => k c dd Ha Hb (u.toS.trans ua) oa xa
  | ok o S1 => rw [q] at z; exact fun D k => z D (k.up u.toS)
/-! ### loops -/
def sForGo (tg : TGd) (b : Sb) (fs : List Nat) : List D → Sb
  | [], δ, S => .ok (.nx (fgt δ fs)) S
  | x :: xs, δ, S => match tg x (fgt δ fs) with
    | none => .bad
    | some δ' => (b δ' S).bind fun o S1 => match o with
      | .nx δ2 => sForGo tg b fs xs δ2 S1
      | .ct δ2 => sForGo tg b fs xs δ2 S1
      | .bk δ2 => .ok (.nx (fgt δ2 fs)) S1
      | .rt d => .ok (.rt d) S1
theorem sForGo_cons {tg b fs x xs δ S} : sForGo tg b fs (x :: xs) δ S = (match tg x (fgt δ fs) with
    | none => .bad
    | some δ' => (b δ' S).bind fun o S1 => match o with
      | .nx δ2 => sForGo tg b fs xs δ2 S1
      | .ct δ2 => sForGo tg b fs xs δ2 S1
      | .bk δ2 => .ok (.nx (fgt δ2 fs)) S1
      | .rt d => .ok (.rt d) S1) := rfl
def sFor (src : Sf (List D)) (tg : TGd) (b : Sb) (fs : List Nat) : Sb := fun δ S => (src δ S).bind fun ds S1 => sForGo tg b fs ds δ S1
theorem msI {K m} : Rel.MS (rI K m) := fun _ _ _ _ _ _ _ h => h
end
section
variable {K : PySem.W.Frag} {G : Str → Addr} {E : XK}
theorem sds_for {wi : TI} {g : TG} {tb : TS} {src : Sf (List D)} {tg b} {vs fs : List Nat} (hi : EvS K G E (rI K true) wi src) (hg : EvG K vs g tg) (hb : SdS K G E tb b) : SdS K G E (tFor wi g tb) (sFor src tg b fs) := by
  refine fun B δ σ H0 H S s nb o => sats_bind (t := wi σ H) (k := fun J H1 D => ∃ W : Nat → Nat → L2.St → Hp → Prop, (∃ m, W 0 m σ H1) ∧ ∀ i m σ H, W i m σ H →
    (J.stop i H ∧ D.nx σ H) ∨ (J.go i H ∧ ∃ N : L2.St → Hp → Prop, (∀ σ' H', N σ' H' → ∃ m', m' < m ∧ W (i + 1) m' σ' H') ∧ ∀ x H', J.yld i H x H' → g x σ H' fun σ2 H2 => tb { D with nx := N, ct := N, bk := D.nx } σ2 H2)) s.base nb (hi B δ σ H0 H S s nb o) fun ds J H1 H1' S1 u1 o1 ⟨Kp, W, keep⟩ => ?_
  have s1 := s.upS nb u1
  have nb1 := nb.up s.base u1
  have turns : ∀ D : Ends, sForGo tg b fs ds δ S1 ≠ .bad → (∀ o S2, sForGo tg b fs ds δ S1 = .ok o S2 → EndOkS K G B H1 D S2 o) → (∀ x S2, sForGo tg b fs ds δ S1 = .er x S2 → ∀ cc dd H0' H', UsS B H1 H0' H' → So K G H0' H' S2 → XR K G H0' H' cc dd x → E cc dd H') →
      ∃ W : Nat → Nat → L2.St → Hp → Prop, (∃ m, W 0 m σ H1') ∧ ∀ i m σ H, W i m σ H →
        (J.stop i H ∧ D.nx σ H) ∨ (J.go i H ∧ ∃ N : L2.St → Hp → Prop, (∀ σ' H', N σ' H' → ∃ m', m' < m ∧ W (i + 1) m' σ' H') ∧ ∀ x H', J.yld i H x H' → g x σ H' fun σ2 H2 => tb { D with nx := N, ct := N, bk := D.nx } σ2 H2) := by
    intro D nbad fin ex
    refine ⟨fun i m σ' H' => m = ds.length - i ∧ i ≤ ds.length ∧ ∃ H0' δ' S', UsS B H1 H0' H' ∧ Sl K B H0' H' σ' δ' ∧ So K G H0' H' S' ∧ sForGo tg b fs (ds.drop i) δ' S' = sForGo tg b fs ds δ S1, ⟨ds.length, by simp, Nat.zero_le _, H1, δ, S1, s1.usS, s1, o1, by rw [List.drop_zero]⟩, ?_⟩
    rintro i m σ' H' ⟨rfl, hle, H0', δ', S', up, s', o', hres⟩
    have nb' := nb1.us up
    have kp : Kp H' := keep H' (Fz.left up.a up.b) fun z => nomatch z
    by_cases hlt : i < ds.length
    · obtain ⟨d, hd⟩ : ∃ d, ds[i]? = some d := ⟨ds[i], List.getElem?_eq_getElem hlt⟩
      have hdrop : ds.drop i = d :: ds.drop (i + 1) := by
        rw [List.drop_eq_getElem_cons hlt]
        congr 1
        rw [List.getElem?_eq_getElem hlt] at hd
        exact Option.some.inj hd
      refine .inr ⟨W.go i d H' kp hd, fun σ'' H'' => ∃ H0'' δ'' S'', UsS B H1 H0'' H'' ∧ Sl K B H0'' H'' σ'' δ'' ∧ So K G H0'' H'' S'' ∧ sForGo tg b fs (ds.drop (i + 1)) δ'' S'' = sForGo tg b fs ds δ S1, fun σ'' H'' n => ⟨ds.length - (i + 1), by omega, rfl, hlt, n⟩, fun x H3 hy => ?_⟩
      obtain ⟨H03, u3, rx⟩ := W.yld i d H0' H' x H3 kp up.a up.b hd hy
      have up3 := up.trans (u3.us s'.base).toS
      have s3 := (s'.up u3).fgt fs
      have o3 := o'.up u3
      rw [hdrop, sForGo_cons] at hres
      cases htg : tg d (fgt δ' fs) with
      | none => rw [htg] at hres; exact absurd hres.symm nbad
      | some δ2 =>
        rw [htg] at hres
        simp only at hres
        refine hg B _ σ' H03 H3 x d δ2 s3 rx htg _ fun σ2 s2 w2 => ?_
        have z := hb B δ2 σ2 H03 H3 S' s2 (nb1.us up3) o3
        cases hbo : b δ2 S' with
        | bad => rw [hbo] at hres; exact absurd hres.symm nbad
        | er xx S2 =>
          rw [hbo] at z hres
          exact z _ fun cc dd Ha Hb ua oa xa => ex xx S2 (hres.symm.trans rfl) cc dd Ha Hb (up3.trans ua) oa xa
        | ok o S2 =>
          rw [hbo] at z hres
          refine z _ ?_
          cases o with
          | nx δ3 => exact fun σ4 Ha Hb ua sa oa => ⟨Ha, δ3, S2, up3.trans ua, sa, oa, hres⟩
          | ct δ3 => exact fun σ4 Ha Hb ua sa oa => ⟨Ha, δ3, S2, up3.trans ua, sa, oa, hres⟩
          | bk δ3 =>
            have f := fin _ _ (hres.symm.trans rfl)
            exact fun σ4 Ha Hb ua sa oa => f σ4 Ha Hb (up3.trans ua) (sa.fgt fs) oa
          | rt d =>
            have f := fin _ _ (hres.symm.trans rfl)
            exact fun v Ha Hb ua oa ra => f v Ha Hb (up3.trans ua) oa ra
    · have hi : i = ds.length := by omega
      subst hi
      rw [List.drop_eq_nil_of_le (Nat.le_refl _)] at hres
      have f := fin _ _ (hres.symm.trans rfl)
      exact .inl ⟨W.stop H' kp, f σ' H0' H' up (s'.fgt fs) o'⟩
  cases hr : sForGo tg b fs ds δ S1 with
  | bad => exact True.intro
  | er x S2 => exact fun D q => turns D (by rw [hr]; exact fun z => nomatch z) (fun o S2 z => by rw [hr] at z; cases z) fun y S3 z => by rw [hr] at z; cases z; exact q
  | ok o S2 => exact fun D q => turns D (by rw [hr]; exact fun z => nomatch z) (fun o S3 z => by rw [hr] at z; cases z; exact q) fun y S3 z => by rw [hr] at z; cases z
def sWhGo (c : Sf Bool) (b : Sb) (fs : List Nat) : Nat → Sb
  | 0, _, _ => .bad
  | n + 1, δ, S => (c (fgt δ fs) S).bind fun t S1 => if t then (b (fgt δ fs) S1).bind fun o S2 => match o with
      | .nx δ2 => sWhGo c b fs n δ2 S2
      | .ct δ2 => sWhGo c b fs n δ2 S2
      | .bk δ2 => .ok (.nx (fgt δ2 fs)) S2
      | .rt d => .ok (.rt d) S2
    else .ok (.nx (fgt δ fs)) S1
theorem sWhGo_succ {c b fs n δ S} : sWhGo c b fs (n + 1) δ S = (c (fgt δ fs) S).bind fun t S1 => if t then (b (fgt δ fs) S1).bind fun o S2 => match o with
      | .nx δ2 => sWhGo c b fs n δ2 S2
      | .ct δ2 => sWhGo c b fs n δ2 S2
      | .bk δ2 => .ok (.nx (fgt δ2 fs)) S2
      | .rt d => .ok (.rt d) S2
    else .ok (.nx (fgt δ fs)) S1 := rfl
theorem sds_while {tc : TT} {tb : TS} {c b} {fs : List Nat} (n : Nat) (hc : EvS K G E rB tc c) (hb : SdS K G E tb b) : SdS K G E (tWhile tc tb) (sWhGo c b fs n) := by
  intro B δ σ H0 H S s nb o
  have turns : ∀ D : Ends, sWhGo c b fs n δ S ≠ .bad → (∀ o S2, sWhGo c b fs n δ S = .ok o S2 → EndOkS K G B H0 D S2 o) → (∀ x S2, sWhGo c b fs n δ S = .er x S2 → ∀ cc dd H0' H', UsS B H0 H0' H' → So K G H0' H' S2 → XR K G H0' H' cc dd x → E cc dd H') → tWhile tc tb D σ H := by
    intro D nbad fin ex
    refine ⟨fun m σ' H' => ∃ H0' δ' S', UsS B H0 H0' H' ∧ Sl K B H0' H' σ' δ' ∧ So K G H0' H' S' ∧ sWhGo c b fs m δ' S' = sWhGo c b fs n δ S, ⟨n, H0, δ, S, s.usS, s, o, rfl⟩, ?_⟩
    rintro m σ' H' ⟨H0', δ', S', up, s', o', hres⟩
    have nb' := nb.us up
    cases m with
    | zero => exact absurd hres.symm nbad
    | succ m =>
      rw [sWhGo_succ] at hres
      have s1 := s'.fgt fs
      have z := hc B _ σ' H0' H' S' s1 nb' o'
      cases hcc : c (fgt δ' fs) S' with
      | bad => rw [hcc] at hres; exact absurd hres.symm nbad
      | er xx S2 =>
        rw [hcc] at z hres
        exact z _ fun cc dd Ha Hb ua oa xa => ex xx S2 (hres.symm.trans rfl) cc dd Ha Hb (up.trans (ua.us s'.base nb')) oa xa
      | ok t S2 =>
        rw [hcc] at z hres
        refine z _ fun t' Ha Hb ua oa e => ?_
        cases (show t' = t from e)
        have up2 := up.trans (ua.us s'.base nb')
        have s2 := s1.upS nb' ua
        have nb2 := nb.us up2
        cases t with
        | false =>
          have f := fin _ _ (hres.symm.trans rfl)
          exact f σ' Ha Hb up2 s2 oa
        | true =>
          refine ⟨fun σ'' H'' => ∃ H0'' δ'' S'', UsS B H0 H0'' H'' ∧ Sl K B H0'' H'' σ'' δ'' ∧ So K G H0'' H'' S'' ∧ sWhGo c b fs m δ'' S'' = sWhGo c b fs n δ S, fun σ'' H'' w => ⟨m, Nat.lt_succ_self m, w⟩, ?_⟩
          simp only [Rs.bind_ok, if_true] at hres
          have y := hb B _ σ' Ha Hb S2 s2 nb2 oa
          cases hbo : b (fgt δ' fs) S2 with
          | bad => rw [hbo] at hres; exact absurd hres.symm nbad
          | er xx S3 =>
            rw [hbo] at y hres
            exact y _ fun cc dd Hc Hd uc oc xc => ex xx S3 (hres.symm.trans rfl) cc dd Hc Hd (up2.trans uc) oc xc
          | ok o S3 =>
            rw [hbo] at y hres
            refine y _ ?_
            cases o with
            | nx δ3 => exact fun σ4 Hc Hd uc sc oc => ⟨Hc, δ3, S3, up2.trans uc, sc, oc, hres⟩
            | ct δ3 => exact fun σ4 Hc Hd uc sc oc => ⟨Hc, δ3, S3, up2.trans uc, sc, oc, hres⟩
            | bk δ3 =>
              have f := fin _ _ (hres.symm.trans rfl)
              exact fun σ4 Hc Hd uc sc oc => f σ4 Hc Hd (up2.trans uc) (sc.fgt fs) oc
            | rt d =>
              have f := fin _ _ (hres.symm.trans rfl)
              exact fun v Hc Hd uc oc rc => f v Hc Hd (up2.trans uc) oc rc
  cases hr : sWhGo c b fs n δ S with
  | bad => exact True.intro
  | er x S2 => exact fun D q => turns D (by rw [hr]; exact fun z => nomatch z) (fun o S2 z => by rw [hr] at z; cases z) fun y S3 z => by rw [hr] at z; cases z; exact q
  | ok o S2 => exact fun D q => turns D (by rw [hr]; exact fun z => nomatch z) (fun o S3 z => by rw [hr] at z; cases z; exact q) fun y S3 z => by rw [hr] at z; cases z
end
section
variable {G : Str → Addr} {E : XK} {X : Cx} {pos p p2 : Pos} {st : Stmt} {sts ss : List Stmt} {e a b : Expr}
def DzI (G : Str → Addr) (E : XK) (X : Cx) (m : Bool) (tg it : Expr) (f : Sf (List D)) : Prop := ∃ w, PI X tg it w ∧ EvS X.K G E (rI X.K m) w f
theorem DI.z {m : Bool} {tg it : Expr} {f} (h : DI G E X m tg it f) : DzI G E X m tg it (sL f) := by
  obtain ⟨t, h1, h2⟩ := h
  exact ⟨t, h1, evs_lift h2⟩
theorem dzs_for {tg iter : Expr} {body : List Stmt} {src : Sf (List D)} {tgf f} {vs : List Nat} (fs : List Nat) (hp : PassesOwn (model X.prog X.w) X.A X.env X.xe) (hc : X.calm = true) (hi : DzI G E X true tg iter src) (hg : DG X vs tg tgf) (hb : Dzss G E X body f)
    (hs : ∀ x, foldedSetIterable iter X.env x = pure x := by intro _; rfl) : Dzs G E X (.For tg iter body [] pos) (sFor src tgf f fs) := by
  obtain ⟨w, h1, h2⟩ := hi
  obtain ⟨g, g1, g2⟩ := hg
  obtain ⟨t, b1, b2⟩ := hb
  exact ⟨_, ps_for hp hc h1 g1 b1 hs, sds_for h2 g2 b2⟩
theorem dzs_while {c : Expr} {body : List Stmt} {h f} (n : Nat) (fs : List Nat) (hp : PassesOwn (model X.prog X.w) X.A X.env X.xe) (hc : DzT G E X c h) (hb : Dzss G E X body f) : Dzs G E X (.While c body [] pos) (sWhGo h f fs n) := by
  obtain ⟨t, h1, h2⟩ := hc
  obtain ⟨u, b1, b2⟩ := hb
  exact ⟨_, ps_while hp h1 b1, sds_while n h2 b2⟩
end
end Dn

namespace Dn
open PySem PySem.Spec PyProof.Rows L2

/-! ### dicts of the store, keys ints and texts -/
def isK : D → Option Key
  | .int i => some (.inl i)
  | .str s => some (.inr s)
  | _ => none
theorem isK_eq {d : D} {k : Key} (h : isK d = some k) : d = kD k := by
  cases d <;> first | (cases h; done) | (cases h; rfl)
theorem kD_eqv (a b : Key) : PyData.eqv (kD a) (kD b) = decide (a = b) := by
  cases a <;> cases b <;> simp [kD, PyData.eqv] <;> rfl
def dget (kvs : List (D × D)) (k : D) : Option D := (kvs.find? fun p => PyData.eqv p.1 k).map (·.2)
def dput (kvs : List (D × D)) (k v : D) : List (D × D) := if (kvs.any fun p => PyData.eqv p.1 k) = true then kvs.map (fun p => if PyData.eqv p.1 k then (p.1, v) else p) else kvs ++ [(k, v)]
section
variable {K : PySem.W.Frag} {H0 : Hp}
theorem dget_k (k : Key) : ∀ {xs : List (Key × V)} {kvs : List (D × D)}, xs.map (fun p => kD p.1) = kvs.map (·.1) → RpAll K H0 (xs.map (·.2)) (kvs.map (·.2)) →
    match dget kvs (kD k) with
    | some d => ∃ v, valV xs k = some v ∧ Rp K H0 v d
    | none => valV xs k = none
  | [], [], _, _ => rfl
  | [], _ :: _, h, _ => by cases h
  | _ :: _, [], h, _ => by cases h
  | x :: xs, p :: kvs, h, r => by
    simp only [List.map_cons, List.cons.injEq] at h
    rw [List.map_cons, List.map_cons] at r
    cases r with
    | cons r1 r2 =>
      have ih := dget_k k h.2 r2
      unfold dget at ih ⊢
      rw [List.find?_cons, ← h.1, kD_eqv]
      by_cases e : x.1 = k
      · rw [decide_eq_true e]
        exact ⟨x.2, valV_pos e, r1⟩
      · rw [decide_eq_false e]
        simp only
        rw [valV_neg e]
        exact ih
theorem dput_any (k : Key) : ∀ {xs : List (Key × V)} {kvs : List (D × D)}, xs.map (fun p => kD p.1) = kvs.map (·.1) → (xs.any fun p => decide (p.1 = k)) = kvs.any fun p => PyData.eqv p.1 (kD k)
  | [], [], _ => rfl
  | [], _ :: _, h => by cases h
  | _ :: _, [], h => by cases h
  | x :: xs, p :: kvs, h => by
    simp only [List.map_cons, List.cons.injEq] at h
    rw [List.any_cons, List.any_cons, dput_any k h.2, ← h.1, kD_eqv]
theorem dput_map (k : Key) {v : V} {d : D} (rv : Rp K H0 v d) : ∀ {xs : List (Key × V)} {kvs : List (D × D)}, xs.map (fun p => kD p.1) = kvs.map (·.1) → RpAll K H0 (xs.map (·.2)) (kvs.map (·.2)) →
    (xs.map fun kv => if kv.1 = k then (kv.1, v) else kv).map (fun p => kD p.1) = (kvs.map fun p => if PyData.eqv p.1 (kD k) then (p.1, d) else p).map (·.1) ∧
    RpAll K H0 ((xs.map fun kv => if kv.1 = k then (kv.1, v) else kv).map (·.2)) ((kvs.map fun p => if PyData.eqv p.1 (kD k) then (p.1, d) else p).map (·.2))
  | [], [], _, _ => ⟨rfl, .nil⟩
  | [], _ :: _, h, _ => by cases h
  | _ :: _, [], h, _ => by cases h
  | x :: xs, p :: kvs, h, r => by
    simp only [List.map_cons, List.cons.injEq] at h
    rw [List.map_cons, List.map_cons] at r
    cases r with
    | cons r1 r2 =>
      obtain ⟨i1, i2⟩ := dput_map k rv h.2 r2
      simp only [List.map_cons]
      rw [i1, ← h.1, kD_eqv]
      by_cases e : x.1 = k
      · rw [decide_eq_true e, if_pos e]
        exact ⟨by simp [h.1], .cons rv i2⟩
      · rw [decide_eq_false e, if_neg e]
        exact ⟨by simp [h.1], .cons r1 i2⟩
theorem dput_k (k : Key) {v : V} {d : D} (rv : Rp K H0 v d) {xs : List (Key × V)} {kvs : List (D × D)} (h : xs.map (fun p => kD p.1) = kvs.map (·.1)) (r : RpAll K H0 (xs.map (·.2)) (kvs.map (·.2))) :
    (putK xs k v).map (fun p => kD p.1) = (dput kvs (kD k) d).map (·.1) ∧ RpAll K H0 ((putK xs k v).map (·.2)) ((dput kvs (kD k) d).map (·.2)) := by
  unfold putK dput
  rw [dput_any k h]
  split
  · exact dput_map k rv h r
  · refine ⟨by simp [h], ?_⟩
    rw [List.map_append, List.map_append]
    exact r.append (.cons rv .nil)
end
/-- the number of a thing -/
def obN : D → Option Nat
  | .dict [(.none, .int n)] => if 0 ≤ n then some n.toNat else none
  | _ => none
theorem obN_ob (n : Nat) : obN (ob n) = some n := by simp [obN]
theorem obN_rp {K : PySem.W.Frag} {H0 : Hp} {v : V} {d : D} {n : Nat} (h : obN d = some n) (r : Rp K H0 v d) : ∃ a, v = .ref a ∧ H0 a = some (gh n) := by
  unfold obN at h
  split at h
  · rename_i m
    split at h
    · cases h
      generalize hq : PyData.dict [(.none, .int m)] = q at r
      cases r with
      | ob hh =>
        injection hq with hq
        injection hq with hq _
        injection hq with _ hq
        injection hq with hq
        subst hq
        exact ⟨_, rfl, by simpa using hh⟩
      | scr _ _ =>
        injection hq with hq
        injection hq with hq _
        injection hq with _ hq
        cases hq
      | _ => cases hq
    · cases h
  · cases h
def stGet (S : Sto) (x k : D) : R D := match obN x with
  | some n => match S[n]?, isK k with
    | some (.dct kvs), some _ => match dget kvs k with
      | some d => .ok d
      | none => .bad
    | _, _ => .bad
  | none => .bad
def stPut (S : Sto) (x k v : D) : Option Sto := match obN x with
  | some n => match S[n]?, isK k with
    | some (.dct kvs), some _ => if kvs.length < LIM then some (S.set n (.dct (dput kvs k v))) else none
    | _, _ => none
  | none => none
section
variable {K : PySem.W.Frag} {G : Str → Addr} {E : XK}
theorem so_write {H0 H : Hp} {S : Sto} {a : Addr} {n : Nat} {u w : HO} {x : Ob} (o : So K G H0 H S) (ex : Fz H0 H) (hn : H0 a = some (gh n)) (old : H a = some w) (nw : ∀ y, w ≠ .own y) (new : ObAt K G H0 (upd H a u) a x) :
    UpS H0 H H0 (upd H a u) ∧ So K G H0 (upd H a u) (S.set n x) := by
  refine ⟨⟨.refl _, fun p q h => ?_, fun p q h ng => ?_, fun p h => ?_, fun _ _ h => h, fun _ _ h => .inl h⟩, ⟨fun b m h => ?_, o.uq⟩⟩
  · by_cases hp : p = a
    · subst hp
      rw [hn] at h
      cases h
      exact .inr ⟨⟨n, rfl⟩, by rw [upd_same]; exact fun z => nomatch z⟩
    · rw [upd_ne hp]; exact ex p q h
  · have hp : p ≠ a := fun z => ng n (z ▸ hn)
    rw [upd_ne hp]; exact h
  · by_cases hp : p = a
    · subst hp; rw [upd_same]; exact fun z => nomatch z
    · rw [upd_ne hp]; exact h
  · obtain ⟨y, h1, h2⟩ := o.at_ b m h
    have hl : m < S.length := (List.getElem?_eq_some_iff.mp h1).1
    by_cases hm : m = n
    · subst hm
      have := o.uq b a m h hn
      subst this
      exact ⟨x, by rw [List.getElem?_set_self hl], new⟩
    · refine ⟨y, by rw [List.getElem?_set_ne (Ne.symm hm)]; exact h1, h2.mono (.refl _) fun p q hq c => ?_⟩
      have hp : p ≠ a := fun z => by
        subst z
        rcases c with rfl | rfl
        · rw [hn] at h
          injection h with h
          injection h with h
          exact hm (by omega)
        · rw [old] at hq
          cases hq
          exact nw _ rfl
      rw [upd_ne hp]; exact hq
end
section
variable {G : Str → Addr} {E : XK} {X : Cx} {pos p p2 : Pos} {st : Stmt} {sts ss : List Stmt} {e a b i : Expr}
def sGet (f g : Sf D) : Sf D := fun δ S => (f δ S).bind fun x S1 => (g δ S1).bind fun y S2 => (stGet S2 x y).at_ S2
theorem dz_get {f g} (hu : X.A.units + 1 < cLine) (ho : Dz G E X a f) (hi : Dz G E X i g) (hs : NoSl i) : Dz G E X (.Subscript a i pos) (sGet f g) := by
  obtain ⟨t, h1, h2⟩ := ho
  obtain ⟨u, k1, k2⟩ := hi
  refine ⟨_, pe_dget hu h1 k1 hs, fun B δ σ H0 H S s nb o => ats_bind (t := t σ H) (k := fun x H1 Q => u σ H1 fun y H2 => ∃ a v, x = .ref a ∧ DGet H2 a y (some v) ∧ Q v H2) msV (h2 B δ σ H0 H S s nb o) fun x v H1 H1' S1 u1 o1 rx =>
    ats_bind (t := u σ H1') (k := fun y H2 Q => ∃ a w, v = .ref a ∧ DGet H2 a y (some w) ∧ Q w H2) msV (k2 B δ σ H1 H1' S1 (s.upS nb u1) (nb.up s.base u1) o1) fun y w H2 H2' S2 u2 o2 ry => ?_⟩
  unfold stGet
  cases hx : obN x with
  | none => exact True.intro
  | some n =>
    obtain ⟨q, rfl, hq⟩ := obN_rp hx (Rp.mono u2.a rx)
    obtain ⟨ob', hS, hob⟩ := o2.at_ q n hq
    simp only [hS]
    cases ob' with
    | dct kvs =>
      cases hk : isK y with
      | none => exact True.intro
      | some k =>
        have := isK_eq hk
        subst this
        obtain ⟨xs, g1, g2, g3⟩ := hob
        have z := dget_k k g2 g3
        show AtS X.K G E (rV X.K) H2 H2' _ (R.at_ (match dget kvs (kD k) with | some d => R.ok d | none => .bad) S2)
        cases hd : dget kvs (kD k) with
        | none => exact True.intro
        | some d =>
          rw [hd] at z
          obtain ⟨v', e1, r1⟩ := z
          have wk : w = kV k := by
            cases k with
            | inl j => cases (show Rp X.K H2 w (.int j) from ry); rfl
            | inr j => cases (show Rp X.K H2 w (.str j) from ry); rfl
          subst wk
          exact fun Q kk => ⟨q, v', rfl, e1 ▸ DGet.k g1, kk _ H2 H2' (.refl u2.b) o2 r1⟩
    | _ => exact True.intro
def sPut (f g h : Sf D) : Sb := fun δ S => (h δ S).bind fun v S1 => (f δ S1).bind fun x S2 => (g δ S2).bind fun k S3 => match stPut S3 x k v with
  | some S4 => .ok (.nx δ) S4
  | none => .bad
theorem dzs_put {f g h} (hu : X.A.units + 1 < cLine) (ho : Dz G E X a f) (hi : Dz G E X i g) (hv : Dz G E X e h) (hs : swapsWith e (some (.Subscript a i p2)) pos.line X.env = pure false := by rfl) :
    Dzs G E X (.Assign [.Subscript a i p2] e pos) (sPut f g h) := by
  obtain ⟨t, h1, h2⟩ := ho
  obtain ⟨u, k1, k2⟩ := hi
  obtain ⟨w, l1, l2⟩ := hv
  refine ⟨_, ps_dput hu h1 k1 l1 hs, fun B δ σ H0 H S s nb o =>
    sats_bind (t := w σ H) (k := fun v H1 D => t σ H1 fun x H2 => u σ H2 fun y H3 => ∃ a H4, x = .ref a ∧ DPut H3 a y v H4 ∧ D.nx σ H4) s.base nb (l2 B δ σ H0 H S s nb o) fun d v H1 H1' S1 u1 o1 rv =>
    have s1 := s.upS nb u1
    have nb1 := nb.up s.base u1
    sats_bind (t := t σ H1') (k := fun x H2 D => u σ H2 fun y H3 => ∃ a H4, x = .ref a ∧ DPut H3 a y v H4 ∧ D.nx σ H4) s1.base nb1 (h2 B δ σ H1 H1' S1 s1 nb1 o1) fun x xv H2 H2' S2 u2 o2 rx =>
    have s2 := s1.upS nb1 u2
    have nb2 := nb1.up s1.base u2
    sats_bind (t := u σ H2') (k := fun y H3 D => ∃ a H4, xv = .ref a ∧ DPut H3 a y v H4 ∧ D.nx σ H4) s2.base nb2 (k2 B δ σ H2 H2' S2 s2 nb2 o2) fun y yv H3 H3' S3 u3 o3 ry => ?_⟩
  have s3 := s2.upS nb2 u3
  have nb3 := nb2.up s2.base u3
  unfold stPut
  cases hx : obN x with
  | none => exact True.intro
  | some n =>
    obtain ⟨q, rfl, hq⟩ := obN_rp hx (Rp.mono u3.a rx)
    obtain ⟨ob', hS, hob⟩ := o3.at_ q n hq
    simp only [hS]
    cases ob' with
    | dct kvs =>
      cases hk : isK y with
      | none => exact True.intro
      | some k =>
        have := isK_eq hk
        subst this
        obtain ⟨xs, g1, g2, g3⟩ := hob
        show SAtS X.K G E B H3 H3' _ (match (if kvs.length < LIM then some (S3.set n (.dct (dput kvs (kD k) d))) else none) with | some S4 => .ok (.nx δ) S4 | none => .bad)
        by_cases hl : kvs.length < LIM
        · rw [if_pos hl]
          have wk : yv = kV k := by
            cases k with
            | inl j => cases (show Rp X.K H3 yv (.int j) from ry); rfl
            | inr j => cases (show Rp X.K H3 yv (.str j) from ry); rfl
          subst wk
          have rv3 := Rp.mono (K := X.K) u3.a (Rp.mono u2.a rv)
          obtain ⟨p1, p2⟩ := dput_k k rv3 g2 g3
          obtain ⟨w1, w2⟩ := so_write (u := .dK (putK xs k v)) (x := .dct (dput kvs (kD k) d)) o3 s3.ex hq g1 (fun _ z => nomatch z) ⟨putK xs k v, upd_same, p1, p2⟩
          have hxl : xs.length < sizeLine := lim_lt (by
            have := congrArg List.length g2
            simp at this
            omega)
          exact fun D kk => ⟨q, _, rfl, DPut.k g1 hxl, kk σ H3 _ (w1.us s3.base nb3) (s3.upS nb3 w1) w2⟩
        · rw [if_neg hl]
          exact True.intro
    | _ => exact True.intro
end
end Dn

namespace Dn
open PySem PySem.Spec PyProof.Rows L2

/-! ### defs that read and write the store, and their calls -/
def spS (K : PySem.W.Frag) (G : Str → Addr) (n : Nat) (F : List D → Sto → Rs D) : Sp := fun vs H Q E => ∃ H0 ds S, vs.length = n ∧ Fz H0 H ∧ RpAll K H0 vs ds ∧ So K G H0 H S ∧ F ds S ≠ .bad ∧
  (∀ d S', F ds S = .ok d S' → ∀ v H0' H', UpS H0 H H0' H' → So K G H0' H' S' → Rp K H0' v d → Q v H') ∧ (∀ x S', F ds S = .er x S' → ∀ c dd H0' H', UpS H0 H H0' H' → So K G H0' H' S' → XR K G H0' H' c dd x → E c dd H')
theorem ats_call {K : PySem.W.Frag} {G : Str → Addr} {E : XK} {n : Nat} {F : List D → Sto → Rs D} {H0 H : Hp} {vs : List V} {ds : List D} {S : Sto} (e : Fz H0 H) (hn : vs.length = n) (r : RpAll K H0 vs ds) (o : So K G H0 H S) : AtS K G E (rV K) H0 H (fun Q => spS K G n F vs H Q E) (F ds S) := by
  cases q : F ds S with
  | bad => exact True.intro
  | er x S' => exact fun Q k => ⟨H0, ds, S, hn, e, r, o, by rw [q]; exact (fun z => nomatch z), (fun d S2 z => by rw [q] at z; cases z), fun y S2 z => by rw [q] at z; cases z; exact k⟩
  | ok d S' => exact fun Q k => ⟨H0, ds, S, hn, e, r, o, by rw [q]; exact (fun z => nomatch z), (fun y S2 z => by rw [q] at z; cases z; exact k), fun y S2 z => by rw [q] at z; cases z⟩
def sCallN (n : Nat) (F : List D → Sto → Rs D) (f : Sf (List D)) : Sf D := fun δ S => (f δ S).bind fun ds S1 => if ds.length = n then F ds S1 else .bad
/-- a pure def, called with what the store gives -/
def sCallP (n : Nat) (F : List D → R D) (f : Sf (List D)) : Sf D := s1 (fun ds => if ds.length = n then F ds else .bad) f
section
variable {G : Str → Addr} {E : XK} {X : Cx} {pos p p2 : Pos} {a b e : Expr} {es : List Expr}
theorem dz_call {CX : CXT} {k : Nat} {f : Addr} {fd : FuncData} {ps : List Str} {x : Str} {n : Nat} {F : List D → Sto → Rs D} {g} {es : List Expr} (hF : FnOk X.prog X.w X.K X.mg X.base CX k f fd ps (spS X.K G n F)) (hr : Room k X.A) (hg : Gl X x) (hm : X.mg x = some (.ref f)) (hk : PySem.W.keepIn X.K (.ref f) = true)
    (hb : Binds X.K fd ps []) (hx : Passes CX X E) (ha : DzA G E X (e :: es) g) (hdb : (x == ("__debug__" : Str)) = false := by decide) (he : starEach (e :: es) X.env = (false, eval e X.env) :: starEach es X.env := by rfl) (hpl : (backTo pos (starEach es X.env)).any (·.1) = false := by rfl) :
    Dz G E X (.Call (.Name x p) (e :: es) [] pos) (sCallN n F g) := by
  obtain ⟨t, h1, h2⟩ := ha
  refine ⟨_, pe_call hF hr hg hm hk hb .nil hx h1 hdb he hpl, fun B δ σ H0 H S s nb o => ats_bind (t := t σ H) (k := fun vs H1 Q => spS X.K G n F (vs ++ []) H1 Q E) msV (h2 B δ σ H0 H S s nb o) fun ds vs H1 H1' S1 u o1 r => ?_⟩
  split
  · rename_i hn
    rw [List.append_nil]
    exact ats_call u.b (by rw [r.length]; exact hn) r o1
  · exact True.intro
theorem dz_callP {CX : CXT} {k : Nat} {f : Addr} {fd : FuncData} {ps : List Str} {x : Str} {n : Nat} {F : List D → R D} {g} {es : List Expr} (hF : FnOk X.prog X.w X.K X.mg X.base CX k f fd ps (spD X.K G n F)) (hr : Room k X.A) (hg : Gl X x) (hm : X.mg x = some (.ref f)) (hk : PySem.W.keepIn X.K (.ref f) = true)
    (hb : Binds X.K fd ps []) (hx : Passes CX X E) (ha : DzA G E X (e :: es) g) (hdb : (x == ("__debug__" : Str)) = false := by decide) (he : starEach (e :: es) X.env = (false, eval e X.env) :: starEach es X.env := by rfl) (hpl : (backTo pos (starEach es X.env)).any (·.1) = false := by rfl) :
    Dz G E X (.Call (.Name x p) (e :: es) [] pos) (sCallP n F g) := by
  obtain ⟨t, h1, h2⟩ := ha
  refine ⟨_, pe_call hF hr hg hm hk hb .nil hx h1 hdb he hpl, fun B δ σ H0 H S s nb o => ats_bind (t := t σ H) (k := fun vs H1 Q => spD X.K G n F (vs ++ []) H1 Q E) msV (h2 B δ σ H0 H S s nb o) fun ds vs H1 H1' S1 u o1 r => ats_of o1 ?_⟩
  show At X.K G E (rV X.K) H1 H1' _ (if ds.length = n then F ds else R.bad)
  split
  · rename_i hn
    rw [List.append_nil]
    exact at_call u.b (by rw [r.length]; exact hn) r
  · exact True.intro
end
/-- what a def computes: its body from its arguments and the store -/
def runS (m : Nat) (b : Sb) : List D → Sto → Rs D := fun ds S => (b (ds.map SV.dat ++ List.replicate (m - ds.length) SV.no) S).bind fun o S' => match o with
  | .rt d => .ok d S'
  | .nx _ => .ok .none S'
  | _ => .bad
def Rs.noer {α : Type} : Rs α → Rs α
  | .ok a S => .ok a S
  | _ => .bad
@[simp] theorem Rs.noer_ok {α : Type} (a : α) (S : Sto) : Rs.noer (.ok a S) = .ok a S := rfl
/-- what a frame knows: all but the data part -/
def nD (H0 H : Hp) : Hp := fun p => match H0 p with
  | none => H p
  | some _ => none
theorem nD_same {H0 H : Hp} : Same (nD H0 H) H := fun p o h => by
  unfold nD at h
  split at h
  · exact h
  · cases h
theorem nD_nb {H0 H : Hp} : Nb (nD H0 H) H0 := fun p n h => by
  unfold nD
  rw [h]
theorem UsS.up {H0 H H0' H' : Hp} (e : Fz H0 H) (u : UsS (nD H0 H) H0 H0' H') : UpS H0 H H0' H' where
  a := u.a
  b := u.b
  c := fun p o h ng => by
    cases q : H0 p with
    | none => exact u.c p o (by unfold nD; rw [q]; exact h)
    | some o' =>
      have ng' : ∀ n, o' ≠ gh n := fun n z => ng n (by rw [q, z])
      rw [Fz.real e q ng'] at h
      cases h
      exact Fz.real u.b (u.a _ _ q) ng'
  n := fun p h => by
    cases q : H0 p with
    | none =>
      cases w : H p with
      | none => exact absurd w h
      | some o =>
        have : H' p = some o := u.c p o (by unfold nD; rw [q]; exact w)
        rw [this]; exact fun z => nomatch z
    | some o' =>
      rcases u.b p o' (u.a _ _ q) with z | ⟨_, z⟩
      · rw [z]; exact fun z => nomatch z
      · exact z
  d := fun p h1 h2 => u.d p (by unfold nD; rw [h2]; exact h1) h2
  e := fun p n h => by
    cases q : H0 p with
    | some o' =>
      have := u.a _ _ q
      rw [h] at this
      cases this
      exact .inl rfl
    | none =>
      rcases u.e p n h with z | z
      · rw [q] at z; cases z
      · refine .inr ?_
        unfold nD at z
        rw [q] at z
        exact z
theorem sl_startS {K : PySem.W.Frag} {H0 H : Hp} {vs : List V} {ds : List D} {N : List Str} (e : Fz H0 H) (r : RpAll K H0 vs ds) (hl : vs.length ≤ N.length) : Sl K (nD H0 H) H0 H (L2.start N vs) (ds.map SV.dat ++ List.replicate (N.length - ds.length) SV.no) := by
  have z := sl_start (N := N) e r hl
  refine ⟨nD_same, z.ex, z.len, z.dat, fun i es h => ?_, z.sep⟩
  obtain ⟨p, vs, h1, h2, h3, h4, h5⟩ := z.own i es h
  rw [h3] at h4
  cases h4
/-- THE RULE -/
theorem fnS {P : Program} {w : World} {K : PySem.W.Frag} {mg : Str → Option Value} {base : Heap} {G : Str → Addr} {x qual : Str} {st : Stmt} {f : Addr} {fd : FuncData} {N ps : List Str} {k m n : Nat} {b : Sb} (F : Fun K x qual st f fd) (S : FnScope N ps (defScope st)) (hm : N.length = m) (hn : ps.length = n)
    (hb : ∀ (cdv : Value) (A : Around) (outer : List Env) (s : Shared) (H : Hp) (E : XK), Room k (A.deeper (envOfC qual (defScope st) s.heap.objs.size f cdv)) → Dzss G E0 (cxOf CX0 P w K mg base N qual (defScope st) f cdv A outer s H E).nox (defBody st) b) :
    FnOk P w K mg base CX0 (k + 1) f fd ps (spS K G n fun ds S => (runS m b ds S).noer) := by
  subst hm hn
  refine F.ok S (fun vs H Q E h => by obtain ⟨_, _, _, h, _⟩ := h; exact h) (fun cdv A outer s H vs Q E hr h => ?_)
  obtain ⟨H0, ds, S0, hl, e, r, o, nbad, q, _⟩ := h
  obtain ⟨t, h1, h2⟩ := hb cdv A outer s H E hr
  refine ⟨t, h1, ?_⟩
  have hpl : ps.length ≤ N.length := by have := congrArg List.length S.pre; rw [List.length_take] at this; omega
  have s0 := sl_startS (N := N) e r (by omega)
  have z := h2 (nD H0 H) _ _ H0 H S0 s0 nD_nb o
  unfold runS at nbad q
  dsimp only at nbad q
  cases hbo : b (ds.map SV.dat ++ List.replicate (N.length - ds.length) SV.no) S0 with
  | bad => rw [hbo] at nbad; exact absurd rfl nbad
  | er y S1 => rw [hbo] at nbad; exact absurd rfl nbad
  | ok o S1 =>
    rw [hbo] at nbad q z
    refine z _ ?_
    cases o with
    | nx δ => exact fun σ' H0' H' u s' o' => q _ _ rfl _ H0' H' (u.up e) o' .non
    | rt d => exact fun v H0' H' u o' r' => q _ _ rfl _ H0' H' (u.up e) o' r'
    | bk δ => exact absurd rfl nbad
    | ct δ => exact absurd rfl nbad
structure EntS (P : Program) (w : World) (K : PySem.W.Frag) (mg : Str → Option Value) (base : Heap) (G : Str → Addr) (x : Str) (k n : Nat) (F : List D → Sto → Rs D) : Prop where
  ex : ∃ f fd ps, FnOk P w K mg base CX0 k f fd ps (spS K G n F) ∧ Binds K fd ps [] ∧ mg x = some (.ref f) ∧ PySem.W.keepIn K (.ref f) = true
section
variable {G : Str → Addr} {E : XK} {X : Cx} {pos p p2 : Pos} {a b e : Expr} {es : List Expr}
theorem dz_callE {x : Str} {k n : Nat} {F : List D → Sto → Rs D} {g} (h : EntS X.prog X.w X.K X.mg X.base G x k n F) (hr : Room k X.A) (hg : Gl X x) (ha : DzA G E0 X (e :: es) g) (hdb : (x == ("__debug__" : Str)) = false := by decide)
    (he : starEach (e :: es) X.env = (false, eval e X.env) :: starEach es X.env := by rfl) (hpl : (backTo pos (starEach es X.env)).any (·.1) = false := by rfl) : Dz G E0 X (.Call (.Name x p) (e :: es) [] pos) (sCallN n F g) := by
  obtain ⟨f, fd, ps, h1, h2, h3, h4⟩ := h.ex
  exact dz_call h1 hr hg h3 h4 h2 pass0 ha hdb he hpl
theorem dz_callPE {x : Str} {k n : Nat} {F : List D → R D} {g} (h : EntD X.prog X.w X.K X.mg X.base G x k n F) (hr : Room k X.A) (hg : Gl X x) (ha : DzA G E0 X (e :: es) g) (hdb : (x == ("__debug__" : Str)) = false := by decide)
    (he : starEach (e :: es) X.env = (false, eval e X.env) :: starEach es X.env := by rfl) (hpl : (backTo pos (starEach es X.env)).any (·.1) = false := by rfl) : Dz G E0 X (.Call (.Name x p) (e :: es) [] pos) (sCallP n F g) := by
  obtain ⟨f, fd, ps, h1, h2, h3, h4⟩ := h.ex
  exact dz_callP h1 hr hg h3 h4 h2 pass0 ha hdb he hpl
theorem entS {P : Program} {w : World} {K : PySem.W.Frag} {mg : Str → Option Value} {base : Heap} {x : Str} {st : Stmt} {N ps : List Str} {k m n : Nat} {b : Sb} (F : FunE K mg x st ps) (S : FnScope N ps (defScope st)) (hm : N.length = m) (hn : ps.length = n)
    (hb : ∀ (f : Addr) (cdv : Value) (A : Around) (outer : List Env) (s : Shared) (H : Hp) (E : XK), Room k (A.deeper (envOfC x (defScope st) s.heap.objs.size f cdv)) → Dzss G E0 (cxOf CX0 P w K mg base N x (defScope st) f cdv A outer s H E).nox (defBody st) b) :
    EntS P w K mg base G x (k + 1) n fun ds S => (runS m b ds S).noer := by
  obtain ⟨f, fd, h1, h2, h3⟩ := F.ex
  exact ⟨f, fd, ps, fnS h1 S hm hn (hb f), h2, h3, h1.kp⟩
end
/-- the law's own def: it begins without a store -/
theorem spS_of {K : PySem.W.Frag} {G : Str → Addr} {n : Nat} {F : List D → Sto → Rs D} {F' : List D → R D} (h : ∀ ds d, F' ds = .ok d → ∃ S, F ds [] = .ok d S) (ne : ∀ ds x, F' ds ≠ .er x) {vs H Q E} (hs : ∃ H0, ∃ ds, vs.length = n ∧ Fz H0 H ∧ (∀ p m, H0 p ≠ some (gh m)) ∧ RpAll K H0 vs ds ∧ F' ds ≠ .bad ∧
    (∀ d, F' ds = .ok d → ∀ v H0' H', Rp K H0' v d → Q v H')) : spS K G n F vs H Q E := by
  obtain ⟨H0, ds, h1, h2, h3, h4, h5, h6⟩ := hs
  cases q : F' ds with
  | bad => exact absurd q h5
  | er x => exact absurd q (ne ds x)
  | ok d =>
    obtain ⟨S, hS⟩ := h ds d q
    refine ⟨H0, ds, [], h1, h2, h4, ⟨fun a m z => absurd z (h3 a m), fun a b m z => absurd z (h3 a m)⟩, by rw [hS]; exact (fun z => nomatch z), fun d' S' z v H0' H' _ _ r => ?_, fun x S' z => by rw [hS] at z; cases z⟩
    rw [hS] at z
    cases z
    exact h6 d q v H0' H' r
end Dn

namespace Dn
open PySem PySem.Spec PyProof.Rows L2

/-! ### the least reading of what is computed -/
def tCanS (K : PySem.W.Frag) (G : Str → Addr) (E : XK) {β α : Type} (rel : Rel β α) (f : Sf α) : L2.St → Hp → (β → Hp → Prop) → Prop := fun σ H Q =>
  ∃ B δ H0 S, Sl K B H0 H σ δ ∧ Nb B H0 ∧ So K G H0 H S ∧ f δ S ≠ .bad ∧ (∀ a S', f δ S = .ok a S' → ∀ b H0' H', UpS H0 H H0' H' → So K G H0' H' S' → rel H H0' H' b a → Q b H') ∧ (∀ x S', f δ S = .er x S' → ∀ c dd H0' H', UpS H0 H H0' H' → So K G H0' H' S' → XR K G H0' H' c dd x → E c dd H')
section
variable {K : PySem.W.Frag} {G : Str → Addr} {E : XK}
theorem evs_can {β α : Type} {rel : Rel β α} {f : Sf α} : EvS K G E rel (tCanS K G E rel f) f := fun B δ σ H0 H S s nb o => by
  cases q : f δ S with
  | bad => exact True.intro
  | er x S' => exact fun Q h => ⟨B, δ, H0, S, s, nb, o, by rw [q]; exact (fun z => nomatch z), (fun a S2 z => by rw [q] at z; cases z), fun y S2 z => by rw [q] at z; cases z; exact h⟩
  | ok a S' => exact fun Q h => ⟨B, δ, H0, S, s, nb, o, by rw [q]; exact (fun z => nomatch z), (fun b S2 z => by rw [q] at z; cases z; exact h), fun y S2 z => by rw [q] at z; cases z⟩
theorem canS_le {β α : Type} {rel : Rel β α} {f : Sf α} {t} (h : EvS K G E rel t f) {σ H Q} (c : tCanS K G E rel f σ H Q) : t σ H Q := by
  obtain ⟨B, δ, H0, S, s, nb, o, nbad, h1, h2⟩ := c
  have z := h B δ σ H0 H S s nb o
  cases q : f δ S with
  | bad => exact absurd q nbad
  | er x S' => rw [q] at z; exact z Q (h2 x S' q)
  | ok a S' => rw [q] at z; exact z Q (h1 a S' q)
theorem evs_noer {β α : Type} {rel : Rel β α} {f : Sf α} {t} (h : EvS K G E0 rel t f) : EvS K G E rel t fun δ S => (f δ S).noer := fun B δ σ H0 H S s nb o => by
  have z := h B δ σ H0 H S s nb o
  show AtS K G E rel H0 H (t σ H) (f δ S).noer
  cases q : f δ S with
  | bad => exact True.intro
  | er x S' => exact True.intro
  | ok a S' => rw [q] at z; exact z
end
def DzTs (G : Str → Addr) (E : XK) (X : Cx) (ifs : List Expr) (f : Sf Bool) : Prop := ∃ t, PTs X ifs t ∧ EvS X.K G E rB t f
section
variable {G : Str → Addr} {E : XK} {X : Cx} {e : Expr}
theorem Dz.can {f} (h : Dz G E X e f) : PE X e (tCanS X.K G E (rV X.K) f) := by
  obtain ⟨t, h1, h2⟩ := h
  exact ⟨fun pins s σ H Q I c => h1.run pins s σ H Q I (canS_le h2 c)⟩
theorem DzTs.can {es f} (h : DzTs G E X es f) : PTs X es (tCanS X.K G E rB f) := by
  obtain ⟨t, h1, h2⟩ := h
  exact ⟨fun pins s σ H Q I c => h1.run pins s σ H Q I (canS_le h2 c)⟩
def sYes : Sf Bool := fun _ S => .ok true S
theorem dzts_nil : DzTs G E X [] sYes := ⟨_, pts_nil, fun B δ σ H0 H S s nb o Q q => q true H0 H (.refl s.ex) o rfl⟩
theorem dzts_one {c : Expr} {f} (h : DzT G E X c f) : DzTs G E X [c] f := by
  obtain ⟨t, h1, h2⟩ := h
  exact ⟨_, pts_one h1, h2⟩
end
/-! ### list comprehensions -/
def sLcGo (tg : TGd) (c : Sf Bool) (f : Sf D) (δ : DSt) : List D → Sto → Rs (List D)
  | [], S => .ok [] S
  | x :: xs, S => match tg x δ with
    | none => .bad
    | some δ' => (c δ' S).bind fun b S1 => if b then (f δ' S1).bind fun y S2 => (sLcGo tg c f δ xs S2).bind fun ys S3 => .ok (y :: ys) S3 else sLcGo tg c f δ xs S1
theorem sLcGo_cons {tg c f δ x xs S} : sLcGo tg c f δ (x :: xs) S = (match tg x δ with
    | none => .bad
    | some δ' => (c δ' S).bind fun b S1 => if b then (f δ' S1).bind fun y S2 => (sLcGo tg c f δ xs S2).bind fun ys S3 => .ok (y :: ys) S3 else sLcGo tg c f δ xs S1) := rfl
def sLc (src : Sf (List D)) (tg : TGd) (c : Sf Bool) (f : Sf D) (vs : List Nat) : Sf (List D) := fun δ S => (src δ S).bind fun ds S1 => if ds.length ≤ LIM then sLcGo tg c f (fgt δ vs) ds S1 else .bad
def sLcRest (tg : TGd) (c : Sf Bool) (f : Sf D) (δ : DSt) (ys ds : List D) (S : Sto) : Rs (List D) := (sLcGo tg c f δ ds S).bind fun r S' => .ok (ys ++ r) S'
theorem evs_lc {K : PySem.W.Frag} {G : Str → Addr} {E : XK} {wi : TI} {g : TG} {tt : TT} {te : TE} {vs : List Nat} {src : Sf (List D)} {tg c f} (hi : EvS K G E (rI K true) wi src) (hg : EvG K vs g tg) (ht : EvS K G E rB tt c) (he : EvS K G E (rV K) te f) :
    EvS K G E (rN K) (tLc wi g tt te vs) (sLc src tg c f vs) := by
  refine fun B δ σ H0 H S s nb o => ats_bind (t := wi σ H) (k := fun J H1 Q => ∀ D, H1 D = none → ∃ W : Nat → Nat → Hp → Prop, (∃ m, W 0 m (upd H1 D (.lst []))) ∧ ∀ i m H, W i m H →
    (J.stop i H ∧ Q (.ref D) H) ∨ (J.go i H ∧ ∃ Nx : Hp → Prop, (∀ H', Nx H' → ∃ m', m' < m ∧ W (i + 1) m' H') ∧ ∀ x H', J.yld i H x H' → g x (L2.wipe σ vs) H' fun σ2 H2 => L2.wipe σ2 vs = L2.wipe σ vs ∧ tt σ2 H2 fun b H3 =>
      if b = true then te σ2 H3 fun y H4 => ∃ acc, H4 D = some (.lst acc) ∧ acc.length < sizeLine ∧ Nx (upd H4 D (.lst (acc ++ [y]))) else Nx H3)) msN (hi B δ σ H0 H S s nb o) fun ds J H1 H1' S1 u1 o1 ⟨Kp, W, keep⟩ => ?_
  have s1 : Sl K B H1 H1' (L2.wipe σ vs) (Dn.fgt δ vs) := (s.upS nb u1).wipe vs
  have nb1 := nb.up s.base u1
  split
  · rename_i hlim
    generalize hδ : Dn.fgt δ vs = δw at s1
    have turns : ∀ (Q : V → Hp → Prop) (Dl : Addr), H1' Dl = none → sLcGo tg c f δw ds S1 ≠ .bad →
        (∀ ys S', sLcGo tg c f δw ds S1 = .ok ys S' → ∀ H0' H' acc, UpS H1 H1' H0' H' → So K G H0' H' S' → H0' Dl = none → H' Dl = some (.lst acc) → RpAll K H0' acc ys → Q (.ref Dl) H') →
        (∀ x S', sLcGo tg c f δw ds S1 = .er x S' → ∀ cc dd H0' H', UpS H1 H1' H0' H' → So K G H0' H' S' → XR K G H0' H' cc dd x → E cc dd H') →
        ∃ W : Nat → Nat → Hp → Prop, (∃ m, W 0 m (upd H1' Dl (.lst []))) ∧ ∀ i m H, W i m H →
          (J.stop i H ∧ Q (.ref Dl) H) ∨ (J.go i H ∧ ∃ Nx : Hp → Prop, (∀ H', Nx H' → ∃ m', m' < m ∧ W (i + 1) m' H') ∧ ∀ x H', J.yld i H x H' → g x (L2.wipe σ vs) H' fun σ2 H2 => L2.wipe σ2 vs = L2.wipe σ vs ∧ tt σ2 H2 fun b H3 =>
            if b = true then te σ2 H3 fun y H4 => ∃ acc, H4 Dl = some (.lst acc) ∧ acc.length < sizeLine ∧ Nx (upd H4 Dl (.lst (acc ++ [y]))) else Nx H3) := by
      intro Q Dl hD nbad fin ex
      have new0 := Up.own (o := .lst []) u1.b hD
      refine ⟨fun i m H' => m = ds.length - i ∧ i ≤ ds.length ∧ ∃ H0' acc ys S', UpS H1 H1' H0' H' ∧ So K G H0' H' S' ∧ H0' Dl = none ∧ H' Dl = some (.lst acc) ∧ RpAll K H0' acc ys ∧ ys.length ≤ i ∧ sLcRest tg c f δw ys (ds.drop i) S' = sLcGo tg c f δw ds S1,
        ⟨ds.length, by simp, Nat.zero_le _, H1, [], [], S1, new0.toS, o1.up new0, u1.b.free hD, upd_same, .nil, Nat.le_refl _, ?_⟩, ?_⟩
      · unfold sLcRest
        rw [List.drop_zero]
        cases sLcGo tg c f δw ds S1 <;> rfl
      rintro i m H' ⟨rfl, hle, H0', acc, ys, S', up, o', h0, hacc, racc, hly, hres⟩
      have nb' := nb1.up s1.base up
      have kp : Kp H' := keep H' (Fz.left up.a up.b) fun z => nomatch z
      by_cases hlt : i < ds.length
      · obtain ⟨d, hd⟩ : ∃ d, ds[i]? = some d := ⟨ds[i], List.getElem?_eq_getElem hlt⟩
        have hdrop : ds.drop i = d :: ds.drop (i + 1) := by
          rw [List.drop_eq_getElem_cons hlt]
          congr 1
          rw [List.getElem?_eq_getElem hlt] at hd
          exact Option.some.inj hd
        refine .inr ⟨W.go i d H' kp hd, fun H'' => ∃ H0'' acc' ys' S'', UpS H1 H1' H0'' H'' ∧ So K G H0'' H'' S'' ∧ H0'' Dl = none ∧ H'' Dl = some (.lst acc') ∧ RpAll K H0'' acc' ys' ∧ ys'.length ≤ i + 1 ∧ sLcRest tg c f δw ys' (ds.drop (i + 1)) S'' = sLcGo tg c f δw ds S1,
          fun H'' n => ⟨ds.length - (i + 1), by omega, rfl, hlt, n⟩, fun x H3 hy => ?_⟩
        obtain ⟨H03, u3, rx⟩ := W.yld i d H0' H' x H3 kp up.a up.b hd hy
        have up3 := up.trans u3.toS
        have o3 := o'.up u3
        have nD : H' Dl ≠ none := by rw [hacc]; exact fun z => nomatch z
        have h03 : H03 Dl = none := u3.d _ nD h0
        have hacc3 : H3 Dl = some (.lst acc) := u3.c _ _ hacc
        have racc3 := RpAll.mono u3.a racc
        have s3 : Sl K B H03 H3 (L2.wipe σ vs) δw := s1.upS nb1 up3
        have nb3 := nb1.up s1.base up3
        rw [hdrop] at hres
        unfold sLcRest at hres
        rw [sLcGo_cons] at hres
        cases htg : tg d δw with
        | none => rw [htg] at hres; exact absurd hres.symm nbad
        | some δ' =>
          rw [htg] at hres
          simp only at hres
          refine hg B δw (L2.wipe σ vs) H03 H3 x d δ' s3 rx htg _ fun σ2 s2 w2 => ⟨w2.trans (wipe_wipe fun _ h => h), ?_⟩
          have zt := ht B δ' σ2 H03 H3 S' s2 nb3 o3
          cases hc : c δ' S' with
          | bad => rw [hc] at hres; exact absurd hres.symm nbad
          | er xx S2 =>
            rw [hc] at zt hres
            exact zt _ fun cc dd H0a Ha ua oa xa => ex xx S2 (hres.symm.trans rfl) cc dd H0a Ha (up3.trans ua) oa xa
          | ok b S2 =>
            rw [hc] at zt hres
            refine zt _ fun b' H04 H4 u4 o4 eb => ?_
            cases (show b' = b from eb)
            have up4 := up3.trans u4
            have h04 : H04 Dl = none := u4.d _ (by rw [hacc3]; exact fun z => nomatch z) h03
            have hacc4 : H4 Dl = some (.lst acc) := u4.c _ _ hacc3 fun n z => by rw [h03] at z; cases z
            cases b with
            | false =>
              show ∃ H0'' acc' ys' S'', UpS H1 H1' H0'' H4 ∧ _
              exact ⟨H04, acc, ys, S2, up4, o4, h04, hacc4, RpAll.mono u4.a racc3, by omega, by simpa [sLcRest] using hres⟩
            | true =>
              show te σ2 H4 _
              have ze := he B δ' σ2 H04 H4 S2 (s2.upS nb3 u4) (nb3.up s2.base u4) o4
              simp only [Rs.bind_ok, if_true] at hres
              cases hf : f δ' S2 with
              | bad => rw [hf] at hres; exact absurd hres.symm nbad
              | er xx S3 =>
                rw [hf] at ze hres
                exact ze _ fun cc dd H0a Ha ua oa xa => ex xx S3 (hres.symm.trans rfl) cc dd H0a Ha (up4.trans ua) oa xa
              | ok y S3 =>
                rw [hf] at ze hres
                refine ze _ fun yv H05 H5 u5 o5 ry => ?_
                have up5 := up4.trans u5
                have h05 : H05 Dl = none := u5.d _ (by rw [hacc4]; exact fun z => nomatch z) h04
                have hacc5 : H5 Dl = some (.lst acc) := u5.c _ _ hacc4 fun n z => by rw [h04] at z; cases z
                have racc5 := RpAll.mono (K := K) u5.a (RpAll.mono u4.a racc3)
                refine ⟨acc, hacc5, lim_lt ?_, H05, acc ++ [yv], ys ++ [y], S3, ⟨up5.a, fun q o hq => ?_, fun q o hq ng => ?_, fun q hq => ?_, up5.d, up5.e⟩, o5.mut h05 hacc5, h05, upd_same, racc5.append (.cons ry .nil), by simp; omega, ?_⟩
                · rw [racc.length]; unfold LIM at *; omega
                · rw [upd_ne (ne_of_none hq h05)]; exact up5.b _ _ hq
                · rw [upd_ne (ne_of_none hq hD)]; exact up5.c _ _ hq ng
                · by_cases hqd : q = Dl
                  · subst hqd; rw [upd_same]; exact fun z => nomatch z
                  · rw [upd_ne hqd]; exact up5.n q hq
                · simp only [Rs.bind_ok] at hres
                  rw [← hres]
                  unfold sLcRest
                  cases sLcGo tg c f δw (ds.drop (i + 1)) S3 with
                  | bad => rfl
                  | er _ _ => rfl
                  | ok r _ => simp
      · have hi : i = ds.length := by omega
        subst hi
        refine .inl ⟨W.stop H' kp, ?_⟩
        rw [List.drop_eq_nil_of_le (Nat.le_refl _)] at hres
        have hres : Rs.ok (ys ++ []) S' = sLcGo tg c f δw ds S1 := hres
        rw [List.append_nil] at hres
        exact fin ys S' hres.symm H0' H' acc up o' h0 hacc racc
    cases hr : sLcGo tg c f δw ds S1 with
    | bad => exact True.intro
    | er x S2 =>
      intro Q hq Dl hD
      refine turns Q Dl hD (by rw [hr]; exact fun z => nomatch z) (fun ys S3 z => by rw [hr] at z; cases z) fun x' S3 z cc dd H0' H' ua oa xa => ?_
      rw [hr] at z
      cases z
      exact hq cc dd H0' H' ua oa xa
    | ok ys S2 =>
      intro Q hq Dl hD
      refine turns Q Dl hD (by rw [hr]; exact fun z => nomatch z) (fun ys' S3 z H0' H' acc ua oa h0 hacc r => ?_) fun x' S3 z => by rw [hr] at z; cases z
      rw [hr] at z
      cases z
      exact hq _ H0' H' ua oa ⟨Dl, acc, rfl, hD, h0, hacc, r⟩
  · exact True.intro
section
variable {G : Str → Addr} {E : XK} {X : Cx}
theorem dzn_lc {elt tg iter : Expr} {ifs : List Expr} {scope : Scope} {own : List (Str × Nat)} {pos : Pos} {src : Sf (List D)} {tgf c f} (hc : X.calm = true) (hN : X.N.Nodup) (hi : DzI G E X true tg iter src) (ok : BlkOk X.N X.env.scope scope own)
    (hg : ∀ (s : Shared) (H : Hp) (C : Addr) (cl : List (Str × Addr)) (fp : List Addr), DG (X.blk s H scope (compEnvC scope cl C X.env) fp) (own.map (·.2)) tg tgf)
    (ht : ∀ (s : Shared) (H : Hp) (C : Addr) (cl : List (Str × Addr)) (fp : List Addr), DzTs G E0 (X.blk s H scope (compEnvC scope cl C X.env) fp) ifs c)
    (he : ∀ (s : Shared) (H : Hp) (C : Addr) (cl : List (Str × Addr)) (fp : List Addr), Dz G E0 (X.blk s H scope (compEnvC scope cl C X.env) fp) elt f) (hs : ∀ x, foldedSetIterable iter X.env x = pure x := by intro _; rfl) :
    DzN G E X (.ListComp elt [⟨tg, iter, ifs, 0⟩] scope pos) (sLc src tgf (fun δ S => (c δ S).noer) (fun δ S => (f δ S).noer) (own.map (·.2))) := by
  obtain ⟨wi, h1, h2⟩ := hi
  exact ⟨_, pe_lc hc hN h1 ok (fun s H C cl fp => (hg s H C cl fp).can) (fun s H C cl fp => (ht s H C cl fp).can) (fun s H C cl fp => (he s H C cl fp).can) hs, evs_lc h2 evg_can (evs_noer evs_can) (evs_noer evs_can)⟩
end
end Dn

namespace Dn
open PySem PySem.Spec PyProof.Rows L2
section
variable {G : Str → Addr} {E : XK} {X : Cx} {pos p p2 p3 : Pos} {a b e tg : Expr} {es : List Expr} {m : Bool}
/-! ### built-ins -/
def P.toIntD (x : D) : R D := P.toInt (.d x)
theorem dz_toInt {f} (hg : Gl X "int") (hm : X.mg "int" = none) (hv : bootBuiltins "int" = some (.type "int")) (ha : Dz G E X e f) (he : starEach [e] X.env = (false, eval e X.env) :: starEach [] X.env := by rfl) (hpl : (backTo pos (starEach [] X.env)).any (·.1) = false := by rfl) :
    Dz G E X (.Call (.Name "int" p) [e] [] pos) (s1 P.toIntD f) := by
  obtain ⟨t, h1, h2⟩ := ha
  refine ⟨_, pe_callTy call_int1 hg hm hv (pa_cons h1 pa_nil he) (by decide) (by decide) he hpl, fun B δ σ H0 H S s nb o => ats_bind (t := t σ H) msV (h2 B δ σ H0 H S s nb o) fun x v H1 H1' S1 u o1 rx => ats_of o1 ?_⟩
  unfold P.toIntD P.toInt
  split
  · rename_i i hi
    cases hi
    cases (show Rp X.K H1 v _ from rx)
    exact fun Q q => .inl ⟨_, rfl, q _ H1 H1' (.refl u.b) (.int _)⟩
  · rename_i i hi
    cases hi
    cases (show Rp X.K H1 v _ from rx)
    exact fun Q q => .inr ⟨_, rfl, q _ H1 H1' (.refl u.b) (.int _)⟩
  · exact True.intro
theorem dzp_some {f} (h : Dz G E X e f) : DzP G E X (some e) (s1 P.part f) := by
  obtain ⟨t, h1, h2⟩ := h
  refine ⟨_, po_some h1, fun B δ σ H0 H S s nb o => ats_bind (t := t σ H) msO (h2 B δ σ H0 H S s nb o) fun x v H1 H1' S1 u o1 rx => ats_of o1 ?_⟩
  cases x with
  | int i =>
    cases (show Rp X.K H1 v _ from rx)
    exact fun Q q => ⟨_, rfl, q _ H1 H1' (.refl u.b) rfl⟩
  | _ => exact True.intro
theorem dzi_range1 {f} (hg : Gl X "range") (hm : X.mg "range" = none) (h : DzA G E X [a] f) (hs : starEach [a] X.env = [(false, eval a X.env)] := by rfl) : DzI G E X m tg (.Call (.Name "range" p) [a] [] pos) (s1 P.range1 f) := by
  obtain ⟨t, h1, h2⟩ := h
  refine ⟨_, pi_range1 hg hm h1 hs, fun B δ σ H0 H S s nb o => ats_bind (t := t σ H) (k := fun vs H1 R => ∃ j : Int, vs = [.int j] ∧ -(2 ^ 62) ≤ j ∧ j < 2 ^ 62 ∧ R (Itr 0 j.toNat) H1) msI (h2 B δ σ H0 H S s nb o) fun x v H1 H1' S1 w o1 rx => ats_of o1 ?_⟩
  unfold P.range1
  split
  · split
    · rename_i n hl
      cases rx with
      | cons r1 r2 =>
        cases r2; cases r1
        exact fun Q q => ⟨_, rfl, by unfold LIM at hl; omega, by unfold LIM at hl; omega, q _ H1 H1' (.refl w.b) ⟨fun _ => True, wk_range, fun _ _ _ => True.intro⟩⟩
    · exact True.intro
  · exact True.intro
theorem dzi_range2 {f} (hg : Gl X "range") (hm : X.mg "range" = none) (h : DzA G E X [a, b] f) (hs : starEach [a, b] X.env = [(false, eval a X.env), (false, eval b X.env)] := by rfl) (hs2 : starEach [b] X.env = [(false, eval b X.env)] := by rfl) :
    DzI G E X m tg (.Call (.Name "range" p) [a, b] [] pos) (s1 P.range2 f) := by
  obtain ⟨t, h1, h2⟩ := h
  refine ⟨_, pi_range2 hg hm h1 hs hs2, fun B δ σ H0 H S s nb o => ats_bind (t := t σ H) (k := fun vs H1 R => ∃ i j : Int, vs = [.int i, .int j] ∧ (-(2 ^ 62) ≤ i ∧ i < 2 ^ 62 ∧ -(2 ^ 62) ≤ j ∧ j < 2 ^ 62) ∧ R (Itr i (j - i).toNat) H1) msI (h2 B δ σ H0 H S s nb o) fun x v H1 H1' S1 w o1 rx => ats_of o1 ?_⟩
  unfold P.range2
  split
  · split
    · rename_i n k hl
      cases rx with
      | cons r1 r2 =>
        cases r2 with
        | cons r3 r4 =>
          cases r4; cases r1; cases r3
          exact fun Q q => ⟨_, _, rfl, by unfold LIM at hl; omega, q _ H1 H1' (.refl w.b) ⟨fun _ => True, wk_range, fun _ _ _ => True.intro⟩⟩
    · exact True.intro
  · exact True.intro
/-! ### slices -/
def P.sliceD (x : D) (lo hi : Option Int) : R D := P.slice (.d x) lo hi
theorem at_slice {K : PySem.W.Frag} {Hs H0 H : Hp} {v : V} {x : Op} {lo hi : Option Int} (e : Fz H0 H) (rx : rP K Hs H0 H v x) : At K G E (rV K) H0 H (fun Q => rSlD K v lo hi H Q) (P.slice x lo hi) := by
  unfold P.slice
  split
  · rename_i ds hd
    obtain ⟨a, vs, rfl, hq, r⟩ := as_l e rx hd
    exact fun Q q => .inl ⟨_, _, rfl, hq, at_newL (G := G) (E := E) e (cut_rp r) Q q⟩
  · split
    · cases (show Rp K H0 v _ from rx) with
      | @tup a xs ds' h1 r =>
        refine fun Q q => .inr (.inl ⟨_, _, rfl, e.tup h1, fun z => ?_, fun z => at_newT (G := G) (E := E) e (cut_rp r) Q q⟩)
        have z' := z
        rw [r.length] at z'
        rw [show Dn.cutD _ lo hi = _ from cutD_all z'] at q
        exact q _ H0 H (.refl e) (.tup h1 r)
    · cases (show Rp K H0 v _ from rx)
      split
      · rename_i hl
        exact fun Q q => .inr (.inr ⟨_, rfl, lim_le hl, q _ H0 H (.refl e) (.str _)⟩)
      · exact True.intro
    · exact True.intro
theorem dz_slice {lo hi : Option Expr} {f l h} (ha : Dz G E X e f) (hl : DzP G E X lo l) (hh : DzP G E X hi h) : Dz G E X (.Subscript e (.Slice lo hi none p2) pos) (s3 P.sliceD f l h) := by
  obtain ⟨t, h1, h2⟩ := ha
  obtain ⟨tl, l1, l2⟩ := hl
  obtain ⟨th, k1, k2⟩ := hh
  refine ⟨_, pe_slice sl_d h1 l1 k1, fun B δ σ H0 H S s nb o => ats_bind (t := t σ H) (k := fun x H1 Q => tl σ H1 fun l H2 => th σ H2 fun u H3 => rSlD X.K x l u H3 Q) msV (h2 B δ σ H0 H S s nb o) fun x v H1 H1' S1 w o1 rx =>
    ats_bind (t := tl σ H1') (k := fun l H2 Q => th σ H2 fun u H3 => rSlD X.K v l u H3 Q) msV (l2 B δ σ H1 H1' S1 (s.upS nb w) (nb.up s.base w) o1) fun lo' lo2 H2 H2' S2 w2 o2 e1 => ats_bind (t := th σ H2') (k := fun u H3 Q => rSlD X.K v lo2 u H3 Q) msV (k2 B δ σ H2 H2' S2 ((s.upS nb w).upS (nb.up s.base w) w2) ((nb.up s.base w).up (s.upS nb w).base w2) o2) fun hi' hi2 H3 H3' S3 w3 o3 e2 => ats_of o3 ?_⟩
  cases (show lo2 = lo' from e1)
  cases (show hi2 = hi' from e2)
  exact at_slice (Hs := H) (x := .d x) w3.b (Rp.mono w3.a (Rp.mono w2.a rx))
/-! ### name = [.. for ..], one line -/
theorem dzs_setLc {i : Nat} {y : Str} {py : Pos} {elt tg iter : Expr} {ifs : List Expr} {scope : Scope} {own : List (Str × Nat)} {spos : Pos} {src : Sf (List D)} {tgf c f} (hc : X.calm = true) (hN : X.N.Nodup) (hy : X.N[i]? = some y) (hyl : X.env.scope.names.lookup y = some .local)
    (hsw : swapsWith (.ListComp elt [⟨tg, iter, ifs, 0⟩] scope pos) (some (.Name y py)) spos.line X.env = pure true) (hi : DzI G E X true tg iter src) (ok : BlkOk X.N X.env.scope scope own)
    (hg : ∀ (s : Shared) (H : Hp) (C : Addr) (cl : List (Str × Addr)) (fp : List Addr), DG (X.blk s H scope (compEnvC scope cl C X.env) fp) (own.map (·.2)) tg tgf)
    (ht : ∀ (s : Shared) (H : Hp) (C : Addr) (cl : List (Str × Addr)) (fp : List Addr), DzTs G E0 (X.blk s H scope (compEnvC scope cl C X.env) fp) ifs c)
    (he : ∀ (s : Shared) (H : Hp) (C : Addr) (cl : List (Str × Addr)) (fp : List Addr), Dz G E0 (X.blk s H scope (compEnvC scope cl C X.env) fp) elt f) (hs : ∀ x, foldedSetIterable iter X.env x = pure x := by intro _; rfl) :
    Dzs G E X (.Assign [.Name y py] (.ListComp elt [⟨tg, iter, ifs, 0⟩] scope pos) spos) (sSetN i (sLc src tgf (fun δ S => (c δ S).noer) (fun δ S => (f δ S).noer) (own.map (·.2)))) := by
  obtain ⟨wi, h1, h2⟩ := hi
  have z := evs_lc (E := E) h2 (evg_can (K := X.K) (vs := own.map (·.2)) (f := tgf)) (evs_noer (E := E) (evs_can (K := X.K) (G := G) (rel := rB) (f := c))) (evs_noer (E := E) (evs_can (K := X.K) (G := G) (rel := rV X.K) (f := f)))
  exact ⟨_, ps_setLc hc hN hy hyl hsw h1 ok (fun s H C cl fp => (hg s H C cl fp).can) (fun s H C cl fp => (ht s H C cl fp).can) (fun s H C cl fp => (he s H C cl fp).can) hs,
    fun B δ σ H0 H S s nb o => sats_bind (t := tLc wi _ _ _ _ σ H) (k := fun v H1 D => D.nx (σ.set i (some v)) H1) s.base nb (z B δ σ H0 H S s nb o) fun d v H1 H1' S1 u o1 r D q => q _ H1 H1' (.refl u.b (s.upS nb u).base) (sls_setN s nb u r) o1⟩
/-! ### a new dict with written text keys -/
def rPs (K : PySem.W.Frag) (ks : List Str) : Rel (List (V × V)) (List D) := fun _ H0 _ ps ds => ps.map (·.1) = ks.map V.str ∧ RpAll K H0 (ps.map (·.2)) ds
theorem mPs {K ks} : Rel.M (rPs K ks) := fun _ _ _ _ _ _ _ h => h
def DPs (G : Str → Addr) (E : XK) (X : Cx) (p : Pos) (keys : List (Option Expr)) (values : List Expr) (ks : List Str) (f : DSt → R (List D)) : Prop := ∃ trs, PPs X p keys values trs ∧ ∀ B δ σ H0 H, Sl X.K B H0 H σ δ → At X.K G E (rPs X.K ks) H0 H (tPairs trs σ H) (f δ)
theorem dps_nil : DPs G E X p [] [] [] dNil := ⟨_, pps_nil, fun B δ σ H0 H s Q q => q [] H0 H (.refl s.ex) ⟨rfl, .nil⟩⟩
theorem dps_cons {k : Str} {j} {v : Expr} {keys : List (Option Expr)} {values : List Expr} {ks : List Str} {f g} (hv : De G E X v f) (hr : DPs G E X p keys values ks g) : DPs G E X p (some (.Constant (.str k) j pos) :: keys) (v :: values) (k :: ks) (dCons f g) := by
  obtain ⟨t, h1, h2⟩ := hv
  obtain ⟨trs, r1, r2⟩ := hr
  refine ⟨_, pps_cons pe_str h1 r1, fun B δ σ H0 H s => ?_⟩
  refine at_bind (t := t σ H) (k := fun y H2 Q => tPairs trs σ H2 fun ps H3 => Q ((V.str k, y) :: ps) H3) mPs (h2 B δ σ H0 H s) fun x v H1 H1' u rx => at_bind (t := tPairs trs σ H1') (k := fun ps H3 Q => Q ((V.str k, v) :: ps) H3) mPs (r2 B δ σ H1 H1' (s.up u)) fun ds ps H2 H2' u2 rps => ?_
  exact fun Q q => q _ H2 H2' (.refl u2.b) ⟨by rw [List.map_cons, rps.1]; rfl, .cons (Rp.mono u2.a rx) rps.2⟩
theorem merge_new : ∀ (more acc : List (Key × V)), (∀ q ∈ more, valV acc q.1 = none) → (more.map (·.1)).Nodup → mergeK acc more = acc ++ more
  | [], acc, _, _ => by simp [mergeK]
  | q :: more, acc, h, n => by
    have h1 := putK_new q.2 (h q (by simp))
    have n' := List.nodup_cons.mp (by simpa using n : (q.1 :: more.map (·.1)).Nodup)
    show mergeK (putK acc q.1 q.2) more = _
    rw [h1, merge_new more (acc ++ [(q.1, q.2)]) (fun r hr => ?_) n'.2]
    · simp
    · rw [valV_snoc _ _ _ _ (h q (by simp)), if_neg (fun z => n'.1 (by rw [← z]; exact List.mem_map_of_mem hr))]
      exact h r (by simp [hr])
def sDisp (ks : List Str) (f : DSt → R (List D)) : Sf D := fun δ S => ((f δ).at_ S).bind fun ds S1 => .ok (ob S1.length) (S1 ++ [.dct ((ks.map PyData.str).zip ds)])
theorem dz_disp {keys : List (Option Expr)} {values : List Expr} {ks : List Str} {f} (h : DPs G E X p keys values ks f) (nd : ks.Nodup) (hk15 : ks.length ≤ 15) (hall : keys.all (·.isSome) = true := by rfl) (hl : keys.length = values.length := by rfl) (h0 : keys ≠ [] := by intro z; cases z) (h15 : keys.length ≤ 15 := by decide) :
    Dz G E X (.Dict keys values p) (sDisp ks f) := by
  obtain ⟨trs, h1, h2⟩ := h
  refine ⟨_, pe_disp h1 hall hl h0 h15, fun B δ σ H0 H S s nb o => ?_⟩
  have run : ∀ q, H q = none → At X.K G E (rPs X.K ks) H0 (upd H q (.dK [])) (tPairs trs σ (upd H q (.dK []))) (f δ) := fun q hq => h2 B δ σ H0 _ (s.up (Up.own s.ex hq))
  unfold sDisp
  cases hf : f δ with
  | bad => exact True.intro
  | er x =>
    intro Q hQ q hq
    have z := run q hq
    rw [hf] at z
    exact z _ fun c dd Ha Hb ua xa => hQ c dd Ha Hb ((Up.own s.ex hq).trans ua).toS (o.up ((Up.own s.ex hq).trans ua)) xa
  | ok ds =>
    intro Q hQ q hq
    have z := run q hq
    rw [hf] at z
    refine z _ fun ps H0' H2 u ⟨e1, r⟩ => ?_
    have uu := (Up.own (o := .dK []) s.ex hq).trans u
    have hq2 : H2 q = some (.dK []) := u.c _ _ upd_same
    have hq0 : H0' q = none := u.d q (by rw [upd_same]; exact fun z => nomatch z) (s.ex.free hq)
    refine ⟨hq2, (ks.map Sum.inr).zip (ps.map (·.2)), ?_, ?_, ?_⟩
    · have : ∀ (ks : List Str) (ps : List (V × V)), ps.map (·.1) = ks.map V.str → ps = (((ks.map Sum.inr).zip (ps.map (·.2))) : List (Key × V)).map fun kv => (kV kv.1, kv.2) := by
        intro ks
        induction ks with
        | nil => intro ps h; cases ps with
          | nil => rfl
          | cons _ _ => cases h
        | cons k ks ih => intro ps h; cases ps with
          | nil => cases h
          | cons p ps =>
            simp only [List.map_cons, List.cons.injEq] at h
            simp only [List.map_cons, List.zip_cons_cons]
            rw [← ih ps h.2]
            obtain ⟨p1, p2⟩ := p
            rw [show p1 = V.str k from h.1]
            rfl
      exact this ks ps e1
    · simp
      have := congrArg List.length e1
      simp at this
      omega
    · have len : ps.length = ks.length := by
        have := congrArg List.length e1
        simpa using this
      have keysEq : (((ks.map Sum.inr).zip (ps.map (·.2))) : List (Key × V)).map (·.1) = ks.map Sum.inr := by
        rw [List.map_fst_zip (by simp; omega)]
      have valsEq : (((ks.map Sum.inr).zip (ps.map (·.2))) : List (Key × V)).map (·.2) = ps.map (·.2) := by
        rw [List.map_snd_zip (by simp; omega)]
      have mk : mergeK [] (((ks.map Sum.inr).zip (ps.map (·.2))) : List (Key × V)) = (ks.map Sum.inr).zip (ps.map (·.2)) := by
        rw [merge_new _ [] (fun _ _ => rfl) (by rw [keysEq]; exact List.Pairwise.map _ (fun a b ne e => ne (Sum.inr.inj e)) nd), List.nil_append]
      rw [mk]
      have dl : ds.length = ks.length := by
        have := r.length
        simp at this
        omega
      refine hQ _ (upd H0' q (gh S.length)) _ ⟨uu.a.trans (Same.upd hq0), fun c x w => ?_, fun c x w _ => ?_, fun c w => ?_, fun c w1 w2 => ?_, fun c n w => ?_⟩ ⟨fun c n w => ?_, fun c d n w1 w2 => ?_⟩ (.ob upd_same)
      · by_cases hc : c = q
        · subst hc
          rw [upd_same] at w
          cases w
          exact .inr ⟨⟨_, rfl⟩, by rw [upd_same]; exact fun z => nomatch z⟩
        · rw [upd_ne hc] at w ⊢; exact uu.b _ _ w
      · have hc : c ≠ q := fun z => by rw [z, hq] at w; cases w
        rw [upd_ne hc]; exact uu.c _ _ w
      · have hc : c ≠ q := fun z => w (z ▸ hq)
        rw [upd_ne hc]; exact Same.ne uu.c w
      · have hc : c ≠ q := fun z => w1 (z ▸ hq)
        rw [upd_ne hc]; exact uu.d c w1 w2
      · by_cases hc : c = q
        · subst hc; exact .inr hq
        · rw [upd_ne hc] at w; exact .inl (uu.g c n w)
      · by_cases hc : c = q
        · subst hc
          rw [upd_same] at w
          have hn : n = S.length := by
            injection w with w
            injection w with w
            omega
          subst hn
          refine ⟨_, List.getElem?_concat_length, _, upd_same, ?_, ?_⟩
          · rw [List.map_fst_zip (by simp; omega)]
            have : (((ks.map Sum.inr).zip (ps.map (·.2))) : List (Key × V)).map (fun p => kD p.1) = ((((ks.map Sum.inr).zip (ps.map (·.2))) : List (Key × V)).map (·.1)).map kD := by simp
            rw [this, keysEq]
            simp [kD]
          · rw [valsEq, List.map_snd_zip (by simp; omega)]
            exact r.mono (Same.upd hq0)
        · rw [upd_ne hc] at w
          obtain ⟨x, w1, w2⟩ := (o.up uu).at_ c n w
          have hl : n < S.length := (List.getElem?_eq_some_iff.mp w1).1
          refine ⟨x, by rw [List.getElem?_append_left hl]; exact w1, w2.mono (Same.upd hq0) fun c' y w' k => ?_⟩
          have hc' : c' ≠ q := fun z => by
            subst z
            rcases k with k | k
            · exact hc k.symm
            · rw [hq2] at w'; cases w'; cases k
          rw [upd_ne hc']; exact w'
      · have key : ∀ c n, upd H0' q (gh S.length) c = some (gh n) → (c = q ∧ n = S.length) ∨ (c ≠ q ∧ H0' c = some (gh n) ∧ n < S.length) := fun c n w => by
          by_cases hc : c = q
          · subst hc
            rw [upd_same] at w
            refine .inl ⟨rfl, ?_⟩
            injection w with w
            injection w with w
            omega
          · rw [upd_ne hc] at w
            obtain ⟨x, w1, _⟩ := (o.up uu).at_ c n w
            exact .inr ⟨hc, w, (List.getElem?_eq_some_iff.mp w1).1⟩
        rcases key c n w1 with ⟨rfl, e1⟩ | ⟨_, a1, a2⟩ <;> rcases key d n w2 with ⟨rfl, e2⟩ | ⟨_, b1, b2⟩
        · rfl
        · omega
        · omega
        · exact (o.up uu).uq c d n a1 b1
end
end Dn

namespace Dn
open PySem PySem.Spec PyProof.Rows L2
section
variable {G : Str → Addr} {E : XK} {X : Cx} {pos p p2 p3 apos : Pos} {a b e tg : Expr} {es : List Expr} {m : Bool}
def P.lenD (x : D) : R D := P.len (.d x)
theorem dz_len {f} (hg : Gl X "len") (hm : X.mg "len" = none) (ha : Dz G E X e f) (he : starEach [e] X.env = (false, eval e X.env) :: starEach [] X.env := by rfl) (hpl : (backTo pos (starEach [] X.env)).any (·.1) = false := by rfl) :
    Dz G E X (.Call (.Name "len" p) [e] [] pos) (s1 P.lenD f) := by
  obtain ⟨t, h1, h2⟩ := ha
  refine ⟨_, pe_callB call_len hg hm PySem.boot_len (pa_cons h1 pa_nil he) (by decide) (by decide) he hpl, fun B δ σ H0 H S s nb o => ats_bind (t := t σ H) msV (h2 B δ σ H0 H S s nb o) fun x v H1 H1' S1 u o1 rx => ats_of o1 ?_⟩
  unfold P.lenD P.len
  split
  · rename_i ds hd
    obtain ⟨a, vs, rfl, hq, r⟩ := as_sq (Hs := H) u.b (show rP X.K H H1 H1' v (.d x) from rx) hd
    exact fun Q q => ⟨_, _, rfl, hq.elim (fun z => .inl ⟨_, z, r.length.symm⟩) (fun z => .inr ⟨_, z, r.length.symm⟩), q _ H1 H1' (.refl u.b) (.int _)⟩
  · split
    · rename_i z hz
      cases hz
      cases (show Rp X.K H1 v _ from rx)
      split
      · rename_i hl
        exact fun Q q => ⟨_, _, rfl, ⟨lim_le hl, rfl⟩, q _ H1 H1' (.refl u.b) (.int _)⟩
      · exact True.intro
    · exact True.intro
/-- n.bit_length() -/
def P.bits : D → R D
  | .int i => .ok (.int (Builtin.Int.intBits i : Nat))
  | _ => .bad
def dBits (f : DSt → R D) : DSt → R D := fun δ => (f δ).bind P.bits
theorem de_bits {f} (ha : De G E X e f) (hbase : attributeBase e "bit_length" X.env (eval e X.env) = eval e X.env := by rfl) (hline : (apos.endLine == pos.line) = true := by rfl) : De G E X (.Call (.Attribute e "bit_length" apos) [] [] pos) (dBits f) := by
  obtain ⟨t, h1, h2⟩ := ha
  refine ⟨_, pe_bits h1 hbase hline, fun B δ σ H0 H s => at_bind (t := t σ H) (k := fun x H1 Q => ∃ i, x = .int i ∧ Q (.int (Builtin.Int.intBits i : Nat)) H1) mV (h2 B δ σ H0 H s) fun x v H1 H1' u rx => ?_⟩
  cases x with
  | int i =>
    cases (show Rp X.K H1 v _ from rx)
    exact fun Q q => ⟨i, rfl, q _ H1 H1' (.refl u.b) (.int _)⟩
  | _ => exact True.intro
end
end Dn

/-! enumerate(zip(a, b)) over any two of list, tuple, text: the zip's pair stays out from turn to turn, or has gone -/
namespace Dn
open PySem PySem.Spec PyProof.Rows L2
abbrev zO (c : Value) (f : Bool) (TI TO : Addr) : Obj := { cls := .type "zip", dict := none, data := .fields #[c, .bool f, .bool false, .ref TI, .ref TO], slots := #[] }
/-- the zip between two turns: its pair never out, or out somewhere -/
def Zs (h : Heap) (z TI TO i1 i2 : Addr) : Prop := ∃ (c : Value) (f : Bool), h.get? z = some (zO c f TI TO) ∧ (c = .none ∨ ∃ T : Addr, c = rawInt T) ∧ IsTupOf2 h TI (.ref i1) (.ref i2) ∧ ∃ x y, IsTupOf2 h TO x y
theorem Zs.keep {h h' : Heap} {z TI TO i1 i2 : Addr} (S : Zs h z TI TO i1 i2) (k : ∀ b ∈ [z, TI, TO], ∀ o, h.get? b = some o → h'.get? b = some o) : Zs h' z TI TO i1 i2 := by
  obtain ⟨c, f, a1, a2, a3, x, y, a4⟩ := S
  exact ⟨c, f, k z (by simp) _ a1, a2, k TI (by simp) _ a3, x, y, k TO (by simp) _ a4⟩
section
variable {prog : Program} {w : World} {A : Around} {E : Value → Shared → Prop} {s : Shared} {z TI TO i1 i2 : Addr} {fp1 fp2 : List Addr} {n1 n2 i : Nat} {P1 P2 : Nat → Value → Prop} {St1 St2 : Nat → Heap → Prop}
theorem gone_ld {a : Addr} {Q : Option Obj → Shared → Prop} (ho : s.heap.get? a = none) (h : Q none s) : wpAny (model prog w) A (loadIfAlive a) Q E s := by
  have z : Q (s.heap.get? a) s := by rw [ho]; exact h
  exact fun _ _ _ => z
/-- both ways of the question whether the pair is free -/
theorem zs_free {Q : Bool → Shared → Prop} (S : Zs s.heap z TI TO i1 i2) (nI : TI ≠ z) (nO : TO ≠ z) (q1 : Q true s) (q2 : ∀ h', Heap.SameBut z s.heap h' → Zs h' z TI TO i1 i2 → Q false { s with heap := h' }) :
    wpAny (model prog w) A (Builtin.SmallTypes.ownedTupleIsFree (.ref z)) Q E s := by
  obtain ⟨c, f, a1, a2, a3, x, y, a4⟩ := S
  unfold Builtin.SmallTypes.ownedTupleIsFree
  rcases a2 with rfl | ⟨T, rfl⟩
  · exact wpAny_bind (wpAny_field a1 rfl (x := .none) rfl (wpAny_pure q1))
  · refine wpAny_bind (wpAny_field a1 rfl (x := rawInt T) rfl ?_)
    show wpAny (model prog w) A (loadIfAlive ((T : Int).toNat) >>= _) Q E s
    rw [Int.toNat_natCast]
    cases hT : s.heap.get? T with
    | none => exact wpAny_bind (gone_ld hT (by simp only [Option.isNone_none, if_true]; exact wpAny_pure q1))
    | some oT =>
      refine wpAny_bind (PySem.W.kdx_alive hT ?_)
      simp only [Option.isNone_some, Bool.false_eq_true, if_false]
      refine wpAny_bind (wpAny_field a1 rfl (x := .bool f) rfl ?_)
      cases f with
      | true =>
        have e : ((Value.bool true != Value.bool true) = true) = False := by simp
        simp only [e, if_false]
        exact wpAny_pure (q2 s.heap (Heap.SameBut.refl _ _) ⟨_, true, a1, .inr ⟨T, rfl⟩, a3, x, y, a4⟩)
      | false =>
        have e : ((Value.bool false != Value.bool true) = true) = True := by simp
        simp only [e, if_true]
        refine wpAny_bind (wpAny_setField_rec a1 (by simp) fun h' b1 sb => wpAny_pure (q2 h' sb ?_))
        replace b1 : h'.get? z = some (zO (rawInt T) true TI TO) := b1
        replace sb : Heap.SameBut z s.heap h' := sb
        exact ⟨_, true, b1, .inr ⟨T, rfl⟩, sb.extBut _ _ nI a3, x, y, sb.extBut _ _ nO a4⟩
/-- the next pair -/
theorem zs_item {Q : Value → Shared → Prop} (D : ZipSep2 z TI TO i1 i2 fp1 fp2) (D1 : Draws prog w A i1 fp1 n1 P1 St1) (D2 : Draws prog w A i2 fp2 n2 P2 St2) (S : Zs s.heap z TI TO i1 i2) (t1 : St1 i s.heap) (t2 : St2 i s.heap) (l1 : i < n1) (l2 : i < n2)
    (hQ : ∀ x1 x2 h' tk, P1 i x1 → P2 i x2 → Zs h' z TI TO i1 i2 → St1 (i + 1) h' → St2 (i + 1) h' → IsTupOf2 h' s.heap.objs.size x1 x2 → s.heap.objs.size < h'.objs.size →
      (∀ c o, c ∉ [z, TO, i1, i2] → s.heap.get? c = some o → h'.get? c = some o) → Q (.ref s.heap.objs.size) { s with heap := h', toks := tk }) :
    wpAny (model prog w) A (Builtin.«zip.__next__» ⟨[.ref z], []⟩) (fun fin s' => ∃ v, fin = .done (.ret v) ∧ Q v s') E s := by
  obtain ⟨H, g, d, tk0, os⟩ := s
  obtain ⟨c, f, a1, a2, a3, x0, y0, a4⟩ := id S
  have d1 := D.zi1; have d2 := D.zi2; have d3 := D.Ti1; have d4 := D.Ti2
  have nin : ∀ {b : Addr}, b ∉ [z, TO, i1, i2] → b ≠ z ∧ b ≠ TO ∧ b ≠ i1 ∧ b ≠ i2 := fun h => by simpa using h
  show wpAny (model prog w) A (field (.ref z) 2 >>= _) _ E _
  refine wpAny_bind (wpAny_field a1 rfl (x := .bool false) rfl ?_)
  show wpAny (model prog w) A (field (.ref z) 3 >>= _) _ E _
  refine wpAny_bind (wpAny_field a1 rfl (x := .ref TI) rfl (wpAny_bind (wpAny_seqItems a3 rfl ?_)))
  show wpAny (model prog w) A (Builtin.SmallTypes.ownedTupleIsFree (.ref z) >>= _) _ E _
  refine wpAny_bind (zs_free S D.TIz D.TOz ?_ fun h0 b0 S0 => ?_)
  · simp only [if_true]
    refine wpAny_bind (wpAny_rule (wpAny_bind (wpAny_field a1 rfl (x := .ref TO) rfl (wpAny_bind (wpAny_setField_rec a1 (by simp) fun u0 e0 b0 => ?_)))))
    replace e0 : u0.get? z = some (zO .ellipsis f TI TO) := e0
    replace b0 : Heap.SameBut z H u0 := b0
    refine wpAny_bind ?_
    simp only [List.zipIdx_cons, List.zipIdx_nil, List.forIn_cons, List.forIn_nil]
    refine wpAny_bind (wpAny_bind (wpAny_onRaise ?_))
    show wpAny (model prog w) A (Builtin.SmallTypes.nextOf (.ref i1) >>= _) _ _ ⟨u0, g, d, tk0, os⟩
    refine wpAny_bind (D1.item i _ _ _ l1 (D1.over t1 b0 D.zf1) fun x1 u1 k1 p1 j1 b1 => wpAny_pure ?_)
    replace b1 : Heap.SameBut i1 u0 u1 := b1
    have o1 : IsTupOf2 u1 TO x0 y0 := b1.extBut TO _ d3 (b0.extBut TO _ D.TOz a4)
    refine wpAny_bind (wpAny_seqItems (s := ⟨u1, g, d, k1, os⟩) o1 rfl (wpAny_bind (updateSeq_IsTupOf2 (s := ⟨u1, g, d, k1, os⟩) o1 fun u2 o2 b2 => wpAny_bind (wpAny_letGo (wpAny_pure ?_)))))
    replace o2 : IsTupOf2 u2 TO x1 y0 := o2
    replace b2 : Heap.SameBut TO u1 u2 := b2
    refine wpAny_bind (wpAny_bind (wpAny_onRaise ?_))
    show wpAny (model prog w) A (Builtin.SmallTypes.nextOf (.ref i2) >>= _) _ _ ⟨u2, g, d, k1, os⟩
    refine wpAny_bind (D2.item i _ _ _ l2 (D2.over (D2.over (D2.over t2 b0 D.zf2) b1 D.sep1_2) b2 D.Tf2) fun x2 u3 k2 p2 j2 b3 => wpAny_pure ?_)
    replace b3 : Heap.SameBut i2 u2 u3 := b3
    have o3 : IsTupOf2 u3 TO x1 y0 := b3.extBut TO _ d4 o2
    refine wpAny_bind (wpAny_seqItems (s := ⟨u3, g, d, k2, os⟩) o3 rfl (wpAny_bind (updateSeq_IsTupOf2 (s := ⟨u3, g, d, k2, os⟩) o3 fun u4 o4 b4 => wpAny_bind (wpAny_letGo (wpAny_pure (wpAny_pure ?_))))))
    replace o4 : IsTupOf2 u4 TO x1 x2 := o4
    replace b4 : Heap.SameBut TO u3 u4 := b4
    refine wpAny_bind (wpAny_seqItems (s := ⟨u4, g, d, k2, os⟩) o4 rfl (wpAny_bind (wpAny_newTuple ?_)))
    have sz : u4.objs.size = H.objs.size := b4.1.trans (b3.1.trans (b2.1.trans (b1.1.trans b0.1)))
    have kp : ∀ b o, b ≠ z → b ≠ TO → b ≠ i1 → b ≠ i2 → H.get? b = some o → u4.get? b = some o := fun b o c1 c2 c3 c4 q =>
      b4.extBut b o c2 (b3.extBut b o c4 (b2.extBut b o c2 (b1.extBut b o c3 (b0.extBut b o c1 q))))
    have ez : u4.get? z = some (zO .ellipsis f TI TO) := b4.extBut z _ D.TOz.symm (b3.extBut z _ d2 (b2.extBut z _ D.TOz.symm (b1.extBut z _ d1 e0)))
    have lz : z < u4.objs.size := Heap.lt_size ez
    have r1 : St1 (i + 1) u4 := D1.over (D1.over (D1.over j1 b2 D.Tf1) b3 D.sep2_1) b4 D.Tf1
    have r2 : St2 (i + 1) u4 := D2.over j2 b4 D.Tf2
    have aI : IsTupOf2 u4 TI (.ref i1) (.ref i2) := kp TI _ D.TIz D.TITO D.TIi1 D.TIi2 a3
    show wpAny (model prog w) A (Builtin.SmallTypes.ownedTupleHandOut (.ref z) (.ref u4.objs.size) >>= _) _ _ ⟨u4.push { cls := .type "tuple", data := .seq #[x1, x2] }, g, d, k2, os⟩
    unfold Builtin.SmallTypes.ownedTupleHandOut
    have f5 : (u4.push { cls := .type "tuple", data := .seq #[x1, x2] }).get? z = some (zO .ellipsis f TI TO) := Heap.get?_push_of_some _ ez
    refine wpAny_bind (wpAny_bind (wpAny_setField_rec f5 (by simp) fun u6 f6 b6 => ?_))
    replace f6 : u6.get? z = some (zO (rawInt u4.objs.size) f TI TO) := f6
    replace b6 : Heap.SameBut z (u4.push { cls := .type "tuple", data := .seq #[x1, x2] }) u6 := b6
    refine wpAny_setField_rec f6 (by simp) fun u7 f7 b7 => wpAny_pure ⟨_, rfl, ?_⟩
    replace f7 : u7.get? z = some (zO (rawInt u4.objs.size) false TI TO) := f7
    replace b7 : Heap.SameBut z u6 u7 := b7
    have up : ∀ b o, b ≠ z → (u4.push { cls := .type "tuple", data := .seq #[x1, x2] }).get? b = some o → u7.get? b = some o := fun b o c1 q => b7.extBut b o c1 (b6.extBut b o c1 q)
    have upp : ∀ b o, b ≠ z → u4.get? b = some o → u7.get? b = some o := fun b o c1 q => up b o c1 (Heap.get?_push_of_some _ q)
    have nw : IsTupOf2 u7 u4.objs.size x1 x2 := up _ _ (Nat.ne_of_gt lz) (Heap.get?_push_size _ rfl)
    have s7 : u7.objs.size = u4.objs.size + 1 := by rw [b7.1, b6.1, Heap.size_push]
    show Q (.ref u4.objs.size) _
    rw [sz] at nw s7 ⊢
    exact hQ x1 x2 u7 k2 p1 p2 ⟨_, false, f7, .inr ⟨_, rfl⟩, upp _ _ D.TIz aI, x1, x2, upp _ _ D.TOz o4⟩ (D1.frame _ _ _ r1 fun b hb o q => upp b o (fun e => D.zf1 (e ▸ hb)) q) (D2.frame _ _ _ r2 fun b hb o q => upp b o (fun e => D.zf2 (e ▸ hb)) q)
      nw (by show H.objs.size < u7.objs.size; omega) fun b o hb q => by obtain ⟨c1, c2, c3, c4⟩ := nin hb; exact upp b o c1 (kp b o c1 c2 c3 c4 q)
  · replace b0 : Heap.SameBut z H h0 := b0
    simp only [Bool.false_eq_true, if_false]
    refine wpAny_bind ?_
    rw [← Array.forIn_toList]
    simp only [List.forIn_cons, List.forIn_nil]
    refine wpAny_bind (wpAny_bind (wpAny_holding ?_))
    show wpAny (model prog w) _ (Builtin.SmallTypes.nextOf (.ref i1) >>= _) _ _ ⟨h0, g, d, tk0, os⟩
    refine wpAny_bind (D1.item i _ _ _ l1 (D1.over t1 b0 D.zf1) fun x1 h1 k1 p1 j1 b1 => wpAny_pure (wpAny_pure ?_))
    replace b1 : Heap.SameBut i1 h0 h1 := b1
    refine wpAny_bind (wpAny_bind (wpAny_holding ?_))
    show wpAny (model prog w) _ (Builtin.SmallTypes.nextOf (.ref i2) >>= _) _ _ ⟨h1, g, d, k1, os⟩
    refine wpAny_bind (D2.item i _ _ _ l2 (D2.over (D2.over t2 b0 D.zf2) b1 D.sep1_2) fun x2 h2 k2 p2 j2 b2 => wpAny_pure (wpAny_pure (wpAny_pure ?_)))
    replace b2 : Heap.SameBut i2 h1 h2 := b2
    show wpAny (model prog w) A (newTuple [x1, x2] >>= _) _ _ ⟨h2, g, d, k2, os⟩
    refine wpAny_bind (wpAny_newTuple (wpAny_pure ⟨_, rfl, ?_⟩))
    have sz : h2.objs.size = H.objs.size := b2.1.trans (b1.1.trans b0.1)
    show Q (.ref h2.objs.size) _
    have nw : IsTupOf2 (h2.push { cls := .type "tuple", data := .seq #[x1, x2] }) h2.objs.size x1 x2 := Heap.get?_push_size _ rfl
    have s3 : (h2.push { cls := .type "tuple", data := .seq #[x1, x2] }).objs.size = h2.objs.size + 1 := Heap.size_push ..
    rw [sz] at nw s3 ⊢
    have pu : ∀ b o, h2.get? b = some o → (h2.push { cls := .type "tuple", data := .seq #[x1, x2] }).get? b = some o := fun b o q => Heap.get?_push_of_some _ q
    have S2 : Zs h2 z TI TO i1 i2 := S0.keep fun b hb o q => by
      have e' : b = z ∨ b = TI ∨ b = TO := by simpa using hb
      rcases e' with rfl | rfl | rfl
      · exact b2.extBut _ _ d2 (b1.extBut _ _ d1 q)
      · exact b2.extBut _ _ D.TIi2 (b1.extBut _ _ D.TIi1 q)
      · exact b2.extBut _ _ d4 (b1.extBut _ _ d3 q)
    exact hQ x1 x2 _ k2 p1 p2 (S2.keep fun b _ o q => pu b o q) (D1.frame _ _ _ (D1.over j1 b2 D.sep2_1) fun b _ o q => pu b o q) (D2.frame _ _ _ j2 fun b _ o q => pu b o q)
      nw (by show H.objs.size < (h2.push _).objs.size; omega) fun b o hb q => by obtain ⟨c1, _, c3, c4⟩ := nin hb; exact pu b o (b2.extBut b o c4 (b1.extBut b o c3 (b0.extBut b o c1 q)))
/-- no pair more -/
theorem zs_end {Q : Fin → Shared → Prop} (D : ZipSep2 z TI TO i1 i2 fp1 fp2) (D1 : Draws prog w A i1 fp1 n1 P1 St1) (D2 : Draws prog w A i2 fp2 n2 P2 St2) (S : Zs s.heap z TI TO i1 i2) (t1 : St1 i s.heap) (t2 : St2 i s.heap) (l1 : i ≤ n1) (l2 : i ≤ n2) (fin : i = n1 ∨ i = n2)
    (hE : ∀ h' tk e, (∀ c o, c ∉ [z, TO, i1, i2] → s.heap.get? c = some o → h'.get? c = some o) → (∃ o, h'.get? e = some o ∧ o.cls = .type "StopIteration") → E (.ref e) { s with heap := h', toks := tk }) :
    wpAny (model prog w) A (Builtin.«zip.__next__» ⟨[.ref z], []⟩) Q E s := by
  obtain ⟨H, g, d, tk0, os⟩ := s
  obtain ⟨c, f, a1, a2, a3, x0, y0, a4⟩ := id S
  have d1 := D.zi1; have d2 := D.zi2; have d3 := D.Ti1; have d4 := D.Ti2
  have nin : ∀ {b : Addr}, b ∉ [z, TO, i1, i2] → b ≠ z ∧ b ≠ TO ∧ b ≠ i1 ∧ b ≠ i2 := fun h => by simpa using h
  show wpAny (model prog w) A (field (.ref z) 2 >>= _) _ E _
  refine wpAny_bind (wpAny_field a1 rfl (x := .bool false) rfl ?_)
  show wpAny (model prog w) A (field (.ref z) 3 >>= _) _ E _
  refine wpAny_bind (wpAny_field a1 rfl (x := .ref TI) rfl (wpAny_bind (wpAny_seqItems a3 rfl ?_)))
  show wpAny (model prog w) A (Builtin.SmallTypes.ownedTupleIsFree (.ref z) >>= _) _ E _
  refine wpAny_bind (zs_free S D.TIz D.TOz ?_ fun h0 b0 S0 => ?_)
  · simp only [if_true]
    refine wpAny_bind (wpAny_rule (wpAny_bind (wpAny_field a1 rfl (x := .ref TO) rfl (wpAny_bind (wpAny_setField_rec a1 (by simp) fun u0 e0 b0 => ?_)))))
    replace e0 : u0.get? z = some (zO .ellipsis f TI TO) := e0
    replace b0 : Heap.SameBut z H u0 := b0
    refine wpAny_bind ?_
    simp only [List.zipIdx_cons, List.zipIdx_nil, List.forIn_cons, List.forIn_nil]
    refine wpAny_bind (wpAny_bind (wpAny_onRaise ?_))
    show wpAny (model prog w) A (Builtin.SmallTypes.nextOf (.ref i1) >>= _) _ _ ⟨u0, g, d, tk0, os⟩
    by_cases h1 : i < n1
    · have i2n : i = n2 := by omega
      refine wpAny_bind (D1.item i _ _ _ h1 (D1.over t1 b0 D.zf1) fun x1 u1 k1 p1 j1 b1 => wpAny_pure ?_)
      replace b1 : Heap.SameBut i1 u0 u1 := b1
      have o1 : IsTupOf2 u1 TO x0 y0 := b1.extBut TO _ d3 (b0.extBut TO _ D.TOz a4)
      refine wpAny_bind (wpAny_seqItems (s := ⟨u1, g, d, k1, os⟩) o1 rfl (wpAny_bind (updateSeq_IsTupOf2 (s := ⟨u1, g, d, k1, os⟩) o1 fun u2 o2 b2 => wpAny_bind (wpAny_letGo (wpAny_pure ?_)))))
      replace o2 : IsTupOf2 u2 TO x1 y0 := o2
      replace b2 : Heap.SameBut TO u1 u2 := b2
      have e2 : u2.get? z = some (zO .ellipsis f TI TO) := b2.extBut z _ D.TOz.symm (b1.extBut z _ d1 e0)
      refine wpAny_bind (wpAny_bind (wpAny_onRaise ?_))
      show wpAny (model prog w) A (Builtin.SmallTypes.nextOf (.ref i2) >>= _) _ _ ⟨u2, g, d, k1, os⟩
      refine wpAny_bind (D2.done ⟨u2, g, d, k1, os⟩ _ _ (by rw [← i2n]; exact D2.over (D2.over (D2.over t2 b0 D.zf2) b1 D.sep1_2) b2 D.Tf2) fun q x e3 hx => ?_)
      replace e3 : Heap.ExtBut i2 u2 q := e3
      obtain ⟨o, ho, hc⟩ := hx
      have ez : q.get? z = some (zO .ellipsis f TI TO) := e3 z _ d2 e2
      refine wpAny_setField_rec (s := ⟨q, g, d, k1, os⟩) ez (by simp) fun h' _ b4 => ?_
      replace b4 : Heap.SameBut z q h' := b4
      have ne : x ≠ z := fun y => by rw [y, ez] at ho; cases Option.some.inj ho; exact absurd (show Value.type "zip" = .type "StopIteration" from hc) (by decide)
      exact hE h' k1 x (fun b o hb y => by obtain ⟨c1, c2, c3, c4⟩ := nin hb; exact b4.extBut b o c1 (e3 b o c4 (b2.extBut b o c2 (b1.extBut b o c3 (b0.extBut b o c1 y))))) ⟨o, b4.extBut x o ne ho, hc⟩
    · have i1n : i = n1 := by omega
      refine wpAny_bind (D1.done ⟨u0, g, d, tk0, os⟩ _ _ (by rw [← i1n]; exact D1.over t1 b0 D.zf1) fun q x e3 hx => ?_)
      replace e3 : Heap.ExtBut i1 u0 q := e3
      obtain ⟨o, ho, hc⟩ := hx
      have ez : q.get? z = some (zO .ellipsis f TI TO) := e3 z _ d1 e0
      refine wpAny_setField_rec (s := ⟨q, g, d, tk0, os⟩) ez (by simp) fun h' _ b4 => ?_
      replace b4 : Heap.SameBut z q h' := b4
      have ne : x ≠ z := fun y => by rw [y, ez] at ho; cases Option.some.inj ho; exact absurd (show Value.type "zip" = .type "StopIteration" from hc) (by decide)
      exact hE h' tk0 x (fun b o hb y => by obtain ⟨c1, c2, c3, c4⟩ := nin hb; exact b4.extBut b o c1 (e3 b o c3 (b0.extBut b o c1 y))) ⟨o, b4.extBut x o ne ho, hc⟩
  · replace b0 : Heap.SameBut z H h0 := b0
    simp only [Bool.false_eq_true, if_false]
    refine wpAny_bind ?_
    rw [← Array.forIn_toList]
    simp only [List.forIn_cons, List.forIn_nil]
    refine wpAny_bind (wpAny_bind (wpAny_holding ?_))
    show wpAny (model prog w) _ (Builtin.SmallTypes.nextOf (.ref i1) >>= _) _ _ ⟨h0, g, d, tk0, os⟩
    by_cases h1 : i < n1
    · have i2n : i = n2 := by omega
      refine wpAny_bind (D1.item i _ _ _ h1 (D1.over t1 b0 D.zf1) fun x1 u1 k1 p1 j1 b1 => wpAny_pure (wpAny_pure ?_))
      replace b1 : Heap.SameBut i1 h0 u1 := b1
      refine wpAny_bind (wpAny_bind (wpAny_holding ?_))
      show wpAny (model prog w) _ (Builtin.SmallTypes.nextOf (.ref i2) >>= _) _ _ ⟨u1, g, d, k1, os⟩
      refine wpAny_bind (D2.done ⟨u1, g, d, k1, os⟩ _ _ (by rw [← i2n]; exact D2.over (D2.over t2 b0 D.zf2) b1 D.sep1_2) fun q x e3 hx => ?_)
      replace e3 : Heap.ExtBut i2 u1 q := e3
      exact hE q k1 x (fun b o hb y => by obtain ⟨c1, c2, c3, c4⟩ := nin hb; exact e3 b o c4 (b1.extBut b o c3 (b0.extBut b o c1 y))) hx
    · have i1n : i = n1 := by omega
      refine wpAny_bind (D1.done ⟨h0, g, d, tk0, os⟩ _ _ (by rw [← i1n]; exact D1.over t1 b0 D.zf1) fun q x e3 hx => ?_)
      replace e3 : Heap.ExtBut i1 h0 q := e3
      exact hE q tk0 x (fun b o hb y => by obtain ⟨c1, c2, c3, c4⟩ := nin hb; exact e3 b o c3 (b0.extBut b o c1 y)) hx
/-- the iterator itself, as enumerate asks it -/
theorem zs_nextOf {Q : Value → Shared → Prop} {o : Obj} (hz : s.heap.get? z = some o) (hc : o.cls = .type "zip") (h : wpAny (model prog w) A.in1 (Builtin.«zip.__next__» ⟨[.ref z], []⟩) (fun fin s' => ∃ v, fin = .done (.ret v) ∧ Q v s') E s) :
    wpAny (model prog w) A (Builtin.SmallTypes.nextOf (.ref z)) Q E s := by
  have hT : s.TypeIs (.ref z) "zip" := ⟨o, hz, hc⟩
  unfold Builtin.SmallTypes.nextOf
  exact wpAny_bind (wpAny_callSpecial?_slot (name := Str.ofString "__next__") hT F.slot_zip_next (wpAny_call_entry F.slot_zip_next hT F.entry_zip_next (wpAny_mono h (fun fin s' q => by
    obtain ⟨v, e, q⟩ := q
    exact ⟨v, e, wpAny_pure q⟩) fun _ _ q => q) (F.args_zip_next_1 _)))
theorem ez_item {e : Addr} {c : Int} {old : Value} {Q : Option Value → Shared → Prop} (D : ZipSep2 z TI TO i1 i2 fp1 fp2) (D1 : Draws prog w A.in1.in1 i1 fp1 n1 P1 St1) (D2 : Draws prog w A.in1.in1 i2 fp2 n2 P2 St2) (S : Zs s.heap z TI TO i1 i2) (t1 : St1 i s.heap) (t2 : St2 i s.heap) (l1 : i < n1) (l2 : i < n2)
    (he : IsEnum s.heap e z c old) (ne : e ∉ [z, TI, TO, i1, i2])
    (hQ : ∀ x1 x2 h1 k1 h2 k2 U t, P1 i x1 → P2 i x2 → Zs h1 z TI TO i1 i2 → St1 (i + 1) h1 → St2 (i + 1) h1 → IsTupOf2 h1 s.heap.objs.size x1 x2 → s.heap.objs.size < h1.objs.size → (∀ b o, b ∉ [z, TO, i1, i2] → s.heap.get? b = some o → h1.get? b = some o) →
      h1.objs.size ≤ U → (∃ x, IsEnumOut h2 e z (c + 1) x U) → h2.get? U = some { cls := .type "tuple", data := .seq #[.int c t, .ref s.heap.objs.size] } → (∀ b o, b ≠ e → h1.get? b = some o → h2.get? b = some o) → k1 ≤ k2 → Q (some (.ref U)) { s with heap := h2, toks := k2 }) :
    wpAny (model prog w) A (pyNext (.ref e)) Q E s := by
  obtain ⟨H, g, d, tk0, os⟩ := s
  have hT : Shared.TypeIs ⟨H, g, d, tk0, os⟩ (.ref e) "enumerate" := ⟨_, he, rfl⟩
  obtain ⟨c0, f0, a1, _⟩ := id S
  have nz : e ≠ z := fun q => ne (by simp [q])
  unfold pyNext
  refine wpAny_bind (wpAny_attempt (wpAny_callSpecial?_slot (name := Str.ofString "__next__") hT F.slot_enumerate_next (wpAny_call_entry F.slot_enumerate_next hT F.entry_enumerate_next ?_ (F.args_enumerate_next_1 _))))
  show wpAny (model prog w) A.in1 (field (.ref e) 2 >>= _) _ _ _
  refine wpAny_bind (wpAny_field he rfl (x := .ref z) rfl (wpAny_bind (zs_nextOf a1 rfl (zs_item D D1 D2 S t1 t2 l1 l2 fun x1 x2 h1 k1 p1 p2 S1 j1 j2 nw lt kp => ?_))))
  have e1 : IsEnum h1 e z c old := kp e _ (fun q => ne (by
    have q' : e = z ∨ e = TO ∨ e = i1 ∨ e = i2 := by simpa using q
    rcases q' with q | q | q | q <;> simp [q])) he
  show wpAny (model prog w) A.in1 (field (.ref e) 3 >>= _) _ _ ⟨h1, g, d, k1, os⟩
  refine wpAny_bind (wpAny_field e1 rfl (x := rawInt c) rfl ?_)
  show wpAny (model prog w) A.in1 (field (.ref e) 4 >>= _) _ _ ⟨h1, g, d, k1, os⟩
  refine wpAny_bind (wpAny_field e1 rfl (x := .none) rfl ?_)
  show wpAny (model prog w) A.in1 (mkInt c >>= _) _ _ ⟨h1, g, d, k1, os⟩
  refine wpAny_bind (wpAny_mkInt ?_)
  show wpAny (model prog w) A.in1 (setField (.ref e) 3 (rawInt (c + 1)) >>= _) _ _ ⟨h1, g, d, k1 + 1, os⟩
  refine wpAny_bind (wpAny_setField_rec e1 (by simp) fun u2 e2 b2 => ?_)
  replace e2 : IsEnum u2 e z (c + 1) old := e2
  replace b2 : Heap.SameBut e h1 u2 := b2
  show wpAny (model prog w) A.in1 (setField (.ref e) 4 .none >>= _) _ _ ⟨u2, g, d, k1 + 1, os⟩
  refine wpAny_bind (wpAny_setField_rec e2 (by simp) fun u3 e3 b3 => ?_)
  replace e3 : IsEnum u3 e z (c + 1) old := e3
  replace b3 : Heap.SameBut e u2 u3 := b3
  show wpAny (model prog w) A.in1 (newTuple [.int c k1, .ref H.objs.size] >>= _) _ _ ⟨u3, g, d, k1 + 1, os⟩
  refine wpAny_bind (wpAny_newTuple ?_)
  have e4 : IsEnum (u3.push { cls := .type "tuple", data := .seq #[.int c k1, .ref H.objs.size] }) e z (c + 1) old := Heap.get?_push_of_some _ e3
  have n4 : (u3.push { cls := .type "tuple", data := .seq #[.int c k1, .ref H.objs.size] }).get? u3.objs.size = some { cls := .type "tuple", data := .seq #[.int c k1, .ref H.objs.size] } := Heap.get?_push_size _ rfl
  have le : e < u3.objs.size := Heap.lt_size e3
  have z3 : u3.objs.size = h1.objs.size := b3.1.trans b2.1
  have kp4 : ∀ b o, b ≠ e → h1.get? b = some o → (u3.push { cls := .type "tuple", data := .seq #[.int c k1, .ref H.objs.size] }).get? b = some o := fun b o q y => Heap.get?_push_of_some _ (b3.extBut b o q (b2.extBut b o q y))
  show wpAny (model prog w) A.in1 (Builtin.SmallTypes.ownedTupleIsFree (.ref e) >>= _) _ _ ⟨u3.push { cls := .type "tuple", data := .seq #[.int c k1, .ref H.objs.size] }, g, d, k1 + 1, os⟩
  refine wpAny_bind ?_
  unfold Builtin.SmallTypes.ownedTupleIsFree
  refine wpAny_bind (wpAny_field e4 rfl (x := .none) rfl (wpAny_pure ?_))
  simp only [if_true]
  refine wpAny_bind (wpAny_rule (wpAny_bind (wpAny_field e4 rfl (x := old) rfl (wpAny_bind (wpAny_setField_rec e4 (by simp) fun u5 e5 b5 => ?_)))))
  replace e5 : IsEnum u5 e z (c + 1) (.ref H.objs.size) := e5
  replace b5 : Heap.SameBut e (u3.push { cls := .type "tuple", data := .seq #[.int c k1, .ref H.objs.size] }) u5 := b5
  show wpAny (model prog w) A.in1 (Builtin.SmallTypes.ownedTupleHandOut (.ref e) (.ref u3.objs.size) >>= _) _ _ ⟨u5, g, d, k1 + 1, os⟩
  refine wpAny_bind ?_
  unfold Builtin.SmallTypes.ownedTupleHandOut
  refine wpAny_bind (wpAny_setField_rec e5 (by simp) fun u6 e6 b6 => ?_)
  replace e6 : IsEnumOut u6 e z (c + 1) (.ref H.objs.size) u3.objs.size := e6
  replace b6 : Heap.SameBut e u5 u6 := b6
  refine wpAny_setField_rec e6 (by simp) fun u7 e7 b7 => wpAny_bind (wpAny_letGo (wpAny_pure ⟨_, rfl, wpAny_pure ?_⟩))
  replace e7 : IsEnumOut u7 e z (c + 1) (.ref H.objs.size) u3.objs.size := e7
  replace b7 : Heap.SameBut e u6 u7 := b7
  have up : ∀ b o, b ≠ e → (u3.push { cls := .type "tuple", data := .seq #[.int c k1, .ref H.objs.size] }).get? b = some o → u7.get? b = some o := fun b o q y => b7.extBut b o q (b6.extBut b o q (b5.extBut b o q y))
  exact hQ x1 x2 h1 k1 u7 (k1 + 1) u3.objs.size k1 p1 p2 S1 j1 j2 nw lt kp (Nat.le_of_eq z3.symm) ⟨_, e7⟩ (up _ _ (Nat.ne_of_gt le) n4) (fun b o q y => up b o q (kp4 b o q y)) (Nat.le_succ _)
theorem ez_end {e : Addr} {c : Int} {old : Value} {Q : Option Value → Shared → Prop} (D : ZipSep2 z TI TO i1 i2 fp1 fp2) (D1 : Draws prog w A.in1.in1 i1 fp1 n1 P1 St1) (D2 : Draws prog w A.in1.in1 i2 fp2 n2 P2 St2) (S : Zs s.heap z TI TO i1 i2) (t1 : St1 i s.heap) (t2 : St2 i s.heap) (l1 : i ≤ n1) (l2 : i ≤ n2) (fin : i = n1 ∨ i = n2)
    (he : IsEnum s.heap e z c old) (hQ : ∀ h' tk, (∀ b o, b ∉ [z, TO, i1, i2] → s.heap.get? b = some o → h'.get? b = some o) → Q none { s with heap := h', toks := tk }) :
    wpAny (model prog w) A (pyNext (.ref e)) Q E s := by
  have hT : s.TypeIs (.ref e) "enumerate" := ⟨_, he, rfl⟩
  obtain ⟨c0, f0, a1, _⟩ := id S
  unfold pyNext
  refine wpAny_bind (wpAny_attempt (wpAny_callSpecial?_slot (name := Str.ofString "__next__") hT F.slot_enumerate_next (wpAny_call_entry F.slot_enumerate_next hT F.entry_enumerate_next ?_ (F.args_enumerate_next_1 _))))
  show wpAny (model prog w) A.in1 (field (.ref e) 2 >>= _) _ _ _
  refine wpAny_bind (wpAny_field he rfl (x := .ref z) rfl (wpAny_bind (zs_nextOf a1 rfl (zs_end D D1 D2 S t1 t2 l1 l2 fin fun h' tk x kp hx => ?_))))
  obtain ⟨o, ho, hc⟩ := hx
  exact wpAny_bind (wpAny_isInstance (T := "StopIteration") (b := true) ⟨o, ho, hc⟩ isSubtype_stop (wpAny_pure (hQ h' tk kp)))
end
/-- enumerate(zip): the made thing -/
theorem meets_enum_z (z TI TO : Addr) (f0 : Value) :
    Meets (Builtin.«enumerate.__new__» ⟨[.type "enumerate", .ref z], []⟩) (fun _ R s => IsZip s.heap z TI TO f0 ∧
      R (.ok (.ret (.ref s.heap.objs.size))) { s with heap := s.heap.push { cls := .type "enumerate", data := .fields #[.none, .bool false, .ref z, rawInt 0, .none, .none] } }) :=
  .of_wp fun prog w A R s h => by
    obtain ⟨H, g, d, tk, os⟩ := s
    obtain ⟨hz, h⟩ := h
    have hsub := sub_enumerate
    have q1 : ∀ {A' : Around} {E : Value → Shared → Prop} {Q : Value → Shared → Prop}, Q (.ref z) ⟨H, g, d, tk, os⟩ → wpAny (model prog w) A' (pyIter (.ref z)) Q E ⟨H, g, d, tk, os⟩ := fun q => wpAny_pyIter_zip hz q
    wp_walk using wpAny_loadPart' hz, q1
    refine wpAny_stack_any fun st => wpAny_pure ?_
    split
    · rename_i c _ _ _ _ _
      cases (c == Value.type "enumerate") <;> (wp_walk using wpAny_loadPart' hz, q1; exact ⟨_, rfl, h⟩)
    · wp_walk using wpAny_loadPart' hz, q1
      exact ⟨_, rfl, h⟩
/-! ### the turns -/
def ItezS (K : PySem.W.Frag) (S1 S2 : Src) : It :=
  ⟨fun i H => ∃ (xs ys : List V) (x y : V), S1.has K H xs ∧ S2.has K H ys ∧ xs[i]? = some x ∧ ys[i]? = some y,
    fun i H v H' => ∃ T U x y, v = .ref U ∧ H T = none ∧ H U = none ∧ T ≠ U ∧ H' = upd (upd H T (.tup [x, y])) U (.tup [.int (i : Nat), .ref T]) ∧ (∀ xs, S1.has K H xs → xs[i]? = some x) ∧ ∀ ys, S2.has K H ys → ys[i]? = some y,
    fun i H => ∃ xs ys : List V, S1.has K H xs ∧ S2.has K H ys ∧ i = min xs.length ys.length⟩
theorem Src.draws2 {X : Cx} {pins : List (Addr × Obj)} {σ : L2.St} {H : Hp} {s : Shared} {S : Src} (I : Inv X pins σ H s) {xs : List V} (h : S.has X.K H xs) (hh : X.A.handled = none) {it : Addr} (k : Tok) (ne : ∀ a ∈ S.fp, a ≠ it) :
    ∃ (Pv : Nat → Value → Prop) (St : Nat → Heap → Prop), Draws X.prog X.w X.A.in1.in1 it (it :: S.fp) xs.length Pv St ∧ (∀ i v, Pv i v → ∃ x, xs[i]? = some x ∧ RelV x v) ∧ (∀ i, S.st it k i s.heap → St i s.heap) ∧ ∀ i h, St i h → S.st it k i h := by
  cases S with
  | l a =>
    obtain ⟨its, rv, p, _⟩ := I.list h
    exact ⟨_, _, draws_n rv.length.symm (Draws.list (A := X.A.in1.in1) hh it a (ne a (by simp [Src.fp])) its.toArray), fun i v e => vals_get' rv (by simpa using e), fun i e => ⟨e, p.isList⟩, fun i h e => e.1⟩
  | t a =>
    obtain ⟨its, rv, p, _⟩ := I.tuple h
    exact ⟨_, _, draws_n rv.length.symm (Draws.tuple (A := X.A.in1.in1) hh it a (ne a (by simp [Src.fp])) its.toArray), fun i v e => vals_get' rv (by simpa using e), fun i e => ⟨e, show s.heap.IsTuple a its.toArray from p⟩, fun i h e => e.1⟩
  | s z =>
    cases (show xs = _ from h)
    have hl : (z.cps.toList.map fun c => V.str ⟨#[c]⟩).length = z.cps.size := by simp
    refine ⟨_, _, draws_n hl.symm (Draws.text (A := X.A.in1.in1) hh it z k), fun i v e => ?_, fun i e => e, fun i h e => e⟩
    obtain ⟨c, u, e1, rfl⟩ := e
    exact ⟨.str ⟨#[c]⟩, by rw [List.getElem?_map, Array.getElem?_toList, e1]; rfl, ⟨u, rfl⟩⟩
theorem turn_ez {P : Program} {w : World} {K : PySem.W.Frag} {elts : List Expr} {kk : Nat} {tpos : Pos} {S1 S2 : Src} {k1 k2 : Tok} {e z TI TO i1 i2 : Addr} (D : ZipSep2 z TI TO i1 i2 (i1 :: S1.fp) (i2 :: S2.fp)) (n1 : ∀ a ∈ S1.fp, a ≠ i1) (n2 : ∀ a ∈ S2.fp, a ≠ i2) (ne : e ∉ [z, TI, TO, i1, i2]) (ne1 : e ∉ S1.fp) (ne2 : e ∉ S2.fp) :
    Turn P w K (.Tuple elts kk tpos) (ItezS K S1 S2) [e, z, TI, TO, i1, i2] e (fun i h => (∃ old, IsEnum h e z (i : Int) old) ∧ Zs h z TI TO i1 i2 ∧ S1.st i1 k1 i h ∧ S2.st i2 k2 i h) where
  mem := by simp
  obj := fun i h st c hc => by
    obtain ⟨⟨old, he⟩, ⟨_, _, hz, _, hTI, x, y, hTO⟩, s1, s2⟩ := st
    have e' : c = e ∨ c = z ∨ c = TI ∨ c = TO ∨ c = i1 ∨ c = i2 := by simpa using hc
    rcases e' with q | q | q | q | q | q
    · rw [q]; exact ⟨_, he, fun v y => nomatch y⟩
    · rw [q]; exact ⟨_, hz, fun v y => nomatch y⟩
    · rw [q]; exact ⟨_, hTI, fun v y => nomatch y⟩
    · rw [q]; exact ⟨_, hTO, fun v y => nomatch y⟩
    · rw [q]; exact Src.live s1
    · rw [q]; exact Src.live s2
  keep := fun i h h' st k => by
    obtain ⟨⟨old, he⟩, hz, h1, h2⟩ := st
    exact ⟨⟨old, k e (by simp) _ he⟩, hz.keep fun b hb o q => k b (by
      have e' : b = z ∨ b = TI ∨ b = TO := by simpa using hb
      rcases e' with q | q | q <;> simp [q]) o q, Src.keep h1 fun o q => k i1 (by simp) o q, Src.keep h2 fun o q => k i2 (by simp) o q⟩
  item := by
    intro X hP hw hK hc i pins s σ H E I hf st hg
    subst hP hw hK
    obtain ⟨⟨old, he⟩, S, h1, h2⟩ := st
    obtain ⟨xs, ys, x, y, hqx, hqy, hx, hy⟩ := hg
    obtain ⟨P1, St1, D1, p1, a1, b1⟩ := Src.draws2 I hqx (I.ok.hd hc) k1 n1
    obtain ⟨P2, St2, D2, p2, a2, b2⟩ := Src.draws2 I hqy (I.ok.hd hc) k2 n2
    have l1 := (List.getElem?_eq_some_iff.mp hx).1
    have l2 := (List.getElem?_eq_some_iff.mp hy).1
    have sub : ∀ c, c ∈ [z, TO, i1, i2] → c ∈ [e, z, TI, TO, i1, i2] := fun c hc => by
      have e' : c = z ∨ c = TO ∨ c = i1 ∨ c = i2 := by simpa using hc
      rcases e' with q | q | q | q <;> simp [q]
    have lte : e < s.heap.objs.size := Heap.lt_size he
    have old_lt : ∀ c ∈ [e, z, TI, TO, i1, i2], c < s.heap.objs.size := fun c hcm => by
      obtain ⟨_, _, hz, _, hTI, _, _, hTO⟩ := id S
      have e' : c = e ∨ c = z ∨ c = TI ∨ c = TO ∨ c = i1 ∨ c = i2 := by simpa using hcm
      rcases e' with q | q | q | q | q | q
      · exact q ▸ lte
      · exact q ▸ Heap.lt_size hz
      · exact q ▸ Heap.lt_size hTI
      · exact q ▸ Heap.lt_size hTO
      · obtain ⟨_, w, _⟩ := Src.live h1; exact q ▸ Heap.lt_size w
      · obtain ⟨_, w, _⟩ := Src.live h2; exact q ▸ Heap.lt_size w
    refine ez_item D D1 D2 S (a1 i h1) (a2 i h2) l1 l2 he ne fun x1 x2 u1 m1 u2 m2 U t q1 q2 Z1 j1 j2 nw lt kp hU ho hnU kp2 _ => ?_
    obtain ⟨xo, ho⟩ := ho
    refine ⟨_, rfl, wpAny_letOwnedTupleGo_enum ho fun u3 e3 b3 => ?_⟩
    replace b3 : Heap.SameBut e u2 u3 := b3
    have kp3 : ∀ b o, b ≠ e → u1.get? b = some o → u3.get? b = some o := fun b o q y => b3.extBut b o q (kp2 b o q y)
    have nTe : s.heap.objs.size ≠ e := Nat.ne_of_gt lte
    have nUe : U ≠ e := Nat.ne_of_gt (Nat.lt_of_lt_of_le (Nat.lt_trans lte lt) hU)
    have nTU : s.heap.objs.size ≠ U := Nat.ne_of_lt (Nat.lt_of_lt_of_le lt hU)
    obtain ⟨v1, w1, r1⟩ := p1 _ _ q1
    obtain ⟨v2, w2, r2⟩ := p2 _ _ q2
    cases hx.symm.trans w1
    cases hy.symm.trans w2
    have new1 : ObjOk X.prog X.w (upd H s.heap.objs.size (.tup [x, y])) u1 s.heap.objs.size (.tup [x, y]) := ⟨by show 2 ≤ sizeLine; decide, [x1, x2], .cons r1 (.cons r2 .nil), ⟨_, nw, rfl, _, rfl⟩⟩
    have I1 : Inv X pins σ (upd H s.heap.objs.size (.tup [x, y])) { s with heap := u1, toks := m1 } := I.turnedNew (t' := m1) (ch := [e, z, TI, TO, i1, i2]) (fun c o hb q => kp c o (fun m => hb (sub c m)) q) hf (Nat.le_refl _) new1
    have hf1 : ∀ b ∈ [e, z, TI, TO, i1, i2], FpOk X pins (upd H s.heap.objs.size (.tup [x, y])) b := fun b hb => ⟨by rw [upd_ne (Nat.ne_of_lt (old_lt b hb))]; exact (hf b hb).1, (hf b hb).2⟩
    have new2 : ObjOk X.prog X.w (upd (upd H s.heap.objs.size (.tup [x, y])) U (.tup [.int (i : Nat), .ref s.heap.objs.size])) u3 U (.tup [.int (i : Nat), .ref s.heap.objs.size]) :=
      ⟨by show 2 ≤ sizeLine; decide, [.int i t, .ref s.heap.objs.size], .cons ⟨_, rfl⟩ (.cons rfl .nil), ⟨_, b3.extBut U _ nUe hnU, rfl, _, rfl⟩⟩
    have I2 : Inv X pins σ (upd (upd H s.heap.objs.size (.tup [x, y])) U (.tup [.int (i : Nat), .ref s.heap.objs.size])) { s with heap := u3, toks := m2 } :=
      I1.turnedNew (t' := m2) (ch := [e, z, TI, TO, i1, i2]) (fun c o hb q => kp3 c o (fun m => hb (by simp [m])) q) hf1 hU new2
    have nfs : ∀ b ∈ [z, TI, TO, i1, i2], b ≠ e := fun b hb q => ne (q ▸ hb)
    refine ⟨.ref U, _, I2, rfl, ⟨s.heap.objs.size, U, x, y, rfl, I.hok.fresh (Nat.le_refl _), I.hok.fresh (Nat.le_trans (Nat.le_of_lt lt) hU), nTU, rfl, fun l hl => by rw [Src.inj I hl hqx]; exact hx, fun l hl => by rw [Src.inj I hl hqy]; exact hy⟩,
      ⟨⟨xo, ?_⟩, Z1.keep fun b hb o q => kp3 b o (nfs b (by
        have e' : b = z ∨ b = TI ∨ b = TO := by simpa using hb
        rcases e' with q | q | q <;> simp [q])) q, Src.keep (b1 _ _ j1) fun o q => kp3 i1 o (nfs i1 (by simp)) q, Src.keep (b2 _ _ j2) fun o q => kp3 i2 o (nfs i2 (by simp)) q⟩, fun c hcm => ?_⟩
    · have e1 : ((i + 1 : Nat) : Int) = (i : Int) + 1 := by omega
      rw [e1]; exact e3
    · rw [upd_ne (Nat.ne_of_lt (Nat.lt_of_lt_of_le (Nat.lt_trans (old_lt c hcm) lt) hU))]
      exact (hf1 c hcm).1
  done := by
    intro X hP hw hK hc i pins s σ H E I hf st hg
    subst hP hw hK
    obtain ⟨⟨old, he⟩, S, h1, h2⟩ := st
    obtain ⟨xs, ys, hqx, hqy, rfl⟩ := hg
    obtain ⟨P1, St1, D1, p1, a1, b1⟩ := Src.draws2 I hqx (I.ok.hd hc) k1 n1
    obtain ⟨P2, St2, D2, p2, a2, b2⟩ := Src.draws2 I hqy (I.ok.hd hc) k2 n2
    refine ez_end D D1 D2 S (a1 _ h1) (a2 _ h2) (Nat.min_le_left ..) (Nat.min_le_right ..) (by omega) he fun h' tk hk => ⟨rfl, ?_⟩
    refine I.turnedL (t' := tk) (ch := [e, z, TI, TO, i1, i2]) (fun c o hb q => hk c o (fun m => hb ?_) q) hf
    have e' : c = z ∨ c = TO ∨ c = i1 ∨ c = i2 := by simpa using m
    rcases e' with q | q | q | q <;> simp [q]
  self := fun A i s Q E st h => by
    obtain ⟨⟨old, he⟩, _⟩ := st
    exact wpAny_pyIter_enum he h
def iEzS (K : PySem.W.Frag) (ta : TA) : TI := fun σ H R => ta σ H fun vs H1 => ∃ S1 S2 xs ys, vs = [Src.v S1, Src.v S2] ∧ S1.has K H1 xs ∧ S2.has K H1 ys ∧ R (ItezS K S1 S2) H1
theorem call_enum_z {prog : Program} {w : World} {A : Around} {E : Value → Shared → Prop} {s : Shared} {z TI TO : Addr} {f0 : Value} {Q : Value → Shared → Prop} (hz : IsZip s.heap z TI TO f0)
    (h : ∀ h', IsEnum h' s.heap.objs.size z 0 .none → (∀ b o, s.heap.get? b = some o → h'.get? b = some o) → Q (.ref s.heap.objs.size) { s with heap := h' }) : wpAny (model prog w) A (call (.type "enumerate") [.ref z]) Q E s := by
  refine callType_new F.called_enumerate (by decide) (F.typeCall_enumerate_1 _) (F.newCall_enumerate_1 _) (fun obj => F.args_object_init_2 obj _) F.entry_enumerate_new (meets_enum_z z TI TO f0) ⟨hz, ?_⟩
  have he : IsEnum (s.heap.push { cls := .type "enumerate", data := .fields #[.none, .bool false, .ref z, rawInt 0, .none, .none] }) s.heap.objs.size z 0 .none := Heap.get?_push_size _ rfl
  show _ ∧ _
  exact ⟨⟨_, he, rfl⟩, h _ he fun b o q => Heap.get?_push_of_some _ q⟩
theorem pi_ez {X : Cx} {a b : Expr} {ta : TA} {p pos p2 pos2 tpos : Pos} {elts : List Expr} {kk : Nat} (hgE : Gl X "enumerate") (hmE : X.mg "enumerate" = none) (hg : Gl X "zip") (hm : X.mg "zip" = none) (ha : PA X [a, b] ta)
    (hs : starEach [a, b] X.env = (false, eval a X.env) :: starEach [b] X.env := by rfl) (hpl : (backTo pos (starEach [b] X.env)).any (·.1) = false := by rfl)
    (hsE : starEach [.Call (.Name "zip" p) [a, b] [] pos] X.env = (false, eval (.Call (.Name "zip" p) [a, b] [] pos) X.env) :: starEach [] X.env := by rfl) :
    PI X (.Tuple elts kk tpos) (.Call (.Name "enumerate" p2) [.Call (.Name "zip" p) [a, b] [] pos] [] pos2) (iEzS X.K ta) := by
  refine ⟨fun pins s σ H R I h => ?_⟩
  refine Call_ (ld_blt I hgE hmE boot_enumerate (PyProof.Rows.callWith_type1 (PyProof.Rows.args_cons (Call_ (ld_blt I hg hm PyProof.Rows.boot_zip (PyProof.Rows.callWith_type1 (thn (ha.run pos pins s σ H _ I h) fun us s1 ⟨vs, H1, I1, r1, q1⟩ => ?_) hs hpl))) ) hsE rfl))
  obtain ⟨S1, S2, xs, ys, ex, q1, q2, q3⟩ := q1
  subst ex
  cases r1 with
  | cons r rr =>
    cases rr with
    | cons r' rr =>
      cases rr
      obtain ⟨o1, B1, k1, b1, g1, t1, f1⟩ := Src.begins I1 q1 r
      obtain ⟨o2, B2, k2, b2, g2, t2, f2⟩ := Src.begins I1 q2 r'
      refine zip_begins2 b1 b2 g1 g2 fun h' hz hTI hTO h1 h2 hsz hk => PyProof.Rows.args_nil (call_enum_z (s := { s1 with heap := h' }) hz fun h3 he hk3 => wpAny_pyIter_enum he ?_)
      replace hk3 : ∀ b o, h'.get? b = some o → h3.get? b = some o := hk3
      replace he : IsEnum h3 h'.objs.size (s1.heap.objs.size + 4) 0 .none := he
      rw [hsz] at he
      have I2 : Inv X pins σ H1 { s1 with heap := h3 } := I1.kept (t' := s1.toks) fun c o q => hk3 c o (hk c o q)
      have new6 : ∀ c ∈ [s1.heap.objs.size + 5, s1.heap.objs.size + 4, s1.heap.objs.size + 2, s1.heap.objs.size + 3, s1.heap.objs.size, s1.heap.objs.size + 1], FpOk X pins H1 c := fun c hcm => by
        have hle : s1.heap.objs.size ≤ c := by
          have e' : c = s1.heap.objs.size + 5 ∨ c = s1.heap.objs.size + 4 ∨ c = s1.heap.objs.size + 2 ∨ c = s1.heap.objs.size + 3 ∨ c = s1.heap.objs.size ∨ c = s1.heap.objs.size + 1 := by simpa using hcm
          clear hcm
          rcases e' with w | w | w | w | w | w <;> (have w' : (c : Nat) = _ := w; clear w; show (s1.heap.objs.size : Nat) ≤ c; omega)
        exact I1.fpOk hle (I1.hok.fresh hle)
      have lt5 : ∀ {c : Addr}, c < s1.heap.objs.size → c ≠ s1.heap.objs.size + 5 := fun q y => by
        have q' : (_ : Nat) < s1.heap.objs.size := q
        rw [y] at q'; omega
      have m5 : s1.heap.objs.size + 5 ∉ [s1.heap.objs.size + 4, s1.heap.objs.size + 2, s1.heap.objs.size + 3, s1.heap.objs.size, s1.heap.objs.size + 1] := by simp
      show PIE X pins σ _ R (.ref h'.objs.size) { s1 with heap := h3 }
      rw [hsz]
      exact ⟨s1.heap.objs.size + 5, [s1.heap.objs.size + 5, s1.heap.objs.size + 4, s1.heap.objs.size + 2, s1.heap.objs.size + 3, s1.heap.objs.size, s1.heap.objs.size + 1], _, _, H1, rfl, I2,
        turn_ez (k1 := k1) (k2 := k2) (zip_sep2 f1 f2) (fun a ha => Nat.ne_of_lt (f1 a ha)) (fun a ha => Nat.ne_of_lt (Nat.lt_of_lt_of_le (f2 a ha) (Nat.le_add_right _ _))) m5 (fun m => lt5 (f1 _ m) rfl) (fun m => lt5 (f2 _ m) rfl),
        ⟨⟨_, he⟩, ⟨.none, false, hk3 _ _ hz, .inl rfl, hk3 _ _ hTI, _, _, hk3 _ _ hTO⟩, t1 _ _ (hk3 _ _ h1), t2 _ _ (hk3 _ _ h2)⟩, new6, q3⟩
/-! ### as a source -/
def numb (i : Nat) : List D → List D
  | [] => []
  | d :: ds => .tuple [.int (i : Nat), d] :: numb (i + 1) ds
theorem numb_get : ∀ {ds : List D} {k i : Nat} {d : D}, (numb k ds)[i]? = some d → ∃ x, ds[i]? = some x ∧ d = .tuple [.int ((k + i : Nat) : Int), x]
  | [], _, _, _, h => by simp [numb] at h
  | x :: xs, k, 0, d, h => by simp [numb] at h; exact ⟨x, rfl, h.symm⟩
  | x :: xs, k, i + 1, d, h => by
    obtain ⟨y, h1, h2⟩ := numb_get (ds := xs) (k := k + 1) (i := i) (by simpa [numb] using h)
    exact ⟨y, by simpa using h1, by rw [h2]; congr 3; omega⟩
theorem numb_len : ∀ {ds : List D} {k : Nat}, (numb k ds).length = ds.length
  | [], _ => rfl
  | _ :: _, _ => congrArg (· + 1) numb_len
theorem wk_ezS {K : PySem.W.Frag} {S1 S2 : Src} {vs ws : List V} {ds es : List D} {H0 : Hp} {Kp : Hp → Prop} (r : RpAll K H0 vs ds) (r' : RpAll K H0 ws es) (k : ∀ H', Kp H' → S1.has K H' vs ∧ S2.has K H' ws) : Wk K (ItezS K S1 S2) (numb 0 (pairs ds es)) H0 Kp where
  go := fun i d H' kp hd => by
    obtain ⟨_, hp, _⟩ := numb_get hd
    obtain ⟨x, y, hx, hy, rfl⟩ := pairs_get hp
    obtain ⟨v, hv, _⟩ := r.get hx
    obtain ⟨w, hw, _⟩ := r'.get hy
    exact ⟨vs, ws, v, w, (k H' kp).1, (k H' kp).2, hv, hw⟩
  yld := fun i d H0' H' x H3 kp e1 e2 hd hy => by
    obtain ⟨_, hp, rfl⟩ := numb_get hd
    obtain ⟨x, y, hx, hy', rfl⟩ := pairs_get hp
    obtain ⟨v, hv, rv⟩ := r.get hx
    obtain ⟨w, hw, rw'⟩ := r'.get hy'
    obtain ⟨T, U, v', w', rfl, hT, hU, nTU, rfl, f1, f2⟩ := hy
    cases (f1 vs (k _ kp).1).symm.trans hv
    cases (f2 ws (k _ kp).2).symm.trans hw
    have u1 : Up H0' H' (upd H0' T (.tup [v, w])) (upd H' T (.tup [v, w])) := Up.new e2 hT
    have hU' : upd H' T (.tup [v, w]) U = none := by rw [upd_ne (Ne.symm nTU)]; exact hU
    have u2 : Up (upd H0' T (.tup [v, w])) (upd H' T (.tup [v, w])) _ _ := Up.new (o := .tup [.int (i : Nat), .ref T]) u1.b hU'
    refine ⟨_, u1.trans u2, .tup (SqT.of upd_same) (.cons ?_ (.cons ?_ .nil))⟩
    · rw [Nat.zero_add]; exact .int _
    · refine .tup (SqT.of ?_) (.cons (((rv.mono e1).mono u1.a).mono u2.a) (.cons (((rw'.mono e1).mono u1.a).mono u2.a) .nil))
      rw [upd_ne nTU]; exact upd_same
  stop := fun H' kp => ⟨vs, ws, (k H' kp).1, (k H' kp).2, by
    rw [numb_len, pairs_len, r.length, r'.length]⟩
def P.ezS : List D → R (List D)
  | [x, y] => (P.items x).bind fun xs => (P.items y).bind fun ys => .ok (numb 0 (pairs xs ys))
  | _ => .bad
section
variable {G : Str → Addr} {E : XK} {X : Cx} {pos p p2 pos2 : Pos} {a b e tg : Expr} {es : List Expr} {m : Bool}
theorem di_ez {f} {elts : List Expr} {kk : Nat} {tpos : Pos} (hgE : Gl X "enumerate") (hmE : X.mg "enumerate" = none) (hg : Gl X "zip") (hm : X.mg "zip" = none) (h : Da G E X [a, b] f)
    (hs : starEach [a, b] X.env = (false, eval a X.env) :: starEach [b] X.env := by rfl) (hpl : (backTo pos (starEach [b] X.env)).any (·.1) = false := by rfl)
    (hsE : starEach [.Call (.Name "zip" p) [a, b] [] pos] X.env = (false, eval (.Call (.Name "zip" p) [a, b] [] pos) X.env) :: starEach [] X.env := by rfl) :
    DI G E X m (.Tuple elts kk tpos) (.Call (.Name "enumerate" p2) [.Call (.Name "zip" p) [a, b] [] pos] [] pos2) (dRng P.ezS f) := by
  obtain ⟨t, h1, h2⟩ := h
  refine ⟨_, pi_ez hgE hmE hg hm h1 hs hpl hsE, fun B δ σ H0 H s => at_bind (t := t σ H) (k := fun vs H1 R => ∃ S1 S2 xs ys, vs = [Src.v S1, Src.v S2] ∧ S1.has X.K H1 xs ∧ S2.has X.K H1 ys ∧ R (ItezS X.K S1 S2) H1) mI (h2 B δ σ H0 H s) fun x v H1 H1' w rx => ?_⟩
  have e := w.b
  match x, v, rx with
  | [], _, _ => exact True.intro
  | [_], _, _ => exact True.intro
  | _ :: _ :: _ :: _, _, _ => exact True.intro
  | [d1, d2], [v1, v2], .cons r1 (.cons r2 .nil) =>
    show At X.K G E (rI X.K m) H1 H1' _ ((P.items d1).bind fun xs => (P.items d2).bind fun ys => .ok (numb 0 (pairs xs ys)))
    cases q1 : P.items d1 with
    | bad => exact True.intro
    | er x => unfold P.items at q1; split at q1 <;> cases q1
    | ok xs =>
      cases q2 : P.items d2 with
      | bad => exact True.intro
      | er x => unfold P.items at q2; split at q2 <;> cases q2
      | ok ys =>
        obtain ⟨S1, vs1, rfl, w1, k1⟩ := src_of e r1 q1
        obtain ⟨S2, vs2, rfl, w2, k2⟩ := src_of e r2 q2
        exact fun Q q => ⟨S1, S2, vs1, vs2, rfl, k1 _ e, k2 _ e, q _ H1 H1' (.refl e) ⟨fun H' => S1.has X.K H' _ ∧ S2.has X.K H' _, wk_ezS w1 w2 fun _ k => k, fun H'' e2 _ => ⟨k1 _ e2, k2 _ e2⟩⟩⟩
end
end Dn

namespace Dn
open PySem PySem.Spec PyProof.Rows L2
/-! ### the law's own call of a stateful def: the heap holds no store yet -/
def noR (H : Hp) : Hp := fun p => match H p with
  | some (.rng _ _) => none
  | o => o
theorem noR_sub {H : Hp} {p : Addr} {o : HO} (h : noR H p = some o) : H p = some o := by
  unfold noR at h
  split at h
  · cases h
  · exact h
theorem noR_of {H : Hp} {p : Addr} {o : HO} (h : H p = some o) (ne : ∀ a b, o ≠ .rng a b) : noR H p = some o := by
  unfold noR
  split
  · rename_i a b q
    rw [q] at h
    exact absurd (Option.some.inj h).symm (ne a b)
  · exact h
theorem noR_gh {H : Hp} {p : Addr} {n : Nat} : noR H p ≠ some (gh n) := fun h => by
  have z := noR_sub h
  unfold noR at h
  rw [z] at h
  cases h
theorem noR_seq {K : PySem.W.Frag} {H : Hp} {a : Addr} {xs : List V} (h : SqL K H a xs) : SqL K (noR H) a xs := by
  rcases h with (h | ⟨o, h⟩) | h
  · exact .inl (.inl (noR_of h fun _ _ z => nomatch z))
  · exact .inl (.inr ⟨o, noR_of h fun _ _ z => nomatch z⟩)
  · exact .inr h
theorem rp_intsI (K : PySem.W.Frag) (H : Hp) : ∀ ns : List Int, RpAll K H (ns.map V.int) (ns.map PyData.int)
  | [] => .nil
  | n :: ns => .cons (.int n) (rp_intsI K H ns)
theorem spS_script {K : PySem.W.Frag} {G : Str → Addr} {F : List D → Sto → Rs D} {a : Addr} {H : Hp} {ns : List Int} {Q E} (h : ∃ S, F [scr (ns.map PyData.int)] [] = .ok (.bool true) S) (hS : SqL K H a (ns.map V.int)) (hQ : ∀ H', Q (V.bl true) H') : spS K G 1 F [.ref a] H Q E := by
  obtain ⟨S, h⟩ := h
  refine ⟨noR H, [scr (ns.map PyData.int)], [], rfl, fun p o q => .inl (noR_sub q), .cons (.scr (noR_seq hS) (rp_intsI K _ ns)) .nil, ⟨fun p n q => absurd q noR_gh, fun p q n w => absurd w noR_gh⟩, ?_⟩
  rw [h]
  refine ⟨(fun z => nomatch z), fun d S' z v H0' H' _ _ r => ?_, fun x S' z => (nomatch z)⟩
  cases z
  cases r
  exact hQ _
end Dn

namespace Dn
open PySem PySem.Spec PyProof.Rows L2

/-! ### how the combinators compute -/
section
variable {δ : DSt} {f g h : DSt → R D} {fo go : DSt → R Op} {fl gl : DSt → R (List D)} {fb gb : DSt → R Bool} {fp gp : DSt → R (Option Int)} {fs gs : DSt → R Out} {i n : Nat} {d x y : D} {ds es : List D}
@[simp] theorem dC_ap : dC d δ = .ok d := rfl
@[simp] theorem dVar_ap : dVar i δ = (match δ[i]? with | some (SV.dat d) => .ok d | _ => .bad) := rfl
@[simp] theorem dVarO_ap : dVarO i δ = (match δ[i]? with | some (SV.dat d) => .ok (.d d) | some (SV.own ds) => .ok (.o ds) | _ => .bad) := rfl
@[simp] theorem dOp_ap : dOp f δ = (f δ).bind fun d => .ok (.d d) := rfl
@[simp] theorem dAdd_ap : dAdd fo go δ = (fo δ).bind fun x => (go δ).bind fun y => P.add x y := rfl
@[simp] theorem dCatN_ap : dCatN fo go δ = (fo δ).bind fun x => (go δ).bind fun y => P.catN x y := rfl
@[simp] theorem dInt2_ap {c k} : dInt2 c k f g δ = (f δ).bind fun x => (g δ).bind fun y => P.int2 c k x y := rfl
@[simp] theorem dNeg_ap : dNeg f δ = (f δ).bind P.neg := rfl
@[simp] theorem d2_ap {p} : d2 p fo go δ = (fo δ).bind fun x => (go δ).bind fun y => p x y := rfl
@[simp] theorem dCmp_ap {c} : dCmp c f g δ = (f δ).bind fun x => (g δ).bind fun y => P.cmp c x y := rfl
@[simp] theorem dIsN_ap : dIsN fo δ = (fo δ).bind fun x => .ok (P.isN x) := rfl
@[simp] theorem dNotN_ap : dNotN fo δ = (fo δ).bind fun x => .ok (P.notN x) := rfl
@[simp] theorem dTru_ap : dTru f δ = (f δ).bind P.tru := rfl
@[simp] theorem dNot_ap : dNot fb δ = (fb δ).bind fun b => .ok (!b) := rfl
@[simp] theorem dAnd_ap : dAnd fb gb δ = (fb δ).bind fun b => if b then gb δ else .ok false := rfl
@[simp] theorem dOr_ap : dOr fb gb δ = (fb δ).bind fun b => if b then .ok true else gb δ := rfl
@[simp] theorem dAndV_ap : dAndV f g δ = (f δ).bind fun x => (P.tru x).bind fun b => if b then g δ else .ok (.bool false) := rfl
@[simp] theorem dOrV_ap : dOrV f g δ = (f δ).bind fun x => (P.tru x).bind fun b => if b then .ok (.bool true) else g δ := rfl
@[simp] theorem dNotV_ap : dNotV f δ = (f δ).bind fun x => (P.tru x).bind fun b => .ok (.bool (!b)) := rfl
@[simp] theorem dIf_ap {α : Type} {f g : DSt → R α} : dIf fb f g δ = (fb δ).bind fun b => if b then f δ else g δ := rfl
@[simp] theorem dNil_ap : dNil δ = .ok [] := rfl
@[simp] theorem dCons_ap : dCons f fl δ = (f δ).bind fun x => (fl δ).bind fun xs => .ok (x :: xs) := rfl
@[simp] theorem dTup_ap : dTup fl δ = (fl δ).bind fun xs => if xs.length ≤ LIM then .ok (.tuple xs) else .bad := rfl
@[simp] theorem dLst_ap : dLst fl δ = (fl δ).bind fun xs => if xs.length ≤ LIM then .ok (.list xs) else .bad := rfl
@[simp] theorem dLstN_ap : dLstN fl δ = (fl δ).bind fun xs => if xs.length ≤ LIM then .ok xs else .bad := rfl
@[simp] theorem dFre_ap : dFre fl δ = (fl δ).bind fun xs => .ok (.list xs) := rfl
@[simp] theorem dIdx_ap : dIdx fo g δ = (fo δ).bind fun x => (g δ).bind fun y => P.idx x y := rfl
@[simp] theorem dNoPart_ap : dNoPart δ = .ok none := rfl
@[simp] theorem dPart_ap : dPart f δ = (f δ).bind P.part := rfl
@[simp] theorem dSlice_ap : dSlice fo fp gp δ = (fo δ).bind fun x => (fp δ).bind fun lo => (gp δ).bind fun hi => P.slice x lo hi := rfl
@[simp] theorem dLen_ap : dLen fo δ = (fo δ).bind P.len := rfl
@[simp] theorem dIsi_ap {T} : dIsi T fo δ = (fo δ).bind (P.isi T) := rfl
@[simp] theorem dToInt_ap : dToInt fo δ = (fo δ).bind P.toInt := rfl
@[simp] theorem dCall1_ap {p} : dCall1 p fl δ = (fl δ).bind p := rfl
@[simp] theorem d1_ap {p} : d1 p fo δ = (fo δ).bind p := rfl
@[simp] theorem dListN_ap : dListN fo δ = (fo δ).bind P.listN := rfl
@[simp] theorem dItems_ap : dItems f δ = (f δ).bind P.items := rfl
@[simp] theorem dItemsO_ap : dItemsO fo δ = (fo δ).bind P.itemsO := rfl
@[simp] theorem dRng_ap {p} : dRng p fl δ = (fl δ).bind p := rfl
@[simp] theorem dLc_ap {tg c vs} : dLc fl tg c f vs δ = (fl δ).bind fun ds => if ds.length ≤ LIM then lcGo tg c f (fgt δ vs) ds else .bad := rfl
@[simp] theorem dYes_ap : dYes δ = .ok true := rfl
@[simp] theorem dNext_ap : dNext δ = .ok (.nx δ) := rfl
@[simp] theorem dBrk_ap : dBrk δ = .ok (.bk δ) := rfl
@[simp] theorem dCnt_ap : dCnt δ = .ok (.ct δ) := rfl
@[simp] theorem dRet_ap : dRet f δ = (f δ).bind fun d => .ok (.rt d) := rfl
@[simp] theorem dSet_ap : dSet i f δ = (f δ).bind fun d => .ok (.nx (δ.set i (.dat d))) := rfl
@[simp] theorem dSetN_ap : dSetN i fl δ = (fl δ).bind fun d => .ok (.nx (δ.set i (.own d))) := rfl
@[simp] theorem dAsg_ap {t} : dAsg f t δ = (f δ).bind fun d => match t d δ with | some δ' => .ok (.nx δ') | none => .bad := rfl
@[simp] theorem dApp_ap : dApp i f δ = (match δ[i]? with | some (SV.own ds) => (f δ).bind fun d => if ds.length < LIM then .ok (.nx (δ.set i (.own (ds ++ [d])))) else .bad | _ => .bad) := rfl
@[simp] theorem dSeq_ap : dSeq fs gs δ = (fs δ).bind fun o => match o with | .nx δ' => gs δ' | o => .ok o := rfl
@[simp] theorem dFor_ap {tg} {vs : List Nat} : dFor fl tg fs vs δ = (fl δ).bind fun ds => forGo tg fs vs ds δ := rfl
@[simp] theorem dLend_ap {is : List Nat} : dLend is f δ = (match f (frzL is δ) with | .ok d => if plain d then .ok d else .bad | _ => .bad) := rfl
@[simp] theorem dLendT_ap {is : List Nat} : dLendT is fb δ = (match fb (frzL is δ) with | .ok d => .ok d | _ => .bad) := rfl
@[simp] theorem dCallN_ap {F} : dCallN n F fl δ = (fl δ).bind fun ds => if ds.length = n then F ds else .bad := rfl
@[simp] theorem dIn_ap {b} : dIn b f go δ = (f δ).bind fun x => (go δ).bind fun y => P.inF b x y := rfl
@[simp] theorem frzL_nil : frzL [] δ = δ := rfl
@[simp] theorem frzL_cons {is : List Nat} : frzL (i :: is) δ = frz1 i (frzL is δ) := rfl
@[simp] theorem frz1_ap : frz1 i δ = (match δ[i]? with | some (SV.own ds) => δ.set i (.dat (.list ds)) | _ => δ) := rfl
@[simp] theorem fgt_nil : fgt δ [] = δ := rfl
@[simp] theorem fgt_cons {is : List Nat} : fgt δ (i :: is) = (fgt δ is).set i .no := rfl
@[simp] theorem gN_ap : gN i d δ = some (δ.set i (.dat d)) := rfl
@[simp] theorem gsN_nil : gsN [] δ = some δ := rfl
@[simp] theorem gsC_cons {t u} : gsC t u (d :: ds) δ = (t d δ).bind (u ds) := rfl
@[simp] theorem gT_tup {u} : gT n u (.tuple ds) δ = if ds.length = n then u ds δ else none := rfl
@[simp] theorem lcGo_nil {t c} : lcGo t c f δ [] = .ok [] := rfl
@[simp] theorem lcGo_cons' {t c xs} : lcGo t c f δ (x :: xs) = (match t x δ with
    | none => .bad
    | some δ' => (c δ').bind fun b => if b then (f δ').bind fun y => (lcGo t c f δ xs).bind fun ys => .ok (y :: ys) else lcGo t c f δ xs) := rfl
@[simp] theorem forGo_nil {t} {vs : List Nat} : forGo t fs vs [] δ = .ok (.nx (fgt δ vs)) := rfl
end
@[simp] theorem LIM_eq : LIM = 100000 := rfl
/-! ### on plain values -/
@[simp] theorem add_int {i j : Int} : P.add (.d (.int i)) (.d (.int j)) = .ok (.int (i + j)) := rfl
@[simp] theorem add_tup {a b : List D} : P.add (.d (.tuple a)) (.d (.tuple b)) = if a.length + b.length ≤ LIM then .ok (.tuple (a ++ b)) else .bad := rfl
@[simp] theorem add_lst {a b : List D} : P.add (.d (.list a)) (.d (.list b)) = if a.length + b.length ≤ LIM then .ok (.list (a ++ b)) else .bad := rfl
@[simp] theorem add_str {a b : Str} : P.add (.d (.str a)) (.d (.str b)) = if a.length + b.length ≤ LIM then .ok (.str (a ++ b)) else .bad := rfl
@[simp] theorem int2_int {c k} {i j : Int} : P.int2 c k (.int i) (.int j) = if c i j then .ok (k i j) else .bad := rfl
@[simp] theorem neg_int {i : Int} : P.neg (.int i) = .ok (.int (-i)) := rfl
@[simp] theorem cmp_int {c} {i j : Int} : P.cmp c (.int i) (.int j) = .ok (.bool (c i j)) := rfl
@[simp] theorem tru_bool {b} : P.tru (.bool b) = .ok b := rfl
@[simp] theorem part_int {i : Int} : P.part (.int i) = .ok (some i) := rfl
@[simp] theorem toInt_int {i : Int} : P.toInt (.d (.int i)) = .ok (.int i) := rfl
@[simp] theorem len_lst {ds : List D} : P.len (.d (.list ds)) = .ok (.int ds.length) := rfl
@[simp] theorem len_tup {ds : List D} : P.len (.d (.tuple ds)) = .ok (.int ds.length) := rfl
@[simp] theorem len_own {ds : List D} : P.len (.o ds) = .ok (.int ds.length) := rfl
@[simp] theorem items_lst {ds : List D} : P.items (.list ds) = .ok ds := rfl
@[simp] theorem items_tup {ds : List D} : P.items (.tuple ds) = .ok ds := rfl
@[simp] theorem items_str {z : Str} : P.items (.str z) = .ok (signs z) := rfl
@[simp] theorem itemsO_own {ds : List D} : P.itemsO (.o ds) = .ok ds := rfl
@[simp] theorem itemsO_d {d : D} : P.itemsO (.d d) = P.items d := rfl
@[simp] theorem tuple_lst {ds : List D} : P.tuple (.d (.list ds)) = .ok (.tuple ds) := rfl
@[simp] theorem tuple_tup {ds : List D} : P.tuple (.d (.tuple ds)) = .ok (.tuple ds) := rfl
@[simp] theorem tuple_own {ds : List D} : P.tuple (.o ds) = .ok (.tuple ds) := rfl
@[simp] theorem listN_lst {ds : List D} : P.listN (.d (.list ds)) = .ok ds := rfl
@[simp] theorem listN_tup {ds : List D} : P.listN (.d (.tuple ds)) = .ok ds := rfl
@[simp] theorem slice_lst {ds : List D} {lo hi} : P.slice (.d (.list ds)) lo hi = .ok (.list (cutD ds lo hi)) := rfl
@[simp] theorem slice_tup {ds : List D} {lo hi} : P.slice (.d (.tuple ds)) lo hi = .ok (.tuple (cutD ds lo hi)) := rfl
@[simp] theorem slice_scr {ds : List D} {lo hi} : P.slice (.d (scr ds)) lo hi = .ok (.list (cutD ds lo hi)) := rfl
@[simp] theorem max2_int {i j : Int} : P.max2 [.int i, .int j] = .ok (.int (if j > i then j else i)) := rfl
@[simp] theorem min2_int {i j : Int} : P.min2 [.int i, .int j] = .ok (.int (if j < i then j else i)) := rfl
@[simp] theorem zip_tup {a b : List D} : P.zip [.tuple a, .tuple b] = .ok (pairs a b) := rfl
@[simp] theorem zip_lst {a b : List D} : P.zip [.list a, .list b] = .ok (pairs a b) := rfl
@[simp] theorem range1_int {i : Int} : P.range1 [.int i] = if i.natAbs ≤ LIM then .ok (rngD 0 i.toNat) else .bad := rfl
@[simp] theorem range2_int {i j : Int} : P.range2 [.int i, .int j] = if i.natAbs ≤ LIM ∧ j.natAbs ≤ LIM then .ok (rngD i (j - i).toNat) else .bad := rfl
theorem idx_lst {ds : List D} {i : Int} {d : D} (h : atI ds i = some d) : P.idx (.d (.list ds)) (.int i) = .ok d := by
  show (match atI ds i with | some d => R.ok d | none => .bad) = _
  rw [h]
theorem idx_tup {ds : List D} {i : Int} {d : D} (h : atI ds i = some d) : P.idx (.d (.tuple ds)) (.int i) = .ok d := by
  show (match atI ds i with | some d => R.ok d | none => .bad) = _
  rw [h]
theorem idx_own {ds : List D} {i : Int} {d : D} (h : atI ds i = some d) : P.idx (.o ds) (.int i) = .ok d := by
  show (match atI ds i with | some d => R.ok d | none => .bad) = _
  rw [h]
@[simp] theorem idx_tup' {ds : List D} {i : Int} : P.idx (.d (.tuple ds)) (.int i) = (match atI ds i with | some d => .ok d | none => .bad) := rfl
@[simp] theorem idx_lst' {ds : List D} {i : Int} : P.idx (.d (.list ds)) (.int i) = (match atI ds i with | some d => .ok d | none => .bad) := rfl
@[simp] theorem idx_own' {ds : List D} {i : Int} : P.idx (.o ds) (.int i) = (match atI ds i with | some d => .ok d | none => .bad) := rfl
@[simp] theorem sub_c {i j : Int} : cTrue i j = true := rfl
@[simp] theorem pos_c {i j : Int} : cPos i j = decide (0 < j) := rfl
@[simp] theorem div_c {i j : Int} : cDiv i j = (decide (0 < j) && decide (j < 1073741824)) := rfl
@[simp] theorem pow_c {i j : Int} : cPow i j = (decide (0 ≤ j) && decide (j ≤ 1000) && decide (i.natAbs < 2 ^ 64)) := rfl
theorem mul_r {i j : Int} (h1 : -(2 ^ 64) < j) (h2 : j < 2 ^ 64) : cMul i j = true := by
  unfold cMul
  simp only [Bool.or_eq_true, Bool.and_eq_true, decide_eq_true_eq]
  exact .inr ⟨h1, h2⟩
theorem mul_l {i j : Int} (h1 : -(2 ^ 64) < i) (h2 : i < 2 ^ 64) : cMul i j = true := by
  unfold cMul
  simp only [Bool.or_eq_true, Bool.and_eq_true, decide_eq_true_eq]
  exact .inl ⟨h1, h2⟩
/-! ### is .. a .. -/
theorem kb_nn : kitB "NoneType" "int" = some false ∧ kitB "NoneType" "bool" = some false ∧ kitB "NoneType" "str" = some false ∧ kitB "NoneType" "tuple" = some false ∧ kitB "NoneType" "list" = some false := by decide +kernel
theorem kb_bl : kitB "bool" "int" = some true ∧ kitB "bool" "bool" = some true ∧ kitB "bool" "str" = some false ∧ kitB "bool" "tuple" = some false ∧ kitB "bool" "list" = some false := by decide +kernel
theorem kb_in : kitB "int" "int" = some true ∧ kitB "int" "bool" = some false ∧ kitB "int" "str" = some false ∧ kitB "int" "tuple" = some false ∧ kitB "int" "list" = some false := by decide +kernel
theorem kb_st : kitB "str" "int" = some false ∧ kitB "str" "bool" = some false ∧ kitB "str" "str" = some true ∧ kitB "str" "tuple" = some false ∧ kitB "str" "list" = some false := by decide +kernel
theorem kb_tu : kitB "tuple" "int" = some false ∧ kitB "tuple" "bool" = some false ∧ kitB "tuple" "str" = some false ∧ kitB "tuple" "tuple" = some true ∧ kitB "tuple" "list" = some false := by decide +kernel
theorem kb_li : kitB "list" "int" = some false ∧ kitB "list" "bool" = some false ∧ kitB "list" "str" = some false ∧ kitB "list" "tuple" = some false ∧ kitB "list" "list" = some true := by decide +kernel
@[simp] theorem isi_none {T} : P.isi T (.d .none) = (match kitB "NoneType" T with | some b => .ok (.bool b) | none => .bad) := rfl
@[simp] theorem isi_bool {T b} : P.isi T (.d (.bool b)) = (match kitB "bool" T with | some b => .ok (.bool b) | none => .bad) := rfl
@[simp] theorem isi_int {T} {i : Int} : P.isi T (.d (.int i)) = (match kitB "int" T with | some b => .ok (.bool b) | none => .bad) := rfl
@[simp] theorem isi_str {T} {i : Str} : P.isi T (.d (.str i)) = (match kitB "str" T with | some b => .ok (.bool b) | none => .bad) := rfl
@[simp] theorem isi_tup {T} {i : List D} : P.isi T (.d (.tuple i)) = (match kitB "tuple" T with | some b => .ok (.bool b) | none => .bad) := rfl
@[simp] theorem isi_lst {T} {i : List D} : P.isi T (.d (.list i)) = (match kitB "list" T with | some b => .ok (.bool b) | none => .bad) := rfl
@[simp] theorem kb1 : kitB "NoneType" "int" = some false := kb_nn.1
@[simp] theorem kb2 : kitB "NoneType" "bool" = some false := kb_nn.2.1
@[simp] theorem kb3 : kitB "NoneType" "str" = some false := kb_nn.2.2.1
@[simp] theorem kb4 : kitB "NoneType" "tuple" = some false := kb_nn.2.2.2.1
@[simp] theorem kb5 : kitB "NoneType" "list" = some false := kb_nn.2.2.2.2
@[simp] theorem kb6 : kitB "bool" "int" = some true := kb_bl.1
@[simp] theorem kb7 : kitB "bool" "bool" = some true := kb_bl.2.1
@[simp] theorem kb8 : kitB "bool" "str" = some false := kb_bl.2.2.1
@[simp] theorem kb9 : kitB "bool" "tuple" = some false := kb_bl.2.2.2.1
@[simp] theorem kb10 : kitB "bool" "list" = some false := kb_bl.2.2.2.2
@[simp] theorem kb11 : kitB "int" "int" = some true := kb_in.1
@[simp] theorem kb12 : kitB "int" "bool" = some false := kb_in.2.1
@[simp] theorem kb13 : kitB "int" "str" = some false := kb_in.2.2.1
@[simp] theorem kb14 : kitB "int" "tuple" = some false := kb_in.2.2.2.1
@[simp] theorem kb15 : kitB "int" "list" = some false := kb_in.2.2.2.2
@[simp] theorem kb16 : kitB "str" "int" = some false := kb_st.1
@[simp] theorem kb17 : kitB "str" "bool" = some false := kb_st.2.1
@[simp] theorem kb18 : kitB "str" "str" = some true := kb_st.2.2.1
@[simp] theorem kb19 : kitB "str" "tuple" = some false := kb_st.2.2.2.1
@[simp] theorem kb20 : kitB "str" "list" = some false := kb_st.2.2.2.2
@[simp] theorem kb21 : kitB "tuple" "int" = some false := kb_tu.1
@[simp] theorem kb22 : kitB "tuple" "bool" = some false := kb_tu.2.1
@[simp] theorem kb23 : kitB "tuple" "str" = some false := kb_tu.2.2.1
@[simp] theorem kb24 : kitB "tuple" "tuple" = some true := kb_tu.2.2.2.1
@[simp] theorem kb25 : kitB "tuple" "list" = some false := kb_tu.2.2.2.2
@[simp] theorem kb26 : kitB "list" "int" = some false := kb_li.1
@[simp] theorem kb27 : kitB "list" "bool" = some false := kb_li.2.1
@[simp] theorem kb28 : kitB "list" "str" = some false := kb_li.2.2.1
@[simp] theorem kb29 : kitB "list" "tuple" = some false := kb_li.2.2.2.1
@[simp] theorem kb30 : kitB "list" "list" = some true := kb_li.2.2.2.2
/-! ### == -/
@[simp] theorem eq_int {i j : Int} : P.eq (.d (.int i)) (.d (.int j)) = .ok (.bool (i == j)) := by simp [P.eq, opD, SeqAt.shaped, PyData.canLay0, PyData.depth, PyData.eqv]
@[simp] theorem ne_int {i j : Int} : P.ne (.d (.int i)) (.d (.int j)) = .ok (.bool (!(i == j))) := by simp [P.ne, opD, SeqAt.shaped, PyData.canLay0, PyData.depth, PyData.eqv]
@[simp] theorem eq_bool {i j : Bool} : P.eq (.d (.bool i)) (.d (.bool j)) = .ok (.bool (i == j)) := by simp [P.eq, opD, SeqAt.shaped, PyData.canLay0, PyData.depth, PyData.eqv]
/-! ### loops -/
/-- a loop whose turns only go on: its state by what was gone through -/
theorem forGo_inv {tg b fs} {ds : List D} {δ : DSt} (I : Nat → DSt → Prop) (h0 : I 0 (fgt δ fs)) (hs : ∀ i d δ, ds[i]? = some d → I i δ → ∃ δ1 δ2, tg d δ = some δ1 ∧ (b δ1 = .ok (.nx δ2) ∨ b δ1 = .ok (.ct δ2)) ∧ I (i + 1) (fgt δ2 fs)) :
    ∃ δ', forGo tg b fs ds δ = .ok (.nx δ') ∧ I ds.length δ' := by
  suffices H : ∀ (k : Nat) (es : List D) (δ : DSt), ds.drop k = es → k ≤ ds.length → I k (fgt δ fs) → ∃ δ', forGo tg b fs es δ = .ok (.nx δ') ∧ I ds.length δ' from H 0 ds δ (by simp) (Nat.zero_le _) h0
  intro k es
  induction es generalizing k with
  | nil =>
    intro δ hd hk hI
    have : k = ds.length := by
      have := congrArg List.length hd
      simp at this
      omega
    subst this
    exact ⟨_, rfl, hI⟩
  | cons x xs ih =>
    intro δ hd hk hI
    have hlt : k < ds.length := by
      have := congrArg List.length hd
      simp at this
      omega
    have hx : ds[k]? = some x := by
      have := congrArg (·[0]?) hd
      simpa using this
    have hxs : ds.drop (k + 1) = xs := by
      rw [← List.tail_drop, hd]; rfl
    obtain ⟨δ1, δ2, h1, h2, h3⟩ := hs k x _ hx hI
    rw [forGo_cons, h1]
    rcases h2 with h2 | h2
    · simp only [h2, R.bind_ok]
      exact ih (k + 1) δ2 hxs hlt h3
    · simp only [h2, R.bind_ok]
      exact ih (k + 1) δ2 hxs hlt h3
/-- the same, with a break -/
theorem forGo_brk {tg b fs} {ds : List D} {δ : DSt} (I : Nat → DSt → Prop) (J : DSt → Prop) (h0 : I 0 (fgt δ fs)) (hJ : ∀ δ, I ds.length δ → J δ)
    (hs : ∀ i d δ, ds[i]? = some d → I i δ → ∃ δ1 δ2, tg d δ = some δ1 ∧ (((b δ1 = .ok (.nx δ2) ∨ b δ1 = .ok (.ct δ2)) ∧ I (i + 1) (fgt δ2 fs)) ∨ (b δ1 = .ok (.bk δ2) ∧ J (fgt δ2 fs)))) :
    ∃ δ', forGo tg b fs ds δ = .ok (.nx δ') ∧ J δ' := by
  suffices H : ∀ (k : Nat) (es : List D) (δ : DSt), ds.drop k = es → k ≤ ds.length → I k (fgt δ fs) → ∃ δ', forGo tg b fs es δ = .ok (.nx δ') ∧ J δ' from H 0 ds δ (by simp) (Nat.zero_le _) h0
  intro k es
  induction es generalizing k with
  | nil =>
    intro δ hd hk hI
    have : k = ds.length := by
      have := congrArg List.length hd
      simp at this
      omega
    subst this
    exact ⟨_, rfl, hJ _ hI⟩
  | cons x xs ih =>
    intro δ hd hk hI
    have hlt : k < ds.length := by
      have := congrArg List.length hd
      simp at this
      omega
    have hx : ds[k]? = some x := by
      have := congrArg (·[0]?) hd
      simpa using this
    have hxs : ds.drop (k + 1) = xs := by
      rw [← List.tail_drop, hd]; rfl
    obtain ⟨δ1, δ2, h1, h2⟩ := hs k x _ hx hI
    rw [forGo_cons, h1]
    rcases h2 with ⟨h2 | h2, h3⟩ | ⟨h2, h3⟩
    · simp only [h2, R.bind_ok]
      exact ih (k + 1) δ2 hxs hlt h3
    · simp only [h2, R.bind_ok]
      exact ih (k + 1) δ2 hxs hlt h3
    · simp only [h2, R.bind_ok]
      exact ⟨_, rfl, h3⟩
/-- a comprehension that keeps all -/
theorem lcGo_map {tg f δ} {ds : List D} (k : D → D) (h : ∀ d, d ∈ ds → ∃ δ', tg d δ = some δ' ∧ f δ' = .ok (k d)) : lcGo tg (fun _ => R.ok true) f δ ds = .ok (ds.map k) := by
  induction ds with
  | nil => rfl
  | cons x xs ih =>
    obtain ⟨δ', h1, h2⟩ := h x (by simp)
    rw [lcGo_cons, h1]
    simp only [R.bind_ok, if_true, h2]
    rw [ih fun d hd => h d (by simp [hd])]
    rfl
theorem lcGo_filter {tg c f δ} {ds : List D} (p : D → Bool) (k : D → D) (h : ∀ d, d ∈ ds → ∃ δ', tg d δ = some δ' ∧ c δ' = .ok (p d) ∧ (p d = true → f δ' = .ok (k d))) : lcGo tg c f δ ds = .ok ((ds.filter p).map k) := by
  induction ds with
  | nil => rfl
  | cons x xs ih =>
    obtain ⟨δ', h1, h2, h3⟩ := h x (by simp)
    rw [lcGo_cons, h1]
    simp only [h2, R.bind_ok]
    have r := ih fun d hd => h d (by simp [hd])
    cases hp : p x with
    | true =>
      simp only [if_true, h3 hp, R.bind_ok, r, List.filter_cons, hp, List.map_cons]
    | false =>
      simp only [r, List.filter_cons, hp]
      rfl
theorem rngD_mem {lo : Int} {n i : Nat} {d : D} (h : (rngD lo n)[i]? = some d) : i < n ∧ d = .int (lo + (i : Nat)) := by
  have hl := (List.getElem?_eq_some_iff.mp h).1
  rw [rngD_len] at hl
  rw [rngD_get hl] at h
  exact ⟨hl, (Option.some.inj h).symm⟩
theorem atI_in {α : Type} {xs : List α} {i : Int} (h0 : 0 ≤ i) (h1 : i < xs.length) : ∃ x, atI xs i = some x ∧ x ∈ xs := by
  have hk : i.toNat < xs.length := by omega
  refine ⟨xs[i.toNat], ?_, List.getElem_mem hk⟩
  have e : i = ((i.toNat : Nat) : Int) := by omega
  have q : atI xs ((i.toNat : Nat) : Int) = some xs[i.toNat] := atI_nat (List.getElem?_eq_getElem hk)
  rw [← e] at q
  exact q
end Dn

namespace Dn
open PySem PySem.Spec PyProof.Rows L2
/-! ### how the combinators with a store compute -/
section
variable {α β γ ε : Type} {δ : DSt} {S : Sto} {f g h : Sf D} {fl gl : Sf (List D)} {fb gb : Sf Bool} {fs gs : Sb} {i n : Nat} {d x y : D} {ds es : List D}
@[simp] theorem sL_ap {f : DSt → R α} : sL f δ S = (f δ).at_ S := rfl
@[simp] theorem s1_ap {p : α → R γ} {f : Sf α} : s1 p f δ S = (f δ S).bind fun x S1 => (p x).at_ S1 := rfl
@[simp] theorem s2_ap {p : α → β → R γ} {f : Sf α} {k : Sf β} : s2 p f k δ S = (f δ S).bind fun x S1 => (k δ S1).bind fun y S2 => (p x y).at_ S2 := rfl
@[simp] theorem s3_ap {p : α → β → ε → R γ} {f : Sf α} {k : Sf β} {l : Sf ε} : s3 p f k l δ S = (f δ S).bind fun x S1 => (k δ S1).bind fun y S2 => (l δ S2).bind fun z S3 => (p x y z).at_ S3 := rfl
@[simp] theorem sGet_ap : sGet f g δ S = (f δ S).bind fun x S1 => (g δ S1).bind fun y S2 => (stGet S2 x y).at_ S2 := rfl
@[simp] theorem sPut_ap : sPut f g h δ S = (h δ S).bind fun v S1 => (f δ S1).bind fun x S2 => (g δ S2).bind fun k S3 => match stPut S3 x k v with | some S4 => .ok (.nx δ) S4 | none => .bad := rfl
@[simp] theorem sNot_ap : sNot fb δ S = (fb δ S).bind fun b S1 => .ok (!b) S1 := rfl
@[simp] theorem sAnd_ap : sAnd fb gb δ S = (fb δ S).bind fun b S1 => if b then gb δ S1 else .ok false S1 := rfl
@[simp] theorem sOr_ap : sOr fb gb δ S = (fb δ S).bind fun b S1 => if b then .ok true S1 else gb δ S1 := rfl
@[simp] theorem sAndV_ap : sAndV f g δ S = (f δ S).bind fun x S1 => ((P.tru x).at_ S1).bind fun b S2 => if b then g δ S2 else .ok (.bool false) S2 := rfl
@[simp] theorem sOrV_ap : sOrV f g δ S = (f δ S).bind fun x S1 => ((P.tru x).at_ S1).bind fun b S2 => if b then .ok (.bool true) S2 else g δ S2 := rfl
@[simp] theorem sIf_ap {f g : Sf α} : sIf fb f g δ S = (fb δ S).bind fun b S1 => if b then f δ S1 else g δ S1 := rfl
@[simp] theorem sNil_ap : sNil δ S = .ok [] S := rfl
@[simp] theorem sCons_ap : sCons f fl δ S = (f δ S).bind fun x S1 => (fl δ S1).bind fun xs S2 => .ok (x :: xs) S2 := rfl
@[simp] theorem sNext_ap : sNext δ S = .ok (.nx δ) S := rfl
@[simp] theorem sBrk_ap : sBrk δ S = .ok (.bk δ) S := rfl
@[simp] theorem sCnt_ap : sCnt δ S = .ok (.ct δ) S := rfl
@[simp] theorem sRet_ap : sRet f δ S = (f δ S).bind fun d S1 => .ok (.rt d) S1 := rfl
@[simp] theorem sSet_ap : sSet i f δ S = (f δ S).bind fun d S1 => .ok (.nx (δ.set i (.dat d))) S1 := rfl
@[simp] theorem sSetN_ap : sSetN i fl δ S = (fl δ S).bind fun d S1 => .ok (.nx (δ.set i (.own d))) S1 := rfl
@[simp] theorem sbIf_ap : sbIf fb fs gs δ S = (fb δ S).bind fun b S1 => if b then fs δ S1 else gs δ S1 := rfl
@[simp] theorem sSeq_ap : sSeq fs gs δ S = (fs δ S).bind fun o S1 => match o with | .nx δ' => gs δ' S1 | o => .ok o S1 := rfl
@[simp] theorem sFor_ap {tg} {vs : List Nat} : sFor fl tg fs vs δ S = (fl δ S).bind fun ds S1 => sForGo tg fs vs ds δ S1 := rfl
@[simp] theorem sForGo_nil {t} {vs : List Nat} : sForGo t fs vs [] δ S = .ok (.nx (fgt δ vs)) S := rfl
@[simp] theorem sLc_ap {tg} {c : Sf Bool} {vs : List Nat} : sLc fl tg c f vs δ S = (fl δ S).bind fun ds S1 => if ds.length ≤ LIM then sLcGo tg c f (fgt δ vs) ds S1 else .bad := rfl
@[simp] theorem sYes_ap : sYes δ S = .ok true S := rfl
@[simp] theorem sApp_ap : sApp i f δ S = (match δ[i]? with | some (SV.own ds) => (f δ S).bind fun d S1 => if ds.length < LIM then .ok (.nx (δ.set i (.own (ds ++ [d])))) S1 else .bad | _ => .bad) := rfl
@[simp] theorem sSetI_ap : sSetI i g f δ S = (match δ[i]? with | some (SV.own ds) => ((f δ S).bind fun d S1 => (g δ S1).bind fun k S2 => (match k with | .int k => (match ixN ds.length k with | some j => .ok (.nx (δ.set i (.own (ds.set j d)))) S2 | none => .bad) | _ => .bad)) | _ => .bad) := rfl
@[simp] theorem sCallN_ap {F} : sCallN n F fl δ S = (fl δ S).bind fun ds S1 => if ds.length = n then F ds S1 else .bad := rfl
@[simp] theorem sCallP_ap {F} : sCallP n F fl δ S = (fl δ S).bind fun ds S1 => (if ds.length = n then F ds else .bad).at_ S1 := rfl
@[simp] theorem sDisp_ap {ks} {f : DSt → R (List D)} : sDisp ks f δ S = ((f δ).at_ S).bind fun ds S1 => .ok (ob S1.length) (S1 ++ [.dct ((ks.map PyData.str).zip ds)]) := rfl
@[simp] theorem dCallSw_ap {F} {f : DSt → R (List D)} : dCallSw F f δ = (f δ).bind fun ds => if ds.length = 2 then F (P.swap ds) else .bad := rfl
@[simp] theorem swap_2 {a b : D} : P.swap [b, a] = [a, b] := rfl
@[simp] theorem dBits_ap {f : DSt → R D} : dBits f δ = (f δ).bind P.bits := rfl
@[simp] theorem addD_eq : P.addD x y = P.add (.d x) (.d y) := rfl
@[simp] theorem catD_eq : P.catD x y = P.catN (.d x) (.d y) := rfl
@[simp] theorem eqD_eq : P.eqD x y = P.eq (.d x) (.d y) := rfl
@[simp] theorem neD_eq : P.neD x y = P.ne (.d x) (.d y) := rfl
@[simp] theorem isND_eq : P.isND x = .ok (P.isN (.d x)) := rfl
@[simp] theorem notND_eq : P.notND x = .ok (P.notN (.d x)) := rfl
@[simp] theorem lenD_eq : P.lenD x = P.len (.d x) := rfl
@[simp] theorem toIntD_eq : P.toIntD x = P.toInt (.d x) := rfl
@[simp] theorem sliceD_eq {lo hi} : P.sliceD x lo hi = P.slice (.d x) lo hi := rfl
@[simp] theorem tupD_eq : P.tupD ds = if ds.length ≤ LIM then .ok (.tuple ds) else .bad := rfl
@[simp] theorem lstD_eq : P.lstD ds = if ds.length ≤ LIM then .ok (.list ds) else .bad := rfl
@[simp] theorem lstN_eq : P.lstN ds = if ds.length ≤ LIM then .ok ds else .bad := rfl
@[simp] theorem idxD_eq : P.idxD x y = P.idx (.d x) y := rfl
@[simp] theorem fre_eq : P.fre ds = .ok (.list ds) := rfl
@[simp] theorem notV_bool {b} : P.notV (.bool b) = .ok (.bool (!b)) := rfl
@[simp] theorem sIf_t {a b : Rs α} {t : Bool} (h : t = true) : (if t then a else b) = a := by simp [h]
end
end Dn

/-! what the laws' own small defs compute: numbers, draw -/
namespace DnL
open PySem PySem.Spec PyProof.Rows L2 Dn
def b_numbers : DSt → R Out := dSeq (dSetN 1 (dLstN dNil)) (dSeq (dFor (dItems (dSlice (dOp (dVar 0)) dNoPart (dPart (dC (.int 63))))) (gN 2) (dIf (dTru (dGe (dVar 2) (dPow (dC (.int 10)) (dC (.int 18))))) (dSeq (dSet 3 (dVar 2)) (dFor (dRng P.range1 (dCons (dC (.int 60)) dNil)) (gN 4) (dSeq (dIf (dTru (d2 P.eq (dOp (dVar 3)) (dOp (dC (.int 0))))) dBrk dNext) (dSeq (dApp 1 (dMod (dToInt (dOp (dVar 3))) (dC (.int 997)))) (dSet 3 (dDiv (dVar 3) (dC (.int 997)))))) [4])) (dFor (dRng P.range1 (dCons (dC (.int 4)) dNil)) (gN 4) (dSeq (dSet 5 (dMod (dToInt (dOp (dAdd (dOp (dAdd (dOp (dMul (dVar 2) (dC (.int 48271)))) (dOp (dMul (dVar 4) (dC (.int 69621)))))) (dOp (dC (.int 11)))))) (dC (.int 2147483647)))) (dApp 1 (dMod (dToInt (dOp (dAdd (dOp (dMul (dVar 5) (dC (.int 16807)))) (dOp (dVar 4))))) (dC (.int 2147483629))))) [4, 5])) [2, 3, 4, 5]) (dSeq (dIf (dTru (d2 P.eq (dOp (dLen (dVarO 1))) (dOp (dC (.int 0))))) (dApp 1 (dC (.int 0))) dNext) ((fun δ => (dRet (dVar 1)) (frz1 1 δ)))))
def b_draw : DSt → R Out := dSeq (dIf (dTru (dLt (dVar 1) (dLen (dOp (dVar 0))))) (dRet (dMod (dToInt (dOp (dIdx (dOp (dVar 0)) (dVar 1)))) (dVar 2))) dNext) (dSeq (dSet 3 (dMod (dToInt (dOp (dAdd (dOp (dAdd (dOp (dMul (dIdx (dOp (dVar 0)) (dMod (dToInt (dOp (dVar 1))) (dLen (dOp (dVar 0))))) (dC (.int 40692)))) (dOp (dMul (dVar 1) (dC (.int 7919)))))) (dOp (dC (.int 3)))))) (dC (.int 2147483399)))) (dRet (dMod (dToInt (dOp (dMod (dToInt (dOp (dAdd (dOp (dMul (dVar 3) (dC (.int 48271)))) (dOp (dVar 1))))) (dC (.int 2147483647))))) (dVar 2))))
def F_numbers : List D → R D := fun ds => (runF 6 b_numbers ds).noer
def F_draw : List D → R D := fun ds => (runF 4 b_draw ds).noer
theorem ge_cut (ns : List Int) : (Dn.cutD (ns.map PyData.int) none (some 63)) = (ns.take 63).map PyData.int := by
  unfold Dn.cutD
  rw [HT.sIx_none, show (some (63 : Int)) = some ((63 : Nat) : Int) from rfl, HT.sIx_nat]
  simp [List.map_take, Nat.min_comm]
theorem map_snoc (ms : List Int) (n : Int) : ms.map PyData.int ++ [PyData.int n] = (ms ++ [n]).map PyData.int := by simp
/-- the row grows by whole numbers alone -/
def Row (s : SV) (m : Nat) (a b : SV) (δ : DSt) : Prop := ∃ ms : List Int, δ = [s, .own (ms.map PyData.int), a, b, .no, .no] ∧ ms.length ≤ m
def RowL (s : SV) (m : Nat) (a : SV) (δ : DSt) : Prop := ∃ l : Int, Row s m a (.dat (.int l)) δ
def great : DSt → R Out := dSeq (dIf (dTru (d2 P.eq (dOp (dVar 3)) (dOp (dC (.int 0))))) dBrk dNext) (dSeq (dApp 1 (dMod (dToInt (dOp (dVar 3))) (dC (.int 997)))) (dSet 3 (dDiv (dVar 3) (dC (.int 997)))))
theorem great_ok (s : SV) (m : Nat) (hm : m ≤ 4000) (c l : Int) (ms : List Int) (hl : ms.length ≤ m) : ∃ δ', forGo (gN 4) great [4] (rngD 0 60) [s, .own (ms.map PyData.int), .dat (.int c), .dat (.int l), .no, .no] = .ok (.nx δ') ∧ RowL s (m + 60) (.dat (.int c)) δ' := by
  refine forGo_brk (fun i δ => i ≤ 60 ∧ RowL s (m + i) (.dat (.int c)) δ) (RowL s (m + 60) (.dat (.int c))) ⟨by decide, l, ms, rfl, hl⟩ (fun δ h => ?_) fun i d δ hd ⟨hi, l, ms, e, hl⟩ => ?_
  · rw [rngD_len] at h
    exact h.2
  · subst e
    obtain ⟨h60, rfl⟩ := rngD_mem hd
    have hlen : ms.length < 100000 := by omega
    by_cases h0 : l = 0
    · subst h0
      refine ⟨_, _, rfl, .inr ⟨by simp [great]; rfl, 0, ms, rfl, by omega⟩⟩
    · refine ⟨_, [s, .own ((ms ++ [l % 997]).map PyData.int), .dat (.int c), .dat (.int (l / 997)), .dat (.int (0 + (i : Nat))), .no], rfl, .inl ⟨.inl (by simp [great, h0, hlen]), by omega, _, _, rfl, by simp; omega⟩⟩
def small : DSt → R Out := dSeq (dSet 5 (dMod (dToInt (dOp (dAdd (dOp (dAdd (dOp (dMul (dVar 2) (dC (.int 48271)))) (dOp (dMul (dVar 4) (dC (.int 69621)))))) (dOp (dC (.int 11)))))) (dC (.int 2147483647)))) (dApp 1 (dMod (dToInt (dOp (dAdd (dOp (dMul (dVar 5) (dC (.int 16807)))) (dOp (dVar 4))))) (dC (.int 2147483629))))
theorem small1 (s : SV) (c j : Int) (ms : List D) (hlen : ms.length < 100000) : ∃ y z : Int, small [s, .own ms, .dat (.int c), .no, .dat (.int j), .no] = .ok (.nx [s, .own (ms ++ [.int y]), .dat (.int c), .no, .dat (.int j), .dat (.int z)]) := by
  refine ⟨((c * 48271 + j * 69621 + 11) % 2147483647 * 16807 + j) % 2147483629, (c * 48271 + j * 69621 + 11) % 2147483647, ?_⟩
  have m1 : ∀ x : Int, cMul x 48271 = true := fun x => mul_r (by decide) (by decide)
  have m2 : ∀ x : Int, cMul x 69621 = true := fun x => mul_r (by decide) (by decide)
  have m3 : ∀ x : Int, cMul x 16807 = true := fun x => mul_r (by decide) (by decide)
  simp [small, m1, m2, m3, hlen]
theorem small_ok (s : SV) (m : Nat) (hm : m ≤ 4000) (c : Int) (ms : List Int) (hl : ms.length ≤ m) : ∃ δ', forGo (gN 4) small [4, 5] (rngD 0 4) [s, .own (ms.map PyData.int), .dat (.int c), .no, .no, .no] = .ok (.nx δ') ∧ Row s (m + 4) (.dat (.int c)) .no δ' := by
  obtain ⟨δ', h1, h2, h3⟩ := forGo_inv (tg := gN 4) (b := small) (fs := [4, 5]) (ds := rngD 0 4) (δ := [s, .own (ms.map PyData.int), .dat (.int c), .no, .no, .no]) (fun i δ => i ≤ 4 ∧ Row s (m + i) (.dat (.int c)) .no δ) ⟨by decide, ms, rfl, hl⟩ fun i d δ hd ⟨hi, ms, e, hl⟩ => by
    subst e
    obtain ⟨h4, rfl⟩ := rngD_mem hd
    obtain ⟨y, z, h⟩ := small1 s c (0 + (i : Nat)) (ms.map PyData.int) (by simp; omega)
    exact ⟨_, _, rfl, .inl h, by omega, ms ++ [y], by rw [← map_snoc]; rfl, by simp; omega⟩
  exact ⟨δ', h1, by rw [rngD_len] at h3; exact h3⟩
theorem numbers_ok (ns : List Int) (hl : ns.length ≤ 63) : ∃ row : List Int, F_numbers [scr (ns.map PyData.int)] = .ok (.list (row.map PyData.int)) ∧ row ≠ [] ∧ row.length ≤ 3900 := by
  unfold F_numbers b_numbers
  simp only [runF, dSeq_ap, dSetN_ap, dLstN_ap, dNil_ap, R.bind_ok]
  rw [if_pos (by decide)]
  simp only [R.bind_ok, dFor_ap, dItems_ap, dSlice_ap, dOp_ap, dVar_ap, dNoPart_ap, dPart_ap, dC_ap]
  have s0 : (List.map SV.dat [scr (ns.map PyData.int)] ++ List.replicate (6 - [scr (ns.map PyData.int)].length) SV.no).set 1 (SV.own []) = [.dat (scr (ns.map PyData.int)), .own [], .no, .no, .no, .no] := rfl
  rw [s0]
  simp only [List.getElem?_cons_zero, R.bind_ok, part_int, slice_scr, ge_cut, items_lst]
  have L := forGo_inv (tg := gN 2) (fs := [2, 3, 4, 5]) (δ := [.dat (scr (ns.map PyData.int)), .own [], .no, .no, .no, .no]) (ds := (ns.take 63).map PyData.int)
    (b := dIf (dTru (dGe (dVar 2) (dPow (dC (.int 10)) (dC (.int 18))))) (dSeq (dSet 3 (dVar 2)) (dFor (dRng P.range1 (dCons (dC (.int 60)) dNil)) (gN 4) great [4])) (dFor (dRng P.range1 (dCons (dC (.int 4)) dNil)) (gN 4) small [4, 5]))
    (fun i δ => i ≤ 63 ∧ Row (.dat (scr (ns.map PyData.int))) (60 * i) .no .no δ) ⟨by decide, [], rfl, by simp⟩ fun i d δ hd ⟨_, ms, e, hlm⟩ => by
    subst e
    have hi : i < 63 := by
      have := (List.getElem?_eq_some_iff.mp hd).1
      simp at this
      omega
    obtain ⟨c, rfl⟩ : ∃ c : Int, d = .int c := by
      rw [List.getElem?_map] at hd
      cases q : (ns.take 63)[i]? with
      | none => rw [q] at hd; cases hd
      | some c => rw [q] at hd; exact ⟨c, (Option.some.inj hd).symm⟩
    by_cases hc : (10 : Int) ^ 18 ≤ c
    · obtain ⟨δ', h1, l, ms', rfl, h3⟩ := great_ok (.dat (scr (ns.map PyData.int))) (60 * i) (by omega) c c ms hlm
      refine ⟨_, [.dat (scr (ns.map PyData.int)), .own (ms'.map PyData.int), .dat (.int c), .dat (.int l), .no, .no], rfl, .inl ?_, by omega, ms', rfl, by omega⟩
      have hc' : (1000000000000000000 : Int) ≤ c := hc
      simp [hc', show Int.toNat 60 = 60 from rfl]
      rw [h1]
    · obtain ⟨δ', h1, ms', rfl, h3⟩ := small_ok (.dat (scr (ns.map PyData.int))) (60 * i) (by omega) c ms hlm
      refine ⟨_, [.dat (scr (ns.map PyData.int)), .own (ms'.map PyData.int), .dat (.int c), .no, .no, .no], rfl, .inl ?_, by omega, ms', rfl, by omega⟩
      have hc' : ¬ (1000000000000000000 : Int) ≤ c := hc
      simp [hc', show Int.toNat 4 = 4 from rfl]
      rw [h1]
  obtain ⟨δ', h1, h2, ms, rfl, h3⟩ := L
  unfold great small at h1
  rw [h1]
  simp only [R.bind_ok]
  by_cases hn : ms = []
  · subst hn
    exact ⟨[0], by simp, by simp, by simp⟩
  · have hn' : ¬ ms.length = 0 := by simpa using hn
    refine ⟨ms, by simp [hn], hn, by omega⟩
theorem draw_ok (row : List Int) (a k : Int) (hr : row ≠ []) (hl : row.length ≤ 100000) (h0 : 0 ≤ a) (hk : 0 < k) : ∃ n : Int, F_draw [.list (row.map PyData.int), .int a, .int k] = .ok (.int n) ∧ 0 ≤ n ∧ n < k := by
  have hk' : ¬ k = 0 := by omega
  have m1 : ∀ x : Int, cMul x 40692 = true := fun x => mul_r (by decide) (by decide)
  have m2 : ∀ x : Int, cMul x 7919 = true := fun x => mul_r (by decide) (by decide)
  have m3 : ∀ x : Int, cMul x 48271 = true := fun x => mul_r (by decide) (by decide)
  have hpos : 0 < row.length := List.length_pos_iff.mpr hr
  by_cases ha : a < row.length
  · obtain ⟨d, h1, h2⟩ := atI_in (xs := row.map PyData.int) (i := a) h0 (by simpa using ha)
    obtain ⟨c, _, rfl⟩ := List.mem_map.mp h2
    refine ⟨c % k, ?_, Int.emod_nonneg _ hk', Int.emod_lt_of_pos _ hk⟩
    simp [F_draw, runF, b_draw, ha, h1, hk]
  · obtain ⟨d, h1, h2⟩ := atI_in (xs := row.map PyData.int) (i := a % (row.length : Int)) (Int.emod_nonneg _ (by omega)) (by simpa using Int.emod_lt_of_pos a (by omega : (0 : Int) < row.length))
    obtain ⟨c, _, rfl⟩ := List.mem_map.mp h2
    have hp : (0 : Int) < row.length := by omega
    refine ⟨((c * 40692 + a * 7919 + 3) % 2147483399 * 48271 + a) % 2147483647 % k, ?_, Int.emod_nonneg _ hk', Int.emod_lt_of_pos _ hk⟩
    simp [F_draw, runF, b_draw, ha, h1, hk, m1, m2, m3, hpos]
end DnL

namespace Dn
open PySem PySem.Spec PyProof.Rows L2
section
variable {δ : DSt} {f g h : DSt → R D} {fo go : DSt → R Op} {fl gl : DSt → R (List D)} {i n : Nat} {d x y : D} {ds es : List D}
@[simp] theorem dChain_ap {a b} : dChain a b f g h δ = (f δ).bind fun x => (g δ).bind fun y => (P.cmp a x y).bind fun z => (P.tru z).bind fun q => if q then (h δ).bind fun w => P.cmp b y w else .ok (.bool false) := rfl
@[simp] theorem dYesN_ap : dYesN δ = .ok true := rfl
@[simp] theorem dLtG_ap : dLtG f g δ = (f δ).bind fun x => (g δ).bind fun y => P.ltG x y := rfl
@[simp] theorem dInS_ap {b} : dInS b f go δ = (f δ).bind fun x => (go δ).bind fun y => P.inS b x y := rfl
@[simp] theorem dKin_ap {b k} : dKin b k f δ = (f δ).bind (P.kin b k) := rfl
@[simp] theorem dKix_ap {k} : dKix k f δ = (f δ).bind (P.kix k) := rfl
@[simp] theorem dSorted_ap : dSorted fo δ = (fo δ).bind P.sortedN := rfl
@[simp] theorem kin_str {b k} {z : Str} : P.kin b k (.str z) = .ok (.bool (if b then !(klook k z).isSome else (klook k z).isSome)) := rfl
@[simp] theorem kix_str {k} {z : Str} : P.kix k (.str z) = (match klook k z with | some d => .ok d | none => .bad) := rfl
@[simp] theorem zipS_2 : P.zipS [x, y] = (P.items x).bind fun xs => (P.items y).bind fun ys => .ok (pairs xs ys) := rfl
@[simp] theorem ltG_int {i j : Int} : P.ltG (.int i) (.int j) = .ok (.bool (decide (i < j))) := rfl
@[simp] theorem len_str {z : Str} : P.len (.d (.str z)) = if z.length ≤ LIM then .ok (.int z.length) else .bad := rfl
@[simp] theorem idx_str' {z : Str} {i : Int} : P.idx (.d (.str z)) (.int i) = (if z.length ≤ LIM then (match atI z.cps.toList i with | some c => .ok (.str ⟨#[c]⟩) | none => .bad) else .bad) := rfl
@[simp] theorem str_int {i : Int} : P.str (.d (.int i)) = if i.natAbs.log2 < 1920 then .ok (.str (toString i)) else .bad := rfl
end
theorem lcGo_mapN {tg} {f : DSt → R D} {δ : DSt} {ds : List D} (k : D → D) (h : ∀ d, d ∈ ds → ∃ δ', tg d δ = some δ' ∧ f δ' = .ok (k d)) : lcGo tg dYesN f δ ds = .ok (ds.map k) := lcGo_map k h
/-- a list of truth values -/
theorem bools_map (ds : List D) (p : D → Bool) : bools? (ds.map fun d => PyData.bool (p d)) = some (ds.map p) := by
  induction ds with
  | nil => rfl
  | cons x xs ih =>
    show (bools? (xs.map _)).map _ = _
    rw [ih]
    rfl
theorem all_map (ds : List D) (p : D → Bool) : P.all (.d (.list (ds.map fun d => PyData.bool (p d)))) = .ok (.bool (ds.all p)) := by
  unfold P.all
  show (match bools? _ with | some bs => R.ok (PyData.bool (bs.all id)) | none => .bad) = _
  rw [bools_map]
  simp
theorem any_map (ds : List D) (p : D → Bool) : P.any (.d (.list (ds.map fun d => PyData.bool (p d)))) = .ok (.bool (ds.any p)) := by
  unfold P.any
  show (match bools? _ with | some bs => R.ok (PyData.bool (bs.any id)) | none => .bad) = _
  rw [bools_map]
  simp
theorem eq_str (a b : Str) (ha : PyData.strOk a = true) (hb : PyData.strOk b = true) : P.eq (.d (.str a)) (.d (.str b)) = .ok (.bool (a == b)) := by
  simp [P.eq, opD, SeqAt.shaped, PyData.canLay0, PyData.depth, PyData.eqv, ha, hb]
theorem ltG_tup {a b : List Int} : P.ltG (.tuple (a.map PyData.int)) (.tuple (b.map PyData.int)) = .ok (.bool (HT.lexLt a b)) := by
  unfold P.ltG
  show (match intsD (a.map PyData.int), intsD (b.map PyData.int) with | some a, some b => R.ok (PyData.bool (HT.lexLt a b)) | _, _ => .bad) = _
  rw [intsD_map, intsD_map]

/-! ### data without dicts whose texts and rows are not too long -/
mutual
def okD : D → Bool
  | .none => true
  | .bool _ => true
  | .int _ => true
  | .str z => decide (z.length ≤ 100000)
  | .list ds => decide (ds.length ≤ 100000) && okDs ds
  | .tuple ds => decide (ds.length ≤ 100000) && okDs ds
  | .dict _ => false
def okDs : List D → Bool
  | [] => true
  | d :: ds => okD d && okDs ds
end
theorem okDs_mem {d : D} : ∀ {ds : List D}, okDs ds = true → d ∈ ds → okD d = true
  | [], _, h => by cases h
  | x :: xs, h, m => by
    simp only [okDs, Bool.and_eq_true] at h
    rcases List.mem_cons.mp m with q | q
    · subst q; exact h.1
    · exact okDs_mem h.2 q
end Dn

namespace K71
open PySem PySem.Spec PyProof.Rows L2 Dn
abbrev N_first_apart : List Str := [(Str.ofString "chain"), (Str.ofString "other"), (Str.ofString "at"), (Str.ofString "one"), (Str.ofString "two")]
def l_first_apart_1 : DSt → R Out := dIf (dTru (d2 P.ne (dOp (dVar 3)) (dOp (dVar 4)))) (dRet (dVar 2)) dNext
def b_first_apart : DSt → R Out := dSeq (dFor (dRng P.ezS (dCons (dVar 0) (dCons (dVar 1) dNil))) (gT 2 (gsC (gN 2) (gsC (gT 2 (gsC (gN 3) (gsC (gN 4) gsN))) gsN))) l_first_apart_1 [2, 3, 4]) (dRet (dC .none))
def F_first_apart : List D → R D := fun ds => (runF 5 b_first_apart ds).noer
abbrev N_asked_places : List Str := [(Str.ofString "chain"), (Str.ofString "other"), (Str.ofString "low"), (Str.ofString "high"), (Str.ofString "middles"), (Str.ofString "middle")]
def w_asked_places_1 : DSt → R Bool := dTru (dLt (dVar 2) (dVar 3))
def l_asked_places_2 : DSt → R Out := dSeq (dSet 5 (dDiv (dAdd (dOp (dVar 2)) (dOp (dVar 3))) (dC (.int 2)))) (dSeq (dApp 4 (dVar 5)) (dIf (dTru (d2 P.eq (dOp (dIdx (dOp (dVar 0)) (dVar 5))) (dOp (dIdx (dOp (dVar 1)) (dVar 5))))) (dSet 2 (dAdd (dOp (dVar 5)) (dOp (dC (.int 1))))) (dSet 3 (dVar 5))))
def b_asked_places : DSt → R Out := dSeq (dSet 2 (dC (.int 0))) (dSeq (dSet 3 (dCall1 P.min2 (dCons (dLen (dOp (dVar 0))) (dCons (dLen (dOp (dVar 1))) dNil)))) (dSeq (dSetN 4 (dLstN dNil)) (dSeq (whGo w_asked_places_1 l_asked_places_2 [5] 1000) (dRet (d1 P.tuple (dVarO 4))))))
def F_asked_places : List D → R D := fun ds => (runF 6 b_asked_places ds).noer
abbrev N_law_mixed : List Str := [(Str.ofString "_law_number_here"), (Str.ofString "_law_turn"), (Str.ofString "_law_first"), (Str.ofString "_law_second")]
def b_law_mixed : DSt → R Out := dSeq (dSet 2 (dMod (dToInt (dOp (dAdd (dOp (dAdd (dOp (dMul (dVar 0) (dC (.int 48271)))) (dOp (dMul (dVar 1) (dC (.int 69621)))))) (dOp (dC (.int 11)))))) (dC (.int 2147483647)))) (dSeq (dSet 3 (dMod (dToInt (dOp (dAdd (dOp (dAdd (dOp (dMul (dVar 2) (dC (.int 16807)))) (dOp (dDiv (dVar 2) (dC (.int 127773)))))) (dOp (dMul (dVar 1) (dC (.int 271))))))) (dC (.int 1000003)))) (dRet (dMod (dToInt (dOp (dAdd (dOp (dMul (dVar 3) (dVar 3))) (dOp (dDiv (dVar 2) (dC (.int 1009))))))) (dC (.int 999983)))))
def F_law_mixed : List D → R D := fun ds => (runF 4 b_law_mixed ds).noer
abbrev N_law_tape : List Str := [(Str.ofString "_law_script")]
def b_law_tape : Sb := sRet (sDisp [(Str.ofString "cells"), (Str.ofString "at"), (Str.ofString "great"), (Str.ofString "left"), (Str.ofString "seed"), (Str.ofString "turn")] (dCons (dFre (dListN (dOp (dVar 0)))) (dCons (dC (.int 0)) (dCons (dC (.int 0)) (dCons (dC (.int 0)) (dCons (dC (.int 7)) (dCons (dC (.int 0)) dNil)))))))
def F_law_tape : List D → Sto → Rs D := fun ds S => (runS 1 b_law_tape ds S).noer
abbrev N_law_draw : List Str := [(Str.ofString "_law_tape_here"), (Str.ofString "_law_many"), (Str.ofString "_law_cell"), (Str.ofString "_law_digit")]
def b_law_draw : Sb := sSeq (sPut (sL (dVar 0)) (sL (dC (.str (Str.ofString "turn")))) (s2 P.addD (sGet (sL (dVar 0)) (sL (dC (.str (Str.ofString "turn"))))) (sL (dC (.int 1))))) (sSeq (sbIf (sAnd (s1 P.tru (s2 P.eqD (sGet (sL (dVar 0)) (sL (dC (.str (Str.ofString "left"))))) (sL (dC (.int 0))))) (s1 P.tru (s2 (P.cmp gLt) (sGet (sL (dVar 0)) (sL (dC (.str (Str.ofString "at"))))) (s1 P.lenD (sGet (sL (dVar 0)) (sL (dC (.str (Str.ofString "cells"))))))))) (sSeq (sSet 2 (s2 P.idxD (sGet (sL (dVar 0)) (sL (dC (.str (Str.ofString "cells"))))) (sGet (sL (dVar 0)) (sL (dC (.str (Str.ofString "at"))))))) (sSeq (sPut (sL (dVar 0)) (sL (dC (.str (Str.ofString "at")))) (s2 P.addD (sGet (sL (dVar 0)) (sL (dC (.str (Str.ofString "at"))))) (sL (dC (.int 1))))) (sSeq (sPut (sL (dVar 0)) (sL (dC (.str (Str.ofString "seed")))) (sCallP 2 F_law_mixed (sCons (s2 P.addD (sGet (sL (dVar 0)) (sL (dC (.str (Str.ofString "seed"))))) (sL (dVar 2))) (sCons (sGet (sL (dVar 0)) (sL (dC (.str (Str.ofString "at"))))) sNil)))) (sSeq (sPut (sL (dVar 0)) (sL (dC (.str (Str.ofString "left")))) (sL (dC (.int 4)))) (sbIf (sL (dTru (dGe (dVar 2) (dPow (dC (.int 10)) (dC (.int 18)))))) (sSeq (sPut (sL (dVar 0)) (sL (dC (.str (Str.ofString "great")))) (sL (dVar 2))) (sPut (sL (dVar 0)) (sL (dC (.str (Str.ofString "left")))) (sL (dC (.int 60))))) sNext))))) sNext) (sSeq (sbIf (s1 P.tru (s2 (P.cmp gGt) (sGet (sL (dVar 0)) (sL (dC (.str (Str.ofString "left"))))) (sL (dC (.int 0))))) (sPut (sL (dVar 0)) (sL (dC (.str (Str.ofString "left")))) (s2 P.sub (sGet (sL (dVar 0)) (sL (dC (.str (Str.ofString "left"))))) (sL (dC (.int 1))))) sNext) (sSeq (sbIf (s1 P.tru (s2 P.eqD (sGet (sL (dVar 0)) (sL (dC (.str (Str.ofString "great"))))) (sL (dC (.int 0))))) (sRet (s2 P.mod (s1 P.toIntD (sCallP 2 F_law_mixed (sCons (sGet (sL (dVar 0)) (sL (dC (.str (Str.ofString "seed"))))) (sCons (sGet (sL (dVar 0)) (sL (dC (.str (Str.ofString "turn"))))) sNil)))) (sL (dVar 1)))) sNext) (sSeq (sSet 3 (s2 P.mod (s1 P.toIntD (sGet (sL (dVar 0)) (sL (dC (.str (Str.ofString "great")))))) (sL (dC (.int 1009))))) (sSeq (sPut (sL (dVar 0)) (sL (dC (.str (Str.ofString "great")))) (s2 P.div (sGet (sL (dVar 0)) (sL (dC (.str (Str.ofString "great"))))) (sL (dC (.int 1009))))) (sSeq (sbIf (sOr (s1 P.tru (s2 P.eqD (sGet (sL (dVar 0)) (sL (dC (.str (Str.ofString "great"))))) (sL (dC (.int 0))))) (s1 P.tru (s2 P.eqD (sGet (sL (dVar 0)) (sL (dC (.str (Str.ofString "left"))))) (sL (dC (.int 0)))))) (sSeq (sPut (sL (dVar 0)) (sL (dC (.str (Str.ofString "great")))) (sL (dC (.int 0)))) (sPut (sL (dVar 0)) (sL (dC (.str (Str.ofString "left")))) (sL (dC (.int 0))))) sNext) (sRet (sL (dMod (dToInt (dOp (dVar 3))) (dVar 1))))))))))
def F_law_draw : List D → Sto → Rs D := fun ds S => (runS 4 b_law_draw ds S).noer
abbrev N_law_pick : List Str := [(Str.ofString "_law_tape_here"), (Str.ofString "_law_row")]
def b_law_pick : Sb := sRet (s2 P.idxD (sL (dVar 1)) (sCallN 2 F_law_draw (sCons (sL (dVar 0)) (sCons (sL (dLen (dOp (dVar 1)))) sNil))))
def F_law_pick : List D → Sto → Rs D := fun ds S => (runS 2 b_law_pick ds S).noer
abbrev N_law_number : List Str := [(Str.ofString "_law_tape_here"), (Str.ofString "_law_size")]
def b_law_number : Sb := sSeq (sbIf (sL (dTru (d2 P.eq (dOp (dVar 1)) (dOp (dC (.int 3)))))) (sSet 1 (sCallN 2 F_law_draw (sCons (sL (dVar 0)) (sCons (sL (dC (.int 3))) sNil)))) sNext) (sSeq (sbIf (sL (dTru (d2 P.eq (dOp (dVar 1)) (dOp (dC (.int 0)))))) (sRet (sCallN 2 F_law_draw (sCons (sL (dVar 0)) (sCons (sL (dC (.int 3))) sNil)))) sNext) (sSeq (sbIf (sL (dTru (d2 P.eq (dOp (dVar 1)) (dOp (dC (.int 1)))))) (sRet (s2 P.addD (s2 P.mul (sCallN 2 F_law_draw (sCons (sL (dVar 0)) (sCons (sL (dC (.int 1009))) sNil))) (sL (dC (.int 1009)))) (sCallN 2 F_law_draw (sCons (sL (dVar 0)) (sCons (sL (dC (.int 1009))) sNil))))) sNext) (sRet (s2 P.addD (sL (dPow (dC (.int 10)) (dC (.int 24)))) (sCallN 2 F_law_draw (sCons (sL (dVar 0)) (sCons (sL (dC (.int 1009))) sNil)))))))
def F_law_number : List D → Sto → Rs D := fun ds S => (runS 2 b_law_number ds S).noer
abbrev N_law_more : List Str := [(Str.ofString "_law_tape_here")]
def b_law_more : Sb := sRet (s2 P.idxD (sL (dLst (dCons (dC (.int 1)) (dCons (dC (.int 1)) (dCons (dC (.int 1)) (dCons (dC (.int 2)) (dCons (dC (.int 3)) (dCons (dC (.int 256)) (dCons (dPow (dC (.int 2)) (dC (.int 16))) (dCons (dPow (dC (.int 2)) (dC (.int 31))) (dCons (dSub (dPow (dC (.int 2)) (dC (.int 61))) (dC (.int 1))) (dCons (dPow (dC (.int 2)) (dC (.int 61))) (dCons (dPow (dC (.int 2)) (dC (.int 64))) (dCons (dPow (dC (.int 10)) (dC (.int 18))) (dCons (dC (.int 1000003)) dNil))))))))))))))) (sCallN 2 F_law_draw (sCons (sL (dVar 0)) (sCons (sL (dC (.int 13))) sNil))))
def F_law_more : List D → Sto → Rs D := fun ds S => (runS 1 b_law_more ds S).noer
abbrev N_law_spoilt : List Str := [(Str.ofString "_law_tape_here"), (Str.ofString "_law_chain"), (Str.ofString "_law_row"), (Str.ofString "_law_kind"), (Str.ofString "_law_k"), (Str.ofString "_law_at")]
def l_law_spoilt_1 : Sb := sSetI 2 (sL (dVar 4)) (s2 P.addD (sL (dIdx (dVarO 2) (dVar 4))) (sCallN 1 F_law_more (sCons (sL (dVar 0)) sNil)))
def l_law_spoilt_2 : Sb := sSeq (sSet 5 (sCallN 2 F_law_draw (sCons (sL (dVar 0)) (sCons (sL (dLen (dVarO 2))) sNil)))) (sSetI 2 (sL (dVar 5)) (s2 P.addD (sL (dIdx (dVarO 2) (dVar 5))) (sCallN 1 F_law_more (sCons (sL (dVar 0)) sNil))))
def b_law_spoilt : Sb := sSeq (sSetN 2 (sL (dListN (dOp (dVar 1))))) (sSeq (sSet 3 (sCallN 2 F_law_draw (sCons (sL (dVar 0)) (sCons (sL (dC (.int 4))) sNil)))) (sSeq (sbIf (sL (dOr (dTru (d2 P.eq (dVarO 2) (dOp (dLst dNil)))) (dTru (d2 P.eq (dOp (dVar 3)) (dOp (dC (.int 0))))))) ((fun δ S => (sRet (sL (dVar 2))) (frz1 2 δ) S)) sNext) (sSeq (sbIf (sL (dTru (d2 P.eq (dOp (dVar 3)) (dOp (dC (.int 1)))))) (sFor (s1 P.range2 (sCons (sCallN 2 F_law_draw (sCons (sL (dVar 0)) (sCons (sL (dLen (dVarO 2))) sNil))) (sCons (sL (dLen (dVarO 2))) sNil))) (gN 4) l_law_spoilt_1 [4]) sNext) (sSeq (sbIf (sL (dTru (d2 P.eq (dOp (dVar 3)) (dOp (dC (.int 2)))))) (sFor (s1 P.range1 (sCons (s2 P.addD (sL (dC (.int 1))) (sCallN 2 F_law_draw (sCons (sL (dVar 0)) (sCons (sL (dC (.int 3))) sNil)))) sNil)) (gN 4) l_law_spoilt_2 [4, 5]) sNext) (sSeq (sbIf (sL (dTru (d2 P.eq (dOp (dVar 3)) (dOp (dC (.int 3)))))) (sSeq (sSet 5 (s2 P.mul (sL (dSub (dLen (dVarO 2)) (dC (.int 1)))) (sCallN 2 F_law_draw (sCons (sL (dVar 0)) (sCons (sL (dC (.int 2))) sNil))))) (sSetI 2 (sL (dVar 5)) (s2 P.addD (sL (dIdx (dVarO 2) (dVar 5))) (sCallN 1 F_law_more (sCons (sL (dVar 0)) sNil))))) sNext) ((fun δ S => (sRet (sL (dVar 2))) (frz1 2 δ) S)))))))
def F_law_spoilt : List D → Sto → Rs D := fun ds S => (runS 6 b_law_spoilt ds S).noer
abbrev N_law_apart : List Str := [(Str.ofString "_law_chain"), (Str.ofString "_law_other"), (Str.ofString "_law_k")]
def l_law_apart_1 : DSt → R Out := dIf (dTru (d2 P.ne (dOp (dIdx (dOp (dVar 0)) (dVar 2))) (dOp (dIdx (dOp (dVar 1)) (dVar 2))))) (dRet (dVar 2)) dNext
def b_law_apart : DSt → R Out := dSeq (dFor (dRng P.range1 (dCons (dCall1 P.min2 (dCons (dLen (dOp (dVar 0))) (dCons (dLen (dOp (dVar 1))) dNil))) dNil)) (gN 2) l_law_apart_1 [2]) (dRet (dC .none))
def F_law_apart : List D → R D := fun ds => (runF 3 b_law_apart ds).noer
abbrev N_law_places : List Str := [(Str.ofString "_law_chain"), (Str.ofString "_law_other"), (Str.ofString "_law_low"), (Str.ofString "_law_high"), (Str.ofString "_law_places_here"), (Str.ofString "_law_k"), (Str.ofString "_law_middle")]
def l_law_places_1 : DSt → R Out := dSeq (dIf (dTru (dGe (dVar 2) (dVar 3))) dBrk dNext) (dSeq (dSet 6 (dDiv (dAdd (dOp (dVar 2)) (dOp (dVar 3))) (dC (.int 2)))) (dSeq (dApp 4 (dVar 6)) (dIf (dTru (d2 P.eq (dOp (dIdx (dOp (dVar 0)) (dVar 6))) (dOp (dIdx (dOp (dVar 1)) (dVar 6))))) (dSet 2 (dAdd (dOp (dVar 6)) (dOp (dC (.int 1))))) (dSet 3 (dVar 6)))))
def b_law_places : DSt → R Out := dSeq (dSet 2 (dC (.int 0))) (dSeq (dSet 3 (dCall1 P.min2 (dCons (dLen (dOp (dVar 0))) (dCons (dLen (dOp (dVar 1))) dNil)))) (dSeq (dSetN 4 (dLstN dNil)) (dSeq (dFor (dRng P.range1 (dCons (dAdd (dOp (dBits (dVar 3))) (dOp (dC (.int 1)))) dNil)) (gN 5) l_law_places_1 [5, 6]) ((fun δ => (dRet (dVar 4)) (frz1 4 δ))))))
def F_law_places : List D → R D := fun ds => (runF 7 b_law_places ds).noer
abbrev N_law_is_number : List Str := [(Str.ofString "_law_actual"), (Str.ofString "_law_due")]
def b_law_is_number : DSt → R Out := dRet (dAndV (dIsi "int" (dOp (dVar 0))) (dAndV (dNotV (dIsi "bool" (dOp (dVar 0)))) (d2 P.eq (dOp (dVar 0)) (dOp (dVar 1)))))
def F_law_is_number : List D → R D := fun ds => (runF 2 b_law_is_number ds).noer
abbrev N_law_right : List Str := [(Str.ofString "_law_chain"), (Str.ofString "_law_other"), (Str.ofString "_law_named"), (Str.ofString "_law_first"), (Str.ofString "_law_second"), (Str.ofString "_law_apart_here"), (Str.ofString "_law_asked"), (Str.ofString "_law_due"), (Str.ofString "_law_places_here"), (Str.ofString "_law_k")]
def l_law_right_1 : DSt → R Out := dIf (dNot (dTru (dCallN 2 F_law_is_number (dCons (dIdx (dOp (dVar 6)) (dVar 9)) (dCons (dIdx (dOp (dVar 8)) (dVar 9)) dNil))))) (dRet (dC (.bool false))) dNext
def b_law_right : DSt → R Out := dSeq (dSet 3 (dFre (dListN (dOp (dVar 0))))) (dSeq (dSet 4 (dFre (dListN (dOp (dVar 1))))) (dSeq (dIf (dTru (dVar 2)) (dSeq (dSet 5 (dCallSw F_first_apart (dCons (dVar 1) (dCons (dVar 0) dNil)))) (dSet 6 (dCallN 2 F_asked_places (dCons (dVar 0) (dCons (dVar 1) dNil))))) (dSeq (dSet 6 (dCallSw F_asked_places (dCons (dVar 1) (dCons (dVar 0) dNil)))) (dSet 5 (dCallN 2 F_first_apart (dCons (dVar 0) (dCons (dVar 1) dNil)))))) (dSeq (dSet 7 (dCallN 2 F_law_apart (dCons (dVar 3) (dCons (dVar 4) dNil)))) (dSeq (dIf (dTru (dIsN (dOp (dVar 7)))) (dIf (dTru (dNotN (dOp (dVar 5)))) (dRet (dC (.bool false))) dNext) (dIf (dNot (dTru (dCallN 2 F_law_is_number (dCons (dVar 5) (dCons (dVar 7) dNil))))) (dRet (dC (.bool false))) dNext)) (dSeq (dSet 8 (dCallN 2 F_law_places (dCons (dVar 3) (dCons (dVar 4) dNil)))) (dSeq (dIf (dOr (dNot (dTru (dIsi "tuple" (dOp (dVar 6))))) (dTru (d2 P.ne (dOp (dLen (dOp (dVar 6)))) (dOp (dLen (dOp (dVar 8))))))) (dRet (dC (.bool false))) dNext) (dSeq (dFor (dRng P.range1 (dCons (dLen (dOp (dVar 8))) dNil)) (gN 9) l_law_right_1 [9]) (dRet (dAndV (d2 P.eq (dOp (dFre (dListN (dOp (dVar 0))))) (dOp (dVar 3))) (d2 P.eq (dOp (dFre (dListN (dOp (dVar 1))))) (dOp (dVar 4))))))))))))
def F_law_right : List D → R D := fun ds => (runF 10 b_law_right ds).noer
abbrev N_law_passed : List Str := [(Str.ofString "_law_tape_here"), (Str.ofString "_law_row")]
def b_law_passed : Sb := sSeq (sbIf (s1 P.tru (s2 P.eqD (sCallN 2 F_law_draw (sCons (sL (dVar 0)) (sCons (sL (dC (.int 2))) sNil))) (sL (dC (.int 1))))) (sRet (sL (d1 P.tuple (dOp (dVar 1))))) sNext) (sRet (sL (dFre (dListN (dOp (dVar 1))))))
def F_law_passed : List D → Sto → Rs D := fun ds S => (runS 2 b_law_passed ds S).noer
abbrev N_law : List Str := [(Str.ofString "_law_script"), (Str.ofString "_law_tape_here"), (Str.ofString "_law_many"), (Str.ofString "_law_size"), (Str.ofString "_law_chain"), (Str.ofString "_law_other"), (Str.ofString "_law_cut"), (Str.ofString "_law_changed"), (Str.ofString "_law_at"), (Str.ofString "_law_k")]
def c_law_1 : Sf Bool := fun δ S => (sYes δ S).noer
def e_law_2 : Sf D := fun δ S => ((sCallN 2 F_law_number (sCons (sL (dVar 1)) (sCons (sL (dVar 3)) sNil))) δ S).noer
def c_law_3 : Sf Bool := fun δ S => (sYes δ S).noer
def e_law_4 : Sf D := fun δ S => ((sCallN 2 F_law_number (sCons (sL (dVar 1)) (sCons (sL (dVar 3)) sNil))) δ S).noer
def c_law_5 : Sf Bool := fun δ S => (sYes δ S).noer
def e_law_6 : Sf D := fun δ S => ((sCallN 2 F_law_number (sCons (sL (dVar 1)) (sCons (sL (dVar 3)) sNil))) δ S).noer
def b_law : Sb := sSeq (sSet 1 (sCallN 1 F_law_tape (sCons (sL (dVar 0)) sNil))) (sSeq (sSet 2 (sCallN 2 F_law_draw (sCons (sL (dVar 1)) (sCons (sL (dC (.int 8))) sNil)))) (sSeq (sSet 3 (sCallN 2 F_law_draw (sCons (sL (dVar 1)) (sCons (sL (dC (.int 16))) sNil)))) (sSeq (sbIf (sL (dTru (d2 P.eq (dOp (dMod (dToInt (dOp (dVar 3))) (dC (.int 4)))) (dOp (dC (.int 1)))))) (sSet 2 (sCallN 2 F_law_draw (sCons (sL (dVar 1)) (sCons (sL (dC (.int 61))) sNil)))) sNext) (sSeq (sbIf (sL (dTru (d2 P.eq (dOp (dVar 3)) (dOp (dC (.int 2)))))) (sSet 2 (sCallN 2 F_law_draw (sCons (sL (dVar 1)) (sCons (sL (dC (.int 301))) sNil)))) sNext) (sSeq (sSet 3 (sCallN 2 F_law_draw (sCons (sL (dVar 1)) (sCons (sL (dC (.int 4))) sNil)))) (sSeq (sSetN 4 (sLc (sL (dRng P.range1 (dCons (dVar 2) dNil))) (gN 9) c_law_1 e_law_2 [9])) ((fun δ S => (sSeq (sSet 5 (sCallN 2 F_law_spoilt (sCons (sL (dVar 1)) (sCons (sL (dVar 4)) sNil)))) (sSeq (sbIf (s1 P.tru (s2 P.eqD (sCallN 2 F_law_draw (sCons (sL (dVar 1)) (sCons (sL (dC (.int 8))) sNil))) (sL (dC (.int 1))))) (sSetN 5 (sLc (sL (dRng P.range1 (dCons (dVar 2) dNil))) (gN 9) c_law_3 e_law_4 [9])) sNext) (sSeq (sSet 6 (sCallN 2 F_law_draw (sCons (sL (dVar 1)) (sCons (sL (dC (.int 6))) sNil)))) (sSeq (sbIf (sL (dTru (d2 P.eq (dOp (dVar 6)) (dOp (dC (.int 0)))))) ((fun δ S => (sSet 4 (s3 P.sliceD (sL (dVar 4)) (sL dNoPart) (s1 P.part (sCallN 2 F_law_draw (sCons (sL (dVar 1)) (sCons (sL (dAdd (dOp (dVar 2)) (dOp (dC (.int 1))))) sNil)))))) (frz1 4 δ) S)) sNext) (sSeq (sbIf (sL (dTru (d2 P.eq (dOp (dVar 6)) (dOp (dC (.int 1)))))) ((fun δ S => (sSet 5 (s3 P.sliceD (sL (dVar 5)) (sL dNoPart) (s1 P.part (sCallN 2 F_law_draw (sCons (sL (dVar 1)) (sCons (sL (dAdd (dOp (dVar 2)) (dOp (dC (.int 1))))) sNil)))))) (frz1 5 δ) S)) sNext) (sSeq (sbIf (sL (dTru (dInS false (dVar 6) (dOp (dTup (dCons (dC (.int 2)) (dCons (dC (.int 3)) dNil))))))) ((fun δ S => (sSetN 5 (s2 P.catD (sL (dVar 5)) (s1 P.fre (sLc (s1 P.range1 (sCons (s2 P.addD (sL (dC (.int 1))) (sCallN 2 F_law_draw (sCons (sL (dVar 1)) (sCons (sL (dC (.int 4))) sNil)))) sNil)) (gN 9) c_law_5 e_law_6 [9])))) (frz1 5 δ) S)) sNext) ((fun δ S => ((fun δ S => (sSeq (sbIf (sNot (s1 P.tru (sCallP 3 F_law_right (sCons (sCallN 2 F_law_passed (sCons (sL (dVar 1)) (sCons (sL (dVar 4)) sNil))) (sCons (sCallN 2 F_law_passed (sCons (sL (dVar 1)) (sCons (sL (dVar 5)) sNil))) (sCons (sL (dC (.bool true))) sNil)))))) (sRet (sL (dC (.bool false)))) sNext) ((fun δ S => ((fun δ S => (sSeq (sbIf (sNot (s1 P.tru (sCallP 3 F_law_right (sCons (sCallN 2 F_law_passed (sCons (sL (dVar 1)) (sCons (sL (dVar 5)) sNil))) (sCons (sCallN 2 F_law_passed (sCons (sL (dVar 1)) (sCons (sL (dVar 4)) sNil))) (sCons (sL (dC (.bool false))) sNil)))))) (sRet (sL (dC (.bool false)))) sNext) (sSeq (sSetN 7 (sL (dListN (dVarO 5)))) ((fun δ S => (sSeq (sbIf (sL (dLendT [7] (dOr (dNot (dTru (dCallN 3 F_law_right (dCons (dVar 4) (dCons (dVar 7) (dCons (dC (.bool false)) dNil)))))) (dNot (dTru (dCallN 3 F_law_right (dCons (dVar 7) (dCons (dVar 4) (dCons (dC (.bool true)) dNil))))))))) (sRet (sL (dC (.bool false)))) sNext) (sSeq (sbIf (sAnd (sL (dTru (d2 P.ne (dVarO 7) (dOp (dLst dNil))))) (s1 P.tru (s2 (P.cmp gGt) (sCallN 2 F_law_draw (sCons (sL (dVar 1)) (sCons (sL (dC (.int 3))) sNil))) (sL (dC (.int 0)))))) (sSeq (sSet 8 (sCallN 2 F_law_draw (sCons (sL (dVar 1)) (sCons (sL (dLen (dVarO 7))) sNil)))) (sSetI 7 (sL (dVar 8)) (s2 P.addD (sL (dIdx (dVarO 7) (dVar 8))) (sCallN 1 F_law_more (sCons (sL (dVar 1)) sNil))))) (sApp 7 (sCallN 2 F_law_number (sCons (sL (dVar 1)) (sCons (sL (dVar 3)) sNil))))) ((fun δ S => ((fun δ S => (sSeq (sbIf (sL (dOr (dNot (dTru (dCallN 3 F_law_right (dCons (dVar 4) (dCons (dVar 7) (dCons (dC (.bool true)) dNil)))))) (dNot (dTru (dCallN 3 F_law_right (dCons (dVar 7) (dCons (dVar 4) (dCons (dC (.bool false)) dNil)))))))) (sRet (sL (dC (.bool false)))) sNext) ((fun δ S => (sRet (sL (dAndV (dCallN 3 F_law_right (dCons (d1 P.tuple (dVarO 4)) (dCons (d1 P.tuple (dVarO 5)) (dCons (dC (.bool true)) dNil)))) (dCallN 3 F_law_right (dCons (dVar 7) (dCons (dVar 7) (dCons (dC (.bool false)) dNil))))))) (frz1 7 δ) S))) (frz1 4 δ) S)) (frz1 7 δ) S)))) (frz1 4 δ) S)))) (frz1 5 δ) S)) (frz1 4 δ) S))) (frz1 4 δ) S)) (frz1 5 δ) S)))))))) (frz1 4 δ) S))))))))
def F_law : List D → Sto → Rs D := fun ds S => (runS 10 b_law ds S).noer
end K71

namespace K71
open PySem PySem.Spec PyProof.Rows L2 Dn
/-! the tape -/
abbrev ci (cs : List Int) : D := .list (cs.map PyData.int)
def tp (cs : List Int) (a g l s t : Int) : Sto := [.dct [(.str (Str.ofString "cells"), ci cs), (.str (Str.ofString "at"), .int a), (.str (Str.ofString "great"), .int g), (.str (Str.ofString "left"), .int l), (.str (Str.ofString "seed"), .int s), (.str (Str.ofString "turn"), .int t)]]
section
variable {cs : List Int} {a g l s t v : Int}
theorem ob_0 : obN (ob 0) = some 0 := rfl
theorem g_cells : stGet (tp cs a g l s t) (ob 0) (.str (Str.ofString "cells")) = .ok (ci cs) := rfl
theorem g_at : stGet (tp cs a g l s t) (ob 0) (.str (Str.ofString "at")) = .ok (.int a) := by rfl
theorem g_great : stGet (tp cs a g l s t) (ob 0) (.str (Str.ofString "great")) = .ok (.int g) := by rfl
theorem g_left : stGet (tp cs a g l s t) (ob 0) (.str (Str.ofString "left")) = .ok (.int l) := by rfl
theorem g_seed : stGet (tp cs a g l s t) (ob 0) (.str (Str.ofString "seed")) = .ok (.int s) := by rfl
theorem g_turn : stGet (tp cs a g l s t) (ob 0) (.str (Str.ofString "turn")) = .ok (.int t) := by rfl
theorem p_at : stPut (tp cs a g l s t) (ob 0) (.str (Str.ofString "at")) (.int v) = some (tp cs v g l s t) := by rfl
theorem p_great : stPut (tp cs a g l s t) (ob 0) (.str (Str.ofString "great")) (.int v) = some (tp cs a v l s t) := by rfl
theorem p_left : stPut (tp cs a g l s t) (ob 0) (.str (Str.ofString "left")) (.int v) = some (tp cs a g v s t) := by rfl
theorem p_seed : stPut (tp cs a g l s t) (ob 0) (.str (Str.ofString "seed")) (.int v) = some (tp cs a g l v t) := by rfl
theorem p_turn : stPut (tp cs a g l s t) (ob 0) (.str (Str.ofString "turn")) (.int v) = some (tp cs a g l s v) := by rfl
end
/-- mixed -/
theorem mixed_ok (x y : Int) : ∃ n : Int, F_law_mixed [.int x, .int y] = .ok (.int n) := by
  have m1 : ∀ x : Int, cMul x 48271 = true := fun x => mul_r (by decide) (by decide)
  have m2 : ∀ x : Int, cMul x 69621 = true := fun x => mul_r (by decide) (by decide)
  have m3 : ∀ x : Int, cMul x 16807 = true := fun x => mul_r (by decide) (by decide)
  have m4 : ∀ x : Int, cMul x 271 = true := fun x => mul_r (by decide) (by decide)
  have m5 : ∀ x : Int, cMul (x % 1000003) (x % 1000003) = true := fun x => mul_r (by have := Int.emod_nonneg x (b := 1000003) (by decide); omega) (by have := Int.emod_lt_of_pos x (b := 1000003) (by decide); omega)
  have z : ∃ d, F_law_mixed [.int x, .int y] = .ok d ∧ ∃ n : Int, d = .int n := by
    refine ⟨_, by simp [F_law_mixed, runF, b_law_mixed, m1, m2, m3, m4, m5]; rfl, _, rfl⟩
  obtain ⟨d, e, n, rfl⟩ := z
  exact ⟨n, e⟩
/-- what stands of the tape -/
def Tp (cs : List Int) (S : Sto) : Prop := ∃ a g l s t : Int, S = tp cs a g l s t ∧ 0 ≤ a
theorem draw_parts (cs : List Int) (k : Int) (hk : 0 < k) : ∃ A B T, b_law_draw = sSeq A (sSeq B T) ∧
    (∀ a g l s t : Int, A [.dat (ob 0), .dat (.int k), .no, .no] (tp cs a g l s t) = .ok (.nx [.dat (ob 0), .dat (.int k), .no, .no]) (tp cs a g l s (t + 1))) ∧
    (∀ a g l s t : Int, 0 ≤ a → ∃ (c : SV) (a' g' l' s' : Int), B [.dat (ob 0), .dat (.int k), .no, .no] (tp cs a g l s t) = .ok (.nx [.dat (ob 0), .dat (.int k), c, .no]) (tp cs a' g' l' s' t) ∧ 0 ≤ a') ∧
    (∀ (c : SV) (a g l s t : Int), 0 ≤ a → ∃ (n : Int) (S' : Sto), T [.dat (ob 0), .dat (.int k), c, .no] (tp cs a g l s t) = .ok (.rt (.int n)) S' ∧ Tp cs S' ∧ 0 ≤ n ∧ n < k) := by
  have hk' : ¬ k = 0 := by omega
  have R : ∀ x : Int, 0 ≤ x % k ∧ x % k < k := fun x => ⟨Int.emod_nonneg _ hk', Int.emod_lt_of_pos _ hk⟩
  refine ⟨_, _, _, rfl, fun a g l s t => ?_, fun a g l s t h0 => ?_, fun c a g l s t h0 => ?_⟩
  · simp [g_turn, p_turn]
  · by_cases c1 : l = 0 ∧ a < cs.length
    · obtain ⟨c1, c2⟩ := c1
      subst c1
      obtain ⟨d, e1, e2⟩ := atI_in (xs := cs.map PyData.int) (i := a) h0 (by simpa using c2)
      obtain ⟨c, _, rfl⟩ := List.mem_map.mp e2
      obtain ⟨m, hm⟩ := mixed_ok (s + c) (a + 1)
      by_cases hc : (1000000000000000000 : Int) ≤ c
      · exact ⟨.dat (.int c), a + 1, c, 60, m, by simp [g_cells, g_at, g_great, g_left, g_seed, g_turn, p_at, p_great, p_left, p_seed, p_turn, e1, c2, hm, hc], by omega⟩
      · exact ⟨.dat (.int c), a + 1, g, 4, m, by simp [g_cells, g_at, g_great, g_left, g_seed, g_turn, p_at, p_great, p_left, p_seed, p_turn, e1, c2, hm, hc], by omega⟩
    · refine ⟨.no, a, g, l, s, ?_, h0⟩
      by_cases c2 : l = 0
      · have c3 : ¬ a < cs.length := fun q => c1 ⟨c2, q⟩
        subst c2
        simp [g_cells, g_at, g_left, c3]
      · simp [g_cells, g_at, g_left, c2]
  · obtain ⟨m, hm⟩ := mixed_ok s t
    by_cases hl : 0 < l
    · by_cases hg : g = 0
      · subst hg
        exact ⟨m % k, tp cs a 0 (l - 1) s t, by simp [g_cells, g_at, g_great, g_left, g_seed, g_turn, p_at, p_great, p_left, p_seed, p_turn, hm, hk, hl], ⟨_, _, _, _, _, rfl, h0⟩, R _⟩
      · by_cases h2 : g / 1009 = 0
        · exact ⟨g % 1009 % k, tp cs a 0 0 s t, by simp [g_cells, g_at, g_great, g_left, g_seed, g_turn, p_at, p_great, p_left, p_seed, p_turn, hm, hk, hl, hg, h2], ⟨_, _, _, _, _, rfl, h0⟩, R _⟩
        · by_cases h3 : l - 1 = 0
          · exact ⟨g % 1009 % k, tp cs a 0 0 s t, by simp [g_cells, g_at, g_great, g_left, g_seed, g_turn, p_at, p_great, p_left, p_seed, p_turn, hm, hk, hl, hg, h2, h3], ⟨_, _, _, _, _, rfl, h0⟩, R _⟩
          · exact ⟨g % 1009 % k, tp cs a (g / 1009) (l - 1) s t, by simp [g_cells, g_at, g_great, g_left, g_seed, g_turn, p_at, p_great, p_left, p_seed, p_turn, hm, hk, hl, hg, h2, h3], ⟨_, _, _, _, _, rfl, h0⟩, R _⟩
    · by_cases hg : g = 0
      · subst hg
        exact ⟨m % k, tp cs a 0 l s t, by simp [g_cells, g_at, g_great, g_left, g_seed, g_turn, p_at, p_great, p_left, p_seed, p_turn, hm, hk, hl], ⟨_, _, _, _, _, rfl, h0⟩, R _⟩
      · by_cases h2 : g / 1009 = 0
        · exact ⟨g % 1009 % k, tp cs a 0 0 s t, by simp [g_cells, g_at, g_great, g_left, g_seed, g_turn, p_at, p_great, p_left, p_seed, p_turn, hm, hk, hl, hg, h2], ⟨_, _, _, _, _, rfl, h0⟩, R _⟩
        · by_cases h3 : l = 0
          · exact ⟨g % 1009 % k, tp cs a 0 0 s t, by simp [g_cells, g_at, g_great, g_left, g_seed, g_turn, p_at, p_great, p_left, p_seed, p_turn, hm, hk, hl, hg, h2, h3], ⟨_, _, _, _, _, rfl, h0⟩, R _⟩
          · exact ⟨g % 1009 % k, tp cs a (g / 1009) l s t, by simp [g_cells, g_at, g_great, g_left, g_seed, g_turn, p_at, p_great, p_left, p_seed, p_turn, hm, hk, hl, hg, h2, h3], ⟨_, _, _, _, _, rfl, h0⟩, R _⟩
theorem draw_ok {cs : List Int} {S : Sto} (h : Tp cs S) {k : Int} (hk : 0 < k) : ∃ (n : Int) (S' : Sto), F_law_draw [ob 0, .int k] S = .ok (.int n) S' ∧ Tp cs S' ∧ 0 ≤ n ∧ n < k := by
  obtain ⟨a, g, l, s, t, rfl, h0⟩ := h
  obtain ⟨A, B, T, e, hA, hB, hT⟩ := draw_parts cs k hk
  obtain ⟨c, a', g', l', s', eB, h1⟩ := hB a g l s (t + 1) h0
  obtain ⟨n, S', eT, r⟩ := hT c a' g' l' s' (t + 1) h1
  refine ⟨n, S', ?_, r⟩
  simp [F_law_draw, runS, e, hA, eB, eT]
end K71

namespace K71
open PySem PySem.Spec PyProof.Rows L2 Dn
/-! whole numbers in rows -/
theorem lay_ints : ∀ cs : List Int, PyData.canLayAll0 (cs.map PyData.int) = true
  | [] => rfl
  | c :: cs => by simp [PyData.canLayAll0, PyData.canLay0, lay_ints cs]
theorem deep_ints : ∀ cs : List Int, PyData.depthAll (cs.map PyData.int) = 0
  | [] => rfl
  | c :: cs => by simp [PyData.depthAll, PyData.depth, deep_ints cs]
theorem eqv_ints : ∀ as bs : List Int, PyData.eqvAll (as.map PyData.int) (bs.map PyData.int) = decide (as = bs)
  | [], [] => rfl
  | [], b :: bs => by simp [PyData.eqvAll]
  | a :: as, [] => by simp [PyData.eqvAll]
  | a :: as, b :: bs => by
    simp only [List.map_cons, PyData.eqvAll, PyData.eqv, eqv_ints as bs, List.cons.injEq, Bool.decide_and]
    congr 1
theorem eq_ci (as bs : List Int) : P.eq (.d (ci as)) (.d (ci bs)) = .ok (.bool (decide (as = bs))) := by
  simp [P.eq, opD, SeqAt.shaped, PyData.canLay0, lay_ints, PyData.depth, deep_ints, PyData.eqv, eqv_ints]
theorem ne_ci (as bs : List Int) : P.ne (.d (ci as)) (.d (ci bs)) = .ok (.bool (!decide (as = bs))) := by
  simp [P.ne, opD, SeqAt.shaped, PyData.canLay0, lay_ints, PyData.depth, deep_ints, PyData.eqv, eqv_ints]
theorem eq_oci (as bs : List Int) : P.eq (.o (as.map PyData.int)) (.d (ci bs)) = .ok (.bool (decide (as = bs))) := eq_ci as bs
theorem ne_oci (as bs : List Int) : P.ne (.o (as.map PyData.int)) (.d (ci bs)) = .ok (.bool (!decide (as = bs))) := ne_ci as bs
/-- a list or a tuple of whole numbers -/
def Sq (x : D) (cs : List Int) : Prop := x = .list (cs.map PyData.int) ∨ x = .tuple (cs.map PyData.int)
def nth (xs : List Int) (m : Int) : Int := (xs[m.toNat]?).getD 0
theorem at_ints {xs : List Int} {m : Int} (h0 : 0 ≤ m) (h1 : m < xs.length) : atI (xs.map PyData.int) m = some (.int (nth xs m)) := by
  have hk : m.toNat < xs.length := by omega
  have e : m = ((m.toNat : Nat) : Int) := by omega
  have q : atI (xs.map PyData.int) ((m.toNat : Nat) : Int) = some (.int xs[m.toNat]) := atI_nat (by simp [hk])
  rw [← e] at q
  rw [q]
  simp [nth, hk]
theorem idx_sq {x : D} {xs : List Int} {m : Int} (s : Sq x xs) (h0 : 0 ≤ m) (h1 : m < xs.length) : P.idx (.d x) (.int m) = .ok (.int (nth xs m)) := by
  rcases s with rfl | rfl
  · exact idx_lst (at_ints h0 h1)
  · exact idx_tup (at_ints h0 h1)
theorem len_sq {x : D} {xs : List Int} (s : Sq x xs) : P.len (.d x) = .ok (.int xs.length) := by
  rcases s with rfl | rfl
  · rw [len_lst]; simp
  · rw [len_tup]; simp
theorem items_sq {x : D} {xs : List Int} (s : Sq x xs) : P.items x = .ok (xs.map PyData.int) := by
  rcases s with rfl | rfl <;> rfl
theorem list_sq {x : D} {xs : List Int} (s : Sq x xs) : P.listN (.d x) = .ok (xs.map PyData.int) := by
  rcases s with rfl | rfl <;> rfl
/-! the first place apart -/
def ap : Nat → List Int → List Int → Option Nat
  | i, a :: as, b :: bs => if a = b then ap (i + 1) as bs else some i
  | _, _, _ => none
def apD : Option Nat → D
  | some i => .int (i : Nat)
  | none => .none
theorem fa_loop (x y : SV) : ∀ (as bs : List Int) (i : Nat) (s2 s3 s4 : SV), forGo (gT 2 (gsC (gN 2) (gsC (gT 2 (gsC (gN 3) (gsC (gN 4) gsN))) gsN))) l_first_apart_1 [2, 3, 4] (numb i (pairs (as.map PyData.int) (bs.map PyData.int))) [x, y, s2, s3, s4] =
    match ap i as bs with
    | some k => .ok (.rt (.int (k : Nat)))
    | none => .ok (.nx [x, y, .no, .no, .no])
  | [], _, i, s2, s3, s4 => by simp [pairs, numb, ap]
  | _ :: _, [], i, s2, s3, s4 => by simp [pairs, numb, ap]
  | a :: as, b :: bs, i, s2, s3, s4 => by
    have ih := fa_loop x y as bs (i + 1) (.dat (.int (i : Nat))) (.dat (.int a)) (.dat (.int b))
    show forGo _ _ _ (.tuple [.int (i : Nat), .tuple [.int a, .int b]] :: numb (i + 1) (pairs (as.map PyData.int) (bs.map PyData.int))) _ = _
    rw [forGo_cons]
    by_cases h : a = b
    · subst h
      simp only [ap, if_true]
      rw [← ih]
      simp [l_first_apart_1]
    · simp [ap, h, l_first_apart_1]
theorem first_apart_ok {x y : D} {xs ys : List Int} (hx : Sq x xs) (hy : Sq y ys) : F_first_apart [x, y] = .ok (apD (ap 0 xs ys)) := by
  have z := fa_loop (.dat x) (.dat y) xs ys 0 .no .no .no
  simp only [F_first_apart, runF, b_first_apart, dSeq_ap, dFor_ap, dRng_ap, dCons_ap, dNil_ap, dVar_ap, P.ezS]
  simp [items_sq hx, items_sq hy, z, P.ezS]
  cases ap 0 xs ys <;> simp [apD]
theorem la_loop (xs ys : List Int) : ∀ (n i : Nat) (s2 : SV), i + n = min xs.length ys.length → forGo (gN 2) l_law_apart_1 [2] (rngD (i : Nat) n) [.dat (ci xs), .dat (ci ys), s2] =
    match ap i (xs.drop i) (ys.drop i) with
    | some k => .ok (.rt (.int (k : Nat)))
    | none => .ok (.nx [.dat (ci xs), .dat (ci ys), .no])
  | 0, i, s2, h => by
    have e : ap i (xs.drop i) (ys.drop i) = none := by
      by_cases hx : xs.length ≤ i
      · rw [List.drop_eq_nil_of_le hx]; rfl
      · have hy : ys.length ≤ i := by omega
        rw [List.drop_eq_nil_of_le hy]
        cases xs.drop i <;> rfl
    rw [e]
    simp [rngD]
  | n + 1, i, s2, h => by
    have hx : i < xs.length := by omega
    have hy : i < ys.length := by omega
    have e1 : rngD (i : Nat) (n + 1) = .int (i : Nat) :: rngD ((i + 1 : Nat) : Int) n := by
      simp only [rngD, List.range_succ_eq_map, List.map_cons, List.map_map]
      congr 1
      · apply List.map_congr_left
        intro k _
        show PyData.int _ = PyData.int _
        congr 1
        simp; omega
    have ih := la_loop xs ys n (i + 1) (.dat (.int (i : Nat))) (by omega)
    rw [e1, forGo_cons, ← List.getElem_cons_drop hx, ← List.getElem_cons_drop hy]
    have a1 : atI (xs.map PyData.int) ((i : Nat) : Int) = some (.int xs[i]) := atI_nat (by simp [hx])
    have a2 : atI (ys.map PyData.int) ((i : Nat) : Int) = some (.int ys[i]) := atI_nat (by simp [hy])
    by_cases q : xs[i] = ys[i]
    · simp only [ap, q, if_true]
      rw [← ih]
      simp [l_law_apart_1, a1, a2, q]
    · simp [ap, q, l_law_apart_1, a1, a2]
theorem min2_nat (n m : Nat) : P.min2 [.int (n : Nat), .int (m : Nat)] = .ok (.int ((min n m : Nat) : Int)) := by
  rw [min2_int]
  congr 2
  split <;> omega
theorem rngD_succ (i n : Nat) : rngD (i : Nat) (n + 1) = .int (i : Nat) :: rngD ((i + 1 : Nat) : Int) n := by
  simp only [rngD, List.range_succ_eq_map, List.map_cons, List.map_map]
  congr 1
  apply List.map_congr_left
  intro k _
  show PyData.int _ = PyData.int _
  congr 1
  simp; omega
theorem apart_ok (xs ys : List Int) (hx : xs.length ≤ 1000) (hy : ys.length ≤ 1000) : F_law_apart [ci xs, ci ys] = .ok (apD (ap 0 xs ys)) := by
  have z := la_loop xs ys (min xs.length ys.length) 0 .no (by omega)
  have e2 : min xs.length ys.length ≤ 100000 := by omega
  simp only [List.drop_zero] at z
  simp [F_law_apart, runF, b_law_apart, -min2_int, min2_nat]
  have e3 : (rngD 0 (min xs.length ys.length)) = rngD ((0 : Nat) : Int) (min xs.length ys.length) := rfl
  have e4 : (min (xs.length : Int) (ys.length : Int)) = ((min xs.length ys.length : Nat) : Int) := by omega
  simp only [e4, Int.natAbs_natCast, Int.toNat_natCast, e2, if_true, R.bind_ok, e3, z]
  cases ap 0 xs ys <;> simp [apD]
/-! halving -/
def hv (e : Int → Bool) : Nat → Int → Int → List Int
  | 0, _, _ => []
  | n + 1, lo, hi => if lo < hi then (lo + hi) / 2 :: (if e ((lo + hi) / 2) then hv e n ((lo + hi) / 2 + 1) hi else hv e n lo ((lo + hi) / 2)) else []
theorem hv_stable {e : Int → Bool} : ∀ {n : Nat} {lo hi : Int} (k : Nat), hi - lo < 2 ^ n → hv e (n + k) lo hi = hv e n lo hi
  | 0, lo, hi, k, h => by
    have : ¬ lo < hi := by omega
    cases k with
    | zero => rfl
    | succ k => simp [hv, this]
  | n + 1, lo, hi, k, h => by
    rw [show n + 1 + k = (n + k) + 1 by omega]
    unfold hv
    by_cases q : lo < hi
    · simp only [q, if_true]
      have p : (2 : Int) ^ (n + 1) = 2 * 2 ^ n := by rw [Int.pow_succ]; omega
      rw [hv_stable k (by omega), hv_stable k (by omega)]
    · simp only [q, if_false]
def Ok (x y : D) (xs ys : List Int) (m : Nat) : Prop := Sq x xs ∧ Sq y ys ∧ m = min xs.length ys.length
def same (xs ys : List Int) (m : Int) : Bool := nth xs m == nth ys m
theorem eqI (a b : Int) : P.eq (.d (.int a)) (.d (.int b)) = .ok (.bool (a == b)) := eq_int
theorem ask_loop {x y : D} {xs ys : List Int} (hx : Sq x xs) (hy : Sq y ys) : ∀ (n : Nat) (lo hi : Int) (ms : List Int) (s5 : SV) (f : Nat), 0 ≤ lo → hi ≤ xs.length → hi ≤ ys.length → hi - lo < 2 ^ n → ms.length + n < 100000 →
    ∃ lo' hi' : Int, whGo w_asked_places_1 l_asked_places_2 [5] (n + 1 + f) [.dat x, .dat y, .dat (.int lo), .dat (.int hi), .own (ms.map PyData.int), s5] = .ok (.nx [.dat x, .dat y, .dat (.int lo'), .dat (.int hi'), .own ((ms ++ hv (same xs ys) n lo hi).map PyData.int), .no])
  | 0, lo, hi, ms, s5, f, h0, h1, h2, h3, h4 => by
    have q : ¬ lo < hi := by omega
    exact ⟨lo, hi, by rw [show 0 + 1 + f = f + 1 by omega, whGo_succ]; simp [w_asked_places_1, q, hv]⟩
  | n + 1, lo, hi, ms, s5, f, h0, h1, h2, h3, h4 => by
    rw [show n + 1 + 1 + f = (n + 1 + f) + 1 by omega, whGo_succ]
    by_cases q : lo < hi
    · have p : (2 : Int) ^ (n + 1) = 2 * 2 ^ n := by rw [Int.pow_succ]; omega
      have ix := idx_sq hx (m := (lo + hi) / 2) (by omega) (by omega)
      have iy := idx_sq hy (m := (lo + hi) / 2) (by omega) (by omega)
      have hl : ms.length < 100000 := by omega
      unfold hv
      by_cases c : same xs ys ((lo + hi) / 2) = true
      · have c' : (nth xs ((lo + hi) / 2) == nth ys ((lo + hi) / 2)) = true := c
        obtain ⟨lo', hi', ih⟩ := ask_loop hx hy n ((lo + hi) / 2 + 1) hi (ms ++ [(lo + hi) / 2]) (.dat (.int ((lo + hi) / 2))) f (by omega) h1 h2 (by omega) (by simp; omega)
        refine ⟨lo', hi', ?_⟩
        simp only [q, c, if_true]
        rw [← List.append_cons] at ih
        rw [← ih]
        have e := eqI (nth xs ((lo + hi) / 2)) (nth ys ((lo + hi) / 2))
        rw [c'] at e
        simp [w_asked_places_1, l_asked_places_2, q, ix, iy, hl, -Dn.eq_int, e]
      · have c' : (nth xs ((lo + hi) / 2) == nth ys ((lo + hi) / 2)) = false := by simpa [same] using c
        obtain ⟨lo', hi', ih⟩ := ask_loop hx hy n lo ((lo + hi) / 2) (ms ++ [(lo + hi) / 2]) (.dat (.int ((lo + hi) / 2))) f (by omega) (by omega) (by omega) (by omega) (by simp; omega)
        refine ⟨lo', hi', ?_⟩
        have c2 : same xs ys ((lo + hi) / 2) = false := by simpa using c
        simp only [q, c2, if_true, Bool.false_eq_true, if_false]
        rw [← List.append_cons] at ih
        rw [← ih]
        have e := eqI (nth xs ((lo + hi) / 2)) (nth ys ((lo + hi) / 2))
        rw [c'] at e
        simp [w_asked_places_1, l_asked_places_2, q, ix, iy, hl, -Dn.eq_int, e]
    · exact ⟨lo, hi, by simp [w_asked_places_1, q, hv]⟩
end K71

namespace K71
open PySem PySem.Spec PyProof.Rows L2 Dn
def plc (xs ys : List Int) : List Int := hv (same xs ys) 10 0 ((min xs.length ys.length : Nat) : Int)
theorem asked_ok {x y : D} {xs ys : List Int} (hx : Sq x xs) (hy : Sq y ys) (lx : xs.length ≤ 1000) (ly : ys.length ≤ 1000) : F_asked_places [x, y] = .ok (.tuple ((plc xs ys).map PyData.int)) := by
  obtain ⟨lo, hi, z⟩ := ask_loop hx hy 10 0 ((min xs.length ys.length : Nat) : Int) [] .no 989 (by omega) (by omega) (by omega) (by omega) (by simp)
  have e : (10 + 1 + 989 : Nat) = 1000 := rfl
  rw [e] at z
  simp only [List.map_nil, List.nil_append] at z
  simp [F_asked_places, runF, b_asked_places, -min2_int, len_sq hx, len_sq hy]
  rw [min2_nat]
  simp [-min2_int]
  rw [z]
  rfl
theorem places_loop (xs ys : List Int) : ∀ (n k i : Nat) (lo hi : Int) (ms : List Int) (s5 s6 : SV), n ≤ k → 0 ≤ lo → hi ≤ xs.length → hi ≤ ys.length → hi - lo < 2 ^ n → ms.length + n < 100000 →
    ∃ lo' hi' : Int, forGo (gN 5) l_law_places_1 [5, 6] (rngD (i : Nat) k) [.dat (ci xs), .dat (ci ys), .dat (.int lo), .dat (.int hi), .own (ms.map PyData.int), s5, s6] = .ok (.nx [.dat (ci xs), .dat (ci ys), .dat (.int lo'), .dat (.int hi'), .own ((ms ++ hv (same xs ys) n lo hi).map PyData.int), .no, .no])
  | 0, 0, i, lo, hi, ms, s5, s6, hk, h0, h1, h2, h3, h4 => ⟨lo, hi, by simp [rngD, hv]⟩
  | 0, k + 1, i, lo, hi, ms, s5, s6, hk, h0, h1, h2, h3, h4 => by
    have q : hi ≤ lo := by omega
    exact ⟨lo, hi, by rw [rngD_succ, forGo_cons]; simp [l_law_places_1, q, hv]⟩
  | n + 1, 0, i, lo, hi, ms, s5, s6, hk, h0, h1, h2, h3, h4 => absurd hk (by omega)
  | n + 1, k + 1, i, lo, hi, ms, s5, s6, hk, h0, h1, h2, h3, h4 => by
    by_cases q : hi ≤ lo
    · have q' : ¬ lo < hi := by omega
      exact ⟨lo, hi, by rw [rngD_succ, forGo_cons]; simp [l_law_places_1, q, q', hv]⟩
    · have q' : lo < hi := by omega
      have p : (2 : Int) ^ (n + 1) = 2 * 2 ^ n := by rw [Int.pow_succ]; omega
      have ix := at_ints (xs := xs) (m := (lo + hi) / 2) (by omega) (by omega)
      have iy := at_ints (xs := ys) (m := (lo + hi) / 2) (by omega) (by omega)
      have hl : ms.length < 100000 := by omega
      have e := eqI (nth xs ((lo + hi) / 2)) (nth ys ((lo + hi) / 2))
      unfold hv
      by_cases c : same xs ys ((lo + hi) / 2) = true
      · have c' : (nth xs ((lo + hi) / 2) == nth ys ((lo + hi) / 2)) = true := c
        obtain ⟨lo', hi', ih⟩ := places_loop xs ys n k (i + 1) ((lo + hi) / 2 + 1) hi (ms ++ [(lo + hi) / 2]) (.dat (.int (i : Nat))) (.dat (.int ((lo + hi) / 2))) (by omega) (by omega) h1 h2 (by omega) (by simp; omega)
        refine ⟨lo', hi', ?_⟩
        simp only [q', c, if_true]
        rw [← List.append_cons] at ih
        rw [← ih]
        rw [c'] at e
        rw [rngD_succ, forGo_cons]
        simp [l_law_places_1, q, ix, iy, hl, -Dn.eq_int, e]
      · have c' : (nth xs ((lo + hi) / 2) == nth ys ((lo + hi) / 2)) = false := by simpa [same] using c
        have c2 : same xs ys ((lo + hi) / 2) = false := by simpa using c
        obtain ⟨lo', hi', ih⟩ := places_loop xs ys n k (i + 1) lo ((lo + hi) / 2) (ms ++ [(lo + hi) / 2]) (.dat (.int (i : Nat))) (.dat (.int ((lo + hi) / 2))) (by omega) (by omega) (by omega) (by omega) (by omega) (by simp; omega)
        refine ⟨lo', hi', ?_⟩
        simp only [q', c2, if_true, Bool.false_eq_true, if_false]
        rw [← List.append_cons] at ih
        rw [← ih]
        rw [c'] at e
        rw [rngD_succ, forGo_cons]
        simp [l_law_places_1, q, ix, iy, hl, -Dn.eq_int, e]
theorem places_ok (xs ys : List Int) (lx : xs.length ≤ 1000) (ly : ys.length ≤ 1000) : F_law_places [ci xs, ci ys] = .ok (ci (plc xs ys)) := by
  obtain ⟨m, hm⟩ : ∃ m : Nat, m = min xs.length ys.length := ⟨_, rfl⟩
  have b1 : Builtin.Int.intBits (m : Int) ≤ 10 := PySem.intBits_le_iff.mpr (by simp; omega)
  have b2 : (m : Int) < 2 ^ Builtin.Int.intBits (m : Int) := by
    have := PySem.intBits_le_iff.mp (Nat.le_refl (Builtin.Int.intBits (m : Int)))
    simp only [Int.natAbs_natCast] at this
    exact_mod_cast this
  generalize hb : Builtin.Int.intBits (m : Int) = b at b1 b2
  obtain ⟨lo, hi, z⟩ := places_loop xs ys b (b + 1) 0 0 (m : Int) [] .no .no (by omega) (by omega) (by omega) (by omega) (by omega) (by simp; omega)
  have e : plc xs ys = hv (same xs ys) b 0 (m : Int) := by
    have := hv_stable (e := same xs ys) (n := b) (lo := 0) (hi := (m : Int)) (10 - b) (by omega)
    rw [show b + (10 - b) = 10 by omega] at this
    unfold plc
    rw [← hm, this]
  simp only [List.map_nil, List.nil_append] at z
  simp [F_law_places, runF, b_law_places, -min2_int]
  rw [min2_nat, ← hm]
  simp [-min2_int, P.bits, hb]
  have t1 : ((b : Int) + 1).natAbs ≤ 100000 := by omega
  have t2 : ((b : Int) + 1).toNat = b + 1 := by omega
  simp only [t1, if_true, t2, R.bind_ok]
  have e3 : rngD 0 (b + 1) = rngD ((0 : Nat) : Int) (b + 1) := rfl
  rw [e3, z, e]
  simp
theorem is_number_ok (a b : Int) : F_law_is_number [.int a, .int b] = .ok (.bool (a == b)) := by
  simp [F_law_is_number, runF, b_law_is_number]
theorem right_loop (x y p3 p4 p5 p7 nm : SV) (ms : List Int) : ∀ (n i : Nat) (s9 : SV), i + n = ms.length → forGo (gN 9) l_law_right_1 [9] (rngD (i : Nat) n) [x, y, nm, p3, p4, p5, .dat (.tuple (ms.map PyData.int)), p7, .dat (ci ms), s9] = .ok (.nx [x, y, nm, p3, p4, p5, .dat (.tuple (ms.map PyData.int)), p7, .dat (ci ms), .no])
  | 0, i, s9, h => by simp [rngD]
  | n + 1, i, s9, h => by
    have ih := right_loop x y p3 p4 p5 p7 nm ms n (i + 1) (.dat (.int (i : Nat))) (by omega)
    have ix := at_ints (xs := ms) (m := (i : Nat)) (by omega) (by omega)
    rw [rngD_succ, forGo_cons, ← ih]
    simp [l_law_right_1, ix, is_number_ok]
theorem plc_len (xs ys : List Int) : (plc xs ys).length ≤ 10 := by
  have : ∀ (n : Nat) (lo hi : Int), (hv (same xs ys) n lo hi).length ≤ n := by
    intro n
    induction n with
    | zero => intro lo hi; simp [hv]
    | succ n ih =>
      intro lo hi
      unfold hv
      split
      · split
        · have := ih ((lo + hi) / 2 + 1) hi; simp; omega
        · have := ih lo ((lo + hi) / 2); simp; omega
      · simp
  exact this _ _ _
theorem right_ok {x y : D} {xs ys : List Int} (hx : Sq x xs) (hy : Sq y ys) (lx : xs.length ≤ 1000) (ly : ys.length ≤ 1000) (b : Bool) : F_law_right [x, y, .bool b] = .ok (.bool true) := by
  have f1 := first_apart_ok hx hy
  have f2 := asked_ok hx hy lx ly
  have f3 := apart_ok xs ys lx ly
  have f4 := places_ok xs ys lx ly
  have l1 := list_sq hx
  have l2 := list_sq hy
  have pl := plc_len xs ys
  have f1' : F_first_apart (P.swap [y, x]) = .ok (apD (ap 0 xs ys)) := f1
  have f2' : F_asked_places (P.swap [y, x]) = .ok (.tuple ((plc xs ys).map PyData.int)) := f2
  have e3 : ∀ k : Nat, rngD 0 k = rngD ((0 : Nat) : Int) k := fun _ => rfl
  have pl2 : ((plc xs ys).length : Int).natAbs ≤ 100000 := by omega
  have pl3 : (plc xs ys).length ≤ 100000 := by omega
  generalize plc xs ys = ms at f2 f2' f4 pl pl2 pl3
  cases b with
  | true =>
    cases q : ap 0 xs ys with
    | none =>
      rw [q] at f1 f1' f3
      simp only [apD] at f1 f1' f3
      simp [F_law_right, runF, b_law_right, l1, l2, f1, f1', f2, f2', f3, f4, P.isN, P.notN, pl3, e3, right_loop, eq_ci]
    | some k =>
      rw [q] at f1 f1' f3
      simp only [apD] at f1 f1' f3
      simp [F_law_right, runF, b_law_right, l1, l2, f1, f1', f2, f2', f3, f4, P.isN, P.notN, pl3, e3, right_loop, eq_ci, is_number_ok]
  | false =>
    cases q : ap 0 xs ys with
    | none =>
      rw [q] at f1 f1' f3
      simp only [apD] at f1 f1' f3
      simp [F_law_right, runF, b_law_right, l1, l2, f1, f1', f2, f2', f3, f4, P.isN, P.notN, pl3, e3, right_loop, eq_ci]
    | some k =>
      rw [q] at f1 f1' f3
      simp only [apD] at f1 f1' f3
      simp [F_law_right, runF, b_law_right, l1, l2, f1, f1', f2, f2', f3, f4, P.isN, P.notN, pl3, e3, right_loop, eq_ci, is_number_ok]
end K71

namespace K71
open PySem PySem.Spec PyProof.Rows L2 Dn
theorem tape_ok (ns : List Int) : ∃ S, F_law_tape [scr (ns.map PyData.int)] [] = .ok (ob 0) S ∧ Tp ns S := by
  refine ⟨tp ns 0 0 0 7 0, ?_, 0, 0, 0, 7, 0, rfl, Int.le_refl 0⟩
  rfl
theorem number_ok {cs : List Int} {S : Sto} (h : Tp cs S) (z : Int) : ∃ (n : Int) (S' : Sto), F_law_number [ob 0, .int z] S = .ok (.int n) S' ∧ Tp cs S' := by
  have m1 : ∀ x : Int, cMul x 1009 = true := fun x => mul_r (by decide) (by decide)
  have main : ∀ (z : Int) (S : Sto), Tp cs S → ∃ (n : Int) (S' : Sto), (sSeq (sbIf (sL (dTru (d2 P.eq (dOp (dVar 1)) (dOp (dC (.int 0)))))) (sRet (sCallN 2 F_law_draw (sCons (sL (dVar 0)) (sCons (sL (dC (.int 3))) sNil)))) sNext) (sSeq (sbIf (sL (dTru (d2 P.eq (dOp (dVar 1)) (dOp (dC (.int 1)))))) (sRet (s2 P.addD (s2 P.mul (sCallN 2 F_law_draw (sCons (sL (dVar 0)) (sCons (sL (dC (.int 1009))) sNil))) (sL (dC (.int 1009)))) (sCallN 2 F_law_draw (sCons (sL (dVar 0)) (sCons (sL (dC (.int 1009))) sNil))))) sNext) (sRet (s2 P.addD (sL (dPow (dC (.int 10)) (dC (.int 24)))) (sCallN 2 F_law_draw (sCons (sL (dVar 0)) (sCons (sL (dC (.int 1009))) sNil))))))) [.dat (ob 0), .dat (.int z)] S = .ok (.rt (.int n)) S' ∧ Tp cs S' := by
    intro z S h
    by_cases z0 : z = 0
    · subst z0
      obtain ⟨n, S1, e, h1, _, _⟩ := draw_ok h (k := 3) (by decide)
      exact ⟨n, S1, by simp [e], h1⟩
    · by_cases z1 : z = 1
      · subst z1
        obtain ⟨n, S1, e, h1, _, _⟩ := draw_ok h (k := 1009) (by decide)
        obtain ⟨n2, S2, e2, h2, _, _⟩ := draw_ok h1 (k := 1009) (by decide)
        exact ⟨n * 1009 + n2, S2, by simp [e, e2, m1], h2⟩
      · obtain ⟨n, S1, e, h1, _, _⟩ := draw_ok h (k := 1009) (by decide)
        exact ⟨10 ^ 24 + n, S1, by simp [e, z0, z1], h1⟩
  by_cases z3 : z = 3
  · subst z3
    obtain ⟨n, S1, e, h1, _, _⟩ := draw_ok h (k := 3) (by decide)
    obtain ⟨m, S2, e2, h2⟩ := main n S1 h1
    refine ⟨m, S2, ?_, h2⟩
    unfold F_law_number runS b_law_number
    rw [sSeq_ap]
    simp only [sbIf_ap, sSet_ap]
    simp [-sSeq_ap, -sbIf_ap, -sRet_ap, e]
    rw [e2]
    rfl
  · obtain ⟨m, S2, e2, h2⟩ := main z S h
    refine ⟨m, S2, ?_, h2⟩
    unfold F_law_number runS b_law_number
    rw [sSeq_ap]
    simp only [sbIf_ap, sSet_ap]
    simp [-sSeq_ap, -sbIf_ap, -sRet_ap, z3]
    rw [e2]
    rfl
theorem more_ok {cs : List Int} {S : Sto} (h : Tp cs S) : ∃ (n : Int) (S' : Sto), F_law_more [ob 0] S = .ok (.int n) S' ∧ Tp cs S' := by
  obtain ⟨n, S1, e, h1, n0, n1⟩ := draw_ok h (k := 13) (by decide)
  have n1' : n < ([1, 1, 1, 2, 3, 256, 2 ^ 16, 2 ^ 31, 2 ^ 61 - 1, 2 ^ 61, 2 ^ 64, 10 ^ 18, 1000003] : List Int).length := n1
  have z := at_ints n0 n1'
  generalize nth _ n = v at z
  refine ⟨v, S1, ?_, h1⟩
  simp only [List.map_cons, List.map_nil] at z
  simp [F_law_more, runS, b_law_more, e]
  simp at z
  rw [z]
  simp
theorem passed_ok {cs : List Int} {S : Sto} (h : Tp cs S) (xs : List Int) : ∃ (x : D) (S' : Sto), F_law_passed [ob 0, ci xs] S = .ok x S' ∧ Sq x xs ∧ Tp cs S' := by
  obtain ⟨n, S1, e, h1, n0, n1⟩ := draw_ok h (k := 2) (by decide)
  by_cases q : n = 1
  · exact ⟨.tuple (xs.map PyData.int), S1, by subst q; simp [F_law_passed, runS, b_law_passed, e], .inr rfl, h1⟩
  · exact ⟨ci xs, S1, by simp [F_law_passed, runS, b_law_passed, e, q], .inl rfl, h1⟩
/-- loops with a store -/
theorem sForGo_inv {tg : TGd} {b : Sb} {fs : List Nat} {ds : List D} {δ : DSt} {S : Sto} (I : Nat → DSt → Sto → Prop) (h0 : I 0 (fgt δ fs) S) (hs : ∀ i d δ S, ds[i]? = some d → I i δ S → ∃ δ1 δ2 S2, tg d δ = some δ1 ∧ b δ1 S = .ok (.nx δ2) S2 ∧ I (i + 1) (fgt δ2 fs) S2) :
    ∃ δ' S', sForGo tg b fs ds δ S = .ok (.nx δ') S' ∧ I ds.length δ' S' := by
  suffices H : ∀ (k : Nat) (es : List D) (δ : DSt) (S : Sto), ds.drop k = es → k ≤ ds.length → I k (fgt δ fs) S → ∃ δ' S', sForGo tg b fs es δ S = .ok (.nx δ') S' ∧ I ds.length δ' S' from H 0 ds δ S (by simp) (Nat.zero_le _) h0
  intro k es
  induction es generalizing k with
  | nil =>
    intro δ S hd hk hI
    have : k = ds.length := by have := congrArg List.length hd; simp at this; omega
    subst this
    exact ⟨_, _, rfl, hI⟩
  | cons x xs ih =>
    intro δ S hd hk hI
    have hlt : k < ds.length := by have := congrArg List.length hd; simp at this; omega
    have hx : ds[k]? = some x := by have := congrArg (·[0]?) hd; simpa using this
    have hxs : ds.drop (k + 1) = xs := by rw [← List.tail_drop, hd]; rfl
    obtain ⟨δ1, δ2, S2, h1, h2, h3⟩ := hs k x _ S hx hI
    rw [sForGo_cons, h1]
    simp only [h2, Rs.bind_ok]
    exact ih (k + 1) δ2 S2 hxs hlt h3
/-- drawn numbers -/
theorem numbers_ok {cs : List Int} {c : Sf Bool} {e : Sf D} {δ : DSt} (hc : ∀ δ S, c δ S = .ok true S) (he : ∀ (d : D) (S : Sto), Tp cs S → ∃ (n : Int) (S' : Sto), e (δ.set 9 (.dat d)) S = .ok (.int n) S' ∧ Tp cs S') : ∀ (ds : List D) (S : Sto), Tp cs S →
    ∃ (ms : List Int) (S' : Sto), sLcGo (gN 9) c e δ ds S = .ok (ms.map PyData.int) S' ∧ ms.length = ds.length ∧ Tp cs S'
  | [], S, h => ⟨[], S, rfl, rfl, h⟩
  | d :: ds, S, h => by
    obtain ⟨n, S1, e1, h1⟩ := he d S h
    obtain ⟨ms, S2, e2, l2, h2⟩ := numbers_ok hc he ds S1 h1
    refine ⟨n :: ms, S2, ?_, by simp [l2], h2⟩
    rw [sLcGo_cons, gN_ap]
    simp [hc, e1, e2]
/-- one number greater -/
theorem spot {xs : List Int} {j : Int} (h0 : 0 ≤ j) (h1 : j < xs.length) : ixN (xs.map PyData.int).length j = some j.toNat := by
  have e : j = ((j.toNat : Nat) : Int) := by omega
  generalize j.toNat = n at e
  subst e
  have h1' : n < xs.length := by omega
  simp [ixN, h1']
theorem one_1 {cs : List Int} (k : SV) (row : List Int) (j : Int) (S : Sto) (h : Tp cs S) (h0 : 0 ≤ j) (h1 : j < row.length) (c s5 : SV) : ∃ (row' : List Int) (S' : Sto), l_law_spoilt_1 [.dat (ob 0), c, .own (row.map PyData.int), k, .dat (.int j), s5] S = .ok (.nx [.dat (ob 0), c, .own (row'.map PyData.int), k, .dat (.int j), s5]) S' ∧ row'.length = row.length ∧ Tp cs S' := by
  obtain ⟨m, S1, e, h1'⟩ := more_ok h
  have ix := idx_own (at_ints h0 h1)
  have sp := spot h0 h1
  refine ⟨row.set j.toNat (nth row j + m), S1, ?_, by simp, h1'⟩
  simp only [List.length_map] at sp
  simp [l_law_spoilt_1, -idx_own', ix, e, sp]
theorem spoilt_ok {cs : List Int} {S : Sto} (h : Tp cs S) (xs : List Int) (lx : xs.length ≤ 1000) : ∃ (ys : List Int) (S' : Sto), F_law_spoilt [ob 0, ci xs] S = .ok (ci ys) S' ∧ ys.length = xs.length ∧ Tp cs S' := by
  obtain ⟨k, S1, e, h1, k0, k1⟩ := draw_ok h (k := 4) (by decide)
  have this : P.eq (.o (xs.map PyData.int)) (.d (.list [])) = .ok (.bool (decide (xs = []))) := eq_ci xs []
  by_cases q : xs = [] ∨ k = 0
  · refine ⟨xs, S1, ?_, rfl, h1⟩
    rcases q with rfl | rfl
    · have this : P.eq (.o []) (.d (.list [])) = .ok (.bool true) := this
      simp [F_law_spoilt, runS, b_law_spoilt, e, this]
    · by_cases z : xs = []
      · subst z
        have this : P.eq (.o []) (.d (.list [])) = .ok (.bool true) := this
        simp [F_law_spoilt, runS, b_law_spoilt, e, this]
      · simp [F_law_spoilt, runS, b_law_spoilt, e, this, z]
  · have x0 : ¬ xs = [] := fun z => q (.inl z)
    have q0 : ¬ k = 0 := fun z => q (.inr z)
    have pos : (0 : Int) < xs.length := by have := List.length_pos_iff.mpr x0; omega
    have lenx : ∀ {n : Int}, n < xs.length → n < ((xs.map PyData.int).length : Int) := fun h => by simpa using h
    by_cases q1 : k = 1
    · subst q1
      obtain ⟨n, S2, e2, h2, n0, n1⟩ := draw_ok h1 pos
      have loop := sForGo_inv (tg := gN 4) (b := l_law_spoilt_1) (fs := [4]) (ds := rngD n ((xs.length : Int) - n).toNat) (δ := [.dat (ob 0), .dat (ci xs), .own (xs.map PyData.int), .dat (.int 1), .no, .no]) (S := S2)
        (fun _ δ S => ∃ row : List Int, row.length = xs.length ∧ δ = [.dat (ob 0), .dat (ci xs), .own (row.map PyData.int), .dat (.int 1), .no, .no] ∧ Tp cs S) ⟨xs, rfl, rfl, h2⟩ fun i d δ S hd ⟨row, hr, he, hT⟩ => by
          subst he
          obtain ⟨hi, rfl⟩ := rngD_mem hd
          obtain ⟨row', S', e', l', hT'⟩ := one_1 (.dat (.int 1)) row (n + (i : Nat)) S hT (by omega) (by omega) (.dat (ci xs)) .no
          exact ⟨_, _, S', rfl, e', row', l'.trans hr, rfl, hT'⟩
      obtain ⟨δ', S3, e3, row, hr, rfl, h3⟩ := loop
      have b1 : n.natAbs ≤ 100000 := by omega
      have b2 : xs.length ≤ 100000 := by omega
      refine ⟨row, S3, ?_, hr, h3⟩
      simp [F_law_spoilt, runS, b_law_spoilt, e, this, x0, e2, b1, b2, e3]
    · by_cases q2 : k = 2
      · subst q2
        obtain ⟨n, S2, e2, h2, n0, n1⟩ := draw_ok h1 (k := 3) (by decide)
        have loop := sForGo_inv (tg := gN 4) (b := l_law_spoilt_2) (fs := [4, 5]) (ds := rngD 0 (1 + n).toNat) (δ := [.dat (ob 0), .dat (ci xs), .own (xs.map PyData.int), .dat (.int 2), .no, .no]) (S := S2)
          (fun _ δ S => ∃ row : List Int, row.length = xs.length ∧ δ = [.dat (ob 0), .dat (ci xs), .own (row.map PyData.int), .dat (.int 2), .no, .no] ∧ Tp cs S) ⟨xs, rfl, rfl, h2⟩ fun i d δ S hd ⟨row, hr, he, hT⟩ => by
            subst he
            obtain ⟨j, S3, e3, h3, j0, j1⟩ := draw_ok hT (k := row.length) (by omega)
            obtain ⟨m, S4, e4, h4⟩ := more_ok h3
            have ix := idx_own (at_ints j0 j1)
            have sp := spot j0 j1
            simp only [List.length_map] at sp
            refine ⟨_, [.dat (ob 0), .dat (ci xs), .own ((row.set j.toNat (nth row j + m)).map PyData.int), .dat (.int 2), .dat d, .dat (.int j)], S4, rfl, ?_, row.set j.toNat (nth row j + m), by simp [hr], rfl, h4⟩
            simp [l_law_spoilt_2, e3, e4, -idx_own', ix, sp]
        obtain ⟨δ', S3, e3, row, hr, rfl, h3⟩ := loop
        have b1 : (1 + n).natAbs ≤ 100000 := by omega
        refine ⟨row, S3, ?_, hr, h3⟩
        simp [F_law_spoilt, runS, b_law_spoilt, e, this, x0, e2, b1, e3]
      · have q3 : k = 3 := by omega
        subst q3
        obtain ⟨n, S2, e2, h2, n0, n1⟩ := draw_ok h1 (k := 2) (by decide)
        obtain ⟨m, S3, e3, h3⟩ := more_ok h2
        have mm : cMul ((xs.length : Int) - 1) n = true := mul_r (by omega) (by omega)
        have n2 : n = 0 ∨ n = 1 := by omega
        have j0 : 0 ≤ ((xs.length : Int) - 1) * n := by rcases n2 with rfl | rfl <;> omega
        have j1 : ((xs.length : Int) - 1) * n < xs.length := by rcases n2 with rfl | rfl <;> omega
        have ix := idx_own (at_ints j0 j1)
        have sp := spot j0 j1
        simp only [List.length_map] at sp
        refine ⟨xs.set (((xs.length : Int) - 1) * n).toNat (nth xs (((xs.length : Int) - 1) * n) + m), S3, ?_, by simp, h3⟩
        simp [F_law_spoilt, runS, b_law_spoilt, e, this, x0, e2, e3, mm, -idx_own', ix, sp]
end K71

namespace K71
open PySem PySem.Spec PyProof.Rows L2 Dn
/-- it returns True -/
def Ends (b : Sb) (δ : DSt) (S : Sto) : Prop := ∃ S', b δ S = .ok (.rt (.bool true)) S'
theorem ends_seq {f g : Sb} {δ : DSt} {S : Sto} (P : DSt → Sto → Prop) (h : ∃ δ' S', f δ S = .ok (.nx δ') S' ∧ P δ' S') (k : ∀ δ' S', P δ' S' → Ends g δ' S') : Ends (sSeq f g) δ S := by
  obtain ⟨δ', S', e, p⟩ := h
  obtain ⟨S2, e2⟩ := k δ' S' p
  exact ⟨S2, by simp [e, e2]⟩
/-- a row in a slot: own or as data -/
def Ro (x : SV) (xs : List Int) : Prop := x = .own (xs.map PyData.int) ∨ x = .dat (ci xs)
theorem frz_ro {x : SV} {xs : List Int} (h : Ro x xs) : x = .own (xs.map PyData.int) ∨ x = .dat (ci xs) := h
theorem cut_ints (xs : List Int) (n : Int) (h0 : 0 ≤ n) : ∃ ys : List Int, Dn.cutD (xs.map PyData.int) none (some n) = ys.map PyData.int ∧ ys.length ≤ xs.length := by
  have e : n = ((n.toNat : Nat) : Int) := by omega
  refine ⟨(xs.take n.toNat), ?_, by simp; omega⟩
  generalize n.toNat = m at e
  subst e
  unfold Dn.cutD
  rw [HT.sIx_none, HT.sIx_nat]
  simp [List.map_take, List.take_eq_take_iff]
theorem slice_ci {xs : List Int} {n : Int} (h0 : 0 ≤ n) : ∃ ys : List Int, P.slice (.d (ci xs)) none (some n) = .ok (ci ys) ∧ ys.length ≤ xs.length := by
  obtain ⟨ys, e, l⟩ := cut_ints xs n h0
  exact ⟨ys, by rw [slice_lst, e], l⟩
theorem law_true (ns : List Int) (hns : ns.length ≤ 63) : ∃ S, F_law [scr (ns.map PyData.int)] [] = .ok (.bool true) S := by
  suffices h : Ends b_law [.dat (scr (ns.map PyData.int)), .no, .no, .no, .no, .no, .no, .no, .no, .no] [] by
    obtain ⟨S, e⟩ := h
    exact ⟨S, by simp [F_law, runS, e]⟩
  unfold b_law
  obtain ⟨S0, e0, h0⟩ := tape_ok ns
  generalize hs : scr (ns.map PyData.int) = script at e0
  refine ends_seq (fun δ S => δ = [.dat script, .dat (ob 0), .no, .no, .no, .no, .no, .no, .no, .no] ∧ Tp ns S) ⟨_, S0, by simp [e0], rfl, h0⟩ ?_
  rintro _ S ⟨rfl, hS⟩
  refine ends_seq (fun δ S => ∃ n : Int, δ = [.dat script, .dat (ob 0), .dat (.int n), .no, .no, .no, .no, .no, .no, .no] ∧ Tp ns S ∧ 0 ≤ n ∧ n ≤ 300) (by
    obtain ⟨n, S1, e, h1, a1, a2⟩ := draw_ok hS (k := 8) (by decide)
    exact ⟨_, S1, by simp [e], n, rfl, h1, a1, by omega⟩) ?_
  rintro _ S ⟨n, rfl, hS, n0, n1⟩
  refine ends_seq (fun δ S => ∃ z : Int, δ = [.dat script, .dat (ob 0), .dat (.int n), .dat (.int z), .no, .no, .no, .no, .no, .no] ∧ Tp ns S) (by
    obtain ⟨z, S1, e, h1, a1, a2⟩ := draw_ok hS (k := 16) (by decide)
    exact ⟨_, S1, by simp [e], z, rfl, h1⟩) ?_
  rintro _ S ⟨z, rfl, hS⟩
  refine ends_seq (fun δ S => ∃ n : Int, δ = [.dat script, .dat (ob 0), .dat (.int n), .dat (.int z), .no, .no, .no, .no, .no, .no] ∧ Tp ns S ∧ 0 ≤ n ∧ n ≤ 300) (by
    by_cases q : z % 4 = 1
    · obtain ⟨m, S1, e, h1, a1, a2⟩ := draw_ok hS (k := 61) (by decide)
      exact ⟨_, S1, by simp [e, q], m, rfl, h1, a1, by omega⟩
    · exact ⟨_, S, by simp [q], n, rfl, hS, n0, n1⟩) ?_
  clear n0 n1 hS n
  rintro _ S ⟨n, rfl, hS, n0, n1⟩
  refine ends_seq (fun δ S => ∃ n : Int, δ = [.dat script, .dat (ob 0), .dat (.int n), .dat (.int z), .no, .no, .no, .no, .no, .no] ∧ Tp ns S ∧ 0 ≤ n ∧ n ≤ 300) (by
    by_cases q : z = 2
    · obtain ⟨m, S1, e, h1, a1, a2⟩ := draw_ok hS (k := 301) (by decide)
      subst q
      exact ⟨_, S1, by simp [e], m, rfl, h1, a1, by omega⟩
    · exact ⟨_, S, by simp [q], n, rfl, hS, n0, n1⟩) ?_
  clear n0 n1 hS n
  rintro _ S ⟨n, rfl, hS, n0, n1⟩
  refine ends_seq (fun δ S => ∃ z : Int, δ = [.dat script, .dat (ob 0), .dat (.int n), .dat (.int z), .no, .no, .no, .no, .no, .no] ∧ Tp ns S) (by
    obtain ⟨z, S1, e, h1, a1, a2⟩ := draw_ok hS (k := 4) (by decide)
    exact ⟨_, S1, by simp [e], z, rfl, h1⟩) ?_
  clear hS z
  rintro _ S ⟨z, rfl, hS⟩
  have nb : n.natAbs ≤ 100000 := by omega
  have nb2 : n.toNat ≤ 100000 := by omega
  refine ends_seq (fun δ S => ∃ xs : List Int, δ = [.dat script, .dat (ob 0), .dat (.int n), .dat (.int z), .own (xs.map PyData.int), .no, .no, .no, .no, .no] ∧ Tp ns S ∧ xs.length ≤ 300) (by
    obtain ⟨xs, S1, e, l, h1⟩ := numbers_ok (cs := ns) (c := c_law_1) (e := e_law_2) (δ := [.dat script, .dat (ob 0), .dat (.int n), .dat (.int z), .no, .no, .no, .no, .no, .no]) (fun δ S => rfl) (fun d S hS => by
      obtain ⟨m, S2, e2, h2⟩ := number_ok hS z
      exact ⟨m, S2, by simp [e_law_2, e2], h2⟩) (rngD 0 n.toNat) S hS
    rw [rngD_len] at l
    exact ⟨_, S1, by simp [nb, nb2, rngD_len, e], xs, rfl, h1, by omega⟩) ?_
  clear hS
  rintro _ S ⟨xs, rfl, hS, lx⟩
  refine ends_seq (fun δ S => ∃ ys : List Int, δ = [.dat script, .dat (ob 0), .dat (.int n), .dat (.int z), .dat (ci xs), .dat (ci ys), .no, .no, .no, .no] ∧ Tp ns S ∧ ys.length ≤ 300) (by
    obtain ⟨ys, S1, e, l, h1⟩ := spoilt_ok hS xs (by omega)
    exact ⟨_, S1, by simp [e], ys, rfl, h1, by omega⟩) ?_
  clear hS
  rintro _ S ⟨ys, rfl, hS, ly⟩
  refine ends_seq (fun δ S => ∃ (ys : List Int) (y : SV), δ = [.dat script, .dat (ob 0), .dat (.int n), .dat (.int z), .dat (ci xs), y, .no, .no, .no, .no] ∧ Ro y ys ∧ Tp ns S ∧ ys.length ≤ 300) (by
    obtain ⟨k, S1, e, h1, k0, k1⟩ := draw_ok hS (k := 8) (by decide)
    by_cases q : k = 1
    · subst q
      obtain ⟨xs', S2, e', l, h2⟩ := numbers_ok (cs := ns) (c := c_law_3) (e := e_law_4) (δ := [.dat script, .dat (ob 0), .dat (.int n), .dat (.int z), .dat (ci xs), .dat (ci ys), .no, .no, .no, .no]) (fun δ S => rfl) (fun d S hS => by
        obtain ⟨m, S2, e2, h2⟩ := number_ok hS z
        exact ⟨m, S2, by simp [e_law_4, e2], h2⟩) (rngD 0 n.toNat) S1 h1
      rw [rngD_len] at l
      exact ⟨_, S2, by simp [nb, nb2, rngD_len, e, e'], xs', _, rfl, .inl rfl, h2, by omega⟩
    · exact ⟨_, S1, by simp [e, q], ys, _, rfl, .inr rfl, h1, ly⟩) ?_
  clear hS ly ys
  rintro _ S ⟨ys, y, rfl, hy, hS, ly⟩
  refine ends_seq (fun δ S => ∃ (k : Int), δ = [.dat script, .dat (ob 0), .dat (.int n), .dat (.int z), .dat (ci xs), y, .dat (.int k), .no, .no, .no] ∧ Tp ns S) (by
    obtain ⟨k, S1, e, h1, k0, k1⟩ := draw_ok hS (k := 6) (by decide)
    exact ⟨_, S1, by simp [e], k, rfl, h1⟩) ?_
  clear hS
  rintro _ S ⟨k, rfl, hS⟩
  refine ends_seq (fun δ S => ∃ (xs : List Int), δ = [.dat script, .dat (ob 0), .dat (.int n), .dat (.int z), .dat (ci xs), y, .dat (.int k), .no, .no, .no] ∧ Tp ns S ∧ xs.length ≤ 300) (by
    by_cases q : k = 0
    · subst q
      obtain ⟨m, S1, e, h1, m0, m1⟩ := draw_ok hS (k := n + 1) (by omega)
      obtain ⟨xs', e', l'⟩ := slice_ci (xs := xs) m0
      exact ⟨_, S1, by simp [e, -slice_lst, e'], xs', rfl, h1, by omega⟩
    · exact ⟨_, S, by simp [q], xs, rfl, hS, lx⟩) ?_
  clear hS lx xs
  rintro _ S ⟨xs, rfl, hS, lx⟩
  have oneY : ∀ f : DSt → DSt, True := fun _ => True.intro
  refine ends_seq (fun δ S => ∃ (ys : List Int) (y : SV), δ = [.dat script, .dat (ob 0), .dat (.int n), .dat (.int z), .dat (ci xs), y, .dat (.int k), .no, .no, .no] ∧ Ro y ys ∧ Tp ns S ∧ ys.length ≤ 300) (by
    by_cases q : k = 1
    · subst q
      obtain ⟨m, S1, e, h1, m0, m1⟩ := draw_ok hS (k := n + 1) (by omega)
      obtain ⟨ys', e', l'⟩ := slice_ci (xs := ys) m0
      rcases hy with rfl | rfl
      · exact ⟨_, S1, by simp [e, -slice_lst, e'], ys', _, rfl, .inr rfl, h1, by omega⟩
      · exact ⟨_, S1, by simp [e, -slice_lst, e'], ys', _, rfl, .inr rfl, h1, by omega⟩
    · exact ⟨_, S, by simp [q], ys, _, rfl, hy, hS, ly⟩) ?_
  clear hS hy ly ys y
  rintro _ S ⟨ys, y, rfl, hy, hS, ly⟩
  refine ends_seq (fun δ S => ∃ (ys : List Int) (y : SV), δ = [.dat script, .dat (ob 0), .dat (.int n), .dat (.int z), .dat (ci xs), y, .dat (.int k), .no, .no, .no] ∧ Ro y ys ∧ Tp ns S ∧ ys.length ≤ 310) (by
    have tk : P.inS false (.int k) (.d (.tuple [.int 2, .int 3])) = .ok (.bool (decide (k = 2 ∨ k = 3))) := by
      by_cases k2 : k = 2
      · subst k2; simp [P.inS, seqD, flatD, PyData.eqv]
      · by_cases k3 : k = 3
        · subst k3; simp [P.inS, seqD, flatD, PyData.eqv]
        · have n2 : ¬ 2 = k := fun z => k2 z.symm
          have n3 : ¬ 3 = k := fun z => k3 z.symm
          simp [P.inS, seqD, flatD, PyData.eqv, k2, k3, n2, n3]
    by_cases q : k = 2 ∨ k = 3
    · obtain ⟨m, S1, e, h1, m0, m1⟩ := draw_ok hS (k := 4) (by omega)
      have main : ∃ (zs : List Int) (S2 : Sto), sLcGo (gN 9) c_law_5 e_law_6 [.dat script, .dat (ob 0), .dat (.int n), .dat (.int z), .dat (ci xs), .dat (ci ys), .dat (.int k), .no, .no, .no] (rngD 0 (1 + m).toNat) S1 = .ok (zs.map PyData.int) S2 ∧ zs.length = (rngD 0 (1 + m).toNat).length ∧ Tp ns S2 :=
        numbers_ok (cs := ns) (fun δ S => rfl) (fun d S hS => by
          obtain ⟨m, S2, e2, h2⟩ := number_ok hS z
          exact ⟨m, S2, by simp [e_law_6, e2], h2⟩) _ S1 h1
      obtain ⟨zs, S2, e2, l2, h2⟩ := main
      have b1 : (1 + m).natAbs ≤ 100000 := by omega
      have b2 : (1 + m).toNat ≤ 100000 := by omega
      rw [rngD_len] at l2
      have b3 : ys.length + zs.length ≤ 100000 := by omega
      have ct : P.catN (.d (ci ys)) (.d (ci zs)) = .ok ((ys ++ zs).map PyData.int) := by simp [P.catN, asLt, b3]
      rcases hy with rfl | rfl
      · exact ⟨[.dat script, .dat (ob 0), .dat (.int n), .dat (.int z), .dat (ci xs), .own ((ys ++ zs).map PyData.int), .dat (.int k), .no, .no, .no], S2, by simp [tk, q, e, b1, b2, rngD_len, e2, ct], ys ++ zs, _, rfl, .inl rfl, h2, by simp; omega⟩
      · exact ⟨[.dat script, .dat (ob 0), .dat (.int n), .dat (.int z), .dat (ci xs), .own ((ys ++ zs).map PyData.int), .dat (.int k), .no, .no, .no], S2, by simp [tk, q, e, b1, b2, rngD_len, e2, ct], ys ++ zs, _, rfl, .inl rfl, h2, by simp; omega⟩
    · exact ⟨_, S, by simp [tk, q], ys, _, rfl, hy, hS, by omega⟩) ?_
  clear hS hy ly ys y
  rintro _ S ⟨ys, y, rfl, hy, hS, ly⟩
  have fz : frz1 5 [.dat script, .dat (ob 0), .dat (.int n), .dat (.int z), .dat (ci xs), y, .dat (.int k), .no, .no, .no] = [.dat script, .dat (ob 0), .dat (.int n), .dat (.int z), .dat (ci xs), .dat (ci ys), .dat (.int k), .no, .no, .no] := by
    rcases hy with rfl | rfl <;> simp
  unfold Ends
  dsimp only
  rw [fz]
  clear fz hy
  show Ends (sSeq _ _) [.dat script, .dat (ob 0), .dat (.int n), .dat (.int z), .dat (ci xs), .dat (ci ys), .dat (.int k), .no, .no, .no] S
  refine ends_seq (fun δ S => δ = [.dat script, .dat (ob 0), .dat (.int n), .dat (.int z), .dat (ci xs), .dat (ci ys), .dat (.int k), .no, .no, .no] ∧ Tp ns S) (by
    obtain ⟨x', S1, e1, q1, h1⟩ := passed_ok hS xs
    obtain ⟨y', S2, e2, q2, h2⟩ := passed_ok h1 ys
    have r := right_ok q1 q2 (by omega) (by omega) true
    exact ⟨_, S2, by simp [e1, e2, r], rfl, h2⟩) ?_
  clear hS
  rintro _ S ⟨rfl, hS⟩
  show Ends (sSeq _ _) [.dat script, .dat (ob 0), .dat (.int n), .dat (.int z), .dat (ci xs), .dat (ci ys), .dat (.int k), .no, .no, .no] S
  refine ends_seq (fun δ S => δ = [.dat script, .dat (ob 0), .dat (.int n), .dat (.int z), .dat (ci xs), .dat (ci ys), .dat (.int k), .no, .no, .no] ∧ Tp ns S) (by
    obtain ⟨x', S1, e1, q1, h1⟩ := passed_ok hS ys
    obtain ⟨y', S2, e2, q2, h2⟩ := passed_ok h1 xs
    have r := right_ok q1 q2 (by omega) (by omega) false
    exact ⟨_, S2, by simp [e1, e2, r], rfl, h2⟩) ?_
  clear hS
  rintro _ S ⟨rfl, hS⟩
  show Ends (sSeq _ _) [.dat script, .dat (ob 0), .dat (.int n), .dat (.int z), .dat (ci xs), .dat (ci ys), .dat (.int k), .no, .no, .no] S
  refine ends_seq (fun δ S' => δ = [.dat script, .dat (ob 0), .dat (.int n), .dat (.int z), .dat (ci xs), .dat (ci ys), .dat (.int k), .own (ys.map PyData.int), .no, .no] ∧ Tp ns S') ⟨_, S, by simp, rfl, hS⟩ ?_
  clear hS
  rintro _ S ⟨rfl, hS⟩
  have s1 : Sq (ci xs) xs := .inl rfl
  have s2 : Sq (ci ys) ys := .inl rfl
  have r1 := right_ok s1 s2 (by omega) (by omega) false
  have r2 := right_ok s2 s1 (by omega) (by omega) true
  show Ends (sSeq _ _) [.dat script, .dat (ob 0), .dat (.int n), .dat (.int z), .dat (ci xs), .dat (ci ys), .dat (.int k), .own (ys.map PyData.int), .no, .no] _
  refine ends_seq (fun δ S' => δ = [.dat script, .dat (ob 0), .dat (.int n), .dat (.int z), .dat (ci xs), .dat (ci ys), .dat (.int k), .own (ys.map PyData.int), .no, .no] ∧ Tp ns S') ⟨_, S, by simp [r1, r2], rfl, hS⟩ ?_
  clear hS
  rintro _ S ⟨rfl, hS⟩
  have ne : P.ne (.o (ys.map PyData.int)) (.d (.list [])) = .ok (.bool (!decide (ys = []))) := ne_ci ys []
  have app : ∀ S1 : Sto, Tp ns S1 → ∃ (m : Int) (S2 : Sto), F_law_number [ob 0, .int z] S1 = .ok (.int m) S2 ∧ Tp ns S2 := fun S1 h1 => number_ok h1 z
  refine ends_seq (fun δ S => ∃ (ws : List Int) (a : SV), δ = [.dat script, .dat (ob 0), .dat (.int n), .dat (.int z), .dat (ci xs), .dat (ci ys), .dat (.int k), .own (ws.map PyData.int), a, .no] ∧ ws.length ≤ 311 ∧ Tp ns S) (by
    have lm : ys.length < 100000 := by omega
    by_cases y0 : ys = []
    · subst y0
      obtain ⟨m, S1, e1, h1⟩ := app S hS
      have ne : P.ne (.o []) (.d (.list [])) = .ok (.bool false) := ne
      exact ⟨_, S1, by simp [ne, e1], [m], .no, rfl, by simp, h1⟩
    · obtain ⟨g, S1, e1, h1, g0, g1⟩ := draw_ok hS (k := 3) (by decide)
      by_cases gp : 0 < g
      · have pos : (0 : Int) < ys.length := by have := List.length_pos_iff.mpr y0; omega
        obtain ⟨j, S2, e2, h2, j0, j1⟩ := draw_ok h1 pos
        obtain ⟨m, S3, e3, h3⟩ := more_ok h2
        have ix := idx_own (at_ints j0 j1)
        have sp := spot j0 j1
        simp only [List.length_map] at sp
        exact ⟨[.dat script, .dat (ob 0), .dat (.int n), .dat (.int z), .dat (ci xs), .dat (ci ys), .dat (.int k), .own ((ys.set j.toNat (nth ys j + m)).map PyData.int), .dat (.int j), .no], S3, by simp [ne, y0, e1, gp, e2, e3, -idx_own', ix, sp], ys.set j.toNat (nth ys j + m), _, rfl, by simp; omega, h3⟩
      · obtain ⟨m, S2, e2, h2⟩ := app S1 h1
        exact ⟨[.dat script, .dat (ob 0), .dat (.int n), .dat (.int z), .dat (ci xs), .dat (ci ys), .dat (.int k), .own ((ys ++ [m]).map PyData.int), .no, .no], S2, by simp [ne, y0, e1, gp, e2, lm], ys ++ [m], _, rfl, by simp; omega, h2⟩) ?_
  rintro _ S ⟨ws, a, rfl, lw, hS⟩
  have s3 : Sq (ci ws) ws := .inl rfl
  have r3 := right_ok s1 s3 (by omega) (by omega) true
  have r4 := right_ok s3 s1 (by omega) (by omega) false
  show Ends (sSeq _ _) [.dat script, .dat (ob 0), .dat (.int n), .dat (.int z), .dat (ci xs), .dat (ci ys), .dat (.int k), .dat (ci ws), a, .no] _
  refine ends_seq (fun δ S' => δ = [.dat script, .dat (ob 0), .dat (.int n), .dat (.int z), .dat (ci xs), .dat (ci ys), .dat (.int k), .dat (ci ws), a, .no] ∧ Tp ns S') ⟨_, S, by simp [r3, r4], rfl, hS⟩ ?_
  clear hS
  rintro _ S ⟨rfl, hS⟩
  have s4 : Sq (.tuple (xs.map PyData.int)) xs := .inr rfl
  have s5 : Sq (.tuple (ys.map PyData.int)) ys := .inr rfl
  have r5 := right_ok s4 s5 (by omega) (by omega) true
  have r6 := right_ok s3 s3 (by omega) (by omega) false
  exact ⟨S, by simp [r5, r6]⟩
end K71

namespace K71
open PySem PySem.Spec PyProof.Rows L2 Dn
def topS (i : Nat) : Stmt := PySem.Challenge.pw_quillmoot_k71_places_by_halving.main.body.getD i (.Pass ⟨0, 0, 0, 0⟩)
abbrev s_first_apart : Stmt := topS 1
theorem sc_first_apart : FnScope N_first_apart [(Str.ofString "chain"), (Str.ofString "other")] (defScope s_first_apart) := ⟨rfl, rfl, rfl, by decide +kernel, rfl, by decide +kernel, by decide +kernel⟩
abbrev s_asked_places : Stmt := topS 2
theorem sc_asked_places : FnScope N_asked_places [(Str.ofString "chain"), (Str.ofString "other")] (defScope s_asked_places) := ⟨rfl, rfl, rfl, by decide +kernel, rfl, by decide +kernel, by decide +kernel⟩
abbrev s_law_mixed : Stmt := topS 4
theorem sc_law_mixed : FnScope N_law_mixed [(Str.ofString "_law_number_here"), (Str.ofString "_law_turn")] (defScope s_law_mixed) := ⟨rfl, rfl, rfl, by decide +kernel, rfl, by decide +kernel, by decide +kernel⟩
abbrev s_law_tape : Stmt := topS 5
theorem sc_law_tape : FnScope N_law_tape [(Str.ofString "_law_script")] (defScope s_law_tape) := ⟨rfl, rfl, rfl, by decide +kernel, rfl, by decide +kernel, by decide +kernel⟩
abbrev s_law_draw : Stmt := topS 6
theorem sc_law_draw : FnScope N_law_draw [(Str.ofString "_law_tape_here"), (Str.ofString "_law_many")] (defScope s_law_draw) := ⟨rfl, rfl, rfl, by decide +kernel, rfl, by decide +kernel, by decide +kernel⟩
abbrev s_law_pick : Stmt := topS 7
theorem sc_law_pick : FnScope N_law_pick [(Str.ofString "_law_tape_here"), (Str.ofString "_law_row")] (defScope s_law_pick) := ⟨rfl, rfl, rfl, by decide +kernel, rfl, by decide +kernel, by decide +kernel⟩
abbrev s_law_number : Stmt := topS 8
theorem sc_law_number : FnScope N_law_number [(Str.ofString "_law_tape_here"), (Str.ofString "_law_size")] (defScope s_law_number) := ⟨rfl, rfl, rfl, by decide +kernel, rfl, by decide +kernel, by decide +kernel⟩
abbrev s_law_more : Stmt := topS 9
theorem sc_law_more : FnScope N_law_more [(Str.ofString "_law_tape_here")] (defScope s_law_more) := ⟨rfl, rfl, rfl, by decide +kernel, rfl, by decide +kernel, by decide +kernel⟩
abbrev s_law_spoilt : Stmt := topS 10
theorem sc_law_spoilt : FnScope N_law_spoilt [(Str.ofString "_law_tape_here"), (Str.ofString "_law_chain")] (defScope s_law_spoilt) := ⟨rfl, rfl, rfl, by decide +kernel, rfl, by decide +kernel, by decide +kernel⟩
abbrev s_law_apart : Stmt := topS 11
theorem sc_law_apart : FnScope N_law_apart [(Str.ofString "_law_chain"), (Str.ofString "_law_other")] (defScope s_law_apart) := ⟨rfl, rfl, rfl, by decide +kernel, rfl, by decide +kernel, by decide +kernel⟩
abbrev s_law_places : Stmt := topS 12
theorem sc_law_places : FnScope N_law_places [(Str.ofString "_law_chain"), (Str.ofString "_law_other")] (defScope s_law_places) := ⟨rfl, rfl, rfl, by decide +kernel, rfl, by decide +kernel, by decide +kernel⟩
abbrev s_law_is_number : Stmt := topS 13
theorem sc_law_is_number : FnScope N_law_is_number [(Str.ofString "_law_actual"), (Str.ofString "_law_due")] (defScope s_law_is_number) := ⟨rfl, rfl, rfl, by decide +kernel, rfl, by decide +kernel, by decide +kernel⟩
abbrev s_law_right : Stmt := topS 14
theorem sc_law_right : FnScope N_law_right [(Str.ofString "_law_chain"), (Str.ofString "_law_other"), (Str.ofString "_law_named")] (defScope s_law_right) := ⟨rfl, rfl, rfl, by decide +kernel, rfl, by decide +kernel, by decide +kernel⟩
abbrev s_law_passed : Stmt := topS 15
theorem sc_law_passed : FnScope N_law_passed [(Str.ofString "_law_tape_here"), (Str.ofString "_law_row")] (defScope s_law_passed) := ⟨rfl, rfl, rfl, by decide +kernel, rfl, by decide +kernel, by decide +kernel⟩
abbrev s_law : Stmt := topS 16
theorem sc_law : FnScope N_law [(Str.ofString "_law_script")] (defScope s_law) := ⟨rfl, rfl, rfl, by decide +kernel, rfl, by decide +kernel, by decide +kernel⟩
section
variable {P : Program} {w : World} {K : PySem.W.Frag} {mg : Str → Option Value} {base : Heap} {G : Str → Addr}
theorem ok_first_apart (F : FunE K mg (Str.ofString "first_apart") s_first_apart [(Str.ofString "chain"), (Str.ofString "other")]) (z_enumerate : mg (Str.ofString "enumerate") = none) (z_zip : mg (Str.ofString "zip") = none) : EntD P w K mg base G (Str.ofString "first_apart") 1 2 F_first_apart :=
  entD F sc_first_apart rfl rfl fun f cdv A outer s H E hr => dss_cons (ds_for (vs := [2, 3, 4]) [2, 3, 4] PassesOwn.never rfl (di_ez (by rfl) z_enumerate (by rfl) z_zip (da_cons (de_var 0) (da_cons (de_var 1) da_nil))) (dg_tup rfl (dgs_cons (dg_name 2 (by decide) sc_first_apart.nd rfl (by first | exact .inl rfl | exact .inr rfl)) (dgs_cons (dg_tup rfl (dgs_cons (dg_name 3 (by decide) sc_first_apart.nd rfl (by first | exact .inl rfl | exact .inr rfl)) (dgs_cons (dg_name 4 (by decide) sc_first_apart.nd rfl (by first | exact .inl rfl | exact .inr rfl)) dgs_nil))) dgs_nil))) (dss_one (ds_if (dt_c (dc_ne hr.units (do_of (de_var 3)) (do_of (de_var 4)))) (dss_one (ds_ret (de_var 2))) dss_nil))) (dss_one (ds_ret de_non))
theorem ok_asked_places (F : FunE K mg (Str.ofString "asked_places") s_asked_places [(Str.ofString "chain"), (Str.ofString "other")]) (z_len : mg (Str.ofString "len") = none) (z_min : mg (Str.ofString "min") = none) (z_tuple : mg (Str.ofString "tuple") = none) : EntD P w K mg base G (Str.ofString "asked_places") 1 2 F_asked_places :=
  entD F sc_asked_places rfl rfl fun f cdv A outer s H E hr => dss_cons (ds_set (i := 2) sc_asked_places.nd rfl (by first | exact .inl rfl | exact .inr rfl) de_int) (dss_cons (ds_set (i := 3) sc_asked_places.nd rfl (by first | exact .inl rfl | exact .inr rfl) (de_min2 rfl (by rfl) z_min (by decide +kernel) (da_cons (de_len (by rfl) z_len (do_of (de_var 0))) (da_cons (de_len (by rfl) z_len (do_of (de_var 1))) da_nil)))) (dss_cons (ds_setN (i := 4) sc_asked_places.nd rfl (by first | exact .inl rfl | exact .inr rfl) (dn_lst da_nil)) (dss_cons (ds_while 1000 [5] PassesOwn.never (dt_c (dc_lt (de_var 2) (de_var 3))) (dss_cons (ds_set (i := 5) sc_asked_places.nd rfl (by first | exact .inl rfl | exact .inr rfl) (de_div (de_add (do_of (de_var 2)) (do_of (de_var 3))) de_int)) (dss_cons (ds_app (i := 4) rfl (by first | exact .inl rfl | exact .inr (.inl rfl)) (de_var 5)) (dss_one (ds_if (dt_c (dc_eq hr.units (do_of (de_ix (do_of (de_var 0)) (de_var 5) (fun _ _ => rfl))) (do_of (de_ix (do_of (de_var 1)) (de_var 5) (fun _ _ => rfl))))) (dss_one (ds_set (i := 2) sc_asked_places.nd rfl (by first | exact .inl rfl | exact .inr rfl) (de_add (do_of (de_var 5)) (do_of de_int)))) (dss_one (ds_set (i := 3) sc_asked_places.nd rfl (by first | exact .inl rfl | exact .inr rfl) (de_var 5)))))))) (dss_one (ds_ret (de_tuple (by rfl) z_tuple (by decide +kernel) (do_var 4)))))))
theorem ok_law_mixed (F : FunE K mg (Str.ofString "_law_mixed") s_law_mixed [(Str.ofString "_law_number_here"), (Str.ofString "_law_turn")]) (z_int : mg (Str.ofString "int") = none) : EntD P w K mg base G (Str.ofString "_law_mixed") 1 2 F_law_mixed :=
  entD F sc_law_mixed rfl rfl fun f cdv A outer s H E hr => dss_cons (ds_set (i := 2) sc_law_mixed.nd rfl (by first | exact .inl rfl | exact .inr rfl) (de_mod (de_toInt (by rfl) z_int (by decide +kernel) (do_of (de_add (do_of (de_add (do_of (de_mul (de_var 0) de_int)) (do_of (de_mul (de_var 1) de_int)))) (do_of de_int)))) de_int)) (dss_cons (ds_set (i := 3) sc_law_mixed.nd rfl (by first | exact .inl rfl | exact .inr rfl) (de_mod (de_toInt (by rfl) z_int (by decide +kernel) (do_of (de_add (do_of (de_add (do_of (de_mul (de_var 2) de_int)) (do_of (de_div (de_var 2) de_int)))) (do_of (de_mul (de_var 1) de_int))))) de_int)) (dss_one (ds_ret (de_mod (de_toInt (by rfl) z_int (by decide +kernel) (do_of (de_add (do_of (de_mul (de_var 3) (de_var 3))) (do_of (de_div (de_var 2) de_int))))) de_int))))
theorem ok_law_tape (F : FunE K mg (Str.ofString "_law_tape") s_law_tape [(Str.ofString "_law_script")]) (z_list : mg (Str.ofString "list") = none) : EntS P w K mg base G (Str.ofString "_law_tape") 1 1 F_law_tape :=
  entS F sc_law_tape rfl rfl fun f cdv A outer s H E hr => dzss_one (dzs_ret (dz_disp (dps_cons (de_fre (dn_list (by rfl) z_list (by decide +kernel) (do_of (de_var 0)))) (dps_cons de_int (dps_cons de_int (dps_cons de_int (dps_cons de_int (dps_cons de_int dps_nil)))))) (by decide +kernel) (by decide)))
theorem ok_law_draw (F : FunE K mg (Str.ofString "_law_draw") s_law_draw [(Str.ofString "_law_tape_here"), (Str.ofString "_law_many")]) (h_law_mixed : EntD P w K mg base G (Str.ofString "_law_mixed") 1 2 F_law_mixed) (z_int : mg (Str.ofString "int") = none) (z_len : mg (Str.ofString "len") = none) : EntS P w K mg base G (Str.ofString "_law_draw") 2 2 F_law_draw :=
  entS F sc_law_draw rfl rfl fun f cdv A outer s H E hr => dzss_cons (dzs_put (hu_of hr) ((de_var 0).z) ((de_str).z) (dz_add (dz_get (hu_of hr) ((de_var 0).z) ((de_str).z) (fun _ _ => rfl)) ((de_int).z))) (dzss_cons (dzs_if (dzt_w (dzw_and (dzt_c (dzc_eq hr.units (dz_get (hu_of hr) ((de_var 0).z) ((de_str).z) (fun _ _ => rfl)) ((de_int).z))) (dzw_and1 (dzt_c (dzc_lt (dz_get (hu_of hr) ((de_var 0).z) ((de_str).z) (fun _ _ => rfl)) (dz_len (by rfl) z_len (dz_get (hu_of hr) ((de_var 0).z) ((de_str).z) (fun _ _ => rfl)))))))) (dzss_cons (dzs_set (i := 2) sc_law_draw.nd rfl (by first | exact .inl rfl | exact .inr rfl) (dz_ix (dz_get (hu_of hr) ((de_var 0).z) ((de_str).z) (fun _ _ => rfl)) (dz_get (hu_of hr) ((de_var 0).z) ((de_str).z) (fun _ _ => rfl)) (fun _ _ => rfl))) (dzss_cons (dzs_put (hu_of hr) ((de_var 0).z) ((de_str).z) (dz_add (dz_get (hu_of hr) ((de_var 0).z) ((de_str).z) (fun _ _ => rfl)) ((de_int).z))) (dzss_cons (dzs_put (hu_of hr) ((de_var 0).z) ((de_str).z) (dz_callPE h_law_mixed (hr.mono (by decide)) (by rfl) (dza_cons (dz_add (dz_get (hu_of hr) ((de_var 0).z) ((de_str).z) (fun _ _ => rfl)) ((de_var 2).z)) (dza_cons (dz_get (hu_of hr) ((de_var 0).z) ((de_str).z) (fun _ _ => rfl)) dza_nil)))) (dzss_cons (dzs_put (hu_of hr) ((de_var 0).z) ((de_str).z) ((de_int).z)) (dzss_one (dzs_if ((dt_c (dc_ge (de_var 2) (de_pow de_int de_int))).z) (dzss_cons (dzs_put (hu_of hr) ((de_var 0).z) ((de_str).z) ((de_var 2).z)) (dzss_one (dzs_put (hu_of hr) ((de_var 0).z) ((de_str).z) ((de_int).z)))) dzss_nil)))))) dzss_nil) (dzss_cons (dzs_if (dzt_c (dzc_gt (dz_get (hu_of hr) ((de_var 0).z) ((de_str).z) (fun _ _ => rfl)) ((de_int).z))) (dzss_one (dzs_put (hu_of hr) ((de_var 0).z) ((de_str).z) (dz_sub (dz_get (hu_of hr) ((de_var 0).z) ((de_str).z) (fun _ _ => rfl)) ((de_int).z)))) dzss_nil) (dzss_cons (dzs_if (dzt_c (dzc_eq hr.units (dz_get (hu_of hr) ((de_var 0).z) ((de_str).z) (fun _ _ => rfl)) ((de_int).z))) (dzss_one (dzs_ret (dz_mod (dz_toInt (by rfl) z_int (by decide +kernel) (dz_callPE h_law_mixed (hr.mono (by decide)) (by rfl) (dza_cons (dz_get (hu_of hr) ((de_var 0).z) ((de_str).z) (fun _ _ => rfl)) (dza_cons (dz_get (hu_of hr) ((de_var 0).z) ((de_str).z) (fun _ _ => rfl)) dza_nil)))) ((de_var 1).z)))) dzss_nil) (dzss_cons (dzs_set (i := 3) sc_law_draw.nd rfl (by first | exact .inl rfl | exact .inr rfl) (dz_mod (dz_toInt (by rfl) z_int (by decide +kernel) (dz_get (hu_of hr) ((de_var 0).z) ((de_str).z) (fun _ _ => rfl))) ((de_int).z))) (dzss_cons (dzs_put (hu_of hr) ((de_var 0).z) ((de_str).z) (dz_div (dz_get (hu_of hr) ((de_var 0).z) ((de_str).z) (fun _ _ => rfl)) ((de_int).z))) (dzss_cons (dzs_if (dzt_w (dzw_or (dzt_c (dzc_eq hr.units (dz_get (hu_of hr) ((de_var 0).z) ((de_str).z) (fun _ _ => rfl)) ((de_int).z))) (dzw_or1 (dzt_c (dzc_eq hr.units (dz_get (hu_of hr) ((de_var 0).z) ((de_str).z) (fun _ _ => rfl)) ((de_int).z)))))) (dzss_cons (dzs_put (hu_of hr) ((de_var 0).z) ((de_str).z) ((de_int).z)) (dzss_one (dzs_put (hu_of hr) ((de_var 0).z) ((de_str).z) ((de_int).z)))) dzss_nil) (dzss_one (dzs_ret ((de_mod (de_toInt (by rfl) z_int (by decide +kernel) (do_of (de_var 3))) (de_var 1)).z)))))))))
theorem ok_law_pick (F : FunE K mg (Str.ofString "_law_pick") s_law_pick [(Str.ofString "_law_tape_here"), (Str.ofString "_law_row")]) (h_law_draw : EntS P w K mg base G (Str.ofString "_law_draw") 2 2 F_law_draw) (z_len : mg (Str.ofString "len") = none) : EntS P w K mg base G (Str.ofString "_law_pick") 3 2 F_law_pick :=
  entS F sc_law_pick rfl rfl fun f cdv A outer s H E hr => dzss_one (dzs_ret (dz_ix ((de_var 1).z) (dz_callE h_law_draw (hr.mono (by decide)) (by rfl) (dza_cons ((de_var 0).z) (dza_cons ((de_len (by rfl) z_len (do_of (de_var 1))).z) dza_nil))) (fun _ _ => rfl)))
theorem ok_law_number (F : FunE K mg (Str.ofString "_law_number") s_law_number [(Str.ofString "_law_tape_here"), (Str.ofString "_law_size")]) (h_law_draw : EntS P w K mg base G (Str.ofString "_law_draw") 2 2 F_law_draw) : EntS P w K mg base G (Str.ofString "_law_number") 3 2 F_law_number :=
  entS F sc_law_number rfl rfl fun f cdv A outer s H E hr => dzss_cons (dzs_if ((dt_c (dc_eq hr.units (do_of (de_var 1)) (do_of de_int))).z) (dzss_one (dzs_set (i := 1) sc_law_number.nd rfl (by first | exact .inl rfl | exact .inr rfl) (dz_callE h_law_draw (hr.mono (by decide)) (by rfl) (dza_cons ((de_var 0).z) (dza_cons ((de_int).z) dza_nil))))) dzss_nil) (dzss_cons (dzs_if ((dt_c (dc_eq hr.units (do_of (de_var 1)) (do_of de_int))).z) (dzss_one (dzs_ret (dz_callE h_law_draw (hr.mono (by decide)) (by rfl) (dza_cons ((de_var 0).z) (dza_cons ((de_int).z) dza_nil))))) dzss_nil) (dzss_cons (dzs_if ((dt_c (dc_eq hr.units (do_of (de_var 1)) (do_of de_int))).z) (dzss_one (dzs_ret (dz_add (dz_mul (dz_callE h_law_draw (hr.mono (by decide)) (by rfl) (dza_cons ((de_var 0).z) (dza_cons ((de_int).z) dza_nil))) ((de_int).z)) (dz_callE h_law_draw (hr.mono (by decide)) (by rfl) (dza_cons ((de_var 0).z) (dza_cons ((de_int).z) dza_nil)))))) dzss_nil) (dzss_one (dzs_ret (dz_add ((de_pow de_int de_int).z) (dz_callE h_law_draw (hr.mono (by decide)) (by rfl) (dza_cons ((de_var 0).z) (dza_cons ((de_int).z) dza_nil))))))))
theorem ok_law_more (F : FunE K mg (Str.ofString "_law_more") s_law_more [(Str.ofString "_law_tape_here")]) (h_law_draw : EntS P w K mg base G (Str.ofString "_law_draw") 2 2 F_law_draw) : EntS P w K mg base G (Str.ofString "_law_more") 3 1 F_law_more :=
  entS F sc_law_more rfl rfl fun f cdv A outer s H E hr => dzss_one (dzs_ret (dz_ix ((de_lst (da_cons de_int (da_cons de_int (da_cons de_int (da_cons de_int (da_cons de_int (da_cons de_int (da_cons (de_pow de_int de_int) (da_cons (de_pow de_int de_int) (da_cons (de_sub (de_pow de_int de_int) de_int) (da_cons (de_pow de_int de_int) (da_cons (de_pow de_int de_int) (da_cons (de_pow de_int de_int) (da_cons de_int da_nil)))))))))))))).z) (dz_callE h_law_draw (hr.mono (by decide)) (by rfl) (dza_cons ((de_var 0).z) (dza_cons ((de_int).z) dza_nil))) (fun _ _ => rfl)))
theorem ok_law_spoilt (F : FunE K mg (Str.ofString "_law_spoilt") s_law_spoilt [(Str.ofString "_law_tape_here"), (Str.ofString "_law_chain")]) (h_law_draw : EntS P w K mg base G (Str.ofString "_law_draw") 2 2 F_law_draw) (h_law_more : EntS P w K mg base G (Str.ofString "_law_more") 3 1 F_law_more) (z_len : mg (Str.ofString "len") = none) (z_list : mg (Str.ofString "list") = none) (z_range : mg (Str.ofString "range") = none) : EntS P w K mg base G (Str.ofString "_law_spoilt") 4 2 F_law_spoilt :=
  entS F sc_law_spoilt rfl rfl fun f cdv A outer s H E hr => dzss_cons (dzs_setN (i := 2) sc_law_spoilt.nd rfl (by first | exact .inl rfl | exact .inr rfl) ((dn_list (by rfl) z_list (by decide +kernel) (do_of (de_var 1))).z)) (dzss_cons (dzs_set (i := 3) sc_law_spoilt.nd rfl (by first | exact .inl rfl | exact .inr rfl) (dz_callE h_law_draw (hr.mono (by decide)) (by rfl) (dza_cons ((de_var 0).z) (dza_cons ((de_int).z) dza_nil)))) (dzss_cons (dzs_if ((dt_w (dw_or (dt_c (dc_eq hr.units (do_var 2) (do_of (de_lst da_nil)))) (dw_or1 (dt_c (dc_eq hr.units (do_of (de_var 3)) (do_of de_int)))))).z) (dzss_frz 2 (dzss_one (dzs_ret ((de_var 2).z)))) dzss_nil) (dzss_cons (dzs_if ((dt_c (dc_eq hr.units (do_of (de_var 3)) (do_of de_int))).z) (dzss_one (dzs_for (vs := [4]) [4] PassesOwn.never rfl (dzi_range2 (by rfl) z_range (dza_cons (dz_callE h_law_draw (hr.mono (by decide)) (by rfl) (dza_cons ((de_var 0).z) (dza_cons ((de_len (by rfl) z_len (do_var 2)).z) dza_nil))) (dza_cons ((de_len (by rfl) z_len (do_var 2)).z) dza_nil))) (dg_name 4 (by decide) sc_law_spoilt.nd rfl (by first | exact .inl rfl | exact .inr rfl)) (dzss_one (dzs_setI (i := 2) rfl (by first | exact .inl rfl | exact .inr (.inl rfl)) ((de_var 4).z) (dz_add ((de_ix (do_var 2) (de_var 4) (fun _ _ => rfl)).z) (dz_callE h_law_more (hr.mono (by decide)) (by rfl) (dza_cons ((de_var 0).z) dza_nil))))))) dzss_nil) (dzss_cons (dzs_if ((dt_c (dc_eq hr.units (do_of (de_var 3)) (do_of de_int))).z) (dzss_one (dzs_for (vs := [4]) [4, 5] PassesOwn.never rfl (dzi_range1 (by rfl) z_range (dza_cons (dz_add ((de_int).z) (dz_callE h_law_draw (hr.mono (by decide)) (by rfl) (dza_cons ((de_var 0).z) (dza_cons ((de_int).z) dza_nil)))) dza_nil)) (dg_name 4 (by decide) sc_law_spoilt.nd rfl (by first | exact .inl rfl | exact .inr rfl)) (dzss_cons (dzs_set (i := 5) sc_law_spoilt.nd rfl (by first | exact .inl rfl | exact .inr rfl) (dz_callE h_law_draw (hr.mono (by decide)) (by rfl) (dza_cons ((de_var 0).z) (dza_cons ((de_len (by rfl) z_len (do_var 2)).z) dza_nil)))) (dzss_one (dzs_setI (i := 2) rfl (by first | exact .inl rfl | exact .inr (.inl rfl)) ((de_var 5).z) (dz_add ((de_ix (do_var 2) (de_var 5) (fun _ _ => rfl)).z) (dz_callE h_law_more (hr.mono (by decide)) (by rfl) (dza_cons ((de_var 0).z) dza_nil)))))))) dzss_nil) (dzss_cons (dzs_if ((dt_c (dc_eq hr.units (do_of (de_var 3)) (do_of de_int))).z) (dzss_cons (dzs_set (i := 5) sc_law_spoilt.nd rfl (by first | exact .inl rfl | exact .inr rfl) (dz_mul ((de_sub (de_len (by rfl) z_len (do_var 2)) de_int).z) (dz_callE h_law_draw (hr.mono (by decide)) (by rfl) (dza_cons ((de_var 0).z) (dza_cons ((de_int).z) dza_nil))))) (dzss_one (dzs_setI (i := 2) rfl (by first | exact .inl rfl | exact .inr (.inl rfl)) ((de_var 5).z) (dz_add ((de_ix (do_var 2) (de_var 5) (fun _ _ => rfl)).z) (dz_callE h_law_more (hr.mono (by decide)) (by rfl) (dza_cons ((de_var 0).z) dza_nil)))))) dzss_nil) (dzss_frz 2 (dzss_one (dzs_ret ((de_var 2).z)))))))))
theorem ok_law_apart (F : FunE K mg (Str.ofString "_law_apart") s_law_apart [(Str.ofString "_law_chain"), (Str.ofString "_law_other")]) (z_len : mg (Str.ofString "len") = none) (z_min : mg (Str.ofString "min") = none) (z_range : mg (Str.ofString "range") = none) : EntD P w K mg base G (Str.ofString "_law_apart") 1 2 F_law_apart :=
  entD F sc_law_apart rfl rfl fun f cdv A outer s H E hr => dss_cons (ds_for (vs := [2]) [2] PassesOwn.never rfl (di_range1 (by rfl) z_range (da_cons (de_min2 rfl (by rfl) z_min (by decide +kernel) (da_cons (de_len (by rfl) z_len (do_of (de_var 0))) (da_cons (de_len (by rfl) z_len (do_of (de_var 1))) da_nil))) da_nil)) (dg_name 2 (by decide) sc_law_apart.nd rfl (by first | exact .inl rfl | exact .inr rfl)) (dss_one (ds_if (dt_c (dc_ne hr.units (do_of (de_ix (do_of (de_var 0)) (de_var 2) (fun _ _ => rfl))) (do_of (de_ix (do_of (de_var 1)) (de_var 2) (fun _ _ => rfl))))) (dss_one (ds_ret (de_var 2))) dss_nil))) (dss_one (ds_ret de_non))
theorem ok_law_places (F : FunE K mg (Str.ofString "_law_places") s_law_places [(Str.ofString "_law_chain"), (Str.ofString "_law_other")]) (z_len : mg (Str.ofString "len") = none) (z_min : mg (Str.ofString "min") = none) (z_range : mg (Str.ofString "range") = none) : EntD P w K mg base G (Str.ofString "_law_places") 1 2 F_law_places :=
  entD F sc_law_places rfl rfl fun f cdv A outer s H E hr => dss_cons (ds_set (i := 2) sc_law_places.nd rfl (by first | exact .inl rfl | exact .inr rfl) de_int) (dss_cons (ds_set (i := 3) sc_law_places.nd rfl (by first | exact .inl rfl | exact .inr rfl) (de_min2 rfl (by rfl) z_min (by decide +kernel) (da_cons (de_len (by rfl) z_len (do_of (de_var 0))) (da_cons (de_len (by rfl) z_len (do_of (de_var 1))) da_nil)))) (dss_cons (ds_setN (i := 4) sc_law_places.nd rfl (by first | exact .inl rfl | exact .inr rfl) (dn_lst da_nil)) (dss_cons (ds_for (vs := [5]) [5, 6] PassesOwn.never rfl (di_range1 (by rfl) z_range (da_cons (de_add (do_of (de_bits (de_var 3))) (do_of de_int)) da_nil)) (dg_name 5 (by decide) sc_law_places.nd rfl (by first | exact .inl rfl | exact .inr rfl)) (dss_cons (ds_if (dt_c (dc_ge (de_var 2) (de_var 3))) (dss_one ds_break) dss_nil) (dss_cons (ds_set (i := 6) sc_law_places.nd rfl (by first | exact .inl rfl | exact .inr rfl) (de_div (de_add (do_of (de_var 2)) (do_of (de_var 3))) de_int)) (dss_cons (ds_app (i := 4) rfl (by first | exact .inl rfl | exact .inr (.inl rfl)) (de_var 6)) (dss_one (ds_if (dt_c (dc_eq hr.units (do_of (de_ix (do_of (de_var 0)) (de_var 6) (fun _ _ => rfl))) (do_of (de_ix (do_of (de_var 1)) (de_var 6) (fun _ _ => rfl))))) (dss_one (ds_set (i := 2) sc_law_places.nd rfl (by first | exact .inl rfl | exact .inr rfl) (de_add (do_of (de_var 6)) (do_of de_int)))) (dss_one (ds_set (i := 3) sc_law_places.nd rfl (by first | exact .inl rfl | exact .inr rfl) (de_var 6))))))))) (dss_frz 4 (dss_one (ds_ret (de_var 4)))))))
theorem ok_law_is_number (F : FunE K mg (Str.ofString "_law_is_number") s_law_is_number [(Str.ofString "_law_actual"), (Str.ofString "_law_due")]) (z_bool : mg (Str.ofString "bool") = none) (z_int : mg (Str.ofString "int") = none) (z_isinstance : mg (Str.ofString "isinstance") = none) : EntD P w K mg base G (Str.ofString "_law_is_number") 1 2 F_law_is_number :=
  entD F sc_law_is_number rfl rfl fun f cdv A outer s H E hr => dss_one (ds_ret (de_and (de_isi (by rfl) z_isinstance (by decide +kernel) (by rfl) z_int (by decide +kernel) (do_of (de_var 0))) (de_and (de_not (de_isi (by rfl) z_isinstance (by decide +kernel) (by rfl) z_bool (by decide +kernel) (do_of (de_var 0)))) (de_one (de_c (dc_eq hr.units (do_of (de_var 0)) (do_of (de_var 1))))))))
theorem ok_law_right (F : FunE K mg (Str.ofString "_law_right") s_law_right [(Str.ofString "_law_chain"), (Str.ofString "_law_other"), (Str.ofString "_law_named")]) (h_asked_places : EntD P w K mg base G (Str.ofString "asked_places") 1 2 F_asked_places) (h_first_apart : EntD P w K mg base G (Str.ofString "first_apart") 1 2 F_first_apart) (h_law_apart : EntD P w K mg base G (Str.ofString "_law_apart") 1 2 F_law_apart) (h_law_is_number : EntD P w K mg base G (Str.ofString "_law_is_number") 1 2 F_law_is_number) (h_law_places : EntD P w K mg base G (Str.ofString "_law_places") 1 2 F_law_places) (hk_first_apart : EntK P w K mg base G (Str.ofString "first_apart") 1 (Str.ofString "chain") (Str.ofString "other") F_first_apart) (hk_asked_places : EntK P w K mg base G (Str.ofString "asked_places") 1 (Str.ofString "chain") (Str.ofString "other") F_asked_places) (z_isinstance : mg (Str.ofString "isinstance") = none) (z_len : mg (Str.ofString "len") = none) (z_list : mg (Str.ofString "list") = none) (z_range : mg (Str.ofString "range") = none) (z_tuple : mg (Str.ofString "tuple") = none) : EntD P w K mg base G (Str.ofString "_law_right") 2 3 F_law_right :=
  entD F sc_law_right rfl rfl fun f cdv A outer s H E hr => dss_cons (ds_set (i := 3) sc_law_right.nd rfl (by first | exact .inl rfl | exact .inr rfl) (de_fre (dn_list (by rfl) z_list (by decide +kernel) (do_of (de_var 0))))) (dss_cons (ds_set (i := 4) sc_law_right.nd rfl (by first | exact .inl rfl | exact .inr rfl) (de_fre (dn_list (by rfl) z_list (by decide +kernel) (do_of (de_var 1))))) (dss_cons (ds_if (dt_val (de_var 2)) (dss_cons (ds_set (i := 5) sc_law_right.nd rfl (by first | exact .inl rfl | exact .inr rfl) (de_callSw hk_first_apart (hr.mono (by decide)) (by rfl) (dak_cons (de_var 1) (dak_cons (de_var 0) dak_nil)))) (dss_one (ds_set (i := 6) sc_law_right.nd rfl (by first | exact .inl rfl | exact .inr rfl) (de_callE h_asked_places (hr.mono (by decide)) (by rfl) (da_cons (de_var 0) (da_cons (de_var 1) da_nil)))))) (dss_cons (ds_set (i := 6) sc_law_right.nd rfl (by first | exact .inl rfl | exact .inr rfl) (de_callSw hk_asked_places (hr.mono (by decide)) (by rfl) (dak_cons (de_var 1) (dak_cons (de_var 0) dak_nil)))) (dss_one (ds_set (i := 5) sc_law_right.nd rfl (by first | exact .inl rfl | exact .inr rfl) (de_callE h_first_apart (hr.mono (by decide)) (by rfl) (da_cons (de_var 0) (da_cons (de_var 1) da_nil))))))) (dss_cons (ds_set (i := 7) sc_law_right.nd rfl (by first | exact .inl rfl | exact .inr rfl) (de_callE h_law_apart (hr.mono (by decide)) (by rfl) (da_cons (de_var 3) (da_cons (de_var 4) da_nil)))) (dss_cons (ds_if (dt_c (dc_isN (do_of (de_var 7)))) (dss_one (ds_if (dt_c (dc_notN (do_of (de_var 5)))) (dss_one (ds_ret de_bl)) dss_nil)) (dss_one (ds_if (dt_not (dt_val (de_callE h_law_is_number (hr.mono (by decide)) (by rfl) (da_cons (de_var 5) (da_cons (de_var 7) da_nil))))) (dss_one (ds_ret de_bl)) dss_nil))) (dss_cons (ds_set (i := 8) sc_law_right.nd rfl (by first | exact .inl rfl | exact .inr rfl) (de_callE h_law_places (hr.mono (by decide)) (by rfl) (da_cons (de_var 3) (da_cons (de_var 4) da_nil)))) (dss_cons (ds_if (dt_w (dw_or (dt_not (dt_val (de_isi (by rfl) z_isinstance (by decide +kernel) (by rfl) z_tuple (by decide +kernel) (do_of (de_var 6))))) (dw_or1 (dt_c (dc_ne hr.units (do_of (de_len (by rfl) z_len (do_of (de_var 6)))) (do_of (de_len (by rfl) z_len (do_of (de_var 8))))))))) (dss_one (ds_ret de_bl)) dss_nil) (dss_cons (ds_for (vs := [9]) [9] PassesOwn.never rfl (di_range1 (by rfl) z_range (da_cons (de_len (by rfl) z_len (do_of (de_var 8))) da_nil)) (dg_name 9 (by decide) sc_law_right.nd rfl (by first | exact .inl rfl | exact .inr rfl)) (dss_one (ds_if (dt_not (dt_val (de_callE h_law_is_number (hr.mono (by decide)) (by rfl) (da_cons (de_ix (do_of (de_var 6)) (de_var 9) (fun _ _ => rfl)) (da_cons (de_ix (do_of (de_var 8)) (de_var 9) (fun _ _ => rfl)) da_nil))))) (dss_one (ds_ret de_bl)) dss_nil))) (dss_one (ds_ret (de_and (de_c (dc_eq hr.units (do_of (de_fre (dn_list (by rfl) z_list (by decide +kernel) (do_of (de_var 0))))) (do_of (de_var 3)))) (de_one (de_c (dc_eq hr.units (do_of (de_fre (dn_list (by rfl) z_list (by decide +kernel) (do_of (de_var 1))))) (do_of (de_var 4)))))))))))))))
theorem ok_law_passed (F : FunE K mg (Str.ofString "_law_passed") s_law_passed [(Str.ofString "_law_tape_here"), (Str.ofString "_law_row")]) (h_law_draw : EntS P w K mg base G (Str.ofString "_law_draw") 2 2 F_law_draw) (z_list : mg (Str.ofString "list") = none) (z_tuple : mg (Str.ofString "tuple") = none) : EntS P w K mg base G (Str.ofString "_law_passed") 3 2 F_law_passed :=
  entS F sc_law_passed rfl rfl fun f cdv A outer s H E hr => dzss_cons (dzs_if (dzt_c (dzc_eq hr.units (dz_callE h_law_draw (hr.mono (by decide)) (by rfl) (dza_cons ((de_var 0).z) (dza_cons ((de_int).z) dza_nil))) ((de_int).z))) (dzss_one (dzs_ret ((de_tuple (by rfl) z_tuple (by decide +kernel) (do_of (de_var 1))).z))) dzss_nil) (dzss_one (dzs_ret ((de_fre (dn_list (by rfl) z_list (by decide +kernel) (do_of (de_var 1)))).z)))
theorem ok_law {f : Addr} {fd : FuncData} (F : Fun K (Str.ofString "law") (Str.ofString "law") s_law f fd) (h_law_tape : EntS P w K mg base G (Str.ofString "_law_tape") 1 1 F_law_tape) (h_law_draw : EntS P w K mg base G (Str.ofString "_law_draw") 2 2 F_law_draw) (h_law_number : EntS P w K mg base G (Str.ofString "_law_number") 3 2 F_law_number) (h_law_spoilt : EntS P w K mg base G (Str.ofString "_law_spoilt") 4 2 F_law_spoilt) (h_law_passed : EntS P w K mg base G (Str.ofString "_law_passed") 3 2 F_law_passed) (h_law_right : EntD P w K mg base G (Str.ofString "_law_right") 2 3 F_law_right) (h_law_more : EntS P w K mg base G (Str.ofString "_law_more") 3 1 F_law_more) (z_int : mg (Str.ofString "int") = none) (z_len : mg (Str.ofString "len") = none) (z_list : mg (Str.ofString "list") = none) (z_range : mg (Str.ofString "range") = none) (z_tuple : mg (Str.ofString "tuple") = none) : FnOk P w K mg base CX0 5 f fd [(Str.ofString "_law_script")] (spS K G 1 F_law) :=
  fnS F sc_law rfl rfl fun cdv A outer s H E hr => dzss_cons (dzs_set (i := 1) sc_law.nd rfl (by first | exact .inl rfl | exact .inr rfl) (dz_callE h_law_tape (hr.mono (by decide)) (by rfl) (dza_cons ((de_var 0).z) dza_nil))) (dzss_cons (dzs_set (i := 2) sc_law.nd rfl (by first | exact .inl rfl | exact .inr rfl) (dz_callE h_law_draw (hr.mono (by decide)) (by rfl) (dza_cons ((de_var 1).z) (dza_cons ((de_int).z) dza_nil)))) (dzss_cons (dzs_set (i := 3) sc_law.nd rfl (by first | exact .inl rfl | exact .inr rfl) (dz_callE h_law_draw (hr.mono (by decide)) (by rfl) (dza_cons ((de_var 1).z) (dza_cons ((de_int).z) dza_nil)))) (dzss_cons (dzs_if ((dt_c (dc_eq hr.units (do_of (de_mod (de_toInt (by rfl) z_int (by decide +kernel) (do_of (de_var 3))) de_int)) (do_of de_int))).z) (dzss_one (dzs_set (i := 2) sc_law.nd rfl (by first | exact .inl rfl | exact .inr rfl) (dz_callE h_law_draw (hr.mono (by decide)) (by rfl) (dza_cons ((de_var 1).z) (dza_cons ((de_int).z) dza_nil))))) dzss_nil) (dzss_cons (dzs_if ((dt_c (dc_eq hr.units (do_of (de_var 3)) (do_of de_int))).z) (dzss_one (dzs_set (i := 2) sc_law.nd rfl (by first | exact .inl rfl | exact .inr rfl) (dz_callE h_law_draw (hr.mono (by decide)) (by rfl) (dza_cons ((de_var 1).z) (dza_cons ((de_int).z) dza_nil))))) dzss_nil) (dzss_cons (dzs_set (i := 3) sc_law.nd rfl (by first | exact .inl rfl | exact .inr rfl) (dz_callE h_law_draw (hr.mono (by decide)) (by rfl) (dza_cons ((de_var 1).z) (dza_cons ((de_int).z) dza_nil)))) (dzss_cons (dzs_setLc (i := 4) (own := [((Str.ofString "_law_k"), 9)]) rfl sc_law.nd rfl rfl (sw_true rfl rfl rfl (by decide +kernel)) ((di_range1 (by rfl) z_range (da_cons (de_var 2) da_nil)).z) (blkOk_by (N := N_law) (sc := defScope s_law) (by decide +kernel)) (fun _ _ _ _ _ => dg_name 9 (by decide) sc_law.nd rfl (by first | exact .inl rfl | exact .inr rfl)) (fun _ _ _ _ _ => dzts_nil) (fun _ _ _ _ _ => dz_callE h_law_number (hr.mono (by decide)) (by rfl) (dza_cons ((de_var 1).z) (dza_cons ((de_var 3).z) dza_nil)))) (dzss_frz 4 (dzss_cons (dzs_set (i := 5) sc_law.nd rfl (by first | exact .inl rfl | exact .inr rfl) (dz_callE h_law_spoilt (hr.mono (by decide)) (by rfl) (dza_cons ((de_var 1).z) (dza_cons ((de_var 4).z) dza_nil)))) (dzss_cons (dzs_if (dzt_c (dzc_eq hr.units (dz_callE h_law_draw (hr.mono (by decide)) (by rfl) (dza_cons ((de_var 1).z) (dza_cons ((de_int).z) dza_nil))) ((de_int).z))) (dzss_one (dzs_setLc (i := 5) (own := [((Str.ofString "_law_k"), 9)]) rfl sc_law.nd rfl rfl (sw_true rfl rfl rfl (by decide +kernel)) ((di_range1 (by rfl) z_range (da_cons (de_var 2) da_nil)).z) (blkOk_by (N := N_law) (sc := defScope s_law) (by decide +kernel)) (fun _ _ _ _ _ => dg_name 9 (by decide) sc_law.nd rfl (by first | exact .inl rfl | exact .inr rfl)) (fun _ _ _ _ _ => dzts_nil) (fun _ _ _ _ _ => dz_callE h_law_number (hr.mono (by decide)) (by rfl) (dza_cons ((de_var 1).z) (dza_cons ((de_var 3).z) dza_nil))))) dzss_nil) (dzss_cons (dzs_set (i := 6) sc_law.nd rfl (by first | exact .inl rfl | exact .inr rfl) (dz_callE h_law_draw (hr.mono (by decide)) (by rfl) (dza_cons ((de_var 1).z) (dza_cons ((de_int).z) dza_nil)))) (dzss_cons (dzs_if ((dt_c (dc_eq hr.units (do_of (de_var 6)) (do_of de_int))).z) (dzss_frz 4 (dzss_one (dzs_set (i := 4) sc_law.nd rfl (by first | exact .inl rfl | exact .inr rfl) (dz_slice ((de_var 4).z) ((dp_none).z) (dzp_some (dz_callE h_law_draw (hr.mono (by decide)) (by rfl) (dza_cons ((de_var 1).z) (dza_cons ((de_add (do_of (de_var 2)) (do_of de_int)).z) dza_nil)))))))) dzss_nil) (dzss_cons (dzs_if ((dt_c (dc_eq hr.units (do_of (de_var 6)) (do_of de_int))).z) (dzss_frz 5 (dzss_one (dzs_set (i := 5) sc_law.nd rfl (by first | exact .inl rfl | exact .inr rfl) (dz_slice ((de_var 5).z) ((dp_none).z) (dzp_some (dz_callE h_law_draw (hr.mono (by decide)) (by rfl) (dza_cons ((de_var 1).z) (dza_cons ((de_add (do_of (de_var 2)) (do_of de_int)).z) dza_nil)))))))) dzss_nil) (dzss_cons (dzs_if ((dt_c (dc_inS (by rfl) (hu65 hr) (de_var 6) (do_of (de_tup (da_cons de_int (da_cons de_int da_nil)))))).z) (dzss_frz 5 (dzss_one (dzs_setN (i := 5) sc_law.nd rfl (by first | exact .inl rfl | exact .inr rfl) (dzn_cat ((de_var 5).z) (dz_fre (dzn_lc (own := [((Str.ofString "_law_k"), 9)]) rfl sc_law.nd (dzi_range1 (by rfl) z_range (dza_cons (dz_add ((de_int).z) (dz_callE h_law_draw (hr.mono (by decide)) (by rfl) (dza_cons ((de_var 1).z) (dza_cons ((de_int).z) dza_nil)))) dza_nil)) (blkOk_by (N := N_law) (sc := defScope s_law) (by decide +kernel)) (fun _ _ _ _ _ => dg_name 9 (by decide) sc_law.nd rfl (by first | exact .inl rfl | exact .inr rfl)) (fun _ _ _ _ _ => dzts_nil) (fun _ _ _ _ _ => dz_callE h_law_number (hr.mono (by decide)) (by rfl) (dza_cons ((de_var 1).z) (dza_cons ((de_var 3).z) dza_nil))))))))) dzss_nil) (dzss_frz 5 (dzss_frz 4 (dzss_cons (dzs_if (dzt_not (dzt_val (dz_callPE h_law_right (hr.mono (by decide)) (by rfl) (dza_cons (dz_callE h_law_passed (hr.mono (by decide)) (by rfl) (dza_cons ((de_var 1).z) (dza_cons ((de_var 4).z) dza_nil))) (dza_cons (dz_callE h_law_passed (hr.mono (by decide)) (by rfl) (dza_cons ((de_var 1).z) (dza_cons ((de_var 5).z) dza_nil))) (dza_cons ((de_bl).z) dza_nil)))))) (dzss_one (dzs_ret ((de_bl).z))) dzss_nil) (dzss_frz 4 (dzss_frz 5 (dzss_cons (dzs_if (dzt_not (dzt_val (dz_callPE h_law_right (hr.mono (by decide)) (by rfl) (dza_cons (dz_callE h_law_passed (hr.mono (by decide)) (by rfl) (dza_cons ((de_var 1).z) (dza_cons ((de_var 5).z) dza_nil))) (dza_cons (dz_callE h_law_passed (hr.mono (by decide)) (by rfl) (dza_cons ((de_var 1).z) (dza_cons ((de_var 4).z) dza_nil))) (dza_cons ((de_bl).z) dza_nil)))))) (dzss_one (dzs_ret ((de_bl).z))) dzss_nil) (dzss_cons (dzs_setN (i := 7) sc_law.nd rfl (by first | exact .inl rfl | exact .inr rfl) ((dn_list (by rfl) z_list (by decide +kernel) (do_var 5)).z)) (dzss_frz 4 (dzss_cons (dzs_if ((dt_lend [7] (dt_w (dw_or (dt_not (dt_val (de_callE h_law_right (hr.mono (by decide)) (by rfl) (da_cons (de_var 4) (da_cons (de_var 7) (da_cons de_bl da_nil)))))) (dw_or1 (dt_not (dt_val (de_callE h_law_right (hr.mono (by decide)) (by rfl) (da_cons (de_var 7) (da_cons (de_var 4) (da_cons de_bl da_nil)))))))))).z) (dzss_one (dzs_ret ((de_bl).z))) dzss_nil) (dzss_cons (dzs_if (dzt_w (dzw_and ((dt_c (dc_ne hr.units (do_var 7) (do_of (de_lst da_nil)))).z) (dzw_and1 (dzt_c (dzc_gt (dz_callE h_law_draw (hr.mono (by decide)) (by rfl) (dza_cons ((de_var 1).z) (dza_cons ((de_int).z) dza_nil))) ((de_int).z)))))) (dzss_cons (dzs_set (i := 8) sc_law.nd rfl (by first | exact .inl rfl | exact .inr rfl) (dz_callE h_law_draw (hr.mono (by decide)) (by rfl) (dza_cons ((de_var 1).z) (dza_cons ((de_len (by rfl) z_len (do_var 7)).z) dza_nil)))) (dzss_one (dzs_setI (i := 7) rfl (by first | exact .inl rfl | exact .inr (.inl rfl)) ((de_var 8).z) (dz_add ((de_ix (do_var 7) (de_var 8) (fun _ _ => rfl)).z) (dz_callE h_law_more (hr.mono (by decide)) (by rfl) (dza_cons ((de_var 1).z) dza_nil)))))) (dzss_one (dzs_app (i := 7) rfl (by first | exact .inl rfl | exact .inr (.inl rfl)) (dz_callE h_law_number (hr.mono (by decide)) (by rfl) (dza_cons ((de_var 1).z) (dza_cons ((de_var 3).z) dza_nil)))))) (dzss_frz 7 (dzss_frz 4 (dzss_cons (dzs_if ((dt_w (dw_or (dt_not (dt_val (de_callE h_law_right (hr.mono (by decide)) (by rfl) (da_cons (de_var 4) (da_cons (de_var 7) (da_cons de_bl da_nil)))))) (dw_or1 (dt_not (dt_val (de_callE h_law_right (hr.mono (by decide)) (by rfl) (da_cons (de_var 7) (da_cons (de_var 4) (da_cons de_bl da_nil))))))))).z) (dzss_one (dzs_ret ((de_bl).z))) dzss_nil) (dzss_frz 7 (dzss_one (dzs_ret ((de_and (de_callE h_law_right (hr.mono (by decide)) (by rfl) (da_cons (de_tuple (by rfl) z_tuple (by decide +kernel) (do_var 4)) (da_cons (de_tuple (by rfl) z_tuple (by decide +kernel) (do_var 5)) (da_cons de_bl da_nil)))) (de_one (de_callE h_law_right (hr.mono (by decide)) (by rfl) (da_cons (de_var 7) (da_cons (de_var 7) (da_cons de_bl da_nil)))))).z))))))))))))))))))))))))))))))
theorem okK_asked_places (F : FunK K mg (Str.ofString "asked_places") s_asked_places (Str.ofString "chain") (Str.ofString "other")) (z_len : mg (Str.ofString "len") = none) (z_min : mg (Str.ofString "min") = none) (z_tuple : mg (Str.ofString "tuple") = none) : EntK P w K mg base G (Str.ofString "asked_places") 1 (Str.ofString "chain") (Str.ofString "other") F_asked_places :=
  entK F sc_asked_places rfl fun f cdv A outer s H E hr => dss_cons (ds_set (i := 2) sc_asked_places.nd rfl (by first | exact .inl rfl | exact .inr rfl) de_int) (dss_cons (ds_set (i := 3) sc_asked_places.nd rfl (by first | exact .inl rfl | exact .inr rfl) (de_min2 rfl (by rfl) z_min (by decide +kernel) (da_cons (de_len (by rfl) z_len (do_of (de_var 0))) (da_cons (de_len (by rfl) z_len (do_of (de_var 1))) da_nil)))) (dss_cons (ds_setN (i := 4) sc_asked_places.nd rfl (by first | exact .inl rfl | exact .inr rfl) (dn_lst da_nil)) (dss_cons (ds_while 1000 [5] PassesOwn.never (dt_c (dc_lt (de_var 2) (de_var 3))) (dss_cons (ds_set (i := 5) sc_asked_places.nd rfl (by first | exact .inl rfl | exact .inr rfl) (de_div (de_add (do_of (de_var 2)) (do_of (de_var 3))) de_int)) (dss_cons (ds_app (i := 4) rfl (by first | exact .inl rfl | exact .inr (.inl rfl)) (de_var 5)) (dss_one (ds_if (dt_c (dc_eq hr.units (do_of (de_ix (do_of (de_var 0)) (de_var 5) (fun _ _ => rfl))) (do_of (de_ix (do_of (de_var 1)) (de_var 5) (fun _ _ => rfl))))) (dss_one (ds_set (i := 2) sc_asked_places.nd rfl (by first | exact .inl rfl | exact .inr rfl) (de_add (do_of (de_var 5)) (do_of de_int)))) (dss_one (ds_set (i := 3) sc_asked_places.nd rfl (by first | exact .inl rfl | exact .inr rfl) (de_var 5)))))))) (dss_one (ds_ret (de_tuple (by rfl) z_tuple (by decide +kernel) (do_var 4)))))))
theorem okK_first_apart (F : FunK K mg (Str.ofString "first_apart") s_first_apart (Str.ofString "chain") (Str.ofString "other")) (z_enumerate : mg (Str.ofString "enumerate") = none) (z_zip : mg (Str.ofString "zip") = none) : EntK P w K mg base G (Str.ofString "first_apart") 1 (Str.ofString "chain") (Str.ofString "other") F_first_apart :=
  entK F sc_first_apart rfl fun f cdv A outer s H E hr => dss_cons (ds_for (vs := [2, 3, 4]) [2, 3, 4] PassesOwn.never rfl (di_ez (by rfl) z_enumerate (by rfl) z_zip (da_cons (de_var 0) (da_cons (de_var 1) da_nil))) (dg_tup rfl (dgs_cons (dg_name 2 (by decide) sc_first_apart.nd rfl (by first | exact .inl rfl | exact .inr rfl)) (dgs_cons (dg_tup rfl (dgs_cons (dg_name 3 (by decide) sc_first_apart.nd rfl (by first | exact .inl rfl | exact .inr rfl)) (dgs_cons (dg_name 4 (by decide) sc_first_apart.nd rfl (by first | exact .inl rfl | exact .inr rfl)) dgs_nil))) dgs_nil))) (dss_one (ds_if (dt_c (dc_ne hr.units (do_of (de_var 3)) (do_of (de_var 4)))) (dss_one (ds_ret (de_var 2))) dss_nil))) (dss_one (ds_ret de_non))
end
end K71

namespace K71
open PySem PySem.Spec PyProof.Rows L2 Dn
theorem all_mk {P : Program} {w : World} {K : PySem.W.Frag} {h : Heap} {mg : Str → Option Value} {fa : Addr} (X : K.In h) (G : h.Ns mainGlobals mg) (hfa : mg (Str.ofString "law") = some (.ref fa))
    {f0 : Addr} {od0 an0 : Option Addr} {sl0 : Array (Option Value)} {oc0 kV0 dc0 pm0 cd0 ct0 : Value}
    {f1 : Addr} {od1 an1 : Option Addr} {sl1 : Array (Option Value)} {oc1 kV1 dc1 pm1 cd1 ct1 : Value}
    {f2 : Addr} {od2 an2 : Option Addr} {sl2 : Array (Option Value)} {oc2 kV2 dc2 pm2 cd2 ct2 : Value}
    {f3 : Addr} {od3 an3 : Option Addr} {sl3 : Array (Option Value)} {oc3 kV3 dc3 pm3 cd3 ct3 : Value}
    {f4 : Addr} {od4 an4 : Option Addr} {sl4 : Array (Option Value)} {oc4 kV4 dc4 pm4 cd4 ct4 : Value}
    {f5 : Addr} {od5 an5 : Option Addr} {sl5 : Array (Option Value)} {oc5 kV5 dc5 pm5 cd5 ct5 : Value}
    {f6 : Addr} {od6 an6 : Option Addr} {sl6 : Array (Option Value)} {oc6 kV6 dc6 pm6 cd6 ct6 : Value}
    {f7 : Addr} {od7 an7 : Option Addr} {sl7 : Array (Option Value)} {oc7 kV7 dc7 pm7 cd7 ct7 : Value}
    {f8 : Addr} {od8 an8 : Option Addr} {sl8 : Array (Option Value)} {oc8 kV8 dc8 pm8 cd8 ct8 : Value}
    {f9 : Addr} {od9 an9 : Option Addr} {sl9 : Array (Option Value)} {oc9 kV9 dc9 pm9 cd9 ct9 : Value}
    {f10 : Addr} {od10 an10 : Option Addr} {sl10 : Array (Option Value)} {oc10 kV10 dc10 pm10 cd10 ct10 : Value}
    {f11 : Addr} {od11 an11 : Option Addr} {sl11 : Array (Option Value)} {oc11 kV11 dc11 pm11 cd11 ct11 : Value}
    {f12 : Addr} {od12 an12 : Option Addr} {sl12 : Array (Option Value)} {oc12 kV12 dc12 pm12 cd12 ct12 : Value}
    {f13 : Addr} {od13 an13 : Option Addr} {sl13 : Array (Option Value)} {oc13 kV13 dc13 pm13 cd13 ct13 : Value}
    (a0 : PySem.W.nsIn K mainGlobals (Str.ofString "first_apart") = some (some (.ref f0))) (l0 : K.lookup f0 = some ⟨oc0, od0, .func (PySem.W.fnOf (Str.ofString "first_apart") (Str.ofString "first_apart") (defArgs s_first_apart) (defBody s_first_apart) (defScope s_first_apart) .none kV0 dc0 pm0 an0 cd0 ct0), sl0⟩) (c0 : PySem.W.codeIn K cd0 (Str.ofString "first_apart") = true) (k0 : PySem.W.keepIn K (.ref f0) = true)
    (a1 : PySem.W.nsIn K mainGlobals (Str.ofString "asked_places") = some (some (.ref f1))) (l1 : K.lookup f1 = some ⟨oc1, od1, .func (PySem.W.fnOf (Str.ofString "asked_places") (Str.ofString "asked_places") (defArgs s_asked_places) (defBody s_asked_places) (defScope s_asked_places) .none kV1 dc1 pm1 an1 cd1 ct1), sl1⟩) (c1 : PySem.W.codeIn K cd1 (Str.ofString "asked_places") = true) (k1 : PySem.W.keepIn K (.ref f1) = true)
    (a2 : PySem.W.nsIn K mainGlobals (Str.ofString "_law_mixed") = some (some (.ref f2))) (l2 : K.lookup f2 = some ⟨oc2, od2, .func (PySem.W.fnOf (Str.ofString "_law_mixed") (Str.ofString "_law_mixed") (defArgs s_law_mixed) (defBody s_law_mixed) (defScope s_law_mixed) .none kV2 dc2 pm2 an2 cd2 ct2), sl2⟩) (c2 : PySem.W.codeIn K cd2 (Str.ofString "_law_mixed") = true) (k2 : PySem.W.keepIn K (.ref f2) = true)
    (a3 : PySem.W.nsIn K mainGlobals (Str.ofString "_law_tape") = some (some (.ref f3))) (l3 : K.lookup f3 = some ⟨oc3, od3, .func (PySem.W.fnOf (Str.ofString "_law_tape") (Str.ofString "_law_tape") (defArgs s_law_tape) (defBody s_law_tape) (defScope s_law_tape) .none kV3 dc3 pm3 an3 cd3 ct3), sl3⟩) (c3 : PySem.W.codeIn K cd3 (Str.ofString "_law_tape") = true) (k3 : PySem.W.keepIn K (.ref f3) = true)
    (a4 : PySem.W.nsIn K mainGlobals (Str.ofString "_law_draw") = some (some (.ref f4))) (l4 : K.lookup f4 = some ⟨oc4, od4, .func (PySem.W.fnOf (Str.ofString "_law_draw") (Str.ofString "_law_draw") (defArgs s_law_draw) (defBody s_law_draw) (defScope s_law_draw) .none kV4 dc4 pm4 an4 cd4 ct4), sl4⟩) (c4 : PySem.W.codeIn K cd4 (Str.ofString "_law_draw") = true) (k4 : PySem.W.keepIn K (.ref f4) = true)
    (a5 : PySem.W.nsIn K mainGlobals (Str.ofString "_law_number") = some (some (.ref f5))) (l5 : K.lookup f5 = some ⟨oc5, od5, .func (PySem.W.fnOf (Str.ofString "_law_number") (Str.ofString "_law_number") (defArgs s_law_number) (defBody s_law_number) (defScope s_law_number) .none kV5 dc5 pm5 an5 cd5 ct5), sl5⟩) (c5 : PySem.W.codeIn K cd5 (Str.ofString "_law_number") = true) (k5 : PySem.W.keepIn K (.ref f5) = true)
    (a6 : PySem.W.nsIn K mainGlobals (Str.ofString "_law_more") = some (some (.ref f6))) (l6 : K.lookup f6 = some ⟨oc6, od6, .func (PySem.W.fnOf (Str.ofString "_law_more") (Str.ofString "_law_more") (defArgs s_law_more) (defBody s_law_more) (defScope s_law_more) .none kV6 dc6 pm6 an6 cd6 ct6), sl6⟩) (c6 : PySem.W.codeIn K cd6 (Str.ofString "_law_more") = true) (k6 : PySem.W.keepIn K (.ref f6) = true)
    (a7 : PySem.W.nsIn K mainGlobals (Str.ofString "_law_spoilt") = some (some (.ref f7))) (l7 : K.lookup f7 = some ⟨oc7, od7, .func (PySem.W.fnOf (Str.ofString "_law_spoilt") (Str.ofString "_law_spoilt") (defArgs s_law_spoilt) (defBody s_law_spoilt) (defScope s_law_spoilt) .none kV7 dc7 pm7 an7 cd7 ct7), sl7⟩) (c7 : PySem.W.codeIn K cd7 (Str.ofString "_law_spoilt") = true) (k7 : PySem.W.keepIn K (.ref f7) = true)
    (a8 : PySem.W.nsIn K mainGlobals (Str.ofString "_law_apart") = some (some (.ref f8))) (l8 : K.lookup f8 = some ⟨oc8, od8, .func (PySem.W.fnOf (Str.ofString "_law_apart") (Str.ofString "_law_apart") (defArgs s_law_apart) (defBody s_law_apart) (defScope s_law_apart) .none kV8 dc8 pm8 an8 cd8 ct8), sl8⟩) (c8 : PySem.W.codeIn K cd8 (Str.ofString "_law_apart") = true) (k8 : PySem.W.keepIn K (.ref f8) = true)
    (a9 : PySem.W.nsIn K mainGlobals (Str.ofString "_law_places") = some (some (.ref f9))) (l9 : K.lookup f9 = some ⟨oc9, od9, .func (PySem.W.fnOf (Str.ofString "_law_places") (Str.ofString "_law_places") (defArgs s_law_places) (defBody s_law_places) (defScope s_law_places) .none kV9 dc9 pm9 an9 cd9 ct9), sl9⟩) (c9 : PySem.W.codeIn K cd9 (Str.ofString "_law_places") = true) (k9 : PySem.W.keepIn K (.ref f9) = true)
    (a10 : PySem.W.nsIn K mainGlobals (Str.ofString "_law_is_number") = some (some (.ref f10))) (l10 : K.lookup f10 = some ⟨oc10, od10, .func (PySem.W.fnOf (Str.ofString "_law_is_number") (Str.ofString "_law_is_number") (defArgs s_law_is_number) (defBody s_law_is_number) (defScope s_law_is_number) .none kV10 dc10 pm10 an10 cd10 ct10), sl10⟩) (c10 : PySem.W.codeIn K cd10 (Str.ofString "_law_is_number") = true) (k10 : PySem.W.keepIn K (.ref f10) = true)
    (a11 : PySem.W.nsIn K mainGlobals (Str.ofString "_law_right") = some (some (.ref f11))) (l11 : K.lookup f11 = some ⟨oc11, od11, .func (PySem.W.fnOf (Str.ofString "_law_right") (Str.ofString "_law_right") (defArgs s_law_right) (defBody s_law_right) (defScope s_law_right) .none kV11 dc11 pm11 an11 cd11 ct11), sl11⟩) (c11 : PySem.W.codeIn K cd11 (Str.ofString "_law_right") = true) (k11 : PySem.W.keepIn K (.ref f11) = true)
    (a12 : PySem.W.nsIn K mainGlobals (Str.ofString "_law_passed") = some (some (.ref f12))) (l12 : K.lookup f12 = some ⟨oc12, od12, .func (PySem.W.fnOf (Str.ofString "_law_passed") (Str.ofString "_law_passed") (defArgs s_law_passed) (defBody s_law_passed) (defScope s_law_passed) .none kV12 dc12 pm12 an12 cd12 ct12), sl12⟩) (c12 : PySem.W.codeIn K cd12 (Str.ofString "_law_passed") = true) (k12 : PySem.W.keepIn K (.ref f12) = true)
    (a13 : PySem.W.nsIn K mainGlobals (Str.ofString "law") = some (some (.ref f13))) (l13 : K.lookup f13 = some ⟨oc13, od13, .func (PySem.W.fnOf (Str.ofString "law") (Str.ofString "law") (defArgs s_law) (defBody s_law) (defScope s_law) .none kV13 dc13 pm13 an13 cd13 ct13), sl13⟩) (c13 : PySem.W.codeIn K cd13 (Str.ofString "law") = true) (k13 : PySem.W.keepIn K (.ref f13) = true)
    (z_bool : PySem.W.nsIn K mainGlobals (Str.ofString "bool") = some none)
    (z_enumerate : PySem.W.nsIn K mainGlobals (Str.ofString "enumerate") = some none)
    (z_int : PySem.W.nsIn K mainGlobals (Str.ofString "int") = some none)
    (z_isinstance : PySem.W.nsIn K mainGlobals (Str.ofString "isinstance") = some none)
    (z_len : PySem.W.nsIn K mainGlobals (Str.ofString "len") = some none)
    (z_list : PySem.W.nsIn K mainGlobals (Str.ofString "list") = some none)
    (z_min : PySem.W.nsIn K mainGlobals (Str.ofString "min") = some none)
    (z_range : PySem.W.nsIn K mainGlobals (Str.ofString "range") = some none)
    (z_tuple : PySem.W.nsIn K mainGlobals (Str.ofString "tuple") = some none)
    (z_zip : PySem.W.nsIn K mainGlobals (Str.ofString "zip") = some none)
    : ∃ fd : FuncData, (∀ (s : Shared) (v : Value), BindsTo s fd ⟨[v], []⟩ [((Str.ofString "_law_script"), v)]) ∧ ∀ base : Heap, K.In base → base.Ns mainGlobals mg → FnOk P w K mg base CX0 5 fa fd [(Str.ofString "_law_script")] (spS K (fun _ => 0) 1 F_law) := by
  have e := hfa.symm.trans (PySem.W.mg_of X G a13)
  cases e
  have U0 := fun_mk (st := s_first_apart) l0 c0 k0
  have BK_first_apart : FunK K mg (Str.ofString "first_apart") s_first_apart (Str.ofString "chain") (Str.ofString "other") := ⟨_, _, U0, fun s a b => .of_eq rfl, PySem.W.mg_of X G a0⟩
  have B_first_apart : FunE K mg (Str.ofString "first_apart") s_first_apart [(Str.ofString "chain"), (Str.ofString "other")] := ⟨_, _, U0, U0.binds (ps := [(Str.ofString "chain"), (Str.ofString "other")]) fun _ _ _ _ _ _ us hl => match us, hl with | [_, _], _ => rfl, PySem.W.mg_of X G a0⟩
  have U1 := fun_mk (st := s_asked_places) l1 c1 k1
  have BK_asked_places : FunK K mg (Str.ofString "asked_places") s_asked_places (Str.ofString "chain") (Str.ofString "other") := ⟨_, _, U1, fun s a b => .of_eq rfl, PySem.W.mg_of X G a1⟩
  have B_asked_places : FunE K mg (Str.ofString "asked_places") s_asked_places [(Str.ofString "chain"), (Str.ofString "other")] := ⟨_, _, U1, U1.binds (ps := [(Str.ofString "chain"), (Str.ofString "other")]) fun _ _ _ _ _ _ us hl => match us, hl with | [_, _], _ => rfl, PySem.W.mg_of X G a1⟩
  have U2 := fun_mk (st := s_law_mixed) l2 c2 k2
  have B_law_mixed : FunE K mg (Str.ofString "_law_mixed") s_law_mixed [(Str.ofString "_law_number_here"), (Str.ofString "_law_turn")] := ⟨_, _, U2, U2.binds (ps := [(Str.ofString "_law_number_here"), (Str.ofString "_law_turn")]) fun _ _ _ _ _ _ us hl => match us, hl with | [_, _], _ => rfl, PySem.W.mg_of X G a2⟩
  have U3 := fun_mk (st := s_law_tape) l3 c3 k3
  have B_law_tape : FunE K mg (Str.ofString "_law_tape") s_law_tape [(Str.ofString "_law_script")] := ⟨_, _, U3, U3.binds (ps := [(Str.ofString "_law_script")]) fun _ _ _ _ _ _ us hl => match us, hl with | [_], _ => rfl, PySem.W.mg_of X G a3⟩
  have U4 := fun_mk (st := s_law_draw) l4 c4 k4
  have B_law_draw : FunE K mg (Str.ofString "_law_draw") s_law_draw [(Str.ofString "_law_tape_here"), (Str.ofString "_law_many")] := ⟨_, _, U4, U4.binds (ps := [(Str.ofString "_law_tape_here"), (Str.ofString "_law_many")]) fun _ _ _ _ _ _ us hl => match us, hl with | [_, _], _ => rfl, PySem.W.mg_of X G a4⟩
  have U5 := fun_mk (st := s_law_number) l5 c5 k5
  have B_law_number : FunE K mg (Str.ofString "_law_number") s_law_number [(Str.ofString "_law_tape_here"), (Str.ofString "_law_size")] := ⟨_, _, U5, U5.binds (ps := [(Str.ofString "_law_tape_here"), (Str.ofString "_law_size")]) fun _ _ _ _ _ _ us hl => match us, hl with | [_, _], _ => rfl, PySem.W.mg_of X G a5⟩
  have U6 := fun_mk (st := s_law_more) l6 c6 k6
  have B_law_more : FunE K mg (Str.ofString "_law_more") s_law_more [(Str.ofString "_law_tape_here")] := ⟨_, _, U6, U6.binds (ps := [(Str.ofString "_law_tape_here")]) fun _ _ _ _ _ _ us hl => match us, hl with | [_], _ => rfl, PySem.W.mg_of X G a6⟩
  have U7 := fun_mk (st := s_law_spoilt) l7 c7 k7
  have B_law_spoilt : FunE K mg (Str.ofString "_law_spoilt") s_law_spoilt [(Str.ofString "_law_tape_here"), (Str.ofString "_law_chain")] := ⟨_, _, U7, U7.binds (ps := [(Str.ofString "_law_tape_here"), (Str.ofString "_law_chain")]) fun _ _ _ _ _ _ us hl => match us, hl with | [_, _], _ => rfl, PySem.W.mg_of X G a7⟩
  have U8 := fun_mk (st := s_law_apart) l8 c8 k8
  have B_law_apart : FunE K mg (Str.ofString "_law_apart") s_law_apart [(Str.ofString "_law_chain"), (Str.ofString "_law_other")] := ⟨_, _, U8, U8.binds (ps := [(Str.ofString "_law_chain"), (Str.ofString "_law_other")]) fun _ _ _ _ _ _ us hl => match us, hl with | [_, _], _ => rfl, PySem.W.mg_of X G a8⟩
  have U9 := fun_mk (st := s_law_places) l9 c9 k9
  have B_law_places : FunE K mg (Str.ofString "_law_places") s_law_places [(Str.ofString "_law_chain"), (Str.ofString "_law_other")] := ⟨_, _, U9, U9.binds (ps := [(Str.ofString "_law_chain"), (Str.ofString "_law_other")]) fun _ _ _ _ _ _ us hl => match us, hl with | [_, _], _ => rfl, PySem.W.mg_of X G a9⟩
  have U10 := fun_mk (st := s_law_is_number) l10 c10 k10
  have B_law_is_number : FunE K mg (Str.ofString "_law_is_number") s_law_is_number [(Str.ofString "_law_actual"), (Str.ofString "_law_due")] := ⟨_, _, U10, U10.binds (ps := [(Str.ofString "_law_actual"), (Str.ofString "_law_due")]) fun _ _ _ _ _ _ us hl => match us, hl with | [_, _], _ => rfl, PySem.W.mg_of X G a10⟩
  have U11 := fun_mk (st := s_law_right) l11 c11 k11
  have B_law_right : FunE K mg (Str.ofString "_law_right") s_law_right [(Str.ofString "_law_chain"), (Str.ofString "_law_other"), (Str.ofString "_law_named")] := ⟨_, _, U11, U11.binds (ps := [(Str.ofString "_law_chain"), (Str.ofString "_law_other"), (Str.ofString "_law_named")]) fun _ _ _ _ _ _ us hl => match us, hl with | [_, _, _], _ => rfl, PySem.W.mg_of X G a11⟩
  have U12 := fun_mk (st := s_law_passed) l12 c12 k12
  have B_law_passed : FunE K mg (Str.ofString "_law_passed") s_law_passed [(Str.ofString "_law_tape_here"), (Str.ofString "_law_row")] := ⟨_, _, U12, U12.binds (ps := [(Str.ofString "_law_tape_here"), (Str.ofString "_law_row")]) fun _ _ _ _ _ _ us hl => match us, hl with | [_, _], _ => rfl, PySem.W.mg_of X G a12⟩
  have UL := fun_mk (st := s_law) l13 c13 k13
  have Z_bool := PySem.W.mg_none_of X G z_bool
  have Z_enumerate := PySem.W.mg_none_of X G z_enumerate
  have Z_int := PySem.W.mg_none_of X G z_int
  have Z_isinstance := PySem.W.mg_none_of X G z_isinstance
  have Z_len := PySem.W.mg_none_of X G z_len
  have Z_list := PySem.W.mg_none_of X G z_list
  have Z_min := PySem.W.mg_none_of X G z_min
  have Z_range := PySem.W.mg_none_of X G z_range
  have Z_tuple := PySem.W.mg_none_of X G z_tuple
  have Z_zip := PySem.W.mg_none_of X G z_zip
  refine ⟨PySem.W.fnOf (Str.ofString "law") (Str.ofString "law") (defArgs s_law) (defBody s_law) (defScope s_law) .none kV13 dc13 pm13 an13 cd13 ct13, fun s v => .of_eq rfl, fun base _ _ => ?_⟩
  have E_first_apart := ok_first_apart (P := P) (w := w) (base := base) (G := fun _ => 0) B_first_apart Z_enumerate Z_zip
  have EK_first_apart := okK_first_apart (P := P) (w := w) (base := base) (G := fun _ => 0) BK_first_apart Z_enumerate Z_zip
  have E_asked_places := ok_asked_places (P := P) (w := w) (base := base) (G := fun _ => 0) B_asked_places Z_len Z_min Z_tuple
  have EK_asked_places := okK_asked_places (P := P) (w := w) (base := base) (G := fun _ => 0) BK_asked_places Z_len Z_min Z_tuple
  have E_law_mixed := ok_law_mixed (P := P) (w := w) (base := base) (G := fun _ => 0) B_law_mixed Z_int
  have E_law_tape := ok_law_tape (P := P) (w := w) (base := base) (G := fun _ => 0) B_law_tape Z_list
  have E_law_draw := ok_law_draw (P := P) (w := w) (base := base) (G := fun _ => 0) B_law_draw E_law_mixed Z_int Z_len
  have E_law_number := ok_law_number (P := P) (w := w) (base := base) (G := fun _ => 0) B_law_number E_law_draw
  have E_law_more := ok_law_more (P := P) (w := w) (base := base) (G := fun _ => 0) B_law_more E_law_draw
  have E_law_spoilt := ok_law_spoilt (P := P) (w := w) (base := base) (G := fun _ => 0) B_law_spoilt E_law_draw E_law_more Z_len Z_list Z_range
  have E_law_apart := ok_law_apart (P := P) (w := w) (base := base) (G := fun _ => 0) B_law_apart Z_len Z_min Z_range
  have E_law_places := ok_law_places (P := P) (w := w) (base := base) (G := fun _ => 0) B_law_places Z_len Z_min Z_range
  have E_law_is_number := ok_law_is_number (P := P) (w := w) (base := base) (G := fun _ => 0) B_law_is_number Z_bool Z_int Z_isinstance
  have E_law_right := ok_law_right (P := P) (w := w) (base := base) (G := fun _ => 0) B_law_right E_asked_places E_first_apart E_law_apart E_law_is_number E_law_places EK_first_apart EK_asked_places Z_isinstance Z_len Z_list Z_range Z_tuple
  have E_law_passed := ok_law_passed (P := P) (w := w) (base := base) (G := fun _ => 0) B_law_passed E_law_draw Z_list Z_tuple
  exact ok_law UL E_law_tape E_law_draw E_law_number E_law_spoilt E_law_passed E_law_right E_law_more Z_int Z_len Z_list Z_range Z_tuple
end K71
open PySem PySem.W PyProof.Rows
set_option maxHeartbeats 0 in
theorem PySem.Challenge.cw_quillmoot_k71_places_by_halving_holds : PySem.Challenge.rw_quillmoot_k71_places_by_halving.Holds := by
  w_on; o_law; k_head; (case hw => w_witness2)
  k_fill
  refine L2.walk_ofK (l := PySem.Challenge.rw_quillmoot_k71_places_by_halving) (n := 63) (k := 5) (x := (Str.ofString "_law_script")) (CX := L2.CX0) (sp := fun K => Dn.spS K (fun _ => 0) 1 K71.F_law) rfl (by decide) rfl ⟨rfl, by decide, by decide⟩ (fun w h Y => PySem.W.kIn_of Y) ?F (fun K H a ns hl _ hS => Dn.spS_script (K71.law_true ns hl) hS fun _ => rfl) (fun _ _ _ _ h => h)
  case F =>
    intro w mg fa h KX G hmg
    refine' K71.all_mk KX G hmg ?a0 ?l0 ?c0 ?k0 ?a1 ?l1 ?c1 ?k1 ?a2 ?l2 ?c2 ?k2 ?a3 ?l3 ?c3 ?k3 ?a4 ?l4 ?c4 ?k4 ?a5 ?l5 ?c5 ?k5 ?a6 ?l6 ?c6 ?k6 ?a7 ?l7 ?c7 ?k7 ?a8 ?l8 ?c8 ?k8 ?a9 ?l9 ?c9 ?k9 ?a10 ?l10 ?c10 ?k10 ?a11 ?l11 ?c11 ?k11 ?a12 ?l12 ?c12 ?k12 ?a13 ?l13 ?c13 ?k13 ?z_bool ?z_enumerate ?z_int ?z_isinstance ?z_len ?z_list ?z_min ?z_range ?z_tuple ?z_zip
    (case a0 => k_is)
    (case l0 => k_is)
    (case c0 => k_is)
    (case k0 => k_is)
    (case a1 => k_is)
    (case l1 => k_is)
    (case c1 => k_is)
    (case k1 => k_is)
    (case a2 => k_is)
    (case l2 => k_is)
    (case c2 => k_is)
    (case k2 => k_is)
    (case a3 => k_is)
    (case l3 => k_is)
    (case c3 => k_is)
    (case k3 => k_is)
    (case a4 => k_is)
    (case l4 => k_is)
    (case c4 => k_is)
    (case k4 => k_is)
    (case a5 => k_is)
    (case l5 => k_is)
    (case c5 => k_is)
    (case k5 => k_is)
    (case a6 => k_is)
    (case l6 => k_is)
    (case c6 => k_is)
    (case k6 => k_is)
    (case a7 => k_is)
    (case l7 => k_is)
    (case c7 => k_is)
    (case k7 => k_is)
    (case a8 => k_is)
    (case l8 => k_is)
    (case c8 => k_is)
    (case k8 => k_is)
    (case a9 => k_is)
    (case l9 => k_is)
    (case c9 => k_is)
    (case k9 => k_is)
    (case a10 => k_is)
    (case l10 => k_is)
    (case c10 => k_is)
    (case k10 => k_is)
    (case a11 => k_is)
    (case l11 => k_is)
    (case c11 => k_is)
    (case k11 => k_is)
    (case a12 => k_is)
    (case l12 => k_is)
    (case c12 => k_is)
    (case k12 => k_is)
    (case a13 => k_is)
    (case l13 => k_is)
    (case c13 => k_is)
    (case k13 => k_is)
    (case z_bool => k_is)
    (case z_enumerate => k_is)
    (case z_int => k_is)
    (case z_isinstance => k_is)
    (case z_len => k_is)
    (case z_list => k_is)
    (case z_min => k_is)
    (case z_range => k_is)
    (case z_tuple => k_is)
    (case z_zip => k_is)
