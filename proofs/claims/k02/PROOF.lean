import PyProof.Rows.All
import Wide.All
import OpenK.AllK
import Wide.FinOn
import HandS.ForMost
import HandS.IsInst
import HandS.TupAny
import HandS.Zip
import HandS.Deep
import HandS.Wide
import PySem.Challenge.RW_quillmoot_k02_clocks_are_a_lattice
set_option Elab.async false
set_option linter.all false
set_option maxRecDepth 100000
set_option maxHeartbeats 8000000
/-! Dn: what a piece of Python computes, as a function on plain data (values without addresses); lists that a def owns are a second kind of slot. -/
namespace Dn
open PySem PySem.Spec PyProof.Rows L2

abbrev D := PyData
/-- a list that is read but never owned (the script) -/
abbrev scr (ds : List D) : D := .dict [(.none, .list ds)]

structure Exn where
  cls : Str
  fs : List (Str × D)

inductive R (α : Type) where
  | bad
  | er (x : Exn)
  | ok (a : α)

def R.bind {α β : Type} (r : R α) (f : α → R β) : R β := match r with
  | .bad => .bad
  | .er x => .er x
  | .ok a => f a
@[simp] theorem R.bind_bad {α β : Type} (f : α → R β) : R.bind .bad f = .bad := rfl
@[simp] theorem R.bind_er {α β : Type} (x : Exn) (f : α → R β) : R.bind (.er x) f = .er x := rfl
@[simp] theorem R.bind_ok {α β : Type} (a : α) (f : α → R β) : R.bind (.ok a) f = f a := rfl

/-! ### how data lie in a heap -/
mutual
inductive Rp (K : PySem.W.Frag) (H : Hp) : V → D → Prop
  | non : Rp K H .non .none
  | bl (b : Bool) : Rp K H (.bl b) (.bool b)
  | int (i : Int) : Rp K H (.int i) (.int i)
  | str (x : Str) : Rp K H (.str x) (.str x)
  | lst {a : Addr} {xs : List V} {ds : List D} : H a = some (.lst xs) → RpAll K H xs ds → Rp K H (.ref a) (.list ds)
  | tup {a : Addr} {xs : List V} {ds : List D} : SqT K H a xs → RpAll K H xs ds → Rp K H (.ref a) (.tuple ds)
  | scr {a : Addr} {xs : List V} {ds : List D} : SqL K H a xs → RpAll K H xs ds → Rp K H (.ref a) (scr ds)
inductive RpAll (K : PySem.W.Frag) (H : Hp) : List V → List D → Prop
  | nil : RpAll K H [] []
  | cons {v : V} {vs : List V} {d : D} {ds : List D} : Rp K H v d → RpAll K H vs ds → RpAll K H (v :: vs) (d :: ds)
end

theorem same_t {K : PySem.W.Frag} {H H' : Hp} {a : Addr} {xs : List V} (e : Same H H') (h : SqT K H a xs) : SqT K H' a xs := by
  rcases h with (h | ⟨o, h⟩) | h
  · exact .inl (.inl (e _ _ h))
  · exact .inl (.inr ⟨o, e _ _ h⟩)
  · exact .inr h

section
variable {K : PySem.W.Frag} {H H' : Hp}
mutual
theorem Rp.mono (e : Same H H') : ∀ {v : V} {d : D}, Rp K H v d → Rp K H' v d
  | _, _, .non => .non
  | _, _, .bl b => .bl b
  | _, _, .int i => .int i
  | _, _, .str x => .str x
  | _, _, .lst h r => .lst (e _ _ h) (RpAll.mono e r)
  | _, _, .tup h r => .tup (same_t e h) (RpAll.mono e r)
  | _, _, .scr h r => .scr (e.seq h) (RpAll.mono e r)
theorem RpAll.mono (e : Same H H') : ∀ {vs : List V} {ds : List D}, RpAll K H vs ds → RpAll K H' vs ds
  | _, _, .nil => .nil
  | _, _, .cons a b => .cons (Rp.mono e a) (RpAll.mono e b)
end
theorem RpAll.length : ∀ {vs : List V} {ds : List D}, RpAll K H vs ds → vs.length = ds.length
  | _, _, .nil => rfl
  | _, _, .cons _ b => congrArg Nat.succ (RpAll.length b)
theorem RpAll.get : ∀ {vs : List V} {ds : List D} {i : Nat} {d : D}, RpAll K H vs ds → ds[i]? = some d → ∃ v, vs[i]? = some v ∧ Rp K H v d
  | _, _, _, _, .nil, e => by simp at e
  | _, _, 0, _, .cons r _, e => by simp at e; subst e; exact ⟨_, rfl, r⟩
  | _, _, i + 1, _, .cons _ t, e => by
    obtain ⟨v, h1, h2⟩ := RpAll.get (i := i) t (by simpa using e)
    exact ⟨v, by simpa using h1, h2⟩
theorem RpAll.get' : ∀ {vs : List V} {ds : List D} {i : Nat} {v : V}, RpAll K H vs ds → vs[i]? = some v → ∃ d, ds[i]? = some d ∧ Rp K H v d
  | _, _, _, _, .nil, e => by simp at e
  | _, _, 0, _, .cons r _, e => by simp at e; subst e; exact ⟨_, rfl, r⟩
  | _, _, i + 1, _, .cons _ t, e => by
    obtain ⟨v, h1, h2⟩ := RpAll.get' (i := i) t (by simpa using e)
    exact ⟨v, by simpa using h1, h2⟩
theorem RpAll.append : ∀ {vs ws : List V} {ds es : List D}, RpAll K H vs ds → RpAll K H ws es → RpAll K H (vs ++ ws) (ds ++ es)
  | _, _, _, _, .nil, b => b
  | _, _, _, _, .cons r t, b => .cons r (RpAll.append t b)
theorem RpAll.take : ∀ {vs : List V} {ds : List D} (n : Nat), RpAll K H vs ds → RpAll K H (vs.take n) (ds.take n)
  | _, _, 0, _ => .nil
  | _, _, _ + 1, .nil => .nil
  | _, _, n + 1, .cons r t => .cons r (RpAll.take n t)
theorem RpAll.drop : ∀ {vs : List V} {ds : List D} (n : Nat), RpAll K H vs ds → RpAll K H (vs.drop n) (ds.drop n)
  | _, _, 0, r => r
  | _, _, _ + 1, .nil => .nil
  | _, _, n + 1, .cons _ t => RpAll.drop n t
theorem RpAll.set : ∀ {vs : List V} {ds : List D} {v : V} {d : D} (n : Nat), RpAll K H vs ds → Rp K H v d → RpAll K H (vs.set n v) (ds.set n d)
  | _, _, _, _, _, .nil, _ => .nil
  | _, _, _, _, 0, .cons _ t, r => .cons r t
  | _, _, _, _, n + 1, .cons q t, r => .cons q (RpAll.set n t r)
theorem RpAll.ints : ∀ {vs : List V} {ns : List Int}, RpAll K H vs (ns.map PyData.int) → vs = ns.map V.int
  | _, [], .nil => rfl
  | _, n :: ns, .cons (.int _) t => by rw [RpAll.ints t]; rfl
theorem RpAll.bools : ∀ {vs : List V} {bs : List Bool}, RpAll K H vs (bs.map PyData.bool) → vs = bs.map V.bl
  | _, [], .nil => rfl
  | _, n :: ns, .cons (.bl _) t => by rw [RpAll.bools t]; rfl
theorem RpAll.strs : ∀ {vs : List V} {bs : List Str}, RpAll K H vs (bs.map PyData.str) → vs = bs.map V.str
  | _, [], .nil => rfl
  | _, n :: ns, .cons (.str _) t => by rw [RpAll.strs t]; rfl

/-! data without dicts: what the library == reads -/
mutual
theorem Rp.dp : ∀ {v : V} {d : D}, Rp K H v d → d.canLay0 = true → Dp K H v d
  | _, _, .non, _ => .non
  | _, _, .bl b, _ => .bl b
  | _, _, .int i, _ => .int i
  | _, _, .str x, _ => .str x
  | _, _, .lst h r, q => .lst (SqL.of h) (RpAll.dp r (by simpa [PyData.canLay0] using q))
  | _, _, .tup h r, q => .tup h (RpAll.dp r (by simpa [PyData.canLay0] using q))
  | _, _, .scr h r, q => by simp [PyData.canLay0] at q
theorem RpAll.dp : ∀ {vs : List V} {ds : List D}, RpAll K H vs ds → PyData.canLayAll0 ds = true → DpAll K H vs ds
  | _, _, .nil, _ => .nil
  | _, _, .cons a b, q => by
    have q' := q
    simp only [PyData.canLayAll0, Bool.and_eq_true] at q'
    exact .cons (Rp.dp a q'.1) (RpAll.dp b q'.2)
end
end

/-! ### heaps: the data part H0 within H -/
/-- an expression was evaluated: nothing that stood changed; what H knew beside H0 stays beside it -/
structure Up (H0 H H0' H' : Hp) : Prop where
  a : Same H0 H0'
  b : Same H0' H'
  c : Same H H'
  d : ∀ p, H p ≠ none → H0 p = none → H0' p = none
theorem Up.refl {H0 H : Hp} (e : Same H0 H) : Up H0 H H0 H := ⟨.refl _, e, .refl _, fun _ _ h => h⟩
theorem Same.ne {H H' : Hp} (e : Same H H') {p : Addr} (h : H p ≠ none) : H' p ≠ none := by
  cases q : H p with
  | none => exact absurd q h
  | some o => rw [e _ _ q]; exact fun z => nomatch z
theorem Up.trans {H0 H H1 H1' H2 H2' : Hp} (x : Up H0 H H1 H1') (y : Up H1 H1' H2 H2') : Up H0 H H2 H2' :=
  ⟨x.a.trans y.a, y.b, x.c.trans y.c, fun p h1 h2 => y.d p (Same.ne x.c h1) (x.d p h1 h2)⟩
theorem Same.upd {H : Hp} {p : Addr} {o : HO} (h : H p = none) : Same H (upd H p o) := fun b x e => by
  rw [upd_ne (ne_of_none e h)]
  exact e
/-- a new object that never changes -/
theorem Up.new {H0 H : Hp} {p : Addr} {o : HO} (e : Same H0 H) (h : H p = none) : Up H0 H (upd H0 p o) (upd H p o) :=
  ⟨Same.upd (e.free h), fun b x q => by
    by_cases hb : b = p
    · subst hb; rw [upd_same] at q ⊢; exact q
    · rw [upd_ne hb] at q ⊢; exact e _ _ q, Same.upd h, fun q h1 h2 => by
    have hq : q ≠ p := fun z => h1 (z ▸ h)
    rw [upd_ne hq]; exact h2⟩
/-- a new object that is owned -/
theorem Up.own {H0 H : Hp} {p : Addr} {o : HO} (e : Same H0 H) (h : H p = none) : Up H0 H H0 (upd H p o) :=
  ⟨.refl _, e.trans (Same.upd h), Same.upd h, fun _ _ h => h⟩

/-! ### slots -/
inductive SV where
  | no
  | dat (d : D)
  | own (ds : List D)
abbrev DSt := List SV

structure Sl (K : PySem.W.Frag) (B H0 H : Hp) (σ : L2.St) (δ : DSt) : Prop where
  base : Same B H
  ex : Same H0 H
  len : σ.length = δ.length
  dat : ∀ (i : Nat) (d : D), δ[i]? = some (SV.dat d) → ∃ v, σ[i]? = some (some v) ∧ Rp K H0 v d
  own : ∀ (i : Nat) (ds : List D), δ[i]? = some (SV.own ds) → ∃ p vs, σ[i]? = some (some (V.ref p)) ∧ H0 p = none ∧ B p = none ∧ H p = some (.lst vs) ∧ RpAll K H0 vs ds
  sep : ∀ (i j : Nat) (ds es : List D) (p : Addr), i ≠ j → δ[i]? = some (SV.own ds) → δ[j]? = some (SV.own es) → σ[i]? = some (some (V.ref p)) → σ[j]? ≠ some (some (V.ref p))
theorem Sl.up {K : PySem.W.Frag} {B H0 H H0' H' : Hp} {σ : L2.St} {δ : DSt} (s : Sl K B H0 H σ δ) (u : Up H0 H H0' H') : Sl K B H0' H' σ δ := by
  refine ⟨s.base.trans u.c, u.b, s.len, fun i d h => ?_, fun i ds h => ?_, s.sep⟩
  · obtain ⟨v, e, r⟩ := s.dat i d h
    exact ⟨v, e, r.mono u.a⟩
  · obtain ⟨p, vs, e, h1, h2, h3, r⟩ := s.own i ds h
    exact ⟨p, vs, e, u.d p (by rw [h3]; exact fun z => nomatch z) h1, h2, u.c _ _ h3, r.mono u.a⟩

/-! ### exceptions -/
def XR (K : PySem.W.Frag) (G : Str → Addr) (H0 H : Hp) (c : Value) (dd : Option Addr) (x : Exn) : Prop :=
  c = .ref (G x.cls) ∧ ∃ (d : Addr) (vs : List V), dd = some d ∧ H d = some (.xd ((x.fs.map (·.1)).zip vs)) ∧ RpAll K H0 vs (x.fs.map (·.2))

/-! ### evaluation -/
/-- what a result is, from the start's heap, in the heaps behind -/
abbrev Rel (β α : Type) := Hp → Hp → Hp → β → α → Prop
def Rel.M {β α : Type} (rel : Rel β α) : Prop := ∀ Hs Hs' H0 H b a, Same Hs Hs' → rel Hs' H0 H b a → rel Hs H0 H b a
def rV (K : PySem.W.Frag) : Rel V D := fun _ H0 _ v d => Rp K H0 v d
def rA (K : PySem.W.Frag) : Rel (List V) (List D) := fun _ H0 _ v d => RpAll K H0 v d
def rB : Rel Bool Bool := fun _ _ _ b a => b = a
def rO : Rel (Option Int) (Option Int) := fun _ _ _ b a => b = a
/-- a new list, owned -/
def rN (K : PySem.W.Frag) : Rel V (List D) := fun Hs H0 H v ds => ∃ p vs, v = .ref p ∧ Hs p = none ∧ H0 p = none ∧ H p = some (.lst vs) ∧ RpAll K H0 vs ds
/-- an operand: data, or a list that the def owns -/
inductive Op where
  | d (x : D)
  | o (ds : List D)
def rP (K : PySem.W.Frag) : Rel V Op := fun _ H0 H v x => match x with
  | .d x => Rp K H0 v x
  | .o ds => ∃ p vs, v = .ref p ∧ H p = some (.lst vs) ∧ RpAll K H0 vs ds
theorem mV {K} : Rel.M (rV K) := fun _ _ _ _ _ _ _ h => h
theorem mA {K} : Rel.M (rA K) := fun _ _ _ _ _ _ _ h => h
theorem mB : Rel.M rB := fun _ _ _ _ _ _ _ h => h
theorem mO : Rel.M rO := fun _ _ _ _ _ _ _ h => h
theorem mP {K} : Rel.M (rP K) := fun _ _ _ _ _ _ _ h => h
theorem mN {K} : Rel.M (rN K) := fun _ _ _ _ _ _ e ⟨p, vs, h1, h2, h3⟩ => ⟨p, vs, h1, e.free h2, h3⟩

section
variable {K : PySem.W.Frag} {G : Str → Addr} {E : XK}
def At (K : PySem.W.Frag) (G : Str → Addr) (E : XK) {β α : Type} (rel : Rel β α) (H0 H : Hp) (t : (β → Hp → Prop) → Prop) (r : R α) : Prop := match r with
  | .bad => True
  | .er x => ∀ Q : β → Hp → Prop, (∀ c dd H0' H', Up H0 H H0' H' → XR K G H0' H' c dd x → E c dd H') → t Q
  | .ok a => ∀ Q : β → Hp → Prop, (∀ b H0' H', Up H0 H H0' H' → rel H H0' H' b a → Q b H') → t Q
theorem at_bind {β α γ ε : Type} {r1 : Rel β α} {r2 : Rel γ ε} {H0 H : Hp} {t : (β → Hp → Prop) → Prop} {k : β → Hp → (γ → Hp → Prop) → Prop} {r : R α} {g : α → R ε} (m2 : Rel.M r2) (h : At K G E r1 H0 H t r)
    (hk : ∀ a b H0' H', Up H0 H H0' H' → r1 H H0' H' b a → At K G E r2 H0' H' (k b H') (g a)) : At K G E r2 H0 H (fun Q => t fun b H1 => k b H1 Q) (r.bind g) := by
  cases r with
  | bad => exact True.intro
  | er x =>
    intro Q hq
    exact h _ hq
  | ok a =>
    show At K G E r2 H0 H _ (g a)
    cases e : g a with
    | bad => exact True.intro
    | er x =>
      intro Q hq
      refine h _ fun b H0' H' u rb => ?_
      have z := hk a b H0' H' u rb
      rw [e] at z
      exact z Q fun c dd H0'' H'' u2 x2 => hq c dd H0'' H'' (u.trans u2) x2
    | ok y =>
      intro Q hq
      refine h _ fun b H0' H' u rb => ?_
      have z := hk a b H0' H' u rb
      rw [e] at z
      exact z Q fun c H0'' H'' u2 rc => hq c H0'' H'' (u.trans u2) (m2 _ _ _ _ _ _ u.c rc)
theorem at_ok {β α : Type} {rel : Rel β α} {H0 H : Hp} {b : β} {a : α} (e : Same H0 H) (h : rel H H0 H b a) : At K G E rel H0 H (fun Q => Q b H) (.ok a) := fun Q q => q b H0 H (.refl e) h
theorem At.imp {β α : Type} {rel : Rel β α} {H0 H : Hp} {t t' : (β → Hp → Prop) → Prop} {r : R α} (h : At K G E rel H0 H t r) (w : ∀ Q, t Q → t' Q) : At K G E rel H0 H t' r := by
  cases r with
  | bad => exact True.intro
  | er x => exact fun Q q => w Q (h Q q)
  | ok a => exact fun Q q => w Q (h Q q)

def Ev (K : PySem.W.Frag) (G : Str → Addr) (E : XK) {β α : Type} (rel : Rel β α) (t : L2.St → Hp → (β → Hp → Prop) → Prop) (f : DSt → R α) : Prop :=
  ∀ B δ σ H0 H, Sl K B H0 H σ δ → At K G E rel H0 H (t σ H) (f δ)
/-- one part, then what follows from its value -/
theorem ev_bind {β α γ ε : Type} {r1 : Rel β α} {r2 : Rel γ ε} {t : L2.St → Hp → (β → Hp → Prop) → Prop} {k : β → L2.St → Hp → (γ → Hp → Prop) → Prop} {f : DSt → R α} {g : α → DSt → R ε} (m2 : Rel.M r2) (h : Ev K G E r1 t f)
    (hk : ∀ a b B δ σ H0 H Hs, Sl K B H0 H σ δ → r1 Hs H0 H b a → At K G E r2 H0 H (k b σ H) (g a δ)) : Ev K G E r2 (fun σ H Q => t σ H fun b H1 => k b σ H1 Q) (fun δ => (f δ).bind fun a => g a δ) :=
  fun B δ σ H0 H s => at_bind m2 (h B δ σ H0 H s) fun a b H0' H' u rb => hk a b B δ σ H0' H' H (s.up u) rb
end

/-! ### the judgements: a piece of syntax and what it computes -/
section
variable (G : Str → Addr) (E : XK) (X : Cx)
def De (e : Expr) (f : DSt → R D) : Prop := ∃ t, PE X e t ∧ Ev X.K G E (rV X.K) t f
def DN (e : Expr) (f : DSt → R (List D)) : Prop := ∃ t, PE X e t ∧ Ev X.K G E (rN X.K) t f
def DO (e : Expr) (f : DSt → R Op) : Prop := ∃ t, PE X e t ∧ Ev X.K G E (rP X.K) t f
def Dt (e : Expr) (f : DSt → R Bool) : Prop := ∃ t, PT X e t ∧ Ev X.K G E rB t f
def Dw (e : Expr) (f : DSt → R Bool) : Prop := ∃ t, PW X e t ∧ Ev X.K G E rB t f
def Da (es : List Expr) (f : DSt → R (List D)) : Prop := ∃ t, PA X es t ∧ Ev X.K G E (rA X.K) t f
def Dp' (e : Option Expr) (f : DSt → R (Option Int)) : Prop := ∃ t, PO X e t ∧ Ev X.K G E rO t f
end
end Dn

namespace Dn
open PySem PySem.Spec PyProof.Rows L2

abbrev LIM : Nat := 100000
theorem lim_le {n : Nat} (h : n ≤ LIM) : n ≤ sizeLine := Nat.le_trans h (by decide)
theorem lim_lt {n : Nat} (h : n < LIM) : n < sizeLine := Nat.lt_of_lt_of_le h (by decide)

/-! ### relations that stay -/
def Rel.S {β α : Type} (rel : Rel β α) : Prop := ∀ Hs H0 H H0' H' b a, Up H0 H H0' H' → rel Hs H0 H b a → rel Hs H0' H' b a
theorem sV {K} : Rel.S (rV K) := fun _ _ _ _ _ _ _ u h => Rp.mono u.a h
theorem sA {K} : Rel.S (rA K) := fun _ _ _ _ _ _ _ u h => RpAll.mono u.a h
theorem sB : Rel.S rB := fun _ _ _ _ _ _ _ _ h => h
theorem sO : Rel.S rO := fun _ _ _ _ _ _ _ _ h => h
theorem sP {K} : Rel.S (rP K) := fun _ _ _ _ _ b a u h => match a, h with
  | .d _, h => Rp.mono u.a h
  | .o _, ⟨p, vs, h1, h2, h3⟩ => ⟨p, vs, h1, u.c _ _ h2, RpAll.mono u.a h3⟩

section
variable {K : PySem.W.Frag} {G : Str → Addr} {E : XK}
/-- two parts -/
theorem ev_op {α β' γ : Type} {ra : Rel V α} {rb : Rel V β'} {rc : Rel V γ} {r : R2} {ta tb : TE} {fa : DSt → R α} {fb : DSt → R β'} {g : α → β' → R γ} (sa : Rel.S ra) (mc : Rel.M rc) (ha : Ev K G E ra ta fa) (hb : Ev K G E rb tb fb)
    (hk : ∀ x y v w Hs Hs' H0 H, Same H0 H → ra Hs H0 H v x → rb Hs' H0 H w y → At K G E rc H0 H (r v w H) (g x y)) : Ev K G E rc (tOp r ta tb) (fun δ => (fa δ).bind fun x => (fb δ).bind fun y => g x y) :=
  fun B δ σ H0 H s => at_bind (t := ta σ H) (k := fun v H1 Q => tb σ H1 fun w H2 => r v w H2 Q) mc (ha B δ σ H0 H s) fun x v H1 H1' u rx => at_bind (t := tb σ H1') (k := fun w H2 Q => r v w H2 Q) mc (hb B δ σ H1 H1' (s.up u)) fun y w H2 H2' u2 ry => hk x y v w H H1' H2 H2' u2.b (sa _ _ _ _ _ _ _ u2 rx) ry
theorem ev_un {α γ : Type} {ra : Rel V α} {rc : Rel V γ} {r : V → Hp → VK → Prop} {ta : TE} {fa : DSt → R α} {g : α → R γ} (mc : Rel.M rc) (ha : Ev K G E ra ta fa)
    (hk : ∀ x v Hs H0 H, Same H0 H → ra Hs H0 H v x → At K G E rc H0 H (r v H) (g x)) : Ev K G E rc (tUn r ta) (fun δ => (fa δ).bind g) :=
  fun B δ σ H0 H s => at_bind (t := ta σ H) (k := fun v H1 Q => r v H1 Q) mc (ha B δ σ H0 H s) fun x v H1 H1' u rx => hk x v H H1 H1' u.b rx
theorem ev_cb {γ : Type} {rc : Rel V γ} {r : List V → Hp → VK → Prop} {ta : TA} {fa : DSt → R (List D)} {g : List D → R γ} (mc : Rel.M rc) (ha : Ev K G E (rA K) ta fa)
    (hk : ∀ ds vs H0 H, Same H0 H → RpAll K H0 vs ds → At K G E rc H0 H (r vs H) (g ds)) : Ev K G E rc (tCB r ta) (fun δ => (fa δ).bind g) :=
  fun B δ σ H0 H s => at_bind (t := ta σ H) (k := fun v H1 Q => r v H1 Q) mc (ha B δ σ H0 H s) fun x v H1 H1' u rx => hk x v H1 H1' u.b rx
end

/-! ### names, constants -/
def dVar (i : Nat) : DSt → R D := fun δ => match δ[i]? with
  | some (SV.dat d) => .ok d
  | _ => .bad
def dVarO (i : Nat) : DSt → R Op := fun δ => match δ[i]? with
  | some (SV.dat d) => .ok (.d d)
  | some (SV.own ds) => .ok (.o ds)
  | _ => .bad
def dC (d : D) : DSt → R D := fun _ => .ok d
def dOp (f : DSt → R D) : DSt → R Op := fun δ => (f δ).bind fun d => .ok (.d d)

section
variable {G : Str → Addr} {E : XK} {X : Cx} {pos p p2 : Pos} {a b e : Expr} {es : List Expr}
theorem de_var (i : Nat) {x : Str} (hN : X.N[i]? = some x := by rfl) (hv : Vis X.env.scope x := by first | exact Or.inl rfl | exact Or.inr (Or.inl rfl) | exact Or.inr (Or.inr rfl)) (hd : (x == ("__debug__" : Str)) = false := by decide)
    (hcd : (x == ("__classdict__" : Str)) = false := by decide) : De G E X (.Name x pos) (dVar i) := by
  refine ⟨_, pe_var hN hv hd hcd, fun B δ σ H0 H s => ?_⟩
  unfold dVar
  cases q : δ[i]? with
  | none => exact True.intro
  | some w =>
    cases w with
    | no => exact True.intro
    | own _ => exact True.intro
    | dat d =>
      obtain ⟨v, e, r⟩ := s.dat i d q
      exact fun Q k => ⟨v, e, k v H0 H (.refl s.ex) r⟩
theorem do_var (i : Nat) {x : Str} (hN : X.N[i]? = some x := by rfl) (hv : Vis X.env.scope x := by first | exact Or.inl rfl | exact Or.inr (Or.inl rfl) | exact Or.inr (Or.inr rfl)) (hd : (x == ("__debug__" : Str)) = false := by decide)
    (hcd : (x == ("__classdict__" : Str)) = false := by decide) : DO G E X (.Name x pos) (dVarO i) := by
  refine ⟨_, pe_var hN hv hd hcd, fun B δ σ H0 H s => ?_⟩
  unfold dVarO
  cases q : δ[i]? with
  | none => exact True.intro
  | some w =>
    cases w with
    | no => exact True.intro
    | own ds =>
      obtain ⟨p, vs, e, h0, hb, h, r⟩ := s.own i ds q
      exact fun Q k => ⟨_, e, k _ H0 H (.refl s.ex) ⟨p, vs, rfl, h, r⟩⟩
    | dat d =>
      obtain ⟨v, e, r⟩ := s.dat i d q
      exact fun Q k => ⟨v, e, k v H0 H (.refl s.ex) r⟩
theorem ev_c {K : PySem.W.Frag} {v : V} {d : D} (h : ∀ H, Rp K H v d) : Ev K G E (rV K) (tC v) (dC d) := fun B δ σ H0 H s Q q => q v H0 H (.refl s.ex) (h _)
theorem de_int {i : Int} {j} : De G E X (.Constant (.int i) j pos) (dC (.int i)) := ⟨_, pe_int, ev_c fun _ => .int i⟩
theorem de_bl {i : Bool} {j} : De G E X (.Constant (.bool i) j pos) (dC (.bool i)) := ⟨_, pe_bl, ev_c fun _ => .bl i⟩
theorem de_non {j} : De G E X (.Constant .none j pos) (dC .none) := ⟨_, pe_non, ev_c fun _ => .non⟩
theorem de_str {i : Str} {j} : De G E X (.Constant (.str i) j pos) (dC (.str i)) := ⟨_, pe_str, ev_c fun _ => .str i⟩
/-- a constant of the module -/
theorem de_glob {x : Str} {v : V} {u : Value} {d : D} (hg : Gl X x) (hm : X.mg x = some u) (r : RelV v u) (h : ∀ H, Rp X.K H v d) (hd : (x == ("__debug__" : Str)) = false := by decide) : De G E X (.Name x pos) (dC d) := ⟨_, pe_glob hg hm r hd, ev_c h⟩
/-- data as an operand -/
theorem do_of {f : DSt → R D} (h : De G E X e f) : DO G E X e (dOp f) := by
  obtain ⟨t, h1, h2⟩ := h
  refine ⟨t, h1, fun B δ σ H0 H s => ?_⟩
  have z := h2 B δ σ H0 H s
  unfold dOp
  cases q : f δ with
  | bad => exact True.intro
  | er x => rw [q] at z; exact z
  | ok d => rw [q] at z; exact z

/-! ### operators -/
theorem op_or {f : Value → Value → Sem Value} {r r' : R2} (h : OpR X f r) (h' : OpR X f r') : OpR X f (fun x y H Q => r x y H Q ∨ r' x y H Q) := by
  intro pins s σ H x y v u Q I rx ry q
  rcases q with q | q
  · exact h pins s σ H x y v u Q I rx ry q
  · exact h' pins s σ H x y v u Q I rx ry q
theorem call_or {f : Value} {r r' : List V → Hp → VK → Prop} (h : CallR X f r) (h' : CallR X f r') : CallR X f (fun x H Q => r x H Q ∨ r' x H Q) := by
  intro pins s σ H xs us Q I rx q
  rcases q with q | q
  · exact h pins s σ H xs us Q I rx q
  · exact h' pins s σ H xs us Q I rx q

def asSq : Op → Option (List D)
  | .o ds => some ds
  | .d (.list ds) => some ds
  | .d (.tuple ds) => some ds
  | .d (.dict [(.none, .list ds)]) => some ds
  | _ => none
theorem as_sq {K : PySem.W.Frag} {Hs H0 H : Hp} {v : V} {x : Op} {ds : List D} (e : Same H0 H) (h : rP K Hs H0 H v x) (q : asSq x = some ds) : ∃ a vs, v = .ref a ∧ (SqL K H a vs ∨ SqT K H a vs) ∧ RpAll K H0 vs ds := by
  cases x with
  | o es =>
    cases q
    obtain ⟨p, vs, rfl, h1, h2⟩ := h
    exact ⟨p, vs, rfl, .inl (SqL.of h1), h2⟩
  | d d =>
    have h : Rp K H0 v d := h
    cases h with
    | non => cases q
    | bl _ => cases q
    | int _ => cases q
    | str _ => cases q
    | lst h1 h2 => cases q; exact ⟨_, _, rfl, .inl (SqL.of (e _ _ h1)), h2⟩
    | tup h1 h2 => cases q; exact ⟨_, _, rfl, .inr (same_t e h1), h2⟩
    | scr h1 h2 => cases q; exact ⟨_, _, rfl, .inl (e.seq h1), h2⟩
/-- a list: tracked, or to be read -/
def asL : Op → Option (List D)
  | .o ds => some ds
  | .d (.list ds) => some ds
  | .d (.dict [(.none, .list ds)]) => some ds
  | _ => none
theorem as_l {K : PySem.W.Frag} {Hs H0 H : Hp} {v : V} {x : Op} {ds : List D} (e : Same H0 H) (h : rP K Hs H0 H v x) (q : asL x = some ds) : ∃ a vs, v = .ref a ∧ SqL K H a vs ∧ RpAll K H0 vs ds := by
  cases x with
  | o es =>
    cases q
    obtain ⟨p, vs, rfl, h1, h2⟩ := h
    exact ⟨p, vs, rfl, SqL.of h1, h2⟩
  | d d =>
    have h : Rp K H0 v d := h
    cases h with
    | non => cases q
    | bl _ => cases q
    | int _ => cases q
    | str _ => cases q
    | lst h1 h2 => cases q; exact ⟨_, _, rfl, (SqL.of (e _ _ h1)), h2⟩
    | tup h1 h2 => cases q
    | scr h1 h2 => cases q; exact ⟨_, _, rfl, (e.seq h1), h2⟩
/-- a list that is tracked -/
def asLt : Op → Option (List D)
  | .o ds => some ds
  | .d (.list ds) => some ds
  | _ => none
theorem as_lt {K : PySem.W.Frag} {Hs H0 H : Hp} {v : V} {x : Op} {ds : List D} (e : Same H0 H) (h : rP K Hs H0 H v x) (q : asLt x = some ds) : ∃ a vs, v = .ref a ∧ H a = some (.lst vs) ∧ RpAll K H0 vs ds := by
  cases x with
  | o es =>
    cases q
    obtain ⟨p, vs, rfl, h1, h2⟩ := h
    exact ⟨p, vs, rfl, h1, h2⟩
  | d d =>
    have h : Rp K H0 v d := h
    cases h with
    | non => cases q
    | bl _ => cases q
    | int _ => cases q
    | str _ => cases q
    | lst h1 h2 => cases q; exact ⟨_, _, rfl, (e _ _ h1), h2⟩
    | tup h1 h2 => cases q
    | scr h1 h2 => cases q

theorem at_new {K : PySem.W.Frag} {H0 H : Hp} {o : HO} {d : D} (e : Same H0 H) (h : ∀ p, Rp K (upd H0 p o) (.ref p) d ∨ H p ≠ none) : At K G E (rV K) H0 H (fun Q => ∀ p, H p = none → Q (.ref p) (upd H p o)) (.ok d) := fun Q q p hp =>
  q _ _ _ (Up.new e hp) ((h p).elim id fun z => absurd hp z)
theorem at_newT {K : PySem.W.Frag} {H0 H : Hp} {vs : List V} {ds : List D} (e : Same H0 H) (h : RpAll K H0 vs ds) : At K G E (rV K) H0 H (fun Q => ∀ p, H p = none → Q (.ref p) (upd H p (.tup vs))) (.ok (.tuple ds)) := fun Q q p hp =>
  q _ _ _ (Up.new e hp) (.tup (SqT.of upd_same) (h.mono (Same.upd (e.free hp))))
theorem at_newL {K : PySem.W.Frag} {H0 H : Hp} {vs : List V} {ds : List D} (e : Same H0 H) (h : RpAll K H0 vs ds) : At K G E (rV K) H0 H (fun Q => ∀ p, H p = none → Q (.ref p) (upd H p (.lst vs))) (.ok (.list ds)) := fun Q q p hp =>
  q _ _ _ (Up.new e hp) (.lst upd_same (h.mono (Same.upd (e.free hp))))
theorem at_newN {K : PySem.W.Frag} {H0 H : Hp} {vs : List V} {ds : List D} (e : Same H0 H) (h : RpAll K H0 vs ds) : At K G E (rN K) H0 H (fun Q => ∀ p, H p = none → Q (.ref p) (upd H p (.lst vs))) (.ok ds) := fun Q q p hp =>
  q _ _ _ (Up.own e hp) ⟨p, vs, rfl, hp, e.free hp, upd_same, h⟩

/-- + of ints, texts, tuples, lists -/
def P.add : Op → Op → R D
  | .d (.int i), .d (.int j) => .ok (.int (i + j))
  | .d (.str a), .d (.str b) => if a.length + b.length ≤ LIM then .ok (.str (a ++ b)) else .bad
  | .d (.tuple a), .d (.tuple b) => if a.length + b.length ≤ LIM then .ok (.tuple (a ++ b)) else .bad
  | x, y => match asLt x, asLt y with
    | some a, some b => if a.length + b.length ≤ LIM then .ok (.list (a ++ b)) else .bad
    | _, _ => .bad
def rAddD (K : PySem.W.Frag) : R2 := fun x y H Q => rI0 (fun i j => .int (i + j)) x y H Q ∨ (∃ i j, x = .str i ∧ y = .str j ∧ i.length + j.length ≤ sizeLine ∧ Q (.str (i ++ j)) H) ∨ rCatA K x y H Q ∨ rCat x y H Q
theorem op_addD : OpR X (binaryOp .Add) (rAddD X.K) := op_or op_add (op_or op_add_str (op_or op_catA op_cat))
theorem at_add {K : PySem.W.Frag} {Hs Hs' H0 H : Hp} {v w : V} {x y : Op} (e : Same H0 H) (hx : rP K Hs H0 H v x) (hy : rP K Hs' H0 H w y) : At K G E (rV K) H0 H (rAddD K v w H) (P.add x y) := by
  unfold P.add
  split
  · cases (show Rp K H0 v _ from hx); cases (show Rp K H0 w _ from hy)
    exact fun Q q => .inl ⟨_, _, rfl, rfl, q _ H0 H (.refl e) (.int _)⟩
  · rename_i a b
    cases (show Rp K H0 v _ from hx); cases (show Rp K H0 w _ from hy)
    split
    · rename_i hl
      exact fun Q q => .inr (.inl ⟨_, _, rfl, rfl, lim_le hl, q _ H0 H (.refl e) (.str _)⟩)
    · exact True.intro
  · rename_i a b
    split
    · rename_i hl
      cases (show Rp K H0 v _ from hx) with
      | tup h1 r1 =>
        cases (show Rp K H0 w _ from hy) with
        | tup h2 r2 =>
          refine fun Q q => .inr (.inr (.inl ⟨_, _, _, _, rfl, rfl, same_t e h1, same_t e h2, by rw [r1.length, r2.length]; exact lim_le hl, fun z => ?_, fun _ z => ?_, fun _ _ => ?_⟩))
          · subst z
            cases r1
            exact q _ H0 H (.refl e) (.tup h2 r2)
          · subst z
            cases r2
            rw [List.append_nil] at q
            exact q _ H0 H (.refl e) (.tup h1 r1)
          · exact at_newT (G := G) (E := E) e (r1.append r2) Q q
    · exact True.intro
  · split
    · rename_i a b ha hb
      split
      · rename_i hl
        obtain ⟨p1, vs1, rfl, h1, r1⟩ := as_lt e hx ha
        obtain ⟨p2, vs2, rfl, h2, r2⟩ := as_lt e hy hb
        refine fun Q q => .inr (.inr (.inr ⟨_, _, _, _, rfl, rfl, h1, h2, by rw [r1.length, r2.length]; exact lim_le hl, ?_⟩))
        exact at_newL (G := G) (E := E) e (r1.append r2) Q q
      · exact True.intro
    · exact True.intro
def dAdd (f g : DSt → R Op) : DSt → R D := fun δ => (f δ).bind fun x => (g δ).bind fun y => P.add x y
theorem de_add {f g} (ha : DO G E X a f) (hb : DO G E X b g) : De G E X (.BinOp a .Add b pos) (dAdd f g) := by
  obtain ⟨t, h1, h2⟩ := ha
  obtain ⟨u, k1, k2⟩ := hb
  exact ⟨_, pe_op op_addD h1 k1, ev_op sP mV h2 k2 fun x y v w Hs Hs' H0 H e rx ry => at_add e rx ry⟩
/-- xs + ys, the new list owned -/
def P.catN (x y : Op) : R (List D) := match asLt x, asLt y with
  | some a, some b => if a.length + b.length ≤ LIM then .ok (a ++ b) else .bad
  | _, _ => .bad
def dCatN (f g : DSt → R Op) : DSt → R (List D) := fun δ => (f δ).bind fun x => (g δ).bind fun y => P.catN x y
theorem dn_cat {f g} (ha : DO G E X a f) (hb : DO G E X b g) : DN G E X (.BinOp a .Add b pos) (dCatN f g) := by
  obtain ⟨t, h1, h2⟩ := ha
  obtain ⟨u, k1, k2⟩ := hb
  refine ⟨_, pe_op op_cat h1 k1, ev_op sP mN h2 k2 fun x y v w Hs Hs' H0 H e rx ry => ?_⟩
  unfold P.catN
  split
  · rename_i a b ha hb
    split
    · rename_i hl
      obtain ⟨p1, vs1, rfl, h1, r1⟩ := as_lt e rx ha
      obtain ⟨p2, vs2, rfl, h2, r2⟩ := as_lt e ry hb
      refine fun Q q => ⟨_, _, _, _, rfl, rfl, h1, h2, by rw [r1.length, r2.length]; exact lim_le hl, ?_⟩
      exact at_newN (G := G) (E := E) e (r1.append r2) Q q
    · exact True.intro
  · exact True.intro

/-- two ints -/
def P.int2 (c : Int → Int → Bool) (g : Int → Int → D) : D → D → R D
  | .int i, .int j => if c i j then .ok (g i j) else .bad
  | _, _ => .bad
def dInt2 (c : Int → Int → Bool) (h : Int → Int → D) (f g : DSt → R D) : DSt → R D := fun δ => (f δ).bind fun x => (g δ).bind fun y => P.int2 c h x y
theorem de_int2 {o : Operator} {C : Int → Int → Prop} {c : Int → Int → Bool} {h : Int → Int → D} {h' : Int → Int → V} {f g} (ho : OpR X (binaryOp o) (rI C h')) (hc : ∀ i j, c i j = true → C i j) (hh : ∀ K H i j, c i j = true → Rp K H (h' i j) (h i j))
    (ha : De G E X a f) (hb : De G E X b g) : De G E X (.BinOp a o b pos) (dInt2 c h f g) := by
  obtain ⟨t, h1, h2⟩ := ha
  obtain ⟨u, k1, k2⟩ := hb
  refine ⟨_, pe_op ho h1 k1, ev_op sV mV h2 k2 fun x y v w Hs Hs' H0 H e rx ry => ?_⟩
  unfold P.int2
  split
  · split
    · rename_i q
      cases (show Rp X.K H0 v _ from rx); cases (show Rp X.K H0 w _ from ry)
      exact fun Q k => ⟨_, _, rfl, rfl, hc _ _ q, k _ H0 H (.refl e) (hh _ _ _ _ q)⟩
    · exact True.intro
  · exact True.intro
def cTrue : Int → Int → Bool := fun _ _ => true
theorem op_subC : OpR X (binaryOp .Sub) (rI (fun _ _ => True) fun i j => .int (i - j)) := by
  intro pins s σ H x y v u Q I rx ry ⟨i, j, h1, h2, _, q⟩
  exact op_sub pins s σ H x y v u Q I rx ry ⟨i, j, h1, h2, q⟩
abbrev dSub := dInt2 cTrue fun i j => .int (i - j)
theorem de_sub {f g} (ha : De G E X a f) (hb : De G E X b g) : De G E X (.BinOp a .Sub b pos) (dSub f g) := de_int2 op_subC (fun _ _ _ => True.intro) (fun _ _ _ _ _ => .int _) ha hb
def cMul : Int → Int → Bool := fun i j => (decide (-(2 ^ 64) < i) && decide (i < 2 ^ 64)) || (decide (-(2 ^ 64) < j) && decide (j < 2 ^ 64))
abbrev dMul := dInt2 cMul fun i j => .int (i * j)
theorem de_mul {f g} (ha : De G E X a f) (hb : De G E X b g) : De G E X (.BinOp a .Mult b pos) (dMul f g) := de_int2 op_mul (fun i j h => by
  unfold cMul at h
  simp only [Bool.or_eq_true, Bool.and_eq_true, decide_eq_true_eq] at h
  exact h) (fun _ _ _ _ _ => .int _) ha hb
def cPos : Int → Int → Bool := fun _ j => decide (0 < j)
abbrev dMod := dInt2 cPos fun i j => .int (i % j)
theorem de_mod {f g} (ha : De G E X a f) (hb : De G E X b g) : De G E X (.BinOp a .Mod b pos) (dMod f g) := de_int2 op_mod (fun i j h => of_decide_eq_true h) (fun _ _ _ _ _ => .int _) ha hb
def cDiv : Int → Int → Bool := fun _ j => decide (0 < j) && decide (j < 1073741824)
abbrev dDiv := dInt2 cDiv fun i j => .int (i / j)
theorem de_div {f g} (ha : De G E X a f) (hb : De G E X b g) : De G E X (.BinOp a .FloorDiv b pos) (dDiv f g) := de_int2 op_fdiv (fun i j h => by
  unfold cDiv at h
  simp only [Bool.and_eq_true, decide_eq_true_eq] at h
  exact ⟨h.1, by omega⟩) (fun _ _ _ _ _ => .int _) ha hb
def cPow : Int → Int → Bool := fun i j => decide (0 ≤ j) && decide (j ≤ 1000) && decide (i.natAbs < 2 ^ 64)
abbrev dPow := dInt2 cPow fun i j => .int (i ^ j.toNat)
theorem de_pow {f g} (ha : De G E X a f) (hb : De G E X b g) : De G E X (.BinOp a .Pow b pos) (dPow f g) := de_int2 op_pow (fun i j h => by
  unfold cPow at h
  simp only [Bool.and_eq_true, decide_eq_true_eq] at h
  exact ⟨h.1.1, by omega, h.2⟩) (fun _ _ _ _ _ => .int _) ha hb
/-- -a -/
def P.neg : D → R D
  | .int i => .ok (.int (-i))
  | _ => .bad
def dNeg (f : DSt → R D) : DSt → R D := fun δ => (f δ).bind P.neg
theorem de_neg {f} (ha : De G E X a f) : De G E X (.UnaryOp .USub a pos) (dNeg f) := by
  obtain ⟨t, h1, h2⟩ := ha
  refine ⟨_, pe_un un_neg h1, ev_un mV h2 fun x v Hs H0 H e rx => ?_⟩
  unfold P.neg
  split
  · cases (show Rp X.K H0 v _ from rx)
    exact fun Q k => ⟨_, rfl, k _ H0 H (.refl e) (.int _)⟩
  · exact True.intro

/-! ### comparisons -/
def DC (G : Str → Addr) (E : XK) (X : Cx) (o : CmpOp) (a b : Expr) (f : DSt → R D) : Prop := ∃ r ta tb, OpR X (compareOp o) r ∧ PE X a ta ∧ PE X b tb ∧ behindInMarks o b = false ∧ Ev X.K G E (rV X.K) (tOp r ta tb) f
theorem de_c {o : CmpOp} {f} (h : DC G E X o a b f) : De G E X (.Compare a [o] [b] pos) f := by
  obtain ⟨r, ta, tb, h1, h2, h3, h4, h5⟩ := h
  exact ⟨_, pe_cmpR h1 h2 h3 h4, h5⟩
def P.tru : D → R Bool
  | .bool b => .ok b
  | _ => .bad
def dTru (f : DSt → R D) : DSt → R Bool := fun δ => (f δ).bind P.tru
theorem dt_c {o : CmpOp} {f} (h : DC G E X o a b f) : Dt G E X (.Compare a [o] [b] pos) (dTru f) := by
  obtain ⟨r, ta, tb, h1, h2, h3, h4, h5⟩ := h
  refine ⟨_, pt_cmpR h1 h2 h3 h4, fun B δ σ H0 H s => at_bind (t := tOp r ta tb σ H) mB (h5 B δ σ H0 H s) fun x v H1 H1' u rx => ?_⟩
  unfold P.tru
  split
  · cases (show Rp X.K H1 v _ from rx)
    exact fun Q q => ⟨_, rfl, q _ H1 H1' (.refl u.b) rfl⟩
  · exact True.intro
def opD : Op → D
  | .d x => x
  | .o ds => .list ds
theorem op_dp {K : PySem.W.Frag} {Hs H0 H : Hp} {v : V} {x : Op} (e : Same H0 H) (h : rP K Hs H0 H v x) (q : SeqAt.shaped (opD x) = true) : Dp K H v (opD x) := by
  cases x with
  | d d => exact (Rp.mono e h).dp (SeqAt.canLay_of_shaped q)
  | o ds =>
    obtain ⟨p, vs, rfl, h1, h2⟩ := h
    have z := SeqAt.canLay_of_shaped q
    exact .lst (SqL.of h1) ((h2.mono e).dp (by simpa [opD, PyData.canLay0] using z))
def P.eq (x y : Op) : R D := if SeqAt.shaped (opD x) && SeqAt.shaped (opD y) then .ok (.bool (PyData.eqv (opD x) (opD y))) else .bad
def P.ne (x y : Op) : R D := if SeqAt.shaped (opD x) && SeqAt.shaped (opD y) then .ok (.bool (!PyData.eqv (opD x) (opD y))) else .bad
def d2 (p : Op → Op → R D) (f g : DSt → R Op) : DSt → R D := fun δ => (f δ).bind fun x => (g δ).bind fun y => p x y
theorem dc_eq {f g} (hu : X.A.units + 64 < cLine) (ha : DO G E X a f) (hb : DO G E X b g) : DC G E X .Eq a b (d2 P.eq f g) := by
  obtain ⟨t, h1, h2⟩ := ha
  obtain ⟨u, k1, k2⟩ := hb
  refine ⟨_, _, _, op_eqD hu, h1, k1, nomark _, ev_op sP mV h2 k2 fun x y v w Hs Hs' H0 H e rx ry => ?_⟩
  unfold P.eq
  split
  · rename_i q
    simp only [Bool.and_eq_true] at q
    exact fun Q k => ⟨_, _, op_dp e rx q.1, op_dp e ry q.2, q.1, q.2, k _ H0 H (.refl e) (.bl _)⟩
  · exact True.intro
theorem dc_ne {f g} (hu : X.A.units + 64 < cLine) (ha : DO G E X a f) (hb : DO G E X b g) : DC G E X .NotEq a b (d2 P.ne f g) := by
  obtain ⟨t, h1, h2⟩ := ha
  obtain ⟨u, k1, k2⟩ := hb
  refine ⟨_, _, _, op_neD hu, h1, k1, nomark _, ev_op sP mV h2 k2 fun x y v w Hs Hs' H0 H e rx ry => ?_⟩
  unfold P.ne
  split
  · rename_i q
    simp only [Bool.and_eq_true] at q
    exact fun Q k => ⟨_, _, op_dp e rx q.1, op_dp e ry q.2, q.1, q.2, k _ H0 H (.refl e) (.bl _)⟩
  · exact True.intro
/-- an order of ints -/
def P.cmp (g : Int → Int → Bool) : D → D → R D
  | .int i, .int j => .ok (.bool (g i j))
  | _, _ => .bad
def dCmp (c : Int → Int → Bool) (f g : DSt → R D) : DSt → R D := fun δ => (f δ).bind fun x => (g δ).bind fun y => P.cmp c x y
theorem dc_cmp {o : CmpOp} {c : Int → Int → Bool} {f g} (ho : OpR X (compareOp o) (rI0 fun i j => .bl (c i j))) (hm : behindInMarks o b = false) (ha : De G E X a f) (hb : De G E X b g) : DC G E X o a b (dCmp c f g) := by
  obtain ⟨t, h1, h2⟩ := ha
  obtain ⟨u, k1, k2⟩ := hb
  refine ⟨_, _, _, ho, h1, k1, hm, ev_op sV mV h2 k2 fun x y v w Hs Hs' H0 H e rx ry => ?_⟩
  unfold P.cmp
  split
  · cases (show Rp X.K H0 v _ from rx); cases (show Rp X.K H0 w _ from ry)
    exact fun Q k => ⟨_, _, rfl, rfl, k _ H0 H (.refl e) (.bl _)⟩
  · exact True.intro
abbrev dLt := dCmp fun i j => decide (i < j)
abbrev dLe := dCmp fun i j => decide (i ≤ j)
abbrev dGt := dCmp fun i j => decide (j < i)
abbrev dGe := dCmp fun i j => decide (j ≤ i)
theorem dc_lt {f g} (ha : De G E X a f) (hb : De G E X b g) : DC G E X .Lt a b (dLt f g) := dc_cmp op_lt (nomark _) ha hb
theorem dc_le {f g} (ha : De G E X a f) (hb : De G E X b g) : DC G E X .LtE a b (dLe f g) := dc_cmp op_le (nomark _) ha hb
theorem dc_gt {f g} (ha : De G E X a f) (hb : De G E X b g) : DC G E X .Gt a b (dGt f g) := dc_cmp op_gt (nomark _) ha hb
theorem dc_ge {f g} (ha : De G E X a f) (hb : De G E X b g) : DC G E X .GtE a b (dGe f g) := dc_cmp op_ge (nomark _) ha hb
/-- is None -/
def P.isN : Op → D
  | .d .none => .bool true
  | _ => .bool false
def P.notN : Op → D
  | .d .none => .bool false
  | _ => .bool true
theorem isN_eq {K : PySem.W.Frag} {Hs H0 H : Hp} {v : V} {x : Op} (h : rP K Hs H0 H v x) : P.isN x = .bool (decide (v = .non)) ∧ P.notN x = .bool (!decide (v = .non)) := by
  cases x with
  | o ds => obtain ⟨p, vs, rfl, _⟩ := h; exact ⟨rfl, rfl⟩
  | d d =>
    have h : Rp K H0 v d := h
    cases h <;> exact ⟨rfl, rfl⟩
def dIsN (f : DSt → R Op) : DSt → R D := fun δ => (f δ).bind fun x => .ok (P.isN x)
def dNotN (f : DSt → R Op) : DSt → R D := fun δ => (f δ).bind fun x => .ok (P.notN x)
theorem dc_isN {f j} (ha : DO G E X a f) : DC G E X .Is a (.Constant .none j p) (dIsN f) := by
  obtain ⟨t, h1, h2⟩ := ha
  refine ⟨_, _, _, op_isN, h1, pe_non, nomark _, fun B δ σ H0 H s => at_bind (t := t σ H) (k := fun x H1 Q => V.non = .non ∧ Q (.bl (decide (x = .non))) H1) mV (h2 B δ σ H0 H s) fun x v H1 H1' u rx => ?_⟩
  rw [(isN_eq rx).1]
  exact fun Q q => ⟨rfl, q _ H1 H1' (.refl u.b) (.bl _)⟩
theorem dc_notN {f j} (ha : DO G E X a f) : DC G E X .IsNot a (.Constant .none j p) (dNotN f) := by
  obtain ⟨t, h1, h2⟩ := ha
  refine ⟨_, _, _, op_notN, h1, pe_non, nomark _, fun B δ σ H0 H s => at_bind (t := t σ H) (k := fun x H1 Q => V.non = .non ∧ Q (.bl (!decide (x = .non))) H1) mV (h2 B δ σ H0 H s) fun x v H1 H1' u rx => ?_⟩
  rw [(isN_eq rx).2]
  exact fun Q q => ⟨rfl, q _ H1 H1' (.refl u.b) (.bl _)⟩

/-! ### tests -/
theorem dt_val {f} (h : De G E X e f) (he : ∀ whole, isTrue e X.env whole = (do let v ← whole; standAt e.pos; holding [v] (truthy v)) := by intro _; rfl) : Dt G E X e (dTru f) := by
  obtain ⟨t, h1, h2⟩ := h
  refine ⟨_, pt_val h1 he, fun B δ σ H0 H s => at_bind (t := t σ H) mB (h2 B δ σ H0 H s) fun x v H1 H1' u rx => ?_⟩
  unfold P.tru
  split
  · cases (show Rp X.K H1 v _ from rx)
    exact fun Q q => ⟨_, rfl, q _ H1 H1' (.refl u.b) rfl⟩
  · exact True.intro
def dNot (f : DSt → R Bool) : DSt → R Bool := fun δ => (f δ).bind fun b => .ok (!b)
theorem dt_not {f} (h : Dt G E X a f) : Dt G E X (.UnaryOp .Not a pos) (dNot f) := by
  obtain ⟨t, h1, h2⟩ := h
  refine ⟨_, pt_not h1, fun B δ σ H0 H s => at_bind (t := t σ H) mB (h2 B δ σ H0 H s) fun x v H1 H1' u rx => ?_⟩
  cases (show v = x from rx)
  exact fun Q q => q _ H1 H1' (.refl u.b) rfl
def dAnd (f g : DSt → R Bool) : DSt → R Bool := fun δ => (f δ).bind fun b => if b then g δ else .ok false
def dOr (f g : DSt → R Bool) : DSt → R Bool := fun δ => (f δ).bind fun b => if b then .ok true else g δ
theorem dw_and1 {f} (h : Dt G E X a f) : Dw G E X (.BoolOp .And [a] pos) f := by
  obtain ⟨t, h1, h2⟩ := h
  exact ⟨_, pw_and1 h1, h2⟩
theorem dw_or1 {f} (h : Dt G E X a f) : Dw G E X (.BoolOp .Or [a] pos) f := by
  obtain ⟨t, h1, h2⟩ := h
  exact ⟨_, pw_or1 h1, h2⟩
theorem dw_and {f g} (h : Dt G E X a f) (k : Dw G E X (.BoolOp .And (b :: es) pos) g) : Dw G E X (.BoolOp .And (a :: b :: es) pos) (dAnd f g) := by
  obtain ⟨t, h1, h2⟩ := h
  obtain ⟨u, k1, k2⟩ := k
  refine ⟨_, pw_and h1 k1, fun B δ σ H0 H s => at_bind (t := t σ H) mB (h2 B δ σ H0 H s) fun x v H1 H1' w rx => ?_⟩
  cases (show v = x from rx)
  cases x with
  | true => exact k2 B δ σ H1 H1' (s.up w)
  | false => exact fun Q q => q _ H1 H1' (.refl w.b) rfl
theorem dw_or {f g} (h : Dt G E X a f) (k : Dw G E X (.BoolOp .Or (b :: es) pos) g) : Dw G E X (.BoolOp .Or (a :: b :: es) pos) (dOr f g) := by
  obtain ⟨t, h1, h2⟩ := h
  obtain ⟨u, k1, k2⟩ := k
  refine ⟨_, pw_or h1 k1, fun B δ σ H0 H s => at_bind (t := t σ H) mB (h2 B δ σ H0 H s) fun x v H1 H1' w rx => ?_⟩
  cases (show v = x from rx)
  cases x with
  | false => exact k2 B δ σ H1 H1' (s.up w)
  | true => exact fun Q q => q _ H1 H1' (.refl w.b) rfl
theorem dt_w {f} (h : Dw G E X e f) : Dt G E X e f := by
  obtain ⟨t, h1, h2⟩ := h
  exact ⟨_, PW.pt h1, h2⟩
/-- and, or, not as values (all but the last True or False) -/
def dAndV (f g : DSt → R D) : DSt → R D := fun δ => (f δ).bind fun x => (P.tru x).bind fun b => if b then g δ else .ok (.bool false)
def dOrV (f g : DSt → R D) : DSt → R D := fun δ => (f δ).bind fun x => (P.tru x).bind fun b => if b then .ok (.bool true) else g δ
def dNotV (f : DSt → R D) : DSt → R D := fun δ => (f δ).bind fun x => (P.tru x).bind fun b => .ok (.bool (!b))
theorem de_one {f o} (h : De G E X a f) : De G E X (.BoolOp o [a] pos) f := by
  obtain ⟨t, h1, h2⟩ := h
  exact ⟨_, pe_one h1, h2⟩
theorem de_and {f g} (h : De G E X a f) (k : De G E X (.BoolOp .And (b :: es) pos) g) : De G E X (.BoolOp .And (a :: b :: es) pos) (dAndV f g) := by
  obtain ⟨t, h1, h2⟩ := h
  obtain ⟨u, k1, k2⟩ := k
  refine ⟨_, pe_and h1 k1, fun B δ σ H0 H s => at_bind (t := t σ H) mV (h2 B δ σ H0 H s) fun x v H1 H1' w rx => ?_⟩
  cases x with
  | bool c =>
    cases (show Rp X.K H1 v _ from rx)
    cases c with
    | true =>
      exact At.imp (k2 B δ σ H1 H1' (s.up w)) fun Q q => ⟨true, rfl, q⟩
    | false => exact fun Q q => ⟨false, rfl, q _ H1 H1' (.refl w.b) (.bl _)⟩
  | _ => exact True.intro
theorem de_or {f g} (h : De G E X a f) (k : De G E X (.BoolOp .Or (b :: es) pos) g) : De G E X (.BoolOp .Or (a :: b :: es) pos) (dOrV f g) := by
  obtain ⟨t, h1, h2⟩ := h
  obtain ⟨u, k1, k2⟩ := k
  refine ⟨_, pe_or h1 k1, fun B δ σ H0 H s => at_bind (t := t σ H) mV (h2 B δ σ H0 H s) fun x v H1 H1' w rx => ?_⟩
  cases x with
  | bool c =>
    cases (show Rp X.K H1 v _ from rx)
    cases c with
    | false =>
      exact At.imp (k2 B δ σ H1 H1' (s.up w)) fun Q q => ⟨false, rfl, q⟩
    | true => exact fun Q q => ⟨true, rfl, q _ H1 H1' (.refl w.b) (.bl _)⟩
  | _ => exact True.intro
theorem de_not {f} (h : De G E X a f) : De G E X (.UnaryOp .Not a pos) (dNotV f) := by
  obtain ⟨t, h1, h2⟩ := h
  refine ⟨_, pe_not h1, fun B δ σ H0 H s => at_bind (t := t σ H) mV (h2 B δ σ H0 H s) fun x v H1 H1' w rx => ?_⟩
  cases x with
  | bool c =>
    cases (show Rp X.K H1 v _ from rx)
    exact fun Q q => ⟨c, rfl, q _ H1 H1' (.refl w.b) (.bl _)⟩
  | _ => exact True.intro
/-- a if t else b -/
def dIf {α : Type} (c : DSt → R Bool) (f g : DSt → R α) : DSt → R α := fun δ => (c δ).bind fun b => if b then f δ else g δ
theorem de_if {c : Expr} {h f g} (hc : Dt G E X c h) (ha : De G E X a f) (hb : De G E X b g) : De G E X (.IfExp c a b pos) (dIf h f g) := by
  obtain ⟨t, h1, h2⟩ := hc
  obtain ⟨u, k1, k2⟩ := ha
  obtain ⟨u', l1, l2⟩ := hb
  refine ⟨_, pe_ifExp h1 k1 l1, fun B δ σ H0 H s => at_bind (t := t σ H) mV (h2 B δ σ H0 H s) fun x v H1 H1' w rx => ?_⟩
  cases (show v = x from rx)
  cases x with
  | true => exact k2 B δ σ H1 H1' (s.up w)
  | false => exact l2 B δ σ H1 H1' (s.up w)

/-! ### argument lists, displays -/
def dNil : DSt → R (List D) := fun _ => .ok []
def dCons (f : DSt → R D) (g : DSt → R (List D)) : DSt → R (List D) := fun δ => (f δ).bind fun x => (g δ).bind fun xs => .ok (x :: xs)
theorem da_nil : Da G E X [] dNil := ⟨_, pa_nil, fun B δ σ H0 H s Q q => q [] H0 H (.refl s.ex) .nil⟩
theorem da_cons {f g} (h : De G E X e f) (k : Da G E X es g) (hs : starEach (e :: es) X.env = (false, eval e X.env) :: starEach es X.env := by rfl) : Da G E X (e :: es) (dCons f g) := by
  obtain ⟨t, h1, h2⟩ := h
  obtain ⟨u, k1, k2⟩ := k
  refine ⟨_, pa_cons h1 k1 hs, fun B δ σ H0 H s => at_bind (t := t σ H) mA (h2 B δ σ H0 H s) fun x v H1 H1' w rx => at_bind (t := u σ H1') (k := fun vs H2 Q => Q (v :: vs) H2) mA (k2 B δ σ H1 H1' (s.up w)) fun xs vs H2 H2' w2 rxs => ?_⟩
  exact fun Q q => q _ H2 H2' (.refl w2.b) (.cons (Rp.mono w2.a rx) rxs)
def dTup (f : DSt → R (List D)) : DSt → R D := fun δ => (f δ).bind fun xs => if xs.length ≤ LIM then .ok (.tuple xs) else .bad
theorem de_tup {f x1} (h : Da G E X es f) : De G E X (.Tuple es x1 pos) (dTup f) := by
  obtain ⟨t, h1, h2⟩ := h
  refine ⟨_, pe_tup h1, fun B δ σ H0 H s => at_bind (t := t σ H) mV (h2 B δ σ H0 H s) fun xs vs H1 H1' w rx => ?_⟩
  split
  · rename_i hl
    exact At.imp (at_newT w.b rx) fun Q q => ⟨by rw [RpAll.length rx]; exact lim_le hl, q⟩
  · exact True.intro
def dLst (f : DSt → R (List D)) : DSt → R D := fun δ => (f δ).bind fun xs => if xs.length ≤ LIM then .ok (.list xs) else .bad
theorem de_lst {f} (h : Da G E X es f) : De G E X (.List es pos) (dLst f) := by
  obtain ⟨t, h1, h2⟩ := h
  refine ⟨_, pe_lst h1, fun B δ σ H0 H s => at_bind (t := t σ H) mV (h2 B δ σ H0 H s) fun xs vs H1 H1' w rx => ?_⟩
  split
  · rename_i hl
    exact At.imp (at_newL w.b rx) fun Q q => ⟨by rw [RpAll.length rx]; exact lim_le hl, q⟩
  · exact True.intro
def dLstN (f : DSt → R (List D)) : DSt → R (List D) := fun δ => (f δ).bind fun xs => if xs.length ≤ LIM then .ok xs else .bad
theorem dn_lst {f} (h : Da G E X es f) : DN G E X (.List es pos) (dLstN f) := by
  obtain ⟨t, h1, h2⟩ := h
  refine ⟨_, pe_lst h1, fun B δ σ H0 H s => at_bind (t := t σ H) mN (h2 B δ σ H0 H s) fun xs vs H1 H1' w rx => ?_⟩
  split
  · rename_i hl
    exact At.imp (at_newN w.b rx) fun Q q => ⟨by rw [RpAll.length rx]; exact lim_le hl, q⟩
  · exact True.intro
/-- a new list as data -/
def dFre (f : DSt → R (List D)) : DSt → R D := fun δ => (f δ).bind fun xs => .ok (.list xs)
theorem de_fre {f} (h : DN G E X e f) : De G E X e (dFre f) := by
  obtain ⟨t, h1, h2⟩ := h
  refine ⟨t, h1, fun B δ σ H0 H s => ?_⟩
  have z := h2 B δ σ H0 H s
  unfold dFre
  cases q : f δ with
  | bad => exact True.intro
  | er x => rw [q] at z; exact z
  | ok ds =>
    rw [q] at z
    refine fun Q k => z Q fun b H0' H' u ⟨p, vs, e, hs, h0, hp, r⟩ => ?_
    subst e
    refine k _ (upd H0' p (.lst vs)) H' ⟨u.a.trans (Same.upd h0), fun c o w => ?_, u.c, fun c n1 n2 => ?_⟩ (.lst upd_same (r.mono (Same.upd h0)))
    · by_cases hc : c = p
      · subst hc; rw [upd_same] at w; cases w; exact hp
      · rw [upd_ne hc] at w; exact u.b _ _ w
    · have hc : c ≠ p := fun z => n1 (z ▸ hs)
      rw [upd_ne hc]; exact u.d c n1 n2
end
end Dn

namespace Dn
open PySem PySem.Spec PyProof.Rows L2

/-! ### items, slices, lengths, classes -/
section
variable {K : PySem.W.Frag} {H : Hp}
theorem RpAll.atI {vs : List V} {ds : List D} {i : Int} {d : D} (r : RpAll K H vs ds) (h : L2.atI ds i = some d) : ∃ v, L2.atI vs i = some v ∧ Rp K H v d := by
  unfold L2.atI at h ⊢
  rw [r.length]
  cases q : ixN ds.length i with
  | none => rw [q] at h; cases h
  | some j =>
    rw [q] at h
    exact r.get h
end
def P.idx (x : Op) (y : D) : R D := match y with
  | .int i => match asSq x with
    | some ds => match atI ds i with
      | some d => .ok d
      | none => .bad
    | none => match x with
      | .d (.str z) => if z.length ≤ LIM then (match atI z.cps.toList i with
        | some c => .ok (.str ⟨#[c]⟩)
        | none => .bad) else .bad
      | _ => .bad
  | _ => .bad
def dIdx (f : DSt → R Op) (g : DSt → R D) : DSt → R D := fun δ => (f δ).bind fun x => (g δ).bind fun y => P.idx x y
section
variable {G : Str → Addr} {E : XK} {X : Cx} {pos p p2 p3 : Pos} {a b e : Expr} {es : List Expr}
theorem de_ix {f g} (ha : DO G E X a f) (hb : De G E X b g) (hs : PlainIx b) : De G E X (.Subscript a b pos) (dIdx f g) := by
  obtain ⟨t, h1, h2⟩ := ha
  obtain ⟨u, k1, k2⟩ := hb
  refine ⟨_, pe_ix ix_seq h1 k1 hs, ev_op sP mV h2 k2 fun x y v w Hs Hs' H0 H e rx ry => ?_⟩
  unfold P.idx
  cases y with
  | int i =>
    cases (show Rp X.K H0 w _ from ry)
    show At X.K G E (rV X.K) H0 H _ (match asSq x with | some ds => _ | none => _)
    split
    · rename_i ds hd
      obtain ⟨a, vs, rfl, hq, r⟩ := as_sq e rx hd
      split
      · rename_i d hi
        obtain ⟨v, hv, rv⟩ := r.atI hi
        rcases hq with hq | hq
        · exact fun Q q => .inl ⟨_, _, _, _, rfl, rfl, hq, hv, q _ H0 H (.refl e) rv⟩
        · exact fun Q q => .inr (.inl ⟨_, _, _, _, rfl, rfl, hq, hv, q _ H0 H (.refl e) rv⟩)
      · exact True.intro
    · split
      · cases (show Rp X.K H0 v _ from rx)
        split
        · rename_i hl
          split
          · rename_i c hc
            exact fun Q q => .inr (.inr ⟨_, _, _, rfl, rfl, lim_le hl, hc, q _ H0 H (.refl e) (.str _)⟩)
          · exact True.intro
        · exact True.intro
      · exact True.intro
  | _ => exact True.intro
/-- a slice's parts -/
def dNoPart : DSt → R (Option Int) := fun _ => .ok none
def P.part : D → R (Option Int)
  | .int i => .ok (some i)
  | _ => .bad
def dPart (f : DSt → R D) : DSt → R (Option Int) := fun δ => (f δ).bind P.part
theorem dp_none : Dp' G E X none dNoPart := ⟨_, po_none, fun B δ σ H0 H s Q q => q none H0 H (.refl s.ex) rfl⟩
theorem dp_some {f} (h : De G E X e f) : Dp' G E X (some e) (dPart f) := by
  obtain ⟨t, h1, h2⟩ := h
  refine ⟨_, po_some h1, fun B δ σ H0 H s => at_bind (t := t σ H) mO (h2 B δ σ H0 H s) fun x v H1 H1' w rx => ?_⟩
  cases x with
  | int i =>
    cases (show Rp X.K H1 v _ from rx)
    exact fun Q q => ⟨_, rfl, q _ H1 H1' (.refl w.b) rfl⟩
  | _ => exact True.intro
def cutD (ds : List D) (lo hi : Option Int) : List D := (ds.drop (HT.sIx ds.length 0 lo)).take (HT.sIx ds.length ds.length hi - HT.sIx ds.length 0 lo)
theorem cut_rp {K : PySem.W.Frag} {H : Hp} {vs : List V} {ds : List D} {lo hi : Option Int} (r : RpAll K H vs ds) : RpAll K H (cutV vs lo hi) (cutD ds lo hi) := by
  unfold cutV cutD
  rw [r.length]
  exact (r.drop _).take _
def P.slice (x : Op) (lo hi : Option Int) : R D := match asL x with
  | some ds => .ok (.list (cutD ds lo hi))
  | none => match x with
    | .d (.tuple ds) => .ok (.tuple (cutD ds lo hi))
    | .d (.str z) => if z.length ≤ LIM then .ok (.str (cutS z lo hi)) else .bad
    | _ => .bad
def rSlD (K : PySem.W.Frag) : V → Option Int → Option Int → Hp → VK → Prop := fun x lo hi H Q => rSlL K x lo hi H Q ∨ rSlA K x lo hi H Q ∨ rSlS x lo hi H Q
theorem sl_d : SlR X (rSlD X.K) := by
  intro pins s σ H x v vl vu lo hi sl Q I rx hs pl pu h
  rcases h with h | h | h
  · exact sl_list pins s σ H x v vl vu lo hi sl Q I rx hs pl pu h
  · exact sl_tupA pins s σ H x v vl vu lo hi sl Q I rx hs pl pu h
  · exact sl_str pins s σ H x v vl vu lo hi sl Q I rx hs pl pu h
def dSlice (f : DSt → R Op) (l h : DSt → R (Option Int)) : DSt → R D := fun δ => (f δ).bind fun x => (l δ).bind fun lo => (h δ).bind fun hi => P.slice x lo hi
theorem cutD_all {α : Type} {ds : List α} {lo hi : Option Int} (h : HT.sIx ds.length 0 lo = 0 ∧ HT.sIx ds.length ds.length hi = ds.length) : (ds.drop (HT.sIx ds.length 0 lo)).take (HT.sIx ds.length ds.length hi - HT.sIx ds.length 0 lo) = ds := by
  rw [h.1, h.2, Nat.sub_zero, List.drop_zero, List.take_length]
theorem de_slice {lo hi : Option Expr} {f l h} (ha : DO G E X e f) (hl : Dp' G E X lo l) (hh : Dp' G E X hi h) : De G E X (.Subscript e (.Slice lo hi none p2) pos) (dSlice f l h) := by
  obtain ⟨t, h1, h2⟩ := ha
  obtain ⟨tl, l1, l2⟩ := hl
  obtain ⟨th, k1, k2⟩ := hh
  refine ⟨_, pe_slice sl_d h1 l1 k1, fun B δ σ H0 H s => at_bind (t := t σ H) (k := fun x H1 Q => tl σ H1 fun l H2 => th σ H2 fun u H3 => rSlD X.K x l u H3 Q) mV (h2 B δ σ H0 H s) fun x v H1 H1' w rx =>
    at_bind (t := tl σ H1') (k := fun l H2 Q => th σ H2 fun u H3 => rSlD X.K v l u H3 Q) mV (l2 B δ σ H1 H1' (s.up w)) fun lo' lo2 H2 H2' w2 e1 => at_bind (t := th σ H2') (k := fun u H3 Q => rSlD X.K v lo2 u H3 Q) mV (k2 B δ σ H2 H2' ((s.up w).up w2)) fun hi' hi2 H3 H3' w3 e2 => ?_⟩
  cases (show lo2 = lo' from e1)
  cases (show hi2 = hi' from e2)
  have rx : rP X.K H H3 H3' v x := sP _ _ _ _ _ _ _ w3 (sP _ _ _ _ _ _ _ w2 rx)
  have e := w3.b
  unfold P.slice
  split
  · rename_i ds hd
    obtain ⟨a, vs, rfl, hq, r⟩ := as_l e rx hd
    exact fun Q q => .inl ⟨_, _, rfl, hq, at_newL (G := G) (E := E) e (cut_rp r) Q q⟩
  · split
    · cases (show Rp X.K H3 v _ from rx) with
      | @tup a xs ds h1 r =>
        refine fun Q q => .inr (.inl ⟨_, _, rfl, same_t e h1, fun z => ?_, fun z => at_newT (G := G) (E := E) e (cut_rp r) Q q⟩)
        have z' := z
        rw [r.length] at z'
        refine q _ H3 H3' (.refl e) ?_
        show Rp X.K H3 (.ref a) (.tuple (cutD _ lo' hi'))
        unfold cutD
        rw [cutD_all z']
        exact .tup h1 r
    · cases (show Rp X.K H3 v _ from rx)
      split
      · rename_i hl
        exact fun Q q => .inr (.inr ⟨_, rfl, lim_le hl, q _ H3 H3' (.refl e) (.str _)⟩)
      · exact True.intro
    · exact True.intro
/-- len -/
def P.len (x : Op) : R D := match asSq x with
  | some ds => .ok (.int ds.length)
  | none => match x with
    | .d (.str z) => if z.length ≤ LIM then .ok (.int z.length) else .bad
    | _ => .bad
def dLen (f : DSt → R Op) : DSt → R D := fun δ => (f δ).bind P.len
/-- a built-in of one operand -/
theorem ev_cb1 {K : PySem.W.Frag} {γ : Type} {rc : Rel V γ} {r : List V → Hp → VK → Prop} {ta : TE} {fa : DSt → R Op} {g : Op → R γ} (mc : Rel.M rc) (ha : Ev K G E (rP K) ta fa)
    (hk : ∀ x v Hs H0 H, Same H0 H → rP K Hs H0 H v x → At K G E rc H0 H (r [v] H) (g x)) : Ev K G E rc (tCB r (tCons ta tNil)) (fun δ => (fa δ).bind g) :=
  fun B δ σ H0 H s => at_bind (t := ta σ H) (k := fun v H1 Q => r [v] H1 Q) mc (ha B δ σ H0 H s) fun x v H1 H1' u rx => hk x v H H1 H1' u.b rx
theorem de_len {f} (hg : Gl X "len") (hm : X.mg "len" = none) (ha : DO G E X e f) (he : starEach [e] X.env = (false, eval e X.env) :: starEach [] X.env := by rfl) (hpl : (backTo pos (starEach [] X.env)).any (·.1) = false := by rfl) :
    De G E X (.Call (.Name "len" p) [e] [] pos) (dLen f) := by
  obtain ⟨t, h1, h2⟩ := ha
  refine ⟨_, pe_callB call_len hg hm PySem.boot_len (pa_cons h1 pa_nil he) (by decide) (by decide) he hpl, ev_cb1 mV h2 fun x v Hs H0 H e rx => ?_⟩
  unfold P.len
  split
  · rename_i ds hd
    obtain ⟨a, vs, rfl, hq, r⟩ := as_sq e rx hd
    exact fun Q q => ⟨_, _, rfl, hq.elim (fun z => .inl ⟨_, z, r.length.symm⟩) (fun z => .inr ⟨_, z, r.length.symm⟩), q _ H0 H (.refl e) (.int _)⟩
  · split
    · cases (show Rp X.K H0 v _ from rx)
      split
      · rename_i hl
        exact fun Q q => ⟨_, _, rfl, ⟨lim_le hl, rfl⟩, q _ H0 H (.refl e) (.int _)⟩
      · exact True.intro
    · exact True.intro
/-- isinstance with a built-in class -/
def tyN : Op → String
  | .o _ => "list"
  | .d .none => "NoneType"
  | .d (.bool _) => "bool"
  | .d (.int _) => "int"
  | .d (.str _) => "str"
  | .d (.list _) => "list"
  | .d (.tuple _) => "tuple"
  | .d (.dict [(.none, .list _)]) => "list"
  | .d (.dict _) => "dict"
theorem tyX_of {K : PySem.W.Frag} {Hs H0 H : Hp} {v : V} {x : Op} (e : Same H0 H) (h : rP K Hs H0 H v x) : TyX K H v (.type (tyN x)) := by
  cases x with
  | o ds => obtain ⟨p, vs, rfl, h1, _⟩ := h; exact .base (.lst h1)
  | d d =>
    have h : Rp K H0 v d := h
    cases h with
    | non => exact .base .non
    | bl b => exact .base (.bl b)
    | int i => exact .base (.int i)
    | str s => exact .base (.str s)
    | lst h1 _ => exact .base (.lst (e _ _ h1))
    | tup h1 _ =>
      rcases same_t e h1 with (h | ⟨o, h⟩) | ⟨o, its, n, hk, hc, _⟩
      · exact .base (.tup h)
      · exact .fTuple h
      · exact .kTuple hk hc
    | scr h1 _ =>
      rcases e.seq h1 with (h | ⟨o, h⟩) | ⟨o, its, n, hk, hc, _⟩
      · exact .base (.lst h)
      · exact .base (.frz h)
      · exact .kList hk hc
def P.isi (T : String) (x : Op) : R D := match kitB (tyN x) T with
  | some b => .ok (.bool b)
  | none => .bad
def dIsi (T : String) (f : DSt → R Op) : DSt → R D := fun δ => (f δ).bind (P.isi T)
theorem de_isi {f} {T : String} {cn : Str} (hg : Gl X "isinstance") (hm : X.mg "isinstance" = none) (hv : bootBuiltins "isinstance" = some (.builtin "isinstance")) (hgT : Gl X cn) (hmT : X.mg cn = none) (hvT : bootBuiltins cn = some (.type T)) (ha : DO G E X e f)
    (hn : cn ≠ "__name__" := by decide) (hd : (cn == ("__debug__" : Str)) = false := by decide)
    (he : starEach [e, .Name cn p2] X.env = (false, eval e X.env) :: starEach [.Name cn p2] X.env := by rfl) (he2 : starEach [.Name cn p2] X.env = (false, eval (.Name cn p2) X.env) :: starEach [] X.env := by rfl) (hpl : (backTo pos (starEach [.Name cn p2] X.env)).any (·.1) = false := by rfl) :
    De G E X (.Call (.Name "isinstance" p) [e, .Name cn p2] [] pos) (dIsi T f) := by
  obtain ⟨t, h1, h2⟩ := ha
  refine ⟨_, pe_callB call_isi hg hm hv (pa_cons h1 (pa_cons (pe_bltn (v := .ty T) hgT hmT hvT rfl hn hd) pa_nil he2) he) (by decide) (by decide) he hpl, fun B δ σ H0 H s => at_bind (t := t σ H) (k := fun v H1 Q => rIsi X.K [v, .ty T] H1 Q) mV (h2 B δ σ H0 H s) fun x v H1 H1' w rx => ?_⟩
  unfold P.isi
  split
  · rename_i b hb
    exact fun Q q => ⟨_, _, _, _, _, rfl, .ty T, tyX_of w.b rx, kit_ty hb, q _ H1 H1' (.refl w.b) (.bl _)⟩
  · exact True.intro
/-- int(x), max(x, y), min(x, y) -/
def P.toInt : Op → R D
  | .d (.int i) => .ok (.int i)
  | .d (.bool b) => .ok (.int (if b then 1 else 0))
  | _ => .bad
def dToInt (f : DSt → R Op) : DSt → R D := fun δ => (f δ).bind P.toInt
theorem de_toInt {f} (hg : Gl X "int") (hm : X.mg "int" = none) (hv : bootBuiltins "int" = some (.type "int")) (ha : DO G E X e f) (he : starEach [e] X.env = (false, eval e X.env) :: starEach [] X.env := by rfl) (hpl : (backTo pos (starEach [] X.env)).any (·.1) = false := by rfl) :
    De G E X (.Call (.Name "int" p) [e] [] pos) (dToInt f) := by
  obtain ⟨t, h1, h2⟩ := ha
  refine ⟨_, pe_callTy call_int1 hg hm hv (pa_cons h1 pa_nil he) (by decide) (by decide) he hpl, ev_cb1 mV h2 fun x v Hs H0 H e rx => ?_⟩
  unfold P.toInt
  split
  · cases (show Rp X.K H0 v _ from rx)
    exact fun Q q => .inl ⟨_, rfl, q _ H0 H (.refl e) (.int _)⟩
  · cases (show Rp X.K H0 v _ from rx)
    exact fun Q q => .inr ⟨_, rfl, q _ H0 H (.refl e) (.int _)⟩
  · exact True.intro
def P.max2 : List D → R D
  | [.int i, .int j] => .ok (.int (if j > i then j else i))
  | _ => .bad
def P.min2 : List D → R D
  | [.int i, .int j] => .ok (.int (if j < i then j else i))
  | _ => .bad
def dCall1 (p : List D → R D) (f : DSt → R (List D)) : DSt → R D := fun δ => (f δ).bind p
theorem de_max2 {f} (hc : X.calm = true) (hg : Gl X "max") (hm : X.mg "max" = none) (hv : bootBuiltins "max" = some (.builtin "max")) (ha : Da G E X (e :: es) f) (he : starEach (e :: es) X.env = (false, eval e X.env) :: starEach es X.env := by rfl) (hpl : (backTo pos (starEach es X.env)).any (·.1) = false := by rfl) :
    De G E X (.Call (.Name "max" p) (e :: es) [] pos) (dCall1 P.max2 f) := by
  obtain ⟨t, h1, h2⟩ := ha
  refine ⟨_, pe_callB (call_max2 hc) hg hm hv h1 (by decide) (by decide) he hpl, ev_cb mV h2 fun ds vs H0 H e rx => ?_⟩
  unfold P.max2
  split
  · cases rx with
    | cons r1 r2 =>
      cases r2 with
      | cons r3 r4 =>
        cases r4; cases r1; cases r3
        exact fun Q q => ⟨_, _, rfl, q _ H0 H (.refl e) (.int _)⟩
  · exact True.intro
theorem de_min2 {f} (hc : X.calm = true) (hg : Gl X "min") (hm : X.mg "min" = none) (hv : bootBuiltins "min" = some (.builtin "min")) (ha : Da G E X (e :: es) f) (he : starEach (e :: es) X.env = (false, eval e X.env) :: starEach es X.env := by rfl) (hpl : (backTo pos (starEach es X.env)).any (·.1) = false := by rfl) :
    De G E X (.Call (.Name "min" p) (e :: es) [] pos) (dCall1 P.min2 f) := by
  obtain ⟨t, h1, h2⟩ := ha
  refine ⟨_, pe_callB (call_min2 hc) hg hm hv h1 (by decide) (by decide) he hpl, ev_cb mV h2 fun ds vs H0 H e rx => ?_⟩
  unfold P.min2
  split
  · cases rx with
    | cons r1 r2 =>
      cases r2 with
      | cons r3 r4 =>
        cases r4; cases r1; cases r3
        exact fun Q q => ⟨_, _, rfl, q _ H0 H (.refl e) (.int _)⟩
  · exact True.intro
/-- all, any of a list of truth values -/
def bools? : List D → Option (List Bool)
  | [] => some []
  | .bool b :: ds => (bools? ds).map (b :: ·)
  | _ => none
theorem bools_rp {K : PySem.W.Frag} {H : Hp} : ∀ {ds : List D} {vs : List V} {bs : List Bool}, bools? ds = some bs → RpAll K H vs ds → vs = bs.map V.bl
  | [], _, _, h, .nil => by cases h; rfl
  | .bool b :: ds, _, bs, h, .cons (.bl _) r => by
    unfold bools? at h
    cases q : bools? ds with
    | none => rw [q] at h; cases h
    | some cs =>
      rw [q] at h
      cases h
      rw [bools_rp q r]
      rfl
def P.all (x : Op) : R D := match (asL x).bind bools? with
  | some bs => .ok (.bool (bs.all id))
  | none => .bad
def P.any (x : Op) : R D := match (asL x).bind bools? with
  | some bs => .ok (.bool (bs.any id))
  | none => .bad
def d1 (p : Op → R D) (f : DSt → R Op) : DSt → R D := fun δ => (f δ).bind p
theorem de_all {f} (hc : X.calm = true) (hg : Gl X "all") (hm : X.mg "all" = none) (hv : bootBuiltins "all" = some (.builtin "all")) (ha : DO G E X e f) (he : starEach [e] X.env = (false, eval e X.env) :: starEach [] X.env := by rfl) (hpl : (backTo pos (starEach [] X.env)).any (·.1) = false := by rfl) :
    De G E X (.Call (.Name "all" p) [e] [] pos) (d1 P.all f) := by
  obtain ⟨t, h1, h2⟩ := ha
  refine ⟨_, pe_callB (cr_all hc) hg hm hv (pa_cons h1 pa_nil he) (by decide) (by decide) he hpl, ev_cb1 mV h2 fun x v Hs H0 H e rx => ?_⟩
  unfold P.all
  split
  · rename_i bs hb
    cases q : asL x with
    | none => rw [q] at hb; cases hb
    | some ds =>
      rw [q] at hb
      obtain ⟨a, vs, rfl, hq, r⟩ := as_l e rx q
      have z := bools_rp hb r
      subst z
      exact fun Q q => ⟨_, _, rfl, hq, q _ H0 H (.refl e) (.bl _)⟩
  · exact True.intro
theorem de_any {f} (hc : X.calm = true) (hg : Gl X "any") (hm : X.mg "any" = none) (hv : bootBuiltins "any" = some (.builtin "any")) (ha : DO G E X e f) (he : starEach [e] X.env = (false, eval e X.env) :: starEach [] X.env := by rfl) (hpl : (backTo pos (starEach [] X.env)).any (·.1) = false := by rfl) :
    De G E X (.Call (.Name "any" p) [e] [] pos) (d1 P.any f) := by
  obtain ⟨t, h1, h2⟩ := ha
  refine ⟨_, pe_callB (cr_any hc) hg hm hv (pa_cons h1 pa_nil he) (by decide) (by decide) he hpl, ev_cb1 mV h2 fun x v Hs H0 H e rx => ?_⟩
  unfold P.any
  split
  · rename_i bs hb
    cases q : asL x with
    | none => rw [q] at hb; cases hb
    | some ds =>
      rw [q] at hb
      obtain ⟨a, vs, rfl, hq, r⟩ := as_l e rx q
      have z := bools_rp hb r
      subst z
      exact fun Q q => ⟨_, _, rfl, hq, q _ H0 H (.refl e) (.bl _)⟩
  · exact True.intro
/-- tuple(x), list(x) -/
def P.tuple (x : Op) : R D := match asSq x with
  | some ds => .ok (.tuple ds)
  | none => .bad
theorem de_tuple {f} (hg : Gl X "tuple") (hm : X.mg "tuple" = none) (hv : bootBuiltins "tuple" = some (.type "tuple")) (ha : DO G E X e f) (he : starEach [e] X.env = (false, eval e X.env) :: starEach [] X.env := by rfl) (hpl : (backTo pos (starEach [] X.env)).any (·.1) = false := by rfl) :
    De G E X (.Call (.Name "tuple" p) [e] [] pos) (d1 P.tuple f) := by
  obtain ⟨t, h1, h2⟩ := ha
  refine ⟨_, pe_callTy call_tuple_of hg hm hv (pa_cons h1 pa_nil he) (by decide) (by decide) he hpl, ev_cb1 mV h2 fun x v Hs H0 H e rx => ?_⟩
  unfold P.tuple
  cases q : asSq x with
  | none => exact True.intro
  | some ds =>
    obtain ⟨a, vs, rfl, hq, r⟩ := as_sq e rx q
    rcases hq with hq | hq
    · exact fun Q q => ⟨_, _, rfl, .inl ⟨hq, at_newT (G := G) (E := E) e r Q q⟩⟩
    · -- a tuple is itself: its place must be the data's
      cases x with
      | o es => 
        obtain ⟨p, ws, e1, h1, h2⟩ := rx
        cases e1
        cases q
        exact fun Q q => ⟨_, _, rfl, .inl ⟨SqL.of h1, at_newT (G := G) (E := E) e h2 Q q⟩⟩
      | d d =>
        have rx : Rp X.K H0 (.ref a) d := rx
        cases rx with
        | lst h1 h2 => cases q; exact fun Q q => ⟨_, _, rfl, .inl ⟨SqL.of (e _ _ h1), at_newT (G := G) (E := E) e h2 Q q⟩⟩
        | tup h1 h2 => cases q; exact fun Q q => ⟨_, _, rfl, .inr ⟨same_t e h1, q _ H0 H (.refl e) (.tup h1 h2)⟩⟩
        | scr h1 h2 => cases q; exact fun Q q => ⟨_, _, rfl, .inl ⟨e.seq h1, at_newT (G := G) (E := E) e h2 Q q⟩⟩
def P.listN (x : Op) : R (List D) := match asSq x with
  | some ds => .ok ds
  | none => .bad
def dListN (f : DSt → R Op) : DSt → R (List D) := fun δ => (f δ).bind P.listN
theorem dn_list {f} (hg : Gl X "list") (hm : X.mg "list" = none) (hv : bootBuiltins "list" = some (.type "list")) (ha : DO G E X e f) (he : starEach [e] X.env = (false, eval e X.env) :: starEach [] X.env := by rfl) (hpl : (backTo pos (starEach [] X.env)).any (·.1) = false := by rfl) :
    DN G E X (.Call (.Name "list" p) [e] [] pos) (dListN f) := by
  obtain ⟨t, h1, h2⟩ := ha
  refine ⟨_, pe_callTy call_list_of hg hm hv (pa_cons h1 pa_nil he) (by decide) (by decide) he hpl, ev_cb1 mN h2 fun x v Hs H0 H e rx => ?_⟩
  unfold P.listN
  cases q : asSq x with
  | none => exact True.intro
  | some ds =>
    obtain ⟨a, vs, rfl, hq, r⟩ := as_sq e rx q
    exact fun Q q => ⟨_, _, rfl, hq, at_newN (G := G) (E := E) e r Q q⟩
end
end Dn

namespace Dn
open PySem PySem.Spec PyProof.Rows L2

/-! ### what is walked -/
structure Wk (K : PySem.W.Frag) (J : It) (ds : List D) (H0 : Hp) (Kp : Hp → Prop) : Prop where
  go : ∀ (i : Nat) (d : D) H', Kp H' → ds[i]? = some d → J.go i H'
  yld : ∀ (i : Nat) (d : D) H0' H' x H3, Kp H' → Same H0 H0' → Same H0' H' → ds[i]? = some d → J.yld i H' x H3 → ∃ H03, Up H0' H' H03 H3 ∧ Rp K H03 x d
  stop : ∀ H', Kp H' → J.stop ds.length H'
/-- m: whether the walk goes on under the stores of a loop's body -/
def rI (K : PySem.W.Frag) (m : Bool) : Rel It (List D) := fun _ H0 H J ds => ∃ Kp : Hp → Prop, Wk K J ds H0 Kp ∧ ∀ H'', Same H0 H'' → (m = false → Same H H'') → Kp H''
theorem mI {K m} : Rel.M (rI K m) := fun _ _ _ _ _ _ _ h => h
def DI (G : Str → Addr) (E : XK) (X : Cx) (m : Bool) (tg it : Expr) (f : DSt → R (List D)) : Prop := ∃ w, PI X tg it w ∧ Ev X.K G E (rI X.K m) w f

theorem wk_list {K : PySem.W.Frag} {a : Addr} {vs : List V} {ds : List D} {H0 : Hp} {Kp : Hp → Prop} (r : RpAll K H0 vs ds) (k : ∀ H', Kp H' → SqL K H' a vs) : Wk K (Itl K a) ds H0 Kp where
  go := fun i d H' kp hd => by
    obtain ⟨v, hv, _⟩ := r.get hd
    exact ⟨vs, v, k H' kp, hv⟩
  yld := fun i d H0' H' x H3 kp e1 e2 hd hy => by
    obtain ⟨v, hv, rv⟩ := r.get hd
    obtain ⟨rfl, h⟩ := hy
    have z := (h vs (k _ kp)).symm.trans hv
    cases z
    exact ⟨H0', .refl e2, rv.mono e1⟩
  stop := fun H' kp => ⟨vs, k H' kp, by rw [r.length]; exact Nat.le_refl _⟩
theorem wk_tup {K : PySem.W.Frag} {a : Addr} {vs : List V} {ds : List D} {H0 : Hp} {Kp : Hp → Prop} (r : RpAll K H0 vs ds) (k : ∀ H', Kp H' → SqT K H' a vs) : Wk K (Itt K a) ds H0 Kp where
  go := fun i d H' kp hd => by
    obtain ⟨v, hv, _⟩ := r.get hd
    exact ⟨vs, v, k H' kp, hv⟩
  yld := fun i d H0' H' x H3 kp e1 e2 hd hy => by
    obtain ⟨v, hv, rv⟩ := r.get hd
    obtain ⟨rfl, h⟩ := hy
    have z := (h vs (k _ kp)).symm.trans hv
    cases z
    exact ⟨H0', .refl e2, rv.mono e1⟩
  stop := fun H' kp => ⟨vs, k H' kp, by rw [r.length]; exact Nat.le_refl _⟩
def signs (z : Str) : List D := z.cps.toList.map fun c => .str ⟨#[c]⟩
theorem wk_str {K : PySem.W.Frag} {z : Str} {H0 : Hp} {Kp : Hp → Prop} : Wk K (Its z) (signs z) H0 Kp where
  go := fun i d H' kp hd => by
    have h := (List.getElem?_eq_some_iff.mp hd).1
    show i < z.cps.size
    simpa [signs] using h
  yld := fun i d H0' H' x H3 kp e1 e2 hd hy => by
    obtain ⟨rfl, c, hc, rfl⟩ := hy
    have : (signs z)[i]? = some (.str ⟨#[c]⟩) := by
      unfold signs
      rw [List.getElem?_map, Array.getElem?_toList, hc]
      rfl
    rw [this] at hd
    cases hd
    exact ⟨H0', .refl e2, .str _⟩
  stop := fun H' kp => by
    show z.cps.size ≤ (signs z).length
    simp [signs]
def rngD (lo : Int) (n : Nat) : List D := (List.range n).map fun i => .int (lo + (i : Nat))
theorem rngD_get {lo : Int} {n i : Nat} (h : i < n) : (rngD lo n)[i]? = some (.int (lo + (i : Nat))) := by
  unfold rngD
  rw [List.getElem?_map, List.getElem?_range h]
  rfl
theorem rngD_len {lo : Int} {n : Nat} : (rngD lo n).length = n := by simp [rngD]
theorem wk_range {K : PySem.W.Frag} {lo : Int} {n : Nat} {H0 : Hp} {Kp : Hp → Prop} : Wk K (Itr lo n) (rngD lo n) H0 Kp where
  go := fun i d H' kp hd => by
    have h := (List.getElem?_eq_some_iff.mp hd).1
    rw [rngD_len] at h
    exact h
  yld := fun i d H0' H' x H3 kp e1 e2 hd hy => by
    obtain ⟨rfl, rfl⟩ := hy
    have h := (List.getElem?_eq_some_iff.mp hd).1
    rw [rngD_len] at h
    rw [rngD_get h] at hd
    cases hd
    exact ⟨H0', .refl e2, .int _⟩
  stop := fun H' kp => by rw [rngD_len]; exact Nat.le_refl _
def pairs (xs ys : List D) : List D := (xs.zip ys).map fun p => .tuple [p.1, p.2]
theorem pairs_get {xs ys : List D} {i : Nat} {d : D} (h : (pairs xs ys)[i]? = some d) : ∃ x y, xs[i]? = some x ∧ ys[i]? = some y ∧ d = .tuple [x, y] := by
  unfold pairs at h
  rw [List.getElem?_map] at h
  cases q : (xs.zip ys)[i]? with
  | none => rw [q] at h; cases h
  | some p =>
    rw [q] at h
    cases h
    rw [List.getElem?_zip_eq_some] at q
    exact ⟨_, _, q.1, q.2, rfl⟩
theorem pairs_len {xs ys : List D} : (pairs xs ys).length = min xs.length ys.length := by simp [pairs]
theorem wk_zipL {K : PySem.W.Frag} {a b : Addr} {vs ws : List V} {ds es : List D} {H0 : Hp} {Kp : Hp → Prop} (r : RpAll K H0 vs ds) (r' : RpAll K H0 ws es) (k : ∀ H', Kp H' → SqL K H' a vs ∧ SqL K H' b ws) : Wk K (Itz K a b) (pairs ds es) H0 Kp where
  go := fun i d H' kp hd => by
    obtain ⟨x, y, hx, hy, rfl⟩ := pairs_get hd
    obtain ⟨v, hv, _⟩ := r.get hx
    obtain ⟨w, hw, _⟩ := r'.get hy
    exact ⟨vs, ws, v, w, (k H' kp).1, (k H' kp).2, hv, hw⟩
  yld := fun i d H0' H' x H3 kp e1 e2 hd hy => by
    obtain ⟨x, y, hx, hy', rfl⟩ := pairs_get hd
    obtain ⟨v, hv, rv⟩ := r.get hx
    obtain ⟨w, hw, rw'⟩ := r'.get hy'
    obtain ⟨T, v', w', rfl, hT, rfl, f1, f2⟩ := hy
    have z1 := (f1 vs (k _ kp).1).symm.trans hv
    have z2 := (f2 ws (k _ kp).2).symm.trans hw
    cases z1; cases z2
    refine ⟨_, Up.new (o := .tup [v, w]) e2 hT, .tup (SqT.of upd_same) (.cons ?_ (.cons ?_ .nil))⟩
    · exact (rv.mono e1).mono (Same.upd (e2.free hT))
    · exact (rw'.mono e1).mono (Same.upd (e2.free hT))
  stop := fun H' kp => ⟨vs, ws, (k H' kp).1, (k H' kp).2, by
    rw [pairs_len, r.length, r'.length]
    omega⟩
theorem wk_zipT {K : PySem.W.Frag} {a b : Addr} {vs ws : List V} {ds es : List D} {H0 : Hp} {Kp : Hp → Prop} (r : RpAll K H0 vs ds) (r' : RpAll K H0 ws es) (k : ∀ H', Kp H' → SqT K H' a vs ∧ SqT K H' b ws) : Wk K (RZ.ItzT K a b) (pairs ds es) H0 Kp where
  go := fun i d H' kp hd => by
    obtain ⟨x, y, hx, hy, rfl⟩ := pairs_get hd
    obtain ⟨v, hv, _⟩ := r.get hx
    obtain ⟨w, hw, _⟩ := r'.get hy
    exact ⟨vs, ws, v, w, (k H' kp).1, (k H' kp).2, hv, hw⟩
  yld := fun i d H0' H' x H3 kp e1 e2 hd hy => by
    obtain ⟨x, y, hx, hy', rfl⟩ := pairs_get hd
    obtain ⟨v, hv, rv⟩ := r.get hx
    obtain ⟨w, hw, rw'⟩ := r'.get hy'
    obtain ⟨T, v', w', rfl, hT, rfl, f1, f2⟩ := hy
    have z1 := (f1 vs (k _ kp).1).symm.trans hv
    have z2 := (f2 ws (k _ kp).2).symm.trans hw
    cases z1; cases z2
    refine ⟨_, Up.new (o := .tup [v, w]) e2 hT, .tup (SqT.of upd_same) (.cons ?_ (.cons ?_ .nil))⟩
    · exact (rv.mono e1).mono (Same.upd (e2.free hT))
    · exact (rw'.mono e1).mono (Same.upd (e2.free hT))
  stop := fun H' kp => ⟨vs, ws, (k H' kp).1, (k H' kp).2, by
    rw [pairs_len, r.length, r'.length]
    omega⟩

section
variable {G : Str → Addr} {E : XK} {X : Cx} {pos p p2 : Pos} {a b e tg : Expr} {es : List Expr} {m : Bool}
/-- a list, a tuple or a text -/
def iAny (K : PySem.W.Frag) (tl : TE) : TI := fun σ H R => tl σ H fun x H1 => (∃ a, x = .ref a ∧ (∃ xs, SqL K H1 a xs) ∧ R (Itl K a) H1) ∨ (∃ a, x = .ref a ∧ (∃ xs, SqT K H1 a xs) ∧ R (Itt K a) H1) ∨ ∃ z, x = .str z ∧ R (Its z) H1
theorem pi_any {l : Expr} {tl : TE} (hl : PE X l tl) : PI X tg l (iAny X.K tl) := by
  refine ⟨fun pins s σ H R I h => ?_⟩
  refine thn (hl.run pins s σ H _ I h) fun v s1 ⟨x, H1, I1, r1, q1⟩ => ?_
  rcases q1 with ⟨a, e, ⟨xs, hq⟩, q⟩ | ⟨a, e, ⟨xs, hq⟩, q⟩ | ⟨x, e, q⟩
  · subst e
    cases r1
    obtain ⟨its, rv, p, hz⟩ := I1.list hq
    refine wpAny_pyIter_list p.isList ?_
    refine ⟨s1.heap.objs.size, [s1.heap.objs.size], _, _, H1, rfl, I1.kept (t' := s1.toks) fun b o e => Heap.get?_push_of_some _ e, turn_list a _, ⟨_, Heap.get?_push_size _ rfl, rfl, rfl⟩, fun b hb => ?_, q⟩
    have e : b = s1.heap.objs.size := by simpa using hb
    subst e
    exact I1.fpOk (Nat.le_refl _) (I1.hok.fresh (Nat.le_refl _))
  · subst e
    cases r1
    obtain ⟨its, rv, p, hz⟩ := I1.tuple hq
    refine wpAny_pyIter_tuple (show s1.heap.IsTuple a its.toArray from p) ?_
    refine ⟨s1.heap.objs.size, [s1.heap.objs.size], _, _, H1, rfl, I1.kept (t' := s1.toks) fun b o e => Heap.get?_push_of_some _ e, turn_tuple a _, ⟨_, Heap.get?_push_size _ rfl, rfl, rfl⟩, fun b hb => ?_, q⟩
    have e : b = s1.heap.objs.size := by simpa using hb
    subst e
    exact I1.fpOk (Nat.le_refl _) (I1.hok.fresh (Nat.le_refl _))
  · subst e
    obtain ⟨t, rfl⟩ := r1
    cases ha : x.cps.all (· < 128)
    · exact wpAny_pyIter_wide ha (pi_one (tk := s1.toks) I1 _ (turn_str _ x t "str_iterator" (.inr rfl)) ⟨_, Heap.get?_push_size _ rfl, rfl, rfl⟩ q)
    · exact wpAny_pyIter_ascii ha (pi_one (tk := s1.toks) I1 _ (turn_str _ x t "str_ascii_iterator" (.inl rfl)) ⟨_, Heap.get?_push_size _ rfl, rfl, rfl⟩ q)
def P.items : D → R (List D)
  | .list ds => .ok ds
  | .tuple ds => .ok ds
  | .dict [(.none, .list ds)] => .ok ds
  | .str z => .ok (signs z)
  | _ => .bad
def dItems (f : DSt → R D) : DSt → R (List D) := fun δ => (f δ).bind P.items
theorem di_any {f} (h : De G E X e f) : DI G E X m tg e (dItems f) := by
  obtain ⟨t, h1, h2⟩ := h
  refine ⟨_, pi_any h1, fun B δ σ H0 H s => at_bind (t := t σ H) (k := fun x H1 R => (∃ a, x = .ref a ∧ (∃ xs, SqL X.K H1 a xs) ∧ R (Itl X.K a) H1) ∨ (∃ a, x = .ref a ∧ (∃ xs, SqT X.K H1 a xs) ∧ R (Itt X.K a) H1) ∨ ∃ z, x = .str z ∧ R (Its z) H1) mI (h2 B δ σ H0 H s) fun x v H1 H1' w rx => ?_⟩
  have rx : Rp X.K H1 v x := rx
  have e := w.b
  cases rx with
  | non => exact True.intro
  | bl _ => exact True.intro
  | int _ => exact True.intro
  | str z => exact fun Q q => .inr (.inr ⟨z, rfl, q _ H1 H1' (.refl e) ⟨fun _ => True, wk_str, fun _ _ _ => True.intro⟩⟩)
  | lst h r => exact fun Q q => .inl ⟨_, rfl, ⟨_, SqL.of (e _ _ h)⟩, q _ H1 H1' (.refl e) ⟨fun H' => SqL X.K H' _ _, wk_list r fun _ k => k, fun H'' e2 _ => SqL.of (e2 _ _ h)⟩⟩
  | tup h r => exact fun Q q => .inr (.inl ⟨_, rfl, ⟨_, same_t e h⟩, q _ H1 H1' (.refl e) ⟨fun H' => SqT X.K H' _ _, wk_tup r fun _ k => k, fun H'' e2 _ => same_t e2 h⟩⟩)
  | scr h r => exact fun Q q => .inl ⟨_, rfl, ⟨_, e.seq h⟩, q _ H1 H1' (.refl e) ⟨fun H' => SqL X.K H' _ _, wk_list r fun _ k => k, fun H'' e2 _ => e2.seq h⟩⟩
/-- a list that the def owns, walked in a comprehension -/
def P.itemsO : Op → R (List D)
  | .o ds => .ok ds
  | .d x => P.items x
def dItemsO (f : DSt → R Op) : DSt → R (List D) := fun δ => (f δ).bind P.itemsO
theorem di_own {f} (h : DO G E X e f) : DI G E X false tg e (dItemsO f) := by
  obtain ⟨t, h1, h2⟩ := h
  refine ⟨_, pi_any h1, fun B δ σ H0 H s => at_bind (t := t σ H) (k := fun x H1 R => (∃ a, x = .ref a ∧ (∃ xs, SqL X.K H1 a xs) ∧ R (Itl X.K a) H1) ∨ (∃ a, x = .ref a ∧ (∃ xs, SqT X.K H1 a xs) ∧ R (Itt X.K a) H1) ∨ ∃ z, x = .str z ∧ R (Its z) H1) mI (h2 B δ σ H0 H s) fun x v H1 H1' w rx => ?_⟩
  have e := w.b
  cases x with
  | o ds =>
    obtain ⟨a, vs, rfl, h, r⟩ := rx
    exact fun Q q => .inl ⟨_, rfl, ⟨_, SqL.of h⟩, q _ H1 H1' (.refl e) ⟨fun H' => SqL X.K H' _ _, wk_list r fun _ k => k, fun H'' _ e2 => SqL.of (e2 rfl _ _ h)⟩⟩
  | d x =>
    have rx : Rp X.K H1 v x := rx
    cases rx with
    | non => exact True.intro
    | bl _ => exact True.intro
    | int _ => exact True.intro
    | str z => exact fun Q q => .inr (.inr ⟨z, rfl, q _ H1 H1' (.refl e) ⟨fun _ => True, wk_str, fun _ _ _ => True.intro⟩⟩)
    | lst h r => exact fun Q q => .inl ⟨_, rfl, ⟨_, SqL.of (e _ _ h)⟩, q _ H1 H1' (.refl e) ⟨fun H' => SqL X.K H' _ _, wk_list r fun _ k => k, fun H'' e2 _ => SqL.of (e2 _ _ h)⟩⟩
    | tup h r => exact fun Q q => .inr (.inl ⟨_, rfl, ⟨_, same_t e h⟩, q _ H1 H1' (.refl e) ⟨fun H' => SqT X.K H' _ _, wk_tup r fun _ k => k, fun H'' e2 _ => same_t e2 h⟩⟩)
    | scr h r => exact fun Q q => .inl ⟨_, rfl, ⟨_, e.seq h⟩, q _ H1 H1' (.refl e) ⟨fun H' => SqL X.K H' _ _, wk_list r fun _ k => k, fun H'' e2 _ => e2.seq h⟩⟩
/-- range -/
def P.range1 : List D → R (List D)
  | [.int n] => if n.natAbs ≤ LIM then .ok (rngD 0 n.toNat) else .bad
  | _ => .bad
def P.range2 : List D → R (List D)
  | [.int a, .int b] => if a.natAbs ≤ LIM ∧ b.natAbs ≤ LIM then .ok (rngD a (b - a).toNat) else .bad
  | _ => .bad
def dRng (p : List D → R (List D)) (f : DSt → R (List D)) : DSt → R (List D) := fun δ => (f δ).bind p
theorem di_range1 {f} (hg : Gl X "range") (hm : X.mg "range" = none) (h : Da G E X [a] f) (hs : starEach [a] X.env = [(false, eval a X.env)] := by rfl) : DI G E X m tg (.Call (.Name "range" p) [a] [] pos) (dRng P.range1 f) := by
  obtain ⟨t, h1, h2⟩ := h
  refine ⟨_, pi_range1 hg hm h1 hs, fun B δ σ H0 H s => at_bind (t := t σ H) (k := fun vs H1 R => ∃ j : Int, vs = [.int j] ∧ -(2 ^ 62) ≤ j ∧ j < 2 ^ 62 ∧ R (Itr 0 j.toNat) H1) mI (h2 B δ σ H0 H s) fun x v H1 H1' w rx => ?_⟩
  unfold P.range1
  split
  · split
    · rename_i n hl
      cases rx with
      | cons r1 r2 =>
        cases r2; cases r1
        exact fun Q q => ⟨_, rfl, by unfold LIM at hl; omega, by unfold LIM at hl; omega, q _ H1 H1' (.refl w.b) ⟨fun _ => True, wk_range, fun _ _ _ => True.intro⟩⟩
    · exact True.intro
  · exact True.intro
theorem di_range2 {f} (hg : Gl X "range") (hm : X.mg "range" = none) (h : Da G E X [a, b] f) (hs : starEach [a, b] X.env = [(false, eval a X.env), (false, eval b X.env)] := by rfl) (hs2 : starEach [b] X.env = [(false, eval b X.env)] := by rfl) :
    DI G E X m tg (.Call (.Name "range" p) [a, b] [] pos) (dRng P.range2 f) := by
  obtain ⟨t, h1, h2⟩ := h
  refine ⟨_, pi_range2 hg hm h1 hs hs2, fun B δ σ H0 H s => at_bind (t := t σ H) (k := fun vs H1 R => ∃ i j : Int, vs = [.int i, .int j] ∧ (-(2 ^ 62) ≤ i ∧ i < 2 ^ 62 ∧ -(2 ^ 62) ≤ j ∧ j < 2 ^ 62) ∧ R (Itr i (j - i).toNat) H1) mI (h2 B δ σ H0 H s) fun x v H1 H1' w rx => ?_⟩
  unfold P.range2
  split
  · split
    · rename_i n k hl
      cases rx with
      | cons r1 r2 =>
        cases r2 with
        | cons r3 r4 =>
          cases r4; cases r1; cases r3
          exact fun Q q => ⟨_, _, rfl, by unfold LIM at hl; omega, q _ H1 H1' (.refl w.b) ⟨fun _ => True, wk_range, fun _ _ _ => True.intro⟩⟩
    · exact True.intro
  · exact True.intro
/-- zip of two lists, of two tuples -/
def P.zip : List D → R (List D)
  | [.list xs, .list ys] => .ok (pairs xs ys)
  | [.tuple xs, .tuple ys] => .ok (pairs xs ys)
  | _ => .bad
theorem di_zip {f} {elts : List Expr} {kk : Nat} {tpos : Pos} (hg : Gl X "zip") (hm : X.mg "zip" = none) (h : Da G E X [a, b] f) (hs : starEach [a, b] X.env = (false, eval a X.env) :: starEach [b] X.env := by rfl) (hpl : (backTo pos (starEach [b] X.env)).any (·.1) = false := by rfl) :
    DI G E X m (.Tuple elts kk tpos) (.Call (.Name "zip" p) [a, b] [] pos) (dRng P.zip f) := by
  obtain ⟨t, h1, h2⟩ := h
  refine ⟨_, RZ.pi_zipA hg hm h1 hs hpl, fun B δ σ H0 H s => at_bind (t := t σ H) (k := fun vs H1 R => ∃ a b xs ys, vs = [.ref a, .ref b] ∧ ((SqL X.K H1 a xs ∧ SqL X.K H1 b ys ∧ R (Itz X.K a b) H1) ∨ (SqT X.K H1 a xs ∧ SqT X.K H1 b ys ∧ R (RZ.ItzT X.K a b) H1))) mI (h2 B δ σ H0 H s) fun x v H1 H1' w rx => ?_⟩
  have e := w.b
  unfold P.zip
  split
  · cases rx with
    | cons r1 r2 =>
      cases r2 with
      | cons r3 r4 =>
        cases r4
        cases r1 with
        | lst g1 q1 =>
          cases r3 with
          | lst g2 q2 =>
            exact fun Q q => ⟨_, _, _, _, rfl, .inl ⟨SqL.of (e _ _ g1), SqL.of (e _ _ g2), q _ H1 H1' (.refl e) ⟨fun H' => SqL X.K H' _ _ ∧ SqL X.K H' _ _, wk_zipL q1 q2 fun _ k => k, fun H'' e2 _ => ⟨SqL.of (e2 _ _ g1), SqL.of (e2 _ _ g2)⟩⟩⟩⟩
  · cases rx with
    | cons r1 r2 =>
      cases r2 with
      | cons r3 r4 =>
        cases r4
        cases r1 with
        | tup g1 q1 =>
          cases r3 with
          | tup g2 q2 =>
            exact fun Q q => ⟨_, _, _, _, rfl, .inr ⟨same_t e g1, same_t e g2, q _ H1 H1' (.refl e) ⟨fun H' => SqT X.K H' _ _ ∧ SqT X.K H' _ _, wk_zipT q1 q2 fun _ k => k, fun H'' e2 _ => ⟨same_t e2 g1, same_t e2 g2⟩⟩⟩⟩
  · exact True.intro
end

/-! ### slots stored, forgotten -/
theorem Sl.set {K : PySem.W.Frag} {B H0 H : Hp} {σ : L2.St} {δ : DSt} {i : Nat} {v : V} {d : D} (s : Sl K B H0 H σ δ) (r : Rp K H0 v d) : Sl K B H0 H (σ.set i (some v)) (δ.set i (.dat d)) := by
  have key : ∀ (j : Nat) (w : SV), (δ.set i (.dat d))[j]? = some w → (j = i ∧ w = .dat d ∧ i < δ.length) ∨ (j ≠ i ∧ δ[j]? = some w) := fun j w h => by
    by_cases hj : j = i
    · subst hj
      by_cases hl : j < δ.length
      · rw [List.getElem?_set_self hl] at h
        exact .inl ⟨rfl, (Option.some.inj h).symm, hl⟩
      · rw [List.getElem?_eq_none (by simpa using hl)] at h
        cases h
    · rw [List.getElem?_set_ne (Ne.symm hj)] at h
      exact .inr ⟨hj, h⟩
  refine ⟨s.base, s.ex, by simp [s.len], fun j e h => ?_, fun j ds h => ?_, fun j k ds es p hjk h1 h2 h3 => ?_⟩
  · rcases key j _ h with ⟨rfl, e1, hl⟩ | ⟨hj, h⟩
    · cases e1
      exact ⟨v, List.getElem?_set_self (by rw [s.len]; exact hl), r⟩
    · obtain ⟨w, e1, r1⟩ := s.dat j e h
      exact ⟨w, by rw [List.getElem?_set_ne (Ne.symm hj)]; exact e1, r1⟩
  · rcases key j _ h with ⟨rfl, e1, hl⟩ | ⟨hj, h⟩
    · cases e1
    · obtain ⟨p, vs, e1, r1⟩ := s.own j ds h
      exact ⟨p, vs, by rw [List.getElem?_set_ne (Ne.symm hj)]; exact e1, r1⟩
  · rcases key j _ h1 with ⟨rfl, e1, hl⟩ | ⟨hj, h1⟩
    · cases e1
    · rcases key k _ h2 with ⟨rfl, e1, hl⟩ | ⟨hk, h2⟩
      · cases e1
      · rw [List.getElem?_set_ne (Ne.symm hj)] at h3
        rw [List.getElem?_set_ne (Ne.symm hk)]
        exact s.sep j k ds es p hjk h1 h2 h3
/-- a new list, owned from here on -/
theorem Sl.setN {K : PySem.W.Frag} {B H0 H : Hp} {σ : L2.St} {δ : DSt} {i : Nat} {p : Addr} {vs : List V} {ds : List D} (s : Sl K B H0 H σ δ) (h0 : H0 p = none) (hb : B p = none) (hp : H p = some (.lst vs)) (r : RpAll K H0 vs ds)
    (new : ∀ (j : Nat) (es : List D), δ[j]? = some (SV.own es) → σ[j]? ≠ some (some (V.ref p))) : Sl K B H0 H (σ.set i (some (.ref p))) (δ.set i (.own ds)) := by
  have key : ∀ (j : Nat) (w : SV), (δ.set i (.own ds))[j]? = some w → (j = i ∧ w = .own ds ∧ i < δ.length) ∨ (j ≠ i ∧ δ[j]? = some w) := fun j w h => by
    by_cases hj : j = i
    · subst hj
      by_cases hl : j < δ.length
      · rw [List.getElem?_set_self hl] at h
        exact .inl ⟨rfl, (Option.some.inj h).symm, hl⟩
      · rw [List.getElem?_eq_none (by simpa using hl)] at h
        cases h
    · rw [List.getElem?_set_ne (Ne.symm hj)] at h
      exact .inr ⟨hj, h⟩
  refine ⟨s.base, s.ex, by simp [s.len], fun j e h => ?_, fun j es h => ?_, fun j k d1 d2 q hjk h1 h2 h3 => ?_⟩
  rotate_right
  have h1' := h1
  rotate_left
  · rcases key j _ h with ⟨rfl, e1, hl⟩ | ⟨hj, h⟩
    · cases e1
    · obtain ⟨w, e1, r1⟩ := s.dat j e h
      exact ⟨w, by rw [List.getElem?_set_ne (Ne.symm hj)]; exact e1, r1⟩
  · rcases key j _ h with ⟨rfl, e1, hl⟩ | ⟨hj, h⟩
    · cases e1
      exact ⟨p, vs, List.getElem?_set_self (by rw [s.len]; exact hl), h0, hb, hp, r⟩
    · obtain ⟨q, ws, e1, r1⟩ := s.own j es h
      exact ⟨q, ws, by rw [List.getElem?_set_ne (Ne.symm hj)]; exact e1, r1⟩
  · rcases key j _ h1 with ⟨rfl, e1, hl⟩ | ⟨hj, h1⟩
    · rcases key k _ h2 with ⟨rfl, e2, hl2⟩ | ⟨hk, h2⟩
      · exact absurd rfl hjk
      · rw [List.getElem?_set_self (by rw [s.len]; exact hl)] at h3
        cases h3
        rw [List.getElem?_set_ne (Ne.symm hk)]
        exact new k _ h2
    · rcases key k _ h2 with ⟨rfl, e1, hl⟩ | ⟨hk, h2⟩
      · rw [List.getElem?_set_ne (Ne.symm hj)] at h3
        rw [List.getElem?_set_self (by rw [s.len]; exact hl)]
        intro z
        cases z
        exact new j d1 ((key j _ h1').elim (fun w => absurd w.1 hj) fun w => w.2) h3
      · rw [List.getElem?_set_ne (Ne.symm hj)] at h3
        rw [List.getElem?_set_ne (Ne.symm hk)]
        exact s.sep j k d1 d2 q hjk h1 h2 h3
theorem dat_no {d : D} : SV.dat d ≠ .no := by intro z; cases z
theorem own_no {d : List D} : SV.own d ≠ .no := by intro z; cases z
/-- slots forgotten: in the data, or also in the frame -/
def fgt (δ : DSt) : List Nat → DSt
  | [] => δ
  | v :: vs => (fgt δ vs).set v .no
theorem fgt_some {δ : DSt} {i : Nat} {w : SV} (hw : w ≠ .no) : ∀ {vs : List Nat}, (fgt δ vs)[i]? = some w → δ[i]? = some w ∧ i ∉ vs
  | [], h => ⟨h, by simp⟩
  | v :: vs, h => by
    unfold fgt at h
    by_cases hi : v = i
    · subst hi
      by_cases hv : v < (fgt δ vs).length
      · rw [List.getElem?_set_self hv] at h
        exact absurd (Option.some.inj h).symm hw
      · rw [List.getElem?_eq_none (by simpa using hv)] at h; cases h
    · rw [List.getElem?_set_ne hi] at h
      obtain ⟨h1, h2⟩ := fgt_some hw h
      exact ⟨h1, by simp only [List.mem_cons, not_or]; exact ⟨fun e => hi e.symm, h2⟩⟩
theorem fgt_len (δ : DSt) : ∀ vs : List Nat, (fgt δ vs).length = δ.length
  | [] => rfl
  | v :: vs => by unfold fgt; rw [List.length_set, fgt_len δ vs]
theorem wipe_out' {σ : L2.St} {i : Nat} : ∀ {vs : List Nat}, i ∉ vs → (wipe σ vs)[i]? = σ[i]?
  | [], _ => rfl
  | v :: vs, h => by
    simp only [List.mem_cons, not_or] at h
    unfold wipe
    rw [List.getElem?_set_ne (Ne.symm h.1), wipe_out' h.2]
theorem Sl.fgt {K : PySem.W.Frag} {B H0 H : Hp} {σ : L2.St} {δ : DSt} (s : Sl K B H0 H σ δ) (vs : List Nat) : Sl K B H0 H σ (fgt δ vs) := by
  refine ⟨s.base, s.ex, by rw [fgt_len]; exact s.len, fun i d h => ?_, fun i ds h => ?_, fun i j ds es p hij h1 h2 => ?_⟩
  · exact s.dat i d (fgt_some dat_no h).1
  · exact s.own i ds (fgt_some own_no h).1
  · exact s.sep i j ds es p hij (fgt_some own_no h1).1 (fgt_some own_no h2).1
theorem Sl.wipe {K : PySem.W.Frag} {B H0 H : Hp} {σ : L2.St} {δ : DSt} (s : Sl K B H0 H σ δ) (vs : List Nat) : Sl K B H0 H (wipe σ vs) (Dn.fgt δ vs) := by
  refine ⟨s.base, s.ex, by rw [fgt_len, wipe_length]; exact s.len, fun i d h => ?_, fun i ds h => ?_, fun i j ds es p hij h1 h2 h3 => ?_⟩
  · obtain ⟨a, b⟩ := fgt_some dat_no h
    obtain ⟨v, e, r⟩ := s.dat i d a
    exact ⟨v, by rw [wipe_out' b]; exact e, r⟩
  · obtain ⟨a, b⟩ := fgt_some own_no h
    obtain ⟨p, ws, e, r⟩ := s.own i ds a
    exact ⟨p, ws, by rw [wipe_out' b]; exact e, r⟩
  · obtain ⟨a, b⟩ := fgt_some own_no h1
    obtain ⟨c, d⟩ := fgt_some own_no h2
    rw [wipe_out' b] at h3
    rw [wipe_out' d]
    exact s.sep i j ds es p hij a c h3
theorem wipe_set {σ : L2.St} {i : Nat} {x : Option V} : ∀ {vs : List Nat}, i ∈ vs → L2.wipe (σ.set i x) vs = L2.wipe σ vs
  | [], h => by simp at h
  | v :: vs, h => by
    unfold L2.wipe
    by_cases hi : i ∈ vs
    · rw [wipe_set hi]
    · have e : i = v := by
        rcases List.mem_cons.mp h with e | e
        · exact e
        · exact absurd e hi
      subst e
      have q : ∀ (ws : List Nat), i ∉ ws → (L2.wipe (σ.set i x) ws) = (L2.wipe σ ws).set i x := fun ws => by
        induction ws with
        | nil => intro _; rfl
        | cons w ws ih =>
          intro hw
          simp only [List.mem_cons, not_or] at hw
          unfold L2.wipe
          rw [ih hw.2, List.set_comm _ _ hw.1]
      rw [q vs hi, List.set_set]
theorem wipe_wipe {σ : L2.St} : ∀ {vs ws : List Nat}, (∀ i ∈ vs, i ∈ ws) → L2.wipe (L2.wipe σ vs) ws = L2.wipe σ ws
  | [], _, _ => rfl
  | v :: vs, ws, h => by
    show L2.wipe ((L2.wipe σ vs).set v none) ws = L2.wipe σ ws
    rw [wipe_set (h v (by simp)), wipe_wipe fun i hi => h i (by simp [hi])]

/-! ### targets -/
abbrev TGd := D → DSt → Option DSt
def EvG (K : PySem.W.Frag) (vs : List Nat) (g : TG) (f : TGd) : Prop := ∀ B δ σ H0 H v d δ', Sl K B H0 H σ δ → Rp K H0 v d → f d δ = some δ' → ∀ Q : L2.St → Hp → Prop, (∀ σ', Sl K B H0 H σ' δ' → L2.wipe σ' vs = L2.wipe σ vs → Q σ' H) → g v σ H Q
def EvGs (K : PySem.W.Frag) (vs : List Nat) (g : TGs) (f : List D → DSt → Option DSt) : Prop := ∀ B δ σ H0 H ws ds δ', Sl K B H0 H σ δ → RpAll K H0 ws ds → f ds δ = some δ' → ∀ Q : L2.St → Hp → Prop, (∀ σ', Sl K B H0 H σ' δ' → L2.wipe σ' vs = L2.wipe σ vs → Q σ' H) → g ws σ H Q
def DG (X : Cx) (vs : List Nat) (tg : Expr) (f : TGd) : Prop := ∃ g, PG X tg g ∧ EvG X.K vs g f
def DGs (X : Cx) (vs : List Nat) (tgs : List Expr) (f : List D → DSt → Option DSt) : Prop := ∃ g, PGs X tgs g ∧ EvGs X.K vs g f
def gN (i : Nat) : TGd := fun d δ => some (δ.set i (.dat d))
def gsN : List D → DSt → Option DSt
  | [], δ => some δ
  | _ :: _, _ => none
def gsC (t : TGd) (u : List D → DSt → Option DSt) : List D → DSt → Option DSt
  | [], _ => none
  | d :: ds, δ => (t d δ).bind (u ds)
def gT (n : Nat) (u : List D → DSt → Option DSt) : TGd := fun d δ => match d with
  | .tuple ds => if ds.length = n then u ds δ else none
  | _ => none
section
variable {X : Cx} {pos : Pos} {vs : List Nat}
theorem dg_name (i : Nat) {x : Str} (hi' : i ∈ vs) (hN : X.N.Nodup) (hi : X.N[i]? = some x) (hx : Loc X.env.scope x) (hf : X.fn x = true ∨ X.env.scope.names.lookup x = some .local := by first | exact .inl rfl | exact .inr rfl | assumption) : DG X vs (.Name x pos) (gN i) :=
  ⟨_, pg_name hN hi hx hf, fun B δ σ H0 H v d δ' s r e Q q => by
    cases e
    exact q _ (s.set r) (wipe_set hi')⟩
theorem dgs_nil : DGs X vs [] gsN := ⟨_, pgs_nil, fun B δ σ H0 H ws ds δ' s r e Q q => by
  cases r with
  | nil => cases e; exact ⟨rfl, q _ s rfl⟩
  | cons _ _ => cases e⟩
theorem dgs_cons {e : Expr} {es : List Expr} {t : TGd} {u} (h : DG X vs e t) (k : DGs X vs es u) (hs : (assignEach (e :: es) X.env).map (·.2) = assign e X.env :: (assignEach es X.env).map (·.2) := by rfl) : DGs X vs (e :: es) (gsC t u) := by
  obtain ⟨g, h1, h2⟩ := h
  obtain ⟨g', k1, k2⟩ := k
  refine ⟨_, pgs_cons h1 k1 hs, fun B δ σ H0 H ws ds δ' s r e Q q => ?_⟩
  cases r with
  | nil => cases e
  | cons r1 r2 =>
    rename_i v vr d dr
    have e : (t d δ).bind (u dr) = some δ' := e
    cases ht : t d δ with
    | none => rw [ht] at e; cases e
    | some δ1 =>
      rw [ht] at e
      refine ⟨_, _, rfl, h2 B δ σ H0 H _ _ _ s r1 ht _ fun σ1 s1 w1 => k2 B δ1 σ1 H0 H _ _ _ s1 r2 e _ fun σ2 s2 w2 => q σ2 s2 (w2.trans w1)⟩
theorem dg_tup {es : List Expr} {k n : Nat} {u} (hc : X.calm = true) (h : DGs X vs es u) (hn : (assignEach es X.env).length = n := by rfl) (hst : (assignEach es X.env).findIdx? (·.1) = none := by rfl) : DG X vs (.Tuple es k pos) (gT n u) := by
  obtain ⟨g, h1, h2⟩ := h
  refine ⟨_, pg_tup hc h1 hn hst, fun B δ σ H0 H v d δ' s r e Q q => ?_⟩
  cases d with
  | tuple ds =>
    have e : (if ds.length = n then u ds δ else none) = some δ' := e
    by_cases hl : ds.length = n
    · rw [if_pos hl] at e
      cases r with
      | tup hq rr => exact ⟨_, _, rfl, same_t s.ex hq, by rw [rr.length]; exact hl, h2 B δ σ H0 H _ _ _ s rr e Q q⟩
    · rw [if_neg hl] at e
      cases e
  | _ => cases e
end

/-! ### list comprehensions -/
def lcGo (tg : TGd) (c : DSt → R Bool) (f : DSt → R D) (δ : DSt) : List D → R (List D)
  | [] => .ok []
  | x :: xs => match tg x δ with
    | none => .bad
    | some δ' => (c δ').bind fun b => if b then (f δ').bind fun y => (lcGo tg c f δ xs).bind fun ys => .ok (y :: ys) else lcGo tg c f δ xs
def dLc (src : DSt → R (List D)) (tg : TGd) (c : DSt → R Bool) (f : DSt → R D) (vs : List Nat) : DSt → R (List D) := fun δ => (src δ).bind fun ds => if ds.length ≤ LIM then lcGo tg c f (fgt δ vs) ds else .bad
def DTs (G : Str → Addr) (E : XK) (X : Cx) (ifs : List Expr) (f : DSt → R Bool) : Prop := ∃ t, PTs X ifs t ∧ Ev X.K G E rB t f
def dYes : DSt → R Bool := fun _ => .ok true
theorem lcGo_len {tg c f δ} : ∀ {ds ys}, lcGo tg c f δ ds = .ok ys → ys.length ≤ ds.length
  | [], ys, h => by cases h; exact Nat.le_refl _
  | x :: xs, ys, h => by
    unfold lcGo at h
    cases ht : tg x δ with
    | none => rw [ht] at h; cases h
    | some δ' =>
      rw [ht] at h
      simp only at h
      cases hc : c δ' with
      | bad => rw [hc] at h; cases h
      | er _ => rw [hc] at h; cases h
      | ok b =>
        rw [hc] at h
        cases b with
        | true =>
          simp only [R.bind_ok, if_true] at h
          cases hf : f δ' with
          | bad => rw [hf] at h; cases h
          | er _ => rw [hf] at h; cases h
          | ok y =>
            rw [hf] at h
            cases hr : lcGo tg c f δ xs with
            | bad => rw [hr] at h; cases h
            | er _ => rw [hr] at h; cases h
            | ok r =>
              rw [hr] at h
              cases h
              have := lcGo_len hr
              simp only [List.length_cons]
              omega
        | false =>
          simp only [R.bind_ok] at h
          have := lcGo_len (ds := xs) (ys := ys) (by simpa using h)
          simp only [List.length_cons]
          omega
theorem lcGo_cons {tg c f δ x xs} : lcGo tg c f δ (x :: xs) = (match tg x δ with
    | none => .bad
    | some δ' => (c δ').bind fun b => if b then (f δ').bind fun y => (lcGo tg c f δ xs).bind fun ys => .ok (y :: ys) else lcGo tg c f δ xs) := rfl
/-- what is left of the loop, what is made so far -/
def lcRest (tg : TGd) (c : DSt → R Bool) (f : DSt → R D) (δ : DSt) (ys ds : List D) : R (List D) := (lcGo tg c f δ ds).bind fun r => .ok (ys ++ r)
theorem ev_lc {K : PySem.W.Frag} {G : Str → Addr} {E : XK} {m : Bool} {wi : TI} {g : TG} {tt : TT} {te : TE} {vs : List Nat} {src tg c f} (hi : Ev K G E (rI K m) wi src) (hg : EvG K vs g tg) (ht : Ev K G E rB tt c) (he : Ev K G E (rV K) te f) :
    Ev K G E (rN K) (tLc wi g tt te vs) (dLc src tg c f vs) := by
  refine fun B δ σ H0 H s => at_bind (t := wi σ H) (k := fun J H1 Q => ∀ D, H1 D = none → ∃ W : Nat → Nat → Hp → Prop, (∃ m, W 0 m (upd H1 D (.lst []))) ∧ ∀ i m H, W i m H →
    (J.stop i H ∧ Q (.ref D) H) ∨ (J.go i H ∧ ∃ Nx : Hp → Prop, (∀ H', Nx H' → ∃ m', m' < m ∧ W (i + 1) m' H') ∧ ∀ x H', J.yld i H x H' → g x (L2.wipe σ vs) H' fun σ2 H2 => L2.wipe σ2 vs = L2.wipe σ vs ∧ tt σ2 H2 fun b H3 =>
      if b = true then te σ2 H3 fun y H4 => ∃ acc, H4 D = some (.lst acc) ∧ acc.length < sizeLine ∧ Nx (upd H4 D (.lst (acc ++ [y]))) else Nx H3)) mN (hi B δ σ H0 H s) fun ds J H1 H1' u1 ⟨Kp, W, keep⟩ => ?_
  have s1 : Sl K B H1 H1' (L2.wipe σ vs) (Dn.fgt δ vs) := (s.up u1).wipe vs
  split
  · rename_i hlim
    generalize hδ : Dn.fgt δ vs = δw at s1
    -- the turns, for any end
    have turns : ∀ (Q : V → Hp → Prop) (Dl : Addr), H1' Dl = none → lcGo tg c f δw ds ≠ .bad →
        (∀ ys, lcGo tg c f δw ds = .ok ys → ∀ H0' H' acc, Up H1 H1' H0' H' → H0' Dl = none → H' Dl = some (.lst acc) → RpAll K H0' acc ys → Q (.ref Dl) H') →
        (∀ x, lcGo tg c f δw ds = .er x → ∀ cc dd H0' H', Up H1 H1' H0' H' → XR K G H0' H' cc dd x → E cc dd H') →
        ∃ W : Nat → Nat → Hp → Prop, (∃ m, W 0 m (upd H1' Dl (.lst []))) ∧ ∀ i m H, W i m H →
          (J.stop i H ∧ Q (.ref Dl) H) ∨ (J.go i H ∧ ∃ Nx : Hp → Prop, (∀ H', Nx H' → ∃ m', m' < m ∧ W (i + 1) m' H') ∧ ∀ x H', J.yld i H x H' → g x (L2.wipe σ vs) H' fun σ2 H2 => L2.wipe σ2 vs = L2.wipe σ vs ∧ tt σ2 H2 fun b H3 =>
            if b = true then te σ2 H3 fun y H4 => ∃ acc, H4 Dl = some (.lst acc) ∧ acc.length < sizeLine ∧ Nx (upd H4 Dl (.lst (acc ++ [y]))) else Nx H3) := by
      intro Q Dl hD nb fin ex
      refine ⟨fun i m H' => m = ds.length - i ∧ i ≤ ds.length ∧ ∃ H0' acc ys, Up H1 H1' H0' H' ∧ H0' Dl = none ∧ H' Dl = some (.lst acc) ∧ RpAll K H0' acc ys ∧ ys.length ≤ i ∧ lcRest tg c f δw ys (ds.drop i) = lcGo tg c f δw ds,
        ⟨ds.length, by simp, Nat.zero_le _, H1, [], [], .own u1.b hD, u1.b.free hD, upd_same, .nil, Nat.le_refl _, ?_⟩, ?_⟩
      · unfold lcRest
        rw [List.drop_zero]
        cases lcGo tg c f δw ds <;> rfl
      rintro i m H' ⟨rfl, hle, H0', acc, ys, up, h0, hacc, racc, hly, hres⟩
      have kp : Kp H' := keep H' (up.a.trans up.b) fun _ => up.c
      by_cases hlt : i < ds.length
      · obtain ⟨d, hd⟩ : ∃ d, ds[i]? = some d := ⟨ds[i], List.getElem?_eq_getElem hlt⟩
        have hdrop : ds.drop i = d :: ds.drop (i + 1) := by
          rw [List.drop_eq_getElem_cons hlt]
          congr 1
          rw [List.getElem?_eq_getElem hlt] at hd
          exact Option.some.inj hd
        refine .inr ⟨W.go i d H' kp hd, fun H'' => ∃ H0'' acc' ys', Up H1 H1' H0'' H'' ∧ H0'' Dl = none ∧ H'' Dl = some (.lst acc') ∧ RpAll K H0'' acc' ys' ∧ ys'.length ≤ i + 1 ∧ lcRest tg c f δw ys' (ds.drop (i + 1)) = lcGo tg c f δw ds,
          fun H'' n => ⟨ds.length - (i + 1), by omega, rfl, hlt, n⟩, fun x H3 hy => ?_⟩
        obtain ⟨H03, u3, rx⟩ := W.yld i d H0' H' x H3 kp up.a up.b hd hy
        have up3 := up.trans u3
        have nD : H' Dl ≠ none := by rw [hacc]; exact fun z => nomatch z
        have h03 : H03 Dl = none := u3.d _ nD h0
        have hacc3 : H3 Dl = some (.lst acc) := u3.c _ _ hacc
        have racc3 := RpAll.mono u3.a racc
        have s3 : Sl K B H03 H3 (L2.wipe σ vs) δw := s1.up up3
        rw [hdrop] at hres
        unfold lcRest at hres
        rw [lcGo_cons] at hres
        cases htg : tg d δw with
        | none => rw [htg] at hres; exact absurd hres.symm nb
        | some δ' =>
          rw [htg] at hres
          simp only at hres
          refine hg B δw (L2.wipe σ vs) H03 H3 x d δ' s3 rx htg _ fun σ2 s2 w2 => ⟨w2.trans (wipe_wipe fun _ h => h), ?_⟩
          have zt := ht B δ' σ2 H03 H3 s2
          cases hc : c δ' with
          | bad => rw [hc] at hres; exact absurd hres.symm nb
          | er xx =>
            rw [hc] at zt hres
            exact zt _ fun cc dd H0a Ha ua xa => ex xx (hres.symm.trans rfl) cc dd H0a Ha (up3.trans ua) xa
          | ok b =>
            rw [hc] at zt hres
            refine zt _ fun b' H04 H4 u4 eb => ?_
            cases (show b' = b from eb)
            have up4 := up3.trans u4
            have h04 : H04 Dl = none := u4.d _ (by rw [hacc3]; exact fun z => nomatch z) h03
            have hacc4 : H4 Dl = some (.lst acc) := u4.c _ _ hacc3
            cases b with
            | false =>
              show ∃ H0'' acc' ys', Up H1 H1' H0'' H4 ∧ _
              exact ⟨H04, acc, ys, up4, h04, hacc4, RpAll.mono u4.a racc3, by omega, by simpa [lcRest] using hres⟩
            | true =>
              show te σ2 H4 _
              have ze := he B δ' σ2 H04 H4 (s2.up u4)
              simp only [R.bind_ok, if_true] at hres
              cases hf : f δ' with
              | bad => rw [hf] at hres; exact absurd hres.symm nb
              | er xx =>
                rw [hf] at ze hres
                exact ze _ fun cc dd H0a Ha ua xa => ex xx (hres.symm.trans rfl) cc dd H0a Ha (up4.trans ua) xa
              | ok y =>
                rw [hf] at ze hres
                refine ze _ fun yv H05 H5 u5 ry => ?_
                have up5 := up4.trans u5
                have h05 : H05 Dl = none := u5.d _ (by rw [hacc4]; exact fun z => nomatch z) h04
                have hacc5 : H5 Dl = some (.lst acc) := u5.c _ _ hacc4
                have racc5 := RpAll.mono (K := K) u5.a (RpAll.mono u4.a racc3)
                refine ⟨acc, hacc5, lim_lt ?_, H05, acc ++ [yv], ys ++ [y], ⟨up5.a, fun q o hq => ?_, fun q o hq => ?_, fun q n1 n2 => up5.d q n1 n2⟩, h05, upd_same, racc5.append (.cons ry .nil), by simp; omega, ?_⟩
                · rw [racc.length]; unfold LIM at *; omega
                · rw [upd_ne (ne_of_none hq h05)]; exact up5.b _ _ hq
                · rw [upd_ne (ne_of_none hq hD)]; exact up5.c _ _ hq
                · simp only [R.bind_ok] at hres
                  rw [← hres]
                  unfold lcRest
                  cases lcGo tg c f δw (ds.drop (i + 1)) with
                  | bad => rfl
                  | er _ => rfl
                  | ok r => simp
      · have hi : i = ds.length := by omega
        subst hi
        refine .inl ⟨W.stop H' kp, ?_⟩
        rw [List.drop_eq_nil_of_le (Nat.le_refl _)] at hres
        have hres : R.ok (ys ++ []) = lcGo tg c f δw ds := hres
        rw [List.append_nil] at hres
        exact fin ys hres.symm H0' H' acc up h0 hacc racc
    cases hr : lcGo tg c f δw ds with
    | bad => exact True.intro
    | er x =>
      intro Q hq Dl hD
      refine turns Q Dl hD (by rw [hr]; exact fun z => nomatch z) (fun ys z => by rw [hr] at z; cases z) fun x' z cc dd H0' H' ua xa => ?_
      rw [hr] at z
      cases z
      exact hq cc dd H0' H' ua xa
    | ok ys =>
      intro Q hq Dl hD
      refine turns Q Dl hD (by rw [hr]; exact fun z => nomatch z) (fun ys' z H0' H' acc ua h0 hacc r => ?_) fun x' z => by rw [hr] at z; cases z
      rw [hr] at z
      cases z
      exact hq _ H0' H' ua ⟨Dl, acc, rfl, hD, h0, hacc, r⟩
  · exact True.intro
section
variable {G : Str → Addr} {E : XK} {X : Cx} {m : Bool}
theorem dts_nil : DTs G E X [] dYes := ⟨_, pts_nil, fun B δ σ H0 H s Q q => q true H0 H (.refl s.ex) rfl⟩
theorem dts_one {c : Expr} {f} (h : Dt G E X c f) : DTs G E X [c] f := by
  obtain ⟨t, h1, h2⟩ := h
  exact ⟨_, pts_one h1, h2⟩
end
end Dn

namespace Dn
open PySem PySem.Spec PyProof.Rows L2

/-! ### the least reading of what is computed -/
def tCan (K : PySem.W.Frag) (G : Str → Addr) (E : XK) {β α : Type} (rel : Rel β α) (f : DSt → R α) : L2.St → Hp → (β → Hp → Prop) → Prop := fun σ H Q =>
  ∃ B δ H0, Sl K B H0 H σ δ ∧ f δ ≠ .bad ∧ (∀ a, f δ = .ok a → ∀ b H0' H', Up H0 H H0' H' → rel H H0' H' b a → Q b H') ∧ (∀ x, f δ = .er x → ∀ c dd H0' H', Up H0 H H0' H' → XR K G H0' H' c dd x → E c dd H')
section
variable {K : PySem.W.Frag} {G : Str → Addr} {E : XK}
theorem ev_can {β α : Type} {rel : Rel β α} {f : DSt → R α} : Ev K G E rel (tCan K G E rel f) f := fun B δ σ H0 H s => by
  cases q : f δ with
  | bad => exact True.intro
  | er x => exact fun Q h => ⟨B, δ, H0, s, by rw [q]; exact (fun z => nomatch z), (fun a z => by rw [q] at z; cases z), fun y z => by rw [q] at z; cases z; exact h⟩
  | ok a => exact fun Q h => ⟨B, δ, H0, s, by rw [q]; exact (fun z => nomatch z), (fun b z => by rw [q] at z; cases z; exact h), fun y z => by rw [q] at z; cases z⟩
theorem can_le {β α : Type} {rel : Rel β α} {f : DSt → R α} {t} (h : Ev K G E rel t f) {σ H Q} (c : tCan K G E rel f σ H Q) : t σ H Q := by
  obtain ⟨B, δ, H0, s, nb, h1, h2⟩ := c
  have z := h B δ σ H0 H s
  cases q : f δ with
  | bad => exact absurd q nb
  | er x => rw [q] at z; exact z Q (h2 x q)
  | ok a => rw [q] at z; exact z Q (h1 a q)
end
section
variable {G : Str → Addr} {E : XK} {X : Cx} {e : Expr}
theorem De.can {f} (h : De G E X e f) : PE X e (tCan X.K G E (rV X.K) f) := by
  obtain ⟨t, h1, h2⟩ := h
  exact ⟨fun pins s σ H Q I c => h1.run pins s σ H Q I (can_le h2 c)⟩
theorem DTs.can {es f} (h : DTs G E X es f) : PTs X es (tCan X.K G E rB f) := by
  obtain ⟨t, h1, h2⟩ := h
  exact ⟨fun pins s σ H Q I c => h1.run pins s σ H Q I (can_le h2 c)⟩
def gCan (K : PySem.W.Frag) (vs : List Nat) (f : TGd) : TG := fun v σ H Q => ∃ B δ H0 d δ', Sl K B H0 H σ δ ∧ Rp K H0 v d ∧ f d δ = some δ' ∧ ∀ σ', Sl K B H0 H σ' δ' → L2.wipe σ' vs = L2.wipe σ vs → Q σ' H
theorem evg_can {K vs f} : EvG K vs (gCan K vs f) f := fun B δ σ H0 H v d δ' s r e Q q => ⟨B, δ, H0, d, δ', s, r, e, q⟩
theorem DG.can {vs f} (h : DG X vs e f) : PG X e (gCan X.K vs f) := by
  obtain ⟨g, h1, h2⟩ := h
  exact ⟨fun pins s σ H v u Q I r c => by
    obtain ⟨B, δ, H0, d, δ', s', r', e', q⟩ := c
    exact h1.run pins s σ H v u Q I r (h2 B δ σ H0 H v d δ' s' r' e' Q q)⟩
def R.noer {α : Type} : R α → R α
  | .ok a => .ok a
  | _ => .bad
@[simp] theorem R.noer_ok {α : Type} (a : α) : R.noer (.ok a) = .ok a := rfl
theorem ev_noer {K : PySem.W.Frag} {β α : Type} {rel : Rel β α} {f : DSt → R α} {t} (h : Ev K G E0 rel t f) : Ev K G E rel t fun δ => (f δ).noer := fun B δ σ H0 H s => by
  have z := h B δ σ H0 H s
  show At K G E rel H0 H (t σ H) (f δ).noer
  cases q : f δ with
  | bad => exact True.intro
  | er x => exact True.intro
  | ok a => rw [q] at z; exact z
/-- [elt for tg in iter if ..] -/
theorem dn_lc {elt tg iter : Expr} {ifs : List Expr} {scope : Scope} {own : List (Str × Nat)} {pos : Pos} {src tgf c f} {m : Bool} (hc : X.calm = true) (hN : X.N.Nodup) (hi : DI G E X m tg iter src) (ok : BlkOk X.N X.env.scope scope own)
    (hg : ∀ (s : Shared) (H : Hp) (C : Addr) (cl : List (Str × Addr)) (fp : List Addr), DG (X.blk s H scope (compEnvC scope cl C X.env) fp) (own.map (·.2)) tg tgf)
    (ht : ∀ (s : Shared) (H : Hp) (C : Addr) (cl : List (Str × Addr)) (fp : List Addr), DTs G E0 (X.blk s H scope (compEnvC scope cl C X.env) fp) ifs c)
    (he : ∀ (s : Shared) (H : Hp) (C : Addr) (cl : List (Str × Addr)) (fp : List Addr), De G E0 (X.blk s H scope (compEnvC scope cl C X.env) fp) elt f) (hs : ∀ x, foldedSetIterable iter X.env x = pure x := by intro _; rfl) :
    DN G E X (.ListComp elt [⟨tg, iter, ifs, 0⟩] scope pos) (dLc src tgf (fun δ => (c δ).noer) (fun δ => (f δ).noer) (own.map (·.2))) := by
  obtain ⟨wi, h1, h2⟩ := hi
  exact ⟨_, pe_lc hc hN h1 ok (fun s H C cl fp => (hg s H C cl fp).can) (fun s H C cl fp => (ht s H C cl fp).can) (fun s H C cl fp => (he s H C cl fp).can) hs, ev_lc h2 evg_can (ev_noer ev_can) (ev_noer ev_can)⟩
end

/-! ### statements -/
inductive Out where
  | nx (δ : DSt)
  | rt (d : D)
  | bk (δ : DSt)
  | ct (δ : DSt)
/-- a statement was run; B: what the caller knew -/
structure Us (B H0 H0' H' : Hp) : Prop where
  a : Same H0 H0'
  b : Same H0' H'
  c : Same B H'
  d : ∀ p, B p ≠ none → H0 p = none → H0' p = none
theorem Us.refl {B H0 H : Hp} (e : Same H0 H) (e2 : Same B H) : Us B H0 H0 H := ⟨.refl _, e, e2, fun _ _ h => h⟩
theorem Us.trans {B H0 H1 H1' H2 H2' : Hp} (x : Us B H0 H1 H1') (y : Us B H1 H2 H2') : Us B H0 H2 H2' := ⟨x.a.trans y.a, y.b, y.c, fun p h1 h2 => y.d p h1 (x.d p h1 h2)⟩
theorem Up.us {B H0 H H0' H' : Hp} (u : Up H0 H H0' H') (e : Same B H) : Us B H0 H0' H' := ⟨u.a, u.b, e.trans u.c, fun p h1 h2 => u.d p (Same.ne e h1) h2⟩

section
variable (K : PySem.W.Frag) (G : Str → Addr) (E : XK)
def EndOk (B H0 : Hp) (D : Ends) : Out → Prop
  | .nx δ' => ∀ σ' H0' H', Us B H0 H0' H' → Sl K B H0' H' σ' δ' → D.nx σ' H'
  | .rt d => ∀ v H0' H', Us B H0 H0' H' → Rp K H0' v d → D.rt v H'
  | .bk δ' => ∀ σ' H0' H', Us B H0 H0' H' → Sl K B H0' H' σ' δ' → D.bk σ' H'
  | .ct δ' => ∀ σ' H0' H', Us B H0 H0' H' → Sl K B H0' H' σ' δ' → D.ct σ' H'
def SAt (B H0 H : Hp) (T : Ends → Prop) (r : R Out) : Prop := match r with
  | .bad => True
  | .er x => ∀ D : Ends, (∀ c dd H0' H', Us B H0 H0' H' → XR K G H0' H' c dd x → E c dd H') → T D
  | .ok o => ∀ D : Ends, EndOk K B H0 D o → T D
def Sd (t : TS) (b : DSt → R Out) : Prop := ∀ B δ σ H0 H, Sl K B H0 H σ δ → SAt K G E B H0 H (fun D => t D σ H) (b δ)
end
section
variable {K : PySem.W.Frag} {G : Str → Addr} {E : XK}
theorem EndOk.up {B H0 H1 H1' : Hp} {D : Ends} {o : Out} (u : Us B H0 H1 H1') (h : EndOk K B H0 D o) : EndOk K B H1 D o := by
  cases o with
  | nx δ => exact fun σ' H0' H' u2 s => h σ' H0' H' (u.trans u2) s
  | rt d => exact fun v H0' H' u2 r => h v H0' H' (u.trans u2) r
  | bk δ => exact fun σ' H0' H' u2 s => h σ' H0' H' (u.trans u2) s
  | ct δ => exact fun σ' H0' H' u2 s => h σ' H0' H' (u.trans u2) s
theorem SAt.imp {B H0 H : Hp} {T T' : Ends → Prop} {r : R Out} (h : SAt K G E B H0 H T r) (w : ∀ D, T D → T' D) : SAt K G E B H0 H T' r := by
  cases r with
  | bad => exact True.intro
  | er x => exact fun D q => w D (h D q)
  | ok a => exact fun D q => w D (h D q)
/-- an expression's value, then a statement's rest -/
theorem sat_bind {β α : Type} {rel : Rel β α} {B H0 H : Hp} {t : (β → Hp → Prop) → Prop} {k : β → Hp → Ends → Prop} {r : R α} {g : α → R Out} (eB : Same B H) (h : At K G E rel H0 H t r)
    (hk : ∀ a b H0' H', Up H0 H H0' H' → rel H H0' H' b a → SAt K G E B H0' H' (k b H') (g a)) : SAt K G E B H0 H (fun D => t fun b H1 => k b H1 D) (r.bind g) := by
  cases r with
  | bad => exact True.intro
  | er x => exact fun D hq => h _ fun c dd H0' H' u x2 => hq c dd H0' H' (u.us eB) x2
  | ok a =>
    show SAt K G E B H0 H _ (g a)
    cases e : g a with
    | bad => exact True.intro
    | er x =>
      refine fun D hq => h _ fun b H0' H' u rb => ?_
      have z := hk a b H0' H' u rb
      rw [e] at z
      exact z D fun c dd H0'' H'' u2 x2 => hq c dd H0'' H'' ((u.us eB).trans u2) x2
    | ok o =>
      refine fun D hq => h _ fun b H0' H' u rb => ?_
      have z := hk a b H0' H' u rb
      rw [e] at z
      exact z D (hq.up (u.us eB))
def dSeq (f g : DSt → R Out) : DSt → R Out := fun δ => (f δ).bind fun o => match o with
  | .nx δ' => g δ'
  | o => .ok o
theorem sd_seq {t u : TS} {f g} (h : Sd K G E t f) (k : Sd K G E u g) : Sd K G E (tSeq t u) (dSeq f g) := by
  intro B δ σ H0 H s
  have z := h B δ σ H0 H s
  unfold dSeq
  cases e : f δ with
  | bad => exact True.intro
  | er x => rw [e] at z; exact fun D q => z { D with nx := u D } q
  | ok o =>
    rw [e] at z
    cases o with
    | rt d => exact fun D q => z { D with nx := u D } q
    | bk δ => exact fun D q => z { D with nx := u D } q
    | ct δ => exact fun D q => z { D with nx := u D } q
    | nx δ' =>
      show SAt K G E B H0 H _ (g δ')
      cases e2 : g δ' with
      | bad => exact True.intro
      | er x =>
        refine fun D q => z { D with nx := u D } fun σ' H0' H' u1 s1 => ?_
        have y := k B δ' σ' H0' H' s1
        rw [e2] at y
        exact y D fun c dd H0'' H'' u2 x2 => q c dd H0'' H'' (u1.trans u2) x2
      | ok o =>
        refine fun D q => z { D with nx := u D } fun σ' H0' H' u1 s1 => ?_
        have y := k B δ' σ' H0' H' s1
        rw [e2] at y
        exact y D (q.up u1)
end
section
variable (G : Str → Addr) (E : XK) (X : Cx)
def Ds (st : Stmt) (b : DSt → R Out) : Prop := ∃ t, PS X st t ∧ Sd X.K G E t b
def Dss (sts : List Stmt) (b : DSt → R Out) : Prop := ∃ t, PSs X sts t ∧ Sd X.K G E t b
end
section
variable {G : Str → Addr} {E : XK} {X : Cx} {pos p p2 : Pos} {st : Stmt} {sts ss : List Stmt} {e a b : Expr}
def dNext : DSt → R Out := fun δ => .ok (.nx δ)
def dBrk : DSt → R Out := fun δ => .ok (.bk δ)
def dCnt : DSt → R Out := fun δ => .ok (.ct δ)
theorem Sl.us {K B H0 H σ δ} (s : Sl K B H0 H σ δ) : Us B H0 H0 H := .refl s.ex s.base
theorem dss_nil : Dss G E X [] dNext := ⟨_, pss_nil, fun B δ σ H0 H s D q => q σ H0 H s.us s⟩
theorem dss_one {f} (h : Ds G E X st f) : Dss G E X [st] f := by
  obtain ⟨t, h1, h2⟩ := h
  exact ⟨_, pss_one h1, h2⟩
theorem dss_cons {f g} (h : Ds G E X st f) (k : Dss G E X sts g) : Dss G E X (st :: sts) (dSeq f g) := by
  obtain ⟨t, h1, h2⟩ := h
  obtain ⟨u, k1, k2⟩ := k
  exact ⟨_, pss_cons h1 k1, sd_seq h2 k2⟩
theorem ds_pass : Ds G E X (.Pass pos) dNext := ⟨_, ps_pass, fun B δ σ H0 H s D q => q σ H0 H s.us s⟩
theorem ds_break : Ds G E X (.Break pos) dBrk := ⟨_, ps_break, fun B δ σ H0 H s D q => q σ H0 H s.us s⟩
theorem ds_continue : Ds G E X (.Continue pos) dCnt := ⟨_, ps_continue, fun B δ σ H0 H s D q => q σ H0 H s.us s⟩
/-- return e -/
def dRet (f : DSt → R D) : DSt → R Out := fun δ => (f δ).bind fun d => .ok (.rt d)
theorem ds_ret {f} (h : De G E X e f) : Ds G E X (.Return (some e) pos) (dRet f) := by
  obtain ⟨t, h1, h2⟩ := h
  exact ⟨_, ps_ret h1, fun B δ σ H0 H s => sat_bind (t := t σ H) (k := fun v H1 D => D.rt v H1) s.base (h2 B δ σ H0 H s) fun d v H1 H1' u r D q => q v H1 H1' (.refl u.b (s.base.trans u.c)) r⟩
/-- name = e -/
def dSet (i : Nat) (f : DSt → R D) : DSt → R Out := fun δ => (f δ).bind fun d => .ok (.nx (δ.set i (.dat d)))
theorem ds_set {i : Nat} {x : Str} {f} (hN : X.N.Nodup) (hi : X.N[i]? = some x) (hx : Loc X.env.scope x) (h : De G E X e f) (hs : swapsWith e (some (.Name x p)) pos.line X.env = pure false := by rfl) (hf : X.fn x = true ∨ X.env.scope.names.lookup x = some .local := by first | exact .inl rfl | exact .inr rfl | assumption) :
    Ds G E X (.Assign [.Name x p] e pos) (dSet i f) := by
  obtain ⟨t, h1, h2⟩ := h
  exact ⟨_, ps_set hN hi hx h1 hs hf, fun B δ σ H0 H s => sat_bind (t := t σ H) (k := fun v H1 D => D.nx (σ.set i (some v)) H1) s.base (h2 B δ σ H0 H s) fun d v H1 H1' u r D q => q _ H1 H1' (.refl u.b (s.base.trans u.c)) ((s.up u).set r)⟩
/-- name = a new list -/
def dSetN (i : Nat) (f : DSt → R (List D)) : DSt → R Out := fun δ => (f δ).bind fun d => .ok (.nx (δ.set i (.own d)))
theorem sl_setN {K : PySem.W.Frag} {B H0 H H1 H1' : Hp} {σ : L2.St} {δ : DSt} {i : Nat} {v : V} {ds : List D} (s : Sl K B H0 H σ δ) (u : Up H0 H H1 H1') (r : rN K H H1 H1' v ds) : Sl K B H1 H1' (σ.set i (some v)) (δ.set i (.own ds)) := by
  obtain ⟨q, vs, rfl, hs, h0, hp, rr⟩ := r
  refine (s.up u).setN h0 ?_ hp rr fun j es h z => ?_
  · exact Same.free s.base hs
  · obtain ⟨q', ws, e1, h1, h2, h3, _⟩ := s.own j es h
    rw [z] at e1
    cases e1
    rw [hs] at h3
    cases h3
theorem ds_setN {i : Nat} {x : Str} {f} (hN : X.N.Nodup) (hi : X.N[i]? = some x) (hx : Loc X.env.scope x) (h : DN G E X e f) (hs : swapsWith e (some (.Name x p)) pos.line X.env = pure false := by rfl) (hf : X.fn x = true ∨ X.env.scope.names.lookup x = some .local := by first | exact .inl rfl | exact .inr rfl | assumption) :
    Ds G E X (.Assign [.Name x p] e pos) (dSetN i f) := by
  obtain ⟨t, h1, h2⟩ := h
  exact ⟨_, ps_set hN hi hx h1 hs hf, fun B δ σ H0 H s => sat_bind (t := t σ H) (k := fun v H1 D => D.nx (σ.set i (some v)) H1) s.base (h2 B δ σ H0 H s) fun d v H1 H1' u r D q => q _ H1 H1' (.refl u.b (s.base.trans u.c)) (sl_setN s u r)⟩
/-- (a, b, ..) = e, any target -/
def dAsg (f : DSt → R D) (g : TGd) : DSt → R Out := fun δ => (f δ).bind fun d => match g d δ with
  | some δ' => .ok (.nx δ')
  | none => .bad
theorem ds_asg {tg : Expr} {f g vs} (h : De G E X e f) (hg : DG X vs tg g) (hs : swapsWithSole [tg] e pos.line X.env = pure false := by rfl) (hw : swappedStores [tg] e X.env = pure none := by rfl)
    (h1 : (assignEach [tg] X.env).map (·.2) = [assign tg X.env] := by rfl) : Ds G E X (.Assign [tg] e pos) (dAsg f g) := by
  obtain ⟨t, k1, k2⟩ := h
  obtain ⟨gg, g1, g2⟩ := hg
  refine ⟨_, ps_asg k1 g1 hs hw h1, fun B δ σ H0 H s => sat_bind (t := t σ H) (k := fun v H1 D => gg v σ H1 D.nx) s.base (k2 B δ σ H0 H s) fun d v H1 H1' u r => ?_⟩
  cases q : g d δ with
  | none => exact True.intro
  | some δ' => exact fun D q' => g2 B δ σ H1 H1' v d δ' (s.up u) r q _ fun σ' s' _ => q' σ' H1 H1' (.refl u.b (s.base.trans u.c)) s'
/-- name = [.. for ..], one line -/
theorem ds_setLc {i : Nat} {y : Str} {py : Pos} {elt tg iter : Expr} {ifs : List Expr} {scope : Scope} {own : List (Str × Nat)} {spos : Pos} {src tgf c f} {m : Bool} (hc : X.calm = true) (hN : X.N.Nodup) (hy : X.N[i]? = some y) (hyl : X.env.scope.names.lookup y = some .local)
    (hsw : swapsWith (.ListComp elt [⟨tg, iter, ifs, 0⟩] scope pos) (some (.Name y py)) spos.line X.env = pure true) (hi : DI G E X m tg iter src) (ok : BlkOk X.N X.env.scope scope own)
    (hg : ∀ (s : Shared) (H : Hp) (C : Addr) (cl : List (Str × Addr)) (fp : List Addr), DG (X.blk s H scope (compEnvC scope cl C X.env) fp) (own.map (·.2)) tg tgf)
    (ht : ∀ (s : Shared) (H : Hp) (C : Addr) (cl : List (Str × Addr)) (fp : List Addr), DTs G E0 (X.blk s H scope (compEnvC scope cl C X.env) fp) ifs c)
    (he : ∀ (s : Shared) (H : Hp) (C : Addr) (cl : List (Str × Addr)) (fp : List Addr), De G E0 (X.blk s H scope (compEnvC scope cl C X.env) fp) elt f) (hs : ∀ x, foldedSetIterable iter X.env x = pure x := by intro _; rfl) :
    Ds G E X (.Assign [.Name y py] (.ListComp elt [⟨tg, iter, ifs, 0⟩] scope pos) spos) (dSetN i (dLc src tgf (fun δ => (c δ).noer) (fun δ => (f δ).noer) (own.map (·.2)))) := by
  obtain ⟨wi, h1, h2⟩ := hi
  have z := ev_lc (E := E) h2 (evg_can (K := X.K) (vs := own.map (·.2)) (f := tgf)) (ev_noer (E := E) (ev_can (K := X.K) (G := G) (rel := rB) (f := c))) (ev_noer (E := E) (ev_can (K := X.K) (G := G) (rel := rV X.K) (f := f)))
  exact ⟨_, ps_setLc hc hN hy hyl hsw h1 ok (fun s H C cl fp => (hg s H C cl fp).can) (fun s H C cl fp => (ht s H C cl fp).can) (fun s H C cl fp => (he s H C cl fp).can) hs,
    fun B δ σ H0 H s => sat_bind (t := tLc wi _ _ _ _ σ H) (k := fun v H1 D => D.nx (σ.set i (some v)) H1) s.base (z B δ σ H0 H s) fun d v H1 H1' u r D q => q _ H1 H1' (.refl u.b (s.base.trans u.c)) (sl_setN s u r)⟩
/-- an owned list is data from here on -/
theorem Sl.freeze {K : PySem.W.Frag} {B H0 H : Hp} {σ : L2.St} {δ : DSt} {i : Nat} {ds : List D} (s : Sl K B H0 H σ δ) (h : δ[i]? = some (SV.own ds)) : ∃ H0', Us B H0 H0' H ∧ Sl K B H0' H σ (δ.set i (.dat (.list ds))) := by
  obtain ⟨q, vs, e1, h0, hb, hp, r⟩ := s.own i ds h
  have e0 : Same H0 (upd H0 q (.lst vs)) := Same.upd h0
  have ex : Same (upd H0 q (.lst vs)) H := fun c o w => by
    by_cases hc : c = q
    · subst hc; rw [upd_same] at w; cases w; exact hp
    · rw [upd_ne hc] at w; exact s.ex _ _ w
  have key : ∀ (j : Nat) (w : SV), (δ.set i (.dat (.list ds)))[j]? = some w → (j = i ∧ w = .dat (.list ds)) ∨ (j ≠ i ∧ δ[j]? = some w) := fun j w h' => by
    by_cases hj : j = i
    · subst hj
      rw [List.getElem?_set_self (List.getElem?_eq_some_iff.mp h).1] at h'
      exact .inl ⟨rfl, (Option.some.inj h').symm⟩
    · rw [List.getElem?_set_ne (Ne.symm hj)] at h'
      exact .inr ⟨hj, h'⟩
  refine ⟨upd H0 q (.lst vs), ⟨e0, ex, s.base, fun c n1 n2 => ?_⟩, s.base, ex, by simp [s.len], fun j d w => ?_, fun j es w => ?_, fun j k d1 d2 c hjk w1 w2 w3 => ?_⟩
  · have hc : c ≠ q := fun z => n1 (z ▸ hb)
    rw [upd_ne hc]; exact n2
  · rcases key j _ w with ⟨rfl, e2⟩ | ⟨hj, w⟩
    · cases e2
      exact ⟨_, e1, .lst upd_same (r.mono e0)⟩
    · obtain ⟨v, a, b⟩ := s.dat j d w
      exact ⟨v, a, b.mono e0⟩
  · rcases key j _ w with ⟨rfl, e2⟩ | ⟨hj, w⟩
    · cases e2
    · obtain ⟨c, ws, a1, a2, a3, a4, a5⟩ := s.own j es w
      refine ⟨c, ws, a1, ?_, a3, a4, a5.mono e0⟩
      have hc : c ≠ q := fun z => by
        subst z
        exact s.sep j i es ds c hj w h a1 e1
      rw [upd_ne hc]; exact a2
  · rcases key j _ w1 with ⟨rfl, e2⟩ | ⟨hj, w1⟩
    · cases e2
    · rcases key k _ w2 with ⟨rfl, e2⟩ | ⟨hk, w2⟩
      · cases e2
      · exact s.sep j k d1 d2 c hjk w1 w2 w3
def frz1 (i : Nat) (δ : DSt) : DSt := match δ[i]? with
  | some (SV.own ds) => δ.set i (.dat (.list ds))
  | _ => δ
theorem Sl.frz1 {K : PySem.W.Frag} {B H0 H : Hp} {σ : L2.St} {δ : DSt} (s : Sl K B H0 H σ δ) (i : Nat) : ∃ H0', Us B H0 H0' H ∧ Sl K B H0' H σ (Dn.frz1 i δ) := by
  unfold Dn.frz1
  split
  · rename_i ds h
    exact s.freeze h
  · exact ⟨H0, s.us, s⟩
/-- ahead of a statement -/
theorem dss_frz {f} (i : Nat) (h : Dss G E X sts f) : Dss G E X sts fun δ => f (frz1 i δ) := by
  obtain ⟨t, h1, h2⟩ := h
  refine ⟨t, h1, fun B δ σ H0 H s => ?_⟩
  obtain ⟨H0', u, s'⟩ := s.frz1 i
  have z := h2 B _ σ H0' H s'
  show SAt X.K G E B H0 H _ (f (frz1 i δ))
  cases q : f (frz1 i δ) with
  | bad => exact True.intro
  | er x => rw [q] at z; exact fun D k => z D fun c dd Ha Hb ua xa => k c dd Ha Hb (u.trans ua) xa
  | ok o => rw [q] at z; exact fun D k => z D (k.up u)
/-- if -/
theorem ds_if {c f g} (hc : Dt G E X e c) (h1 : Dss G E X sts f) (h2 : Dss G E X ss g) : Ds G E X (.If e sts ss pos) (dIf c f g) := by
  obtain ⟨t, a1, a2⟩ := hc
  obtain ⟨u, b1, b2⟩ := h1
  obtain ⟨w, c1, c2⟩ := h2
  refine ⟨_, ps_if a1 b1 c1, fun B δ σ H0 H s => sat_bind (t := t σ H) (k := fun b H1 D => if b = true then u D σ H1 else w D σ H1) s.base (a2 B δ σ H0 H s) fun x y H1 H1' up r => ?_⟩
  cases (show y = x from r)
  cases x with
  | true => exact b2 B δ σ H1 H1' (s.up up)
  | false => exact c2 B δ σ H1 H1' (s.up up)
/-- xs.append(e) of an owned list -/
def dApp (i : Nat) (f : DSt → R D) : DSt → R Out := fun δ => match δ[i]? with
  | some (SV.own ds) => (f δ).bind fun d => if ds.length < LIM then .ok (.nx (δ.set i (.own (ds ++ [d])))) else .bad
  | _ => .bad
theorem Sl.mut {K : PySem.W.Frag} {B H0 H : Hp} {σ : L2.St} {δ : DSt} {i : Nat} {ds es : List D} {q : Addr} {ws : List V} (s : Sl K B H0 H σ δ) (h : δ[i]? = some (SV.own ds)) (e1 : σ[i]? = some (some (V.ref q))) (h0 : H0 q = none) (hb : B q = none) (r : RpAll K H0 ws es) :
    Us B H0 H0 (upd H q (.lst ws)) ∧ Sl K B H0 (upd H q (.lst ws)) σ (δ.set i (.own es)) := by
  have ex : Same H0 (upd H q (.lst ws)) := fun c o w => by rw [upd_ne (ne_of_none w h0)]; exact s.ex _ _ w
  have eb : Same B (upd H q (.lst ws)) := fun c o w => by rw [upd_ne (ne_of_none w hb)]; exact s.base _ _ w
  have key : ∀ (j : Nat) (w : SV), (δ.set i (.own es))[j]? = some w → (j = i ∧ w = .own es) ∨ (j ≠ i ∧ δ[j]? = some w) := fun j w h' => by
    by_cases hj : j = i
    · subst hj
      rw [List.getElem?_set_self (List.getElem?_eq_some_iff.mp h).1] at h'
      exact .inl ⟨rfl, (Option.some.inj h').symm⟩
    · rw [List.getElem?_set_ne (Ne.symm hj)] at h'
      exact .inr ⟨hj, h'⟩
  refine ⟨⟨.refl _, ex, eb, fun _ _ z => z⟩, eb, ex, by simp [s.len], fun j d w => ?_, fun j d1 w => ?_, fun j k d1 d2 c hjk w1 w2 w3 => ?_⟩
  · rcases key j _ w with ⟨rfl, e2⟩ | ⟨hj, w⟩
    · cases e2
    · exact s.dat j d w
  · rcases key j _ w with ⟨rfl, e2⟩ | ⟨hj, w⟩
    · cases e2
      exact ⟨q, ws, e1, h0, hb, upd_same, r⟩
    · obtain ⟨c, us, a1, a2, a3, a4, a5⟩ := s.own j d1 w
      have hc : c ≠ q := fun z => by
        subst z
        exact s.sep j i d1 ds c hj w h a1 e1
      exact ⟨c, us, a1, a2, a3, by rw [upd_ne hc]; exact a4, a5⟩
  · rcases key j _ w1 with ⟨rfl, e2⟩ | ⟨hj, w1⟩
    · rcases key k _ w2 with ⟨rfl, e2⟩ | ⟨hk, w2⟩
      · exact absurd rfl hjk
      · exact s.sep j k ds d2 c hjk h w2 w3
    · have w1' := w1
      rcases key k _ w2 with ⟨rfl, e2⟩ | ⟨hk, w2⟩
      · exact s.sep j k d1 ds c hjk (by first | exact w1' | exact ((key j _ w1').elim (fun z => absurd z.1 hj) fun z => z.2)) h w3
      · exact s.sep j k d1 d2 c hjk w1 w2 w3
theorem ds_app {i : Nat} {x : Str} {f} {pa pc : Pos} (hN : X.N[i]? = some x) (hv : Vis X.env.scope x) (h : De G E X e f) (hd : (x == ("__debug__" : Str)) = false := by decide) (hcd : (x == ("__classdict__" : Str)) = false := by decide)
    (he : starEach [e] X.env = (false, eval e X.env) :: starEach [] X.env := by rfl)
    (hbase : attributeBase (.Name x p) "append" X.env (eval (.Name x p) X.env) = eval (.Name x p) X.env := by rfl)
    (hfew : ((backTo pc (starEach [e] X.env)).all (fun x => !x.1) && (backToKw pc (keywordEach [] X.env)).all (fun x => x.1.isSome)
      && decide ([e].length + ([] : List Keyword).length + (if ([] : List Keyword).isEmpty then 0 else 1) < 30)) = true := by rfl)
    (hline : (pa.endLine == pc.line) = true := by rfl) (hplain : (backTo pc (starEach [] X.env)).any (·.1) = false := by rfl)
    (hs : swapsWith (.Call (.Attribute (.Name x p) "append" pa) [e] [] pc) none pos.line X.env = pure false := by rfl) :
    Ds G E X (.Expr (.Call (.Attribute (.Name x p) "append" pa) [e] [] pc) pos) (dApp i f) := by
  obtain ⟨t, h1, h2⟩ := h
  refine ⟨_, ps_expr (pe_bm PySem.F.plainAttrs_list PySem.F.slot_list_append PySem.F.type_list_append mt_append (pe_var hN hv hd hcd) (pa_cons h1 pa_nil he) hbase hfew hline he hplain) hs, fun B δ σ H0 H s => ?_⟩
  unfold dApp
  split
  · rename_i ds hi
    obtain ⟨q, vs, e1, h0, hb, hp, r⟩ := s.own i ds hi
    refine SAt.imp (sat_bind (t := t σ H) (k := fun v H1 D => ∃ l xs y, V.ref q = .ref l ∧ [v] = [y] ∧ H1 l = some (.lst xs) ∧ xs.length < sizeLine ∧ D.nx σ (upd H1 l (.lst (xs ++ [y])))) s.base (h2 B δ σ H0 H s) fun d v H1 H1' u rv => ?_) fun D w => ⟨_, e1, .inl ⟨rfl, _, SqL.of hp⟩, w⟩
    split
    · rename_i hl
      refine fun D k => ⟨q, vs, v, rfl, rfl, u.c _ _ hp, lim_lt (by rw [r.length]; exact hl), ?_⟩
      have q0 : H1 q = none := u.d q (by rw [hp]; exact fun z => nomatch z) h0
      obtain ⟨u2, s2⟩ := (s.up u).mut hi e1 q0 hb ((r.mono u.a).append (.cons rv .nil))
      exact k σ H1 _ u2 s2
    · exact True.intro
  · exact True.intro
end
end Dn

namespace Dn
open PySem PySem.Spec PyProof.Rows L2

/-! ### loops -/
def forGo (tg : TGd) (b : DSt → R Out) (fs : List Nat) : List D → DSt → R Out
  | [], δ => .ok (.nx (fgt δ fs))
  | x :: xs, δ => match tg x (fgt δ fs) with
    | none => .bad
    | some δ' => (b δ').bind fun o => match o with
      | .nx δ2 => forGo tg b fs xs δ2
      | .ct δ2 => forGo tg b fs xs δ2
      | .bk δ2 => .ok (.nx (fgt δ2 fs))
      | .rt d => .ok (.rt d)
theorem forGo_cons {tg b fs x xs δ} : forGo tg b fs (x :: xs) δ = (match tg x (fgt δ fs) with
    | none => .bad
    | some δ' => (b δ').bind fun o => match o with
      | .nx δ2 => forGo tg b fs xs δ2
      | .ct δ2 => forGo tg b fs xs δ2
      | .bk δ2 => .ok (.nx (fgt δ2 fs))
      | .rt d => .ok (.rt d)) := rfl
def dFor (src : DSt → R (List D)) (tg : TGd) (b : DSt → R Out) (fs : List Nat) : DSt → R Out := fun δ => (src δ).bind fun ds => forGo tg b fs ds δ
section
variable {K : PySem.W.Frag} {G : Str → Addr} {E : XK}
theorem sd_for {wi : TI} {g : TG} {tb : TS} {src tg b} {vs fs : List Nat} (hi : Ev K G E (rI K true) wi src) (hg : EvG K vs g tg) (hb : Sd K G E tb b) : Sd K G E (tFor wi g tb) (dFor src tg b fs) := by
  refine fun B δ σ H0 H s => sat_bind (t := wi σ H) (k := fun J H1 D => ∃ W : Nat → Nat → L2.St → Hp → Prop, (∃ m, W 0 m σ H1) ∧ ∀ i m σ H, W i m σ H →
    (J.stop i H ∧ D.nx σ H) ∨ (J.go i H ∧ ∃ N : L2.St → Hp → Prop, (∀ σ' H', N σ' H' → ∃ m', m' < m ∧ W (i + 1) m' σ' H') ∧ ∀ x H', J.yld i H x H' → g x σ H' fun σ2 H2 => tb { D with nx := N, ct := N, bk := D.nx } σ2 H2)) s.base (hi B δ σ H0 H s) fun ds J H1 H1' u1 ⟨Kp, W, keep⟩ => ?_
  have s1 := s.up u1
  have turns : ∀ D : Ends, forGo tg b fs ds δ ≠ .bad → (∀ o, forGo tg b fs ds δ = .ok o → EndOk K B H1 D o) → (∀ x, forGo tg b fs ds δ = .er x → ∀ cc dd H0' H', Us B H1 H0' H' → XR K G H0' H' cc dd x → E cc dd H') →
      ∃ W : Nat → Nat → L2.St → Hp → Prop, (∃ m, W 0 m σ H1') ∧ ∀ i m σ H, W i m σ H →
        (J.stop i H ∧ D.nx σ H) ∨ (J.go i H ∧ ∃ N : L2.St → Hp → Prop, (∀ σ' H', N σ' H' → ∃ m', m' < m ∧ W (i + 1) m' σ' H') ∧ ∀ x H', J.yld i H x H' → g x σ H' fun σ2 H2 => tb { D with nx := N, ct := N, bk := D.nx } σ2 H2) := by
    intro D nb fin ex
    refine ⟨fun i m σ' H' => m = ds.length - i ∧ i ≤ ds.length ∧ ∃ H0' δ', Us B H1 H0' H' ∧ Sl K B H0' H' σ' δ' ∧ forGo tg b fs (ds.drop i) δ' = forGo tg b fs ds δ, ⟨ds.length, by simp, Nat.zero_le _, H1, δ, s1.us, s1, by rw [List.drop_zero]⟩, ?_⟩
    rintro i m σ' H' ⟨rfl, hle, H0', δ', up, s', hres⟩
    have kp : Kp H' := keep H' (up.a.trans up.b) fun z => nomatch z
    by_cases hlt : i < ds.length
    · obtain ⟨d, hd⟩ : ∃ d, ds[i]? = some d := ⟨ds[i], List.getElem?_eq_getElem hlt⟩
      have hdrop : ds.drop i = d :: ds.drop (i + 1) := by
        rw [List.drop_eq_getElem_cons hlt]
        congr 1
        rw [List.getElem?_eq_getElem hlt] at hd
        exact Option.some.inj hd
      refine .inr ⟨W.go i d H' kp hd, fun σ'' H'' => ∃ H0'' δ'', Us B H1 H0'' H'' ∧ Sl K B H0'' H'' σ'' δ'' ∧ forGo tg b fs (ds.drop (i + 1)) δ'' = forGo tg b fs ds δ, fun σ'' H'' n => ⟨ds.length - (i + 1), by omega, rfl, hlt, n⟩, fun x H3 hy => ?_⟩
      obtain ⟨H03, u3, rx⟩ := W.yld i d H0' H' x H3 kp up.a up.b hd hy
      have up3 := up.trans (u3.us s'.base)
      have s3 := (s'.up u3).fgt fs
      rw [hdrop, forGo_cons] at hres
      cases htg : tg d (fgt δ' fs) with
      | none => rw [htg] at hres; exact absurd hres.symm nb
      | some δ2 =>
        rw [htg] at hres
        simp only at hres
        refine hg B _ σ' H03 H3 x d δ2 s3 rx htg _ fun σ2 s2 w2 => ?_
        have z := hb B δ2 σ2 H03 H3 s2
        cases hbo : b δ2 with
        | bad => rw [hbo] at hres; exact absurd hres.symm nb
        | er xx =>
          rw [hbo] at z hres
          exact z _ fun cc dd Ha Hb ua xa => ex xx (hres.symm.trans rfl) cc dd Ha Hb (up3.trans ua) xa
        | ok o =>
          rw [hbo] at z hres
          refine z _ ?_
          cases o with
          | nx δ3 => exact fun σ4 Ha Hb ua sa => ⟨Ha, δ3, up3.trans ua, sa, hres⟩
          | ct δ3 => exact fun σ4 Ha Hb ua sa => ⟨Ha, δ3, up3.trans ua, sa, hres⟩
          | bk δ3 =>
            have f := fin _ (hres.symm.trans rfl)
            exact fun σ4 Ha Hb ua sa => f σ4 Ha Hb (up3.trans ua) (sa.fgt fs)
          | rt d =>
            have f := fin _ (hres.symm.trans rfl)
            exact fun v Ha Hb ua ra => f v Ha Hb (up3.trans ua) ra
    · have hi : i = ds.length := by omega
      subst hi
      rw [List.drop_eq_nil_of_le (Nat.le_refl _)] at hres
      have f := fin _ (hres.symm.trans rfl)
      exact .inl ⟨W.stop H' kp, f σ' H0' H' up (s'.fgt fs)⟩
  cases hr : forGo tg b fs ds δ with
  | bad => exact True.intro
  | er x => exact fun D q => turns D (by rw [hr]; exact fun z => nomatch z) (fun o z => by rw [hr] at z; cases z) fun y z => by rw [hr] at z; cases z; exact q
  | ok o => exact fun D q => turns D (by rw [hr]; exact fun z => nomatch z) (fun o z => by rw [hr] at z; cases z; exact q) fun y z => by rw [hr] at z; cases z
def whGo (c : DSt → R Bool) (b : DSt → R Out) (fs : List Nat) : Nat → DSt → R Out
  | 0, _ => .bad
  | n + 1, δ => (c (fgt δ fs)).bind fun t => if t then (b (fgt δ fs)).bind fun o => match o with
      | .nx δ2 => whGo c b fs n δ2
      | .ct δ2 => whGo c b fs n δ2
      | .bk δ2 => .ok (.nx (fgt δ2 fs))
      | .rt d => .ok (.rt d)
    else .ok (.nx (fgt δ fs))
theorem whGo_succ {c b fs n δ} : whGo c b fs (n + 1) δ = (c (fgt δ fs)).bind fun t => if t then (b (fgt δ fs)).bind fun o => match o with
      | .nx δ2 => whGo c b fs n δ2
      | .ct δ2 => whGo c b fs n δ2
      | .bk δ2 => .ok (.nx (fgt δ2 fs))
      | .rt d => .ok (.rt d)
    else .ok (.nx (fgt δ fs)) := rfl
theorem sd_while {tc : TT} {tb : TS} {c b} {fs : List Nat} (n : Nat) (hc : Ev K G E rB tc c) (hb : Sd K G E tb b) : Sd K G E (tWhile tc tb) (whGo c b fs n) := by
  intro B δ σ H0 H s
  have turns : ∀ D : Ends, whGo c b fs n δ ≠ .bad → (∀ o, whGo c b fs n δ = .ok o → EndOk K B H0 D o) → (∀ x, whGo c b fs n δ = .er x → ∀ cc dd H0' H', Us B H0 H0' H' → XR K G H0' H' cc dd x → E cc dd H') → tWhile tc tb D σ H := by
    intro D nb fin ex
    refine ⟨fun m σ' H' => ∃ H0' δ', Us B H0 H0' H' ∧ Sl K B H0' H' σ' δ' ∧ whGo c b fs m δ' = whGo c b fs n δ, ⟨n, H0, δ, s.us, s, rfl⟩, ?_⟩
    rintro m σ' H' ⟨H0', δ', up, s', hres⟩
    cases m with
    | zero => exact absurd hres.symm nb
    | succ m =>
      rw [whGo_succ] at hres
      have s1 := s'.fgt fs
      have z := hc B _ σ' H0' H' s1
      cases hcc : c (fgt δ' fs) with
      | bad => rw [hcc] at hres; exact absurd hres.symm nb
      | er xx =>
        rw [hcc] at z hres
        exact z _ fun cc dd Ha Hb ua xa => ex xx (hres.symm.trans rfl) cc dd Ha Hb (up.trans (ua.us s'.base)) xa
      | ok t =>
        rw [hcc] at z hres
        refine z _ fun t' Ha Hb ua e => ?_
        cases (show t' = t from e)
        have up2 := up.trans (ua.us s'.base)
        have s2 := s1.up ua
        cases t with
        | false =>
          have f := fin _ (hres.symm.trans rfl)
          exact f σ' Ha Hb up2 s2
        | true =>
          refine ⟨fun σ'' H'' => ∃ H0'' δ'', Us B H0 H0'' H'' ∧ Sl K B H0'' H'' σ'' δ'' ∧ whGo c b fs m δ'' = whGo c b fs n δ, fun σ'' H'' w => ⟨m, Nat.lt_succ_self m, w⟩, ?_⟩
          simp only [R.bind_ok, if_true] at hres
          have y := hb B _ σ' Ha Hb s2
          cases hbo : b (fgt δ' fs) with
          | bad => rw [hbo] at hres; exact absurd hres.symm nb
          | er xx =>
            rw [hbo] at y hres
            exact y _ fun cc dd Hc Hd uc xc => ex xx (hres.symm.trans rfl) cc dd Hc Hd (up2.trans uc) xc
          | ok o =>
            rw [hbo] at y hres
            refine y _ ?_
            cases o with
            | nx δ3 => exact fun σ4 Hc Hd uc sc => ⟨Hc, δ3, up2.trans uc, sc, hres⟩
            | ct δ3 => exact fun σ4 Hc Hd uc sc => ⟨Hc, δ3, up2.trans uc, sc, hres⟩
            | bk δ3 =>
              have f := fin _ (hres.symm.trans rfl)
              exact fun σ4 Hc Hd uc sc => f σ4 Hc Hd (up2.trans uc) (sc.fgt fs)
            | rt d =>
              have f := fin _ (hres.symm.trans rfl)
              exact fun v Hc Hd uc rc => f v Hc Hd (up2.trans uc) rc
  cases hr : whGo c b fs n δ with
  | bad => exact True.intro
  | er x => exact fun D q => turns D (by rw [hr]; exact fun z => nomatch z) (fun o z => by rw [hr] at z; cases z) fun y z => by rw [hr] at z; cases z; exact q
  | ok o => exact fun D q => turns D (by rw [hr]; exact fun z => nomatch z) (fun o z => by rw [hr] at z; cases z; exact q) fun y z => by rw [hr] at z; cases z
end
section
variable {G : Str → Addr} {E : XK} {X : Cx} {pos p p2 : Pos} {st : Stmt} {sts ss : List Stmt} {e a b : Expr}
theorem ds_for {tg iter : Expr} {body : List Stmt} {src tgf f} {vs : List Nat} (fs : List Nat) (hp : PassesOwn (model X.prog X.w) X.A X.env X.xe) (hc : X.calm = true) (hi : DI G E X true tg iter src) (hg : DG X vs tg tgf) (hb : Dss G E X body f)
    (hs : ∀ x, foldedSetIterable iter X.env x = pure x := by intro _; rfl) : Ds G E X (.For tg iter body [] pos) (dFor src tgf f fs) := by
  obtain ⟨w, h1, h2⟩ := hi
  obtain ⟨g, g1, g2⟩ := hg
  obtain ⟨t, b1, b2⟩ := hb
  exact ⟨_, ps_for hp hc h1 g1 b1 hs, sd_for h2 g2 b2⟩
theorem ds_while {c : Expr} {body : List Stmt} {h f} (n : Nat) (fs : List Nat) (hp : PassesOwn (model X.prog X.w) X.A X.env X.xe) (hc : Dt G E X c h) (hb : Dss G E X body f) : Ds G E X (.While c body [] pos) (whGo h f fs n) := by
  obtain ⟨t, h1, h2⟩ := hc
  obtain ⟨u, b1, b2⟩ := hb
  exact ⟨_, ps_while hp h1 b1, sd_while n h2 b2⟩

/-! ### an owned list lent as data, where a plain value comes back -/
def plain : D → Bool
  | .none => true
  | .bool _ => true
  | .int _ => true
  | .str _ => true
  | _ => false
theorem plain_rp {K : PySem.W.Frag} {H H' : Hp} {v : V} {d : D} (h : plain d = true) (r : Rp K H v d) : Rp K H' v d := by
  cases r with
  | non => exact .non
  | bl b => exact .bl b
  | int i => exact .int i
  | str s => exact .str s
  | lst _ _ => cases h
  | tup _ _ => cases h
  | scr _ _ => cases h
def frzL : List Nat → DSt → DSt
  | [], δ => δ
  | i :: is, δ => frz1 i (frzL is δ)
theorem Sl.frzU {K : PySem.W.Frag} {B H0 H : Hp} {σ : L2.St} {δ : DSt} (s : Sl K B H0 H σ δ) : ∀ is : List Nat, ∃ H0', Us B H0 H0' H ∧ Sl K B H0' H σ (frzL is δ)
  | [] => ⟨H0, s.us, s⟩
  | i :: is => by
    obtain ⟨H1, u1, s1⟩ := Sl.frzU s is
    obtain ⟨H2, u2, s2⟩ := s1.frz1 i
    exact ⟨H2, u1.trans u2, s2⟩
def dLend (is : List Nat) (f : DSt → R D) : DSt → R D := fun δ => match f (frzL is δ) with
  | .ok d => if plain d then .ok d else .bad
  | _ => .bad
theorem de_lend {f} (is : List Nat) (h : De G E X e f) : De G E X e (dLend is f) := by
  obtain ⟨t, h1, h2⟩ := h
  refine ⟨t, h1, fun B δ σ H0 H s => ?_⟩
  obtain ⟨H1, u1, s1⟩ := s.frzU is
  have z := h2 B _ σ H1 H s1
  unfold dLend
  cases q : f (frzL is δ) with
  | bad => exact True.intro
  | er x => exact True.intro
  | ok d =>
    rw [q] at z
    show At X.K G E (rV X.K) H0 H (t σ H) (if plain d then .ok d else .bad)
    cases hp : plain d with
    | false => exact True.intro
    | true =>
      refine fun Q k => z Q fun v Ha Hb ua ra => k v H0 Hb ⟨.refl _, s.ex.trans ua.c, ua.c, fun _ _ w => w⟩ (plain_rp hp ra)
def dLendT (is : List Nat) (f : DSt → R Bool) : DSt → R Bool := fun δ => match f (frzL is δ) with
  | .ok d => .ok d
  | _ => .bad
theorem dt_lend {f} (is : List Nat) (h : Dt G E X e f) : Dt G E X e (dLendT is f) := by
  obtain ⟨t, h1, h2⟩ := h
  refine ⟨t, h1, fun B δ σ H0 H s => ?_⟩
  obtain ⟨H1, u1, s1⟩ := s.frzU is
  have z := h2 B _ σ H1 H s1
  unfold dLendT
  cases q : f (frzL is δ) with
  | bad => exact True.intro
  | er x => exact True.intro
  | ok d =>
    rw [q] at z
    exact fun Q k => z Q fun v Ha Hb ua ra => k v H0 Hb ⟨.refl _, s.ex.trans ua.c, ua.c, fun _ _ w => w⟩ ra

/-! ### xs[i] = e of an owned list -/
def dSetI (i : Nat) (g : DSt → R D) (f : DSt → R D) : DSt → R Out := fun δ => match δ[i]? with
  | some (SV.own ds) => (f δ).bind fun d => (g δ).bind fun k => match k with
    | .int k => match ixN ds.length k with
      | some j => .ok (.nx (δ.set i (.own (ds.set j d))))
      | none => .bad
    | _ => .bad
  | _ => .bad
theorem ds_setI {i : Nat} {x : Str} {f g} (hN : X.N[i]? = some x) (hv : Vis X.env.scope x) (hk : De G E X a g) (h : De G E X e f) (hd : (x == ("__debug__" : Str)) = false := by decide) (hcd : (x == ("__classdict__" : Str)) = false := by decide)
    (ha : ∀ v, assign (.Subscript (.Name x p) a p2) X.env v = (do
      let ov ← holding [v] (eval (.Name x p) X.env)
      let iv ← holding [v, ov] (eval a X.env)
      standAt p2
      holding [v, ov, iv] (setItem ov iv v)
      release [v, ov, iv] []) := by intro _; rfl)
    (hs : swapsWithSole [.Subscript (.Name x p) a p2] e pos.line X.env = pure false := by rfl) (hw : swappedStores [.Subscript (.Name x p) a p2] e X.env = pure none := by rfl)
    (h1 : (assignEach [.Subscript (.Name x p) a p2] X.env).map (·.2) = [assign (.Subscript (.Name x p) a p2) X.env] := by rfl) :
    Ds G E X (.Assign [.Subscript (.Name x p) a p2] e pos) (dSetI i g f) := by
  obtain ⟨t, k1, k2⟩ := h
  obtain ⟨u, l1, l2⟩ := hk
  refine ⟨_, ps_asg k1 (pg_sub (pe_var hN hv hd hcd) l1 set_list ha) hs hw h1, fun B δ σ H0 H s => ?_⟩
  unfold dSetI
  split
  · rename_i ds hi
    obtain ⟨q, vs, e1, h0, hb, hp, r⟩ := s.own i ds hi
    refine SAt.imp (sat_bind (t := t σ H) (k := fun v H1 D => u σ H1 fun y H2 => rSetL (.ref q) y v H2 fun H3 => D.nx σ H3) s.base (k2 B δ σ H0 H s) fun d v H1 H1' u1 rv => sat_bind (t := u σ H1') (k := fun y H2 D => rSetL (.ref q) y v H2 fun H3 => D.nx σ H3) (s.base.trans u1.c) (l2 B δ σ H1 H1' (s.up u1)) fun k y H2 H2' u2 rk => ?_) fun D w => ?_
    · split
      · cases (show Rp X.K H2 y _ from rk)
        split
        · rename_i j hj
          have u12 := u1.trans u2
          refine fun D kk => ⟨q, vs, _, j, rfl, rfl, u12.c _ _ hp, by rw [r.length]; exact hj, ?_⟩
          have q0 : H2 q = none := u12.d q (by rw [hp]; exact fun z => nomatch z) h0
          obtain ⟨u3, s3⟩ := (s.up u12).mut hi e1 q0 hb ((r.mono u12.a).set j (Rp.mono u2.a rv))
          exact kk σ H2 _ u3 s3
        · exact True.intro
      · exact True.intro
    · -- the value, then the list, then the index
      show t σ H fun x H1 => gSub (tVar i) u rSetL x σ H1 D.nx
      show t σ H fun x H1 => tVar i σ H1 fun o H2 => u σ H2 fun y H3 => rSetL o y x H3 fun H4 => D.nx σ H4
      have fin : (fun (x : V) (H1 : Hp) => tVar i σ H1 fun o H2 => u σ H2 fun y H3 => rSetL o y x H3 fun H4 => D.nx σ H4) = fun x H1 => ∃ v, σ[i]? = some (some v) ∧ u σ H1 fun y H3 => rSetL v y x H3 fun H4 => D.nx σ H4 := rfl
      rw [fin]
      have fin2 : (fun (x : V) (H1 : Hp) => ∃ v, σ[i]? = some (some v) ∧ u σ H1 fun y H3 => rSetL v y x H3 fun H4 => D.nx σ H4) = fun x H1 => u σ H1 fun y H3 => rSetL (.ref q) y x H3 fun H4 => D.nx σ H4 := by
        funext x H1
        refine propext ⟨fun ⟨v, e2, z⟩ => ?_, fun z => ⟨_, e1, z⟩⟩
        rw [e1] at e2
        cases e2
        exact z
      rw [fin2]
      exact w
  · exact True.intro

/-! ### defs and their calls -/
/-- the promise of a def that computes F -/
def spD (K : PySem.W.Frag) (G : Str → Addr) (n : Nat) (F : List D → R D) : Sp := fun vs H Q E => ∃ H0 ds, vs.length = n ∧ Same H0 H ∧ RpAll K H0 vs ds ∧ F ds ≠ .bad ∧
  (∀ d, F ds = .ok d → ∀ v H0' H', Up H0 H H0' H' → Rp K H0' v d → Q v H') ∧ (∀ x, F ds = .er x → ∀ c dd H0' H', Up H0 H H0' H' → XR K G H0' H' c dd x → E c dd H')
def dCall (F : List D → R D) (f : DSt → R (List D)) : DSt → R D := fun δ => (f δ).bind F
theorem at_call {K : PySem.W.Frag} {n : Nat} {F : List D → R D} {H0 H : Hp} {vs : List V} {ds : List D} (e : Same H0 H) (hn : vs.length = n) (r : RpAll K H0 vs ds) : At K G E (rV K) H0 H (fun Q => spD K G n F vs H Q E) (F ds) := by
  cases q : F ds with
  | bad => exact True.intro
  | er x => exact fun Q k => ⟨H0, ds, hn, e, r, by rw [q]; exact (fun z => nomatch z), (fun d z => by rw [q] at z; cases z), fun y z => by rw [q] at z; cases z; exact k⟩
  | ok d => exact fun Q k => ⟨H0, ds, hn, e, r, by rw [q]; exact (fun z => nomatch z), (fun y z => by rw [q] at z; cases z; exact k), fun y z => by rw [q] at z; cases z⟩
def dCallN (n : Nat) (F : List D → R D) (f : DSt → R (List D)) : DSt → R D := fun δ => (f δ).bind fun ds => if ds.length = n then F ds else .bad
theorem de_call {CX : CXT} {k : Nat} {f : Addr} {fd : FuncData} {ps : List Str} {x : Str} {n : Nat} {F : List D → R D} {g} {es : List Expr} (hF : FnOk X.prog X.w X.K X.mg X.base CX k f fd ps (spD X.K G n F)) (hr : Room k X.A) (hg : Gl X x) (hm : X.mg x = some (.ref f)) (hk : PySem.W.keepIn X.K (.ref f) = true)
    (hb : Binds X.K fd ps []) (hx : Passes CX X E) (ha : Da G E X (e :: es) g) (hdb : (x == ("__debug__" : Str)) = false := by decide) (he : starEach (e :: es) X.env = (false, eval e X.env) :: starEach es X.env := by rfl) (hpl : (backTo pos (starEach es X.env)).any (·.1) = false := by rfl) :
    De G E X (.Call (.Name x p) (e :: es) [] pos) (dCallN n F g) := by
  obtain ⟨t, h1, h2⟩ := ha
  refine ⟨_, pe_call hF hr hg hm hk hb .nil hx h1 hdb he hpl, fun B δ σ H0 H s => at_bind (t := t σ H) (k := fun vs H1 Q => spD X.K G n F (vs ++ []) H1 Q E) mV (h2 B δ σ H0 H s) fun ds vs H1 H1' u r => ?_⟩
  split
  · rename_i hn
    rw [List.append_nil]
    exact at_call u.b (by rw [r.length]; exact hn) r
  · exact True.intro
end
/-- what a def computes: its body from its arguments -/
def runF (m : Nat) (b : DSt → R Out) : List D → R D := fun ds => (b (ds.map SV.dat ++ List.replicate (m - ds.length) SV.no)).bind fun o => match o with
  | .rt d => .ok d
  | .nx _ => .ok .none
  | _ => .bad
theorem sl_start {K : PySem.W.Frag} {H0 H : Hp} {vs : List V} {ds : List D} {N : List Str} (e : Same H0 H) (r : RpAll K H0 vs ds) (hl : vs.length ≤ N.length) : Sl K H H0 H (L2.start N vs) (ds.map SV.dat ++ List.replicate (N.length - ds.length) SV.no) := by
  have len := r.length
  have key : ∀ (i : Nat) (w : SV), (ds.map SV.dat ++ List.replicate (N.length - ds.length) SV.no)[i]? = some w → (∃ d, ds[i]? = some d ∧ w = .dat d) ∨ w = .no := fun i w h => by
    by_cases hi : i < ds.length
    · rw [List.getElem?_append_left (by simpa using hi), List.getElem?_map, List.getElem?_eq_getElem hi] at h
      cases h
      exact .inl ⟨_, List.getElem?_eq_getElem hi, rfl⟩
    · rw [List.getElem?_append_right (by simpa using hi), List.getElem?_replicate] at h
      split at h
      · cases h; exact .inr rfl
      · cases h
  refine ⟨.refl _, e, ?_, fun i d h => ?_, fun i es h => ?_, fun i j d1 d2 p hij h1 h2 => ?_⟩
  · unfold L2.start
    simp [len]
  · rcases key i _ h with ⟨d', h1, h2⟩ | h2
    · cases h2
      obtain ⟨v, hv, rv⟩ := r.get h1
      refine ⟨v, ?_, rv⟩
      unfold L2.start
      rw [List.getElem?_append_left (by simpa using (List.getElem?_eq_some_iff.mp hv).1), List.getElem?_map, hv]
      rfl
    · cases h2
  · rcases key i _ h with ⟨d', h1, h2⟩ | h2 <;> cases h2
  · rcases key i _ h1 with ⟨d', h3, h4⟩ | h4 <;> cases h4
/-- THE RULE: a def that lets no exception out, by what its body computes -/
theorem fnD {P : Program} {w : World} {K : PySem.W.Frag} {mg : Str → Option Value} {base : Heap} {G : Str → Addr} {x qual : Str} {st : Stmt} {f : Addr} {fd : FuncData} {N ps : List Str} {k m n : Nat} {b : DSt → R Out} (F : Fun K x qual st f fd) (S : FnScope N ps (defScope st)) (hm : N.length = m) (hn : ps.length = n)
    (hb : ∀ (cdv : Value) (A : Around) (outer : List Env) (s : Shared) (H : Hp) (E : XK), Room k (A.deeper (envOfC qual (defScope st) s.heap.objs.size f cdv)) → Dss G E0 (cxOf CX0 P w K mg base N qual (defScope st) f cdv A outer s H E).nox (defBody st) b) :
    FnOk P w K mg base CX0 (k + 1) f fd ps (spD K G n fun ds => (runF m b ds).noer) := by
  subst hm hn
  refine F.ok S (fun vs H Q E h => by obtain ⟨_, _, h, _⟩ := h; exact h) (fun cdv A outer s H vs Q E hr h => ?_)
  obtain ⟨H0, ds, hl, e, r, nb, q, _⟩ := h
  obtain ⟨t, h1, h2⟩ := hb cdv A outer s H E hr
  refine ⟨t, h1, ?_⟩
  have hpl : ps.length ≤ N.length := by have := congrArg List.length S.pre; rw [List.length_take] at this; omega
  have s0 := sl_start (N := N) e r (by omega)
  have z := h2 H _ _ H0 H s0
  unfold runF at nb q
  dsimp only at nb q
  cases hbo : b (ds.map SV.dat ++ List.replicate (N.length - ds.length) SV.no) with
  | bad => rw [hbo] at nb; exact absurd rfl nb
  | er y => rw [hbo] at nb; exact absurd rfl nb
  | ok o =>
    rw [hbo] at nb q z
    refine z _ ?_
    cases o with
    | nx δ => exact fun σ' H0' H' u s' => q _ rfl _ H0' H' ⟨u.a, u.b, u.c, fun p h1 h2 => u.d p h1 h2⟩ .non
    | rt d => exact fun v H0' H' u r' => q _ rfl _ H0' H' ⟨u.a, u.b, u.c, fun p h1 h2 => u.d p h1 h2⟩ r'
    | bk δ => exact absurd rfl nb
    | ct δ => exact absurd rfl nb
/-- a promise may be told by another function, where that one says as much -/
theorem FnOk.toD {P : Program} {w : World} {K : PySem.W.Frag} {mg : Str → Option Value} {base : Heap} {CX : CXT} {k : Nat} {f : Addr} {fd : FuncData} {ps : List Str} {G : Str → Addr} {n : Nat} {F F' : List D → R D} (h : FnOk P w K mg base CX k f fd ps (spD K G n F)) (e : ∀ ds, F' ds ≠ .bad → F ds = F' ds) : FnOk P w K mg base CX k f fd ps (spD K G n F') :=
  h.imp fun vs H Q E ⟨H0, ds, hl, hs, r, nb, q1, q2⟩ => ⟨H0, ds, hl, hs, r, by rw [e ds nb]; exact nb, by rw [e ds nb]; exact q1, by rw [e ds nb]; exact q2⟩
end Dn

namespace Dn
open PySem PySem.Spec PyProof.Rows L2

/-! ### a def of the text and what it computes, as a caller uses it -/
structure EntD (P : Program) (w : World) (K : PySem.W.Frag) (mg : Str → Option Value) (base : Heap) (G : Str → Addr) (x : Str) (k n : Nat) (F : List D → R D) : Prop where
  ex : ∃ f fd ps, FnOk P w K mg base CX0 k f fd ps (spD K G n F) ∧ Binds K fd ps [] ∧ mg x = some (.ref f) ∧ PySem.W.keepIn K (.ref f) = true
/-- a constant of the module -/
def CstD (K : PySem.W.Frag) (mg : Str → Option Value) (x : Str) (d : D) : Prop := ∃ v u, mg x = some u ∧ RelV v u ∧ ∀ H, Rp K H v d
/-- a def of the text as it stands behind the top -/
structure FunE (K : PySem.W.Frag) (mg : Str → Option Value) (x : Str) (st : Stmt) (ps : List Str) : Prop where
  ex : ∃ f fd, Fun K x x st f fd ∧ Binds K fd ps [] ∧ mg x = some (.ref f)
section
variable {G : Str → Addr} {E : XK} {X : Cx} {pos p p2 : Pos} {a b e : Expr} {es : List Expr}
theorem de_callE {x : Str} {k n : Nat} {F : List D → R D} {g} (h : EntD X.prog X.w X.K X.mg X.base G x k n F) (hr : Room k X.A) (hg : Gl X x) (ha : Da G E0 X (e :: es) g) (hdb : (x == ("__debug__" : Str)) = false := by decide)
    (he : starEach (e :: es) X.env = (false, eval e X.env) :: starEach es X.env := by rfl) (hpl : (backTo pos (starEach es X.env)).any (·.1) = false := by rfl) : De G E0 X (.Call (.Name x p) (e :: es) [] pos) (dCallN n F g) := by
  obtain ⟨f, fd, ps, h1, h2, h3, h4⟩ := h.ex
  exact de_call h1 hr hg h3 h4 h2 pass0 ha hdb he hpl
theorem de_cst {x : Str} {d : D} (h : CstD X.K X.mg x d) (hg : Gl X x) (hd : (x == ("__debug__" : Str)) = false := by decide) : De G E X (.Name x pos) (dC d) := by
  obtain ⟨v, u, h1, h2, h3⟩ := h
  exact de_glob hg h1 h2 h3 hd
theorem entD {P : Program} {w : World} {K : PySem.W.Frag} {mg : Str → Option Value} {base : Heap} {x : Str} {st : Stmt} {N ps : List Str} {k m n : Nat} {b : DSt → R Out} (F : FunE K mg x st ps) (S : FnScope N ps (defScope st)) (hm : N.length = m) (hn : ps.length = n)
    (hb : ∀ (f : Addr) (cdv : Value) (A : Around) (outer : List Env) (s : Shared) (H : Hp) (E : XK), Room k (A.deeper (envOfC x (defScope st) s.heap.objs.size f cdv)) → Dss G E0 (cxOf CX0 P w K mg base N x (defScope st) f cdv A outer s H E).nox (defBody st) b) :
    EntD P w K mg base G x (k + 1) n fun ds => (runF m b ds).noer := by
  obtain ⟨f, fd, h1, h2, h3⟩ := F.ex
  exact ⟨f, fd, ps, fnD h1 S hm hn (hb f), h2, h3, h1.kp⟩
theorem EntD.to {P : Program} {w : World} {K : PySem.W.Frag} {mg : Str → Option Value} {base : Heap} {x : Str} {k n : Nat} {F F' : List D → R D} (h : EntD P w K mg base G x k n F) (e : ∀ ds, F' ds ≠ .bad → F ds = F' ds) : EntD P w K mg base G x k n F' := by
  obtain ⟨f, fd, ps, h1, h2⟩ := h.ex
  exact ⟨f, fd, ps, FnOk.toD h1 e, h2⟩
theorem EntD.mono {P : Program} {w : World} {K : PySem.W.Frag} {mg : Str → Option Value} {base : Heap} {x : Str} {j k n : Nat} {F : List D → R D} (h : EntD P w K mg base G x j n F) (l : j ≤ k) : EntD P w K mg base G x k n F := by
  obtain ⟨f, fd, ps, h1, h2⟩ := h.ex
  exact ⟨f, fd, ps, h1.mono l, h2⟩

theorem rp_ints (K : PySem.W.Frag) (H : Hp) : ∀ ns : List Int, RpAll K H (ns.map V.int) (ns.map PyData.int)
  | [] => .nil
  | n :: ns => .cons (.int n) (rp_ints K H ns)

/-! ### in, not in -/
def flatD : D → Bool
  | .none => true
  | .bool _ => true
  | .int _ => true
  | .str _ => true
  | _ => false
theorem flat_rp {K : PySem.W.Frag} {H : Hp} {v : V} {d : D} (r : Rp K H v d) (h : flatD d = true) : flatV v = true := by
  cases r <;> first | rfl | cases h
theorem eq_rp {K : PySem.W.Frag} {H : Hp} {v w : V} {d e : D} (r : Rp K H v d) (r' : Rp K H w e) (h : flatD d = true) (h' : flatD e = true) : eqV v w = PyData.eqv d e := by
  cases r with
  | lst _ _ => cases h
  | tup _ _ => cases h
  | scr _ _ => cases h
  | non => cases r' <;> first | simp only [eqV, PyData.eqv] | cases h'
  | bl _ => cases r' <;> first | simp only [eqV, PyData.eqv] | cases h'
  | int _ => cases r' <;> first | simp only [eqV, PyData.eqv] | cases h'
  | str _ => cases r' <;> first | simp only [eqV, PyData.eqv] | cases h'
theorem in_rp {K : PySem.W.Frag} {H : Hp} {v : V} {d : D} (r : Rp K H v d) (h : flatD d = true) : ∀ {vs : List V} {ds : List D}, RpAll K H vs ds → ds.all flatD = true → (vs.all flatV = true ∧ inV v vs = ds.any fun z => PyData.eqv z d)
  | _, _, .nil, _ => ⟨rfl, rfl⟩
  | _, _, .cons a b, q => by
    simp only [List.all_cons, Bool.and_eq_true] at q
    obtain ⟨h1, h2⟩ := in_rp r h b q.2
    refine ⟨by simp only [List.all_cons, Bool.and_eq_true]; exact ⟨flat_rp a q.1, h1⟩, ?_⟩
    unfold inV at h2 ⊢
    simp only [List.any_cons]
    rw [h2, eq_rp a r q.1 h]
def P.inF (neg : Bool) (x : D) (y : Op) : R D := match asSq y with
  | some ds => if flatD x && ds.all flatD then .ok (.bool (if neg then !ds.any fun z => PyData.eqv z x else ds.any fun z => PyData.eqv z x)) else .bad
  | none => match x, y with
    | .str a, .d (.str z) => match a.cps.toList with
      | [c] => .ok (.bool (if neg then !decide (c ∈ z.cps.toList) else decide (c ∈ z.cps.toList)))
      | _ => .bad
    | _, _ => .bad
def dIn (neg : Bool) (f : DSt → R D) (g : DSt → R Op) : DSt → R D := fun δ => (f δ).bind fun x => (g δ).bind fun y => P.inF neg x y
theorem str1 {a : Str} {c : Nat} (h : a.cps.toList = [c]) : a = ⟨#[c]⟩ := by
  cases a with
  | mk cps =>
    have : cps = #[c] := by
      apply Array.toList_inj.mp
      exact h
    rw [this]
theorem dc_in {f g} (hm : behindInMarks .In b = false) (ha : De G E X a f) (hb : DO G E X b g) : DC G E X .In a b (dIn false f g) := by
  obtain ⟨t, h1, h2⟩ := ha
  obtain ⟨u, k1, k2⟩ := hb
  refine ⟨_, _, _, op_or op_in_seq op_in_sign, h1, k1, hm, ev_op sV mV h2 k2 fun x y v w Hs Hs' H0 H e rx ry => ?_⟩
  unfold P.inF
  split
  · rename_i ds hd
    split
    · rename_i q
      simp only [Bool.and_eq_true] at q
      obtain ⟨p', vs, rfl, hq, r⟩ := as_sq e ry hd
      obtain ⟨i1, i2⟩ := in_rp rx q.1 r q.2
      refine fun Q k => .inl ⟨_, _, rfl, hq, flat_rp rx q.1, i1, ?_⟩
      rw [i2]
      exact k _ H0 H (.refl e) (.bl _)
    · exact True.intro
  · split
    · split
      · rename_i c hc
        cases (show Rp X.K H0 v _ from rx); cases (show Rp X.K H0 w _ from ry)
        exact fun Q k => .inr ⟨c, _, by rw [← str1 hc], rfl, k _ H0 H (.refl e) (.bl _)⟩
      · exact True.intro
    · exact True.intro
theorem dc_notIn {f g} (hm : behindInMarks .NotIn b = false) (ha : De G E X a f) (hb : DO G E X b g) : DC G E X .NotIn a b (dIn true f g) := by
  obtain ⟨t, h1, h2⟩ := ha
  obtain ⟨u, k1, k2⟩ := hb
  refine ⟨_, _, _, op_or op_notIn_seq op_notIn_sign, h1, k1, hm, ev_op sV mV h2 k2 fun x y v w Hs Hs' H0 H e rx ry => ?_⟩
  unfold P.inF
  split
  · rename_i ds hd
    split
    · rename_i q
      simp only [Bool.and_eq_true] at q
      obtain ⟨p', vs, rfl, hq, r⟩ := as_sq e ry hd
      obtain ⟨i1, i2⟩ := in_rp rx q.1 r q.2
      refine fun Q k => .inl ⟨_, _, rfl, hq, flat_rp rx q.1, i1, ?_⟩
      rw [i2]
      exact k _ H0 H (.refl e) (.bl _)
    · exact True.intro
  · split
    · split
      · rename_i c hc
        cases (show Rp X.K H0 v _ from rx); cases (show Rp X.K H0 w _ from ry)
        exact fun Q k => .inr ⟨c, _, by rw [← str1 hc], rfl, k _ H0 H (.refl e) (.bl _)⟩
      · exact True.intro
    · exact True.intro

/-! ### {'a': 'b', ..}[e], written texts -/
def dlook (kvs : List (Str × Str)) (s : Str) : Option V := valV (mergeK [] (kvs.map fun p => (Sum.inr p.1, V.str p.2))) (.inr s)
def dLit (kvs : List (Str × Str)) (f : DSt → R D) : DSt → R D := fun δ => (f δ).bind fun k => match k with
  | .str s => match dlook kvs s with
    | some (.str r) => .ok (.str r)
    | _ => .bad
  | _ => .bad
theorem pairs_str : ∀ (kvs : List (Str × Str)) (σ : L2.St) (H : Hp) (Q : List (V × V) → Hp → Prop), Q (kvs.map fun p => (V.str p.1, V.str p.2)) H → tPairs (kvs.map fun p => (tC (.str p.1), tC (.str p.2))) σ H Q
  | [], _, _, _, q => q
  | p :: r, σ, H, Q, q => pairs_str r σ H (fun ps H3 => Q ((V.str p.1, V.str p.2) :: ps) H3) q
theorem de_dlit {keys : List (Option Expr)} {values : List Expr} {kvs : List (Str × Str)} {f} (hu : X.A.units + 1 < cLine) (h : PPs X p keys values (kvs.map fun q => (tC (.str q.1), tC (.str q.2)))) (hk : De G E X e f) (hn : NoSl e)
    (h15 : kvs.length ≤ 15) (hall : keys.all (·.isSome) = true := by rfl) (hl : keys.length = values.length := by rfl) (h0 : keys ≠ [] := by intro z; cases z) (h15' : keys.length ≤ 15 := by decide) :
    De G E X (.Subscript (.Dict keys values p) e pos) (dLit kvs f) := by
  obtain ⟨t, h1, h2⟩ := hk
  refine ⟨_, pe_dget hu (pe_disp h hall hl h0 h15') h1 hn, fun B δ σ H0 H s => ?_⟩
  have key : ∀ q, H q = none → ∀ Q : V → Hp → Prop, (t σ (upd H q (.dK (mergeK [] (kvs.map fun p => (Sum.inr p.1, V.str p.2))))) fun y H2 => ∃ a v, V.ref q = .ref a ∧ DGet H2 a y (some v) ∧ Q v H2) →
      tPairs (kvs.map fun q => (tC (.str q.1), tC (.str q.2))) σ (upd H q (.dK [])) fun ps H2 => H2 q = some (.dK []) ∧ ∃ kvs : List (Key × V), ps = kvs.map (fun kv => (kV kv.1, kv.2)) ∧ kvs.length ≤ 15 ∧ (fun x H1 => t σ H1 fun y H2 => ∃ a v, x = V.ref a ∧ DGet H2 a y (some v) ∧ Q v H2) (.ref q) (upd H2 q (.dK (mergeK [] kvs))) := by
    intro q hq Q z
    refine pairs_str kvs σ _ _ ⟨upd_same, kvs.map fun p => (Sum.inr p.1, V.str p.2), ?_, by simpa using h15, ?_⟩
    · rw [List.map_map]
      rfl
    · show t σ (upd (upd H q (.dK [])) q (.dK _)) _
      rw [upd_upd]
      exact z
  have run : ∀ q, H q = none → At X.K G E (rV X.K) H0 H (fun Q => t σ (upd H q (.dK (mergeK [] (kvs.map fun p => (Sum.inr p.1, V.str p.2))))) fun y H2 => ∃ a v, V.ref q = .ref a ∧ DGet H2 a y (some v) ∧ Q v H2) (dLit kvs f δ) := by
    intro q hq
    have u0 : Up H0 H H0 (upd H q (.dK (mergeK [] (kvs.map fun p => (Sum.inr p.1, V.str p.2))))) := Up.own s.ex hq
    have z := at_bind (t := t σ (upd H q (.dK (mergeK [] (kvs.map fun p => (Sum.inr p.1, V.str p.2)))))) (k := fun y H2 Q => ∃ a v, V.ref q = .ref a ∧ DGet H2 a y (some v) ∧ Q v H2) (r2 := rV X.K) mV (h2 B δ σ H0 _ (s.up u0)) (g := fun k => match k with
      | .str s => match dlook kvs s with
        | some (.str r) => .ok (.str r)
        | _ => .bad
      | _ => .bad) fun k y H1 H1' u1 rk => by
        cases k with
        | str s' =>
          cases (show Rp X.K H1 y _ from rk)
          show At X.K G E (rV X.K) H1 H1' _ (match dlook kvs s' with | some (.str r) => R.ok (PyData.str r) | _ => .bad)
          split
          · rename_i r hr
            refine fun Q kk => ⟨q, _, rfl, ?_, kk _ H1 H1' (.refl u1.b) (.str r)⟩
            have g := DGet.k (k := Sum.inr s') (u1.c q _ upd_same)
            unfold dlook at hr
            rw [hr] at g
            exact g
          · exact True.intro
        | _ => exact True.intro
    show At X.K G E (rV X.K) H0 H _ (dLit kvs f δ)
    unfold dLit
    cases e0 : (f δ).bind (fun k => match k with
      | .str s => match dlook kvs s with
        | some (.str r) => R.ok (PyData.str r)
        | _ => .bad
      | _ => .bad) with
    | bad => exact True.intro
    | er x => rw [e0] at z; exact fun Q k => z Q fun c dd Ha Hb ua xa => k c dd Ha Hb (u0.trans ua) xa
    | ok d => rw [e0] at z; exact fun Q k => z Q fun v Ha Hb ua ra => k v Ha Hb (u0.trans ua) ra
  cases e0 : dLit kvs f δ with
  | bad => exact True.intro
  | er x =>
    intro Q k q hq
    have z := run q hq
    rw [e0] at z
    exact key q hq Q (z Q k)
  | ok d =>
    intro Q k q hq
    have z := run q hq
    rw [e0] at z
    exact key q hq Q (z Q k)
end
end Dn

namespace Dn
open PySem PySem.Spec PyProof.Rows L2

/-! ### how the combinators compute -/
section
variable {δ : DSt} {f g h : DSt → R D} {fo go : DSt → R Op} {fl gl : DSt → R (List D)} {fb gb : DSt → R Bool} {fp gp : DSt → R (Option Int)} {fs gs : DSt → R Out} {i n : Nat} {d x y : D} {ds es : List D}
@[simp] theorem dC_ap : dC d δ = .ok d := rfl
@[simp] theorem dVar_ap : dVar i δ = (match δ[i]? with | some (SV.dat d) => .ok d | _ => .bad) := rfl
@[simp] theorem dVarO_ap : dVarO i δ = (match δ[i]? with | some (SV.dat d) => .ok (.d d) | some (SV.own ds) => .ok (.o ds) | _ => .bad) := rfl
@[simp] theorem dOp_ap : dOp f δ = (f δ).bind fun d => .ok (.d d) := rfl
@[simp] theorem dAdd_ap : dAdd fo go δ = (fo δ).bind fun x => (go δ).bind fun y => P.add x y := rfl
@[simp] theorem dCatN_ap : dCatN fo go δ = (fo δ).bind fun x => (go δ).bind fun y => P.catN x y := rfl
@[simp] theorem dInt2_ap {c k} : dInt2 c k f g δ = (f δ).bind fun x => (g δ).bind fun y => P.int2 c k x y := rfl
@[simp] theorem dNeg_ap : dNeg f δ = (f δ).bind P.neg := rfl
@[simp] theorem d2_ap {p} : d2 p fo go δ = (fo δ).bind fun x => (go δ).bind fun y => p x y := rfl
@[simp] theorem dCmp_ap {c} : dCmp c f g δ = (f δ).bind fun x => (g δ).bind fun y => P.cmp c x y := rfl
@[simp] theorem dIsN_ap : dIsN fo δ = (fo δ).bind fun x => .ok (P.isN x) := rfl
@[simp] theorem dNotN_ap : dNotN fo δ = (fo δ).bind fun x => .ok (P.notN x) := rfl
@[simp] theorem dTru_ap : dTru f δ = (f δ).bind P.tru := rfl
@[simp] theorem dNot_ap : dNot fb δ = (fb δ).bind fun b => .ok (!b) := rfl
@[simp] theorem dAnd_ap : dAnd fb gb δ = (fb δ).bind fun b => if b then gb δ else .ok false := rfl
@[simp] theorem dOr_ap : dOr fb gb δ = (fb δ).bind fun b => if b then .ok true else gb δ := rfl
@[simp] theorem dAndV_ap : dAndV f g δ = (f δ).bind fun x => (P.tru x).bind fun b => if b then g δ else .ok (.bool false) := rfl
@[simp] theorem dOrV_ap : dOrV f g δ = (f δ).bind fun x => (P.tru x).bind fun b => if b then .ok (.bool true) else g δ := rfl
@[simp] theorem dNotV_ap : dNotV f δ = (f δ).bind fun x => (P.tru x).bind fun b => .ok (.bool (!b)) := rfl
@[simp] theorem dIf_ap {α : Type} {f g : DSt → R α} : dIf fb f g δ = (fb δ).bind fun b => if b then f δ else g δ := rfl
@[simp] theorem dNil_ap : dNil δ = .ok [] := rfl
@[simp] theorem dCons_ap : dCons f fl δ = (f δ).bind fun x => (fl δ).bind fun xs => .ok (x :: xs) := rfl
@[simp] theorem dTup_ap : dTup fl δ = (fl δ).bind fun xs => if xs.length ≤ LIM then .ok (.tuple xs) else .bad := rfl
@[simp] theorem dLst_ap : dLst fl δ = (fl δ).bind fun xs => if xs.length ≤ LIM then .ok (.list xs) else .bad := rfl
@[simp] theorem dLstN_ap : dLstN fl δ = (fl δ).bind fun xs => if xs.length ≤ LIM then .ok xs else .bad := rfl
@[simp] theorem dFre_ap : dFre fl δ = (fl δ).bind fun xs => .ok (.list xs) := rfl
@[simp] theorem dIdx_ap : dIdx fo g δ = (fo δ).bind fun x => (g δ).bind fun y => P.idx x y := rfl
@[simp] theorem dNoPart_ap : dNoPart δ = .ok none := rfl
@[simp] theorem dPart_ap : dPart f δ = (f δ).bind P.part := rfl
@[simp] theorem dSlice_ap : dSlice fo fp gp δ = (fo δ).bind fun x => (fp δ).bind fun lo => (gp δ).bind fun hi => P.slice x lo hi := rfl
@[simp] theorem dLen_ap : dLen fo δ = (fo δ).bind P.len := rfl
@[simp] theorem dIsi_ap {T} : dIsi T fo δ = (fo δ).bind (P.isi T) := rfl
@[simp] theorem dToInt_ap : dToInt fo δ = (fo δ).bind P.toInt := rfl
@[simp] theorem dCall1_ap {p} : dCall1 p fl δ = (fl δ).bind p := rfl
@[simp] theorem d1_ap {p} : d1 p fo δ = (fo δ).bind p := rfl
@[simp] theorem dListN_ap : dListN fo δ = (fo δ).bind P.listN := rfl
@[simp] theorem dItems_ap : dItems f δ = (f δ).bind P.items := rfl
@[simp] theorem dItemsO_ap : dItemsO fo δ = (fo δ).bind P.itemsO := rfl
@[simp] theorem dRng_ap {p} : dRng p fl δ = (fl δ).bind p := rfl
@[simp] theorem dLc_ap {tg c vs} : dLc fl tg c f vs δ = (fl δ).bind fun ds => if ds.length ≤ LIM then lcGo tg c f (fgt δ vs) ds else .bad := rfl
@[simp] theorem dYes_ap : dYes δ = .ok true := rfl
@[simp] theorem dNext_ap : dNext δ = .ok (.nx δ) := rfl
@[simp] theorem dBrk_ap : dBrk δ = .ok (.bk δ) := rfl
@[simp] theorem dCnt_ap : dCnt δ = .ok (.ct δ) := rfl
@[simp] theorem dRet_ap : dRet f δ = (f δ).bind fun d => .ok (.rt d) := rfl
@[simp] theorem dSet_ap : dSet i f δ = (f δ).bind fun d => .ok (.nx (δ.set i (.dat d))) := rfl
@[simp] theorem dSetN_ap : dSetN i fl δ = (fl δ).bind fun d => .ok (.nx (δ.set i (.own d))) := rfl
@[simp] theorem dAsg_ap {t} : dAsg f t δ = (f δ).bind fun d => match t d δ with | some δ' => .ok (.nx δ') | none => .bad := rfl
@[simp] theorem dApp_ap : dApp i f δ = (match δ[i]? with | some (SV.own ds) => (f δ).bind fun d => if ds.length < LIM then .ok (.nx (δ.set i (.own (ds ++ [d])))) else .bad | _ => .bad) := rfl
@[simp] theorem dSeq_ap : dSeq fs gs δ = (fs δ).bind fun o => match o with | .nx δ' => gs δ' | o => .ok o := rfl
@[simp] theorem dFor_ap {tg} {vs : List Nat} : dFor fl tg fs vs δ = (fl δ).bind fun ds => forGo tg fs vs ds δ := rfl
@[simp] theorem dLend_ap {is : List Nat} : dLend is f δ = (match f (frzL is δ) with | .ok d => if plain d then .ok d else .bad | _ => .bad) := rfl
@[simp] theorem dLendT_ap {is : List Nat} : dLendT is fb δ = (match fb (frzL is δ) with | .ok d => .ok d | _ => .bad) := rfl
@[simp] theorem dCallN_ap {F} : dCallN n F fl δ = (fl δ).bind fun ds => if ds.length = n then F ds else .bad := rfl
@[simp] theorem dIn_ap {b} : dIn b f go δ = (f δ).bind fun x => (go δ).bind fun y => P.inF b x y := rfl
@[simp] theorem frzL_nil : frzL [] δ = δ := rfl
@[simp] theorem frzL_cons {is : List Nat} : frzL (i :: is) δ = frz1 i (frzL is δ) := rfl
@[simp] theorem frz1_ap : frz1 i δ = (match δ[i]? with | some (SV.own ds) => δ.set i (.dat (.list ds)) | _ => δ) := rfl
@[simp] theorem fgt_nil : fgt δ [] = δ := rfl
@[simp] theorem fgt_cons {is : List Nat} : fgt δ (i :: is) = (fgt δ is).set i .no := rfl
@[simp] theorem gN_ap : gN i d δ = some (δ.set i (.dat d)) := rfl
@[simp] theorem gsN_nil : gsN [] δ = some δ := rfl
@[simp] theorem gsC_cons {t u} : gsC t u (d :: ds) δ = (t d δ).bind (u ds) := rfl
@[simp] theorem gT_tup {u} : gT n u (.tuple ds) δ = if ds.length = n then u ds δ else none := rfl
@[simp] theorem lcGo_nil {t c} : lcGo t c f δ [] = .ok [] := rfl
@[simp] theorem lcGo_cons' {t c xs} : lcGo t c f δ (x :: xs) = (match t x δ with
    | none => .bad
    | some δ' => (c δ').bind fun b => if b then (f δ').bind fun y => (lcGo t c f δ xs).bind fun ys => .ok (y :: ys) else lcGo t c f δ xs) := rfl
@[simp] theorem forGo_nil {t} {vs : List Nat} : forGo t fs vs [] δ = .ok (.nx (fgt δ vs)) := rfl
end
@[simp] theorem LIM_eq : LIM = 100000 := rfl
/-! ### on plain values -/
@[simp] theorem add_int {i j : Int} : P.add (.d (.int i)) (.d (.int j)) = .ok (.int (i + j)) := rfl
@[simp] theorem add_tup {a b : List D} : P.add (.d (.tuple a)) (.d (.tuple b)) = if a.length + b.length ≤ LIM then .ok (.tuple (a ++ b)) else .bad := rfl
@[simp] theorem add_lst {a b : List D} : P.add (.d (.list a)) (.d (.list b)) = if a.length + b.length ≤ LIM then .ok (.list (a ++ b)) else .bad := rfl
@[simp] theorem add_str {a b : Str} : P.add (.d (.str a)) (.d (.str b)) = if a.length + b.length ≤ LIM then .ok (.str (a ++ b)) else .bad := rfl
@[simp] theorem int2_int {c k} {i j : Int} : P.int2 c k (.int i) (.int j) = if c i j then .ok (k i j) else .bad := rfl
@[simp] theorem neg_int {i : Int} : P.neg (.int i) = .ok (.int (-i)) := rfl
@[simp] theorem cmp_int {c} {i j : Int} : P.cmp c (.int i) (.int j) = .ok (.bool (c i j)) := rfl
@[simp] theorem tru_bool {b} : P.tru (.bool b) = .ok b := rfl
@[simp] theorem part_int {i : Int} : P.part (.int i) = .ok (some i) := rfl
@[simp] theorem toInt_int {i : Int} : P.toInt (.d (.int i)) = .ok (.int i) := rfl
@[simp] theorem len_lst {ds : List D} : P.len (.d (.list ds)) = .ok (.int ds.length) := rfl
@[simp] theorem len_tup {ds : List D} : P.len (.d (.tuple ds)) = .ok (.int ds.length) := rfl
@[simp] theorem len_own {ds : List D} : P.len (.o ds) = .ok (.int ds.length) := rfl
@[simp] theorem items_lst {ds : List D} : P.items (.list ds) = .ok ds := rfl
@[simp] theorem items_tup {ds : List D} : P.items (.tuple ds) = .ok ds := rfl
@[simp] theorem items_str {z : Str} : P.items (.str z) = .ok (signs z) := rfl
@[simp] theorem itemsO_own {ds : List D} : P.itemsO (.o ds) = .ok ds := rfl
@[simp] theorem itemsO_d {d : D} : P.itemsO (.d d) = P.items d := rfl
@[simp] theorem tuple_lst {ds : List D} : P.tuple (.d (.list ds)) = .ok (.tuple ds) := rfl
@[simp] theorem tuple_tup {ds : List D} : P.tuple (.d (.tuple ds)) = .ok (.tuple ds) := rfl
@[simp] theorem tuple_own {ds : List D} : P.tuple (.o ds) = .ok (.tuple ds) := rfl
@[simp] theorem listN_lst {ds : List D} : P.listN (.d (.list ds)) = .ok ds := rfl
@[simp] theorem listN_tup {ds : List D} : P.listN (.d (.tuple ds)) = .ok ds := rfl
@[simp] theorem slice_lst {ds : List D} {lo hi} : P.slice (.d (.list ds)) lo hi = .ok (.list (cutD ds lo hi)) := rfl
@[simp] theorem slice_tup {ds : List D} {lo hi} : P.slice (.d (.tuple ds)) lo hi = .ok (.tuple (cutD ds lo hi)) := rfl
@[simp] theorem slice_scr {ds : List D} {lo hi} : P.slice (.d (scr ds)) lo hi = .ok (.list (cutD ds lo hi)) := rfl
@[simp] theorem max2_int {i j : Int} : P.max2 [.int i, .int j] = .ok (.int (if j > i then j else i)) := rfl
@[simp] theorem min2_int {i j : Int} : P.min2 [.int i, .int j] = .ok (.int (if j < i then j else i)) := rfl
@[simp] theorem zip_tup {a b : List D} : P.zip [.tuple a, .tuple b] = .ok (pairs a b) := rfl
@[simp] theorem zip_lst {a b : List D} : P.zip [.list a, .list b] = .ok (pairs a b) := rfl
@[simp] theorem range1_int {i : Int} : P.range1 [.int i] = if i.natAbs ≤ LIM then .ok (rngD 0 i.toNat) else .bad := rfl
@[simp] theorem range2_int {i j : Int} : P.range2 [.int i, .int j] = if i.natAbs ≤ LIM ∧ j.natAbs ≤ LIM then .ok (rngD i (j - i).toNat) else .bad := rfl
theorem idx_lst {ds : List D} {i : Int} {d : D} (h : atI ds i = some d) : P.idx (.d (.list ds)) (.int i) = .ok d := by
  show (match atI ds i with | some d => R.ok d | none => .bad) = _
  rw [h]
theorem idx_tup {ds : List D} {i : Int} {d : D} (h : atI ds i = some d) : P.idx (.d (.tuple ds)) (.int i) = .ok d := by
  show (match atI ds i with | some d => R.ok d | none => .bad) = _
  rw [h]
theorem idx_own {ds : List D} {i : Int} {d : D} (h : atI ds i = some d) : P.idx (.o ds) (.int i) = .ok d := by
  show (match atI ds i with | some d => R.ok d | none => .bad) = _
  rw [h]
@[simp] theorem idx_tup' {ds : List D} {i : Int} : P.idx (.d (.tuple ds)) (.int i) = (match atI ds i with | some d => .ok d | none => .bad) := rfl
@[simp] theorem idx_lst' {ds : List D} {i : Int} : P.idx (.d (.list ds)) (.int i) = (match atI ds i with | some d => .ok d | none => .bad) := rfl
@[simp] theorem idx_own' {ds : List D} {i : Int} : P.idx (.o ds) (.int i) = (match atI ds i with | some d => .ok d | none => .bad) := rfl
@[simp] theorem sub_c {i j : Int} : cTrue i j = true := rfl
@[simp] theorem pos_c {i j : Int} : cPos i j = decide (0 < j) := rfl
@[simp] theorem div_c {i j : Int} : cDiv i j = (decide (0 < j) && decide (j < 1073741824)) := rfl
@[simp] theorem pow_c {i j : Int} : cPow i j = (decide (0 ≤ j) && decide (j ≤ 1000) && decide (i.natAbs < 2 ^ 64)) := rfl
theorem mul_r {i j : Int} (h1 : -(2 ^ 64) < j) (h2 : j < 2 ^ 64) : cMul i j = true := by
  unfold cMul
  simp only [Bool.or_eq_true, Bool.and_eq_true, decide_eq_true_eq]
  exact .inr ⟨h1, h2⟩
theorem mul_l {i j : Int} (h1 : -(2 ^ 64) < i) (h2 : i < 2 ^ 64) : cMul i j = true := by
  unfold cMul
  simp only [Bool.or_eq_true, Bool.and_eq_true, decide_eq_true_eq]
  exact .inl ⟨h1, h2⟩
/-! ### is .. a .. -/
theorem kb_nn : kitB "NoneType" "int" = some false ∧ kitB "NoneType" "bool" = some false ∧ kitB "NoneType" "str" = some false ∧ kitB "NoneType" "tuple" = some false ∧ kitB "NoneType" "list" = some false := by decide +kernel
theorem kb_bl : kitB "bool" "int" = some true ∧ kitB "bool" "bool" = some true ∧ kitB "bool" "str" = some false ∧ kitB "bool" "tuple" = some false ∧ kitB "bool" "list" = some false := by decide +kernel
theorem kb_in : kitB "int" "int" = some true ∧ kitB "int" "bool" = some false ∧ kitB "int" "str" = some false ∧ kitB "int" "tuple" = some false ∧ kitB "int" "list" = some false := by decide +kernel
theorem kb_st : kitB "str" "int" = some false ∧ kitB "str" "bool" = some false ∧ kitB "str" "str" = some true ∧ kitB "str" "tuple" = some false ∧ kitB "str" "list" = some false := by decide +kernel
theorem kb_tu : kitB "tuple" "int" = some false ∧ kitB "tuple" "bool" = some false ∧ kitB "tuple" "str" = some false ∧ kitB "tuple" "tuple" = some true ∧ kitB "tuple" "list" = some false := by decide +kernel
theorem kb_li : kitB "list" "int" = some false ∧ kitB "list" "bool" = some false ∧ kitB "list" "str" = some false ∧ kitB "list" "tuple" = some false ∧ kitB "list" "list" = some true := by decide +kernel
@[simp] theorem isi_none {T} : P.isi T (.d .none) = (match kitB "NoneType" T with | some b => .ok (.bool b) | none => .bad) := rfl
@[simp] theorem isi_bool {T b} : P.isi T (.d (.bool b)) = (match kitB "bool" T with | some b => .ok (.bool b) | none => .bad) := rfl
@[simp] theorem isi_int {T} {i : Int} : P.isi T (.d (.int i)) = (match kitB "int" T with | some b => .ok (.bool b) | none => .bad) := rfl
@[simp] theorem isi_str {T} {i : Str} : P.isi T (.d (.str i)) = (match kitB "str" T with | some b => .ok (.bool b) | none => .bad) := rfl
@[simp] theorem isi_tup {T} {i : List D} : P.isi T (.d (.tuple i)) = (match kitB "tuple" T with | some b => .ok (.bool b) | none => .bad) := rfl
@[simp] theorem isi_lst {T} {i : List D} : P.isi T (.d (.list i)) = (match kitB "list" T with | some b => .ok (.bool b) | none => .bad) := rfl
@[simp] theorem kb1 : kitB "NoneType" "int" = some false := kb_nn.1
@[simp] theorem kb2 : kitB "NoneType" "bool" = some false := kb_nn.2.1
@[simp] theorem kb3 : kitB "NoneType" "str" = some false := kb_nn.2.2.1
@[simp] theorem kb4 : kitB "NoneType" "tuple" = some false := kb_nn.2.2.2.1
@[simp] theorem kb5 : kitB "NoneType" "list" = some false := kb_nn.2.2.2.2
@[simp] theorem kb6 : kitB "bool" "int" = some true := kb_bl.1
@[simp] theorem kb7 : kitB "bool" "bool" = some true := kb_bl.2.1
@[simp] theorem kb8 : kitB "bool" "str" = some false := kb_bl.2.2.1
@[simp] theorem kb9 : kitB "bool" "tuple" = some false := kb_bl.2.2.2.1
@[simp] theorem kb10 : kitB "bool" "list" = some false := kb_bl.2.2.2.2
@[simp] theorem kb11 : kitB "int" "int" = some true := kb_in.1
@[simp] theorem kb12 : kitB "int" "bool" = some false := kb_in.2.1
@[simp] theorem kb13 : kitB "int" "str" = some false := kb_in.2.2.1
@[simp] theorem kb14 : kitB "int" "tuple" = some false := kb_in.2.2.2.1
@[simp] theorem kb15 : kitB "int" "list" = some false := kb_in.2.2.2.2
@[simp] theorem kb16 : kitB "str" "int" = some false := kb_st.1
@[simp] theorem kb17 : kitB "str" "bool" = some false := kb_st.2.1
@[simp] theorem kb18 : kitB "str" "str" = some true := kb_st.2.2.1
@[simp] theorem kb19 : kitB "str" "tuple" = some false := kb_st.2.2.2.1
@[simp] theorem kb20 : kitB "str" "list" = some false := kb_st.2.2.2.2
@[simp] theorem kb21 : kitB "tuple" "int" = some false := kb_tu.1
@[simp] theorem kb22 : kitB "tuple" "bool" = some false := kb_tu.2.1
@[simp] theorem kb23 : kitB "tuple" "str" = some false := kb_tu.2.2.1
@[simp] theorem kb24 : kitB "tuple" "tuple" = some true := kb_tu.2.2.2.1
@[simp] theorem kb25 : kitB "tuple" "list" = some false := kb_tu.2.2.2.2
@[simp] theorem kb26 : kitB "list" "int" = some false := kb_li.1
@[simp] theorem kb27 : kitB "list" "bool" = some false := kb_li.2.1
@[simp] theorem kb28 : kitB "list" "str" = some false := kb_li.2.2.1
@[simp] theorem kb29 : kitB "list" "tuple" = some false := kb_li.2.2.2.1
@[simp] theorem kb30 : kitB "list" "list" = some true := kb_li.2.2.2.2
/-! ### == -/
@[simp] theorem eq_int {i j : Int} : P.eq (.d (.int i)) (.d (.int j)) = .ok (.bool (i == j)) := by simp [P.eq, opD, SeqAt.shaped, PyData.canLay0, PyData.depth, PyData.eqv]
@[simp] theorem ne_int {i j : Int} : P.ne (.d (.int i)) (.d (.int j)) = .ok (.bool (!(i == j))) := by simp [P.ne, opD, SeqAt.shaped, PyData.canLay0, PyData.depth, PyData.eqv]
@[simp] theorem eq_bool {i j : Bool} : P.eq (.d (.bool i)) (.d (.bool j)) = .ok (.bool (i == j)) := by simp [P.eq, opD, SeqAt.shaped, PyData.canLay0, PyData.depth, PyData.eqv]
/-! ### loops -/
/-- a loop whose turns only go on: its state by what was gone through -/
theorem forGo_inv {tg b fs} {ds : List D} {δ : DSt} (I : Nat → DSt → Prop) (h0 : I 0 (fgt δ fs)) (hs : ∀ i d δ, ds[i]? = some d → I i δ → ∃ δ1 δ2, tg d δ = some δ1 ∧ (b δ1 = .ok (.nx δ2) ∨ b δ1 = .ok (.ct δ2)) ∧ I (i + 1) (fgt δ2 fs)) :
    ∃ δ', forGo tg b fs ds δ = .ok (.nx δ') ∧ I ds.length δ' := by
  suffices H : ∀ (k : Nat) (es : List D) (δ : DSt), ds.drop k = es → k ≤ ds.length → I k (fgt δ fs) → ∃ δ', forGo tg b fs es δ = .ok (.nx δ') ∧ I ds.length δ' from H 0 ds δ (by simp) (Nat.zero_le _) h0
  intro k es
  induction es generalizing k with
  | nil =>
    intro δ hd hk hI
    have : k = ds.length := by
      have := congrArg List.length hd
      simp at this
      omega
    subst this
    exact ⟨_, rfl, hI⟩
  | cons x xs ih =>
    intro δ hd hk hI
    have hlt : k < ds.length := by
      have := congrArg List.length hd
      simp at this
      omega
    have hx : ds[k]? = some x := by
      have := congrArg (·[0]?) hd
      simpa using this
    have hxs : ds.drop (k + 1) = xs := by
      rw [← List.tail_drop, hd]; rfl
    obtain ⟨δ1, δ2, h1, h2, h3⟩ := hs k x _ hx hI
    rw [forGo_cons, h1]
    rcases h2 with h2 | h2
    · simp only [h2, R.bind_ok]
      exact ih (k + 1) δ2 hxs hlt h3
    · simp only [h2, R.bind_ok]
      exact ih (k + 1) δ2 hxs hlt h3
/-- the same, with a break -/
theorem forGo_brk {tg b fs} {ds : List D} {δ : DSt} (I : Nat → DSt → Prop) (J : DSt → Prop) (h0 : I 0 (fgt δ fs)) (hJ : ∀ δ, I ds.length δ → J δ)
    (hs : ∀ i d δ, ds[i]? = some d → I i δ → ∃ δ1 δ2, tg d δ = some δ1 ∧ (((b δ1 = .ok (.nx δ2) ∨ b δ1 = .ok (.ct δ2)) ∧ I (i + 1) (fgt δ2 fs)) ∨ (b δ1 = .ok (.bk δ2) ∧ J (fgt δ2 fs)))) :
    ∃ δ', forGo tg b fs ds δ = .ok (.nx δ') ∧ J δ' := by
  suffices H : ∀ (k : Nat) (es : List D) (δ : DSt), ds.drop k = es → k ≤ ds.length → I k (fgt δ fs) → ∃ δ', forGo tg b fs es δ = .ok (.nx δ') ∧ J δ' from H 0 ds δ (by simp) (Nat.zero_le _) h0
  intro k es
  induction es generalizing k with
  | nil =>
    intro δ hd hk hI
    have : k = ds.length := by
      have := congrArg List.length hd
      simp at this
      omega
    subst this
    exact ⟨_, rfl, hJ _ hI⟩
  | cons x xs ih =>
    intro δ hd hk hI
    have hlt : k < ds.length := by
      have := congrArg List.length hd
      simp at this
      omega
    have hx : ds[k]? = some x := by
      have := congrArg (·[0]?) hd
      simpa using this
    have hxs : ds.drop (k + 1) = xs := by
      rw [← List.tail_drop, hd]; rfl
    obtain ⟨δ1, δ2, h1, h2⟩ := hs k x _ hx hI
    rw [forGo_cons, h1]
    rcases h2 with ⟨h2 | h2, h3⟩ | ⟨h2, h3⟩
    · simp only [h2, R.bind_ok]
      exact ih (k + 1) δ2 hxs hlt h3
    · simp only [h2, R.bind_ok]
      exact ih (k + 1) δ2 hxs hlt h3
    · simp only [h2, R.bind_ok]
      exact ⟨_, rfl, h3⟩
/-- a comprehension that keeps all -/
theorem lcGo_map {tg f δ} {ds : List D} (k : D → D) (h : ∀ d, d ∈ ds → ∃ δ', tg d δ = some δ' ∧ f δ' = .ok (k d)) : lcGo tg (fun _ => R.ok true) f δ ds = .ok (ds.map k) := by
  induction ds with
  | nil => rfl
  | cons x xs ih =>
    obtain ⟨δ', h1, h2⟩ := h x (by simp)
    rw [lcGo_cons, h1]
    simp only [R.bind_ok, if_true, h2]
    rw [ih fun d hd => h d (by simp [hd])]
    rfl
theorem lcGo_filter {tg c f δ} {ds : List D} (p : D → Bool) (k : D → D) (h : ∀ d, d ∈ ds → ∃ δ', tg d δ = some δ' ∧ c δ' = .ok (p d) ∧ (p d = true → f δ' = .ok (k d))) : lcGo tg c f δ ds = .ok ((ds.filter p).map k) := by
  induction ds with
  | nil => rfl
  | cons x xs ih =>
    obtain ⟨δ', h1, h2, h3⟩ := h x (by simp)
    rw [lcGo_cons, h1]
    simp only [h2, R.bind_ok]
    have r := ih fun d hd => h d (by simp [hd])
    cases hp : p x with
    | true =>
      simp only [if_true, h3 hp, R.bind_ok, r, List.filter_cons, hp, List.map_cons]
    | false =>
      simp only [r, List.filter_cons, hp]
      rfl
theorem rngD_mem {lo : Int} {n i : Nat} {d : D} (h : (rngD lo n)[i]? = some d) : i < n ∧ d = .int (lo + (i : Nat)) := by
  have hl := (List.getElem?_eq_some_iff.mp h).1
  rw [rngD_len] at hl
  rw [rngD_get hl] at h
  exact ⟨hl, (Option.some.inj h).symm⟩
theorem atI_in {α : Type} {xs : List α} {i : Int} (h0 : 0 ≤ i) (h1 : i < xs.length) : ∃ x, atI xs i = some x ∧ x ∈ xs := by
  have hk : i.toNat < xs.length := by omega
  refine ⟨xs[i.toNat], ?_, List.getElem_mem hk⟩
  have e : i = ((i.toNat : Nat) : Int) := by omega
  have q : atI xs ((i.toNat : Nat) : Int) = some xs[i.toNat] := atI_nat (List.getElem?_eq_getElem hk)
  rw [← e] at q
  exact q
end Dn

/-! what the laws' own small defs compute: numbers, draw -/
namespace DnL
open PySem PySem.Spec PyProof.Rows L2 Dn
def b_numbers : DSt → R Out := dSeq (dSetN 1 (dLstN dNil)) (dSeq (dFor (dItems (dSlice (dOp (dVar 0)) dNoPart (dPart (dC (.int 63))))) (gN 2) (dIf (dTru (dGe (dVar 2) (dPow (dC (.int 10)) (dC (.int 18))))) (dSeq (dSet 3 (dVar 2)) (dFor (dRng P.range1 (dCons (dC (.int 60)) dNil)) (gN 4) (dSeq (dIf (dTru (d2 P.eq (dOp (dVar 3)) (dOp (dC (.int 0))))) dBrk dNext) (dSeq (dApp 1 (dMod (dToInt (dOp (dVar 3))) (dC (.int 997)))) (dSet 3 (dDiv (dVar 3) (dC (.int 997)))))) [4])) (dFor (dRng P.range1 (dCons (dC (.int 4)) dNil)) (gN 4) (dSeq (dSet 5 (dMod (dToInt (dOp (dAdd (dOp (dAdd (dOp (dMul (dVar 2) (dC (.int 48271)))) (dOp (dMul (dVar 4) (dC (.int 69621)))))) (dOp (dC (.int 11)))))) (dC (.int 2147483647)))) (dApp 1 (dMod (dToInt (dOp (dAdd (dOp (dMul (dVar 5) (dC (.int 16807)))) (dOp (dVar 4))))) (dC (.int 2147483629))))) [4, 5])) [2, 3, 4, 5]) (dSeq (dIf (dTru (d2 P.eq (dOp (dLen (dVarO 1))) (dOp (dC (.int 0))))) (dApp 1 (dC (.int 0))) dNext) ((fun δ => (dRet (dVar 1)) (frz1 1 δ)))))
def b_draw : DSt → R Out := dSeq (dIf (dTru (dLt (dVar 1) (dLen (dOp (dVar 0))))) (dRet (dMod (dToInt (dOp (dIdx (dOp (dVar 0)) (dVar 1)))) (dVar 2))) dNext) (dSeq (dSet 3 (dMod (dToInt (dOp (dAdd (dOp (dAdd (dOp (dMul (dIdx (dOp (dVar 0)) (dMod (dToInt (dOp (dVar 1))) (dLen (dOp (dVar 0))))) (dC (.int 40692)))) (dOp (dMul (dVar 1) (dC (.int 7919)))))) (dOp (dC (.int 3)))))) (dC (.int 2147483399)))) (dRet (dMod (dToInt (dOp (dMod (dToInt (dOp (dAdd (dOp (dMul (dVar 3) (dC (.int 48271)))) (dOp (dVar 1))))) (dC (.int 2147483647))))) (dVar 2))))
def F_numbers : List D → R D := fun ds => (runF 6 b_numbers ds).noer
def F_draw : List D → R D := fun ds => (runF 4 b_draw ds).noer
theorem ge_cut (ns : List Int) : (Dn.cutD (ns.map PyData.int) none (some 63)) = (ns.take 63).map PyData.int := by
  unfold Dn.cutD
  rw [HT.sIx_none, show (some (63 : Int)) = some ((63 : Nat) : Int) from rfl, HT.sIx_nat]
  simp [List.map_take, Nat.min_comm]
theorem map_snoc (ms : List Int) (n : Int) : ms.map PyData.int ++ [PyData.int n] = (ms ++ [n]).map PyData.int := by simp
/-- the row grows by whole numbers alone -/
def Row (s : SV) (m : Nat) (a b : SV) (δ : DSt) : Prop := ∃ ms : List Int, δ = [s, .own (ms.map PyData.int), a, b, .no, .no] ∧ ms.length ≤ m
def RowL (s : SV) (m : Nat) (a : SV) (δ : DSt) : Prop := ∃ l : Int, Row s m a (.dat (.int l)) δ
def great : DSt → R Out := dSeq (dIf (dTru (d2 P.eq (dOp (dVar 3)) (dOp (dC (.int 0))))) dBrk dNext) (dSeq (dApp 1 (dMod (dToInt (dOp (dVar 3))) (dC (.int 997)))) (dSet 3 (dDiv (dVar 3) (dC (.int 997)))))
theorem great_ok (s : SV) (m : Nat) (hm : m ≤ 4000) (c l : Int) (ms : List Int) (hl : ms.length ≤ m) : ∃ δ', forGo (gN 4) great [4] (rngD 0 60) [s, .own (ms.map PyData.int), .dat (.int c), .dat (.int l), .no, .no] = .ok (.nx δ') ∧ RowL s (m + 60) (.dat (.int c)) δ' := by
  refine forGo_brk (fun i δ => i ≤ 60 ∧ RowL s (m + i) (.dat (.int c)) δ) (RowL s (m + 60) (.dat (.int c))) ⟨by decide, l, ms, rfl, hl⟩ (fun δ h => ?_) fun i d δ hd ⟨hi, l, ms, e, hl⟩ => ?_
  · rw [rngD_len] at h
    exact h.2
  · subst e
    obtain ⟨h60, rfl⟩ := rngD_mem hd
    have hlen : ms.length < 100000 := by omega
    by_cases h0 : l = 0
    · subst h0
      refine ⟨_, _, rfl, .inr ⟨by simp [great]; rfl, 0, ms, rfl, by omega⟩⟩
    · refine ⟨_, [s, .own ((ms ++ [l % 997]).map PyData.int), .dat (.int c), .dat (.int (l / 997)), .dat (.int (0 + (i : Nat))), .no], rfl, .inl ⟨.inl (by simp [great, h0, hlen]), by omega, _, _, rfl, by simp; omega⟩⟩
def small : DSt → R Out := dSeq (dSet 5 (dMod (dToInt (dOp (dAdd (dOp (dAdd (dOp (dMul (dVar 2) (dC (.int 48271)))) (dOp (dMul (dVar 4) (dC (.int 69621)))))) (dOp (dC (.int 11)))))) (dC (.int 2147483647)))) (dApp 1 (dMod (dToInt (dOp (dAdd (dOp (dMul (dVar 5) (dC (.int 16807)))) (dOp (dVar 4))))) (dC (.int 2147483629))))
theorem small1 (s : SV) (c j : Int) (ms : List D) (hlen : ms.length < 100000) : ∃ y z : Int, small [s, .own ms, .dat (.int c), .no, .dat (.int j), .no] = .ok (.nx [s, .own (ms ++ [.int y]), .dat (.int c), .no, .dat (.int j), .dat (.int z)]) := by
  refine ⟨((c * 48271 + j * 69621 + 11) % 2147483647 * 16807 + j) % 2147483629, (c * 48271 + j * 69621 + 11) % 2147483647, ?_⟩
  have m1 : ∀ x : Int, cMul x 48271 = true := fun x => mul_r (by decide) (by decide)
  have m2 : ∀ x : Int, cMul x 69621 = true := fun x => mul_r (by decide) (by decide)
  have m3 : ∀ x : Int, cMul x 16807 = true := fun x => mul_r (by decide) (by decide)
  simp [small, m1, m2, m3, hlen]
theorem small_ok (s : SV) (m : Nat) (hm : m ≤ 4000) (c : Int) (ms : List Int) (hl : ms.length ≤ m) : ∃ δ', forGo (gN 4) small [4, 5] (rngD 0 4) [s, .own (ms.map PyData.int), .dat (.int c), .no, .no, .no] = .ok (.nx δ') ∧ Row s (m + 4) (.dat (.int c)) .no δ' := by
  obtain ⟨δ', h1, h2, h3⟩ := forGo_inv (tg := gN 4) (b := small) (fs := [4, 5]) (ds := rngD 0 4) (δ := [s, .own (ms.map PyData.int), .dat (.int c), .no, .no, .no]) (fun i δ => i ≤ 4 ∧ Row s (m + i) (.dat (.int c)) .no δ) ⟨by decide, ms, rfl, hl⟩ fun i d δ hd ⟨hi, ms, e, hl⟩ => by
    subst e
    obtain ⟨h4, rfl⟩ := rngD_mem hd
    obtain ⟨y, z, h⟩ := small1 s c (0 + (i : Nat)) (ms.map PyData.int) (by simp; omega)
    exact ⟨_, _, rfl, .inl h, by omega, ms ++ [y], by rw [← map_snoc]; rfl, by simp; omega⟩
  exact ⟨δ', h1, by rw [rngD_len] at h3; exact h3⟩
theorem numbers_ok (ns : List Int) (hl : ns.length ≤ 63) : ∃ row : List Int, F_numbers [scr (ns.map PyData.int)] = .ok (.list (row.map PyData.int)) ∧ row ≠ [] ∧ row.length ≤ 3900 := by
  unfold F_numbers b_numbers
  simp only [runF, dSeq_ap, dSetN_ap, dLstN_ap, dNil_ap, R.bind_ok]
  rw [if_pos (by decide)]
  simp only [R.bind_ok, dFor_ap, dItems_ap, dSlice_ap, dOp_ap, dVar_ap, dNoPart_ap, dPart_ap, dC_ap]
  have s0 : (List.map SV.dat [scr (ns.map PyData.int)] ++ List.replicate (6 - [scr (ns.map PyData.int)].length) SV.no).set 1 (SV.own []) = [.dat (scr (ns.map PyData.int)), .own [], .no, .no, .no, .no] := rfl
  rw [s0]
  simp only [List.getElem?_cons_zero, R.bind_ok, part_int, slice_scr, ge_cut, items_lst]
  have L := forGo_inv (tg := gN 2) (fs := [2, 3, 4, 5]) (δ := [.dat (scr (ns.map PyData.int)), .own [], .no, .no, .no, .no]) (ds := (ns.take 63).map PyData.int)
    (b := dIf (dTru (dGe (dVar 2) (dPow (dC (.int 10)) (dC (.int 18))))) (dSeq (dSet 3 (dVar 2)) (dFor (dRng P.range1 (dCons (dC (.int 60)) dNil)) (gN 4) great [4])) (dFor (dRng P.range1 (dCons (dC (.int 4)) dNil)) (gN 4) small [4, 5]))
    (fun i δ => i ≤ 63 ∧ Row (.dat (scr (ns.map PyData.int))) (60 * i) .no .no δ) ⟨by decide, [], rfl, by simp⟩ fun i d δ hd ⟨_, ms, e, hlm⟩ => by
    subst e
    have hi : i < 63 := by
      have := (List.getElem?_eq_some_iff.mp hd).1
      simp at this
      omega
    obtain ⟨c, rfl⟩ : ∃ c : Int, d = .int c := by
      rw [List.getElem?_map] at hd
      cases q : (ns.take 63)[i]? with
      | none => rw [q] at hd; cases hd
      | some c => rw [q] at hd; exact ⟨c, (Option.some.inj hd).symm⟩
    by_cases hc : (10 : Int) ^ 18 ≤ c
    · obtain ⟨δ', h1, l, ms', rfl, h3⟩ := great_ok (.dat (scr (ns.map PyData.int))) (60 * i) (by omega) c c ms hlm
      refine ⟨_, [.dat (scr (ns.map PyData.int)), .own (ms'.map PyData.int), .dat (.int c), .dat (.int l), .no, .no], rfl, .inl ?_, by omega, ms', rfl, by omega⟩
      have hc' : (1000000000000000000 : Int) ≤ c := hc
      simp [hc', show Int.toNat 60 = 60 from rfl]
      rw [h1]
    · obtain ⟨δ', h1, ms', rfl, h3⟩ := small_ok (.dat (scr (ns.map PyData.int))) (60 * i) (by omega) c ms hlm
      refine ⟨_, [.dat (scr (ns.map PyData.int)), .own (ms'.map PyData.int), .dat (.int c), .no, .no, .no], rfl, .inl ?_, by omega, ms', rfl, by omega⟩
      have hc' : ¬ (1000000000000000000 : Int) ≤ c := hc
      simp [hc', show Int.toNat 4 = 4 from rfl]
      rw [h1]
  obtain ⟨δ', h1, h2, ms, rfl, h3⟩ := L
  unfold great small at h1
  rw [h1]
  simp only [R.bind_ok]
  by_cases hn : ms = []
  · subst hn
    exact ⟨[0], by simp, by simp, by simp⟩
  · have hn' : ¬ ms.length = 0 := by simpa using hn
    refine ⟨ms, by simp [hn], hn, by omega⟩
theorem draw_ok (row : List Int) (a k : Int) (hr : row ≠ []) (hl : row.length ≤ 100000) (h0 : 0 ≤ a) (hk : 0 < k) : ∃ n : Int, F_draw [.list (row.map PyData.int), .int a, .int k] = .ok (.int n) ∧ 0 ≤ n ∧ n < k := by
  have hk' : ¬ k = 0 := by omega
  have m1 : ∀ x : Int, cMul x 40692 = true := fun x => mul_r (by decide) (by decide)
  have m2 : ∀ x : Int, cMul x 7919 = true := fun x => mul_r (by decide) (by decide)
  have m3 : ∀ x : Int, cMul x 48271 = true := fun x => mul_r (by decide) (by decide)
  have hpos : 0 < row.length := List.length_pos_iff.mpr hr
  by_cases ha : a < row.length
  · obtain ⟨d, h1, h2⟩ := atI_in (xs := row.map PyData.int) (i := a) h0 (by simpa using ha)
    obtain ⟨c, _, rfl⟩ := List.mem_map.mp h2
    refine ⟨c % k, ?_, Int.emod_nonneg _ hk', Int.emod_lt_of_pos _ hk⟩
    simp [F_draw, runF, b_draw, ha, h1, hk]
  · obtain ⟨d, h1, h2⟩ := atI_in (xs := row.map PyData.int) (i := a % (row.length : Int)) (Int.emod_nonneg _ (by omega)) (by simpa using Int.emod_lt_of_pos a (by omega : (0 : Int) < row.length))
    obtain ⟨c, _, rfl⟩ := List.mem_map.mp h2
    have hp : (0 : Int) < row.length := by omega
    refine ⟨((c * 40692 + a * 7919 + 3) % 2147483399 * 48271 + a) % 2147483647 % k, ?_, Int.emod_nonneg _ hk', Int.emod_lt_of_pos _ hk⟩
    simp [F_draw, runF, b_draw, ha, h1, hk, m1, m2, m3, hpos]
end DnL

namespace K02
open PySem PySem.Spec PyProof.Rows L2 Dn
abbrev K_HANDS : D := (.tuple [(.int 1), (.int 2), (.int 3), (.int 4)])
abbrev K_NOUGHT : D := (.tuple [(.int 0), (.int 0), (.int 0), (.int 0)])
abbrev N_is_integer : List Str := [(Str.ofString "value")]
def b_is_integer : DSt → R Out := dRet (dAndV (dIsi "int" (dOp (dVar 0))) (dNotV (dIsi "bool" (dOp (dVar 0)))))
def F_is_integer : List D → R D := fun ds => (runF 1 b_is_integer ds).noer
abbrev N_is_number : List Str := [(Str.ofString "value"), (Str.ofString "least")]
def b_is_number : DSt → R Out := dRet (dAndV (dCallN 1 F_is_integer (dCons (dVar 0) dNil)) (dGe (dVar 0) (dVar 1)))
def F_is_number : List D → R D := fun ds => (runF 2 b_is_number ds).noer
abbrev N_is_clock : List Str := [(Str.ofString "value"), (Str.ofString "one")]
def b_is_clock : DSt → R Out := dSeq (dIf (dOr (dNot (dTru (dIsi "tuple" (dOp (dVar 0))))) (dTru (d2 P.ne (dOp (dLen (dOp (dVar 0)))) (dOp (dLen (dOp (dC K_HANDS))))))) (dRet (dC (.bool false))) dNext) (dRet (d1 P.all (dOp (dFre (dLc (dItems (dVar 0)) (gN 1) (fun δ => (dYes δ).noer) (fun δ => ((dCallN 2 F_is_number (dCons (dVar 1) (dCons (dC (.int 0)) dNil))) δ).noer) [1])))))
def F_is_clock : List D → R D := fun ds => (runF 2 b_is_clock ds).noer
abbrev N_joined : List Str := [(Str.ofString "a"), (Str.ofString "b"), (Str.ofString "one"), (Str.ofString "other")]
def b_joined : DSt → R Out := dRet (d1 P.tuple (dOp (dFre (dLc (dRng P.zip (dCons (dVar 0) (dCons (dVar 1) dNil))) (gT 2 (gsC (gN 2) (gsC (gN 3) gsN))) (fun δ => (dYes δ).noer) (fun δ => ((dCall1 P.max2 (dCons (dVar 2) (dCons (dVar 3) dNil))) δ).noer) [2, 3]))))
def F_joined : List D → R D := fun ds => (runF 4 b_joined ds).noer
abbrev N_met : List Str := [(Str.ofString "a"), (Str.ofString "b"), (Str.ofString "one"), (Str.ofString "other")]
def b_met : DSt → R Out := dRet (d1 P.tuple (dOp (dFre (dLc (dRng P.zip (dCons (dVar 0) (dCons (dVar 1) dNil))) (gT 2 (gsC (gN 2) (gsC (gN 3) gsN))) (fun δ => (dYes δ).noer) (fun δ => ((dCall1 P.min2 (dCons (dVar 2) (dCons (dVar 3) dNil))) δ).noer) [2, 3]))))
def F_met : List D → R D := fun ds => (runF 4 b_met ds).noer
abbrev N_is_within : List Str := [(Str.ofString "a"), (Str.ofString "b"), (Str.ofString "one"), (Str.ofString "other")]
def b_is_within : DSt → R Out := dRet (d1 P.all (dOp (dFre (dLc (dRng P.zip (dCons (dVar 0) (dCons (dVar 1) dNil))) (gT 2 (gsC (gN 2) (gsC (gN 3) gsN))) (fun δ => (dYes δ).noer) (fun δ => ((dLe (dVar 2) (dVar 3)) δ).noer) [2, 3]))))
def F_is_within : List D → R D := fun ds => (runF 4 b_is_within ds).noer
abbrev N_order_of : List Str := [(Str.ofString "a"), (Str.ofString "b")]
def b_order_of : DSt → R Out := dSeq (dIf (dTru (d2 P.eq (dOp (dVar 0)) (dOp (dVar 1)))) (dRet (dC (.str (Str.ofString "same")))) dNext) (dSeq (dIf (dTru (dCallN 2 F_is_within (dCons (dVar 0) (dCons (dVar 1) dNil)))) (dRet (dC (.str (Str.ofString "before")))) dNext) (dSeq (dIf (dTru (dCallN 2 F_is_within (dCons (dVar 1) (dCons (dVar 0) dNil)))) (dRet (dC (.str (Str.ofString "behind")))) dNext) (dRet (dC (.str (Str.ofString "apart"))))))
def F_order_of : List D → R D := fun ds => (runF 2 b_order_of ds).noer
abbrev N_law_so : List Str := [(Str.ofString "_law_found"), (Str.ofString "_law_meant"), (Str.ofString "_law_k")]
def b_law_so (self : List D → R D) : DSt → R Out := dSeq (dIf (dTru (dIsN (dOp (dVar 1)))) (dRet (dIsN (dOp (dVar 0)))) dNext) (dSeq (dIf (dTru (dIsi "bool" (dOp (dVar 1)))) (dRet (dAndV (dIsi "bool" (dOp (dVar 0))) (d2 P.eq (dOp (dVar 0)) (dOp (dVar 1))))) dNext) (dSeq (dIf (dTru (dIsi "int" (dOp (dVar 1)))) (dRet (dAndV (dIsi "int" (dOp (dVar 0))) (dAndV (dNotV (dIsi "bool" (dOp (dVar 0)))) (d2 P.eq (dOp (dVar 0)) (dOp (dVar 1)))))) dNext) (dSeq (dIf (dTru (dIsi "str" (dOp (dVar 1)))) (dRet (dAndV (dIsi "str" (dOp (dVar 0))) (d2 P.eq (dOp (dVar 0)) (dOp (dVar 1))))) dNext) (dSeq (dIf (dOr (dNot (dTru (dIsi "tuple" (dOp (dVar 1))))) (dOr (dNot (dTru (dIsi "tuple" (dOp (dVar 0))))) (dTru (d2 P.ne (dOp (dLen (dOp (dVar 0)))) (dOp (dLen (dOp (dVar 1)))))))) (dRet (dC (.bool false))) dNext) (dSeq (dFor (dRng P.range1 (dCons (dLen (dOp (dVar 1))) dNil)) (gN 2) (dIf (dNot (dTru (dCallN 2 self (dCons (dIdx (dOp (dVar 0)) (dVar 2)) (dCons (dIdx (dOp (dVar 1)) (dVar 2)) dNil))))) (dRet (dC (.bool false))) dNext) [2]) (dRet (dC (.bool true))))))))
def Fn_law_so : Nat → List D → R D
  | 0 => fun _ => .bad
  | n + 1 => fun ds => (runF 3 (b_law_so (Fn_law_so n)) ds).noer
def F_law_so : List D → R D := Fn_law_so 3
abbrev N_law_numbers : List Str := [(Str.ofString "_law_script"), (Str.ofString "_law_row"), (Str.ofString "_law_cell"), (Str.ofString "_law_left"), (Str.ofString "_law_k"), (Str.ofString "_law_mixed")]
def b_law_numbers : DSt → R Out := dSeq (dSetN 1 (dLstN dNil)) (dSeq (dFor (dItems (dSlice (dOp (dVar 0)) dNoPart (dPart (dC (.int 63))))) (gN 2) (dIf (dTru (dGe (dVar 2) (dPow (dC (.int 10)) (dC (.int 18))))) (dSeq (dSet 3 (dVar 2)) (dFor (dRng P.range1 (dCons (dC (.int 60)) dNil)) (gN 4) (dSeq (dIf (dTru (d2 P.eq (dOp (dVar 3)) (dOp (dC (.int 0))))) dBrk dNext) (dSeq (dApp 1 (dMod (dToInt (dOp (dVar 3))) (dC (.int 997)))) (dSet 3 (dDiv (dVar 3) (dC (.int 997)))))) [4])) (dFor (dRng P.range1 (dCons (dC (.int 4)) dNil)) (gN 4) (dSeq (dSet 5 (dMod (dToInt (dOp (dAdd (dOp (dAdd (dOp (dMul (dVar 2) (dC (.int 48271)))) (dOp (dMul (dVar 4) (dC (.int 69621)))))) (dOp (dC (.int 11)))))) (dC (.int 2147483647)))) (dApp 1 (dMod (dToInt (dOp (dAdd (dOp (dMul (dVar 5) (dC (.int 16807)))) (dOp (dVar 4))))) (dC (.int 2147483629))))) [4, 5])) [2, 3, 4, 5]) (dSeq (dIf (dTru (d2 P.eq (dOp (dLen (dVarO 1))) (dOp (dC (.int 0))))) (dApp 1 (dC (.int 0))) dNext) ((fun δ => (dRet (dVar 1)) (frz1 1 δ)))))
def F_law_numbers : List D → R D := fun ds => (runF 6 b_law_numbers ds).noer
abbrev N_law_draw : List Str := [(Str.ofString "_law_row"), (Str.ofString "_law_at"), (Str.ofString "_law_limit"), (Str.ofString "_law_mixed")]
def b_law_draw : DSt → R Out := dSeq (dIf (dTru (dLt (dVar 1) (dLen (dOp (dVar 0))))) (dRet (dMod (dToInt (dOp (dIdx (dOp (dVar 0)) (dVar 1)))) (dVar 2))) dNext) (dSeq (dSet 3 (dMod (dToInt (dOp (dAdd (dOp (dAdd (dOp (dMul (dIdx (dOp (dVar 0)) (dMod (dToInt (dOp (dVar 1))) (dLen (dOp (dVar 0))))) (dC (.int 40692)))) (dOp (dMul (dVar 1) (dC (.int 7919)))))) (dOp (dC (.int 3)))))) (dC (.int 2147483399)))) (dRet (dMod (dToInt (dOp (dMod (dToInt (dOp (dAdd (dOp (dMul (dVar 3) (dC (.int 48271)))) (dOp (dVar 1))))) (dC (.int 2147483647))))) (dVar 2))))
def F_law_draw : List D → R D := fun ds => (runF 4 b_law_draw ds).noer
abbrev N_law_count : List Str := [(Str.ofString "_law_row"), (Str.ofString "_law_at"), (Str.ofString "_law_kind"), (Str.ofString "_law_worth")]
def b_law_count : DSt → R Out := dSeq (dSet 2 (dCallN 3 F_law_draw (dCons (dVar 0) (dCons (dVar 1) (dCons (dC (.int 4)) dNil))))) (dSeq (dSet 3 (dCallN 3 F_law_draw (dCons (dVar 0) (dCons (dAdd (dOp (dVar 1)) (dOp (dC (.int 1)))) (dCons (dC (.int 997)) dNil))))) (dSeq (dIf (dTru (d2 P.eq (dOp (dVar 2)) (dOp (dC (.int 0))))) (dRet (dMod (dToInt (dOp (dVar 3))) (dC (.int 3)))) dNext) (dRet (dIf (dTru (dLt (dVar 2) (dC (.int 3)))) (dVar 3) (dAdd (dOp (dMul (dVar 3) (dPow (dC (.int 10)) (dC (.int 12))))) (dOp (dCallN 3 F_law_draw (dCons (dVar 0) (dCons (dAdd (dOp (dVar 1)) (dOp (dC (.int 2)))) (dCons (dC (.int 9)) dNil))))))))))
def F_law_count : List D → R D := fun ds => (runF 4 b_law_count ds).noer
abbrev N_law_drawn : List Str := [(Str.ofString "_law_row"), (Str.ofString "_law_at"), (Str.ofString "_law_other"), (Str.ofString "_law_made"), (Str.ofString "_law_k")]
def b_law_drawn : DSt → R Out := dSeq (dSetN 3 (dLstN dNil)) (dSeq (dFor (dRng P.range1 (dCons (dC (.int 4)) dNil)) (gN 4) (dApp 3 (dIf (dTru (d2 P.eq (dOp (dCallN 3 F_law_draw (dCons (dVar 0) (dCons (dAdd (dOp (dVar 1)) (dOp (dVar 4))) (dCons (dC (.int 3)) dNil))))) (dOp (dC (.int 0))))) (dIdx (dOp (dVar 2)) (dVar 4)) (dCallN 2 F_law_count (dCons (dVar 0) (dCons (dAdd (dOp (dAdd (dOp (dVar 1)) (dOp (dC (.int 4))))) (dOp (dMul (dC (.int 3)) (dVar 4)))) dNil))))) [4]) (dRet (d1 P.tuple (dVarO 3))))
def F_law_drawn : List D → R D := fun ds => (runF 5 b_law_drawn ds).noer
abbrev N_law_order : List Str := [(Str.ofString "_law_a"), (Str.ofString "_law_b"), (Str.ofString "_law_less"), (Str.ofString "_law_more"), (Str.ofString "_law_k")]
def b_law_order : DSt → R Out := dSeq (dSet 2 (dLen (dOp (dFre (dLc (dRng P.range1 (dCons (dC (.int 4)) dNil)) (gN 4) (fun δ => ((dTru (dLt (dIdx (dOp (dVar 0)) (dVar 4)) (dIdx (dOp (dVar 1)) (dVar 4)))) δ).noer) (fun δ => ((dVar 4) δ).noer) [4]))))) (dSeq (dSet 3 (dLen (dOp (dFre (dLc (dRng P.range1 (dCons (dC (.int 4)) dNil)) (gN 4) (fun δ => ((dTru (dGt (dIdx (dOp (dVar 0)) (dVar 4)) (dIdx (dOp (dVar 1)) (dVar 4)))) δ).noer) (fun δ => ((dVar 4) δ).noer) [4]))))) (dSeq (dIf (dTru (d2 P.eq (dOp (dAdd (dOp (dVar 2)) (dOp (dVar 3)))) (dOp (dC (.int 0))))) (dRet (dC (.str (Str.ofString "same")))) dNext) (dSeq (dIf (dAnd (dTru (dGt (dVar 2) (dC (.int 0)))) (dTru (dGt (dVar 3) (dC (.int 0))))) (dRet (dC (.str (Str.ofString "apart")))) dNext) (dRet (dIf (dTru (dGt (dVar 2) (dC (.int 0)))) (dC (.str (Str.ofString "before"))) (dC (.str (Str.ofString "behind"))))))))
def F_law_order : List D → R D := fun ds => (runF 5 b_law_order ds).noer
abbrev N_law_pair : List Str := [(Str.ofString "_law_a"), (Str.ofString "_law_b"), (Str.ofString "_law_high"), (Str.ofString "_law_low"), (Str.ofString "_law_due"), (Str.ofString "_law_k")]
def b_law_pair : DSt → R Out := dSeq (dSet 2 (d1 P.tuple (dOp (dFre (dLc (dRng P.range1 (dCons (dC (.int 4)) dNil)) (gN 5) (fun δ => (dYes δ).noer) (fun δ => ((dIf (dTru (dGt (dIdx (dOp (dVar 0)) (dVar 5)) (dIdx (dOp (dVar 1)) (dVar 5)))) (dIdx (dOp (dVar 0)) (dVar 5)) (dIdx (dOp (dVar 1)) (dVar 5))) δ).noer) [5]))))) (dSeq (dSet 3 (d1 P.tuple (dOp (dFre (dLc (dRng P.range1 (dCons (dC (.int 4)) dNil)) (gN 5) (fun δ => (dYes δ).noer) (fun δ => ((dIf (dTru (dGt (dIdx (dOp (dVar 0)) (dVar 5)) (dIdx (dOp (dVar 1)) (dVar 5)))) (dIdx (dOp (dVar 1)) (dVar 5)) (dIdx (dOp (dVar 0)) (dVar 5))) δ).noer) [5]))))) (dSeq (dIf (dOr (dNot (dTru (dCallN 2 F_law_so (dCons (dCallN 2 F_joined (dCons (dVar 0) (dCons (dVar 1) dNil))) (dCons (dVar 2) dNil))))) (dOr (dNot (dTru (dCallN 2 F_law_so (dCons (dCallN 2 F_met (dCons (dVar 0) (dCons (dVar 1) dNil))) (dCons (dVar 3) dNil))))) (dOr (dNot (dTru (dCallN 2 F_law_so (dCons (dCallN 2 F_joined (dCons (dVar 1) (dCons (dVar 0) dNil))) (dCons (dVar 2) dNil))))) (dNot (dTru (dCallN 2 F_law_so (dCons (dCallN 2 F_met (dCons (dVar 1) (dCons (dVar 0) dNil))) (dCons (dVar 3) dNil)))))))) (dRet (dC (.bool false))) dNext) (dSeq (dIf (dOr (dNot (dTru (dCallN 2 F_law_so (dCons (dCallN 2 F_joined (dCons (dVar 0) (dCons (dCallN 2 F_met (dCons (dVar 0) (dCons (dVar 1) dNil))) dNil))) (dCons (dVar 0) dNil))))) (dOr (dNot (dTru (dCallN 2 F_law_so (dCons (dCallN 2 F_met (dCons (dVar 0) (dCons (dCallN 2 F_joined (dCons (dVar 0) (dCons (dVar 1) dNil))) dNil))) (dCons (dVar 0) dNil))))) (dOr (dNot (dTru (dCallN 2 F_law_so (dCons (dCallN 2 F_joined (dCons (dVar 0) (dCons (dVar 0) dNil))) (dCons (dVar 0) dNil))))) (dNot (dTru (dCallN 2 F_law_so (dCons (dCallN 2 F_met (dCons (dVar 0) (dCons (dVar 0) dNil))) (dCons (dVar 0) dNil)))))))) (dRet (dC (.bool false))) dNext) (dSeq (dSet 4 (dCallN 2 F_law_order (dCons (dVar 0) (dCons (dVar 1) dNil)))) (dSeq (dIf (dOr (dNot (dTru (dCallN 2 F_law_so (dCons (dCallN 2 F_order_of (dCons (dVar 0) (dCons (dVar 1) dNil))) (dCons (dVar 4) dNil))))) (dNot (dTru (dCallN 2 F_law_so (dCons (dCallN 2 F_order_of (dCons (dVar 1) (dCons (dVar 0) dNil))) (dCons (dLit [((Str.ofString "same"), (Str.ofString "same")), ((Str.ofString "before"), (Str.ofString "behind")), ((Str.ofString "behind"), (Str.ofString "before")), ((Str.ofString "apart"), (Str.ofString "apart"))] (dVar 4)) dNil)))))) (dRet (dC (.bool false))) dNext) (dSeq (dIf (dOr (dNot (dTru (dCallN 2 F_law_so (dCons (dCallN 2 F_is_within (dCons (dVar 0) (dCons (dVar 1) dNil))) (dCons (dIn false (dVar 4) (dOp (dTup (dCons (dC (.str (Str.ofString "same"))) (dCons (dC (.str (Str.ofString "before"))) dNil))))) dNil))))) (dNot (dTru (dCallN 2 F_law_so (dCons (dCallN 2 F_is_within (dCons (dVar 1) (dCons (dVar 0) dNil))) (dCons (dIn false (dVar 4) (dOp (dTup (dCons (dC (.str (Str.ofString "same"))) (dCons (dC (.str (Str.ofString "behind"))) dNil))))) dNil)))))) (dRet (dC (.bool false))) dNext) (dRet (dAndV (dCallN 2 F_law_so (dCons (dCallN 2 F_is_within (dCons (dVar 3) (dCons (dVar 0) dNil))) (dCons (dC (.bool true)) dNil))) (dAndV (dCallN 2 F_law_so (dCons (dCallN 2 F_is_within (dCons (dVar 1) (dCons (dVar 2) dNil))) (dCons (dC (.bool true)) dNil))) (dCallN 2 F_law_so (dCons (dCallN 2 F_order_of (dCons (dVar 0) (dCons (dVar 0) dNil))) (dCons (dC (.str (Str.ofString "same"))) dNil))))))))))))
def F_law_pair : List D → R D := fun ds => (runF 6 b_law_pair ds).noer
abbrev N_law_nearly : List Str := [(Str.ofString "_law_a"), (Str.ofString "_law_k"), (Str.ofString "_law_worth"), (Str.ofString "_law_made")]
def b_law_nearly : DSt → R Out := dSeq (dSet 3 (dLst (dCons (dFre (dListN (dOp (dVar 0)))) (dCons (dSlice (dOp (dVar 0)) dNoPart (dPart (dC (.int 3)))) (dCons (dAdd (dOp (dVar 0)) (dOp (dTup (dCons (dC (.int 0)) dNil)))) (dCons (dTup dNil) (dCons (dC .none) (dCons (dVar 2) (dCons (dC (.str (Str.ofString "0.0.0.0"))) (dCons (dTup (dCons (dVar 0) dNil)) (dCons (dLst (dCons (dVar 0) dNil)) (dCons (dAdd (dOp (dAdd (dOp (dSlice (dOp (dVar 0)) dNoPart (dPart (dVar 1)))) (dOp (dTup (dCons (dSub (dSub (dC (.int 0)) (dC (.int 1))) (dVar 2)) dNil))))) (dOp (dSlice (dOp (dVar 0)) (dPart (dAdd (dOp (dVar 1)) (dOp (dC (.int 1))))) dNoPart))) (dCons (dAdd (dOp (dAdd (dOp (dSlice (dOp (dVar 0)) dNoPart (dPart (dVar 1)))) (dOp (dTup (dCons (dC (.bool true)) dNil))))) (dOp (dSlice (dOp (dVar 0)) (dPart (dAdd (dOp (dVar 1)) (dOp (dC (.int 1))))) dNoPart))) dNil))))))))))))) (dSeq (dSet 3 (dAdd (dOp (dVar 3)) (dOp (dLst (dCons (dAdd (dOp (dAdd (dOp (dSlice (dOp (dVar 0)) dNoPart (dPart (dVar 1)))) (dOp (dTup (dCons (dC .none) dNil))))) (dOp (dSlice (dOp (dVar 0)) (dPart (dAdd (dOp (dVar 1)) (dOp (dC (.int 1))))) dNoPart))) (dCons (dAdd (dOp (dAdd (dOp (dSlice (dOp (dVar 0)) dNoPart (dPart (dVar 1)))) (dOp (dTup (dCons (dC (.str (Str.ofString "1"))) dNil))))) (dOp (dSlice (dOp (dVar 0)) (dPart (dAdd (dOp (dVar 1)) (dOp (dC (.int 1))))) dNoPart))) dNil)))))) (dSeq (dSet 3 (dAdd (dOp (dVar 3)) (dOp (dLst (dCons (dAdd (dOp (dAdd (dOp (dSlice (dOp (dVar 0)) dNoPart (dPart (dVar 1)))) (dOp (dTup (dCons (dSlice (dOp (dVar 0)) (dPart (dVar 1)) (dPart (dAdd (dOp (dVar 1)) (dOp (dC (.int 1)))))) dNil))))) (dOp (dSlice (dOp (dVar 0)) (dPart (dAdd (dOp (dVar 1)) (dOp (dC (.int 1))))) dNoPart))) (dCons (dAdd (dOp (dSlice (dOp (dVar 0)) dNoPart (dPart (dVar 1)))) (dOp (dSlice (dOp (dVar 0)) (dPart (dAdd (dOp (dVar 1)) (dOp (dC (.int 1))))) dNoPart))) (dCons (dAdd (dOp (dAdd (dOp (dSlice (dOp (dVar 0)) dNoPart (dPart (dVar 1)))) (dOp (dTup (dCons (dC (.bool false)) dNil))))) (dOp (dSlice (dOp (dVar 0)) (dPart (dAdd (dOp (dVar 1)) (dOp (dC (.int 1))))) dNoPart))) (dCons (dC (.bool true)) dNil)))))))) (dRet (dVar 3))))
def F_law_nearly : List D → R D := fun ds => (runF 4 b_law_nearly ds).noer
abbrev N_law : List Str := [(Str.ofString "_law_script"), (Str.ofString "_law_row"), (Str.ofString "_law_turn"), (Str.ofString "_law_at"), (Str.ofString "_law_a"), (Str.ofString "_law_b"), (Str.ofString "_law_c"), (Str.ofString "_law_good"), (Str.ofString "_law_bad")]
def b_law : DSt → R Out := dSeq (dSet 1 (dCallN 1 F_law_numbers (dCons (dVar 0) dNil))) (dSeq (dFor (dRng P.range1 (dCons (dAdd (dOp (dC (.int 1))) (dOp (dCall1 P.min2 (dCons (dDiv (dLen (dOp (dVar 1))) (dC (.int 8))) (dCons (dC (.int 6)) dNil))))) dNil)) (gN 2) (dSeq (dSet 3 (dMul (dC (.int 50)) (dVar 2))) (dSeq (dSet 4 (dCallN 3 F_law_drawn (dCons (dVar 1) (dCons (dVar 3) (dCons (dTup (dCons (dC (.int 0)) (dCons (dC (.int 1)) (dCons (dC (.int 2)) (dCons (dC (.int 0)) dNil))))) dNil))))) (dSeq (dSet 5 (dCallN 3 F_law_drawn (dCons (dVar 1) (dCons (dAdd (dOp (dVar 3)) (dOp (dC (.int 16)))) (dCons (dVar 4) dNil))))) (dSeq (dSet 6 (dCallN 3 F_law_drawn (dCons (dVar 1) (dCons (dAdd (dOp (dVar 3)) (dOp (dC (.int 32)))) (dCons (dVar 5) dNil))))) (dSeq (dIf (dOr (dNot (dTru (dCallN 2 F_law_pair (dCons (dVar 4) (dCons (dVar 5) dNil))))) (dOr (dNot (dTru (dCallN 2 F_law_pair (dCons (dVar 5) (dCons (dVar 6) dNil))))) (dOr (dNot (dTru (dCallN 2 F_law_pair (dCons (dVar 4) (dCons (dVar 6) dNil))))) (dNot (dTru (dCallN 2 F_law_pair (dCons (dVar 4) (dCons (dC K_NOUGHT) dNil)))))))) (dRet (dC (.bool false))) dNext) (dSeq (dIf (dOr (dNot (dTru (dCallN 2 F_law_so (dCons (dCallN 2 F_joined (dCons (dCallN 2 F_joined (dCons (dVar 4) (dCons (dVar 5) dNil))) (dCons (dVar 6) dNil))) (dCons (dCallN 2 F_joined (dCons (dVar 4) (dCons (dCallN 2 F_joined (dCons (dVar 5) (dCons (dVar 6) dNil))) dNil))) dNil))))) (dNot (dTru (dCallN 2 F_law_so (dCons (dCallN 2 F_met (dCons (dCallN 2 F_met (dCons (dVar 4) (dCons (dVar 5) dNil))) (dCons (dVar 6) dNil))) (dCons (dCallN 2 F_met (dCons (dVar 4) (dCons (dCallN 2 F_met (dCons (dVar 5) (dCons (dVar 6) dNil))) dNil))) dNil)))))) (dRet (dC (.bool false))) dNext) (dSeq (dIf (dOr (dNot (dTru (dCallN 2 F_law_so (dCons (dCallN 2 F_met (dCons (dVar 4) (dCons (dCallN 2 F_joined (dCons (dVar 5) (dCons (dVar 6) dNil))) dNil))) (dCons (dCallN 2 F_joined (dCons (dCallN 2 F_met (dCons (dVar 4) (dCons (dVar 5) dNil))) (dCons (dCallN 2 F_met (dCons (dVar 4) (dCons (dVar 6) dNil))) dNil))) dNil))))) (dNot (dTru (dCallN 2 F_law_so (dCons (dCallN 2 F_is_within (dCons (dC K_NOUGHT) (dCons (dVar 4) dNil))) (dCons (dC (.bool true)) dNil)))))) (dRet (dC (.bool false))) dNext) (dSeq (dFor (dItems (dLst (dCons (dVar 4) (dCons (dVar 5) (dCons (dCallN 2 F_joined (dCons (dVar 4) (dCons (dVar 6) dNil))) (dCons (dC K_NOUGHT) dNil)))))) (gN 7) (dIf (dNot (dTru (dCallN 2 F_law_so (dCons (dCallN 1 F_is_clock (dCons (dVar 7) dNil)) (dCons (dC (.bool true)) dNil))))) (dRet (dC (.bool false))) dNext) [7]) (dFor (dItems (dCallN 3 F_law_nearly (dCons (dVar 5) (dCons (dCallN 3 F_law_draw (dCons (dVar 1) (dCons (dAdd (dOp (dVar 3)) (dOp (dC (.int 48)))) (dCons (dC (.int 4)) dNil)))) (dCons (dCallN 3 F_law_draw (dCons (dVar 1) (dCons (dAdd (dOp (dVar 3)) (dOp (dC (.int 49)))) (dCons (dC (.int 99)) dNil)))) dNil))))) (gN 8) (dIf (dNot (dTru (dCallN 2 F_law_so (dCons (dCallN 1 F_is_clock (dCons (dVar 8) dNil)) (dCons (dC (.bool false)) dNil))))) (dRet (dC (.bool false))) dNext) [8]))))))))) [2, 3, 4, 5, 6, 7, 8]) (dRet (dCallN 2 F_law_so (dCons (dC K_NOUGHT) (dCons (dTup (dCons (dC (.int 0)) (dCons (dC (.int 0)) (dCons (dC (.int 0)) (dCons (dC (.int 0)) dNil))))) dNil)))))
def F_law : List D → R D := fun ds => (runF 9 b_law ds).noer
end K02

namespace K02
open PySem PySem.Spec PyProof.Rows L2 Dn
def topS (i : Nat) : Stmt := PySem.Challenge.pw_quillmoot_k02_clocks_are_a_lattice.main.body.getD i (.Pass ⟨0, 0, 0, 0⟩)
abbrev s_is_integer : Stmt := topS 3
theorem sc_is_integer : FnScope N_is_integer [(Str.ofString "value")] (defScope s_is_integer) := ⟨rfl, rfl, rfl, by decide +kernel, rfl, by decide +kernel, by decide +kernel⟩
abbrev s_is_number : Stmt := topS 4
theorem sc_is_number : FnScope N_is_number [(Str.ofString "value"), (Str.ofString "least")] (defScope s_is_number) := ⟨rfl, rfl, rfl, by decide +kernel, rfl, by decide +kernel, by decide +kernel⟩
abbrev s_is_clock : Stmt := topS 5
theorem sc_is_clock : FnScope N_is_clock [(Str.ofString "value")] (defScope s_is_clock) := ⟨rfl, rfl, rfl, by decide +kernel, rfl, by decide +kernel, by decide +kernel⟩
abbrev s_joined : Stmt := topS 6
theorem sc_joined : FnScope N_joined [(Str.ofString "a"), (Str.ofString "b")] (defScope s_joined) := ⟨rfl, rfl, rfl, by decide +kernel, rfl, by decide +kernel, by decide +kernel⟩
abbrev s_met : Stmt := topS 7
theorem sc_met : FnScope N_met [(Str.ofString "a"), (Str.ofString "b")] (defScope s_met) := ⟨rfl, rfl, rfl, by decide +kernel, rfl, by decide +kernel, by decide +kernel⟩
abbrev s_is_within : Stmt := topS 8
theorem sc_is_within : FnScope N_is_within [(Str.ofString "a"), (Str.ofString "b")] (defScope s_is_within) := ⟨rfl, rfl, rfl, by decide +kernel, rfl, by decide +kernel, by decide +kernel⟩
abbrev s_order_of : Stmt := topS 9
theorem sc_order_of : FnScope N_order_of [(Str.ofString "a"), (Str.ofString "b")] (defScope s_order_of) := ⟨rfl, rfl, rfl, by decide +kernel, rfl, by decide +kernel, by decide +kernel⟩
abbrev s_law_so : Stmt := topS 11
theorem sc_law_so : FnScope N_law_so [(Str.ofString "_law_found"), (Str.ofString "_law_meant")] (defScope s_law_so) := ⟨rfl, rfl, rfl, by decide +kernel, rfl, by decide +kernel, by decide +kernel⟩
abbrev s_law_numbers : Stmt := topS 12
theorem sc_law_numbers : FnScope N_law_numbers [(Str.ofString "_law_script")] (defScope s_law_numbers) := ⟨rfl, rfl, rfl, by decide +kernel, rfl, by decide +kernel, by decide +kernel⟩
abbrev s_law_draw : Stmt := topS 13
theorem sc_law_draw : FnScope N_law_draw [(Str.ofString "_law_row"), (Str.ofString "_law_at"), (Str.ofString "_law_limit")] (defScope s_law_draw) := ⟨rfl, rfl, rfl, by decide +kernel, rfl, by decide +kernel, by decide +kernel⟩
abbrev s_law_count : Stmt := topS 14
theorem sc_law_count : FnScope N_law_count [(Str.ofString "_law_row"), (Str.ofString "_law_at")] (defScope s_law_count) := ⟨rfl, rfl, rfl, by decide +kernel, rfl, by decide +kernel, by decide +kernel⟩
abbrev s_law_drawn : Stmt := topS 15
theorem sc_law_drawn : FnScope N_law_drawn [(Str.ofString "_law_row"), (Str.ofString "_law_at"), (Str.ofString "_law_other")] (defScope s_law_drawn) := ⟨rfl, rfl, rfl, by decide +kernel, rfl, by decide +kernel, by decide +kernel⟩
abbrev s_law_order : Stmt := topS 16
theorem sc_law_order : FnScope N_law_order [(Str.ofString "_law_a"), (Str.ofString "_law_b")] (defScope s_law_order) := ⟨rfl, rfl, rfl, by decide +kernel, rfl, by decide +kernel, by decide +kernel⟩
abbrev s_law_pair : Stmt := topS 17
theorem sc_law_pair : FnScope N_law_pair [(Str.ofString "_law_a"), (Str.ofString "_law_b")] (defScope s_law_pair) := ⟨rfl, rfl, rfl, by decide +kernel, rfl, by decide +kernel, by decide +kernel⟩
abbrev s_law_nearly : Stmt := topS 18
theorem sc_law_nearly : FnScope N_law_nearly [(Str.ofString "_law_a"), (Str.ofString "_law_k"), (Str.ofString "_law_worth")] (defScope s_law_nearly) := ⟨rfl, rfl, rfl, by decide +kernel, rfl, by decide +kernel, by decide +kernel⟩
abbrev s_law : Stmt := topS 19
theorem sc_law : FnScope N_law [(Str.ofString "_law_script")] (defScope s_law) := ⟨rfl, rfl, rfl, by decide +kernel, rfl, by decide +kernel, by decide +kernel⟩
section
variable {P : Program} {w : World} {K : PySem.W.Frag} {mg : Str → Option Value} {base : Heap} {G : Str → Addr}
theorem ok_is_integer (F : FunE K mg (Str.ofString "is_integer") s_is_integer [(Str.ofString "value")]) (z_bool : mg (Str.ofString "bool") = none) (z_int : mg (Str.ofString "int") = none) (z_isinstance : mg (Str.ofString "isinstance") = none) : EntD P w K mg base G (Str.ofString "is_integer") 1 1 F_is_integer :=
  entD F sc_is_integer rfl rfl fun f cdv A outer s H E hr => dss_one (ds_ret (de_and (de_isi (by rfl) z_isinstance (by decide +kernel) (by rfl) z_int (by decide +kernel) (do_of (de_var 0))) (de_one (de_not (de_isi (by rfl) z_isinstance (by decide +kernel) (by rfl) z_bool (by decide +kernel) (do_of (de_var 0)))))))
theorem ok_is_number (F : FunE K mg (Str.ofString "is_number") s_is_number [(Str.ofString "value"), (Str.ofString "least")]) (h_is_integer : EntD P w K mg base G (Str.ofString "is_integer") 1 1 F_is_integer) : EntD P w K mg base G (Str.ofString "is_number") 2 2 F_is_number :=
  entD F sc_is_number rfl rfl fun f cdv A outer s H E hr => dss_one (ds_ret (de_and (de_callE h_is_integer (hr.mono (by decide)) (by rfl) (da_cons (de_var 0) da_nil)) (de_one (de_c (dc_ge (de_var 0) (de_var 1))))))
theorem ok_is_clock (F : FunE K mg (Str.ofString "is_clock") s_is_clock [(Str.ofString "value")]) (h_is_number : EntD P w K mg base G (Str.ofString "is_number") 2 2 F_is_number) (c_HANDS : CstD K mg (Str.ofString "HANDS") K_HANDS) (z_all : mg (Str.ofString "all") = none) (z_isinstance : mg (Str.ofString "isinstance") = none) (z_len : mg (Str.ofString "len") = none) (z_tuple : mg (Str.ofString "tuple") = none) : EntD P w K mg base G (Str.ofString "is_clock") 3 1 F_is_clock :=
  entD F sc_is_clock rfl rfl fun f cdv A outer s H E hr => dss_cons (ds_if (dt_w (dw_or (dt_not (dt_val (de_isi (by rfl) z_isinstance (by decide +kernel) (by rfl) z_tuple (by decide +kernel) (do_of (de_var 0))))) (dw_or1 (dt_c (dc_ne hr.units (do_of (de_len (by rfl) z_len (do_of (de_var 0)))) (do_of (de_len (by rfl) z_len (do_of (de_cst c_HANDS (by rfl)))))))))) (dss_one (ds_ret de_bl)) dss_nil) (dss_one (ds_ret (de_all rfl (by rfl) z_all (by decide +kernel) (do_of (de_fre (dn_lc (m := false) (own := [((Str.ofString "one"), 1)]) rfl sc_is_clock.nd (di_any (de_var 0)) (blkOk_by (N := N_is_clock) (sc := defScope s_is_clock) (by decide +kernel)) (fun _ _ _ _ _ => dg_name 1 (by decide) sc_is_clock.nd rfl (by first | exact .inl rfl | exact .inr rfl)) (fun _ _ _ _ _ => dts_nil) (fun _ _ _ _ _ => de_callE h_is_number (hr.mono (by decide)) (by rfl) (da_cons (de_var 1) (da_cons de_int da_nil)))))))))
theorem ok_joined (F : FunE K mg (Str.ofString "joined") s_joined [(Str.ofString "a"), (Str.ofString "b")]) (z_max : mg (Str.ofString "max") = none) (z_tuple : mg (Str.ofString "tuple") = none) (z_zip : mg (Str.ofString "zip") = none) : EntD P w K mg base G (Str.ofString "joined") 1 2 F_joined :=
  entD F sc_joined rfl rfl fun f cdv A outer s H E hr => dss_one (ds_ret (de_tuple (by rfl) z_tuple (by decide +kernel) (do_of (de_fre (dn_lc (m := false) (own := [((Str.ofString "one"), 2), ((Str.ofString "other"), 3)]) rfl sc_joined.nd (di_zip (by rfl) z_zip (da_cons (de_var 0) (da_cons (de_var 1) da_nil))) (blkOk_by (N := N_joined) (sc := defScope s_joined) (by decide +kernel)) (fun _ _ _ _ _ => dg_tup rfl (dgs_cons (dg_name 2 (by decide) sc_joined.nd rfl (by first | exact .inl rfl | exact .inr rfl)) (dgs_cons (dg_name 3 (by decide) sc_joined.nd rfl (by first | exact .inl rfl | exact .inr rfl)) dgs_nil))) (fun _ _ _ _ _ => dts_nil) (fun _ _ _ _ _ => de_max2 rfl (by rfl) z_max (by decide +kernel) (da_cons (de_var 2) (da_cons (de_var 3) da_nil))))))))
theorem ok_met (F : FunE K mg (Str.ofString "met") s_met [(Str.ofString "a"), (Str.ofString "b")]) (z_min : mg (Str.ofString "min") = none) (z_tuple : mg (Str.ofString "tuple") = none) (z_zip : mg (Str.ofString "zip") = none) : EntD P w K mg base G (Str.ofString "met") 1 2 F_met :=
  entD F sc_met rfl rfl fun f cdv A outer s H E hr => dss_one (ds_ret (de_tuple (by rfl) z_tuple (by decide +kernel) (do_of (de_fre (dn_lc (m := false) (own := [((Str.ofString "one"), 2), ((Str.ofString "other"), 3)]) rfl sc_met.nd (di_zip (by rfl) z_zip (da_cons (de_var 0) (da_cons (de_var 1) da_nil))) (blkOk_by (N := N_met) (sc := defScope s_met) (by decide +kernel)) (fun _ _ _ _ _ => dg_tup rfl (dgs_cons (dg_name 2 (by decide) sc_met.nd rfl (by first | exact .inl rfl | exact .inr rfl)) (dgs_cons (dg_name 3 (by decide) sc_met.nd rfl (by first | exact .inl rfl | exact .inr rfl)) dgs_nil))) (fun _ _ _ _ _ => dts_nil) (fun _ _ _ _ _ => de_min2 rfl (by rfl) z_min (by decide +kernel) (da_cons (de_var 2) (da_cons (de_var 3) da_nil))))))))
theorem ok_is_within (F : FunE K mg (Str.ofString "is_within") s_is_within [(Str.ofString "a"), (Str.ofString "b")]) (z_all : mg (Str.ofString "all") = none) (z_zip : mg (Str.ofString "zip") = none) : EntD P w K mg base G (Str.ofString "is_within") 1 2 F_is_within :=
  entD F sc_is_within rfl rfl fun f cdv A outer s H E hr => dss_one (ds_ret (de_all rfl (by rfl) z_all (by decide +kernel) (do_of (de_fre (dn_lc (m := false) (own := [((Str.ofString "one"), 2), ((Str.ofString "other"), 3)]) rfl sc_is_within.nd (di_zip (by rfl) z_zip (da_cons (de_var 0) (da_cons (de_var 1) da_nil))) (blkOk_by (N := N_is_within) (sc := defScope s_is_within) (by decide +kernel)) (fun _ _ _ _ _ => dg_tup rfl (dgs_cons (dg_name 2 (by decide) sc_is_within.nd rfl (by first | exact .inl rfl | exact .inr rfl)) (dgs_cons (dg_name 3 (by decide) sc_is_within.nd rfl (by first | exact .inl rfl | exact .inr rfl)) dgs_nil))) (fun _ _ _ _ _ => dts_nil) (fun _ _ _ _ _ => de_c (dc_le (de_var 2) (de_var 3))))))))
theorem ok_order_of (F : FunE K mg (Str.ofString "order_of") s_order_of [(Str.ofString "a"), (Str.ofString "b")]) (h_is_within : EntD P w K mg base G (Str.ofString "is_within") 1 2 F_is_within) : EntD P w K mg base G (Str.ofString "order_of") 2 2 F_order_of :=
  entD F sc_order_of rfl rfl fun f cdv A outer s H E hr => dss_cons (ds_if (dt_c (dc_eq hr.units (do_of (de_var 0)) (do_of (de_var 1)))) (dss_one (ds_ret de_str)) dss_nil) (dss_cons (ds_if (dt_val (de_callE h_is_within (hr.mono (by decide)) (by rfl) (da_cons (de_var 0) (da_cons (de_var 1) da_nil)))) (dss_one (ds_ret de_str)) dss_nil) (dss_cons (ds_if (dt_val (de_callE h_is_within (hr.mono (by decide)) (by rfl) (da_cons (de_var 1) (da_cons (de_var 0) da_nil)))) (dss_one (ds_ret de_str)) dss_nil) (dss_one (ds_ret de_str))))
theorem ok_law_so (F : FunE K mg (Str.ofString "_law_so") s_law_so [(Str.ofString "_law_found"), (Str.ofString "_law_meant")]) (z_bool : mg (Str.ofString "bool") = none) (z_int : mg (Str.ofString "int") = none) (z_isinstance : mg (Str.ofString "isinstance") = none) (z_len : mg (Str.ofString "len") = none) (z_range : mg (Str.ofString "range") = none) (z_str : mg (Str.ofString "str") = none) (z_tuple : mg (Str.ofString "tuple") = none) : ∀ n : Nat, EntD P w K mg base G (Str.ofString "_law_so") (0 + n) 2 (Fn_law_so n)
  | 0 => by
    obtain ⟨f, fd, h1, h2, h3⟩ := F.ex
    exact ⟨f, fd, [(Str.ofString "_law_found"), (Str.ofString "_law_meant")], ⟨fun vs H Q E h => (by obtain ⟨_, _, h, _⟩ := h; exact h), fun A outer s H args us vs Q E _ _ _ _ h => (by obtain ⟨_, _, _, _, _, h, _⟩ := h; exact absurd rfl h)⟩, h2, h3, h1.kp⟩
  | n + 1 => by
    have h_self := ok_law_so F z_bool z_int z_isinstance z_len z_range z_str z_tuple n
    exact entD (b := b_law_so (Fn_law_so n)) F sc_law_so rfl rfl fun f cdv A outer s H E hr => dss_cons (ds_if (dt_c (dc_isN (do_of (de_var 1)))) (dss_one (ds_ret (de_c (dc_isN (do_of (de_var 0)))))) dss_nil) (dss_cons (ds_if (dt_val (de_isi (by rfl) z_isinstance (by decide +kernel) (by rfl) z_bool (by decide +kernel) (do_of (de_var 1)))) (dss_one (ds_ret (de_and (de_isi (by rfl) z_isinstance (by decide +kernel) (by rfl) z_bool (by decide +kernel) (do_of (de_var 0))) (de_one (de_c (dc_eq hr.units (do_of (de_var 0)) (do_of (de_var 1)))))))) dss_nil) (dss_cons (ds_if (dt_val (de_isi (by rfl) z_isinstance (by decide +kernel) (by rfl) z_int (by decide +kernel) (do_of (de_var 1)))) (dss_one (ds_ret (de_and (de_isi (by rfl) z_isinstance (by decide +kernel) (by rfl) z_int (by decide +kernel) (do_of (de_var 0))) (de_and (de_not (de_isi (by rfl) z_isinstance (by decide +kernel) (by rfl) z_bool (by decide +kernel) (do_of (de_var 0)))) (de_one (de_c (dc_eq hr.units (do_of (de_var 0)) (do_of (de_var 1))))))))) dss_nil) (dss_cons (ds_if (dt_val (de_isi (by rfl) z_isinstance (by decide +kernel) (by rfl) z_str (by decide +kernel) (do_of (de_var 1)))) (dss_one (ds_ret (de_and (de_isi (by rfl) z_isinstance (by decide +kernel) (by rfl) z_str (by decide +kernel) (do_of (de_var 0))) (de_one (de_c (dc_eq hr.units (do_of (de_var 0)) (do_of (de_var 1)))))))) dss_nil) (dss_cons (ds_if (dt_w (dw_or (dt_not (dt_val (de_isi (by rfl) z_isinstance (by decide +kernel) (by rfl) z_tuple (by decide +kernel) (do_of (de_var 1))))) (dw_or (dt_not (dt_val (de_isi (by rfl) z_isinstance (by decide +kernel) (by rfl) z_tuple (by decide +kernel) (do_of (de_var 0))))) (dw_or1 (dt_c (dc_ne hr.units (do_of (de_len (by rfl) z_len (do_of (de_var 0)))) (do_of (de_len (by rfl) z_len (do_of (de_var 1)))))))))) (dss_one (ds_ret de_bl)) dss_nil) (dss_cons (ds_for (vs := [2]) [2] PassesOwn.never rfl (di_range1 (by rfl) z_range (da_cons (de_len (by rfl) z_len (do_of (de_var 1))) da_nil)) (dg_name 2 (by decide) sc_law_so.nd rfl (by first | exact .inl rfl | exact .inr rfl)) (dss_one (ds_if (dt_not (dt_val (de_callE h_self (hr.mono (by first | exact Nat.le_refl _ | (simp only [Nat.add_eq]; omega))) (by rfl) (da_cons (de_ix (do_of (de_var 0)) (de_var 2) (fun _ _ => rfl)) (da_cons (de_ix (do_of (de_var 1)) (de_var 2) (fun _ _ => rfl)) da_nil))))) (dss_one (ds_ret de_bl)) dss_nil))) (dss_one (ds_ret de_bl)))))))
theorem ok_law_numbers (F : FunE K mg (Str.ofString "_law_numbers") s_law_numbers [(Str.ofString "_law_script")]) (z_int : mg (Str.ofString "int") = none) (z_len : mg (Str.ofString "len") = none) (z_range : mg (Str.ofString "range") = none) : EntD P w K mg base G (Str.ofString "_law_numbers") 1 1 F_law_numbers :=
  entD F sc_law_numbers rfl rfl fun f cdv A outer s H E hr => dss_cons (ds_setN (i := 1) sc_law_numbers.nd rfl (by first | exact .inl rfl | exact .inr rfl) (dn_lst da_nil)) (dss_cons (ds_for (vs := [2]) [2, 3, 4, 5] PassesOwn.never rfl (di_any (de_slice (do_of (de_var 0)) dp_none (dp_some de_int))) (dg_name 2 (by decide) sc_law_numbers.nd rfl (by first | exact .inl rfl | exact .inr rfl)) (dss_one (ds_if (dt_c (dc_ge (de_var 2) (de_pow de_int de_int))) (dss_cons (ds_set (i := 3) sc_law_numbers.nd rfl (by first | exact .inl rfl | exact .inr rfl) (de_var 2)) (dss_one (ds_for (vs := [4]) [4] PassesOwn.never rfl (di_range1 (by rfl) z_range (da_cons de_int da_nil)) (dg_name 4 (by decide) sc_law_numbers.nd rfl (by first | exact .inl rfl | exact .inr rfl)) (dss_cons (ds_if (dt_c (dc_eq hr.units (do_of (de_var 3)) (do_of de_int))) (dss_one ds_break) dss_nil) (dss_cons (ds_app (i := 1) rfl (by first | exact .inl rfl | exact .inr (.inl rfl)) (de_mod (de_toInt (by rfl) z_int (by decide +kernel) (do_of (de_var 3))) de_int)) (dss_one (ds_set (i := 3) sc_law_numbers.nd rfl (by first | exact .inl rfl | exact .inr rfl) (de_div (de_var 3) de_int)))))))) (dss_one (ds_for (vs := [4]) [4, 5] PassesOwn.never rfl (di_range1 (by rfl) z_range (da_cons de_int da_nil)) (dg_name 4 (by decide) sc_law_numbers.nd rfl (by first | exact .inl rfl | exact .inr rfl)) (dss_cons (ds_set (i := 5) sc_law_numbers.nd rfl (by first | exact .inl rfl | exact .inr rfl) (de_mod (de_toInt (by rfl) z_int (by decide +kernel) (do_of (de_add (do_of (de_add (do_of (de_mul (de_var 2) de_int)) (do_of (de_mul (de_var 4) de_int)))) (do_of de_int)))) de_int)) (dss_one (ds_app (i := 1) rfl (by first | exact .inl rfl | exact .inr (.inl rfl)) (de_mod (de_toInt (by rfl) z_int (by decide +kernel) (do_of (de_add (do_of (de_mul (de_var 5) de_int)) (do_of (de_var 4))))) de_int))))))))) (dss_cons (ds_if (dt_c (dc_eq hr.units (do_of (de_len (by rfl) z_len (do_var 1))) (do_of de_int))) (dss_one (ds_app (i := 1) rfl (by first | exact .inl rfl | exact .inr (.inl rfl)) de_int)) dss_nil) (dss_frz 1 (dss_one (ds_ret (de_var 1))))))
theorem ok_law_draw (F : FunE K mg (Str.ofString "_law_draw") s_law_draw [(Str.ofString "_law_row"), (Str.ofString "_law_at"), (Str.ofString "_law_limit")]) (z_int : mg (Str.ofString "int") = none) (z_len : mg (Str.ofString "len") = none) : EntD P w K mg base G (Str.ofString "_law_draw") 1 3 F_law_draw :=
  entD F sc_law_draw rfl rfl fun f cdv A outer s H E hr => dss_cons (ds_if (dt_c (dc_lt (de_var 1) (de_len (by rfl) z_len (do_of (de_var 0))))) (dss_one (ds_ret (de_mod (de_toInt (by rfl) z_int (by decide +kernel) (do_of (de_ix (do_of (de_var 0)) (de_var 1) (fun _ _ => rfl)))) (de_var 2)))) dss_nil) (dss_cons (ds_set (i := 3) sc_law_draw.nd rfl (by first | exact .inl rfl | exact .inr rfl) (de_mod (de_toInt (by rfl) z_int (by decide +kernel) (do_of (de_add (do_of (de_add (do_of (de_mul (de_ix (do_of (de_var 0)) (de_mod (de_toInt (by rfl) z_int (by decide +kernel) (do_of (de_var 1))) (de_len (by rfl) z_len (do_of (de_var 0)))) (fun _ _ => rfl)) de_int)) (do_of (de_mul (de_var 1) de_int)))) (do_of de_int)))) de_int)) (dss_one (ds_ret (de_mod (de_toInt (by rfl) z_int (by decide +kernel) (do_of (de_mod (de_toInt (by rfl) z_int (by decide +kernel) (do_of (de_add (do_of (de_mul (de_var 3) de_int)) (do_of (de_var 1))))) de_int))) (de_var 2)))))
theorem ok_law_count (F : FunE K mg (Str.ofString "_law_count") s_law_count [(Str.ofString "_law_row"), (Str.ofString "_law_at")]) (h_law_draw : EntD P w K mg base G (Str.ofString "_law_draw") 1 3 F_law_draw) (z_int : mg (Str.ofString "int") = none) : EntD P w K mg base G (Str.ofString "_law_count") 2 2 F_law_count :=
  entD F sc_law_count rfl rfl fun f cdv A outer s H E hr => dss_cons (ds_set (i := 2) sc_law_count.nd rfl (by first | exact .inl rfl | exact .inr rfl) (de_callE h_law_draw (hr.mono (by decide)) (by rfl) (da_cons (de_var 0) (da_cons (de_var 1) (da_cons de_int da_nil))))) (dss_cons (ds_set (i := 3) sc_law_count.nd rfl (by first | exact .inl rfl | exact .inr rfl) (de_callE h_law_draw (hr.mono (by decide)) (by rfl) (da_cons (de_var 0) (da_cons (de_add (do_of (de_var 1)) (do_of de_int)) (da_cons de_int da_nil))))) (dss_cons (ds_if (dt_c (dc_eq hr.units (do_of (de_var 2)) (do_of de_int))) (dss_one (ds_ret (de_mod (de_toInt (by rfl) z_int (by decide +kernel) (do_of (de_var 3))) de_int))) dss_nil) (dss_one (ds_ret (de_if (dt_c (dc_lt (de_var 2) de_int)) (de_var 3) (de_add (do_of (de_mul (de_var 3) (de_pow de_int de_int))) (do_of (de_callE h_law_draw (hr.mono (by decide)) (by rfl) (da_cons (de_var 0) (da_cons (de_add (do_of (de_var 1)) (do_of de_int)) (da_cons de_int da_nil)))))))))))
theorem ok_law_drawn (F : FunE K mg (Str.ofString "_law_drawn") s_law_drawn [(Str.ofString "_law_row"), (Str.ofString "_law_at"), (Str.ofString "_law_other")]) (h_law_draw : EntD P w K mg base G (Str.ofString "_law_draw") 1 3 F_law_draw) (h_law_count : EntD P w K mg base G (Str.ofString "_law_count") 2 2 F_law_count) (z_range : mg (Str.ofString "range") = none) (z_tuple : mg (Str.ofString "tuple") = none) : EntD P w K mg base G (Str.ofString "_law_drawn") 3 3 F_law_drawn :=
  entD F sc_law_drawn rfl rfl fun f cdv A outer s H E hr => dss_cons (ds_setN (i := 3) sc_law_drawn.nd rfl (by first | exact .inl rfl | exact .inr rfl) (dn_lst da_nil)) (dss_cons (ds_for (vs := [4]) [4] PassesOwn.never rfl (di_range1 (by rfl) z_range (da_cons de_int da_nil)) (dg_name 4 (by decide) sc_law_drawn.nd rfl (by first | exact .inl rfl | exact .inr rfl)) (dss_one (ds_app (i := 3) rfl (by first | exact .inl rfl | exact .inr (.inl rfl)) (de_if (dt_c (dc_eq hr.units (do_of (de_callE h_law_draw (hr.mono (by decide)) (by rfl) (da_cons (de_var 0) (da_cons (de_add (do_of (de_var 1)) (do_of (de_var 4))) (da_cons de_int da_nil))))) (do_of de_int))) (de_ix (do_of (de_var 2)) (de_var 4) (fun _ _ => rfl)) (de_callE h_law_count (hr.mono (by decide)) (by rfl) (da_cons (de_var 0) (da_cons (de_add (do_of (de_add (do_of (de_var 1)) (do_of de_int))) (do_of (de_mul de_int (de_var 4)))) da_nil))))))) (dss_one (ds_ret (de_tuple (by rfl) z_tuple (by decide +kernel) (do_var 3)))))
theorem ok_law_order (F : FunE K mg (Str.ofString "_law_order") s_law_order [(Str.ofString "_law_a"), (Str.ofString "_law_b")]) (z_len : mg (Str.ofString "len") = none) (z_range : mg (Str.ofString "range") = none) : EntD P w K mg base G (Str.ofString "_law_order") 1 2 F_law_order :=
  entD F sc_law_order rfl rfl fun f cdv A outer s H E hr => dss_cons (ds_set (i := 2) sc_law_order.nd rfl (by first | exact .inl rfl | exact .inr rfl) (de_len (by rfl) z_len (do_of (de_fre (dn_lc (m := false) (own := [((Str.ofString "_law_k"), 4)]) rfl sc_law_order.nd (di_range1 (by rfl) z_range (da_cons de_int da_nil)) (blkOk_by (N := N_law_order) (sc := defScope s_law_order) (by decide +kernel)) (fun _ _ _ _ _ => dg_name 4 (by decide) sc_law_order.nd rfl (by first | exact .inl rfl | exact .inr rfl)) (fun _ _ _ _ _ => dts_one (dt_c (dc_lt (de_ix (do_of (de_var 0)) (de_var 4) (fun _ _ => rfl)) (de_ix (do_of (de_var 1)) (de_var 4) (fun _ _ => rfl))))) (fun _ _ _ _ _ => de_var 4)))))) (dss_cons (ds_set (i := 3) sc_law_order.nd rfl (by first | exact .inl rfl | exact .inr rfl) (de_len (by rfl) z_len (do_of (de_fre (dn_lc (m := false) (own := [((Str.ofString "_law_k"), 4)]) rfl sc_law_order.nd (di_range1 (by rfl) z_range (da_cons de_int da_nil)) (blkOk_by (N := N_law_order) (sc := defScope s_law_order) (by decide +kernel)) (fun _ _ _ _ _ => dg_name 4 (by decide) sc_law_order.nd rfl (by first | exact .inl rfl | exact .inr rfl)) (fun _ _ _ _ _ => dts_one (dt_c (dc_gt (de_ix (do_of (de_var 0)) (de_var 4) (fun _ _ => rfl)) (de_ix (do_of (de_var 1)) (de_var 4) (fun _ _ => rfl))))) (fun _ _ _ _ _ => de_var 4)))))) (dss_cons (ds_if (dt_c (dc_eq hr.units (do_of (de_add (do_of (de_var 2)) (do_of (de_var 3)))) (do_of de_int))) (dss_one (ds_ret de_str)) dss_nil) (dss_cons (ds_if (dt_w (dw_and (dt_c (dc_gt (de_var 2) de_int)) (dw_and1 (dt_c (dc_gt (de_var 3) de_int))))) (dss_one (ds_ret de_str)) dss_nil) (dss_one (ds_ret (de_if (dt_c (dc_gt (de_var 2) de_int)) de_str de_str))))))
theorem ok_law_pair (F : FunE K mg (Str.ofString "_law_pair") s_law_pair [(Str.ofString "_law_a"), (Str.ofString "_law_b")]) (h_joined : EntD P w K mg base G (Str.ofString "joined") 1 2 F_joined) (h_law_so : EntD P w K mg base G (Str.ofString "_law_so") 3 2 F_law_so) (h_met : EntD P w K mg base G (Str.ofString "met") 1 2 F_met) (h_law_order : EntD P w K mg base G (Str.ofString "_law_order") 1 2 F_law_order) (h_order_of : EntD P w K mg base G (Str.ofString "order_of") 2 2 F_order_of) (h_is_within : EntD P w K mg base G (Str.ofString "is_within") 1 2 F_is_within) (z_range : mg (Str.ofString "range") = none) (z_tuple : mg (Str.ofString "tuple") = none) : EntD P w K mg base G (Str.ofString "_law_pair") 4 2 F_law_pair :=
  entD F sc_law_pair rfl rfl fun f cdv A outer s H E hr => dss_cons (ds_set (i := 2) sc_law_pair.nd rfl (by first | exact .inl rfl | exact .inr rfl) (de_tuple (by rfl) z_tuple (by decide +kernel) (do_of (de_fre (dn_lc (m := false) (own := [((Str.ofString "_law_k"), 5)]) rfl sc_law_pair.nd (di_range1 (by rfl) z_range (da_cons de_int da_nil)) (blkOk_by (N := N_law_pair) (sc := defScope s_law_pair) (by decide +kernel)) (fun _ _ _ _ _ => dg_name 5 (by decide) sc_law_pair.nd rfl (by first | exact .inl rfl | exact .inr rfl)) (fun _ _ _ _ _ => dts_nil) (fun _ _ _ _ _ => de_if (dt_c (dc_gt (de_ix (do_of (de_var 0)) (de_var 5) (fun _ _ => rfl)) (de_ix (do_of (de_var 1)) (de_var 5) (fun _ _ => rfl)))) (de_ix (do_of (de_var 0)) (de_var 5) (fun _ _ => rfl)) (de_ix (do_of (de_var 1)) (de_var 5) (fun _ _ => rfl)))))))) (dss_cons (ds_set (i := 3) sc_law_pair.nd rfl (by first | exact .inl rfl | exact .inr rfl) (de_tuple (by rfl) z_tuple (by decide +kernel) (do_of (de_fre (dn_lc (m := false) (own := [((Str.ofString "_law_k"), 5)]) rfl sc_law_pair.nd (di_range1 (by rfl) z_range (da_cons de_int da_nil)) (blkOk_by (N := N_law_pair) (sc := defScope s_law_pair) (by decide +kernel)) (fun _ _ _ _ _ => dg_name 5 (by decide) sc_law_pair.nd rfl (by first | exact .inl rfl | exact .inr rfl)) (fun _ _ _ _ _ => dts_nil) (fun _ _ _ _ _ => de_if (dt_c (dc_gt (de_ix (do_of (de_var 0)) (de_var 5) (fun _ _ => rfl)) (de_ix (do_of (de_var 1)) (de_var 5) (fun _ _ => rfl)))) (de_ix (do_of (de_var 1)) (de_var 5) (fun _ _ => rfl)) (de_ix (do_of (de_var 0)) (de_var 5) (fun _ _ => rfl)))))))) (dss_cons (ds_if (dt_w (dw_or (dt_not (dt_val (de_callE h_law_so (hr.mono (by decide)) (by rfl) (da_cons (de_callE h_joined (hr.mono (by decide)) (by rfl) (da_cons (de_var 0) (da_cons (de_var 1) da_nil))) (da_cons (de_var 2) da_nil))))) (dw_or (dt_not (dt_val (de_callE h_law_so (hr.mono (by decide)) (by rfl) (da_cons (de_callE h_met (hr.mono (by decide)) (by rfl) (da_cons (de_var 0) (da_cons (de_var 1) da_nil))) (da_cons (de_var 3) da_nil))))) (dw_or (dt_not (dt_val (de_callE h_law_so (hr.mono (by decide)) (by rfl) (da_cons (de_callE h_joined (hr.mono (by decide)) (by rfl) (da_cons (de_var 1) (da_cons (de_var 0) da_nil))) (da_cons (de_var 2) da_nil))))) (dw_or1 (dt_not (dt_val (de_callE h_law_so (hr.mono (by decide)) (by rfl) (da_cons (de_callE h_met (hr.mono (by decide)) (by rfl) (da_cons (de_var 1) (da_cons (de_var 0) da_nil))) (da_cons (de_var 3) da_nil)))))))))) (dss_one (ds_ret de_bl)) dss_nil) (dss_cons (ds_if (dt_w (dw_or (dt_not (dt_val (de_callE h_law_so (hr.mono (by decide)) (by rfl) (da_cons (de_callE h_joined (hr.mono (by decide)) (by rfl) (da_cons (de_var 0) (da_cons (de_callE h_met (hr.mono (by decide)) (by rfl) (da_cons (de_var 0) (da_cons (de_var 1) da_nil))) da_nil))) (da_cons (de_var 0) da_nil))))) (dw_or (dt_not (dt_val (de_callE h_law_so (hr.mono (by decide)) (by rfl) (da_cons (de_callE h_met (hr.mono (by decide)) (by rfl) (da_cons (de_var 0) (da_cons (de_callE h_joined (hr.mono (by decide)) (by rfl) (da_cons (de_var 0) (da_cons (de_var 1) da_nil))) da_nil))) (da_cons (de_var 0) da_nil))))) (dw_or (dt_not (dt_val (de_callE h_law_so (hr.mono (by decide)) (by rfl) (da_cons (de_callE h_joined (hr.mono (by decide)) (by rfl) (da_cons (de_var 0) (da_cons (de_var 0) da_nil))) (da_cons (de_var 0) da_nil))))) (dw_or1 (dt_not (dt_val (de_callE h_law_so (hr.mono (by decide)) (by rfl) (da_cons (de_callE h_met (hr.mono (by decide)) (by rfl) (da_cons (de_var 0) (da_cons (de_var 0) da_nil))) (da_cons (de_var 0) da_nil)))))))))) (dss_one (ds_ret de_bl)) dss_nil) (dss_cons (ds_set (i := 4) sc_law_pair.nd rfl (by first | exact .inl rfl | exact .inr rfl) (de_callE h_law_order (hr.mono (by decide)) (by rfl) (da_cons (de_var 0) (da_cons (de_var 1) da_nil)))) (dss_cons (ds_if (dt_w (dw_or (dt_not (dt_val (de_callE h_law_so (hr.mono (by decide)) (by rfl) (da_cons (de_callE h_order_of (hr.mono (by decide)) (by rfl) (da_cons (de_var 0) (da_cons (de_var 1) da_nil))) (da_cons (de_var 4) da_nil))))) (dw_or1 (dt_not (dt_val (de_callE h_law_so (hr.mono (by decide)) (by rfl) (da_cons (de_callE h_order_of (hr.mono (by decide)) (by rfl) (da_cons (de_var 1) (da_cons (de_var 0) da_nil))) (da_cons (de_dlit (kvs := [((Str.ofString "same"), (Str.ofString "same")), ((Str.ofString "before"), (Str.ofString "behind")), ((Str.ofString "behind"), (Str.ofString "before")), ((Str.ofString "apart"), (Str.ofString "apart"))]) (hu_of hr) (pps_cons pe_str pe_str (pps_cons pe_str pe_str (pps_cons pe_str pe_str (pps_cons pe_str pe_str (pps_nil))))) (de_var 4) (fun _ _ => rfl) (by decide)) da_nil)))))))) (dss_one (ds_ret de_bl)) dss_nil) (dss_cons (ds_if (dt_w (dw_or (dt_not (dt_val (de_callE h_law_so (hr.mono (by decide)) (by rfl) (da_cons (de_callE h_is_within (hr.mono (by decide)) (by rfl) (da_cons (de_var 0) (da_cons (de_var 1) da_nil))) (da_cons (de_c (dc_in (by rfl) (de_var 4) (do_of (de_tup (da_cons de_str (da_cons de_str da_nil)))))) da_nil))))) (dw_or1 (dt_not (dt_val (de_callE h_law_so (hr.mono (by decide)) (by rfl) (da_cons (de_callE h_is_within (hr.mono (by decide)) (by rfl) (da_cons (de_var 1) (da_cons (de_var 0) da_nil))) (da_cons (de_c (dc_in (by rfl) (de_var 4) (do_of (de_tup (da_cons de_str (da_cons de_str da_nil)))))) da_nil)))))))) (dss_one (ds_ret de_bl)) dss_nil) (dss_one (ds_ret (de_and (de_callE h_law_so (hr.mono (by decide)) (by rfl) (da_cons (de_callE h_is_within (hr.mono (by decide)) (by rfl) (da_cons (de_var 3) (da_cons (de_var 0) da_nil))) (da_cons de_bl da_nil))) (de_and (de_callE h_law_so (hr.mono (by decide)) (by rfl) (da_cons (de_callE h_is_within (hr.mono (by decide)) (by rfl) (da_cons (de_var 1) (da_cons (de_var 2) da_nil))) (da_cons de_bl da_nil))) (de_one (de_callE h_law_so (hr.mono (by decide)) (by rfl) (da_cons (de_callE h_order_of (hr.mono (by decide)) (by rfl) (da_cons (de_var 0) (da_cons (de_var 0) da_nil))) (da_cons de_str da_nil))))))))))))))
theorem ok_law_nearly (F : FunE K mg (Str.ofString "_law_nearly") s_law_nearly [(Str.ofString "_law_a"), (Str.ofString "_law_k"), (Str.ofString "_law_worth")]) (z_list : mg (Str.ofString "list") = none) : EntD P w K mg base G (Str.ofString "_law_nearly") 1 3 F_law_nearly :=
  entD F sc_law_nearly rfl rfl fun f cdv A outer s H E hr => dss_cons (ds_set (i := 3) sc_law_nearly.nd rfl (by first | exact .inl rfl | exact .inr rfl) (de_lst (da_cons (de_fre (dn_list (by rfl) z_list (by decide +kernel) (do_of (de_var 0)))) (da_cons (de_slice (do_of (de_var 0)) dp_none (dp_some de_int)) (da_cons (de_add (do_of (de_var 0)) (do_of (de_tup (da_cons de_int da_nil)))) (da_cons (de_tup da_nil) (da_cons de_non (da_cons (de_var 2) (da_cons de_str (da_cons (de_tup (da_cons (de_var 0) da_nil)) (da_cons (de_lst (da_cons (de_var 0) da_nil)) (da_cons (de_add (do_of (de_add (do_of (de_slice (do_of (de_var 0)) dp_none (dp_some (de_var 1)))) (do_of (de_tup (da_cons (de_sub (de_sub de_int de_int) (de_var 2)) da_nil))))) (do_of (de_slice (do_of (de_var 0)) (dp_some (de_add (do_of (de_var 1)) (do_of de_int))) dp_none))) (da_cons (de_add (do_of (de_add (do_of (de_slice (do_of (de_var 0)) dp_none (dp_some (de_var 1)))) (do_of (de_tup (da_cons de_bl da_nil))))) (do_of (de_slice (do_of (de_var 0)) (dp_some (de_add (do_of (de_var 1)) (do_of de_int))) dp_none))) da_nil))))))))))))) (dss_cons (ds_set (i := 3) sc_law_nearly.nd rfl (by first | exact .inl rfl | exact .inr rfl) (de_add (do_of (de_var 3)) (do_of (de_lst (da_cons (de_add (do_of (de_add (do_of (de_slice (do_of (de_var 0)) dp_none (dp_some (de_var 1)))) (do_of (de_tup (da_cons de_non da_nil))))) (do_of (de_slice (do_of (de_var 0)) (dp_some (de_add (do_of (de_var 1)) (do_of de_int))) dp_none))) (da_cons (de_add (do_of (de_add (do_of (de_slice (do_of (de_var 0)) dp_none (dp_some (de_var 1)))) (do_of (de_tup (da_cons de_str da_nil))))) (do_of (de_slice (do_of (de_var 0)) (dp_some (de_add (do_of (de_var 1)) (do_of de_int))) dp_none))) da_nil)))))) (dss_cons (ds_set (i := 3) sc_law_nearly.nd rfl (by first | exact .inl rfl | exact .inr rfl) (de_add (do_of (de_var 3)) (do_of (de_lst (da_cons (de_add (do_of (de_add (do_of (de_slice (do_of (de_var 0)) dp_none (dp_some (de_var 1)))) (do_of (de_tup (da_cons (de_slice (do_of (de_var 0)) (dp_some (de_var 1)) (dp_some (de_add (do_of (de_var 1)) (do_of de_int)))) da_nil))))) (do_of (de_slice (do_of (de_var 0)) (dp_some (de_add (do_of (de_var 1)) (do_of de_int))) dp_none))) (da_cons (de_add (do_of (de_slice (do_of (de_var 0)) dp_none (dp_some (de_var 1)))) (do_of (de_slice (do_of (de_var 0)) (dp_some (de_add (do_of (de_var 1)) (do_of de_int))) dp_none))) (da_cons (de_add (do_of (de_add (do_of (de_slice (do_of (de_var 0)) dp_none (dp_some (de_var 1)))) (do_of (de_tup (da_cons de_bl da_nil))))) (do_of (de_slice (do_of (de_var 0)) (dp_some (de_add (do_of (de_var 1)) (do_of de_int))) dp_none))) (da_cons de_bl da_nil)))))))) (dss_one (ds_ret (de_var 3)))))
theorem ok_law {f : Addr} {fd : FuncData} (F : Fun K (Str.ofString "law") (Str.ofString "law") s_law f fd) (h_law_numbers : EntD P w K mg base G (Str.ofString "_law_numbers") 1 1 F_law_numbers) (h_law_drawn : EntD P w K mg base G (Str.ofString "_law_drawn") 3 3 F_law_drawn) (h_law_pair : EntD P w K mg base G (Str.ofString "_law_pair") 4 2 F_law_pair) (h_joined : EntD P w K mg base G (Str.ofString "joined") 1 2 F_joined) (h_law_so : EntD P w K mg base G (Str.ofString "_law_so") 3 2 F_law_so) (h_met : EntD P w K mg base G (Str.ofString "met") 1 2 F_met) (h_is_within : EntD P w K mg base G (Str.ofString "is_within") 1 2 F_is_within) (h_is_clock : EntD P w K mg base G (Str.ofString "is_clock") 3 1 F_is_clock) (h_law_draw : EntD P w K mg base G (Str.ofString "_law_draw") 1 3 F_law_draw) (h_law_nearly : EntD P w K mg base G (Str.ofString "_law_nearly") 1 3 F_law_nearly) (c_NOUGHT : CstD K mg (Str.ofString "NOUGHT") K_NOUGHT) (z_len : mg (Str.ofString "len") = none) (z_min : mg (Str.ofString "min") = none) (z_range : mg (Str.ofString "range") = none) : FnOk P w K mg base CX0 5 f fd [(Str.ofString "_law_script")] (spD K G 1 F_law) :=
  fnD F sc_law rfl rfl fun cdv A outer s H E hr => dss_cons (ds_set (i := 1) sc_law.nd rfl (by first | exact .inl rfl | exact .inr rfl) (de_callE h_law_numbers (hr.mono (by decide)) (by rfl) (da_cons (de_var 0) da_nil))) (dss_cons (ds_for (vs := [2]) [2, 3, 4, 5, 6, 7, 8] PassesOwn.never rfl (di_range1 (by rfl) z_range (da_cons (de_add (do_of de_int) (do_of (de_min2 rfl (by rfl) z_min (by decide +kernel) (da_cons (de_div (de_len (by rfl) z_len (do_of (de_var 1))) de_int) (da_cons de_int da_nil))))) da_nil)) (dg_name 2 (by decide) sc_law.nd rfl (by first | exact .inl rfl | exact .inr rfl)) (dss_cons (ds_set (i := 3) sc_law.nd rfl (by first | exact .inl rfl | exact .inr rfl) (de_mul de_int (de_var 2))) (dss_cons (ds_set (i := 4) sc_law.nd rfl (by first | exact .inl rfl | exact .inr rfl) (de_callE h_law_drawn (hr.mono (by decide)) (by rfl) (da_cons (de_var 1) (da_cons (de_var 3) (da_cons (de_tup (da_cons de_int (da_cons de_int (da_cons de_int (da_cons de_int da_nil))))) da_nil))))) (dss_cons (ds_set (i := 5) sc_law.nd rfl (by first | exact .inl rfl | exact .inr rfl) (de_callE h_law_drawn (hr.mono (by decide)) (by rfl) (da_cons (de_var 1) (da_cons (de_add (do_of (de_var 3)) (do_of de_int)) (da_cons (de_var 4) da_nil))))) (dss_cons (ds_set (i := 6) sc_law.nd rfl (by first | exact .inl rfl | exact .inr rfl) (de_callE h_law_drawn (hr.mono (by decide)) (by rfl) (da_cons (de_var 1) (da_cons (de_add (do_of (de_var 3)) (do_of de_int)) (da_cons (de_var 5) da_nil))))) (dss_cons (ds_if (dt_w (dw_or (dt_not (dt_val (de_callE h_law_pair (hr.mono (by decide)) (by rfl) (da_cons (de_var 4) (da_cons (de_var 5) da_nil))))) (dw_or (dt_not (dt_val (de_callE h_law_pair (hr.mono (by decide)) (by rfl) (da_cons (de_var 5) (da_cons (de_var 6) da_nil))))) (dw_or (dt_not (dt_val (de_callE h_law_pair (hr.mono (by decide)) (by rfl) (da_cons (de_var 4) (da_cons (de_var 6) da_nil))))) (dw_or1 (dt_not (dt_val (de_callE h_law_pair (hr.mono (by decide)) (by rfl) (da_cons (de_var 4) (da_cons (de_cst c_NOUGHT (by rfl)) da_nil)))))))))) (dss_one (ds_ret de_bl)) dss_nil) (dss_cons (ds_if (dt_w (dw_or (dt_not (dt_val (de_callE h_law_so (hr.mono (by decide)) (by rfl) (da_cons (de_callE h_joined (hr.mono (by decide)) (by rfl) (da_cons (de_callE h_joined (hr.mono (by decide)) (by rfl) (da_cons (de_var 4) (da_cons (de_var 5) da_nil))) (da_cons (de_var 6) da_nil))) (da_cons (de_callE h_joined (hr.mono (by decide)) (by rfl) (da_cons (de_var 4) (da_cons (de_callE h_joined (hr.mono (by decide)) (by rfl) (da_cons (de_var 5) (da_cons (de_var 6) da_nil))) da_nil))) da_nil))))) (dw_or1 (dt_not (dt_val (de_callE h_law_so (hr.mono (by decide)) (by rfl) (da_cons (de_callE h_met (hr.mono (by decide)) (by rfl) (da_cons (de_callE h_met (hr.mono (by decide)) (by rfl) (da_cons (de_var 4) (da_cons (de_var 5) da_nil))) (da_cons (de_var 6) da_nil))) (da_cons (de_callE h_met (hr.mono (by decide)) (by rfl) (da_cons (de_var 4) (da_cons (de_callE h_met (hr.mono (by decide)) (by rfl) (da_cons (de_var 5) (da_cons (de_var 6) da_nil))) da_nil))) da_nil)))))))) (dss_one (ds_ret de_bl)) dss_nil) (dss_cons (ds_if (dt_w (dw_or (dt_not (dt_val (de_callE h_law_so (hr.mono (by decide)) (by rfl) (da_cons (de_callE h_met (hr.mono (by decide)) (by rfl) (da_cons (de_var 4) (da_cons (de_callE h_joined (hr.mono (by decide)) (by rfl) (da_cons (de_var 5) (da_cons (de_var 6) da_nil))) da_nil))) (da_cons (de_callE h_joined (hr.mono (by decide)) (by rfl) (da_cons (de_callE h_met (hr.mono (by decide)) (by rfl) (da_cons (de_var 4) (da_cons (de_var 5) da_nil))) (da_cons (de_callE h_met (hr.mono (by decide)) (by rfl) (da_cons (de_var 4) (da_cons (de_var 6) da_nil))) da_nil))) da_nil))))) (dw_or1 (dt_not (dt_val (de_callE h_law_so (hr.mono (by decide)) (by rfl) (da_cons (de_callE h_is_within (hr.mono (by decide)) (by rfl) (da_cons (de_cst c_NOUGHT (by rfl)) (da_cons (de_var 4) da_nil))) (da_cons de_bl da_nil)))))))) (dss_one (ds_ret de_bl)) dss_nil) (dss_cons (ds_for (vs := [7]) [7] PassesOwn.never rfl (di_any (de_lst (da_cons (de_var 4) (da_cons (de_var 5) (da_cons (de_callE h_joined (hr.mono (by decide)) (by rfl) (da_cons (de_var 4) (da_cons (de_var 6) da_nil))) (da_cons (de_cst c_NOUGHT (by rfl)) da_nil)))))) (dg_name 7 (by decide) sc_law.nd rfl (by first | exact .inl rfl | exact .inr rfl)) (dss_one (ds_if (dt_not (dt_val (de_callE h_law_so (hr.mono (by decide)) (by rfl) (da_cons (de_callE h_is_clock (hr.mono (by decide)) (by rfl) (da_cons (de_var 7) da_nil)) (da_cons de_bl da_nil))))) (dss_one (ds_ret de_bl)) dss_nil))) (dss_one (ds_for (vs := [8]) [8] PassesOwn.never rfl (di_any (de_callE h_law_nearly (hr.mono (by decide)) (by rfl) (da_cons (de_var 5) (da_cons (de_callE h_law_draw (hr.mono (by decide)) (by rfl) (da_cons (de_var 1) (da_cons (de_add (do_of (de_var 3)) (do_of de_int)) (da_cons de_int da_nil)))) (da_cons (de_callE h_law_draw (hr.mono (by decide)) (by rfl) (da_cons (de_var 1) (da_cons (de_add (do_of (de_var 3)) (do_of de_int)) (da_cons de_int da_nil)))) da_nil))))) (dg_name 8 (by decide) sc_law.nd rfl (by first | exact .inl rfl | exact .inr rfl)) (dss_one (ds_if (dt_not (dt_val (de_callE h_law_so (hr.mono (by decide)) (by rfl) (da_cons (de_callE h_is_clock (hr.mono (by decide)) (by rfl) (da_cons (de_var 8) da_nil)) (da_cons de_bl da_nil))))) (dss_one (ds_ret de_bl)) dss_nil))))))))))))) (dss_one (ds_ret (de_callE h_law_so (hr.mono (by decide)) (by rfl) (da_cons (de_cst c_NOUGHT (by rfl)) (da_cons (de_tup (da_cons de_int (da_cons de_int (da_cons de_int (da_cons de_int da_nil))))) da_nil))))))
end
end K02

namespace K02
open PySem PySem.Spec PyProof.Rows L2 Dn

abbrev clk (a b c d : Int) : D := .tuple [.int a, .int b, .int c, .int d]
theorem mx (a x : Int) : (if x > a then x else a) = max a x := by omega
theorem mx' (a x : Int) : (if a < x then x else a) = max a x := by omega
theorem mn (a x : Int) : (if x < a then x else a) = min a x := by omega
theorem mnn (a x : Int) : (if x < a then x else a) = min a x := by omega
theorem joined_clk (a b c d x y z w : Int) : F_joined [clk a b c d, clk x y z w] = .ok (clk (max a x) (max b y) (max c z) (max d w)) := by
  simp [F_joined, runF, b_joined, pairs, mx']
theorem met_clk (a b c d x y z w : Int) : F_met [clk a b c d, clk x y z w] = .ok (clk (min a x) (min b y) (min c z) (min d w)) := by
  simp [F_met, runF, b_met, pairs, mn]
theorem within_clk (a b c d x y z w : Int) : F_is_within [clk a b c d, clk x y z w] = .ok (.bool (decide (a ≤ x) && (decide (b ≤ y) && (decide (c ≤ z) && decide (d ≤ w))))) := by
  simp [F_is_within, runF, b_is_within, pairs, P.all, asL, bools?]
theorem isInt_none : F_is_integer [.none] = .ok (.bool false) := by simp [F_is_integer, runF, b_is_integer]
theorem isInt_bool (b : Bool) : F_is_integer [.bool b] = .ok (.bool false) := by simp [F_is_integer, runF, b_is_integer]
theorem isInt_int (i : Int) : F_is_integer [.int i] = .ok (.bool true) := by simp [F_is_integer, runF, b_is_integer]
theorem isInt_str (i : Str) : F_is_integer [.str i] = .ok (.bool false) := by simp [F_is_integer, runF, b_is_integer]
theorem isInt_tup (i : List D) : F_is_integer [.tuple i] = .ok (.bool false) := by simp [F_is_integer, runF, b_is_integer]
theorem number_int (i k : Int) : F_is_number [.int i, .int k] = .ok (.bool (decide (k ≤ i))) := by
  simp [F_is_number, runF, b_is_number, isInt_int]
theorem number_none (k : Int) : F_is_number [.none, .int k] = .ok (.bool false) := by simp [F_is_number, runF, b_is_number, isInt_none]
theorem number_bool (b : Bool) (k : Int) : F_is_number [.bool b, .int k] = .ok (.bool false) := by simp [F_is_number, runF, b_is_number, isInt_bool]
theorem number_str (b : Str) (k : Int) : F_is_number [.str b, .int k] = .ok (.bool false) := by simp [F_is_number, runF, b_is_number, isInt_str]
theorem number_tup (b : List D) (k : Int) : F_is_number [.tuple b, .int k] = .ok (.bool false) := by simp [F_is_number, runF, b_is_number, isInt_tup]
theorem eq_clk (a b c d x y z w : Int) : P.eq (.d (clk a b c d)) (.d (clk x y z w)) = .ok (.bool (a == x && (b == y && (c == z && d == w)))) := by
  simp [P.eq, opD, SeqAt.shaped, PyData.canLay0, PyData.canLayAll0, PyData.depth, PyData.depthAll, PyData.eqv, PyData.eqvAll]
def ord (e p q : Bool) : String := if e then "same" else if p then "before" else if q then "behind" else "apart"
theorem order_gen (A B : D) (e p q : Bool) (he : P.eq (.d A) (.d B) = .ok (.bool e)) (hp : F_is_within [A, B] = .ok (.bool p)) (hq : F_is_within [B, A] = .ok (.bool q)) : F_order_of [A, B] = .ok (.str (Str.ofString (ord e p q))) := by
  cases e <;> cases p <;> cases q <;> simp [F_order_of, runF, b_order_of, he, hp, hq, ord]
theorem order_clk (a b c d x y z w : Int) : F_order_of [clk a b c d, clk x y z w] = .ok (.str (Str.ofString (ord (a == x && (b == y && (c == z && d == w))) (decide (a ≤ x) && (decide (b ≤ y) && (decide (c ≤ z) && decide (d ≤ w)))) (decide (x ≤ a) && (decide (y ≤ b) && (decide (z ≤ c) && decide (w ≤ d))))))) :=
  order_gen _ _ _ _ _ (eq_clk ..) (within_clk ..) (within_clk ..)
/-! so -/
theorem so_bool (a b : Bool) : F_law_so [.bool a, .bool b] = .ok (.bool (a == b)) := by
  simp [F_law_so, Fn_law_so, runF, b_law_so, P.isN]
theorem so_str (a : Str) (h : SeqAt.shaped (.str a) = true) : F_law_so [.str a, .str a] = .ok (.bool true) := by
  simp [F_law_so, Fn_law_so, runF, b_law_so, P.isN, P.eq, opD, h, PyData.eqv]
theorem so_int1 (n : Nat) (a b : Int) : Fn_law_so (n + 1) [.int a, .int b] = .ok (.bool (a == b)) := by
  simp [Fn_law_so, runF, b_law_so, P.isN]
theorem so_clk (a b c d : Int) : F_law_so [clk a b c d, clk a b c d] = .ok (.bool true) := by
  unfold F_law_so
  rw [show (3 : Nat) = 2 + 1 from rfl]
  unfold Fn_law_so
  simp [runF, b_law_so, P.isN, rngD, List.range, List.range.loop, forGo_cons, so_int1, atI, ixN]
end K02

namespace K02
open PySem PySem.Spec PyProof.Rows L2 Dn
def c1 (b : Bool) : Int := if b then 1 else 0
theorem ite_app {α : Type} {p : Prop} [Decidable p] (x y : List α) : (if p then R.ok x else R.ok y) = R.ok (if p then x else y) := by split <;> rfl
/-- how many of four -/
theorem lc4 (p : Nat → Bool) {tg : TGd} {c : DSt → R Bool} {δ : DSt} {f : DSt → R D} (hf : ∀ i : Nat, ∃ δ', tg (.int i) δ = some δ' ∧ (i < 4 → c δ' = .ok (p i)) ∧ ∃ y, f δ' = .ok y) :
    ∃ ys, lcGo tg c f δ (rngD 0 4) = .ok ys ∧ (ys.length : Int) = c1 (p 0) + (c1 (p 1) + (c1 (p 2) + c1 (p 3))) := by
  obtain ⟨d0, a0, b0, y0, e0⟩ := hf 0
  obtain ⟨d1, a1, b1, y1, e1⟩ := hf 1
  obtain ⟨d2, a2, b2, y2, e2⟩ := hf 2
  obtain ⟨d3, a3, b3, y3, e3⟩ := hf 3
  have a0 : tg (.int 0) δ = some d0 := a0
  have a1 : tg (.int 1) δ = some d1 := a1
  have a2 : tg (.int 2) δ = some d2 := a2
  have a3 : tg (.int 3) δ = some d3 := a3
  have hr : rngD 0 4 = [.int 0, .int 1, .int 2, .int 3] := rfl
  rw [hr]
  simp only [lcGo_cons', lcGo_nil, a0, a1, a2, a3, b0 (by decide), b1 (by decide), b2 (by decide), b3 (by decide), e0, e1, e2, e3, R.bind_ok]
  cases p 0 <;> cases p 1 <;> cases p 2 <;> cases p 3 <;> exact ⟨_, rfl, rfl⟩
def lor (less more : Int) : String := if less + more = 0 then "same" else if less > 0 ∧ more > 0 then "apart" else if less > 0 then "before" else "behind"
theorem law_order_clk (a b c d x y z w : Int) : F_law_order [clk a b c d, clk x y z w] = .ok (.str (Str.ofString (lor (c1 (decide (a < x)) + (c1 (decide (b < y)) + (c1 (decide (c < z)) + c1 (decide (d < w)))))
    (c1 (decide (x < a)) + (c1 (decide (y < b)) + (c1 (decide (z < c)) + c1 (decide (w < d)))))))) := by
  obtain ⟨l1, h1, e1⟩ := lc4 (fun i => match i with | 0 => decide (a < x) | 1 => decide (b < y) | 2 => decide (c < z) | _ => decide (d < w)) (tg := gN 4)
    (c := fun δ => ((dTru (dLt (dIdx (dOp (dVar 0)) (dVar 4)) (dIdx (dOp (dVar 1)) (dVar 4)))) δ).noer) (f := fun δ => ((dVar 4) δ).noer) (δ := [SV.dat (clk a b c d), SV.dat (clk x y z w), .no, .no, .no])
    (fun i => ⟨_, rfl, fun hi => by
      match i, hi with
      | 0, _ => simp [atI, ixN]
      | 1, _ => simp [atI, ixN]
      | 2, _ => simp [atI, ixN]
      | 3, _ => simp [atI, ixN], _, rfl⟩)
  obtain ⟨l2, h2, e2⟩ := lc4 (fun i => match i with | 0 => decide (x < a) | 1 => decide (y < b) | 2 => decide (z < c) | _ => decide (w < d)) (tg := gN 4)
    (c := fun δ => ((dTru (dGt (dIdx (dOp (dVar 0)) (dVar 4)) (dIdx (dOp (dVar 1)) (dVar 4)))) δ).noer) (f := fun δ => ((dVar 4) δ).noer) (δ := [SV.dat (clk a b c d), SV.dat (clk x y z w), .dat (.int l1.length), .no, .no])
    (fun i => ⟨_, rfl, fun hi => by
      match i, hi with
      | 0, _ => simp [atI, ixN]
      | 1, _ => simp [atI, ixN]
      | 2, _ => simp [atI, ixN]
      | 3, _ => simp [atI, ixN], _, rfl⟩)
  have e1 : (l1.length : Int) = c1 (decide (a < x)) + (c1 (decide (b < y)) + (c1 (decide (c < z)) + c1 (decide (d < w)))) := e1
  have e2 : (l2.length : Int) = c1 (decide (x < a)) + (c1 (decide (y < b)) + (c1 (decide (z < c)) + c1 (decide (w < d)))) := e2
  rw [← e1, ← e2]
  unfold F_law_order b_law_order
  have hl : (rngD 0 (4 : Int).toNat).length ≤ LIM := by decide
  have r4 : rngD 0 (4 : Int).toNat = rngD 0 4 := rfl
  simp only [runF, dSeq_ap, dSet_ap, dLen_ap, dOp_ap, dFre_ap, dLc_ap, dRng_ap, dCons_ap, dC_ap, dNil_ap, R.bind_ok, range1_int]
  rw [if_pos (by decide)]
  simp only [R.bind_ok]
  rw [if_pos hl, r4]
  have s1 : fgt (List.map SV.dat [clk a b c d, clk x y z w] ++ List.replicate (5 - [clk a b c d, clk x y z w].length) SV.no) [4] = [SV.dat (clk a b c d), SV.dat (clk x y z w), .no, .no, .no] := rfl
  rw [s1, h1]
  simp only [R.bind_ok, len_lst]
  rw [if_pos (by decide)]
  have s2 : fgt ((List.map SV.dat [clk a b c d, clk x y z w] ++ List.replicate (5 - [clk a b c d, clk x y z w].length) SV.no).set 2 (.dat (.int l1.length))) [4] = [SV.dat (clk a b c d), SV.dat (clk x y z w), .dat (.int l1.length), .no, .no] := rfl
  rw [s2, h2]
  simp only [R.bind_ok, len_lst]
  clear h1 h2 e1 e2 s1 s2
  generalize l1.length = p
  generalize l2.length = q
  have st : ∀ p q : Int, 0 ≤ p → 0 ≤ q → (if p + q = 0 then "same" else if p > 0 ∧ q > 0 then "apart" else if p > 0 then "before" else "behind") = lor p q := fun _ _ _ _ => rfl
  rw [← st _ _ (Int.natCast_nonneg p) (Int.natCast_nonneg q)]
  by_cases hp : p = 0
  · subst hp
    by_cases hq : q = 0
    · subst hq
      simp
    · have hq' : ¬ (q : Int) = 0 := by omega
      simp [hq, hq']
  · have hp' : (0 : Int) < p := by omega
    by_cases hq : q = 0
    · subst hq
      have : ¬ (p : Int) = 0 := by omega
      simp [hp, hp', this, Nat.pos_of_ne_zero hp]
    · have h3 : ¬ ((p : Int) + q = 0) := by omega
      have h4 : (0 : Int) < q := by omega
      simp [h3, hp', h4, Nat.pos_of_ne_zero hp, Nat.pos_of_ne_zero hq]
theorem ord_lor (a b c d x y z w : Int) : lor (c1 (decide (a < x)) + (c1 (decide (b < y)) + (c1 (decide (c < z)) + c1 (decide (d < w))))) (c1 (decide (x < a)) + (c1 (decide (y < b)) + (c1 (decide (z < c)) + c1 (decide (w < d))))) =
    ord (a == x && (b == y && (c == z && d == w))) (decide (a ≤ x) && (decide (b ≤ y) && (decide (c ≤ z) && decide (d ≤ w)))) (decide (x ≤ a) && (decide (y ≤ b) && (decide (z ≤ c) && decide (w ≤ d)))) := by
  have key : ∀ i j : Int, (c1 (decide (i < j)) = if i < j then 1 else 0) := fun i j => by unfold c1; by_cases h : i < j <;> simp [h]
  unfold lor ord
  simp only [key, Bool.and_eq_true, beq_iff_eq, decide_eq_true_eq]
  have h1 : ((if a < x then (1 : Int) else 0) + ((if b < y then 1 else 0) + ((if c < z then 1 else 0) + if d < w then 1 else 0)) + ((if x < a then 1 else 0) + ((if y < b then 1 else 0) + ((if z < c then 1 else 0) + if w < d then 1 else 0))) = 0) ↔ (a = x ∧ b = y ∧ c = z ∧ d = w) := by omega
  have h2 : ((if a < x then (1 : Int) else 0) + ((if b < y then 1 else 0) + ((if c < z then 1 else 0) + if d < w then 1 else 0)) > 0) ↔ ¬ (x ≤ a ∧ y ≤ b ∧ z ≤ c ∧ w ≤ d) := by omega
  have h3 : ((if x < a then (1 : Int) else 0) + ((if y < b then 1 else 0) + ((if z < c then 1 else 0) + if w < d then 1 else 0)) > 0) ↔ ¬ (a ≤ x ∧ b ≤ y ∧ c ≤ z ∧ d ≤ w) := by omega
  simp only [h1, h2, h3]
  by_cases e : a = x ∧ b = y ∧ c = z ∧ d = w
  · simp [e]
  · by_cases p : a ≤ x ∧ b ≤ y ∧ c ≤ z ∧ d ≤ w
    · by_cases q : x ≤ a ∧ y ≤ b ∧ z ≤ c ∧ w ≤ d
      · exact absurd (by omega) e
      · simp only [e, p, q]; simp
    · by_cases q : x ≤ a ∧ y ≤ b ∧ z ≤ c ∧ w ≤ d
      · simp only [e, p, q]; simp
      · simp only [e, p, q]; simp
theorem law_order_eq (a b c d x y z w : Int) : F_law_order [clk a b c d, clk x y z w] = F_order_of [clk a b c d, clk x y z w] := by
  rw [law_order_clk, order_clk, ord_lor]
end K02

namespace K02
open PySem PySem.Spec PyProof.Rows L2 Dn
theorem shaped_same : SeqAt.shaped (.str (Str.ofString "same")) = true ∧ SeqAt.shaped (.str (Str.ofString "before")) = true ∧ SeqAt.shaped (.str (Str.ofString "behind")) = true ∧ SeqAt.shaped (.str (Str.ofString "apart")) = true := by decide +kernel
theorem ord_cases (e p q : Bool) : ord e p q = "same" ∨ ord e p q = "before" ∨ ord e p q = "behind" ∨ ord e p q = "apart" := by
  cases e <;> cases p <;> cases q <;> simp [ord]
theorem so_ord (e p q : Bool) : F_law_so [.str (Str.ofString (ord e p q)), .str (Str.ofString (ord e p q))] = .ok (.bool true) := by
  refine so_str _ ?_
  rcases ord_cases e p q with h | h | h | h <;> rw [h]
  · exact shaped_same.1
  · exact shaped_same.2.1
  · exact shaped_same.2.2.1
  · exact shaped_same.2.2.2
def opp (s : String) : String := if s = "same" then "same" else if s = "before" then "behind" else if s = "behind" then "before" else "apart"
abbrev oppL : List (Str × Str) := [(Str.ofString "same", Str.ofString "same"), (Str.ofString "before", Str.ofString "behind"), (Str.ofString "behind", Str.ofString "before"), (Str.ofString "apart", Str.ofString "apart")]
theorem opp_look : dlook oppL (Str.ofString "same") = some (.str (Str.ofString "same")) ∧ dlook oppL (Str.ofString "before") = some (.str (Str.ofString "behind")) ∧ dlook oppL (Str.ofString "behind") = some (.str (Str.ofString "before")) ∧ dlook oppL (Str.ofString "apart") = some (.str (Str.ofString "apart")) := by decide +kernel
theorem dlit_ord (e p q : Bool) {f : DSt → R D} {δ : DSt} (h : f δ = .ok (.str (Str.ofString (ord e p q)))) : dLit oppL f δ = .ok (.str (Str.ofString (opp (ord e p q)))) := by
  unfold dLit
  rw [h]
  simp only [R.bind_ok]
  rcases ord_cases e p q with h | h | h | h <;> rw [h]
  · rw [opp_look.1]; rfl
  · rw [opp_look.2.1]; rfl
  · rw [opp_look.2.2.1]; rfl
  · rw [opp_look.2.2.2]; rfl
theorem in_ord (e p q : Bool) : P.inF false (.str (Str.ofString (ord e p q))) (.d (.tuple [.str (Str.ofString "same"), .str (Str.ofString "before")])) = .ok (.bool (ord e p q == "same" || ord e p q == "before")) ∧
    P.inF false (.str (Str.ofString (ord e p q))) (.d (.tuple [.str (Str.ofString "same"), .str (Str.ofString "behind")])) = .ok (.bool (ord e p q == "same" || ord e p q == "behind")) := by
  rcases ord_cases e p q with h | h | h | h <;> rw [h] <;> simp [P.inF, asSq, flatD, PyData.eqv] <;> decide +kernel
def pHi : DSt → R D := d1 P.tuple (dOp (dFre (dLc (dRng P.range1 (dCons (dC (.int 4)) dNil)) (gN 5) (fun δ => (dYes δ).noer) (fun δ => ((dIf (dTru (dGt (dIdx (dOp (dVar 0)) (dVar 5)) (dIdx (dOp (dVar 1)) (dVar 5)))) (dIdx (dOp (dVar 0)) (dVar 5)) (dIdx (dOp (dVar 1)) (dVar 5))) δ).noer) [5])))
def pLo : DSt → R D := d1 P.tuple (dOp (dFre (dLc (dRng P.range1 (dCons (dC (.int 4)) dNil)) (gN 5) (fun δ => (dYes δ).noer) (fun δ => ((dIf (dTru (dGt (dIdx (dOp (dVar 0)) (dVar 5)) (dIdx (dOp (dVar 1)) (dVar 5)))) (dIdx (dOp (dVar 1)) (dVar 5)) (dIdx (dOp (dVar 0)) (dVar 5))) δ).noer) [5])))
def pRest : DSt → R Out := dSeq (dIf (dOr (dNot (dTru (dCallN 2 F_law_so (dCons (dCallN 2 F_joined (dCons (dVar 0) (dCons (dVar 1) dNil))) (dCons (dVar 2) dNil))))) (dOr (dNot (dTru (dCallN 2 F_law_so (dCons (dCallN 2 F_met (dCons (dVar 0) (dCons (dVar 1) dNil))) (dCons (dVar 3) dNil))))) (dOr (dNot (dTru (dCallN 2 F_law_so (dCons (dCallN 2 F_joined (dCons (dVar 1) (dCons (dVar 0) dNil))) (dCons (dVar 2) dNil))))) (dNot (dTru (dCallN 2 F_law_so (dCons (dCallN 2 F_met (dCons (dVar 1) (dCons (dVar 0) dNil))) (dCons (dVar 3) dNil)))))))) (dRet (dC (.bool false))) dNext) (dSeq (dIf (dOr (dNot (dTru (dCallN 2 F_law_so (dCons (dCallN 2 F_joined (dCons (dVar 0) (dCons (dCallN 2 F_met (dCons (dVar 0) (dCons (dVar 1) dNil))) dNil))) (dCons (dVar 0) dNil))))) (dOr (dNot (dTru (dCallN 2 F_law_so (dCons (dCallN 2 F_met (dCons (dVar 0) (dCons (dCallN 2 F_joined (dCons (dVar 0) (dCons (dVar 1) dNil))) dNil))) (dCons (dVar 0) dNil))))) (dOr (dNot (dTru (dCallN 2 F_law_so (dCons (dCallN 2 F_joined (dCons (dVar 0) (dCons (dVar 0) dNil))) (dCons (dVar 0) dNil))))) (dNot (dTru (dCallN 2 F_law_so (dCons (dCallN 2 F_met (dCons (dVar 0) (dCons (dVar 0) dNil))) (dCons (dVar 0) dNil)))))))) (dRet (dC (.bool false))) dNext) (dSeq (dSet 4 (dCallN 2 F_law_order (dCons (dVar 0) (dCons (dVar 1) dNil)))) (dSeq (dIf (dOr (dNot (dTru (dCallN 2 F_law_so (dCons (dCallN 2 F_order_of (dCons (dVar 0) (dCons (dVar 1) dNil))) (dCons (dVar 4) dNil))))) (dNot (dTru (dCallN 2 F_law_so (dCons (dCallN 2 F_order_of (dCons (dVar 1) (dCons (dVar 0) dNil))) (dCons (dLit [((Str.ofString "same"), (Str.ofString "same")), ((Str.ofString "before"), (Str.ofString "behind")), ((Str.ofString "behind"), (Str.ofString "before")), ((Str.ofString "apart"), (Str.ofString "apart"))] (dVar 4)) dNil)))))) (dRet (dC (.bool false))) dNext) (dSeq (dIf (dOr (dNot (dTru (dCallN 2 F_law_so (dCons (dCallN 2 F_is_within (dCons (dVar 0) (dCons (dVar 1) dNil))) (dCons (dIn false (dVar 4) (dOp (dTup (dCons (dC (.str (Str.ofString "same"))) (dCons (dC (.str (Str.ofString "before"))) dNil))))) dNil))))) (dNot (dTru (dCallN 2 F_law_so (dCons (dCallN 2 F_is_within (dCons (dVar 1) (dCons (dVar 0) dNil))) (dCons (dIn false (dVar 4) (dOp (dTup (dCons (dC (.str (Str.ofString "same"))) (dCons (dC (.str (Str.ofString "behind"))) dNil))))) dNil)))))) (dRet (dC (.bool false))) dNext) (dRet (dAndV (dCallN 2 F_law_so (dCons (dCallN 2 F_is_within (dCons (dVar 3) (dCons (dVar 0) dNil))) (dCons (dC (.bool true)) dNil))) (dAndV (dCallN 2 F_law_so (dCons (dCallN 2 F_is_within (dCons (dVar 1) (dCons (dVar 2) dNil))) (dCons (dC (.bool true)) dNil))) (dCallN 2 F_law_so (dCons (dCallN 2 F_order_of (dCons (dVar 0) (dCons (dVar 0) dNil))) (dCons (dC (.str (Str.ofString "same"))) dNil))))))))))
theorem pair_split : b_law_pair = dSeq (dSet 2 pHi) (dSeq (dSet 3 pLo) pRest) := rfl
theorem rest_ok (A B hi lo : D) (s t : Str) (p q : Bool) (j1 : F_joined [A, B] = .ok hi) (j2 : F_joined [B, A] = .ok hi) (m1 : F_met [A, B] = .ok lo) (m2 : F_met [B, A] = .ok lo) (j3 : F_joined [A, lo] = .ok A) (m3 : F_met [A, hi] = .ok A)
    (j4 : F_joined [A, A] = .ok A) (m4 : F_met [A, A] = .ok A) (sh : F_law_so [hi, hi] = .ok (.bool true)) (sl : F_law_so [lo, lo] = .ok (.bool true)) (sa : F_law_so [A, A] = .ok (.bool true)) (lo1 : F_law_order [A, B] = .ok (.str s)) (o1 : F_order_of [A, B] = .ok (.str s)) (o2 : F_order_of [B, A] = .ok (.str t))
    (ss : F_law_so [.str s, .str s] = .ok (.bool true)) (st : F_law_so [.str t, .str t] = .ok (.bool true)) (dl : ∀ f δ, f δ = .ok (.str s) → dLit oppL f δ = .ok (.str t)) (w1 : F_is_within [A, B] = .ok (.bool p)) (w2 : F_is_within [B, A] = .ok (.bool q))
    (i1 : P.inF false (.str s) (.d (.tuple [.str (Str.ofString "same"), .str (Str.ofString "before")])) = .ok (.bool p)) (i2 : P.inF false (.str s) (.d (.tuple [.str (Str.ofString "same"), .str (Str.ofString "behind")])) = .ok (.bool q))
    (w3 : F_is_within [lo, A] = .ok (.bool true)) (w4 : F_is_within [B, hi] = .ok (.bool true)) (o3 : F_order_of [A, A] = .ok (.str (Str.ofString "same"))) :
    pRest [.dat A, .dat B, .dat hi, .dat lo, .no, .no] = .ok (.rt (.bool true)) := by
  have dl' := dl (dVar 4) [.dat A, .dat B, .dat hi, .dat lo, .dat (.str s), .no] rfl
  have s3 := so_str (Str.ofString "same") shaped_same.1
  unfold pRest
  simp [j1, j2, m1, m2, j3, m3, j4, m4, sh, sl, sa, lo1, o1, o2, ss, st, dl', w1, w2, i1, i2, w3, w4, o3, so_bool, s3]
theorem hi_ok (a b c d x y z w : Int) : pHi [.dat (clk a b c d), .dat (clk x y z w), .no, .no, .no, .no] = .ok (clk (max a x) (max b y) (max c z) (max d w)) := by
  have h : ∀ i j : Int, (R.bind (if j < i then R.ok (PyData.int i) else R.ok (PyData.int j)) fun d => R.ok d) = R.ok (PyData.int (max i j)) := fun i j => by
    by_cases h : j < i
    · rw [if_pos h, show max i j = i by omega]; rfl
    · rw [if_neg h, show max i j = j by omega]; rfl
  have h' : ∀ i j : Int, (if j < i then R.ok (PyData.int i) else R.ok (PyData.int j)) = R.ok (PyData.int (max i j)) := fun i j => by
    by_cases h : j < i
    · rw [if_pos h, show max i j = i by omega]
    · rw [if_neg h, show max i j = j by omega]
  unfold pHi
  simp [rngD, List.range, List.range.loop, atI, ixN, h']
theorem lo_ok (a b c d x y z w : Int) (e : SV) : pLo [.dat (clk a b c d), .dat (clk x y z w), e, .no, .no, .no] = .ok (clk (min a x) (min b y) (min c z) (min d w)) := by
  have h' : ∀ i j : Int, (if j < i then R.ok (PyData.int j) else R.ok (PyData.int i)) = R.ok (PyData.int (min i j)) := fun i j => by
    by_cases h : j < i
    · rw [if_pos h, show min i j = j by omega]
    · rw [if_neg h, show min i j = i by omega]
  unfold pLo
  simp [rngD, List.range, List.range.loop, atI, ixN, h']
/-- the order, turned round -/
theorem opp_ord (a b c d x y z w : Int) : opp (ord (a == x && (b == y && (c == z && d == w))) (decide (a ≤ x) && (decide (b ≤ y) && (decide (c ≤ z) && decide (d ≤ w)))) (decide (x ≤ a) && (decide (y ≤ b) && (decide (z ≤ c) && decide (w ≤ d))))) =
    ord (x == a && (y == b && (z == c && w == d))) (decide (x ≤ a) && (decide (y ≤ b) && (decide (z ≤ c) && decide (w ≤ d)))) (decide (a ≤ x) && (decide (b ≤ y) && (decide (c ≤ z) && decide (d ≤ w)))) := by
  have e1 : (x == a && (y == b && (z == c && w == d))) = (a == x && (b == y && (c == z && d == w))) := by
    rw [Bool.eq_iff_iff]
    simp only [Bool.and_eq_true, beq_iff_eq]
    omega
  rw [e1]
  have e2 : (decide (a ≤ x) && (decide (b ≤ y) && (decide (c ≤ z) && decide (d ≤ w)))) = true → (decide (x ≤ a) && (decide (y ≤ b) && (decide (z ≤ c) && decide (w ≤ d)))) = true → (a == x && (b == y && (c == z && d == w))) = true := by
    simp only [Bool.and_eq_true, beq_iff_eq, decide_eq_true_eq]
    omega
  revert e2
  generalize (decide (a ≤ x) && (decide (b ≤ y) && (decide (c ≤ z) && decide (d ≤ w)))) = p
  generalize (decide (x ≤ a) && (decide (y ≤ b) && (decide (z ≤ c) && decide (w ≤ d)))) = q
  generalize (a == x && (b == y && (c == z && d == w))) = e
  intro e2
  cases e <;> cases p <;> cases q <;> first | rfl | exact absurd (e2 rfl rfl) (by decide) | decide
theorem ord_in (a b c d x y z w : Int) :
    ((ord (a == x && (b == y && (c == z && d == w))) (decide (a ≤ x) && (decide (b ≤ y) && (decide (c ≤ z) && decide (d ≤ w)))) (decide (x ≤ a) && (decide (y ≤ b) && (decide (z ≤ c) && decide (w ≤ d)))) == "same" ||
      ord (a == x && (b == y && (c == z && d == w))) (decide (a ≤ x) && (decide (b ≤ y) && (decide (c ≤ z) && decide (d ≤ w)))) (decide (x ≤ a) && (decide (y ≤ b) && (decide (z ≤ c) && decide (w ≤ d)))) == "before") = (decide (a ≤ x) && (decide (b ≤ y) && (decide (c ≤ z) && decide (d ≤ w))))) ∧
    ((ord (a == x && (b == y && (c == z && d == w))) (decide (a ≤ x) && (decide (b ≤ y) && (decide (c ≤ z) && decide (d ≤ w)))) (decide (x ≤ a) && (decide (y ≤ b) && (decide (z ≤ c) && decide (w ≤ d)))) == "same" ||
      ord (a == x && (b == y && (c == z && d == w))) (decide (a ≤ x) && (decide (b ≤ y) && (decide (c ≤ z) && decide (d ≤ w)))) (decide (x ≤ a) && (decide (y ≤ b) && (decide (z ≤ c) && decide (w ≤ d)))) == "behind") = (decide (x ≤ a) && (decide (y ≤ b) && (decide (z ≤ c) && decide (w ≤ d))))) := by
  have e2 : (decide (a ≤ x) && (decide (b ≤ y) && (decide (c ≤ z) && decide (d ≤ w)))) = true → (decide (x ≤ a) && (decide (y ≤ b) && (decide (z ≤ c) && decide (w ≤ d)))) = true → (a == x && (b == y && (c == z && d == w))) = true := by
    simp only [Bool.and_eq_true, beq_iff_eq, decide_eq_true_eq]
    omega
  have e3 : (a == x && (b == y && (c == z && d == w))) = true → (decide (a ≤ x) && (decide (b ≤ y) && (decide (c ≤ z) && decide (d ≤ w)))) = true ∧ (decide (x ≤ a) && (decide (y ≤ b) && (decide (z ≤ c) && decide (w ≤ d)))) = true := by
    simp only [Bool.and_eq_true, beq_iff_eq, decide_eq_true_eq]
    omega
  revert e2 e3
  generalize (decide (a ≤ x) && (decide (b ≤ y) && (decide (c ≤ z) && decide (d ≤ w)))) = p
  generalize (decide (x ≤ a) && (decide (y ≤ b) && (decide (z ≤ c) && decide (w ≤ d)))) = q
  generalize (a == x && (b == y && (c == z && d == w))) = e
  intro e2 e3
  cases e <;> cases p <;> cases q <;> first | exact absurd (e2 rfl rfl) (by decide) | exact absurd (e3 rfl).1 (by decide) | exact absurd (e3 rfl).2 (by decide) | decide
/-- a pair of clocks -/
theorem pair_true (a b c d x y z w : Int) : F_law_pair [clk a b c d, clk x y z w] = .ok (.bool true) := by
  have mm : ∀ i j : Int, max j i = max i j := fun i j => by omega
  have nn : ∀ i j : Int, min j i = min i j := fun i j => by omega
  have r := rest_ok (clk a b c d) (clk x y z w) (clk (max a x) (max b y) (max c z) (max d w)) (clk (min a x) (min b y) (min c z) (min d w)) _ _ _ _ (joined_clk a b c d x y z w) (by rw [joined_clk, mm a, mm b, mm c, mm d]) (met_clk a b c d x y z w) (by rw [met_clk, nn a, nn b, nn c, nn d])
    (by rw [joined_clk]; congr <;> omega) (by rw [met_clk]; congr <;> omega) (by rw [joined_clk]; congr <;> omega) (by rw [met_clk]; congr <;> omega) (so_clk ..) (so_clk ..) (so_clk ..) (by rw [law_order_eq]; exact order_clk a b c d x y z w) (order_clk a b c d x y z w) (order_clk x y z w a b c d)
    (so_ord ..) (so_ord ..) (fun f δ h => by rw [dlit_ord _ _ _ h, opp_ord]) (within_clk a b c d x y z w) (within_clk x y z w a b c d) (by rw [(in_ord _ _ _).1, (ord_in a b c d x y z w).1]) (by rw [(in_ord _ _ _).2, (ord_in a b c d x y z w).2])
    (by rw [within_clk]; simp only [R.ok.injEq, PyData.bool.injEq, Bool.and_eq_true, decide_eq_true_eq]; omega) (by rw [within_clk]; simp only [R.ok.injEq, PyData.bool.injEq, Bool.and_eq_true, decide_eq_true_eq]; omega) (by rw [order_clk]; simp [ord])
  unfold F_law_pair
  rw [pair_split]
  have s0 : List.map SV.dat [clk a b c d, clk x y z w] ++ List.replicate (6 - [clk a b c d, clk x y z w].length) SV.no = [.dat (clk a b c d), .dat (clk x y z w), .no, .no, .no, .no] := rfl
  simp only [runF, s0, dSeq_ap, dSet_ap, hi_ok, R.bind_ok, List.set_cons_succ, List.set_cons_zero, lo_ok, r, R.noer_ok]
end K02

namespace K02
open PySem PySem.Spec PyProof.Rows L2 Dn
theorem draw_ok (row : List Int) (a k : Int) (hr : row ≠ []) (hl : row.length ≤ 100000) (h0 : 0 ≤ a) (hk : 0 < k) : ∃ n : Int, F_law_draw [.list (row.map PyData.int), .int a, .int k] = .ok (.int n) ∧ 0 ≤ n ∧ n < k := DnL.draw_ok row a k hr hl h0 hk
theorem numbers_ok (ns : List Int) (hl : ns.length ≤ 63) : ∃ row : List Int, F_law_numbers [scr (ns.map PyData.int)] = .ok (.list (row.map PyData.int)) ∧ row ≠ [] ∧ row.length ≤ 3900 := DnL.numbers_ok ns hl
theorem count_ok (row : List Int) (a : Int) (hr : row ≠ []) (hl : row.length ≤ 100000) (h0 : 0 ≤ a) : ∃ n : Int, F_law_count [.list (row.map PyData.int), .int a] = .ok (.int n) ∧ 0 ≤ n := by
  obtain ⟨k, h1, k0, k4⟩ := draw_ok row a 4 hr hl h0 (by decide)
  obtain ⟨v, h2, v0, v1⟩ := draw_ok row (a + 1) 997 hr hl (by omega) (by decide)
  obtain ⟨u, h3, u0, u1⟩ := draw_ok row (a + 2) 9 hr hl (by omega) (by decide)
  have m1 : ∀ x : Int, cMul x 1000000000000 = true := fun x => mul_r (by decide) (by decide)
  by_cases hk : k = 0
  · subst hk
    refine ⟨v % 3, ?_, Int.emod_nonneg _ (by decide)⟩
    simp [F_law_count, runF, b_law_count, h1, h2]
  · by_cases hk3 : k < 3
    · refine ⟨v, ?_, v0⟩
      simp [F_law_count, runF, b_law_count, h1, h2, hk, hk3]
    · refine ⟨v * 1000000000000 + u, ?_, by omega⟩
      simp [F_law_count, runF, b_law_count, h1, h2, h3, hk, hk3, m1]
theorem drawn_ok (row : List Int) (a : Int) (o0 o1 o2 o3 : Int) (hr : row ≠ []) (hl : row.length ≤ 100000) (h0 : 0 ≤ a) (p0 : 0 ≤ o0) (p1 : 0 ≤ o1) (p2 : 0 ≤ o2) (p3 : 0 ≤ o3) :
    ∃ x y z w : Int, F_law_drawn [.list (row.map PyData.int), .int a, clk o0 o1 o2 o3] = .ok (clk x y z w) ∧ 0 ≤ x ∧ 0 ≤ y ∧ 0 ≤ z ∧ 0 ≤ w := by
  have turn : ∀ (i : Nat) (hi : i < 4) (ds : List D), ds.length < 100 → ∃ v : Int, 0 ≤ v ∧ (dApp 3 (dIf (dTru (d2 P.eq (dOp (dCallN 3 F_law_draw (dCons (dVar 0) (dCons (dAdd (dOp (dVar 1)) (dOp (dVar 4))) (dCons (dC (.int 3)) dNil))))) (dOp (dC (.int 0))))) (dIdx (dOp (dVar 2)) (dVar 4)) (dCallN 2 F_law_count (dCons (dVar 0) (dCons (dAdd (dOp (dAdd (dOp (dVar 1)) (dOp (dC (.int 4))))) (dOp (dMul (dC (.int 3)) (dVar 4)))) dNil)))))
      [.dat (.list (row.map PyData.int)), .dat (.int a), .dat (clk o0 o1 o2 o3), .own ds, .dat (.int (i : Nat))] = .ok (.nx [.dat (.list (row.map PyData.int)), .dat (.int a), .dat (clk o0 o1 o2 o3), .own (ds ++ [.int v]), .dat (.int (i : Nat))]) := by
    intro i hi ds hd
    obtain ⟨k, h1, k0, k3⟩ := draw_ok row (a + i) 3 hr hl (by omega) (by decide)
    obtain ⟨v, h2, v0⟩ := count_ok row (a + 4 + 3 * i) hr hl (by omega)
    have m1 : ∀ x : Int, cMul 3 x = true := fun x => mul_l (by decide) (by decide)
    have hd' : ds.length < 100000 := by omega
    by_cases hk : k = 0
    · subst hk
      have hx : ∃ x : Int, 0 ≤ x ∧ atI [PyData.int o0, .int o1, .int o2, .int o3] (i : Nat) = some (.int x) := by
        match i, hi with
        | 0, _ => exact ⟨o0, p0, rfl⟩
        | 1, _ => exact ⟨o1, p1, rfl⟩
        | 2, _ => exact ⟨o2, p2, rfl⟩
        | 3, _ => exact ⟨o3, p3, rfl⟩
      obtain ⟨x, x0, hx⟩ := hx
      exact ⟨x, x0, by simp [h1, hx, hd']⟩
    · exact ⟨v, v0, by simp [h1, h2, hk, m1, hd']⟩
  obtain ⟨x, x0, t0⟩ := turn 0 (by decide) [] (by decide)
  obtain ⟨y, y0, t1⟩ := turn 1 (by decide) [.int x] (by simp)
  obtain ⟨z, z0, t2⟩ := turn 2 (by decide) [.int x, .int y] (by simp)
  obtain ⟨w, w0, t3⟩ := turn 3 (by decide) [.int x, .int y, .int z] (by simp)
  refine ⟨x, y, z, w, ?_, x0, y0, z0, w0⟩
  unfold F_law_drawn b_law_drawn
  have r4 : rngD 0 (4 : Int).toNat = [.int 0, .int 1, .int 2, .int 3] := rfl
  have s0 : List.map SV.dat [.list (row.map PyData.int), .int a, clk o0 o1 o2 o3] ++ List.replicate (5 - [.list (row.map PyData.int), .int a, clk o0 o1 o2 o3].length) SV.no = [.dat (.list (row.map PyData.int)), .dat (.int a), .dat (clk o0 o1 o2 o3), .no, .no] := rfl
  simp only [runF, s0, dSeq_ap, dSetN_ap, dLstN_ap, dNil_ap, R.bind_ok]
  rw [if_pos (by decide)]
  simp only [R.bind_ok, dFor_ap, dRng_ap, dCons_ap, dC_ap, dNil_ap, range1_int]
  rw [if_pos (by decide)]
  simp only [R.bind_ok, r4, List.set_cons_succ, List.set_cons_zero]
  have t0 := t0; have t1 := t1; have t2 := t2; have t3 := t3
  simp only [List.nil_append, List.cons_append] at t0 t1 t2 t3
  rw [forGo_cons]
  simp only [fgt_cons, fgt_nil, gN_ap, List.set_cons_succ, List.set_cons_zero]
  rw [show ((0 : Nat) : Int) = 0 from rfl] at t0
  rw [show ((1 : Nat) : Int) = 1 from rfl] at t1
  rw [show ((2 : Nat) : Int) = 2 from rfl] at t2
  rw [show ((3 : Nat) : Int) = 3 from rfl] at t3
  rw [t0]
  simp only [R.bind_ok]
  rw [forGo_cons]
  simp only [fgt_cons, fgt_nil, gN_ap, List.set_cons_succ, List.set_cons_zero]
  rw [t1]
  simp only [R.bind_ok]
  rw [forGo_cons]
  simp only [fgt_cons, fgt_nil, gN_ap, List.set_cons_succ, List.set_cons_zero]
  rw [t2]
  simp only [R.bind_ok]
  rw [forGo_cons]
  simp only [fgt_cons, fgt_nil, gN_ap, List.set_cons_succ, List.set_cons_zero]
  rw [t3]
  simp [forGo]
/-! is_clock -/
theorem clock_clk (a b c d : Int) (h0 : 0 ≤ a) (h1 : 0 ≤ b) (h2 : 0 ≤ c) (h3 : 0 ≤ d) : F_is_clock [clk a b c d] = .ok (.bool true) := by
  simp [F_is_clock, runF, b_is_clock, P.all, asL, bools?, number_int, h0, h1, h2, h3]
theorem not_len (ds : List D) (h : ds.length ≠ 4) : F_is_clock [.tuple ds] = .ok (.bool false) := by
  have h' : ¬ ((ds.length : Int) = 4) := by omega
  simp [F_is_clock, runF, b_is_clock, h']
theorem clock_none : F_is_clock [.none] = .ok (.bool false) := by simp [F_is_clock, runF, b_is_clock]
theorem clock_int (i : Int) : F_is_clock [.int i] = .ok (.bool false) := by simp [F_is_clock, runF, b_is_clock]
theorem clock_bool (i : Bool) : F_is_clock [.bool i] = .ok (.bool false) := by simp [F_is_clock, runF, b_is_clock]
theorem clock_str (i : Str) : F_is_clock [.str i] = .ok (.bool false) := by simp [F_is_clock, runF, b_is_clock]
theorem clock_lst (i : List D) : F_is_clock [.list i] = .ok (.bool false) := by simp [F_is_clock, runF, b_is_clock]
/-- four things, whether each is a number -/
theorem clock_four (x y z w : D) (p q r s : Bool) (h1 : F_is_number [x, .int 0] = .ok (.bool p)) (h2 : F_is_number [y, .int 0] = .ok (.bool q)) (h3 : F_is_number [z, .int 0] = .ok (.bool r)) (h4 : F_is_number [w, .int 0] = .ok (.bool s)) :
    F_is_clock [.tuple [x, y, z, w]] = .ok (.bool (p && (q && (r && s)))) := by
  simp [F_is_clock, runF, b_is_clock, P.all, asL, bools?, h1, h2, h3, h4]
theorem clock_bad (x y z w : D) (p q r s : Bool) (h1 : F_is_number [x, .int 0] = .ok (.bool p)) (h2 : F_is_number [y, .int 0] = .ok (.bool q)) (h3 : F_is_number [z, .int 0] = .ok (.bool r)) (h4 : F_is_number [w, .int 0] = .ok (.bool s))
    (h : (p && (q && (r && s))) = false) : F_is_clock [.tuple [x, y, z, w]] = .ok (.bool false) := by
  rw [clock_four x y z w p q r s h1 h2 h3 h4, h]
theorem bad_at (a b c d k : Int) (X : D) (hX : F_is_number [X, .int 0] = .ok (.bool false)) (hk : k = 0 ∨ k = 1 ∨ k = 2 ∨ k = 3) :
    F_is_clock [.tuple (Dn.cutD [PyData.int a, .int b, .int c, .int d] none (some k) ++ [X] ++ Dn.cutD [PyData.int a, .int b, .int c, .int d] (some (k + 1)) none)] = .ok (.bool false) := by
  rcases hk with rfl | rfl | rfl | rfl
  · exact clock_bad X (.int b) (.int c) (.int d) _ _ _ _ hX (number_int _ _) (number_int _ _) (number_int _ _) (by simp)
  · exact clock_bad (.int a) X (.int c) (.int d) _ _ _ _ (number_int _ _) hX (number_int _ _) (number_int _ _) (by simp)
  · exact clock_bad (.int a) (.int b) X (.int d) _ _ _ _ (number_int _ _) (number_int _ _) hX (number_int _ _) (by simp)
  · exact clock_bad (.int a) (.int b) (.int c) X _ _ _ _ (number_int _ _) (number_int _ _) (number_int _ _) hX (by simp)
theorem less_at (a b c d k : Int) (hk : k = 0 ∨ k = 1 ∨ k = 2 ∨ k = 3) :
    F_is_clock [.tuple (Dn.cutD [PyData.int a, .int b, .int c, .int d] none (some k) ++ Dn.cutD [PyData.int a, .int b, .int c, .int d] (some (k + 1)) none)] = .ok (.bool false) := by
  refine not_len _ ?_
  rcases hk with rfl | rfl | rfl | rfl <;> exact (show (3 : Nat) ≠ 4 by decide)
theorem cut3 (a b c d : Int) : F_is_clock [.tuple (Dn.cutD [PyData.int a, .int b, .int c, .int d] none (some 3))] = .ok (.bool false) := not_len _ (show (3 : Nat) ≠ 4 by decide)
theorem nearly_at (a b c d u k : Int) (h0 : 0 ≤ u) (hk : k = 0 ∨ k = 1 ∨ k = 2 ∨ k = 3) : ∀ x, x ∈ ([PyData.list [PyData.int a, PyData.int b, PyData.int c, PyData.int d],
            PyData.tuple (Dn.cutD [PyData.int a, PyData.int b, PyData.int c, PyData.int d] none (some 3)),
            PyData.tuple ([PyData.int a, PyData.int b, PyData.int c, PyData.int d] ++ [PyData.int 0]), PyData.tuple [],
            PyData.none, PyData.int u, PyData.str (Str.ofString "0.0.0.0"), PyData.tuple [clk a b c d],
            PyData.list [clk a b c d],
            PyData.tuple
              (Dn.cutD [PyData.int a, PyData.int b, PyData.int c, PyData.int d] none (some k) ++
                  [PyData.int (0 - 1 - u)] ++
                Dn.cutD [PyData.int a, PyData.int b, PyData.int c, PyData.int d] (some (k + 1)) none),
            PyData.tuple
              (Dn.cutD [PyData.int a, PyData.int b, PyData.int c, PyData.int d] none (some k) ++ [PyData.bool true] ++
                Dn.cutD [PyData.int a, PyData.int b, PyData.int c, PyData.int d] (some (k + 1)) none)] ++
          [PyData.tuple
              (Dn.cutD [PyData.int a, PyData.int b, PyData.int c, PyData.int d] none (some k) ++ [PyData.none] ++
                Dn.cutD [PyData.int a, PyData.int b, PyData.int c, PyData.int d] (some (k + 1)) none),
            PyData.tuple
              (Dn.cutD [PyData.int a, PyData.int b, PyData.int c, PyData.int d] none (some k) ++
                  [PyData.str (Str.ofString "1")] ++
                Dn.cutD [PyData.int a, PyData.int b, PyData.int c, PyData.int d] (some (k + 1)) none)] ++
        [PyData.tuple
            (Dn.cutD [PyData.int a, PyData.int b, PyData.int c, PyData.int d] none (some k) ++
                [PyData.tuple
                    (Dn.cutD [PyData.int a, PyData.int b, PyData.int c, PyData.int d] (some k) (some (k + 1)))] ++
              Dn.cutD [PyData.int a, PyData.int b, PyData.int c, PyData.int d] (some (k + 1)) none),
          PyData.tuple
            (Dn.cutD [PyData.int a, PyData.int b, PyData.int c, PyData.int d] none (some k) ++
              Dn.cutD [PyData.int a, PyData.int b, PyData.int c, PyData.int d] (some (k + 1)) none),
          PyData.tuple
            (Dn.cutD [PyData.int a, PyData.int b, PyData.int c, PyData.int d] none (some k) ++ [PyData.bool false] ++
              Dn.cutD [PyData.int a, PyData.int b, PyData.int c, PyData.int d] (some (k + 1)) none),
          PyData.bool true]) → F_is_clock [x] = .ok (.bool false) := by
  have neg : F_is_number [.int (0 - 1 - u), .int 0] = .ok (.bool false) := by
    rw [number_int]
    rw [decide_eq_false (by omega)]
  intro x hx
  rcases List.mem_append.mp hx with hx | hx
  · rcases List.mem_append.mp hx with hx | hx
    · exact (List.forall_mem_cons.mpr ⟨clock_lst _, List.forall_mem_cons.mpr ⟨cut3 .., List.forall_mem_cons.mpr ⟨not_len _ (by simp), List.forall_mem_cons.mpr ⟨not_len _ (by simp), List.forall_mem_cons.mpr ⟨clock_none, List.forall_mem_cons.mpr ⟨clock_int _,
          List.forall_mem_cons.mpr ⟨clock_str _, List.forall_mem_cons.mpr ⟨not_len _ (by simp), List.forall_mem_cons.mpr ⟨clock_lst _, List.forall_mem_cons.mpr ⟨bad_at _ _ _ _ _ _ neg hk, List.forall_mem_cons.mpr ⟨bad_at _ _ _ _ _ _ (number_bool _ _) hk, List.forall_mem_nil _⟩⟩⟩⟩⟩⟩⟩⟩⟩⟩⟩ : ∀ y, y ∈ _ → F_is_clock [y] = .ok (.bool false)) x hx
    · exact (List.forall_mem_cons.mpr ⟨bad_at _ _ _ _ _ _ (number_none _) hk, List.forall_mem_cons.mpr ⟨bad_at _ _ _ _ _ _ (number_str _ _) hk, List.forall_mem_nil _⟩⟩ : ∀ y, y ∈ _ → F_is_clock [y] = .ok (.bool false)) x hx
  · exact (List.forall_mem_cons.mpr ⟨bad_at _ _ _ _ _ _ (number_tup _ _) hk, List.forall_mem_cons.mpr ⟨less_at _ _ _ _ _ hk, List.forall_mem_cons.mpr ⟨bad_at _ _ _ _ _ _ (number_bool _ _) hk, List.forall_mem_cons.mpr ⟨clock_bool _, List.forall_mem_nil _⟩⟩⟩⟩ : ∀ y, y ∈ _ → F_is_clock [y] = .ok (.bool false)) x hx
theorem nearly_ok (a b c d u k : Int) (h0 : 0 ≤ u) (k0 : 0 ≤ k) (k4 : k < 4) : ∃ L : List D, F_law_nearly [clk a b c d, .int k, .int u] = .ok (.list L) ∧ ∀ x, x ∈ L → F_is_clock [x] = .ok (.bool false) := by
  have hk : k = 0 ∨ k = 1 ∨ k = 2 ∨ k = 3 := by omega
  have q := nearly_at a b c d u k h0 hk
  rcases hk with rfl | rfl | rfl | rfl
  · exact ⟨_, rfl, q⟩
  · exact ⟨_, rfl, q⟩
  · exact ⟨_, rfl, q⟩
  · exact ⟨_, rfl, q⟩
end K02

namespace K02
open PySem PySem.Spec PyProof.Rows L2 Dn
def tBad : DSt → R Out := dIf (dNot (dTru (dCallN 2 F_law_so (dCons (dCallN 1 F_is_clock (dCons (dVar 8) dNil)) (dCons (dC (.bool false)) dNil))))) (dRet (dC (.bool false))) dNext
def tGood : DSt → R Out := dIf (dNot (dTru (dCallN 2 F_law_so (dCons (dCallN 1 F_is_clock (dCons (dVar 7) dNil)) (dCons (dC (.bool true)) dNil))))) (dRet (dC (.bool false))) dNext
def tBody : DSt → R Out := dSeq (dSet 3 (dMul (dC (.int 50)) (dVar 2))) (dSeq (dSet 4 (dCallN 3 F_law_drawn (dCons (dVar 1) (dCons (dVar 3) (dCons (dTup (dCons (dC (.int 0)) (dCons (dC (.int 1)) (dCons (dC (.int 2)) (dCons (dC (.int 0)) dNil))))) dNil))))) (dSeq (dSet 5 (dCallN 3 F_law_drawn (dCons (dVar 1) (dCons (dAdd (dOp (dVar 3)) (dOp (dC (.int 16)))) (dCons (dVar 4) dNil))))) (dSeq (dSet 6 (dCallN 3 F_law_drawn (dCons (dVar 1) (dCons (dAdd (dOp (dVar 3)) (dOp (dC (.int 32)))) (dCons (dVar 5) dNil))))) (dSeq (dIf (dOr (dNot (dTru (dCallN 2 F_law_pair (dCons (dVar 4) (dCons (dVar 5) dNil))))) (dOr (dNot (dTru (dCallN 2 F_law_pair (dCons (dVar 5) (dCons (dVar 6) dNil))))) (dOr (dNot (dTru (dCallN 2 F_law_pair (dCons (dVar 4) (dCons (dVar 6) dNil))))) (dNot (dTru (dCallN 2 F_law_pair (dCons (dVar 4) (dCons (dC K_NOUGHT) dNil)))))))) (dRet (dC (.bool false))) dNext) (dSeq (dIf (dOr (dNot (dTru (dCallN 2 F_law_so (dCons (dCallN 2 F_joined (dCons (dCallN 2 F_joined (dCons (dVar 4) (dCons (dVar 5) dNil))) (dCons (dVar 6) dNil))) (dCons (dCallN 2 F_joined (dCons (dVar 4) (dCons (dCallN 2 F_joined (dCons (dVar 5) (dCons (dVar 6) dNil))) dNil))) dNil))))) (dNot (dTru (dCallN 2 F_law_so (dCons (dCallN 2 F_met (dCons (dCallN 2 F_met (dCons (dVar 4) (dCons (dVar 5) dNil))) (dCons (dVar 6) dNil))) (dCons (dCallN 2 F_met (dCons (dVar 4) (dCons (dCallN 2 F_met (dCons (dVar 5) (dCons (dVar 6) dNil))) dNil))) dNil)))))) (dRet (dC (.bool false))) dNext) (dSeq (dIf (dOr (dNot (dTru (dCallN 2 F_law_so (dCons (dCallN 2 F_met (dCons (dVar 4) (dCons (dCallN 2 F_joined (dCons (dVar 5) (dCons (dVar 6) dNil))) dNil))) (dCons (dCallN 2 F_joined (dCons (dCallN 2 F_met (dCons (dVar 4) (dCons (dVar 5) dNil))) (dCons (dCallN 2 F_met (dCons (dVar 4) (dCons (dVar 6) dNil))) dNil))) dNil))))) (dNot (dTru (dCallN 2 F_law_so (dCons (dCallN 2 F_is_within (dCons (dC K_NOUGHT) (dCons (dVar 4) dNil))) (dCons (dC (.bool true)) dNil)))))) (dRet (dC (.bool false))) dNext) (dSeq (dFor (dItems (dLst (dCons (dVar 4) (dCons (dVar 5) (dCons (dCallN 2 F_joined (dCons (dVar 4) (dCons (dVar 6) dNil))) (dCons (dC K_NOUGHT) dNil)))))) (gN 7) tGood [7]) (dFor (dItems (dCallN 3 F_law_nearly (dCons (dVar 5) (dCons (dCallN 3 F_law_draw (dCons (dVar 1) (dCons (dAdd (dOp (dVar 3)) (dOp (dC (.int 48)))) (dCons (dC (.int 4)) dNil)))) (dCons (dCallN 3 F_law_draw (dCons (dVar 1) (dCons (dAdd (dOp (dVar 3)) (dOp (dC (.int 49)))) (dCons (dC (.int 99)) dNil)))) dNil))))) (gN 8) tBad [8]))))))))
theorem bad_loop (S : SV) (row A B C : D) (t a : D) : ∀ (L : List D) (g h : SV), (∀ x, x ∈ L → F_is_clock [x] = .ok (.bool false)) → forGo (gN 8) tBad [8] L [S, .dat row, .dat t, .dat a, .dat A, .dat B, .dat C, g, h] = .ok (.nx [S, .dat row, .dat t, .dat a, .dat A, .dat B, .dat C, g, .no])
  | [], g, h, _ => rfl
  | x :: xs, g, h, hx => by
    have q := bad_loop S row A B C t a xs g (.dat x) fun y hy => hx y (by simp [hy])
    rw [forGo_cons]
    have e : tBad [S, .dat row, .dat t, .dat a, .dat A, .dat B, .dat C, g, .dat x] = .ok (.nx [S, .dat row, .dat t, .dat a, .dat A, .dat B, .dat C, g, .dat x]) := by
      simp [tBad, hx x (by simp), so_bool]
    simp only [fgt_cons, fgt_nil, gN_ap, List.set_cons_succ, List.set_cons_zero, e, R.bind_ok]
    exact q
theorem good1 (S : SV) (row A B C : D) (t a x : D) (h : SV) (hx : F_is_clock [x] = .ok (.bool true)) : tGood [S, .dat row, .dat t, .dat a, .dat A, .dat B, .dat C, .dat x, h] = .ok (.nx [S, .dat row, .dat t, .dat a, .dat A, .dat B, .dat C, .dat x, h]) := by
  simp [tGood, hx, so_bool]
theorem turn_abs (S : SV) (row A B C AB BC AC ABC M1 M2 M3 J1 : D) (t k u : Int) (L : List D)
    (d1 : F_law_drawn [row, .int (50 * t), clk 0 1 2 0] = .ok A) (d2 : F_law_drawn [row, .int (50 * t + 16), A] = .ok B) (d3 : F_law_drawn [row, .int (50 * t + 32), B] = .ok C)
    (p1 : F_law_pair [A, B] = .ok (.bool true)) (p2 : F_law_pair [B, C] = .ok (.bool true)) (p3 : F_law_pair [A, C] = .ok (.bool true)) (p4 : F_law_pair [A, K_NOUGHT] = .ok (.bool true))
    (j1 : F_joined [A, B] = .ok AB) (j2 : F_joined [B, C] = .ok BC) (j3 : F_joined [AB, C] = .ok ABC) (j4 : F_joined [A, BC] = .ok ABC) (j5 : F_joined [A, C] = .ok AC) (s1 : F_law_so [ABC, ABC] = .ok (.bool true))
    (m1 : F_met [A, B] = .ok M1) (m2 : F_met [B, C] = .ok M2) (m3 : F_met [M1, C] = .ok M3) (m4 : F_met [A, M2] = .ok M3) (s2 : F_law_so [M3, M3] = .ok (.bool true))
    (n1 : F_met [A, C] = .ok J1) (n2 : ∃ J2, F_met [A, BC] = .ok J2 ∧ F_joined [M1, J1] = .ok J2 ∧ F_law_so [J2, J2] = .ok (.bool true)) (w : F_is_within [K_NOUGHT, A] = .ok (.bool true))
    (c1 : F_is_clock [A] = .ok (.bool true)) (c2 : F_is_clock [B] = .ok (.bool true)) (c3 : F_is_clock [AC] = .ok (.bool true)) (c4 : F_is_clock [K_NOUGHT] = .ok (.bool true))
    (r1 : F_law_draw [row, .int (50 * t + 48), .int 4] = .ok (.int k)) (r2 : F_law_draw [row, .int (50 * t + 49), .int 99] = .ok (.int u)) (nl : F_law_nearly [B, .int k, .int u] = .ok (.list L)) (hL : ∀ x, x ∈ L → F_is_clock [x] = .ok (.bool false)) :
    tBody [S, .dat row, .dat (.int t), .no, .no, .no, .no, .no, .no] = .ok (.nx [S, .dat row, .dat (.int t), .dat (.int (50 * t)), .dat A, .dat B, .dat C, .no, .no]) := by
  obtain ⟨J2, n2, n3, n4⟩ := n2
  have mm : cMul 50 t = true := mul_l (by decide) (by decide)
  have g1 := fun x h hx => good1 S row A B C (.int t) (.int (50 * t)) x h hx
  have b1 := bad_loop S row A B C (.int t) (.int (50 * t)) L .no .no hL
  unfold tBody
  simp [mm, d1, d2, d3, p1, p2, p3, p4, j1, j2, j3, j4, j5, s1, m1, m2, m3, m4, s2, n1, n2, n3, n4, w, so_bool, forGo_cons, g1 _ _ c1, g1 _ _ c2, g1 _ _ c3, g1 _ _ c4, r1, r2, nl, b1]
end K02

namespace K02
open PySem PySem.Spec PyProof.Rows L2 Dn
theorem mxa (a b c : Int) : max a (max b c) = max (max a b) c := by omega
theorem mna (a b c : Int) : min a (min b c) = min (min a b) c := by omega
theorem mdi (a b c : Int) : max (min a b) (min a c) = min a (max b c) := by omega
theorem turn_ok (S : SV) (row : List Int) (t : Int) (hr : row ≠ []) (hl : row.length ≤ 3900) (t0 : 0 ≤ t) : ∃ δ', tBody [S, .dat (.list (row.map PyData.int)), .dat (.int t), .no, .no, .no, .no, .no, .no] = .ok (.nx δ') ∧ fgt δ' [2, 3, 4, 5, 6, 7, 8] = [S, .dat (.list (row.map PyData.int)), .no, .no, .no, .no, .no, .no, .no] := by
  have hl' : row.length ≤ 100000 := by omega
  obtain ⟨a0, a1, a2, a3, d1, ha0, ha1, ha2, ha3⟩ := drawn_ok row (50 * t) 0 1 2 0 hr hl' (by omega) (by decide) (by decide) (by decide) (by decide)
  obtain ⟨b0, b1, b2, b3, d2, hb0, hb1, hb2, hb3⟩ := drawn_ok row (50 * t + 16) a0 a1 a2 a3 hr hl' (by omega) ha0 ha1 ha2 ha3
  obtain ⟨c0, c1, c2, c3, d3, hc0, hc1, hc2, hc3⟩ := drawn_ok row (50 * t + 32) b0 b1 b2 b3 hr hl' (by omega) hb0 hb1 hb2 hb3
  obtain ⟨k, r1, k0, k4⟩ := DnL.draw_ok row (50 * t + 48) 4 hr hl' (by omega) (by decide)
  obtain ⟨u, r2, u0, u1⟩ := DnL.draw_ok row (50 * t + 49) 99 hr hl' (by omega) (by decide)
  obtain ⟨L, nl, hL⟩ := nearly_ok b0 b1 b2 b3 u k u0 k0 k4
  refine ⟨_, turn_abs S (.list (row.map PyData.int)) (clk a0 a1 a2 a3) (clk b0 b1 b2 b3) (clk c0 c1 c2 c3) _ _ _ _ _ _ _ _ t k u L d1 d2 d3 (pair_true ..) (pair_true ..) (pair_true ..) (pair_true ..)
    (joined_clk ..) (joined_clk ..) (joined_clk ..) (by rw [joined_clk]; simp only [mxa]) (joined_clk ..) (so_clk ..) (met_clk ..) (met_clk ..) (met_clk ..) (by rw [met_clk]; simp only [mna]) (so_clk ..) (met_clk ..)
    ⟨_, met_clk .., by rw [joined_clk]; simp only [mdi], so_clk ..⟩ (by rw [within_clk]; simp only [R.ok.injEq, PyData.bool.injEq, Bool.and_eq_true, decide_eq_true_eq]; omega)
    (clock_clk _ _ _ _ ha0 ha1 ha2 ha3) (clock_clk _ _ _ _ hb0 hb1 hb2 hb3) (clock_clk _ _ _ _ (by omega) (by omega) (by omega) (by omega)) (clock_clk 0 0 0 0 (by decide) (by decide) (by decide) (by decide)) r1 r2 nl hL, rfl⟩
theorem law_true (ns : List Int) (hl : ns.length ≤ 63) : F_law [scr (ns.map PyData.int)] = .ok (.bool true) := by
  obtain ⟨row, h1, hr, hrl⟩ := numbers_ok ns hl
  have hlen : (List.map PyData.int row).length = row.length := by simp
  have hd : (row.length : Int) / 8 ≤ 500 := by omega
  have hd0 : 0 ≤ (row.length : Int) / 8 := by omega
  have L : ∀ m : Int, ∃ δ', forGo (gN 2) tBody [2, 3, 4, 5, 6, 7, 8] (rngD 0 m.toNat) [.dat (scr (ns.map PyData.int)), .dat (.list (row.map PyData.int)), .no, .no, .no, .no, .no, .no, .no] = .ok (.nx δ') ∧ δ' = [.dat (scr (ns.map PyData.int)), .dat (.list (row.map PyData.int)), .no, .no, .no, .no, .no, .no, .no] := fun m =>
    forGo_inv (fun _ δ => δ = [.dat (scr (ns.map PyData.int)), .dat (.list (row.map PyData.int)), .no, .no, .no, .no, .no, .no, .no]) rfl fun i d δ hd hδ => by
      subst hδ
      obtain ⟨hi, rfl⟩ := rngD_mem hd
      obtain ⟨δ', q1, q2⟩ := turn_ok (.dat (scr (ns.map PyData.int))) row (0 + (i : Nat)) hr hrl (by omega)
      exact ⟨_, δ', rfl, .inl q1, q2⟩
  have s := so_clk 0 0 0 0
  obtain ⟨δ', q1, rfl⟩ := L (1 + if 6 < (row.length : Int) / 8 then 6 else (row.length : Int) / 8)
  have split : b_law = dSeq (dSet 1 (dCallN 1 F_law_numbers (dCons (dVar 0) dNil))) (dSeq (dFor (dRng P.range1 (dCons (dAdd (dOp (dC (.int 1))) (dOp (dCall1 P.min2 (dCons (dDiv (dLen (dOp (dVar 1))) (dC (.int 8))) (dCons (dC (.int 6)) dNil))))) dNil)) (gN 2) tBody [2, 3, 4, 5, 6, 7, 8])
    (dRet (dCallN 2 F_law_so (dCons (dC K_NOUGHT) (dCons (dTup (dCons (dC (.int 0)) (dCons (dC (.int 0)) (dCons (dC (.int 0)) (dCons (dC (.int 0)) dNil))))) dNil))))) := rfl
  have hb : (1 + if 6 < (row.length : Int) / 8 then 6 else (row.length : Int) / 8).natAbs ≤ LIM := by rw [LIM_eq]; omega
  have e1 : dSet 1 (dCallN 1 F_law_numbers (dCons (dVar 0) dNil)) [.dat (scr (ns.map PyData.int)), .no, .no, .no, .no, .no, .no, .no, .no] = .ok (.nx [.dat (scr (ns.map PyData.int)), .dat (.list (row.map PyData.int)), .no, .no, .no, .no, .no, .no, .no]) := by
    simp [h1]
  have e2 : dRng P.range1 (dCons (dAdd (dOp (dC (.int 1))) (dOp (dCall1 P.min2 (dCons (dDiv (dLen (dOp (dVar 1))) (dC (.int 8))) (dCons (dC (.int 6)) dNil))))) dNil) [.dat (scr (ns.map PyData.int)), .dat (.list (row.map PyData.int)), .no, .no, .no, .no, .no, .no, .no] = .ok (rngD 0 (1 + if 6 < (row.length : Int) / 8 then 6 else (row.length : Int) / 8).toNat) := by
    rw [LIM_eq] at hb
    simp [hb]
  have e3 : dRet (dCallN 2 F_law_so (dCons (dC K_NOUGHT) (dCons (dTup (dCons (dC (.int 0)) (dCons (dC (.int 0)) (dCons (dC (.int 0)) (dCons (dC (.int 0)) dNil))))) dNil))) [.dat (scr (ns.map PyData.int)), .dat (.list (row.map PyData.int)), .no, .no, .no, .no, .no, .no, .no] = .ok (.rt (.bool true)) := by
    simp [s]
  unfold F_law
  have s0 : List.map SV.dat [scr (ns.map PyData.int)] ++ List.replicate (9 - [scr (ns.map PyData.int)].length) SV.no = [.dat (scr (ns.map PyData.int)), .no, .no, .no, .no, .no, .no, .no, .no] := rfl
  rw [split]
  unfold runF
  rw [s0, dSeq_ap, e1]
  simp only [R.bind_ok, dSeq_ap, dFor_ap, e2, q1, e3, R.noer_ok]
end K02

namespace K02
open PySem PySem.Spec PyProof.Rows L2 Dn
theorem all_mk {P : Program} {w : World} {K : PySem.W.Frag} {h : Heap} {mg : Str → Option Value} {fa : Addr} (X : K.In h) (G : h.Ns mainGlobals mg) (hfa : mg (Str.ofString "law") = some (.ref fa))
    {f0 : Addr} {od0 an0 : Option Addr} {sl0 : Array (Option Value)} {oc0 kV0 dc0 pm0 cd0 ct0 : Value}
    {f1 : Addr} {od1 an1 : Option Addr} {sl1 : Array (Option Value)} {oc1 kV1 dc1 pm1 cd1 ct1 : Value}
    {f2 : Addr} {od2 an2 : Option Addr} {sl2 : Array (Option Value)} {oc2 kV2 dc2 pm2 cd2 ct2 : Value}
    {f3 : Addr} {od3 an3 : Option Addr} {sl3 : Array (Option Value)} {oc3 kV3 dc3 pm3 cd3 ct3 : Value}
    {f4 : Addr} {od4 an4 : Option Addr} {sl4 : Array (Option Value)} {oc4 kV4 dc4 pm4 cd4 ct4 : Value}
    {f5 : Addr} {od5 an5 : Option Addr} {sl5 : Array (Option Value)} {oc5 kV5 dc5 pm5 cd5 ct5 : Value}
    {f6 : Addr} {od6 an6 : Option Addr} {sl6 : Array (Option Value)} {oc6 kV6 dc6 pm6 cd6 ct6 : Value}
    {f7 : Addr} {od7 an7 : Option Addr} {sl7 : Array (Option Value)} {oc7 kV7 dc7 pm7 cd7 ct7 : Value}
    {f8 : Addr} {od8 an8 : Option Addr} {sl8 : Array (Option Value)} {oc8 kV8 dc8 pm8 cd8 ct8 : Value}
    {f9 : Addr} {od9 an9 : Option Addr} {sl9 : Array (Option Value)} {oc9 kV9 dc9 pm9 cd9 ct9 : Value}
    {f10 : Addr} {od10 an10 : Option Addr} {sl10 : Array (Option Value)} {oc10 kV10 dc10 pm10 cd10 ct10 : Value}
    {f11 : Addr} {od11 an11 : Option Addr} {sl11 : Array (Option Value)} {oc11 kV11 dc11 pm11 cd11 ct11 : Value}
    {f12 : Addr} {od12 an12 : Option Addr} {sl12 : Array (Option Value)} {oc12 kV12 dc12 pm12 cd12 ct12 : Value}
    {f13 : Addr} {od13 an13 : Option Addr} {sl13 : Array (Option Value)} {oc13 kV13 dc13 pm13 cd13 ct13 : Value}
    {f14 : Addr} {od14 an14 : Option Addr} {sl14 : Array (Option Value)} {oc14 kV14 dc14 pm14 cd14 ct14 : Value}
    {f15 : Addr} {od15 an15 : Option Addr} {sl15 : Array (Option Value)} {oc15 kV15 dc15 pm15 cd15 ct15 : Value}
    {g0 : Addr} {gd0 : Option Addr} {gn0 : Nat} {gs0 : Array (Option Value)} {tk0_0 tk0_1 tk0_2 tk0_3 : Tok}
    {g1 : Addr} {gd1 : Option Addr} {gn1 : Nat} {gs1 : Array (Option Value)} {tk1_0 tk1_1 tk1_2 tk1_3 : Tok}
    (a0 : PySem.W.nsIn K mainGlobals (Str.ofString "is_integer") = some (some (.ref f0))) (l0 : K.lookup f0 = some ⟨oc0, od0, .func (PySem.W.fnOf (Str.ofString "is_integer") (Str.ofString "is_integer") (defArgs s_is_integer) (defBody s_is_integer) (defScope s_is_integer) .none kV0 dc0 pm0 an0 cd0 ct0), sl0⟩) (c0 : PySem.W.codeIn K cd0 (Str.ofString "is_integer") = true) (k0 : PySem.W.keepIn K (.ref f0) = true)
    (a1 : PySem.W.nsIn K mainGlobals (Str.ofString "is_number") = some (some (.ref f1))) (l1 : K.lookup f1 = some ⟨oc1, od1, .func (PySem.W.fnOf (Str.ofString "is_number") (Str.ofString "is_number") (defArgs s_is_number) (defBody s_is_number) (defScope s_is_number) .none kV1 dc1 pm1 an1 cd1 ct1), sl1⟩) (c1 : PySem.W.codeIn K cd1 (Str.ofString "is_number") = true) (k1 : PySem.W.keepIn K (.ref f1) = true)
    (a2 : PySem.W.nsIn K mainGlobals (Str.ofString "is_clock") = some (some (.ref f2))) (l2 : K.lookup f2 = some ⟨oc2, od2, .func (PySem.W.fnOf (Str.ofString "is_clock") (Str.ofString "is_clock") (defArgs s_is_clock) (defBody s_is_clock) (defScope s_is_clock) .none kV2 dc2 pm2 an2 cd2 ct2), sl2⟩) (c2 : PySem.W.codeIn K cd2 (Str.ofString "is_clock") = true) (k2 : PySem.W.keepIn K (.ref f2) = true)
    (a3 : PySem.W.nsIn K mainGlobals (Str.ofString "joined") = some (some (.ref f3))) (l3 : K.lookup f3 = some ⟨oc3, od3, .func (PySem.W.fnOf (Str.ofString "joined") (Str.ofString "joined") (defArgs s_joined) (defBody s_joined) (defScope s_joined) .none kV3 dc3 pm3 an3 cd3 ct3), sl3⟩) (c3 : PySem.W.codeIn K cd3 (Str.ofString "joined") = true) (k3 : PySem.W.keepIn K (.ref f3) = true)
    (a4 : PySem.W.nsIn K mainGlobals (Str.ofString "met") = some (some (.ref f4))) (l4 : K.lookup f4 = some ⟨oc4, od4, .func (PySem.W.fnOf (Str.ofString "met") (Str.ofString "met") (defArgs s_met) (defBody s_met) (defScope s_met) .none kV4 dc4 pm4 an4 cd4 ct4), sl4⟩) (c4 : PySem.W.codeIn K cd4 (Str.ofString "met") = true) (k4 : PySem.W.keepIn K (.ref f4) = true)
    (a5 : PySem.W.nsIn K mainGlobals (Str.ofString "is_within") = some (some (.ref f5))) (l5 : K.lookup f5 = some ⟨oc5, od5, .func (PySem.W.fnOf (Str.ofString "is_within") (Str.ofString "is_within") (defArgs s_is_within) (defBody s_is_within) (defScope s_is_within) .none kV5 dc5 pm5 an5 cd5 ct5), sl5⟩) (c5 : PySem.W.codeIn K cd5 (Str.ofString "is_within") = true) (k5 : PySem.W.keepIn K (.ref f5) = true)
    (a6 : PySem.W.nsIn K mainGlobals (Str.ofString "order_of") = some (some (.ref f6))) (l6 : K.lookup f6 = some ⟨oc6, od6, .func (PySem.W.fnOf (Str.ofString "order_of") (Str.ofString "order_of") (defArgs s_order_of) (defBody s_order_of) (defScope s_order_of) .none kV6 dc6 pm6 an6 cd6 ct6), sl6⟩) (c6 : PySem.W.codeIn K cd6 (Str.ofString "order_of") = true) (k6 : PySem.W.keepIn K (.ref f6) = true)
    (a7 : PySem.W.nsIn K mainGlobals (Str.ofString "_law_so") = some (some (.ref f7))) (l7 : K.lookup f7 = some ⟨oc7, od7, .func (PySem.W.fnOf (Str.ofString "_law_so") (Str.ofString "_law_so") (defArgs s_law_so) (defBody s_law_so) (defScope s_law_so) .none kV7 dc7 pm7 an7 cd7 ct7), sl7⟩) (c7 : PySem.W.codeIn K cd7 (Str.ofString "_law_so") = true) (k7 : PySem.W.keepIn K (.ref f7) = true)
    (a8 : PySem.W.nsIn K mainGlobals (Str.ofString "_law_numbers") = some (some (.ref f8))) (l8 : K.lookup f8 = some ⟨oc8, od8, .func (PySem.W.fnOf (Str.ofString "_law_numbers") (Str.ofString "_law_numbers") (defArgs s_law_numbers) (defBody s_law_numbers) (defScope s_law_numbers) .none kV8 dc8 pm8 an8 cd8 ct8), sl8⟩) (c8 : PySem.W.codeIn K cd8 (Str.ofString "_law_numbers") = true) (k8 : PySem.W.keepIn K (.ref f8) = true)
    (a9 : PySem.W.nsIn K mainGlobals (Str.ofString "_law_draw") = some (some (.ref f9))) (l9 : K.lookup f9 = some ⟨oc9, od9, .func (PySem.W.fnOf (Str.ofString "_law_draw") (Str.ofString "_law_draw") (defArgs s_law_draw) (defBody s_law_draw) (defScope s_law_draw) .none kV9 dc9 pm9 an9 cd9 ct9), sl9⟩) (c9 : PySem.W.codeIn K cd9 (Str.ofString "_law_draw") = true) (k9 : PySem.W.keepIn K (.ref f9) = true)
    (a10 : PySem.W.nsIn K mainGlobals (Str.ofString "_law_count") = some (some (.ref f10))) (l10 : K.lookup f10 = some ⟨oc10, od10, .func (PySem.W.fnOf (Str.ofString "_law_count") (Str.ofString "_law_count") (defArgs s_law_count) (defBody s_law_count) (defScope s_law_count) .none kV10 dc10 pm10 an10 cd10 ct10), sl10⟩) (c10 : PySem.W.codeIn K cd10 (Str.ofString "_law_count") = true) (k10 : PySem.W.keepIn K (.ref f10) = true)
    (a11 : PySem.W.nsIn K mainGlobals (Str.ofString "_law_drawn") = some (some (.ref f11))) (l11 : K.lookup f11 = some ⟨oc11, od11, .func (PySem.W.fnOf (Str.ofString "_law_drawn") (Str.ofString "_law_drawn") (defArgs s_law_drawn) (defBody s_law_drawn) (defScope s_law_drawn) .none kV11 dc11 pm11 an11 cd11 ct11), sl11⟩) (c11 : PySem.W.codeIn K cd11 (Str.ofString "_law_drawn") = true) (k11 : PySem.W.keepIn K (.ref f11) = true)
    (a12 : PySem.W.nsIn K mainGlobals (Str.ofString "_law_order") = some (some (.ref f12))) (l12 : K.lookup f12 = some ⟨oc12, od12, .func (PySem.W.fnOf (Str.ofString "_law_order") (Str.ofString "_law_order") (defArgs s_law_order) (defBody s_law_order) (defScope s_law_order) .none kV12 dc12 pm12 an12 cd12 ct12), sl12⟩) (c12 : PySem.W.codeIn K cd12 (Str.ofString "_law_order") = true) (k12 : PySem.W.keepIn K (.ref f12) = true)
    (a13 : PySem.W.nsIn K mainGlobals (Str.ofString "_law_pair") = some (some (.ref f13))) (l13 : K.lookup f13 = some ⟨oc13, od13, .func (PySem.W.fnOf (Str.ofString "_law_pair") (Str.ofString "_law_pair") (defArgs s_law_pair) (defBody s_law_pair) (defScope s_law_pair) .none kV13 dc13 pm13 an13 cd13 ct13), sl13⟩) (c13 : PySem.W.codeIn K cd13 (Str.ofString "_law_pair") = true) (k13 : PySem.W.keepIn K (.ref f13) = true)
    (a14 : PySem.W.nsIn K mainGlobals (Str.ofString "_law_nearly") = some (some (.ref f14))) (l14 : K.lookup f14 = some ⟨oc14, od14, .func (PySem.W.fnOf (Str.ofString "_law_nearly") (Str.ofString "_law_nearly") (defArgs s_law_nearly) (defBody s_law_nearly) (defScope s_law_nearly) .none kV14 dc14 pm14 an14 cd14 ct14), sl14⟩) (c14 : PySem.W.codeIn K cd14 (Str.ofString "_law_nearly") = true) (k14 : PySem.W.keepIn K (.ref f14) = true)
    (a15 : PySem.W.nsIn K mainGlobals (Str.ofString "law") = some (some (.ref f15))) (l15 : K.lookup f15 = some ⟨oc15, od15, .func (PySem.W.fnOf (Str.ofString "law") (Str.ofString "law") (defArgs s_law) (defBody s_law) (defScope s_law) .none kV15 dc15 pm15 an15 cd15 ct15), sl15⟩) (c15 : PySem.W.codeIn K cd15 (Str.ofString "law") = true) (k15 : PySem.W.keepIn K (.ref f15) = true)
    (x0 : PySem.W.nsIn K mainGlobals (Str.ofString "HANDS") = some (some (.ref g0))) (y0 : K.lookup g0 = some ⟨.type "tuple", gd0, .seq #[.int 1 tk0_0, .int 2 tk0_1, .int 3 tk0_2, .int 4 tk0_3] gn0, gs0⟩)
    (x1 : PySem.W.nsIn K mainGlobals (Str.ofString "NOUGHT") = some (some (.ref g1))) (y1 : K.lookup g1 = some ⟨.type "tuple", gd1, .seq #[.int 0 tk1_0, .int 0 tk1_1, .int 0 tk1_2, .int 0 tk1_3] gn1, gs1⟩)
    (z_all : PySem.W.nsIn K mainGlobals (Str.ofString "all") = some none)
    (z_bool : PySem.W.nsIn K mainGlobals (Str.ofString "bool") = some none)
    (z_int : PySem.W.nsIn K mainGlobals (Str.ofString "int") = some none)
    (z_isinstance : PySem.W.nsIn K mainGlobals (Str.ofString "isinstance") = some none)
    (z_len : PySem.W.nsIn K mainGlobals (Str.ofString "len") = some none)
    (z_list : PySem.W.nsIn K mainGlobals (Str.ofString "list") = some none)
    (z_max : PySem.W.nsIn K mainGlobals (Str.ofString "max") = some none)
    (z_min : PySem.W.nsIn K mainGlobals (Str.ofString "min") = some none)
    (z_range : PySem.W.nsIn K mainGlobals (Str.ofString "range") = some none)
    (z_str : PySem.W.nsIn K mainGlobals (Str.ofString "str") = some none)
    (z_tuple : PySem.W.nsIn K mainGlobals (Str.ofString "tuple") = some none)
    (z_zip : PySem.W.nsIn K mainGlobals (Str.ofString "zip") = some none)
    : ∃ fd : FuncData, (∀ (s : Shared) (v : Value), BindsTo s fd ⟨[v], []⟩ [((Str.ofString "_law_script"), v)]) ∧ ∀ base : Heap, K.In base → base.Ns mainGlobals mg → FnOk P w K mg base CX0 5 fa fd [(Str.ofString "_law_script")] (spD K (fun _ => 0) 1 F_law) := by
  have e := hfa.symm.trans (PySem.W.mg_of X G a15)
  cases e
  have U0 := fun_mk (st := s_is_integer) l0 c0 k0
  have B_is_integer : FunE K mg (Str.ofString "is_integer") s_is_integer [(Str.ofString "value")] := ⟨_, _, U0, U0.binds (ps := [(Str.ofString "value")]) fun _ _ _ _ _ _ us hl => match us, hl with | [_], _ => rfl, PySem.W.mg_of X G a0⟩
  have U1 := fun_mk (st := s_is_number) l1 c1 k1
  have B_is_number : FunE K mg (Str.ofString "is_number") s_is_number [(Str.ofString "value"), (Str.ofString "least")] := ⟨_, _, U1, U1.binds (ps := [(Str.ofString "value"), (Str.ofString "least")]) fun _ _ _ _ _ _ us hl => match us, hl with | [_, _], _ => rfl, PySem.W.mg_of X G a1⟩
  have U2 := fun_mk (st := s_is_clock) l2 c2 k2
  have B_is_clock : FunE K mg (Str.ofString "is_clock") s_is_clock [(Str.ofString "value")] := ⟨_, _, U2, U2.binds (ps := [(Str.ofString "value")]) fun _ _ _ _ _ _ us hl => match us, hl with | [_], _ => rfl, PySem.W.mg_of X G a2⟩
  have U3 := fun_mk (st := s_joined) l3 c3 k3
  have B_joined : FunE K mg (Str.ofString "joined") s_joined [(Str.ofString "a"), (Str.ofString "b")] := ⟨_, _, U3, U3.binds (ps := [(Str.ofString "a"), (Str.ofString "b")]) fun _ _ _ _ _ _ us hl => match us, hl with | [_, _], _ => rfl, PySem.W.mg_of X G a3⟩
  have U4 := fun_mk (st := s_met) l4 c4 k4
  have B_met : FunE K mg (Str.ofString "met") s_met [(Str.ofString "a"), (Str.ofString "b")] := ⟨_, _, U4, U4.binds (ps := [(Str.ofString "a"), (Str.ofString "b")]) fun _ _ _ _ _ _ us hl => match us, hl with | [_, _], _ => rfl, PySem.W.mg_of X G a4⟩
  have U5 := fun_mk (st := s_is_within) l5 c5 k5
  have B_is_within : FunE K mg (Str.ofString "is_within") s_is_within [(Str.ofString "a"), (Str.ofString "b")] := ⟨_, _, U5, U5.binds (ps := [(Str.ofString "a"), (Str.ofString "b")]) fun _ _ _ _ _ _ us hl => match us, hl with | [_, _], _ => rfl, PySem.W.mg_of X G a5⟩
  have U6 := fun_mk (st := s_order_of) l6 c6 k6
  have B_order_of : FunE K mg (Str.ofString "order_of") s_order_of [(Str.ofString "a"), (Str.ofString "b")] := ⟨_, _, U6, U6.binds (ps := [(Str.ofString "a"), (Str.ofString "b")]) fun _ _ _ _ _ _ us hl => match us, hl with | [_, _], _ => rfl, PySem.W.mg_of X G a6⟩
  have U7 := fun_mk (st := s_law_so) l7 c7 k7
  have B_law_so : FunE K mg (Str.ofString "_law_so") s_law_so [(Str.ofString "_law_found"), (Str.ofString "_law_meant")] := ⟨_, _, U7, U7.binds (ps := [(Str.ofString "_law_found"), (Str.ofString "_law_meant")]) fun _ _ _ _ _ _ us hl => match us, hl with | [_, _], _ => rfl, PySem.W.mg_of X G a7⟩
  have U8 := fun_mk (st := s_law_numbers) l8 c8 k8
  have B_law_numbers : FunE K mg (Str.ofString "_law_numbers") s_law_numbers [(Str.ofString "_law_script")] := ⟨_, _, U8, U8.binds (ps := [(Str.ofString "_law_script")]) fun _ _ _ _ _ _ us hl => match us, hl with | [_], _ => rfl, PySem.W.mg_of X G a8⟩
  have U9 := fun_mk (st := s_law_draw) l9 c9 k9
  have B_law_draw : FunE K mg (Str.ofString "_law_draw") s_law_draw [(Str.ofString "_law_row"), (Str.ofString "_law_at"), (Str.ofString "_law_limit")] := ⟨_, _, U9, U9.binds (ps := [(Str.ofString "_law_row"), (Str.ofString "_law_at"), (Str.ofString "_law_limit")]) fun _ _ _ _ _ _ us hl => match us, hl with | [_, _, _], _ => rfl, PySem.W.mg_of X G a9⟩
  have U10 := fun_mk (st := s_law_count) l10 c10 k10
  have B_law_count : FunE K mg (Str.ofString "_law_count") s_law_count [(Str.ofString "_law_row"), (Str.ofString "_law_at")] := ⟨_, _, U10, U10.binds (ps := [(Str.ofString "_law_row"), (Str.ofString "_law_at")]) fun _ _ _ _ _ _ us hl => match us, hl with | [_, _], _ => rfl, PySem.W.mg_of X G a10⟩
  have U11 := fun_mk (st := s_law_drawn) l11 c11 k11
  have B_law_drawn : FunE K mg (Str.ofString "_law_drawn") s_law_drawn [(Str.ofString "_law_row"), (Str.ofString "_law_at"), (Str.ofString "_law_other")] := ⟨_, _, U11, U11.binds (ps := [(Str.ofString "_law_row"), (Str.ofString "_law_at"), (Str.ofString "_law_other")]) fun _ _ _ _ _ _ us hl => match us, hl with | [_, _, _], _ => rfl, PySem.W.mg_of X G a11⟩
  have U12 := fun_mk (st := s_law_order) l12 c12 k12
  have B_law_order : FunE K mg (Str.ofString "_law_order") s_law_order [(Str.ofString "_law_a"), (Str.ofString "_law_b")] := ⟨_, _, U12, U12.binds (ps := [(Str.ofString "_law_a"), (Str.ofString "_law_b")]) fun _ _ _ _ _ _ us hl => match us, hl with | [_, _], _ => rfl, PySem.W.mg_of X G a12⟩
  have U13 := fun_mk (st := s_law_pair) l13 c13 k13
  have B_law_pair : FunE K mg (Str.ofString "_law_pair") s_law_pair [(Str.ofString "_law_a"), (Str.ofString "_law_b")] := ⟨_, _, U13, U13.binds (ps := [(Str.ofString "_law_a"), (Str.ofString "_law_b")]) fun _ _ _ _ _ _ us hl => match us, hl with | [_, _], _ => rfl, PySem.W.mg_of X G a13⟩
  have U14 := fun_mk (st := s_law_nearly) l14 c14 k14
  have B_law_nearly : FunE K mg (Str.ofString "_law_nearly") s_law_nearly [(Str.ofString "_law_a"), (Str.ofString "_law_k"), (Str.ofString "_law_worth")] := ⟨_, _, U14, U14.binds (ps := [(Str.ofString "_law_a"), (Str.ofString "_law_k"), (Str.ofString "_law_worth")]) fun _ _ _ _ _ _ us hl => match us, hl with | [_, _, _], _ => rfl, PySem.W.mg_of X G a14⟩
  have UL := fun_mk (st := s_law) l15 c15 k15
  have Z_all := PySem.W.mg_none_of X G z_all
  have Z_bool := PySem.W.mg_none_of X G z_bool
  have Z_int := PySem.W.mg_none_of X G z_int
  have Z_isinstance := PySem.W.mg_none_of X G z_isinstance
  have Z_len := PySem.W.mg_none_of X G z_len
  have Z_list := PySem.W.mg_none_of X G z_list
  have Z_max := PySem.W.mg_none_of X G z_max
  have Z_min := PySem.W.mg_none_of X G z_min
  have Z_range := PySem.W.mg_none_of X G z_range
  have Z_str := PySem.W.mg_none_of X G z_str
  have Z_tuple := PySem.W.mg_none_of X G z_tuple
  have Z_zip := PySem.W.mg_none_of X G z_zip
  have C_HANDS : CstD K mg (Str.ofString "HANDS") K_HANDS := ⟨.ref g0, _, PySem.W.mg_of X G x0, rfl, fun H => .tup (xs := [V.int 1, V.int 2, V.int 3, V.int 4]) (.inr ⟨_, _, _, y0, rfl, rfl, by show 4 ≤ sizeLine; decide, .cons ⟨_, rfl⟩ (.cons ⟨_, rfl⟩ (.cons ⟨_, rfl⟩ (.cons ⟨_, rfl⟩ (.nil))))⟩) (.cons (.int _) (.cons (.int _) (.cons (.int _) (.cons (.int _) (.nil)))))⟩
  have C_NOUGHT : CstD K mg (Str.ofString "NOUGHT") K_NOUGHT := ⟨.ref g1, _, PySem.W.mg_of X G x1, rfl, fun H => .tup (xs := [V.int 0, V.int 0, V.int 0, V.int 0]) (.inr ⟨_, _, _, y1, rfl, rfl, by show 4 ≤ sizeLine; decide, .cons ⟨_, rfl⟩ (.cons ⟨_, rfl⟩ (.cons ⟨_, rfl⟩ (.cons ⟨_, rfl⟩ (.nil))))⟩) (.cons (.int _) (.cons (.int _) (.cons (.int _) (.cons (.int _) (.nil)))))⟩
  refine ⟨PySem.W.fnOf (Str.ofString "law") (Str.ofString "law") (defArgs s_law) (defBody s_law) (defScope s_law) .none kV15 dc15 pm15 an15 cd15 ct15, fun s v => .of_eq rfl, fun base _ _ => ?_⟩
  have E_is_integer := ok_is_integer (P := P) (w := w) (base := base) (G := fun _ => 0) B_is_integer Z_bool Z_int Z_isinstance
  have E_is_number := ok_is_number (P := P) (w := w) (base := base) (G := fun _ => 0) B_is_number E_is_integer
  have E_is_clock := ok_is_clock (P := P) (w := w) (base := base) (G := fun _ => 0) B_is_clock E_is_number C_HANDS Z_all Z_isinstance Z_len Z_tuple
  have E_joined := ok_joined (P := P) (w := w) (base := base) (G := fun _ => 0) B_joined Z_max Z_tuple Z_zip
  have E_met := ok_met (P := P) (w := w) (base := base) (G := fun _ => 0) B_met Z_min Z_tuple Z_zip
  have E_is_within := ok_is_within (P := P) (w := w) (base := base) (G := fun _ => 0) B_is_within Z_all Z_zip
  have E_order_of := ok_order_of (P := P) (w := w) (base := base) (G := fun _ => 0) B_order_of E_is_within
  have E_law_so : EntD P w K mg base (fun _ => 0) (Str.ofString "_law_so") 3 2 F_law_so := ok_law_so B_law_so Z_bool Z_int Z_isinstance Z_len Z_range Z_str Z_tuple 3
  have E_law_numbers := ok_law_numbers (P := P) (w := w) (base := base) (G := fun _ => 0) B_law_numbers Z_int Z_len Z_range
  have E_law_draw := ok_law_draw (P := P) (w := w) (base := base) (G := fun _ => 0) B_law_draw Z_int Z_len
  have E_law_count := ok_law_count (P := P) (w := w) (base := base) (G := fun _ => 0) B_law_count E_law_draw Z_int
  have E_law_drawn := ok_law_drawn (P := P) (w := w) (base := base) (G := fun _ => 0) B_law_drawn E_law_draw E_law_count Z_range Z_tuple
  have E_law_order := ok_law_order (P := P) (w := w) (base := base) (G := fun _ => 0) B_law_order Z_len Z_range
  have E_law_pair := ok_law_pair (P := P) (w := w) (base := base) (G := fun _ => 0) B_law_pair E_joined E_law_so E_met E_law_order E_order_of E_is_within Z_range Z_tuple
  have E_law_nearly := ok_law_nearly (P := P) (w := w) (base := base) (G := fun _ => 0) B_law_nearly Z_list
  exact ok_law UL E_law_numbers E_law_drawn E_law_pair E_joined E_law_so E_met E_is_within E_is_clock E_law_draw E_law_nearly C_NOUGHT Z_len Z_min Z_range
end K02
open PySem PySem.W PyProof.Rows
set_option maxHeartbeats 0 in
theorem PySem.Challenge.cw_quillmoot_k02_clocks_are_a_lattice_holds : PySem.Challenge.rw_quillmoot_k02_clocks_are_a_lattice.Holds := by
  w_on; o_law; k_head; (case hw => w_witness2)
  k_fill
  refine L2.walk_ofK (l := PySem.Challenge.rw_quillmoot_k02_clocks_are_a_lattice) (n := 63) (k := 5) (x := (Str.ofString "_law_script")) (CX := L2.CX0) (sp := fun K => Dn.spD K (fun _ => 0) 1 K02.F_law) rfl (by decide) rfl ⟨rfl, by decide, by decide⟩ (fun w h Y => PySem.W.kIn_of Y) ?F (fun K H a ns hl _ hS => ⟨H, [Dn.scr (ns.map PyData.int)], rfl, .refl _, .cons (.scr hS (Dn.rp_ints K H ns)) .nil, by rw [K02.law_true ns hl]; exact (fun z => nomatch z), fun d hd v H0 H1 _ r => by rw [K02.law_true ns hl] at hd; cases hd; cases r; rfl, fun x hx => by rw [K02.law_true ns hl] at hx; cases hx⟩) (fun _ _ _ _ h => h)
  case F =>
    intro w mg fa h KX G hmg
    refine' K02.all_mk KX G hmg ?a0 ?l0 ?c0 ?k0 ?a1 ?l1 ?c1 ?k1 ?a2 ?l2 ?c2 ?k2 ?a3 ?l3 ?c3 ?k3 ?a4 ?l4 ?c4 ?k4 ?a5 ?l5 ?c5 ?k5 ?a6 ?l6 ?c6 ?k6 ?a7 ?l7 ?c7 ?k7 ?a8 ?l8 ?c8 ?k8 ?a9 ?l9 ?c9 ?k9 ?a10 ?l10 ?c10 ?k10 ?a11 ?l11 ?c11 ?k11 ?a12 ?l12 ?c12 ?k12 ?a13 ?l13 ?c13 ?k13 ?a14 ?l14 ?c14 ?k14 ?a15 ?l15 ?c15 ?k15 ?x0 ?y0 ?x1 ?y1 ?z_all ?z_bool ?z_int ?z_isinstance ?z_len ?z_list ?z_max ?z_min ?z_range ?z_str ?z_tuple ?z_zip
    (case a0 => k_is)
    (case l0 => k_is)
    (case c0 => k_is)
    (case k0 => k_is)
    (case a1 => k_is)
    (case l1 => k_is)
    (case c1 => k_is)
    (case k1 => k_is)
    (case a2 => k_is)
    (case l2 => k_is)
    (case c2 => k_is)
    (case k2 => k_is)
    (case a3 => k_is)
    (case l3 => k_is)
    (case c3 => k_is)
    (case k3 => k_is)
    (case a4 => k_is)
    (case l4 => k_is)
    (case c4 => k_is)
    (case k4 => k_is)
    (case a5 => k_is)
    (case l5 => k_is)
    (case c5 => k_is)
    (case k5 => k_is)
    (case a6 => k_is)
    (case l6 => k_is)
    (case c6 => k_is)
    (case k6 => k_is)
    (case a7 => k_is)
    (case l7 => k_is)
    (case c7 => k_is)
    (case k7 => k_is)
    (case a8 => k_is)
    (case l8 => k_is)
    (case c8 => k_is)
    (case k8 => k_is)
    (case a9 => k_is)
    (case l9 => k_is)
    (case c9 => k_is)
    (case k9 => k_is)
    (case a10 => k_is)
    (case l10 => k_is)
    (case c10 => k_is)
    (case k10 => k_is)
    (case a11 => k_is)
    (case l11 => k_is)
    (case c11 => k_is)
    (case k11 => k_is)
    (case a12 => k_is)
    (case l12 => k_is)
    (case c12 => k_is)
    (case k12 => k_is)
    (case a13 => k_is)
    (case l13 => k_is)
    (case c13 => k_is)
    (case k13 => k_is)
    (case a14 => k_is)
    (case l14 => k_is)
    (case c14 => k_is)
    (case k14 => k_is)
    (case a15 => k_is)
    (case l15 => k_is)
    (case c15 => k_is)
    (case k15 => k_is)
    (case x0 => k_is)
    (case y0 => k_is)
    (case x1 => k_is)
    (case y1 => k_is)
    (case z_all => k_is)
    (case z_bool => k_is)
    (case z_int => k_is)
    (case z_isinstance => k_is)
    (case z_len => k_is)
    (case z_list => k_is)
    (case z_max => k_is)
    (case z_min => k_is)
    (case z_range => k_is)
    (case z_str => k_is)
    (case z_tuple => k_is)
    (case z_zip => k_is)
