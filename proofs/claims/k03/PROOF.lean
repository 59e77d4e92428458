import PyProof.Rows.All
import Wide.All
import OpenK.AllK
import Wide.FinOn
import HandS.ForMost
import HandS.IsInst
import HandS.TupAny
import HandS.Zip
import HandS.Deep
import HandS.Wide
import HandS.TupSets
import KE.GoesMore
import KE.GoesEnum
import PySem.Challenge.RW_quillmoot_k03_whole_what_is_an_act_and_a
set_option Elab.async false
set_option linter.all false
set_option maxRecDepth 100000
set_option maxHeartbeats 8000000
/-! Dn: what a piece of Python computes, as a function on plain data (values without addresses); lists that a def owns are a second kind of slot. -/
namespace Dn
open PySem PySem.Spec PyProof.Rows L2

abbrev D := PyData
/-- a list that is read but never owned (the script) -/
abbrev scr (ds : List D) : D := .dict [(.none, .list ds)]

structure Exn where
  cls : Str
  fs : List (Str × D)

inductive R (α : Type) where
  | bad
  | er (x : Exn)
  | ok (a : α)

def R.bind {α β : Type} (r : R α) (f : α → R β) : R β := match r with
  | .bad => .bad
  | .er x => .er x
  | .ok a => f a
@[simp] theorem R.bind_bad {α β : Type} (f : α → R β) : R.bind .bad f = .bad := rfl
@[simp] theorem R.bind_er {α β : Type} (x : Exn) (f : α → R β) : R.bind (.er x) f = .er x := rfl
@[simp] theorem R.bind_ok {α β : Type} (a : α) (f : α → R β) : R.bind (.ok a) f = f a := rfl

/-! ### how data lie in a heap -/
mutual
inductive Rp (K : PySem.W.Frag) (H : Hp) : V → D → Prop
  | non : Rp K H .non .none
  | bl (b : Bool) : Rp K H (.bl b) (.bool b)
  | int (i : Int) : Rp K H (.int i) (.int i)
  | str (x : Str) : Rp K H (.str x) (.str x)
  | lst {a : Addr} {xs : List V} {ds : List D} : H a = some (.lst xs) → RpAll K H xs ds → Rp K H (.ref a) (.list ds)
  | tup {a : Addr} {xs : List V} {ds : List D} : SqT K H a xs → RpAll K H xs ds → Rp K H (.ref a) (.tuple ds)
  | scr {a : Addr} {xs : List V} {ds : List D} : SqL K H a xs → RpAll K H xs ds → Rp K H (.ref a) (scr ds)
inductive RpAll (K : PySem.W.Frag) (H : Hp) : List V → List D → Prop
  | nil : RpAll K H [] []
  | cons {v : V} {vs : List V} {d : D} {ds : List D} : Rp K H v d → RpAll K H vs ds → RpAll K H (v :: vs) (d :: ds)
end

theorem same_t {K : PySem.W.Frag} {H H' : Hp} {a : Addr} {xs : List V} (e : Same H H') (h : SqT K H a xs) : SqT K H' a xs := by
  rcases h with (h | ⟨o, h⟩) | h
  · exact .inl (.inl (e _ _ h))
  · exact .inl (.inr ⟨o, e _ _ h⟩)
  · exact .inr h

section
variable {K : PySem.W.Frag} {H H' : Hp}
mutual
theorem Rp.mono (e : Same H H') : ∀ {v : V} {d : D}, Rp K H v d → Rp K H' v d
  | _, _, .non => .non
  | _, _, .bl b => .bl b
  | _, _, .int i => .int i
  | _, _, .str x => .str x
  | _, _, .lst h r => .lst (e _ _ h) (RpAll.mono e r)
  | _, _, .tup h r => .tup (same_t e h) (RpAll.mono e r)
  | _, _, .scr h r => .scr (e.seq h) (RpAll.mono e r)
theorem RpAll.mono (e : Same H H') : ∀ {vs : List V} {ds : List D}, RpAll K H vs ds → RpAll K H' vs ds
  | _, _, .nil => .nil
  | _, _, .cons a b => .cons (Rp.mono e a) (RpAll.mono e b)
end
theorem RpAll.length : ∀ {vs : List V} {ds : List D}, RpAll K H vs ds → vs.length = ds.length
  | _, _, .nil => rfl
  | _, _, .cons _ b => congrArg Nat.succ (RpAll.length b)
theorem RpAll.get : ∀ {vs : List V} {ds : List D} {i : Nat} {d : D}, RpAll K H vs ds → ds[i]? = some d → ∃ v, vs[i]? = some v ∧ Rp K H v d
  | _, _, _, _, .nil, e => by simp at e
  | _, _, 0, _, .cons r _, e => by simp at e; subst e; exact ⟨_, rfl, r⟩
  | _, _, i + 1, _, .cons _ t, e => by
    obtain ⟨v, h1, h2⟩ := RpAll.get (i := i) t (by simpa using e)
    exact ⟨v, by simpa using h1, h2⟩
theorem RpAll.get' : ∀ {vs : List V} {ds : List D} {i : Nat} {v : V}, RpAll K H vs ds → vs[i]? = some v → ∃ d, ds[i]? = some d ∧ Rp K H v d
  | _, _, _, _, .nil, e => by simp at e
  | _, _, 0, _, .cons r _, e => by simp at e; subst e; exact ⟨_, rfl, r⟩
  | _, _, i + 1, _, .cons _ t, e => by
    obtain ⟨v, h1, h2⟩ := RpAll.get' (i := i) t (by simpa using e)
    exact ⟨v, by simpa using h1, h2⟩
theorem RpAll.append : ∀ {vs ws : List V} {ds es : List D}, RpAll K H vs ds → RpAll K H ws es → RpAll K H (vs ++ ws) (ds ++ es)
  | _, _, _, _, .nil, b => b
  | _, _, _, _, .cons r t, b => .cons r (RpAll.append t b)
theorem RpAll.take : ∀ {vs : List V} {ds : List D} (n : Nat), RpAll K H vs ds → RpAll K H (vs.take n) (ds.take n)
  | _, _, 0, _ => .nil
  | _, _, _ + 1, .nil => .nil
  | _, _, n + 1, .cons r t => .cons r (RpAll.take n t)
theorem RpAll.drop : ∀ {vs : List V} {ds : List D} (n : Nat), RpAll K H vs ds → RpAll K H (vs.drop n) (ds.drop n)
  | _, _, 0, r => r
  | _, _, _ + 1, .nil => .nil
  | _, _, n + 1, .cons _ t => RpAll.drop n t
theorem RpAll.set : ∀ {vs : List V} {ds : List D} {v : V} {d : D} (n : Nat), RpAll K H vs ds → Rp K H v d → RpAll K H (vs.set n v) (ds.set n d)
  | _, _, _, _, _, .nil, _ => .nil
  | _, _, _, _, 0, .cons _ t, r => .cons r t
  | _, _, _, _, n + 1, .cons q t, r => .cons q (RpAll.set n t r)
theorem RpAll.ints : ∀ {vs : List V} {ns : List Int}, RpAll K H vs (ns.map PyData.int) → vs = ns.map V.int
  | _, [], .nil => rfl
  | _, n :: ns, .cons (.int _) t => by rw [RpAll.ints t]; rfl
theorem RpAll.bools : ∀ {vs : List V} {bs : List Bool}, RpAll K H vs (bs.map PyData.bool) → vs = bs.map V.bl
  | _, [], .nil => rfl
  | _, n :: ns, .cons (.bl _) t => by rw [RpAll.bools t]; rfl
theorem RpAll.strs : ∀ {vs : List V} {bs : List Str}, RpAll K H vs (bs.map PyData.str) → vs = bs.map V.str
  | _, [], .nil => rfl
  | _, n :: ns, .cons (.str _) t => by rw [RpAll.strs t]; rfl

/-! data without dicts: what the library == reads -/
mutual
theorem Rp.dp : ∀ {v : V} {d : D}, Rp K H v d → d.canLay0 = true → Dp K H v d
  | _, _, .non, _ => .non
  | _, _, .bl b, _ => .bl b
  | _, _, .int i, _ => .int i
  | _, _, .str x, _ => .str x
  | _, _, .lst h r, q => .lst (SqL.of h) (RpAll.dp r (by simpa [PyData.canLay0] using q))
  | _, _, .tup h r, q => .tup h (RpAll.dp r (by simpa [PyData.canLay0] using q))
  | _, _, .scr h r, q => by simp [PyData.canLay0] at q
theorem RpAll.dp : ∀ {vs : List V} {ds : List D}, RpAll K H vs ds → PyData.canLayAll0 ds = true → DpAll K H vs ds
  | _, _, .nil, _ => .nil
  | _, _, .cons a b, q => by
    have q' := q
    simp only [PyData.canLayAll0, Bool.and_eq_true] at q'
    exact .cons (Rp.dp a q'.1) (RpAll.dp b q'.2)
end
end

/-! ### heaps: the data part H0 within H -/
/-- an expression was evaluated: nothing that stood changed; what H knew beside H0 stays beside it -/
structure Up (H0 H H0' H' : Hp) : Prop where
  a : Same H0 H0'
  b : Same H0' H'
  c : Same H H'
  d : ∀ p, H p ≠ none → H0 p = none → H0' p = none
theorem Up.refl {H0 H : Hp} (e : Same H0 H) : Up H0 H H0 H := ⟨.refl _, e, .refl _, fun _ _ h => h⟩
theorem Same.ne {H H' : Hp} (e : Same H H') {p : Addr} (h : H p ≠ none) : H' p ≠ none := by
  cases q : H p with
  | none => exact absurd q h
  | some o => rw [e _ _ q]; exact fun z => nomatch z
theorem Up.trans {H0 H H1 H1' H2 H2' : Hp} (x : Up H0 H H1 H1') (y : Up H1 H1' H2 H2') : Up H0 H H2 H2' :=
  ⟨x.a.trans y.a, y.b, x.c.trans y.c, fun p h1 h2 => y.d p (Same.ne x.c h1) (x.d p h1 h2)⟩
theorem Same.upd {H : Hp} {p : Addr} {o : HO} (h : H p = none) : Same H (upd H p o) := fun b x e => by
  rw [upd_ne (ne_of_none e h)]
  exact e
/-- a new object that never changes -/
theorem Up.new {H0 H : Hp} {p : Addr} {o : HO} (e : Same H0 H) (h : H p = none) : Up H0 H (upd H0 p o) (upd H p o) :=
  ⟨Same.upd (e.free h), fun b x q => by
    by_cases hb : b = p
    · subst hb; rw [upd_same] at q ⊢; exact q
    · rw [upd_ne hb] at q ⊢; exact e _ _ q, Same.upd h, fun q h1 h2 => by
    have hq : q ≠ p := fun z => h1 (z ▸ h)
    rw [upd_ne hq]; exact h2⟩
/-- a new object that is owned -/
theorem Up.own {H0 H : Hp} {p : Addr} {o : HO} (e : Same H0 H) (h : H p = none) : Up H0 H H0 (upd H p o) :=
  ⟨.refl _, e.trans (Same.upd h), Same.upd h, fun _ _ h => h⟩

/-! ### slots -/
inductive SV where
  | no
  | dat (d : D)
  | own (ds : List D)
abbrev DSt := List SV

structure Sl (K : PySem.W.Frag) (B H0 H : Hp) (σ : L2.St) (δ : DSt) : Prop where
  base : Same B H
  ex : Same H0 H
  len : σ.length = δ.length
  dat : ∀ (i : Nat) (d : D), δ[i]? = some (SV.dat d) → ∃ v, σ[i]? = some (some v) ∧ Rp K H0 v d
  own : ∀ (i : Nat) (ds : List D), δ[i]? = some (SV.own ds) → ∃ p vs, σ[i]? = some (some (V.ref p)) ∧ H0 p = none ∧ B p = none ∧ H p = some (.lst vs) ∧ RpAll K H0 vs ds
  sep : ∀ (i j : Nat) (ds es : List D) (p : Addr), i ≠ j → δ[i]? = some (SV.own ds) → δ[j]? = some (SV.own es) → σ[i]? = some (some (V.ref p)) → σ[j]? ≠ some (some (V.ref p))
theorem Sl.up {K : PySem.W.Frag} {B H0 H H0' H' : Hp} {σ : L2.St} {δ : DSt} (s : Sl K B H0 H σ δ) (u : Up H0 H H0' H') : Sl K B H0' H' σ δ := by
  refine ⟨s.base.trans u.c, u.b, s.len, fun i d h => ?_, fun i ds h => ?_, s.sep⟩
  · obtain ⟨v, e, r⟩ := s.dat i d h
    exact ⟨v, e, r.mono u.a⟩
  · obtain ⟨p, vs, e, h1, h2, h3, r⟩ := s.own i ds h
    exact ⟨p, vs, e, u.d p (by rw [h3]; exact fun z => nomatch z) h1, h2, u.c _ _ h3, r.mono u.a⟩

/-! ### exceptions -/
def XR (K : PySem.W.Frag) (G : Str → Addr) (H0 H : Hp) (c : Value) (dd : Option Addr) (x : Exn) : Prop :=
  c = .ref (G x.cls) ∧ ∃ (d : Addr) (vs : List V), dd = some d ∧ H d = some (.xd ((x.fs.map (·.1)).zip vs)) ∧ RpAll K H0 vs (x.fs.map (·.2))

/-! ### evaluation -/
/-- what a result is, from the start's heap, in the heaps behind -/
abbrev Rel (β α : Type) := Hp → Hp → Hp → β → α → Prop
def Rel.M {β α : Type} (rel : Rel β α) : Prop := ∀ Hs Hs' H0 H b a, Same Hs Hs' → rel Hs' H0 H b a → rel Hs H0 H b a
def rV (K : PySem.W.Frag) : Rel V D := fun _ H0 _ v d => Rp K H0 v d
def rA (K : PySem.W.Frag) : Rel (List V) (List D) := fun _ H0 _ v d => RpAll K H0 v d
def rB : Rel Bool Bool := fun _ _ _ b a => b = a
def rO : Rel (Option Int) (Option Int) := fun _ _ _ b a => b = a
/-- a new list, owned -/
def rN (K : PySem.W.Frag) : Rel V (List D) := fun Hs H0 H v ds => ∃ p vs, v = .ref p ∧ Hs p = none ∧ H0 p = none ∧ H p = some (.lst vs) ∧ RpAll K H0 vs ds
/-- an operand: data, or a list that the def owns -/
inductive Op where
  | d (x : D)
  | o (ds : List D)
def rP (K : PySem.W.Frag) : Rel V Op := fun _ H0 H v x => match x with
  | .d x => Rp K H0 v x
  | .o ds => ∃ p vs, v = .ref p ∧ H p = some (.lst vs) ∧ RpAll K H0 vs ds
theorem mV {K} : Rel.M (rV K) := fun _ _ _ _ _ _ _ h => h
theorem mA {K} : Rel.M (rA K) := fun _ _ _ _ _ _ _ h => h
theorem mB : Rel.M rB := fun _ _ _ _ _ _ _ h => h
theorem mO : Rel.M rO := fun _ _ _ _ _ _ _ h => h
theorem mP {K} : Rel.M (rP K) := fun _ _ _ _ _ _ _ h => h
theorem mN {K} : Rel.M (rN K) := fun _ _ _ _ _ _ e ⟨p, vs, h1, h2, h3⟩ => ⟨p, vs, h1, e.free h2, h3⟩

section
variable {K : PySem.W.Frag} {G : Str → Addr} {E : XK}
def At (K : PySem.W.Frag) (G : Str → Addr) (E : XK) {β α : Type} (rel : Rel β α) (H0 H : Hp) (t : (β → Hp → Prop) → Prop) (r : R α) : Prop := match r with
  | .bad => True
  | .er x => ∀ Q : β → Hp → Prop, (∀ c dd H0' H', Up H0 H H0' H' → XR K G H0' H' c dd x → E c dd H') → t Q
  | .ok a => ∀ Q : β → Hp → Prop, (∀ b H0' H', Up H0 H H0' H' → rel H H0' H' b a → Q b H') → t Q
theorem at_bind {β α γ ε : Type} {r1 : Rel β α} {r2 : Rel γ ε} {H0 H : Hp} {t : (β → Hp → Prop) → Prop} {k : β → Hp → (γ → Hp → Prop) → Prop} {r : R α} {g : α → R ε} (m2 : Rel.M r2) (h : At K G E r1 H0 H t r)
    (hk : ∀ a b H0' H', Up H0 H H0' H' → r1 H H0' H' b a → At K G E r2 H0' H' (k b H') (g a)) : At K G E r2 H0 H (fun Q => t fun b H1 => k b H1 Q) (r.bind g) := by
  cases r with
  | bad => exact True.intro
  | er x =>
    intro Q hq
    exact h _ hq
  | ok a =>
    show At K G E r2 H0 H _ (g a)
    cases e : g a with
    | bad => exact True.intro
    | er x =>
      intro Q hq
      refine h _ fun b H0' H' u rb => ?_
      have z := hk a b H0' H' u rb
      rw [e] at z
      exact z Q fun c dd H0'' H'' u2 x2 => hq c dd H0'' H'' (u.trans u2) x2
    | ok y =>
      intro Q hq
      refine h _ fun b H0' H' u rb => ?_
      have z := hk a b H0' H' u rb
      rw [e] at z
      exact z Q fun c H0'' H'' u2 rc => hq c H0'' H'' (u.trans u2) (m2 _ _ _ _ _ _ u.c rc)
theorem at_ok {β α : Type} {rel : Rel β α} {H0 H : Hp} {b : β} {a : α} (e : Same H0 H) (h : rel H H0 H b a) : At K G E rel H0 H (fun Q => Q b H) (.ok a) := fun Q q => q b H0 H (.refl e) h
theorem At.imp {β α : Type} {rel : Rel β α} {H0 H : Hp} {t t' : (β → Hp → Prop) → Prop} {r : R α} (h : At K G E rel H0 H t r) (w : ∀ Q, t Q → t' Q) : At K G E rel H0 H t' r := by
  cases r with
  | bad => exact True.intro
  | er x => exact fun Q q => w Q (h Q q)
  | ok a => exact fun Q q => w Q (h Q q)

def Ev (K : PySem.W.Frag) (G : Str → Addr) (E : XK) {β α : Type} (rel : Rel β α) (t : L2.St → Hp → (β → Hp → Prop) → Prop) (f : DSt → R α) : Prop :=
  ∀ B δ σ H0 H, Sl K B H0 H σ δ → At K G E rel H0 H (t σ H) (f δ)
/-- one part, then what follows from its value -/
theorem ev_bind {β α γ ε : Type} {r1 : Rel β α} {r2 : Rel γ ε} {t : L2.St → Hp → (β → Hp → Prop) → Prop} {k : β → L2.St → Hp → (γ → Hp → Prop) → Prop} {f : DSt → R α} {g : α → DSt → R ε} (m2 : Rel.M r2) (h : Ev K G E r1 t f)
    (hk : ∀ a b B δ σ H0 H Hs, Sl K B H0 H σ δ → r1 Hs H0 H b a → At K G E r2 H0 H (k b σ H) (g a δ)) : Ev K G E r2 (fun σ H Q => t σ H fun b H1 => k b σ H1 Q) (fun δ => (f δ).bind fun a => g a δ) :=
  fun B δ σ H0 H s => at_bind m2 (h B δ σ H0 H s) fun a b H0' H' u rb => hk a b B δ σ H0' H' H (s.up u) rb
end

/-! ### the judgements: a piece of syntax and what it computes -/
section
variable (G : Str → Addr) (E : XK) (X : Cx)
def De (e : Expr) (f : DSt → R D) : Prop := ∃ t, PE X e t ∧ Ev X.K G E (rV X.K) t f
def DN (e : Expr) (f : DSt → R (List D)) : Prop := ∃ t, PE X e t ∧ Ev X.K G E (rN X.K) t f
def DO (e : Expr) (f : DSt → R Op) : Prop := ∃ t, PE X e t ∧ Ev X.K G E (rP X.K) t f
def Dt (e : Expr) (f : DSt → R Bool) : Prop := ∃ t, PT X e t ∧ Ev X.K G E rB t f
def Dw (e : Expr) (f : DSt → R Bool) : Prop := ∃ t, PW X e t ∧ Ev X.K G E rB t f
def Da (es : List Expr) (f : DSt → R (List D)) : Prop := ∃ t, PA X es t ∧ Ev X.K G E (rA X.K) t f
def Dp' (e : Option Expr) (f : DSt → R (Option Int)) : Prop := ∃ t, PO X e t ∧ Ev X.K G E rO t f
end
end Dn

namespace Dn
open PySem PySem.Spec PyProof.Rows L2

abbrev LIM : Nat := 100000
theorem lim_le {n : Nat} (h : n ≤ LIM) : n ≤ sizeLine := Nat.le_trans h (by decide)
theorem lim_lt {n : Nat} (h : n < LIM) : n < sizeLine := Nat.lt_of_lt_of_le h (by decide)

/-! ### relations that stay -/
def Rel.S {β α : Type} (rel : Rel β α) : Prop := ∀ Hs H0 H H0' H' b a, Up H0 H H0' H' → rel Hs H0 H b a → rel Hs H0' H' b a
theorem sV {K} : Rel.S (rV K) := fun _ _ _ _ _ _ _ u h => Rp.mono u.a h
theorem sA {K} : Rel.S (rA K) := fun _ _ _ _ _ _ _ u h => RpAll.mono u.a h
theorem sB : Rel.S rB := fun _ _ _ _ _ _ _ _ h => h
theorem sO : Rel.S rO := fun _ _ _ _ _ _ _ _ h => h
theorem sP {K} : Rel.S (rP K) := fun _ _ _ _ _ b a u h => match a, h with
  | .d _, h => Rp.mono u.a h
  | .o _, ⟨p, vs, h1, h2, h3⟩ => ⟨p, vs, h1, u.c _ _ h2, RpAll.mono u.a h3⟩

section
variable {K : PySem.W.Frag} {G : Str → Addr} {E : XK}
/-- two parts -/
theorem ev_op {α β' γ : Type} {ra : Rel V α} {rb : Rel V β'} {rc : Rel V γ} {r : R2} {ta tb : TE} {fa : DSt → R α} {fb : DSt → R β'} {g : α → β' → R γ} (sa : Rel.S ra) (mc : Rel.M rc) (ha : Ev K G E ra ta fa) (hb : Ev K G E rb tb fb)
    (hk : ∀ x y v w Hs Hs' H0 H, Same H0 H → ra Hs H0 H v x → rb Hs' H0 H w y → At K G E rc H0 H (r v w H) (g x y)) : Ev K G E rc (tOp r ta tb) (fun δ => (fa δ).bind fun x => (fb δ).bind fun y => g x y) :=
  fun B δ σ H0 H s => at_bind (t := ta σ H) (k := fun v H1 Q => tb σ H1 fun w H2 => r v w H2 Q) mc (ha B δ σ H0 H s) fun x v H1 H1' u rx => at_bind (t := tb σ H1') (k := fun w H2 Q => r v w H2 Q) mc (hb B δ σ H1 H1' (s.up u)) fun y w H2 H2' u2 ry => hk x y v w H H1' H2 H2' u2.b (sa _ _ _ _ _ _ _ u2 rx) ry
theorem ev_un {α γ : Type} {ra : Rel V α} {rc : Rel V γ} {r : V → Hp → VK → Prop} {ta : TE} {fa : DSt → R α} {g : α → R γ} (mc : Rel.M rc) (ha : Ev K G E ra ta fa)
    (hk : ∀ x v Hs H0 H, Same H0 H → ra Hs H0 H v x → At K G E rc H0 H (r v H) (g x)) : Ev K G E rc (tUn r ta) (fun δ => (fa δ).bind g) :=
  fun B δ σ H0 H s => at_bind (t := ta σ H) (k := fun v H1 Q => r v H1 Q) mc (ha B δ σ H0 H s) fun x v H1 H1' u rx => hk x v H H1 H1' u.b rx
theorem ev_cb {γ : Type} {rc : Rel V γ} {r : List V → Hp → VK → Prop} {ta : TA} {fa : DSt → R (List D)} {g : List D → R γ} (mc : Rel.M rc) (ha : Ev K G E (rA K) ta fa)
    (hk : ∀ ds vs H0 H, Same H0 H → RpAll K H0 vs ds → At K G E rc H0 H (r vs H) (g ds)) : Ev K G E rc (tCB r ta) (fun δ => (fa δ).bind g) :=
  fun B δ σ H0 H s => at_bind (t := ta σ H) (k := fun v H1 Q => r v H1 Q) mc (ha B δ σ H0 H s) fun x v H1 H1' u rx => hk x v H1 H1' u.b rx
end

/-! ### names, constants -/
def dVar (i : Nat) : DSt → R D := fun δ => match δ[i]? with
  | some (SV.dat d) => .ok d
  | _ => .bad
def dVarO (i : Nat) : DSt → R Op := fun δ => match δ[i]? with
  | some (SV.dat d) => .ok (.d d)
  | some (SV.own ds) => .ok (.o ds)
  | _ => .bad
def dC (d : D) : DSt → R D := fun _ => .ok d
def dOp (f : DSt → R D) : DSt → R Op := fun δ => (f δ).bind fun d => .ok (.d d)

section
variable {G : Str → Addr} {E : XK} {X : Cx} {pos p p2 : Pos} {a b e : Expr} {es : List Expr}
theorem de_var (i : Nat) {x : Str} (hN : X.N[i]? = some x := by rfl) (hv : Vis X.env.scope x := by first | exact Or.inl rfl | exact Or.inr (Or.inl rfl) | exact Or.inr (Or.inr rfl)) (hd : (x == ("__debug__" : Str)) = false := by decide)
    (hcd : (x == ("__classdict__" : Str)) = false := by decide) : De G E X (.Name x pos) (dVar i) := by
  refine ⟨_, pe_var hN hv hd hcd, fun B δ σ H0 H s => ?_⟩
  unfold dVar
  cases q : δ[i]? with
  | none => exact True.intro
  | some w =>
    cases w with
    | no => exact True.intro
    | own _ => exact True.intro
    | dat d =>
      obtain ⟨v, e, r⟩ := s.dat i d q
      exact fun Q k => ⟨v, e, k v H0 H (.refl s.ex) r⟩
theorem do_var (i : Nat) {x : Str} (hN : X.N[i]? = some x := by rfl) (hv : Vis X.env.scope x := by first | exact Or.inl rfl | exact Or.inr (Or.inl rfl) | exact Or.inr (Or.inr rfl)) (hd : (x == ("__debug__" : Str)) = false := by decide)
    (hcd : (x == ("__classdict__" : Str)) = false := by decide) : DO G E X (.Name x pos) (dVarO i) := by
  refine ⟨_, pe_var hN hv hd hcd, fun B δ σ H0 H s => ?_⟩
  unfold dVarO
  cases q : δ[i]? with
  | none => exact True.intro
  | some w =>
    cases w with
    | no => exact True.intro
    | own ds =>
      obtain ⟨p, vs, e, h0, hb, h, r⟩ := s.own i ds q
      exact fun Q k => ⟨_, e, k _ H0 H (.refl s.ex) ⟨p, vs, rfl, h, r⟩⟩
    | dat d =>
      obtain ⟨v, e, r⟩ := s.dat i d q
      exact fun Q k => ⟨v, e, k v H0 H (.refl s.ex) r⟩
theorem ev_c {K : PySem.W.Frag} {v : V} {d : D} (h : ∀ H, Rp K H v d) : Ev K G E (rV K) (tC v) (dC d) := fun B δ σ H0 H s Q q => q v H0 H (.refl s.ex) (h _)
theorem de_int {i : Int} {j} : De G E X (.Constant (.int i) j pos) (dC (.int i)) := ⟨_, pe_int, ev_c fun _ => .int i⟩
theorem de_bl {i : Bool} {j} : De G E X (.Constant (.bool i) j pos) (dC (.bool i)) := ⟨_, pe_bl, ev_c fun _ => .bl i⟩
theorem de_non {j} : De G E X (.Constant .none j pos) (dC .none) := ⟨_, pe_non, ev_c fun _ => .non⟩
theorem de_str {i : Str} {j} : De G E X (.Constant (.str i) j pos) (dC (.str i)) := ⟨_, pe_str, ev_c fun _ => .str i⟩
/-- a constant of the module -/
theorem de_glob {x : Str} {v : V} {u : Value} {d : D} (hg : Gl X x) (hm : X.mg x = some u) (r : RelV v u) (h : ∀ H, Rp X.K H v d) (hd : (x == ("__debug__" : Str)) = false := by decide) : De G E X (.Name x pos) (dC d) := ⟨_, pe_glob hg hm r hd, ev_c h⟩
/-- data as an operand -/
theorem do_of {f : DSt → R D} (h : De G E X e f) : DO G E X e (dOp f) := by
  obtain ⟨t, h1, h2⟩ := h
  refine ⟨t, h1, fun B δ σ H0 H s => ?_⟩
  have z := h2 B δ σ H0 H s
  unfold dOp
  cases q : f δ with
  | bad => exact True.intro
  | er x => rw [q] at z; exact z
  | ok d => rw [q] at z; exact z

/-! ### operators -/
theorem op_or {f : Value → Value → Sem Value} {r r' : R2} (h : OpR X f r) (h' : OpR X f r') : OpR X f (fun x y H Q => r x y H Q ∨ r' x y H Q) := by
  intro pins s σ H x y v u Q I rx ry q
  rcases q with q | q
  · exact h pins s σ H x y v u Q I rx ry q
  · exact h' pins s σ H x y v u Q I rx ry q
theorem call_or {f : Value} {r r' : List V → Hp → VK → Prop} (h : CallR X f r) (h' : CallR X f r') : CallR X f (fun x H Q => r x H Q ∨ r' x H Q) := by
  intro pins s σ H xs us Q I rx q
  rcases q with q | q
  · exact h pins s σ H xs us Q I rx q
  · exact h' pins s σ H xs us Q I rx q

def asSq : Op → Option (List D)
  | .o ds => some ds
  | .d (.list ds) => some ds
  | .d (.tuple ds) => some ds
  | .d (.dict [(.none, .list ds)]) => some ds
  | _ => none
theorem as_sq {K : PySem.W.Frag} {Hs H0 H : Hp} {v : V} {x : Op} {ds : List D} (e : Same H0 H) (h : rP K Hs H0 H v x) (q : asSq x = some ds) : ∃ a vs, v = .ref a ∧ (SqL K H a vs ∨ SqT K H a vs) ∧ RpAll K H0 vs ds := by
  cases x with
  | o es =>
    cases q
    obtain ⟨p, vs, rfl, h1, h2⟩ := h
    exact ⟨p, vs, rfl, .inl (SqL.of h1), h2⟩
  | d d =>
    have h : Rp K H0 v d := h
    cases h with
    | non => cases q
    | bl _ => cases q
    | int _ => cases q
    | str _ => cases q
    | lst h1 h2 => cases q; exact ⟨_, _, rfl, .inl (SqL.of (e _ _ h1)), h2⟩
    | tup h1 h2 => cases q; exact ⟨_, _, rfl, .inr (same_t e h1), h2⟩
    | scr h1 h2 => cases q; exact ⟨_, _, rfl, .inl (e.seq h1), h2⟩
/-- a list: tracked, or to be read -/
def asL : Op → Option (List D)
  | .o ds => some ds
  | .d (.list ds) => some ds
  | .d (.dict [(.none, .list ds)]) => some ds
  | _ => none
theorem as_l {K : PySem.W.Frag} {Hs H0 H : Hp} {v : V} {x : Op} {ds : List D} (e : Same H0 H) (h : rP K Hs H0 H v x) (q : asL x = some ds) : ∃ a vs, v = .ref a ∧ SqL K H a vs ∧ RpAll K H0 vs ds := by
  cases x with
  | o es =>
    cases q
    obtain ⟨p, vs, rfl, h1, h2⟩ := h
    exact ⟨p, vs, rfl, SqL.of h1, h2⟩
  | d d =>
    have h : Rp K H0 v d := h
    cases h with
    | non => cases q
    | bl _ => cases q
    | int _ => cases q
    | str _ => cases q
    | lst h1 h2 => cases q; exact ⟨_, _, rfl, (SqL.of (e _ _ h1)), h2⟩
    | tup h1 h2 => cases q
    | scr h1 h2 => cases q; exact ⟨_, _, rfl, (e.seq h1), h2⟩
/-- a list that is tracked -/
def asLt : Op → Option (List D)
  | .o ds => some ds
  | .d (.list ds) => some ds
  | _ => none
theorem as_lt {K : PySem.W.Frag} {Hs H0 H : Hp} {v : V} {x : Op} {ds : List D} (e : Same H0 H) (h : rP K Hs H0 H v x) (q : asLt x = some ds) : ∃ a vs, v = .ref a ∧ H a = some (.lst vs) ∧ RpAll K H0 vs ds := by
  cases x with
  | o es =>
    cases q
    obtain ⟨p, vs, rfl, h1, h2⟩ := h
    exact ⟨p, vs, rfl, h1, h2⟩
  | d d =>
    have h : Rp K H0 v d := h
    cases h with
    | non => cases q
    | bl _ => cases q
    | int _ => cases q
    | str _ => cases q
    | lst h1 h2 => cases q; exact ⟨_, _, rfl, (e _ _ h1), h2⟩
    | tup h1 h2 => cases q
    | scr h1 h2 => cases q

theorem at_new {K : PySem.W.Frag} {H0 H : Hp} {o : HO} {d : D} (e : Same H0 H) (h : ∀ p, Rp K (upd H0 p o) (.ref p) d ∨ H p ≠ none) : At K G E (rV K) H0 H (fun Q => ∀ p, H p = none → Q (.ref p) (upd H p o)) (.ok d) := fun Q q p hp =>
  q _ _ _ (Up.new e hp) ((h p).elim id fun z => absurd hp z)
theorem at_newT {K : PySem.W.Frag} {H0 H : Hp} {vs : List V} {ds : List D} (e : Same H0 H) (h : RpAll K H0 vs ds) : At K G E (rV K) H0 H (fun Q => ∀ p, H p = none → Q (.ref p) (upd H p (.tup vs))) (.ok (.tuple ds)) := fun Q q p hp =>
  q _ _ _ (Up.new e hp) (.tup (SqT.of upd_same) (h.mono (Same.upd (e.free hp))))
theorem at_newL {K : PySem.W.Frag} {H0 H : Hp} {vs : List V} {ds : List D} (e : Same H0 H) (h : RpAll K H0 vs ds) : At K G E (rV K) H0 H (fun Q => ∀ p, H p = none → Q (.ref p) (upd H p (.lst vs))) (.ok (.list ds)) := fun Q q p hp =>
  q _ _ _ (Up.new e hp) (.lst upd_same (h.mono (Same.upd (e.free hp))))
theorem at_newN {K : PySem.W.Frag} {H0 H : Hp} {vs : List V} {ds : List D} (e : Same H0 H) (h : RpAll K H0 vs ds) : At K G E (rN K) H0 H (fun Q => ∀ p, H p = none → Q (.ref p) (upd H p (.lst vs))) (.ok ds) := fun Q q p hp =>
  q _ _ _ (Up.own e hp) ⟨p, vs, rfl, hp, e.free hp, upd_same, h⟩

/-- + of ints, texts, tuples, lists -/
def P.add : Op → Op → R D
  | .d (.int i), .d (.int j) => .ok (.int (i + j))
  | .d (.str a), .d (.str b) => if a.length + b.length ≤ LIM then .ok (.str (a ++ b)) else .bad
  | .d (.tuple a), .d (.tuple b) => if a.length + b.length ≤ LIM then .ok (.tuple (a ++ b)) else .bad
  | x, y => match asLt x, asLt y with
    | some a, some b => if a.length + b.length ≤ LIM then .ok (.list (a ++ b)) else .bad
    | _, _ => .bad
def rAddD (K : PySem.W.Frag) : R2 := fun x y H Q => rI0 (fun i j => .int (i + j)) x y H Q ∨ (∃ i j, x = .str i ∧ y = .str j ∧ i.length + j.length ≤ sizeLine ∧ Q (.str (i ++ j)) H) ∨ rCatA K x y H Q ∨ rCat x y H Q
theorem op_addD : OpR X (binaryOp .Add) (rAddD X.K) := op_or op_add (op_or op_add_str (op_or op_catA op_cat))
theorem at_add {K : PySem.W.Frag} {Hs Hs' H0 H : Hp} {v w : V} {x y : Op} (e : Same H0 H) (hx : rP K Hs H0 H v x) (hy : rP K Hs' H0 H w y) : At K G E (rV K) H0 H (rAddD K v w H) (P.add x y) := by
  unfold P.add
  split
  · cases (show Rp K H0 v _ from hx); cases (show Rp K H0 w _ from hy)
    exact fun Q q => .inl ⟨_, _, rfl, rfl, q _ H0 H (.refl e) (.int _)⟩
  · rename_i a b
    cases (show Rp K H0 v _ from hx); cases (show Rp K H0 w _ from hy)
    split
    · rename_i hl
      exact fun Q q => .inr (.inl ⟨_, _, rfl, rfl, lim_le hl, q _ H0 H (.refl e) (.str _)⟩)
    · exact True.intro
  · rename_i a b
    split
    · rename_i hl
      cases (show Rp K H0 v _ from hx) with
      | tup h1 r1 =>
        cases (show Rp K H0 w _ from hy) with
        | tup h2 r2 =>
          refine fun Q q => .inr (.inr (.inl ⟨_, _, _, _, rfl, rfl, same_t e h1, same_t e h2, by rw [r1.length, r2.length]; exact lim_le hl, fun z => ?_, fun _ z => ?_, fun _ _ => ?_⟩))
          · subst z
            cases r1
            exact q _ H0 H (.refl e) (.tup h2 r2)
          · subst z
            cases r2
            rw [List.append_nil] at q
            exact q _ H0 H (.refl e) (.tup h1 r1)
          · exact at_newT (G := G) (E := E) e (r1.append r2) Q q
    · exact True.intro
  · split
    · rename_i a b ha hb
      split
      · rename_i hl
        obtain ⟨p1, vs1, rfl, h1, r1⟩ := as_lt e hx ha
        obtain ⟨p2, vs2, rfl, h2, r2⟩ := as_lt e hy hb
        refine fun Q q => .inr (.inr (.inr ⟨_, _, _, _, rfl, rfl, h1, h2, by rw [r1.length, r2.length]; exact lim_le hl, ?_⟩))
        exact at_newL (G := G) (E := E) e (r1.append r2) Q q
      · exact True.intro
    · exact True.intro
def dAdd (f g : DSt → R Op) : DSt → R D := fun δ => (f δ).bind fun x => (g δ).bind fun y => P.add x y
theorem de_add {f g} (ha : DO G E X a f) (hb : DO G E X b g) : De G E X (.BinOp a .Add b pos) (dAdd f g) := by
  obtain ⟨t, h1, h2⟩ := ha
  obtain ⟨u, k1, k2⟩ := hb
  exact ⟨_, pe_op op_addD h1 k1, ev_op sP mV h2 k2 fun x y v w Hs Hs' H0 H e rx ry => at_add e rx ry⟩
/-- xs + ys, the new list owned -/
def P.catN (x y : Op) : R (List D) := match asLt x, asLt y with
  | some a, some b => if a.length + b.length ≤ LIM then .ok (a ++ b) else .bad
  | _, _ => .bad
def dCatN (f g : DSt → R Op) : DSt → R (List D) := fun δ => (f δ).bind fun x => (g δ).bind fun y => P.catN x y
theorem dn_cat {f g} (ha : DO G E X a f) (hb : DO G E X b g) : DN G E X (.BinOp a .Add b pos) (dCatN f g) := by
  obtain ⟨t, h1, h2⟩ := ha
  obtain ⟨u, k1, k2⟩ := hb
  refine ⟨_, pe_op op_cat h1 k1, ev_op sP mN h2 k2 fun x y v w Hs Hs' H0 H e rx ry => ?_⟩
  unfold P.catN
  split
  · rename_i a b ha hb
    split
    · rename_i hl
      obtain ⟨p1, vs1, rfl, h1, r1⟩ := as_lt e rx ha
      obtain ⟨p2, vs2, rfl, h2, r2⟩ := as_lt e ry hb
      refine fun Q q => ⟨_, _, _, _, rfl, rfl, h1, h2, by rw [r1.length, r2.length]; exact lim_le hl, ?_⟩
      exact at_newN (G := G) (E := E) e (r1.append r2) Q q
    · exact True.intro
  · exact True.intro

/-- two ints -/
def P.int2 (c : Int → Int → Bool) (g : Int → Int → D) : D → D → R D
  | .int i, .int j => if c i j then .ok (g i j) else .bad
  | _, _ => .bad
def dInt2 (c : Int → Int → Bool) (h : Int → Int → D) (f g : DSt → R D) : DSt → R D := fun δ => (f δ).bind fun x => (g δ).bind fun y => P.int2 c h x y
theorem de_int2 {o : Operator} {C : Int → Int → Prop} {c : Int → Int → Bool} {h : Int → Int → D} {h' : Int → Int → V} {f g} (ho : OpR X (binaryOp o) (rI C h')) (hc : ∀ i j, c i j = true → C i j) (hh : ∀ K H i j, c i j = true → Rp K H (h' i j) (h i j))
    (ha : De G E X a f) (hb : De G E X b g) : De G E X (.BinOp a o b pos) (dInt2 c h f g) := by
  obtain ⟨t, h1, h2⟩ := ha
  obtain ⟨u, k1, k2⟩ := hb
  refine ⟨_, pe_op ho h1 k1, ev_op sV mV h2 k2 fun x y v w Hs Hs' H0 H e rx ry => ?_⟩
  unfold P.int2
  split
  · split
    · rename_i q
      cases (show Rp X.K H0 v _ from rx); cases (show Rp X.K H0 w _ from ry)
      exact fun Q k => ⟨_, _, rfl, rfl, hc _ _ q, k _ H0 H (.refl e) (hh _ _ _ _ q)⟩
    · exact True.intro
  · exact True.intro
def cTrue : Int → Int → Bool := fun _ _ => true
theorem op_subC : OpR X (binaryOp .Sub) (rI (fun _ _ => True) fun i j => .int (i - j)) := by
  intro pins s σ H x y v u Q I rx ry ⟨i, j, h1, h2, _, q⟩
  exact op_sub pins s σ H x y v u Q I rx ry ⟨i, j, h1, h2, q⟩
abbrev dSub := dInt2 cTrue fun i j => .int (i - j)
theorem de_sub {f g} (ha : De G E X a f) (hb : De G E X b g) : De G E X (.BinOp a .Sub b pos) (dSub f g) := de_int2 op_subC (fun _ _ _ => True.intro) (fun _ _ _ _ _ => .int _) ha hb
def cMul : Int → Int → Bool := fun i j => (decide (-(2 ^ 64) < i) && decide (i < 2 ^ 64)) || (decide (-(2 ^ 64) < j) && decide (j < 2 ^ 64))
abbrev dMul := dInt2 cMul fun i j => .int (i * j)
theorem de_mul {f g} (ha : De G E X a f) (hb : De G E X b g) : De G E X (.BinOp a .Mult b pos) (dMul f g) := de_int2 op_mul (fun i j h => by
  unfold cMul at h
  simp only [Bool.or_eq_true, Bool.and_eq_true, decide_eq_true_eq] at h
  exact h) (fun _ _ _ _ _ => .int _) ha hb
def cPos : Int → Int → Bool := fun _ j => decide (0 < j)
abbrev dMod := dInt2 cPos fun i j => .int (i % j)
theorem de_mod {f g} (ha : De G E X a f) (hb : De G E X b g) : De G E X (.BinOp a .Mod b pos) (dMod f g) := de_int2 op_mod (fun i j h => of_decide_eq_true h) (fun _ _ _ _ _ => .int _) ha hb
def cDiv : Int → Int → Bool := fun _ j => decide (0 < j) && decide (j < 1073741824)
abbrev dDiv := dInt2 cDiv fun i j => .int (i / j)
theorem de_div {f g} (ha : De G E X a f) (hb : De G E X b g) : De G E X (.BinOp a .FloorDiv b pos) (dDiv f g) := de_int2 op_fdiv (fun i j h => by
  unfold cDiv at h
  simp only [Bool.and_eq_true, decide_eq_true_eq] at h
  exact ⟨h.1, by omega⟩) (fun _ _ _ _ _ => .int _) ha hb
def cPow : Int → Int → Bool := fun i j => decide (0 ≤ j) && decide (j ≤ 1000) && decide (i.natAbs < 2 ^ 64)
abbrev dPow := dInt2 cPow fun i j => .int (i ^ j.toNat)
theorem de_pow {f g} (ha : De G E X a f) (hb : De G E X b g) : De G E X (.BinOp a .Pow b pos) (dPow f g) := de_int2 op_pow (fun i j h => by
  unfold cPow at h
  simp only [Bool.and_eq_true, decide_eq_true_eq] at h
  exact ⟨h.1.1, by omega, h.2⟩) (fun _ _ _ _ _ => .int _) ha hb
/-- -a -/
def P.neg : D → R D
  | .int i => .ok (.int (-i))
  | _ => .bad
def dNeg (f : DSt → R D) : DSt → R D := fun δ => (f δ).bind P.neg
theorem de_neg {f} (ha : De G E X a f) : De G E X (.UnaryOp .USub a pos) (dNeg f) := by
  obtain ⟨t, h1, h2⟩ := ha
  refine ⟨_, pe_un un_neg h1, ev_un mV h2 fun x v Hs H0 H e rx => ?_⟩
  unfold P.neg
  split
  · cases (show Rp X.K H0 v _ from rx)
    exact fun Q k => ⟨_, rfl, k _ H0 H (.refl e) (.int _)⟩
  · exact True.intro

/-! ### comparisons -/
def DC (G : Str → Addr) (E : XK) (X : Cx) (o : CmpOp) (a b : Expr) (f : DSt → R D) : Prop := ∃ r ta tb, OpR X (compareOp o) r ∧ PE X a ta ∧ PE X b tb ∧ behindInMarks o b = false ∧ Ev X.K G E (rV X.K) (tOp r ta tb) f
theorem de_c {o : CmpOp} {f} (h : DC G E X o a b f) : De G E X (.Compare a [o] [b] pos) f := by
  obtain ⟨r, ta, tb, h1, h2, h3, h4, h5⟩ := h
  exact ⟨_, pe_cmpR h1 h2 h3 h4, h5⟩
def P.tru : D → R Bool
  | .bool b => .ok b
  | _ => .bad
def dTru (f : DSt → R D) : DSt → R Bool := fun δ => (f δ).bind P.tru
theorem dt_c {o : CmpOp} {f} (h : DC G E X o a b f) : Dt G E X (.Compare a [o] [b] pos) (dTru f) := by
  obtain ⟨r, ta, tb, h1, h2, h3, h4, h5⟩ := h
  refine ⟨_, pt_cmpR h1 h2 h3 h4, fun B δ σ H0 H s => at_bind (t := tOp r ta tb σ H) mB (h5 B δ σ H0 H s) fun x v H1 H1' u rx => ?_⟩
  unfold P.tru
  split
  · cases (show Rp X.K H1 v _ from rx)
    exact fun Q q => ⟨_, rfl, q _ H1 H1' (.refl u.b) rfl⟩
  · exact True.intro
def opD : Op → D
  | .d x => x
  | .o ds => .list ds
theorem op_dp {K : PySem.W.Frag} {Hs H0 H : Hp} {v : V} {x : Op} (e : Same H0 H) (h : rP K Hs H0 H v x) (q : SeqAt.shaped (opD x) = true) : Dp K H v (opD x) := by
  cases x with
  | d d => exact (Rp.mono e h).dp (SeqAt.canLay_of_shaped q)
  | o ds =>
    obtain ⟨p, vs, rfl, h1, h2⟩ := h
    have z := SeqAt.canLay_of_shaped q
    exact .lst (SqL.of h1) ((h2.mono e).dp (by simpa [opD, PyData.canLay0] using z))
def P.eq (x y : Op) : R D := if SeqAt.shaped (opD x) && SeqAt.shaped (opD y) then .ok (.bool (PyData.eqv (opD x) (opD y))) else .bad
def P.ne (x y : Op) : R D := if SeqAt.shaped (opD x) && SeqAt.shaped (opD y) then .ok (.bool (!PyData.eqv (opD x) (opD y))) else .bad
def d2 (p : Op → Op → R D) (f g : DSt → R Op) : DSt → R D := fun δ => (f δ).bind fun x => (g δ).bind fun y => p x y
theorem dc_eq {f g} (hu : X.A.units + 64 < cLine) (ha : DO G E X a f) (hb : DO G E X b g) : DC G E X .Eq a b (d2 P.eq f g) := by
  obtain ⟨t, h1, h2⟩ := ha
  obtain ⟨u, k1, k2⟩ := hb
  refine ⟨_, _, _, op_eqD hu, h1, k1, nomark _, ev_op sP mV h2 k2 fun x y v w Hs Hs' H0 H e rx ry => ?_⟩
  unfold P.eq
  split
  · rename_i q
    simp only [Bool.and_eq_true] at q
    exact fun Q k => ⟨_, _, op_dp e rx q.1, op_dp e ry q.2, q.1, q.2, k _ H0 H (.refl e) (.bl _)⟩
  · exact True.intro
theorem dc_ne {f g} (hu : X.A.units + 64 < cLine) (ha : DO G E X a f) (hb : DO G E X b g) : DC G E X .NotEq a b (d2 P.ne f g) := by
  obtain ⟨t, h1, h2⟩ := ha
  obtain ⟨u, k1, k2⟩ := hb
  refine ⟨_, _, _, op_neD hu, h1, k1, nomark _, ev_op sP mV h2 k2 fun x y v w Hs Hs' H0 H e rx ry => ?_⟩
  unfold P.ne
  split
  · rename_i q
    simp only [Bool.and_eq_true] at q
    exact fun Q k => ⟨_, _, op_dp e rx q.1, op_dp e ry q.2, q.1, q.2, k _ H0 H (.refl e) (.bl _)⟩
  · exact True.intro
/-- an order of ints -/
def P.cmp (g : Int → Int → Bool) : D → D → R D
  | .int i, .int j => .ok (.bool (g i j))
  | _, _ => .bad
def dCmp (c : Int → Int → Bool) (f g : DSt → R D) : DSt → R D := fun δ => (f δ).bind fun x => (g δ).bind fun y => P.cmp c x y
theorem dc_cmp {o : CmpOp} {c : Int → Int → Bool} {f g} (ho : OpR X (compareOp o) (rI0 fun i j => .bl (c i j))) (hm : behindInMarks o b = false) (ha : De G E X a f) (hb : De G E X b g) : DC G E X o a b (dCmp c f g) := by
  obtain ⟨t, h1, h2⟩ := ha
  obtain ⟨u, k1, k2⟩ := hb
  refine ⟨_, _, _, ho, h1, k1, hm, ev_op sV mV h2 k2 fun x y v w Hs Hs' H0 H e rx ry => ?_⟩
  unfold P.cmp
  split
  · cases (show Rp X.K H0 v _ from rx); cases (show Rp X.K H0 w _ from ry)
    exact fun Q k => ⟨_, _, rfl, rfl, k _ H0 H (.refl e) (.bl _)⟩
  · exact True.intro
abbrev dLt := dCmp fun i j => decide (i < j)
abbrev dLe := dCmp fun i j => decide (i ≤ j)
abbrev dGt := dCmp fun i j => decide (j < i)
abbrev dGe := dCmp fun i j => decide (j ≤ i)
theorem dc_lt {f g} (ha : De G E X a f) (hb : De G E X b g) : DC G E X .Lt a b (dLt f g) := dc_cmp op_lt (nomark _) ha hb
theorem dc_le {f g} (ha : De G E X a f) (hb : De G E X b g) : DC G E X .LtE a b (dLe f g) := dc_cmp op_le (nomark _) ha hb
theorem dc_gt {f g} (ha : De G E X a f) (hb : De G E X b g) : DC G E X .Gt a b (dGt f g) := dc_cmp op_gt (nomark _) ha hb
theorem dc_ge {f g} (ha : De G E X a f) (hb : De G E X b g) : DC G E X .GtE a b (dGe f g) := dc_cmp op_ge (nomark _) ha hb
/-- is None -/
def P.isN : Op → D
  | .d .none => .bool true
  | _ => .bool false
def P.notN : Op → D
  | .d .none => .bool false
  | _ => .bool true
theorem isN_eq {K : PySem.W.Frag} {Hs H0 H : Hp} {v : V} {x : Op} (h : rP K Hs H0 H v x) : P.isN x = .bool (decide (v = .non)) ∧ P.notN x = .bool (!decide (v = .non)) := by
  cases x with
  | o ds => obtain ⟨p, vs, rfl, _⟩ := h; exact ⟨rfl, rfl⟩
  | d d =>
    have h : Rp K H0 v d := h
    cases h <;> exact ⟨rfl, rfl⟩
def dIsN (f : DSt → R Op) : DSt → R D := fun δ => (f δ).bind fun x => .ok (P.isN x)
def dNotN (f : DSt → R Op) : DSt → R D := fun δ => (f δ).bind fun x => .ok (P.notN x)
theorem dc_isN {f j} (ha : DO G E X a f) : DC G E X .Is a (.Constant .none j p) (dIsN f) := by
  obtain ⟨t, h1, h2⟩ := ha
  refine ⟨_, _, _, op_isN, h1, pe_non, nomark _, fun B δ σ H0 H s => at_bind (t := t σ H) (k := fun x H1 Q => V.non = .non ∧ Q (.bl (decide (x = .non))) H1) mV (h2 B δ σ H0 H s) fun x v H1 H1' u rx => ?_⟩
  rw [(isN_eq rx).1]
  exact fun Q q => ⟨rfl, q _ H1 H1' (.refl u.b) (.bl _)⟩
theorem dc_notN {f j} (ha : DO G E X a f) : DC G E X .IsNot a (.Constant .none j p) (dNotN f) := by
  obtain ⟨t, h1, h2⟩ := ha
  refine ⟨_, _, _, op_notN, h1, pe_non, nomark _, fun B δ σ H0 H s => at_bind (t := t σ H) (k := fun x H1 Q => V.non = .non ∧ Q (.bl (!decide (x = .non))) H1) mV (h2 B δ σ H0 H s) fun x v H1 H1' u rx => ?_⟩
  rw [(isN_eq rx).2]
  exact fun Q q => ⟨rfl, q _ H1 H1' (.refl u.b) (.bl _)⟩

/-! ### tests -/
theorem dt_val {f} (h : De G E X e f) (he : ∀ whole, isTrue e X.env whole = (do let v ← whole; standAt e.pos; holding [v] (truthy v)) := by intro _; rfl) : Dt G E X e (dTru f) := by
  obtain ⟨t, h1, h2⟩ := h
  refine ⟨_, pt_val h1 he, fun B δ σ H0 H s => at_bind (t := t σ H) mB (h2 B δ σ H0 H s) fun x v H1 H1' u rx => ?_⟩
  unfold P.tru
  split
  · cases (show Rp X.K H1 v _ from rx)
    exact fun Q q => ⟨_, rfl, q _ H1 H1' (.refl u.b) rfl⟩
  · exact True.intro
def dNot (f : DSt → R Bool) : DSt → R Bool := fun δ => (f δ).bind fun b => .ok (!b)
theorem dt_not {f} (h : Dt G E X a f) : Dt G E X (.UnaryOp .Not a pos) (dNot f) := by
  obtain ⟨t, h1, h2⟩ := h
  refine ⟨_, pt_not h1, fun B δ σ H0 H s => at_bind (t := t σ H) mB (h2 B δ σ H0 H s) fun x v H1 H1' u rx => ?_⟩
  cases (show v = x from rx)
  exact fun Q q => q _ H1 H1' (.refl u.b) rfl
def dAnd (f g : DSt → R Bool) : DSt → R Bool := fun δ => (f δ).bind fun b => if b then g δ else .ok false
def dOr (f g : DSt → R Bool) : DSt → R Bool := fun δ => (f δ).bind fun b => if b then .ok true else g δ
theorem dw_and1 {f} (h : Dt G E X a f) : Dw G E X (.BoolOp .And [a] pos) f := by
  obtain ⟨t, h1, h2⟩ := h
  exact ⟨_, pw_and1 h1, h2⟩
theorem dw_or1 {f} (h : Dt G E X a f) : Dw G E X (.BoolOp .Or [a] pos) f := by
  obtain ⟨t, h1, h2⟩ := h
  exact ⟨_, pw_or1 h1, h2⟩
theorem dw_and {f g} (h : Dt G E X a f) (k : Dw G E X (.BoolOp .And (b :: es) pos) g) : Dw G E X (.BoolOp .And (a :: b :: es) pos) (dAnd f g) := by
  obtain ⟨t, h1, h2⟩ := h
  obtain ⟨u, k1, k2⟩ := k
  refine ⟨_, pw_and h1 k1, fun B δ σ H0 H s => at_bind (t := t σ H) mB (h2 B δ σ H0 H s) fun x v H1 H1' w rx => ?_⟩
  cases (show v = x from rx)
  cases x with
  | true => exact k2 B δ σ H1 H1' (s.up w)
  | false => exact fun Q q => q _ H1 H1' (.refl w.b) rfl
theorem dw_or {f g} (h : Dt G E X a f) (k : Dw G E X (.BoolOp .Or (b :: es) pos) g) : Dw G E X (.BoolOp .Or (a :: b :: es) pos) (dOr f g) := by
  obtain ⟨t, h1, h2⟩ := h
  obtain ⟨u, k1, k2⟩ := k
  refine ⟨_, pw_or h1 k1, fun B δ σ H0 H s => at_bind (t := t σ H) mB (h2 B δ σ H0 H s) fun x v H1 H1' w rx => ?_⟩
  cases (show v = x from rx)
  cases x with
  | false => exact k2 B δ σ H1 H1' (s.up w)
  | true => exact fun Q q => q _ H1 H1' (.refl w.b) rfl
theorem dt_w {f} (h : Dw G E X e f) : Dt G E X e f := by
  obtain ⟨t, h1, h2⟩ := h
  exact ⟨_, PW.pt h1, h2⟩
/-- and, or, not as values (all but the last True or False) -/
def dAndV (f g : DSt → R D) : DSt → R D := fun δ => (f δ).bind fun x => (P.tru x).bind fun b => if b then g δ else .ok (.bool false)
def dOrV (f g : DSt → R D) : DSt → R D := fun δ => (f δ).bind fun x => (P.tru x).bind fun b => if b then .ok (.bool true) else g δ
def dNotV (f : DSt → R D) : DSt → R D := fun δ => (f δ).bind fun x => (P.tru x).bind fun b => .ok (.bool (!b))
theorem de_one {f o} (h : De G E X a f) : De G E X (.BoolOp o [a] pos) f := by
  obtain ⟨t, h1, h2⟩ := h
  exact ⟨_, pe_one h1, h2⟩
theorem de_and {f g} (h : De G E X a f) (k : De G E X (.BoolOp .And (b :: es) pos) g) : De G E X (.BoolOp .And (a :: b :: es) pos) (dAndV f g) := by
  obtain ⟨t, h1, h2⟩ := h
  obtain ⟨u, k1, k2⟩ := k
  refine ⟨_, pe_and h1 k1, fun B δ σ H0 H s => at_bind (t := t σ H) mV (h2 B δ σ H0 H s) fun x v H1 H1' w rx => ?_⟩
  cases x with
  | bool c =>
    cases (show Rp X.K H1 v _ from rx)
    cases c with
    | true =>
      exact At.imp (k2 B δ σ H1 H1' (s.up w)) fun Q q => ⟨true, rfl, q⟩
    | false => exact fun Q q => ⟨false, rfl, q _ H1 H1' (.refl w.b) (.bl _)⟩
  | _ => exact True.intro
theorem de_or {f g} (h : De G E X a f) (k : De G E X (.BoolOp .Or (b :: es) pos) g) : De G E X (.BoolOp .Or (a :: b :: es) pos) (dOrV f g) := by
  obtain ⟨t, h1, h2⟩ := h
  obtain ⟨u, k1, k2⟩ := k
  refine ⟨_, pe_or h1 k1, fun B δ σ H0 H s => at_bind (t := t σ H) mV (h2 B δ σ H0 H s) fun x v H1 H1' w rx => ?_⟩
  cases x with
  | bool c =>
    cases (show Rp X.K H1 v _ from rx)
    cases c with
    | false =>
      exact At.imp (k2 B δ σ H1 H1' (s.up w)) fun Q q => ⟨false, rfl, q⟩
    | true => exact fun Q q => ⟨true, rfl, q _ H1 H1' (.refl w.b) (.bl _)⟩
  | _ => exact True.intro
theorem de_not {f} (h : De G E X a f) : De G E X (.UnaryOp .Not a pos) (dNotV f) := by
  obtain ⟨t, h1, h2⟩ := h
  refine ⟨_, pe_not h1, fun B δ σ H0 H s => at_bind (t := t σ H) mV (h2 B δ σ H0 H s) fun x v H1 H1' w rx => ?_⟩
  cases x with
  | bool c =>
    cases (show Rp X.K H1 v _ from rx)
    exact fun Q q => ⟨c, rfl, q _ H1 H1' (.refl w.b) (.bl _)⟩
  | _ => exact True.intro
/-- a if t else b -/
def dIf {α : Type} (c : DSt → R Bool) (f g : DSt → R α) : DSt → R α := fun δ => (c δ).bind fun b => if b then f δ else g δ
theorem de_if {c : Expr} {h f g} (hc : Dt G E X c h) (ha : De G E X a f) (hb : De G E X b g) : De G E X (.IfExp c a b pos) (dIf h f g) := by
  obtain ⟨t, h1, h2⟩ := hc
  obtain ⟨u, k1, k2⟩ := ha
  obtain ⟨u', l1, l2⟩ := hb
  refine ⟨_, pe_ifExp h1 k1 l1, fun B δ σ H0 H s => at_bind (t := t σ H) mV (h2 B δ σ H0 H s) fun x v H1 H1' w rx => ?_⟩
  cases (show v = x from rx)
  cases x with
  | true => exact k2 B δ σ H1 H1' (s.up w)
  | false => exact l2 B δ σ H1 H1' (s.up w)

/-! ### argument lists, displays -/
def dNil : DSt → R (List D) := fun _ => .ok []
def dCons (f : DSt → R D) (g : DSt → R (List D)) : DSt → R (List D) := fun δ => (f δ).bind fun x => (g δ).bind fun xs => .ok (x :: xs)
theorem da_nil : Da G E X [] dNil := ⟨_, pa_nil, fun B δ σ H0 H s Q q => q [] H0 H (.refl s.ex) .nil⟩
theorem da_cons {f g} (h : De G E X e f) (k : Da G E X es g) (hs : starEach (e :: es) X.env = (false, eval e X.env) :: starEach es X.env := by rfl) : Da G E X (e :: es) (dCons f g) := by
  obtain ⟨t, h1, h2⟩ := h
  obtain ⟨u, k1, k2⟩ := k
  refine ⟨_, pa_cons h1 k1 hs, fun B δ σ H0 H s => at_bind (t := t σ H) mA (h2 B δ σ H0 H s) fun x v H1 H1' w rx => at_bind (t := u σ H1') (k := fun vs H2 Q => Q (v :: vs) H2) mA (k2 B δ σ H1 H1' (s.up w)) fun xs vs H2 H2' w2 rxs => ?_⟩
  exact fun Q q => q _ H2 H2' (.refl w2.b) (.cons (Rp.mono w2.a rx) rxs)
def dTup (f : DSt → R (List D)) : DSt → R D := fun δ => (f δ).bind fun xs => if xs.length ≤ LIM then .ok (.tuple xs) else .bad
theorem de_tup {f x1} (h : Da G E X es f) : De G E X (.Tuple es x1 pos) (dTup f) := by
  obtain ⟨t, h1, h2⟩ := h
  refine ⟨_, pe_tup h1, fun B δ σ H0 H s => at_bind (t := t σ H) mV (h2 B δ σ H0 H s) fun xs vs H1 H1' w rx => ?_⟩
  split
  · rename_i hl
    exact At.imp (at_newT w.b rx) fun Q q => ⟨by rw [RpAll.length rx]; exact lim_le hl, q⟩
  · exact True.intro
def dLst (f : DSt → R (List D)) : DSt → R D := fun δ => (f δ).bind fun xs => if xs.length ≤ LIM then .ok (.list xs) else .bad
theorem de_lst {f} (h : Da G E X es f) : De G E X (.List es pos) (dLst f) := by
  obtain ⟨t, h1, h2⟩ := h
  refine ⟨_, pe_lst h1, fun B δ σ H0 H s => at_bind (t := t σ H) mV (h2 B δ σ H0 H s) fun xs vs H1 H1' w rx => ?_⟩
  split
  · rename_i hl
    exact At.imp (at_newL w.b rx) fun Q q => ⟨by rw [RpAll.length rx]; exact lim_le hl, q⟩
  · exact True.intro
def dLstN (f : DSt → R (List D)) : DSt → R (List D) := fun δ => (f δ).bind fun xs => if xs.length ≤ LIM then .ok xs else .bad
theorem dn_lst {f} (h : Da G E X es f) : DN G E X (.List es pos) (dLstN f) := by
  obtain ⟨t, h1, h2⟩ := h
  refine ⟨_, pe_lst h1, fun B δ σ H0 H s => at_bind (t := t σ H) mN (h2 B δ σ H0 H s) fun xs vs H1 H1' w rx => ?_⟩
  split
  · rename_i hl
    exact At.imp (at_newN w.b rx) fun Q q => ⟨by rw [RpAll.length rx]; exact lim_le hl, q⟩
  · exact True.intro
/-- a new list as data -/
def dFre (f : DSt → R (List D)) : DSt → R D := fun δ => (f δ).bind fun xs => .ok (.list xs)
theorem de_fre {f} (h : DN G E X e f) : De G E X e (dFre f) := by
  obtain ⟨t, h1, h2⟩ := h
  refine ⟨t, h1, fun B δ σ H0 H s => ?_⟩
  have z := h2 B δ σ H0 H s
  unfold dFre
  cases q : f δ with
  | bad => exact True.intro
  | er x => rw [q] at z; exact z
  | ok ds =>
    rw [q] at z
    refine fun Q k => z Q fun b H0' H' u ⟨p, vs, e, hs, h0, hp, r⟩ => ?_
    subst e
    refine k _ (upd H0' p (.lst vs)) H' ⟨u.a.trans (Same.upd h0), fun c o w => ?_, u.c, fun c n1 n2 => ?_⟩ (.lst upd_same (r.mono (Same.upd h0)))
    · by_cases hc : c = p
      · subst hc; rw [upd_same] at w; cases w; exact hp
      · rw [upd_ne hc] at w; exact u.b _ _ w
    · have hc : c ≠ p := fun z => n1 (z ▸ hs)
      rw [upd_ne hc]; exact u.d c n1 n2
end
end Dn

namespace Dn
open PySem PySem.Spec PyProof.Rows L2

/-! ### items, slices, lengths, classes -/
section
variable {K : PySem.W.Frag} {H : Hp}
theorem RpAll.atI {vs : List V} {ds : List D} {i : Int} {d : D} (r : RpAll K H vs ds) (h : L2.atI ds i = some d) : ∃ v, L2.atI vs i = some v ∧ Rp K H v d := by
  unfold L2.atI at h ⊢
  rw [r.length]
  cases q : ixN ds.length i with
  | none => rw [q] at h; cases h
  | some j =>
    rw [q] at h
    exact r.get h
end
def P.idx (x : Op) (y : D) : R D := match y with
  | .int i => match asSq x with
    | some ds => match atI ds i with
      | some d => .ok d
      | none => .bad
    | none => match x with
      | .d (.str z) => if z.length ≤ LIM then (match atI z.cps.toList i with
        | some c => .ok (.str ⟨#[c]⟩)
        | none => .bad) else .bad
      | _ => .bad
  | _ => .bad
def dIdx (f : DSt → R Op) (g : DSt → R D) : DSt → R D := fun δ => (f δ).bind fun x => (g δ).bind fun y => P.idx x y
section
variable {G : Str → Addr} {E : XK} {X : Cx} {pos p p2 p3 : Pos} {a b e : Expr} {es : List Expr}
theorem de_ix {f g} (ha : DO G E X a f) (hb : De G E X b g) (hs : PlainIx b) : De G E X (.Subscript a b pos) (dIdx f g) := by
  obtain ⟨t, h1, h2⟩ := ha
  obtain ⟨u, k1, k2⟩ := hb
  refine ⟨_, pe_ix ix_seq h1 k1 hs, ev_op sP mV h2 k2 fun x y v w Hs Hs' H0 H e rx ry => ?_⟩
  unfold P.idx
  cases y with
  | int i =>
    cases (show Rp X.K H0 w _ from ry)
    show At X.K G E (rV X.K) H0 H _ (match asSq x with | some ds => _ | none => _)
    split
    · rename_i ds hd
      obtain ⟨a, vs, rfl, hq, r⟩ := as_sq e rx hd
      split
      · rename_i d hi
        obtain ⟨v, hv, rv⟩ := r.atI hi
        rcases hq with hq | hq
        · exact fun Q q => .inl ⟨_, _, _, _, rfl, rfl, hq, hv, q _ H0 H (.refl e) rv⟩
        · exact fun Q q => .inr (.inl ⟨_, _, _, _, rfl, rfl, hq, hv, q _ H0 H (.refl e) rv⟩)
      · exact True.intro
    · split
      · cases (show Rp X.K H0 v _ from rx)
        split
        · rename_i hl
          split
          · rename_i c hc
            exact fun Q q => .inr (.inr ⟨_, _, _, rfl, rfl, lim_le hl, hc, q _ H0 H (.refl e) (.str _)⟩)
          · exact True.intro
        · exact True.intro
      · exact True.intro
  | _ => exact True.intro
/-- a slice's parts -/
def dNoPart : DSt → R (Option Int) := fun _ => .ok none
def P.part : D → R (Option Int)
  | .int i => .ok (some i)
  | _ => .bad
def dPart (f : DSt → R D) : DSt → R (Option Int) := fun δ => (f δ).bind P.part
theorem dp_none : Dp' G E X none dNoPart := ⟨_, po_none, fun B δ σ H0 H s Q q => q none H0 H (.refl s.ex) rfl⟩
theorem dp_some {f} (h : De G E X e f) : Dp' G E X (some e) (dPart f) := by
  obtain ⟨t, h1, h2⟩ := h
  refine ⟨_, po_some h1, fun B δ σ H0 H s => at_bind (t := t σ H) mO (h2 B δ σ H0 H s) fun x v H1 H1' w rx => ?_⟩
  cases x with
  | int i =>
    cases (show Rp X.K H1 v _ from rx)
    exact fun Q q => ⟨_, rfl, q _ H1 H1' (.refl w.b) rfl⟩
  | _ => exact True.intro
def cutD (ds : List D) (lo hi : Option Int) : List D := (ds.drop (HT.sIx ds.length 0 lo)).take (HT.sIx ds.length ds.length hi - HT.sIx ds.length 0 lo)
theorem cut_rp {K : PySem.W.Frag} {H : Hp} {vs : List V} {ds : List D} {lo hi : Option Int} (r : RpAll K H vs ds) : RpAll K H (cutV vs lo hi) (cutD ds lo hi) := by
  unfold cutV cutD
  rw [r.length]
  exact (r.drop _).take _
def P.slice (x : Op) (lo hi : Option Int) : R D := match asL x with
  | some ds => .ok (.list (cutD ds lo hi))
  | none => match x with
    | .d (.tuple ds) => .ok (.tuple (cutD ds lo hi))
    | .d (.str z) => if z.length ≤ LIM then .ok (.str (cutS z lo hi)) else .bad
    | _ => .bad
def rSlD (K : PySem.W.Frag) : V → Option Int → Option Int → Hp → VK → Prop := fun x lo hi H Q => rSlL K x lo hi H Q ∨ rSlA K x lo hi H Q ∨ rSlS x lo hi H Q
theorem sl_d : SlR X (rSlD X.K) := by
  intro pins s σ H x v vl vu lo hi sl Q I rx hs pl pu h
  rcases h with h | h | h
  · exact sl_list pins s σ H x v vl vu lo hi sl Q I rx hs pl pu h
  · exact sl_tupA pins s σ H x v vl vu lo hi sl Q I rx hs pl pu h
  · exact sl_str pins s σ H x v vl vu lo hi sl Q I rx hs pl pu h
def dSlice (f : DSt → R Op) (l h : DSt → R (Option Int)) : DSt → R D := fun δ => (f δ).bind fun x => (l δ).bind fun lo => (h δ).bind fun hi => P.slice x lo hi
theorem cutD_all {α : Type} {ds : List α} {lo hi : Option Int} (h : HT.sIx ds.length 0 lo = 0 ∧ HT.sIx ds.length ds.length hi = ds.length) : (ds.drop (HT.sIx ds.length 0 lo)).take (HT.sIx ds.length ds.length hi - HT.sIx ds.length 0 lo) = ds := by
  rw [h.1, h.2, Nat.sub_zero, List.drop_zero, List.take_length]
theorem de_slice {lo hi : Option Expr} {f l h} (ha : DO G E X e f) (hl : Dp' G E X lo l) (hh : Dp' G E X hi h) : De G E X (.Subscript e (.Slice lo hi none p2) pos) (dSlice f l h) := by
  obtain ⟨t, h1, h2⟩ := ha
  obtain ⟨tl, l1, l2⟩ := hl
  obtain ⟨th, k1, k2⟩ := hh
  refine ⟨_, pe_slice sl_d h1 l1 k1, fun B δ σ H0 H s => at_bind (t := t σ H) (k := fun x H1 Q => tl σ H1 fun l H2 => th σ H2 fun u H3 => rSlD X.K x l u H3 Q) mV (h2 B δ σ H0 H s) fun x v H1 H1' w rx =>
    at_bind (t := tl σ H1') (k := fun l H2 Q => th σ H2 fun u H3 => rSlD X.K v l u H3 Q) mV (l2 B δ σ H1 H1' (s.up w)) fun lo' lo2 H2 H2' w2 e1 => at_bind (t := th σ H2') (k := fun u H3 Q => rSlD X.K v lo2 u H3 Q) mV (k2 B δ σ H2 H2' ((s.up w).up w2)) fun hi' hi2 H3 H3' w3 e2 => ?_⟩
  cases (show lo2 = lo' from e1)
  cases (show hi2 = hi' from e2)
  have rx : rP X.K H H3 H3' v x := sP _ _ _ _ _ _ _ w3 (sP _ _ _ _ _ _ _ w2 rx)
  have e := w3.b
  unfold P.slice
  split
  · rename_i ds hd
    obtain ⟨a, vs, rfl, hq, r⟩ := as_l e rx hd
    exact fun Q q => .inl ⟨_, _, rfl, hq, at_newL (G := G) (E := E) e (cut_rp r) Q q⟩
  · split
    · cases (show Rp X.K H3 v _ from rx) with
      | @tup a xs ds h1 r =>
        refine fun Q q => .inr (.inl ⟨_, _, rfl, same_t e h1, fun z => ?_, fun z => at_newT (G := G) (E := E) e (cut_rp r) Q q⟩)
        have z' := z
        rw [r.length] at z'
        refine q _ H3 H3' (.refl e) ?_
        show Rp X.K H3 (.ref a) (.tuple (cutD _ lo' hi'))
        unfold cutD
        rw [cutD_all z']
        exact .tup h1 r
    · cases (show Rp X.K H3 v _ from rx)
      split
      · rename_i hl
        exact fun Q q => .inr (.inr ⟨_, rfl, lim_le hl, q _ H3 H3' (.refl e) (.str _)⟩)
      · exact True.intro
    · exact True.intro
/-- len -/
def P.len (x : Op) : R D := match asSq x with
  | some ds => .ok (.int ds.length)
  | none => match x with
    | .d (.str z) => if z.length ≤ LIM then .ok (.int z.length) else .bad
    | _ => .bad
def dLen (f : DSt → R Op) : DSt → R D := fun δ => (f δ).bind P.len
/-- a built-in of one operand -/
theorem ev_cb1 {K : PySem.W.Frag} {γ : Type} {rc : Rel V γ} {r : List V → Hp → VK → Prop} {ta : TE} {fa : DSt → R Op} {g : Op → R γ} (mc : Rel.M rc) (ha : Ev K G E (rP K) ta fa)
    (hk : ∀ x v Hs H0 H, Same H0 H → rP K Hs H0 H v x → At K G E rc H0 H (r [v] H) (g x)) : Ev K G E rc (tCB r (tCons ta tNil)) (fun δ => (fa δ).bind g) :=
  fun B δ σ H0 H s => at_bind (t := ta σ H) (k := fun v H1 Q => r [v] H1 Q) mc (ha B δ σ H0 H s) fun x v H1 H1' u rx => hk x v H H1 H1' u.b rx
theorem de_len {f} (hg : Gl X "len") (hm : X.mg "len" = none) (ha : DO G E X e f) (he : starEach [e] X.env = (false, eval e X.env) :: starEach [] X.env := by rfl) (hpl : (backTo pos (starEach [] X.env)).any (·.1) = false := by rfl) :
    De G E X (.Call (.Name "len" p) [e] [] pos) (dLen f) := by
  obtain ⟨t, h1, h2⟩ := ha
  refine ⟨_, pe_callB call_len hg hm PySem.boot_len (pa_cons h1 pa_nil he) (by decide) (by decide) he hpl, ev_cb1 mV h2 fun x v Hs H0 H e rx => ?_⟩
  unfold P.len
  split
  · rename_i ds hd
    obtain ⟨a, vs, rfl, hq, r⟩ := as_sq e rx hd
    exact fun Q q => ⟨_, _, rfl, hq.elim (fun z => .inl ⟨_, z, r.length.symm⟩) (fun z => .inr ⟨_, z, r.length.symm⟩), q _ H0 H (.refl e) (.int _)⟩
  · split
    · cases (show Rp X.K H0 v _ from rx)
      split
      · rename_i hl
        exact fun Q q => ⟨_, _, rfl, ⟨lim_le hl, rfl⟩, q _ H0 H (.refl e) (.int _)⟩
      · exact True.intro
    · exact True.intro
/-- isinstance with a built-in class -/
def tyN : Op → String
  | .o _ => "list"
  | .d .none => "NoneType"
  | .d (.bool _) => "bool"
  | .d (.int _) => "int"
  | .d (.str _) => "str"
  | .d (.list _) => "list"
  | .d (.tuple _) => "tuple"
  | .d (.dict [(.none, .list _)]) => "list"
  | .d (.dict _) => "dict"
theorem tyX_of {K : PySem.W.Frag} {Hs H0 H : Hp} {v : V} {x : Op} (e : Same H0 H) (h : rP K Hs H0 H v x) : TyX K H v (.type (tyN x)) := by
  cases x with
  | o ds => obtain ⟨p, vs, rfl, h1, _⟩ := h; exact .base (.lst h1)
  | d d =>
    have h : Rp K H0 v d := h
    cases h with
    | non => exact .base .non
    | bl b => exact .base (.bl b)
    | int i => exact .base (.int i)
    | str s => exact .base (.str s)
    | lst h1 _ => exact .base (.lst (e _ _ h1))
    | tup h1 _ =>
      rcases same_t e h1 with (h | ⟨o, h⟩) | ⟨o, its, n, hk, hc, _⟩
      · exact .base (.tup h)
      · exact .fTuple h
      · exact .kTuple hk hc
    | scr h1 _ =>
      rcases e.seq h1 with (h | ⟨o, h⟩) | ⟨o, its, n, hk, hc, _⟩
      · exact .base (.lst h)
      · exact .base (.frz h)
      · exact .kList hk hc
def P.isi (T : String) (x : Op) : R D := match kitB (tyN x) T with
  | some b => .ok (.bool b)
  | none => .bad
def dIsi (T : String) (f : DSt → R Op) : DSt → R D := fun δ => (f δ).bind (P.isi T)
theorem de_isi {f} {T : String} {cn : Str} (hg : Gl X "isinstance") (hm : X.mg "isinstance" = none) (hv : bootBuiltins "isinstance" = some (.builtin "isinstance")) (hgT : Gl X cn) (hmT : X.mg cn = none) (hvT : bootBuiltins cn = some (.type T)) (ha : DO G E X e f)
    (hn : cn ≠ "__name__" := by decide) (hd : (cn == ("__debug__" : Str)) = false := by decide)
    (he : starEach [e, .Name cn p2] X.env = (false, eval e X.env) :: starEach [.Name cn p2] X.env := by rfl) (he2 : starEach [.Name cn p2] X.env = (false, eval (.Name cn p2) X.env) :: starEach [] X.env := by rfl) (hpl : (backTo pos (starEach [.Name cn p2] X.env)).any (·.1) = false := by rfl) :
    De G E X (.Call (.Name "isinstance" p) [e, .Name cn p2] [] pos) (dIsi T f) := by
  obtain ⟨t, h1, h2⟩ := ha
  refine ⟨_, pe_callB call_isi hg hm hv (pa_cons h1 (pa_cons (pe_bltn (v := .ty T) hgT hmT hvT rfl hn hd) pa_nil he2) he) (by decide) (by decide) he hpl, fun B δ σ H0 H s => at_bind (t := t σ H) (k := fun v H1 Q => rIsi X.K [v, .ty T] H1 Q) mV (h2 B δ σ H0 H s) fun x v H1 H1' w rx => ?_⟩
  unfold P.isi
  split
  · rename_i b hb
    exact fun Q q => ⟨_, _, _, _, _, rfl, .ty T, tyX_of w.b rx, kit_ty hb, q _ H1 H1' (.refl w.b) (.bl _)⟩
  · exact True.intro
/-- int(x), max(x, y), min(x, y) -/
def P.toInt : Op → R D
  | .d (.int i) => .ok (.int i)
  | .d (.bool b) => .ok (.int (if b then 1 else 0))
  | _ => .bad
def dToInt (f : DSt → R Op) : DSt → R D := fun δ => (f δ).bind P.toInt
theorem de_toInt {f} (hg : Gl X "int") (hm : X.mg "int" = none) (hv : bootBuiltins "int" = some (.type "int")) (ha : DO G E X e f) (he : starEach [e] X.env = (false, eval e X.env) :: starEach [] X.env := by rfl) (hpl : (backTo pos (starEach [] X.env)).any (·.1) = false := by rfl) :
    De G E X (.Call (.Name "int" p) [e] [] pos) (dToInt f) := by
  obtain ⟨t, h1, h2⟩ := ha
  refine ⟨_, pe_callTy call_int1 hg hm hv (pa_cons h1 pa_nil he) (by decide) (by decide) he hpl, ev_cb1 mV h2 fun x v Hs H0 H e rx => ?_⟩
  unfold P.toInt
  split
  · cases (show Rp X.K H0 v _ from rx)
    exact fun Q q => .inl ⟨_, rfl, q _ H0 H (.refl e) (.int _)⟩
  · cases (show Rp X.K H0 v _ from rx)
    exact fun Q q => .inr ⟨_, rfl, q _ H0 H (.refl e) (.int _)⟩
  · exact True.intro
def P.max2 : List D → R D
  | [.int i, .int j] => .ok (.int (if j > i then j else i))
  | _ => .bad
def P.min2 : List D → R D
  | [.int i, .int j] => .ok (.int (if j < i then j else i))
  | _ => .bad
def dCall1 (p : List D → R D) (f : DSt → R (List D)) : DSt → R D := fun δ => (f δ).bind p
theorem de_max2 {f} (hc : X.calm = true) (hg : Gl X "max") (hm : X.mg "max" = none) (hv : bootBuiltins "max" = some (.builtin "max")) (ha : Da G E X (e :: es) f) (he : starEach (e :: es) X.env = (false, eval e X.env) :: starEach es X.env := by rfl) (hpl : (backTo pos (starEach es X.env)).any (·.1) = false := by rfl) :
    De G E X (.Call (.Name "max" p) (e :: es) [] pos) (dCall1 P.max2 f) := by
  obtain ⟨t, h1, h2⟩ := ha
  refine ⟨_, pe_callB (call_max2 hc) hg hm hv h1 (by decide) (by decide) he hpl, ev_cb mV h2 fun ds vs H0 H e rx => ?_⟩
  unfold P.max2
  split
  · cases rx with
    | cons r1 r2 =>
      cases r2 with
      | cons r3 r4 =>
        cases r4; cases r1; cases r3
        exact fun Q q => ⟨_, _, rfl, q _ H0 H (.refl e) (.int _)⟩
  · exact True.intro
theorem de_min2 {f} (hc : X.calm = true) (hg : Gl X "min") (hm : X.mg "min" = none) (hv : bootBuiltins "min" = some (.builtin "min")) (ha : Da G E X (e :: es) f) (he : starEach (e :: es) X.env = (false, eval e X.env) :: starEach es X.env := by rfl) (hpl : (backTo pos (starEach es X.env)).any (·.1) = false := by rfl) :
    De G E X (.Call (.Name "min" p) (e :: es) [] pos) (dCall1 P.min2 f) := by
  obtain ⟨t, h1, h2⟩ := ha
  refine ⟨_, pe_callB (call_min2 hc) hg hm hv h1 (by decide) (by decide) he hpl, ev_cb mV h2 fun ds vs H0 H e rx => ?_⟩
  unfold P.min2
  split
  · cases rx with
    | cons r1 r2 =>
      cases r2 with
      | cons r3 r4 =>
        cases r4; cases r1; cases r3
        exact fun Q q => ⟨_, _, rfl, q _ H0 H (.refl e) (.int _)⟩
  · exact True.intro
/-- all, any of a list of truth values -/
def bools? : List D → Option (List Bool)
  | [] => some []
  | .bool b :: ds => (bools? ds).map (b :: ·)
  | _ => none
theorem bools_rp {K : PySem.W.Frag} {H : Hp} : ∀ {ds : List D} {vs : List V} {bs : List Bool}, bools? ds = some bs → RpAll K H vs ds → vs = bs.map V.bl
  | [], _, _, h, .nil => by cases h; rfl
  | .bool b :: ds, _, bs, h, .cons (.bl _) r => by
    unfold bools? at h
    cases q : bools? ds with
    | none => rw [q] at h; cases h
    | some cs =>
      rw [q] at h
      cases h
      rw [bools_rp q r]
      rfl
def P.all (x : Op) : R D := match (asL x).bind bools? with
  | some bs => .ok (.bool (bs.all id))
  | none => .bad
def P.any (x : Op) : R D := match (asL x).bind bools? with
  | some bs => .ok (.bool (bs.any id))
  | none => .bad
def d1 (p : Op → R D) (f : DSt → R Op) : DSt → R D := fun δ => (f δ).bind p
theorem de_all {f} (hc : X.calm = true) (hg : Gl X "all") (hm : X.mg "all" = none) (hv : bootBuiltins "all" = some (.builtin "all")) (ha : DO G E X e f) (he : starEach [e] X.env = (false, eval e X.env) :: starEach [] X.env := by rfl) (hpl : (backTo pos (starEach [] X.env)).any (·.1) = false := by rfl) :
    De G E X (.Call (.Name "all" p) [e] [] pos) (d1 P.all f) := by
  obtain ⟨t, h1, h2⟩ := ha
  refine ⟨_, pe_callB (cr_all hc) hg hm hv (pa_cons h1 pa_nil he) (by decide) (by decide) he hpl, ev_cb1 mV h2 fun x v Hs H0 H e rx => ?_⟩
  unfold P.all
  split
  · rename_i bs hb
    cases q : asL x with
    | none => rw [q] at hb; cases hb
    | some ds =>
      rw [q] at hb
      obtain ⟨a, vs, rfl, hq, r⟩ := as_l e rx q
      have z := bools_rp hb r
      subst z
      exact fun Q q => ⟨_, _, rfl, hq, q _ H0 H (.refl e) (.bl _)⟩
  · exact True.intro
theorem de_any {f} (hc : X.calm = true) (hg : Gl X "any") (hm : X.mg "any" = none) (hv : bootBuiltins "any" = some (.builtin "any")) (ha : DO G E X e f) (he : starEach [e] X.env = (false, eval e X.env) :: starEach [] X.env := by rfl) (hpl : (backTo pos (starEach [] X.env)).any (·.1) = false := by rfl) :
    De G E X (.Call (.Name "any" p) [e] [] pos) (d1 P.any f) := by
  obtain ⟨t, h1, h2⟩ := ha
  refine ⟨_, pe_callB (cr_any hc) hg hm hv (pa_cons h1 pa_nil he) (by decide) (by decide) he hpl, ev_cb1 mV h2 fun x v Hs H0 H e rx => ?_⟩
  unfold P.any
  split
  · rename_i bs hb
    cases q : asL x with
    | none => rw [q] at hb; cases hb
    | some ds =>
      rw [q] at hb
      obtain ⟨a, vs, rfl, hq, r⟩ := as_l e rx q
      have z := bools_rp hb r
      subst z
      exact fun Q q => ⟨_, _, rfl, hq, q _ H0 H (.refl e) (.bl _)⟩
  · exact True.intro
/-- tuple(x), list(x) -/
def P.tuple (x : Op) : R D := match asSq x with
  | some ds => .ok (.tuple ds)
  | none => .bad
theorem de_tuple {f} (hg : Gl X "tuple") (hm : X.mg "tuple" = none) (hv : bootBuiltins "tuple" = some (.type "tuple")) (ha : DO G E X e f) (he : starEach [e] X.env = (false, eval e X.env) :: starEach [] X.env := by rfl) (hpl : (backTo pos (starEach [] X.env)).any (·.1) = false := by rfl) :
    De G E X (.Call (.Name "tuple" p) [e] [] pos) (d1 P.tuple f) := by
  obtain ⟨t, h1, h2⟩ := ha
  refine ⟨_, pe_callTy call_tuple_of hg hm hv (pa_cons h1 pa_nil he) (by decide) (by decide) he hpl, ev_cb1 mV h2 fun x v Hs H0 H e rx => ?_⟩
  unfold P.tuple
  cases q : asSq x with
  | none => exact True.intro
  | some ds =>
    obtain ⟨a, vs, rfl, hq, r⟩ := as_sq e rx q
    rcases hq with hq | hq
    · exact fun Q q => ⟨_, _, rfl, .inl ⟨hq, at_newT (G := G) (E := E) e r Q q⟩⟩
    · -- a tuple is itself: its place must be the data's
      cases x with
      | o es => 
        obtain ⟨p, ws, e1, h1, h2⟩ := rx
        cases e1
        cases q
        exact fun Q q => ⟨_, _, rfl, .inl ⟨SqL.of h1, at_newT (G := G) (E := E) e h2 Q q⟩⟩
      | d d =>
        have rx : Rp X.K H0 (.ref a) d := rx
        cases rx with
        | lst h1 h2 => cases q; exact fun Q q => ⟨_, _, rfl, .inl ⟨SqL.of (e _ _ h1), at_newT (G := G) (E := E) e h2 Q q⟩⟩
        | tup h1 h2 => cases q; exact fun Q q => ⟨_, _, rfl, .inr ⟨same_t e h1, q _ H0 H (.refl e) (.tup h1 h2)⟩⟩
        | scr h1 h2 => cases q; exact fun Q q => ⟨_, _, rfl, .inl ⟨e.seq h1, at_newT (G := G) (E := E) e h2 Q q⟩⟩
def P.listN (x : Op) : R (List D) := match asSq x with
  | some ds => .ok ds
  | none => .bad
def dListN (f : DSt → R Op) : DSt → R (List D) := fun δ => (f δ).bind P.listN
theorem dn_list {f} (hg : Gl X "list") (hm : X.mg "list" = none) (hv : bootBuiltins "list" = some (.type "list")) (ha : DO G E X e f) (he : starEach [e] X.env = (false, eval e X.env) :: starEach [] X.env := by rfl) (hpl : (backTo pos (starEach [] X.env)).any (·.1) = false := by rfl) :
    DN G E X (.Call (.Name "list" p) [e] [] pos) (dListN f) := by
  obtain ⟨t, h1, h2⟩ := ha
  refine ⟨_, pe_callTy call_list_of hg hm hv (pa_cons h1 pa_nil he) (by decide) (by decide) he hpl, ev_cb1 mN h2 fun x v Hs H0 H e rx => ?_⟩
  unfold P.listN
  cases q : asSq x with
  | none => exact True.intro
  | some ds =>
    obtain ⟨a, vs, rfl, hq, r⟩ := as_sq e rx q
    exact fun Q q => ⟨_, _, rfl, hq, at_newN (G := G) (E := E) e r Q q⟩
end
end Dn

namespace Dn
open PySem PySem.Spec PyProof.Rows L2

/-! ### what is walked -/
structure Wk (K : PySem.W.Frag) (J : It) (ds : List D) (H0 : Hp) (Kp : Hp → Prop) : Prop where
  go : ∀ (i : Nat) (d : D) H', Kp H' → ds[i]? = some d → J.go i H'
  yld : ∀ (i : Nat) (d : D) H0' H' x H3, Kp H' → Same H0 H0' → Same H0' H' → ds[i]? = some d → J.yld i H' x H3 → ∃ H03, Up H0' H' H03 H3 ∧ Rp K H03 x d
  stop : ∀ H', Kp H' → J.stop ds.length H'
/-- m: whether the walk goes on under the stores of a loop's body -/
def rI (K : PySem.W.Frag) (m : Bool) : Rel It (List D) := fun _ H0 H J ds => ∃ Kp : Hp → Prop, Wk K J ds H0 Kp ∧ ∀ H'', Same H0 H'' → (m = false → Same H H'') → Kp H''
theorem mI {K m} : Rel.M (rI K m) := fun _ _ _ _ _ _ _ h => h
def DI (G : Str → Addr) (E : XK) (X : Cx) (m : Bool) (tg it : Expr) (f : DSt → R (List D)) : Prop := ∃ w, PI X tg it w ∧ Ev X.K G E (rI X.K m) w f

theorem wk_list {K : PySem.W.Frag} {a : Addr} {vs : List V} {ds : List D} {H0 : Hp} {Kp : Hp → Prop} (r : RpAll K H0 vs ds) (k : ∀ H', Kp H' → SqL K H' a vs) : Wk K (Itl K a) ds H0 Kp where
  go := fun i d H' kp hd => by
    obtain ⟨v, hv, _⟩ := r.get hd
    exact ⟨vs, v, k H' kp, hv⟩
  yld := fun i d H0' H' x H3 kp e1 e2 hd hy => by
    obtain ⟨v, hv, rv⟩ := r.get hd
    obtain ⟨rfl, h⟩ := hy
    have z := (h vs (k _ kp)).symm.trans hv
    cases z
    exact ⟨H0', .refl e2, rv.mono e1⟩
  stop := fun H' kp => ⟨vs, k H' kp, by rw [r.length]; exact Nat.le_refl _⟩
theorem wk_tup {K : PySem.W.Frag} {a : Addr} {vs : List V} {ds : List D} {H0 : Hp} {Kp : Hp → Prop} (r : RpAll K H0 vs ds) (k : ∀ H', Kp H' → SqT K H' a vs) : Wk K (Itt K a) ds H0 Kp where
  go := fun i d H' kp hd => by
    obtain ⟨v, hv, _⟩ := r.get hd
    exact ⟨vs, v, k H' kp, hv⟩
  yld := fun i d H0' H' x H3 kp e1 e2 hd hy => by
    obtain ⟨v, hv, rv⟩ := r.get hd
    obtain ⟨rfl, h⟩ := hy
    have z := (h vs (k _ kp)).symm.trans hv
    cases z
    exact ⟨H0', .refl e2, rv.mono e1⟩
  stop := fun H' kp => ⟨vs, k H' kp, by rw [r.length]; exact Nat.le_refl _⟩
def signs (z : Str) : List D := z.cps.toList.map fun c => .str ⟨#[c]⟩
theorem wk_str {K : PySem.W.Frag} {z : Str} {H0 : Hp} {Kp : Hp → Prop} : Wk K (Its z) (signs z) H0 Kp where
  go := fun i d H' kp hd => by
    have h := (List.getElem?_eq_some_iff.mp hd).1
    show i < z.cps.size
    simpa [signs] using h
  yld := fun i d H0' H' x H3 kp e1 e2 hd hy => by
    obtain ⟨rfl, c, hc, rfl⟩ := hy
    have : (signs z)[i]? = some (.str ⟨#[c]⟩) := by
      unfold signs
      rw [List.getElem?_map, Array.getElem?_toList, hc]
      rfl
    rw [this] at hd
    cases hd
    exact ⟨H0', .refl e2, .str _⟩
  stop := fun H' kp => by
    show z.cps.size ≤ (signs z).length
    simp [signs]
def rngD (lo : Int) (n : Nat) : List D := (List.range n).map fun i => .int (lo + (i : Nat))
theorem rngD_get {lo : Int} {n i : Nat} (h : i < n) : (rngD lo n)[i]? = some (.int (lo + (i : Nat))) := by
  unfold rngD
  rw [List.getElem?_map, List.getElem?_range h]
  rfl
theorem rngD_len {lo : Int} {n : Nat} : (rngD lo n).length = n := by simp [rngD]
theorem wk_range {K : PySem.W.Frag} {lo : Int} {n : Nat} {H0 : Hp} {Kp : Hp → Prop} : Wk K (Itr lo n) (rngD lo n) H0 Kp where
  go := fun i d H' kp hd => by
    have h := (List.getElem?_eq_some_iff.mp hd).1
    rw [rngD_len] at h
    exact h
  yld := fun i d H0' H' x H3 kp e1 e2 hd hy => by
    obtain ⟨rfl, rfl⟩ := hy
    have h := (List.getElem?_eq_some_iff.mp hd).1
    rw [rngD_len] at h
    rw [rngD_get h] at hd
    cases hd
    exact ⟨H0', .refl e2, .int _⟩
  stop := fun H' kp => by rw [rngD_len]; exact Nat.le_refl _
def pairs (xs ys : List D) : List D := (xs.zip ys).map fun p => .tuple [p.1, p.2]
theorem pairs_get {xs ys : List D} {i : Nat} {d : D} (h : (pairs xs ys)[i]? = some d) : ∃ x y, xs[i]? = some x ∧ ys[i]? = some y ∧ d = .tuple [x, y] := by
  unfold pairs at h
  rw [List.getElem?_map] at h
  cases q : (xs.zip ys)[i]? with
  | none => rw [q] at h; cases h
  | some p =>
    rw [q] at h
    cases h
    rw [List.getElem?_zip_eq_some] at q
    exact ⟨_, _, q.1, q.2, rfl⟩
theorem pairs_len {xs ys : List D} : (pairs xs ys).length = min xs.length ys.length := by simp [pairs]
theorem wk_zipL {K : PySem.W.Frag} {a b : Addr} {vs ws : List V} {ds es : List D} {H0 : Hp} {Kp : Hp → Prop} (r : RpAll K H0 vs ds) (r' : RpAll K H0 ws es) (k : ∀ H', Kp H' → SqL K H' a vs ∧ SqL K H' b ws) : Wk K (Itz K a b) (pairs ds es) H0 Kp where
  go := fun i d H' kp hd => by
    obtain ⟨x, y, hx, hy, rfl⟩ := pairs_get hd
    obtain ⟨v, hv, _⟩ := r.get hx
    obtain ⟨w, hw, _⟩ := r'.get hy
    exact ⟨vs, ws, v, w, (k H' kp).1, (k H' kp).2, hv, hw⟩
  yld := fun i d H0' H' x H3 kp e1 e2 hd hy => by
    obtain ⟨x, y, hx, hy', rfl⟩ := pairs_get hd
    obtain ⟨v, hv, rv⟩ := r.get hx
    obtain ⟨w, hw, rw'⟩ := r'.get hy'
    obtain ⟨T, v', w', rfl, hT, rfl, f1, f2⟩ := hy
    have z1 := (f1 vs (k _ kp).1).symm.trans hv
    have z2 := (f2 ws (k _ kp).2).symm.trans hw
    cases z1; cases z2
    refine ⟨_, Up.new (o := .tup [v, w]) e2 hT, .tup (SqT.of upd_same) (.cons ?_ (.cons ?_ .nil))⟩
    · exact (rv.mono e1).mono (Same.upd (e2.free hT))
    · exact (rw'.mono e1).mono (Same.upd (e2.free hT))
  stop := fun H' kp => ⟨vs, ws, (k H' kp).1, (k H' kp).2, by
    rw [pairs_len, r.length, r'.length]
    omega⟩
theorem wk_zipT {K : PySem.W.Frag} {a b : Addr} {vs ws : List V} {ds es : List D} {H0 : Hp} {Kp : Hp → Prop} (r : RpAll K H0 vs ds) (r' : RpAll K H0 ws es) (k : ∀ H', Kp H' → SqT K H' a vs ∧ SqT K H' b ws) : Wk K (RZ.ItzT K a b) (pairs ds es) H0 Kp where
  go := fun i d H' kp hd => by
    obtain ⟨x, y, hx, hy, rfl⟩ := pairs_get hd
    obtain ⟨v, hv, _⟩ := r.get hx
    obtain ⟨w, hw, _⟩ := r'.get hy
    exact ⟨vs, ws, v, w, (k H' kp).1, (k H' kp).2, hv, hw⟩
  yld := fun i d H0' H' x H3 kp e1 e2 hd hy => by
    obtain ⟨x, y, hx, hy', rfl⟩ := pairs_get hd
    obtain ⟨v, hv, rv⟩ := r.get hx
    obtain ⟨w, hw, rw'⟩ := r'.get hy'
    obtain ⟨T, v', w', rfl, hT, rfl, f1, f2⟩ := hy
    have z1 := (f1 vs (k _ kp).1).symm.trans hv
    have z2 := (f2 ws (k _ kp).2).symm.trans hw
    cases z1; cases z2
    refine ⟨_, Up.new (o := .tup [v, w]) e2 hT, .tup (SqT.of upd_same) (.cons ?_ (.cons ?_ .nil))⟩
    · exact (rv.mono e1).mono (Same.upd (e2.free hT))
    · exact (rw'.mono e1).mono (Same.upd (e2.free hT))
  stop := fun H' kp => ⟨vs, ws, (k H' kp).1, (k H' kp).2, by
    rw [pairs_len, r.length, r'.length]
    omega⟩

section
variable {G : Str → Addr} {E : XK} {X : Cx} {pos p p2 : Pos} {a b e tg : Expr} {es : List Expr} {m : Bool}
/-- a list, a tuple or a text -/
def iAny (K : PySem.W.Frag) (tl : TE) : TI := fun σ H R => tl σ H fun x H1 => (∃ a, x = .ref a ∧ (∃ xs, SqL K H1 a xs) ∧ R (Itl K a) H1) ∨ (∃ a, x = .ref a ∧ (∃ xs, SqT K H1 a xs) ∧ R (Itt K a) H1) ∨ ∃ z, x = .str z ∧ R (Its z) H1
theorem pi_any {l : Expr} {tl : TE} (hl : PE X l tl) : PI X tg l (iAny X.K tl) := by
  refine ⟨fun pins s σ H R I h => ?_⟩
  refine thn (hl.run pins s σ H _ I h) fun v s1 ⟨x, H1, I1, r1, q1⟩ => ?_
  rcases q1 with ⟨a, e, ⟨xs, hq⟩, q⟩ | ⟨a, e, ⟨xs, hq⟩, q⟩ | ⟨x, e, q⟩
  · subst e
    cases r1
    obtain ⟨its, rv, p, hz⟩ := I1.list hq
    refine wpAny_pyIter_list p.isList ?_
    refine ⟨s1.heap.objs.size, [s1.heap.objs.size], _, _, H1, rfl, I1.kept (t' := s1.toks) fun b o e => Heap.get?_push_of_some _ e, turn_list a _, ⟨_, Heap.get?_push_size _ rfl, rfl, rfl⟩, fun b hb => ?_, q⟩
    have e : b = s1.heap.objs.size := by simpa using hb
    subst e
    exact I1.fpOk (Nat.le_refl _) (I1.hok.fresh (Nat.le_refl _))
  · subst e
    cases r1
    obtain ⟨its, rv, p, hz⟩ := I1.tuple hq
    refine wpAny_pyIter_tuple (show s1.heap.IsTuple a its.toArray from p) ?_
    refine ⟨s1.heap.objs.size, [s1.heap.objs.size], _, _, H1, rfl, I1.kept (t' := s1.toks) fun b o e => Heap.get?_push_of_some _ e, turn_tuple a _, ⟨_, Heap.get?_push_size _ rfl, rfl, rfl⟩, fun b hb => ?_, q⟩
    have e : b = s1.heap.objs.size := by simpa using hb
    subst e
    exact I1.fpOk (Nat.le_refl _) (I1.hok.fresh (Nat.le_refl _))
  · subst e
    obtain ⟨t, rfl⟩ := r1
    cases ha : x.cps.all (· < 128)
    · exact wpAny_pyIter_wide ha (pi_one (tk := s1.toks) I1 _ (turn_str _ x t "str_iterator" (.inr rfl)) ⟨_, Heap.get?_push_size _ rfl, rfl, rfl⟩ q)
    · exact wpAny_pyIter_ascii ha (pi_one (tk := s1.toks) I1 _ (turn_str _ x t "str_ascii_iterator" (.inl rfl)) ⟨_, Heap.get?_push_size _ rfl, rfl, rfl⟩ q)
def P.items : D → R (List D)
  | .list ds => .ok ds
  | .tuple ds => .ok ds
  | .dict [(.none, .list ds)] => .ok ds
  | .str z => .ok (signs z)
  | _ => .bad
def dItems (f : DSt → R D) : DSt → R (List D) := fun δ => (f δ).bind P.items
theorem di_any {f} (h : De G E X e f) : DI G E X m tg e (dItems f) := by
  obtain ⟨t, h1, h2⟩ := h
  refine ⟨_, pi_any h1, fun B δ σ H0 H s => at_bind (t := t σ H) (k := fun x H1 R => (∃ a, x = .ref a ∧ (∃ xs, SqL X.K H1 a xs) ∧ R (Itl X.K a) H1) ∨ (∃ a, x = .ref a ∧ (∃ xs, SqT X.K H1 a xs) ∧ R (Itt X.K a) H1) ∨ ∃ z, x = .str z ∧ R (Its z) H1) mI (h2 B δ σ H0 H s) fun x v H1 H1' w rx => ?_⟩
  have rx : Rp X.K H1 v x := rx
  have e := w.b
  cases rx with
  | non => exact True.intro
  | bl _ => exact True.intro
  | int _ => exact True.intro
  | str z => exact fun Q q => .inr (.inr ⟨z, rfl, q _ H1 H1' (.refl e) ⟨fun _ => True, wk_str, fun _ _ _ => True.intro⟩⟩)
  | lst h r => exact fun Q q => .inl ⟨_, rfl, ⟨_, SqL.of (e _ _ h)⟩, q _ H1 H1' (.refl e) ⟨fun H' => SqL X.K H' _ _, wk_list r fun _ k => k, fun H'' e2 _ => SqL.of (e2 _ _ h)⟩⟩
  | tup h r => exact fun Q q => .inr (.inl ⟨_, rfl, ⟨_, same_t e h⟩, q _ H1 H1' (.refl e) ⟨fun H' => SqT X.K H' _ _, wk_tup r fun _ k => k, fun H'' e2 _ => same_t e2 h⟩⟩)
  | scr h r => exact fun Q q => .inl ⟨_, rfl, ⟨_, e.seq h⟩, q _ H1 H1' (.refl e) ⟨fun H' => SqL X.K H' _ _, wk_list r fun _ k => k, fun H'' e2 _ => e2.seq h⟩⟩
/-- a list that the def owns, walked in a comprehension -/
def P.itemsO : Op → R (List D)
  | .o ds => .ok ds
  | .d x => P.items x
def dItemsO (f : DSt → R Op) : DSt → R (List D) := fun δ => (f δ).bind P.itemsO
theorem di_own {f} (h : DO G E X e f) : DI G E X false tg e (dItemsO f) := by
  obtain ⟨t, h1, h2⟩ := h
  refine ⟨_, pi_any h1, fun B δ σ H0 H s => at_bind (t := t σ H) (k := fun x H1 R => (∃ a, x = .ref a ∧ (∃ xs, SqL X.K H1 a xs) ∧ R (Itl X.K a) H1) ∨ (∃ a, x = .ref a ∧ (∃ xs, SqT X.K H1 a xs) ∧ R (Itt X.K a) H1) ∨ ∃ z, x = .str z ∧ R (Its z) H1) mI (h2 B δ σ H0 H s) fun x v H1 H1' w rx => ?_⟩
  have e := w.b
  cases x with
  | o ds =>
    obtain ⟨a, vs, rfl, h, r⟩ := rx
    exact fun Q q => .inl ⟨_, rfl, ⟨_, SqL.of h⟩, q _ H1 H1' (.refl e) ⟨fun H' => SqL X.K H' _ _, wk_list r fun _ k => k, fun H'' _ e2 => SqL.of (e2 rfl _ _ h)⟩⟩
  | d x =>
    have rx : Rp X.K H1 v x := rx
    cases rx with
    | non => exact True.intro
    | bl _ => exact True.intro
    | int _ => exact True.intro
    | str z => exact fun Q q => .inr (.inr ⟨z, rfl, q _ H1 H1' (.refl e) ⟨fun _ => True, wk_str, fun _ _ _ => True.intro⟩⟩)
    | lst h r => exact fun Q q => .inl ⟨_, rfl, ⟨_, SqL.of (e _ _ h)⟩, q _ H1 H1' (.refl e) ⟨fun H' => SqL X.K H' _ _, wk_list r fun _ k => k, fun H'' e2 _ => SqL.of (e2 _ _ h)⟩⟩
    | tup h r => exact fun Q q => .inr (.inl ⟨_, rfl, ⟨_, same_t e h⟩, q _ H1 H1' (.refl e) ⟨fun H' => SqT X.K H' _ _, wk_tup r fun _ k => k, fun H'' e2 _ => same_t e2 h⟩⟩)
    | scr h r => exact fun Q q => .inl ⟨_, rfl, ⟨_, e.seq h⟩, q _ H1 H1' (.refl e) ⟨fun H' => SqL X.K H' _ _, wk_list r fun _ k => k, fun H'' e2 _ => e2.seq h⟩⟩
/-- range -/
def P.range1 : List D → R (List D)
  | [.int n] => if n.natAbs ≤ LIM then .ok (rngD 0 n.toNat) else .bad
  | _ => .bad
def P.range2 : List D → R (List D)
  | [.int a, .int b] => if a.natAbs ≤ LIM ∧ b.natAbs ≤ LIM then .ok (rngD a (b - a).toNat) else .bad
  | _ => .bad
def dRng (p : List D → R (List D)) (f : DSt → R (List D)) : DSt → R (List D) := fun δ => (f δ).bind p
theorem di_range1 {f} (hg : Gl X "range") (hm : X.mg "range" = none) (h : Da G E X [a] f) (hs : starEach [a] X.env = [(false, eval a X.env)] := by rfl) : DI G E X m tg (.Call (.Name "range" p) [a] [] pos) (dRng P.range1 f) := by
  obtain ⟨t, h1, h2⟩ := h
  refine ⟨_, pi_range1 hg hm h1 hs, fun B δ σ H0 H s => at_bind (t := t σ H) (k := fun vs H1 R => ∃ j : Int, vs = [.int j] ∧ -(2 ^ 62) ≤ j ∧ j < 2 ^ 62 ∧ R (Itr 0 j.toNat) H1) mI (h2 B δ σ H0 H s) fun x v H1 H1' w rx => ?_⟩
  unfold P.range1
  split
  · split
    · rename_i n hl
      cases rx with
      | cons r1 r2 =>
        cases r2; cases r1
        exact fun Q q => ⟨_, rfl, by unfold LIM at hl; omega, by unfold LIM at hl; omega, q _ H1 H1' (.refl w.b) ⟨fun _ => True, wk_range, fun _ _ _ => True.intro⟩⟩
    · exact True.intro
  · exact True.intro
theorem di_range2 {f} (hg : Gl X "range") (hm : X.mg "range" = none) (h : Da G E X [a, b] f) (hs : starEach [a, b] X.env = [(false, eval a X.env), (false, eval b X.env)] := by rfl) (hs2 : starEach [b] X.env = [(false, eval b X.env)] := by rfl) :
    DI G E X m tg (.Call (.Name "range" p) [a, b] [] pos) (dRng P.range2 f) := by
  obtain ⟨t, h1, h2⟩ := h
  refine ⟨_, pi_range2 hg hm h1 hs hs2, fun B δ σ H0 H s => at_bind (t := t σ H) (k := fun vs H1 R => ∃ i j : Int, vs = [.int i, .int j] ∧ (-(2 ^ 62) ≤ i ∧ i < 2 ^ 62 ∧ -(2 ^ 62) ≤ j ∧ j < 2 ^ 62) ∧ R (Itr i (j - i).toNat) H1) mI (h2 B δ σ H0 H s) fun x v H1 H1' w rx => ?_⟩
  unfold P.range2
  split
  · split
    · rename_i n k hl
      cases rx with
      | cons r1 r2 =>
        cases r2 with
        | cons r3 r4 =>
          cases r4; cases r1; cases r3
          exact fun Q q => ⟨_, _, rfl, by unfold LIM at hl; omega, q _ H1 H1' (.refl w.b) ⟨fun _ => True, wk_range, fun _ _ _ => True.intro⟩⟩
    · exact True.intro
  · exact True.intro
/-- zip of two lists, of two tuples -/
def P.zip : List D → R (List D)
  | [.list xs, .list ys] => .ok (pairs xs ys)
  | [.tuple xs, .tuple ys] => .ok (pairs xs ys)
  | _ => .bad
theorem di_zip {f} {elts : List Expr} {kk : Nat} {tpos : Pos} (hg : Gl X "zip") (hm : X.mg "zip" = none) (h : Da G E X [a, b] f) (hs : starEach [a, b] X.env = (false, eval a X.env) :: starEach [b] X.env := by rfl) (hpl : (backTo pos (starEach [b] X.env)).any (·.1) = false := by rfl) :
    DI G E X m (.Tuple elts kk tpos) (.Call (.Name "zip" p) [a, b] [] pos) (dRng P.zip f) := by
  obtain ⟨t, h1, h2⟩ := h
  refine ⟨_, RZ.pi_zipA hg hm h1 hs hpl, fun B δ σ H0 H s => at_bind (t := t σ H) (k := fun vs H1 R => ∃ a b xs ys, vs = [.ref a, .ref b] ∧ ((SqL X.K H1 a xs ∧ SqL X.K H1 b ys ∧ R (Itz X.K a b) H1) ∨ (SqT X.K H1 a xs ∧ SqT X.K H1 b ys ∧ R (RZ.ItzT X.K a b) H1))) mI (h2 B δ σ H0 H s) fun x v H1 H1' w rx => ?_⟩
  have e := w.b
  unfold P.zip
  split
  · cases rx with
    | cons r1 r2 =>
      cases r2 with
      | cons r3 r4 =>
        cases r4
        cases r1 with
        | lst g1 q1 =>
          cases r3 with
          | lst g2 q2 =>
            exact fun Q q => ⟨_, _, _, _, rfl, .inl ⟨SqL.of (e _ _ g1), SqL.of (e _ _ g2), q _ H1 H1' (.refl e) ⟨fun H' => SqL X.K H' _ _ ∧ SqL X.K H' _ _, wk_zipL q1 q2 fun _ k => k, fun H'' e2 _ => ⟨SqL.of (e2 _ _ g1), SqL.of (e2 _ _ g2)⟩⟩⟩⟩
  · cases rx with
    | cons r1 r2 =>
      cases r2 with
      | cons r3 r4 =>
        cases r4
        cases r1 with
        | tup g1 q1 =>
          cases r3 with
          | tup g2 q2 =>
            exact fun Q q => ⟨_, _, _, _, rfl, .inr ⟨same_t e g1, same_t e g2, q _ H1 H1' (.refl e) ⟨fun H' => SqT X.K H' _ _ ∧ SqT X.K H' _ _, wk_zipT q1 q2 fun _ k => k, fun H'' e2 _ => ⟨same_t e2 g1, same_t e2 g2⟩⟩⟩⟩
  · exact True.intro
end

/-! ### slots stored, forgotten -/
theorem Sl.set {K : PySem.W.Frag} {B H0 H : Hp} {σ : L2.St} {δ : DSt} {i : Nat} {v : V} {d : D} (s : Sl K B H0 H σ δ) (r : Rp K H0 v d) : Sl K B H0 H (σ.set i (some v)) (δ.set i (.dat d)) := by
  have key : ∀ (j : Nat) (w : SV), (δ.set i (.dat d))[j]? = some w → (j = i ∧ w = .dat d ∧ i < δ.length) ∨ (j ≠ i ∧ δ[j]? = some w) := fun j w h => by
    by_cases hj : j = i
    · subst hj
      by_cases hl : j < δ.length
      · rw [List.getElem?_set_self hl] at h
        exact .inl ⟨rfl, (Option.some.inj h).symm, hl⟩
      · rw [List.getElem?_eq_none (by simpa using hl)] at h
        cases h
    · rw [List.getElem?_set_ne (Ne.symm hj)] at h
      exact .inr ⟨hj, h⟩
  refine ⟨s.base, s.ex, by simp [s.len], fun j e h => ?_, fun j ds h => ?_, fun j k ds es p hjk h1 h2 h3 => ?_⟩
  · rcases key j _ h with ⟨rfl, e1, hl⟩ | ⟨hj, h⟩
    · cases e1
      exact ⟨v, List.getElem?_set_self (by rw [s.len]; exact hl), r⟩
    · obtain ⟨w, e1, r1⟩ := s.dat j e h
      exact ⟨w, by rw [List.getElem?_set_ne (Ne.symm hj)]; exact e1, r1⟩
  · rcases key j _ h with ⟨rfl, e1, hl⟩ | ⟨hj, h⟩
    · cases e1
    · obtain ⟨p, vs, e1, r1⟩ := s.own j ds h
      exact ⟨p, vs, by rw [List.getElem?_set_ne (Ne.symm hj)]; exact e1, r1⟩
  · rcases key j _ h1 with ⟨rfl, e1, hl⟩ | ⟨hj, h1⟩
    · cases e1
    · rcases key k _ h2 with ⟨rfl, e1, hl⟩ | ⟨hk, h2⟩
      · cases e1
      · rw [List.getElem?_set_ne (Ne.symm hj)] at h3
        rw [List.getElem?_set_ne (Ne.symm hk)]
        exact s.sep j k ds es p hjk h1 h2 h3
/-- a new list, owned from here on -/
theorem Sl.setN {K : PySem.W.Frag} {B H0 H : Hp} {σ : L2.St} {δ : DSt} {i : Nat} {p : Addr} {vs : List V} {ds : List D} (s : Sl K B H0 H σ δ) (h0 : H0 p = none) (hb : B p = none) (hp : H p = some (.lst vs)) (r : RpAll K H0 vs ds)
    (new : ∀ (j : Nat) (es : List D), δ[j]? = some (SV.own es) → σ[j]? ≠ some (some (V.ref p))) : Sl K B H0 H (σ.set i (some (.ref p))) (δ.set i (.own ds)) := by
  have key : ∀ (j : Nat) (w : SV), (δ.set i (.own ds))[j]? = some w → (j = i ∧ w = .own ds ∧ i < δ.length) ∨ (j ≠ i ∧ δ[j]? = some w) := fun j w h => by
    by_cases hj : j = i
    · subst hj
      by_cases hl : j < δ.length
      · rw [List.getElem?_set_self hl] at h
        exact .inl ⟨rfl, (Option.some.inj h).symm, hl⟩
      · rw [List.getElem?_eq_none (by simpa using hl)] at h
        cases h
    · rw [List.getElem?_set_ne (Ne.symm hj)] at h
      exact .inr ⟨hj, h⟩
  refine ⟨s.base, s.ex, by simp [s.len], fun j e h => ?_, fun j es h => ?_, fun j k d1 d2 q hjk h1 h2 h3 => ?_⟩
  rotate_right
  have h1' := h1
  rotate_left
  · rcases key j _ h with ⟨rfl, e1, hl⟩ | ⟨hj, h⟩
    · cases e1
    · obtain ⟨w, e1, r1⟩ := s.dat j e h
      exact ⟨w, by rw [List.getElem?_set_ne (Ne.symm hj)]; exact e1, r1⟩
  · rcases key j _ h with ⟨rfl, e1, hl⟩ | ⟨hj, h⟩
    · cases e1
      exact ⟨p, vs, List.getElem?_set_self (by rw [s.len]; exact hl), h0, hb, hp, r⟩
    · obtain ⟨q, ws, e1, r1⟩ := s.own j es h
      exact ⟨q, ws, by rw [List.getElem?_set_ne (Ne.symm hj)]; exact e1, r1⟩
  · rcases key j _ h1 with ⟨rfl, e1, hl⟩ | ⟨hj, h1⟩
    · rcases key k _ h2 with ⟨rfl, e2, hl2⟩ | ⟨hk, h2⟩
      · exact absurd rfl hjk
      · rw [List.getElem?_set_self (by rw [s.len]; exact hl)] at h3
        cases h3
        rw [List.getElem?_set_ne (Ne.symm hk)]
        exact new k _ h2
    · rcases key k _ h2 with ⟨rfl, e1, hl⟩ | ⟨hk, h2⟩
      · rw [List.getElem?_set_ne (Ne.symm hj)] at h3
        rw [List.getElem?_set_self (by rw [s.len]; exact hl)]
        intro z
        cases z
        exact new j d1 ((key j _ h1').elim (fun w => absurd w.1 hj) fun w => w.2) h3
      · rw [List.getElem?_set_ne (Ne.symm hj)] at h3
        rw [List.getElem?_set_ne (Ne.symm hk)]
        exact s.sep j k d1 d2 q hjk h1 h2 h3
theorem dat_no {d : D} : SV.dat d ≠ .no := by intro z; cases z
theorem own_no {d : List D} : SV.own d ≠ .no := by intro z; cases z
/-- slots forgotten: in the data, or also in the frame -/
def fgt (δ : DSt) : List Nat → DSt
  | [] => δ
  | v :: vs => (fgt δ vs).set v .no
theorem fgt_some {δ : DSt} {i : Nat} {w : SV} (hw : w ≠ .no) : ∀ {vs : List Nat}, (fgt δ vs)[i]? = some w → δ[i]? = some w ∧ i ∉ vs
  | [], h => ⟨h, by simp⟩
  | v :: vs, h => by
    unfold fgt at h
    by_cases hi : v = i
    · subst hi
      by_cases hv : v < (fgt δ vs).length
      · rw [List.getElem?_set_self hv] at h
        exact absurd (Option.some.inj h).symm hw
      · rw [List.getElem?_eq_none (by simpa using hv)] at h; cases h
    · rw [List.getElem?_set_ne hi] at h
      obtain ⟨h1, h2⟩ := fgt_some hw h
      exact ⟨h1, by simp only [List.mem_cons, not_or]; exact ⟨fun e => hi e.symm, h2⟩⟩
theorem fgt_len (δ : DSt) : ∀ vs : List Nat, (fgt δ vs).length = δ.length
  | [] => rfl
  | v :: vs => by unfold fgt; rw [List.length_set, fgt_len δ vs]
theorem wipe_out' {σ : L2.St} {i : Nat} : ∀ {vs : List Nat}, i ∉ vs → (wipe σ vs)[i]? = σ[i]?
  | [], _ => rfl
  | v :: vs, h => by
    simp only [List.mem_cons, not_or] at h
    unfold wipe
    rw [List.getElem?_set_ne (Ne.symm h.1), wipe_out' h.2]
theorem Sl.fgt {K : PySem.W.Frag} {B H0 H : Hp} {σ : L2.St} {δ : DSt} (s : Sl K B H0 H σ δ) (vs : List Nat) : Sl K B H0 H σ (fgt δ vs) := by
  refine ⟨s.base, s.ex, by rw [fgt_len]; exact s.len, fun i d h => ?_, fun i ds h => ?_, fun i j ds es p hij h1 h2 => ?_⟩
  · exact s.dat i d (fgt_some dat_no h).1
  · exact s.own i ds (fgt_some own_no h).1
  · exact s.sep i j ds es p hij (fgt_some own_no h1).1 (fgt_some own_no h2).1
theorem Sl.wipe {K : PySem.W.Frag} {B H0 H : Hp} {σ : L2.St} {δ : DSt} (s : Sl K B H0 H σ δ) (vs : List Nat) : Sl K B H0 H (wipe σ vs) (Dn.fgt δ vs) := by
  refine ⟨s.base, s.ex, by rw [fgt_len, wipe_length]; exact s.len, fun i d h => ?_, fun i ds h => ?_, fun i j ds es p hij h1 h2 h3 => ?_⟩
  · obtain ⟨a, b⟩ := fgt_some dat_no h
    obtain ⟨v, e, r⟩ := s.dat i d a
    exact ⟨v, by rw [wipe_out' b]; exact e, r⟩
  · obtain ⟨a, b⟩ := fgt_some own_no h
    obtain ⟨p, ws, e, r⟩ := s.own i ds a
    exact ⟨p, ws, by rw [wipe_out' b]; exact e, r⟩
  · obtain ⟨a, b⟩ := fgt_some own_no h1
    obtain ⟨c, d⟩ := fgt_some own_no h2
    rw [wipe_out' b] at h3
    rw [wipe_out' d]
    exact s.sep i j ds es p hij a c h3
theorem wipe_set {σ : L2.St} {i : Nat} {x : Option V} : ∀ {vs : List Nat}, i ∈ vs → L2.wipe (σ.set i x) vs = L2.wipe σ vs
  | [], h => by simp at h
  | v :: vs, h => by
    unfold L2.wipe
    by_cases hi : i ∈ vs
    · rw [wipe_set hi]
    · have e : i = v := by
        rcases List.mem_cons.mp h with e | e
        · exact e
        · exact absurd e hi
      subst e
      have q : ∀ (ws : List Nat), i ∉ ws → (L2.wipe (σ.set i x) ws) = (L2.wipe σ ws).set i x := fun ws => by
        induction ws with
        | nil => intro _; rfl
        | cons w ws ih =>
          intro hw
          simp only [List.mem_cons, not_or] at hw
          unfold L2.wipe
          rw [ih hw.2, List.set_comm _ _ hw.1]
      rw [q vs hi, List.set_set]
theorem wipe_wipe {σ : L2.St} : ∀ {vs ws : List Nat}, (∀ i ∈ vs, i ∈ ws) → L2.wipe (L2.wipe σ vs) ws = L2.wipe σ ws
  | [], _, _ => rfl
  | v :: vs, ws, h => by
    show L2.wipe ((L2.wipe σ vs).set v none) ws = L2.wipe σ ws
    rw [wipe_set (h v (by simp)), wipe_wipe fun i hi => h i (by simp [hi])]

/-! ### targets -/
abbrev TGd := D → DSt → Option DSt
def EvG (K : PySem.W.Frag) (vs : List Nat) (g : TG) (f : TGd) : Prop := ∀ B δ σ H0 H v d δ', Sl K B H0 H σ δ → Rp K H0 v d → f d δ = some δ' → ∀ Q : L2.St → Hp → Prop, (∀ σ', Sl K B H0 H σ' δ' → L2.wipe σ' vs = L2.wipe σ vs → Q σ' H) → g v σ H Q
def EvGs (K : PySem.W.Frag) (vs : List Nat) (g : TGs) (f : List D → DSt → Option DSt) : Prop := ∀ B δ σ H0 H ws ds δ', Sl K B H0 H σ δ → RpAll K H0 ws ds → f ds δ = some δ' → ∀ Q : L2.St → Hp → Prop, (∀ σ', Sl K B H0 H σ' δ' → L2.wipe σ' vs = L2.wipe σ vs → Q σ' H) → g ws σ H Q
def DG (X : Cx) (vs : List Nat) (tg : Expr) (f : TGd) : Prop := ∃ g, PG X tg g ∧ EvG X.K vs g f
def DGs (X : Cx) (vs : List Nat) (tgs : List Expr) (f : List D → DSt → Option DSt) : Prop := ∃ g, PGs X tgs g ∧ EvGs X.K vs g f
def gN (i : Nat) : TGd := fun d δ => some (δ.set i (.dat d))
def gsN : List D → DSt → Option DSt
  | [], δ => some δ
  | _ :: _, _ => none
def gsC (t : TGd) (u : List D → DSt → Option DSt) : List D → DSt → Option DSt
  | [], _ => none
  | d :: ds, δ => (t d δ).bind (u ds)
def gT (n : Nat) (u : List D → DSt → Option DSt) : TGd := fun d δ => match d with
  | .tuple ds => if ds.length = n then u ds δ else none
  | _ => none
section
variable {X : Cx} {pos : Pos} {vs : List Nat}
theorem dg_name (i : Nat) {x : Str} (hi' : i ∈ vs) (hN : X.N.Nodup) (hi : X.N[i]? = some x) (hx : Loc X.env.scope x) (hf : X.fn x = true ∨ X.env.scope.names.lookup x = some .local := by first | exact .inl rfl | exact .inr rfl | assumption) : DG X vs (.Name x pos) (gN i) :=
  ⟨_, pg_name hN hi hx hf, fun B δ σ H0 H v d δ' s r e Q q => by
    cases e
    exact q _ (s.set r) (wipe_set hi')⟩
theorem dgs_nil : DGs X vs [] gsN := ⟨_, pgs_nil, fun B δ σ H0 H ws ds δ' s r e Q q => by
  cases r with
  | nil => cases e; exact ⟨rfl, q _ s rfl⟩
  | cons _ _ => cases e⟩
theorem dgs_cons {e : Expr} {es : List Expr} {t : TGd} {u} (h : DG X vs e t) (k : DGs X vs es u) (hs : (assignEach (e :: es) X.env).map (·.2) = assign e X.env :: (assignEach es X.env).map (·.2) := by rfl) : DGs X vs (e :: es) (gsC t u) := by
  obtain ⟨g, h1, h2⟩ := h
  obtain ⟨g', k1, k2⟩ := k
  refine ⟨_, pgs_cons h1 k1 hs, fun B δ σ H0 H ws ds δ' s r e Q q => ?_⟩
  cases r with
  | nil => cases e
  | cons r1 r2 =>
    rename_i v vr d dr
    have e : (t d δ).bind (u dr) = some δ' := e
    cases ht : t d δ with
    | none => rw [ht] at e; cases e
    | some δ1 =>
      rw [ht] at e
      refine ⟨_, _, rfl, h2 B δ σ H0 H _ _ _ s r1 ht _ fun σ1 s1 w1 => k2 B δ1 σ1 H0 H _ _ _ s1 r2 e _ fun σ2 s2 w2 => q σ2 s2 (w2.trans w1)⟩
theorem dg_tup {es : List Expr} {k n : Nat} {u} (hc : X.calm = true) (h : DGs X vs es u) (hn : (assignEach es X.env).length = n := by rfl) (hst : (assignEach es X.env).findIdx? (·.1) = none := by rfl) : DG X vs (.Tuple es k pos) (gT n u) := by
  obtain ⟨g, h1, h2⟩ := h
  refine ⟨_, pg_tup hc h1 hn hst, fun B δ σ H0 H v d δ' s r e Q q => ?_⟩
  cases d with
  | tuple ds =>
    have e : (if ds.length = n then u ds δ else none) = some δ' := e
    by_cases hl : ds.length = n
    · rw [if_pos hl] at e
      cases r with
      | tup hq rr => exact ⟨_, _, rfl, same_t s.ex hq, by rw [rr.length]; exact hl, h2 B δ σ H0 H _ _ _ s rr e Q q⟩
    · rw [if_neg hl] at e
      cases e
  | _ => cases e
end

/-! ### list comprehensions -/
def lcGo (tg : TGd) (c : DSt → R Bool) (f : DSt → R D) (δ : DSt) : List D → R (List D)
  | [] => .ok []
  | x :: xs => match tg x δ with
    | none => .bad
    | some δ' => (c δ').bind fun b => if b then (f δ').bind fun y => (lcGo tg c f δ xs).bind fun ys => .ok (y :: ys) else lcGo tg c f δ xs
def dLc (src : DSt → R (List D)) (tg : TGd) (c : DSt → R Bool) (f : DSt → R D) (vs : List Nat) : DSt → R (List D) := fun δ => (src δ).bind fun ds => if ds.length ≤ LIM then lcGo tg c f (fgt δ vs) ds else .bad
def DTs (G : Str → Addr) (E : XK) (X : Cx) (ifs : List Expr) (f : DSt → R Bool) : Prop := ∃ t, PTs X ifs t ∧ Ev X.K G E rB t f
def dYes : DSt → R Bool := fun _ => .ok true
theorem lcGo_len {tg c f δ} : ∀ {ds ys}, lcGo tg c f δ ds = .ok ys → ys.length ≤ ds.length
  | [], ys, h => by cases h; exact Nat.le_refl _
  | x :: xs, ys, h => by
    unfold lcGo at h
    cases ht : tg x δ with
    | none => rw [ht] at h; cases h
    | some δ' =>
      rw [ht] at h
      simp only at h
      cases hc : c δ' with
      | bad => rw [hc] at h; cases h
      | er _ => rw [hc] at h; cases h
      | ok b =>
        rw [hc] at h
        cases b with
        | true =>
          simp only [R.bind_ok, if_true] at h
          cases hf : f δ' with
          | bad => rw [hf] at h; cases h
          | er _ => rw [hf] at h; cases h
          | ok y =>
            rw [hf] at h
            cases hr : lcGo tg c f δ xs with
            | bad => rw [hr] at h; cases h
            | er _ => rw [hr] at h; cases h
            | ok r =>
              rw [hr] at h
              cases h
              have := lcGo_len hr
              simp only [List.length_cons]
              omega
        | false =>
          simp only [R.bind_ok] at h
          have := lcGo_len (ds := xs) (ys := ys) (by simpa using h)
          simp only [List.length_cons]
          omega
theorem lcGo_cons {tg c f δ x xs} : lcGo tg c f δ (x :: xs) = (match tg x δ with
    | none => .bad
    | some δ' => (c δ').bind fun b => if b then (f δ').bind fun y => (lcGo tg c f δ xs).bind fun ys => .ok (y :: ys) else lcGo tg c f δ xs) := rfl
/-- what is left of the loop, what is made so far -/
def lcRest (tg : TGd) (c : DSt → R Bool) (f : DSt → R D) (δ : DSt) (ys ds : List D) : R (List D) := (lcGo tg c f δ ds).bind fun r => .ok (ys ++ r)
theorem ev_lc {K : PySem.W.Frag} {G : Str → Addr} {E : XK} {m : Bool} {wi : TI} {g : TG} {tt : TT} {te : TE} {vs : List Nat} {src tg c f} (hi : Ev K G E (rI K m) wi src) (hg : EvG K vs g tg) (ht : Ev K G E rB tt c) (he : Ev K G E (rV K) te f) :
    Ev K G E (rN K) (tLc wi g tt te vs) (dLc src tg c f vs) := by
  refine fun B δ σ H0 H s => at_bind (t := wi σ H) (k := fun J H1 Q => ∀ D, H1 D = none → ∃ W : Nat → Nat → Hp → Prop, (∃ m, W 0 m (upd H1 D (.lst []))) ∧ ∀ i m H, W i m H →
    (J.stop i H ∧ Q (.ref D) H) ∨ (J.go i H ∧ ∃ Nx : Hp → Prop, (∀ H', Nx H' → ∃ m', m' < m ∧ W (i + 1) m' H') ∧ ∀ x H', J.yld i H x H' → g x (L2.wipe σ vs) H' fun σ2 H2 => L2.wipe σ2 vs = L2.wipe σ vs ∧ tt σ2 H2 fun b H3 =>
      if b = true then te σ2 H3 fun y H4 => ∃ acc, H4 D = some (.lst acc) ∧ acc.length < sizeLine ∧ Nx (upd H4 D (.lst (acc ++ [y]))) else Nx H3)) mN (hi B δ σ H0 H s) fun ds J H1 H1' u1 ⟨Kp, W, keep⟩ => ?_
  have s1 : Sl K B H1 H1' (L2.wipe σ vs) (Dn.fgt δ vs) := (s.up u1).wipe vs
  split
  · rename_i hlim
    generalize hδ : Dn.fgt δ vs = δw at s1
    -- the turns, for any end
    have turns : ∀ (Q : V → Hp → Prop) (Dl : Addr), H1' Dl = none → lcGo tg c f δw ds ≠ .bad →
        (∀ ys, lcGo tg c f δw ds = .ok ys → ∀ H0' H' acc, Up H1 H1' H0' H' → H0' Dl = none → H' Dl = some (.lst acc) → RpAll K H0' acc ys → Q (.ref Dl) H') →
        (∀ x, lcGo tg c f δw ds = .er x → ∀ cc dd H0' H', Up H1 H1' H0' H' → XR K G H0' H' cc dd x → E cc dd H') →
        ∃ W : Nat → Nat → Hp → Prop, (∃ m, W 0 m (upd H1' Dl (.lst []))) ∧ ∀ i m H, W i m H →
          (J.stop i H ∧ Q (.ref Dl) H) ∨ (J.go i H ∧ ∃ Nx : Hp → Prop, (∀ H', Nx H' → ∃ m', m' < m ∧ W (i + 1) m' H') ∧ ∀ x H', J.yld i H x H' → g x (L2.wipe σ vs) H' fun σ2 H2 => L2.wipe σ2 vs = L2.wipe σ vs ∧ tt σ2 H2 fun b H3 =>
            if b = true then te σ2 H3 fun y H4 => ∃ acc, H4 Dl = some (.lst acc) ∧ acc.length < sizeLine ∧ Nx (upd H4 Dl (.lst (acc ++ [y]))) else Nx H3) := by
      intro Q Dl hD nb fin ex
      refine ⟨fun i m H' => m = ds.length - i ∧ i ≤ ds.length ∧ ∃ H0' acc ys, Up H1 H1' H0' H' ∧ H0' Dl = none ∧ H' Dl = some (.lst acc) ∧ RpAll K H0' acc ys ∧ ys.length ≤ i ∧ lcRest tg c f δw ys (ds.drop i) = lcGo tg c f δw ds,
        ⟨ds.length, by simp, Nat.zero_le _, H1, [], [], .own u1.b hD, u1.b.free hD, upd_same, .nil, Nat.le_refl _, ?_⟩, ?_⟩
      · unfold lcRest
        rw [List.drop_zero]
        cases lcGo tg c f δw ds <;> rfl
      rintro i m H' ⟨rfl, hle, H0', acc, ys, up, h0, hacc, racc, hly, hres⟩
      have kp : Kp H' := keep H' (up.a.trans up.b) fun _ => up.c
      by_cases hlt : i < ds.length
      · obtain ⟨d, hd⟩ : ∃ d, ds[i]? = some d := ⟨ds[i], List.getElem?_eq_getElem hlt⟩
        have hdrop : ds.drop i = d :: ds.drop (i + 1) := by
          rw [List.drop_eq_getElem_cons hlt]
          congr 1
          rw [List.getElem?_eq_getElem hlt] at hd
          exact Option.some.inj hd
        refine .inr ⟨W.go i d H' kp hd, fun H'' => ∃ H0'' acc' ys', Up H1 H1' H0'' H'' ∧ H0'' Dl = none ∧ H'' Dl = some (.lst acc') ∧ RpAll K H0'' acc' ys' ∧ ys'.length ≤ i + 1 ∧ lcRest tg c f δw ys' (ds.drop (i + 1)) = lcGo tg c f δw ds,
          fun H'' n => ⟨ds.length - (i + 1), by omega, rfl, hlt, n⟩, fun x H3 hy => ?_⟩
        obtain ⟨H03, u3, rx⟩ := W.yld i d H0' H' x H3 kp up.a up.b hd hy
        have up3 := up.trans u3
        have nD : H' Dl ≠ none := by rw [hacc]; exact fun z => nomatch z
        have h03 : H03 Dl = none := u3.d _ nD h0
        have hacc3 : H3 Dl = some (.lst acc) := u3.c _ _ hacc
        have racc3 := RpAll.mono u3.a racc
        have s3 : Sl K B H03 H3 (L2.wipe σ vs) δw := s1.up up3
        rw [hdrop] at hres
        unfold lcRest at hres
        rw [lcGo_cons] at hres
        cases htg : tg d δw with
        | none => rw [htg] at hres; exact absurd hres.symm nb
        | some δ' =>
          rw [htg] at hres
          simp only at hres
          refine hg B δw (L2.wipe σ vs) H03 H3 x d δ' s3 rx htg _ fun σ2 s2 w2 => ⟨w2.trans (wipe_wipe fun _ h => h), ?_⟩
          have zt := ht B δ' σ2 H03 H3 s2
          cases hc : c δ' with
          | bad => rw [hc] at hres; exact absurd hres.symm nb
          | er xx =>
            rw [hc] at zt hres
            exact zt _ fun cc dd H0a Ha ua xa => ex xx (hres.symm.trans rfl) cc dd H0a Ha (up3.trans ua) xa
          | ok b =>
            rw [hc] at zt hres
            refine zt _ fun b' H04 H4 u4 eb => ?_
            cases (show b' = b from eb)
            have up4 := up3.trans u4
            have h04 : H04 Dl = none := u4.d _ (by rw [hacc3]; exact fun z => nomatch z) h03
            have hacc4 : H4 Dl = some (.lst acc) := u4.c _ _ hacc3
            cases b with
            | false =>
              show ∃ H0'' acc' ys', Up H1 H1' H0'' H4 ∧ _
              exact ⟨H04, acc, ys, up4, h04, hacc4, RpAll.mono u4.a racc3, by omega, by simpa [lcRest] using hres⟩
            | true =>
              show te σ2 H4 _
              have ze := he B δ' σ2 H04 H4 (s2.up u4)
              simp only [R.bind_ok, if_true] at hres
              cases hf : f δ' with
              | bad => rw [hf] at hres; exact absurd hres.symm nb
              | er xx =>
                rw [hf] at ze hres
                exact ze _ fun cc dd H0a Ha ua xa => ex xx (hres.symm.trans rfl) cc dd H0a Ha (up4.trans ua) xa
              | ok y =>
                rw [hf] at ze hres
                refine ze _ fun yv H05 H5 u5 ry => ?_
                have up5 := up4.trans u5
                have h05 : H05 Dl = none := u5.d _ (by rw [hacc4]; exact fun z => nomatch z) h04
                have hacc5 : H5 Dl = some (.lst acc) := u5.c _ _ hacc4
                have racc5 := RpAll.mono (K := K) u5.a (RpAll.mono u4.a racc3)
                refine ⟨acc, hacc5, lim_lt ?_, H05, acc ++ [yv], ys ++ [y], ⟨up5.a, fun q o hq => ?_, fun q o hq => ?_, fun q n1 n2 => up5.d q n1 n2⟩, h05, upd_same, racc5.append (.cons ry .nil), by simp; omega, ?_⟩
                · rw [racc.length]; unfold LIM at *; omega
                · rw [upd_ne (ne_of_none hq h05)]; exact up5.b _ _ hq
                · rw [upd_ne (ne_of_none hq hD)]; exact up5.c _ _ hq
                · simp only [R.bind_ok] at hres
                  rw [← hres]
                  unfold lcRest
                  cases lcGo tg c f δw (ds.drop (i + 1)) with
                  | bad => rfl
                  | er _ => rfl
                  | ok r => simp
      · have hi : i = ds.length := by omega
        subst hi
        refine .inl ⟨W.stop H' kp, ?_⟩
        rw [List.drop_eq_nil_of_le (Nat.le_refl _)] at hres
        have hres : R.ok (ys ++ []) = lcGo tg c f δw ds := hres
        rw [List.append_nil] at hres
        exact fin ys hres.symm H0' H' acc up h0 hacc racc
    cases hr : lcGo tg c f δw ds with
    | bad => exact True.intro
    | er x =>
      intro Q hq Dl hD
      refine turns Q Dl hD (by rw [hr]; exact fun z => nomatch z) (fun ys z => by rw [hr] at z; cases z) fun x' z cc dd H0' H' ua xa => ?_
      rw [hr] at z
      cases z
      exact hq cc dd H0' H' ua xa
    | ok ys =>
      intro Q hq Dl hD
      refine turns Q Dl hD (by rw [hr]; exact fun z => nomatch z) (fun ys' z H0' H' acc ua h0 hacc r => ?_) fun x' z => by rw [hr] at z; cases z
      rw [hr] at z
      cases z
      exact hq _ H0' H' ua ⟨Dl, acc, rfl, hD, h0, hacc, r⟩
  · exact True.intro
section
variable {G : Str → Addr} {E : XK} {X : Cx} {m : Bool}
theorem dts_nil : DTs G E X [] dYes := ⟨_, pts_nil, fun B δ σ H0 H s Q q => q true H0 H (.refl s.ex) rfl⟩
theorem dts_one {c : Expr} {f} (h : Dt G E X c f) : DTs G E X [c] f := by
  obtain ⟨t, h1, h2⟩ := h
  exact ⟨_, pts_one h1, h2⟩
end
end Dn

namespace Dn
open PySem PySem.Spec PyProof.Rows L2

/-! ### the least reading of what is computed -/
def tCan (K : PySem.W.Frag) (G : Str → Addr) (E : XK) {β α : Type} (rel : Rel β α) (f : DSt → R α) : L2.St → Hp → (β → Hp → Prop) → Prop := fun σ H Q =>
  ∃ B δ H0, Sl K B H0 H σ δ ∧ f δ ≠ .bad ∧ (∀ a, f δ = .ok a → ∀ b H0' H', Up H0 H H0' H' → rel H H0' H' b a → Q b H') ∧ (∀ x, f δ = .er x → ∀ c dd H0' H', Up H0 H H0' H' → XR K G H0' H' c dd x → E c dd H')
section
variable {K : PySem.W.Frag} {G : Str → Addr} {E : XK}
theorem ev_can {β α : Type} {rel : Rel β α} {f : DSt → R α} : Ev K G E rel (tCan K G E rel f) f := fun B δ σ H0 H s => by
  cases q : f δ with
  | bad => exact True.intro
  | er x => exact fun Q h => ⟨B, δ, H0, s, by rw [q]; exact (fun z => nomatch z), (fun a z => by rw [q] at z; cases z), fun y z => by rw [q] at z; cases z; exact h⟩
  | ok a => exact fun Q h => ⟨B, δ, H0, s, by rw [q]; exact (fun z => nomatch z), (fun b z => by rw [q] at z; cases z; exact h), fun y z => by rw [q] at z; cases z⟩
theorem can_le {β α : Type} {rel : Rel β α} {f : DSt → R α} {t} (h : Ev K G E rel t f) {σ H Q} (c : tCan K G E rel f σ H Q) : t σ H Q := by
  obtain ⟨B, δ, H0, s, nb, h1, h2⟩ := c
  have z := h B δ σ H0 H s
  cases q : f δ with
  | bad => exact absurd q nb
  | er x => rw [q] at z; exact z Q (h2 x q)
  | ok a => rw [q] at z; exact z Q (h1 a q)
end
section
variable {G : Str → Addr} {E : XK} {X : Cx} {e : Expr}
theorem De.can {f} (h : De G E X e f) : PE X e (tCan X.K G E (rV X.K) f) := by
  obtain ⟨t, h1, h2⟩ := h
  exact ⟨fun pins s σ H Q I c => h1.run pins s σ H Q I (can_le h2 c)⟩
theorem DTs.can {es f} (h : DTs G E X es f) : PTs X es (tCan X.K G E rB f) := by
  obtain ⟨t, h1, h2⟩ := h
  exact ⟨fun pins s σ H Q I c => h1.run pins s σ H Q I (can_le h2 c)⟩
def gCan (K : PySem.W.Frag) (vs : List Nat) (f : TGd) : TG := fun v σ H Q => ∃ B δ H0 d δ', Sl K B H0 H σ δ ∧ Rp K H0 v d ∧ f d δ = some δ' ∧ ∀ σ', Sl K B H0 H σ' δ' → L2.wipe σ' vs = L2.wipe σ vs → Q σ' H
theorem evg_can {K vs f} : EvG K vs (gCan K vs f) f := fun B δ σ H0 H v d δ' s r e Q q => ⟨B, δ, H0, d, δ', s, r, e, q⟩
theorem DG.can {vs f} (h : DG X vs e f) : PG X e (gCan X.K vs f) := by
  obtain ⟨g, h1, h2⟩ := h
  exact ⟨fun pins s σ H v u Q I r c => by
    obtain ⟨B, δ, H0, d, δ', s', r', e', q⟩ := c
    exact h1.run pins s σ H v u Q I r (h2 B δ σ H0 H v d δ' s' r' e' Q q)⟩
def R.noer {α : Type} : R α → R α
  | .ok a => .ok a
  | _ => .bad
@[simp] theorem R.noer_ok {α : Type} (a : α) : R.noer (.ok a) = .ok a := rfl
theorem ev_noer {K : PySem.W.Frag} {β α : Type} {rel : Rel β α} {f : DSt → R α} {t} (h : Ev K G E0 rel t f) : Ev K G E rel t fun δ => (f δ).noer := fun B δ σ H0 H s => by
  have z := h B δ σ H0 H s
  show At K G E rel H0 H (t σ H) (f δ).noer
  cases q : f δ with
  | bad => exact True.intro
  | er x => exact True.intro
  | ok a => rw [q] at z; exact z
/-- [elt for tg in iter if ..] -/
theorem dn_lc {elt tg iter : Expr} {ifs : List Expr} {scope : Scope} {own : List (Str × Nat)} {pos : Pos} {src tgf c f} {m : Bool} (hc : X.calm = true) (hN : X.N.Nodup) (hi : DI G E X m tg iter src) (ok : BlkOk X.N X.env.scope scope own)
    (hg : ∀ (s : Shared) (H : Hp) (C : Addr) (cl : List (Str × Addr)) (fp : List Addr), DG (X.blk s H scope (compEnvC scope cl C X.env) fp) (own.map (·.2)) tg tgf)
    (ht : ∀ (s : Shared) (H : Hp) (C : Addr) (cl : List (Str × Addr)) (fp : List Addr), DTs G E0 (X.blk s H scope (compEnvC scope cl C X.env) fp) ifs c)
    (he : ∀ (s : Shared) (H : Hp) (C : Addr) (cl : List (Str × Addr)) (fp : List Addr), De G E0 (X.blk s H scope (compEnvC scope cl C X.env) fp) elt f) (hs : ∀ x, foldedSetIterable iter X.env x = pure x := by intro _; rfl) :
    DN G E X (.ListComp elt [⟨tg, iter, ifs, 0⟩] scope pos) (dLc src tgf (fun δ => (c δ).noer) (fun δ => (f δ).noer) (own.map (·.2))) := by
  obtain ⟨wi, h1, h2⟩ := hi
  exact ⟨_, pe_lc hc hN h1 ok (fun s H C cl fp => (hg s H C cl fp).can) (fun s H C cl fp => (ht s H C cl fp).can) (fun s H C cl fp => (he s H C cl fp).can) hs, ev_lc h2 evg_can (ev_noer ev_can) (ev_noer ev_can)⟩
end

/-! ### statements -/
inductive Out where
  | nx (δ : DSt)
  | rt (d : D)
  | bk (δ : DSt)
  | ct (δ : DSt)
/-- a statement was run; B: what the caller knew -/
structure Us (B H0 H0' H' : Hp) : Prop where
  a : Same H0 H0'
  b : Same H0' H'
  c : Same B H'
  d : ∀ p, B p ≠ none → H0 p = none → H0' p = none
theorem Us.refl {B H0 H : Hp} (e : Same H0 H) (e2 : Same B H) : Us B H0 H0 H := ⟨.refl _, e, e2, fun _ _ h => h⟩
theorem Us.trans {B H0 H1 H1' H2 H2' : Hp} (x : Us B H0 H1 H1') (y : Us B H1 H2 H2') : Us B H0 H2 H2' := ⟨x.a.trans y.a, y.b, y.c, fun p h1 h2 => y.d p h1 (x.d p h1 h2)⟩
theorem Up.us {B H0 H H0' H' : Hp} (u : Up H0 H H0' H') (e : Same B H) : Us B H0 H0' H' := ⟨u.a, u.b, e.trans u.c, fun p h1 h2 => u.d p (Same.ne e h1) h2⟩

section
variable (K : PySem.W.Frag) (G : Str → Addr) (E : XK)
def EndOk (B H0 : Hp) (D : Ends) : Out → Prop
  | .nx δ' => ∀ σ' H0' H', Us B H0 H0' H' → Sl K B H0' H' σ' δ' → D.nx σ' H'
  | .rt d => ∀ v H0' H', Us B H0 H0' H' → Rp K H0' v d → D.rt v H'
  | .bk δ' => ∀ σ' H0' H', Us B H0 H0' H' → Sl K B H0' H' σ' δ' → D.bk σ' H'
  | .ct δ' => ∀ σ' H0' H', Us B H0 H0' H' → Sl K B H0' H' σ' δ' → D.ct σ' H'
def SAt (B H0 H : Hp) (T : Ends → Prop) (r : R Out) : Prop := match r with
  | .bad => True
  | .er x => ∀ D : Ends, (∀ c dd H0' H', Us B H0 H0' H' → XR K G H0' H' c dd x → E c dd H') → T D
  | .ok o => ∀ D : Ends, EndOk K B H0 D o → T D
def Sd (t : TS) (b : DSt → R Out) : Prop := ∀ B δ σ H0 H, Sl K B H0 H σ δ → SAt K G E B H0 H (fun D => t D σ H) (b δ)
end
section
variable {K : PySem.W.Frag} {G : Str → Addr} {E : XK}
theorem EndOk.up {B H0 H1 H1' : Hp} {D : Ends} {o : Out} (u : Us B H0 H1 H1') (h : EndOk K B H0 D o) : EndOk K B H1 D o := by
  cases o with
  | nx δ => exact fun σ' H0' H' u2 s => h σ' H0' H' (u.trans u2) s
  | rt d => exact fun v H0' H' u2 r => h v H0' H' (u.trans u2) r
  | bk δ => exact fun σ' H0' H' u2 s => h σ' H0' H' (u.trans u2) s
  | ct δ => exact fun σ' H0' H' u2 s => h σ' H0' H' (u.trans u2) s
theorem SAt.imp {B H0 H : Hp} {T T' : Ends → Prop} {r : R Out} (h : SAt K G E B H0 H T r) (w : ∀ D, T D → T' D) : SAt K G E B H0 H T' r := by
  cases r with
  | bad => exact True.intro
  | er x => exact fun D q => w D (h D q)
  | ok a => exact fun D q => w D (h D q)
/-- an expression's value, then a statement's rest -/
theorem sat_bind {β α : Type} {rel : Rel β α} {B H0 H : Hp} {t : (β → Hp → Prop) → Prop} {k : β → Hp → Ends → Prop} {r : R α} {g : α → R Out} (eB : Same B H) (h : At K G E rel H0 H t r)
    (hk : ∀ a b H0' H', Up H0 H H0' H' → rel H H0' H' b a → SAt K G E B H0' H' (k b H') (g a)) : SAt K G E B H0 H (fun D => t fun b H1 => k b H1 D) (r.bind g) := by
  cases r with
  | bad => exact True.intro
  | er x => exact fun D hq => h _ fun c dd H0' H' u x2 => hq c dd H0' H' (u.us eB) x2
  | ok a =>
    show SAt K G E B H0 H _ (g a)
    cases e : g a with
    | bad => exact True.intro
    | er x =>
      refine fun D hq => h _ fun b H0' H' u rb => ?_
      have z := hk a b H0' H' u rb
      rw [e] at z
      exact z D fun c dd H0'' H'' u2 x2 => hq c dd H0'' H'' ((u.us eB).trans u2) x2
    | ok o =>
      refine fun D hq => h _ fun b H0' H' u rb => ?_
      have z := hk a b H0' H' u rb
      rw [e] at z
      exact z D (hq.up (u.us eB))
def dSeq (f g : DSt → R Out) : DSt → R Out := fun δ => (f δ).bind fun o => match o with
  | .nx δ' => g δ'
  | o => .ok o
theorem sd_seq {t u : TS} {f g} (h : Sd K G E t f) (k : Sd K G E u g) : Sd K G E (tSeq t u) (dSeq f g) := by
  intro B δ σ H0 H s
  have z := h B δ σ H0 H s
  unfold dSeq
  cases e : f δ with
  | bad => exact True.intro
  | er x => rw [e] at z; exact fun D q => z { D with nx := u D } q
  | ok o =>
    rw [e] at z
    cases o with
    | rt d => exact fun D q => z { D with nx := u D } q
    | bk δ => exact fun D q => z { D with nx := u D } q
    | ct δ => exact fun D q => z { D with nx := u D } q
    | nx δ' =>
      show SAt K G E B H0 H _ (g δ')
      cases e2 : g δ' with
      | bad => exact True.intro
      | er x =>
        refine fun D q => z { D with nx := u D } fun σ' H0' H' u1 s1 => ?_
        have y := k B δ' σ' H0' H' s1
        rw [e2] at y
        exact y D fun c dd H0'' H'' u2 x2 => q c dd H0'' H'' (u1.trans u2) x2
      | ok o =>
        refine fun D q => z { D with nx := u D } fun σ' H0' H' u1 s1 => ?_
        have y := k B δ' σ' H0' H' s1
        rw [e2] at y
        exact y D (q.up u1)
end
section
variable (G : Str → Addr) (E : XK) (X : Cx)
def Ds (st : Stmt) (b : DSt → R Out) : Prop := ∃ t, PS X st t ∧ Sd X.K G E t b
def Dss (sts : List Stmt) (b : DSt → R Out) : Prop := ∃ t, PSs X sts t ∧ Sd X.K G E t b
end
section
variable {G : Str → Addr} {E : XK} {X : Cx} {pos p p2 : Pos} {st : Stmt} {sts ss : List Stmt} {e a b : Expr}
def dNext : DSt → R Out := fun δ => .ok (.nx δ)
def dBrk : DSt → R Out := fun δ => .ok (.bk δ)
def dCnt : DSt → R Out := fun δ => .ok (.ct δ)
theorem Sl.us {K B H0 H σ δ} (s : Sl K B H0 H σ δ) : Us B H0 H0 H := .refl s.ex s.base
theorem dss_nil : Dss G E X [] dNext := ⟨_, pss_nil, fun B δ σ H0 H s D q => q σ H0 H s.us s⟩
theorem dss_one {f} (h : Ds G E X st f) : Dss G E X [st] f := by
  obtain ⟨t, h1, h2⟩ := h
  exact ⟨_, pss_one h1, h2⟩
theorem dss_cons {f g} (h : Ds G E X st f) (k : Dss G E X sts g) : Dss G E X (st :: sts) (dSeq f g) := by
  obtain ⟨t, h1, h2⟩ := h
  obtain ⟨u, k1, k2⟩ := k
  exact ⟨_, pss_cons h1 k1, sd_seq h2 k2⟩
theorem ds_pass : Ds G E X (.Pass pos) dNext := ⟨_, ps_pass, fun B δ σ H0 H s D q => q σ H0 H s.us s⟩
theorem ds_break : Ds G E X (.Break pos) dBrk := ⟨_, ps_break, fun B δ σ H0 H s D q => q σ H0 H s.us s⟩
theorem ds_continue : Ds G E X (.Continue pos) dCnt := ⟨_, ps_continue, fun B δ σ H0 H s D q => q σ H0 H s.us s⟩
/-- return e -/
def dRet (f : DSt → R D) : DSt → R Out := fun δ => (f δ).bind fun d => .ok (.rt d)
theorem ds_ret {f} (h : De G E X e f) : Ds G E X (.Return (some e) pos) (dRet f) := by
  obtain ⟨t, h1, h2⟩ := h
  exact ⟨_, ps_ret h1, fun B δ σ H0 H s => sat_bind (t := t σ H) (k := fun v H1 D => D.rt v H1) s.base (h2 B δ σ H0 H s) fun d v H1 H1' u r D q => q v H1 H1' (.refl u.b (s.base.trans u.c)) r⟩
/-- name = e -/
def dSet (i : Nat) (f : DSt → R D) : DSt → R Out := fun δ => (f δ).bind fun d => .ok (.nx (δ.set i (.dat d)))
theorem ds_set {i : Nat} {x : Str} {f} (hN : X.N.Nodup) (hi : X.N[i]? = some x) (hx : Loc X.env.scope x) (h : De G E X e f) (hs : swapsWith e (some (.Name x p)) pos.line X.env = pure false := by rfl) (hf : X.fn x = true ∨ X.env.scope.names.lookup x = some .local := by first | exact .inl rfl | exact .inr rfl | assumption) :
    Ds G E X (.Assign [.Name x p] e pos) (dSet i f) := by
  obtain ⟨t, h1, h2⟩ := h
  exact ⟨_, ps_set hN hi hx h1 hs hf, fun B δ σ H0 H s => sat_bind (t := t σ H) (k := fun v H1 D => D.nx (σ.set i (some v)) H1) s.base (h2 B δ σ H0 H s) fun d v H1 H1' u r D q => q _ H1 H1' (.refl u.b (s.base.trans u.c)) ((s.up u).set r)⟩
/-- name = a new list -/
def dSetN (i : Nat) (f : DSt → R (List D)) : DSt → R Out := fun δ => (f δ).bind fun d => .ok (.nx (δ.set i (.own d)))
theorem sl_setN {K : PySem.W.Frag} {B H0 H H1 H1' : Hp} {σ : L2.St} {δ : DSt} {i : Nat} {v : V} {ds : List D} (s : Sl K B H0 H σ δ) (u : Up H0 H H1 H1') (r : rN K H H1 H1' v ds) : Sl K B H1 H1' (σ.set i (some v)) (δ.set i (.own ds)) := by
  obtain ⟨q, vs, rfl, hs, h0, hp, rr⟩ := r
  refine (s.up u).setN h0 ?_ hp rr fun j es h z => ?_
  · exact Same.free s.base hs
  · obtain ⟨q', ws, e1, h1, h2, h3, _⟩ := s.own j es h
    rw [z] at e1
    cases e1
    rw [hs] at h3
    cases h3
theorem ds_setN {i : Nat} {x : Str} {f} (hN : X.N.Nodup) (hi : X.N[i]? = some x) (hx : Loc X.env.scope x) (h : DN G E X e f) (hs : swapsWith e (some (.Name x p)) pos.line X.env = pure false := by rfl) (hf : X.fn x = true ∨ X.env.scope.names.lookup x = some .local := by first | exact .inl rfl | exact .inr rfl | assumption) :
    Ds G E X (.Assign [.Name x p] e pos) (dSetN i f) := by
  obtain ⟨t, h1, h2⟩ := h
  exact ⟨_, ps_set hN hi hx h1 hs hf, fun B δ σ H0 H s => sat_bind (t := t σ H) (k := fun v H1 D => D.nx (σ.set i (some v)) H1) s.base (h2 B δ σ H0 H s) fun d v H1 H1' u r D q => q _ H1 H1' (.refl u.b (s.base.trans u.c)) (sl_setN s u r)⟩
/-- (a, b, ..) = e, any target -/
def dAsg (f : DSt → R D) (g : TGd) : DSt → R Out := fun δ => (f δ).bind fun d => match g d δ with
  | some δ' => .ok (.nx δ')
  | none => .bad
theorem ds_asg {tg : Expr} {f g vs} (h : De G E X e f) (hg : DG X vs tg g) (hs : swapsWithSole [tg] e pos.line X.env = pure false := by rfl) (hw : swappedStores [tg] e X.env = pure none := by rfl)
    (h1 : (assignEach [tg] X.env).map (·.2) = [assign tg X.env] := by rfl) : Ds G E X (.Assign [tg] e pos) (dAsg f g) := by
  obtain ⟨t, k1, k2⟩ := h
  obtain ⟨gg, g1, g2⟩ := hg
  refine ⟨_, ps_asg k1 g1 hs hw h1, fun B δ σ H0 H s => sat_bind (t := t σ H) (k := fun v H1 D => gg v σ H1 D.nx) s.base (k2 B δ σ H0 H s) fun d v H1 H1' u r => ?_⟩
  cases q : g d δ with
  | none => exact True.intro
  | some δ' => exact fun D q' => g2 B δ σ H1 H1' v d δ' (s.up u) r q _ fun σ' s' _ => q' σ' H1 H1' (.refl u.b (s.base.trans u.c)) s'
/-- name = [.. for ..], one line -/
theorem ds_setLc {i : Nat} {y : Str} {py : Pos} {elt tg iter : Expr} {ifs : List Expr} {scope : Scope} {own : List (Str × Nat)} {spos : Pos} {src tgf c f} {m : Bool} (hc : X.calm = true) (hN : X.N.Nodup) (hy : X.N[i]? = some y) (hyl : X.env.scope.names.lookup y = some .local)
    (hsw : swapsWith (.ListComp elt [⟨tg, iter, ifs, 0⟩] scope pos) (some (.Name y py)) spos.line X.env = pure true) (hi : DI G E X m tg iter src) (ok : BlkOk X.N X.env.scope scope own)
    (hg : ∀ (s : Shared) (H : Hp) (C : Addr) (cl : List (Str × Addr)) (fp : List Addr), DG (X.blk s H scope (compEnvC scope cl C X.env) fp) (own.map (·.2)) tg tgf)
    (ht : ∀ (s : Shared) (H : Hp) (C : Addr) (cl : List (Str × Addr)) (fp : List Addr), DTs G E0 (X.blk s H scope (compEnvC scope cl C X.env) fp) ifs c)
    (he : ∀ (s : Shared) (H : Hp) (C : Addr) (cl : List (Str × Addr)) (fp : List Addr), De G E0 (X.blk s H scope (compEnvC scope cl C X.env) fp) elt f) (hs : ∀ x, foldedSetIterable iter X.env x = pure x := by intro _; rfl) :
    Ds G E X (.Assign [.Name y py] (.ListComp elt [⟨tg, iter, ifs, 0⟩] scope pos) spos) (dSetN i (dLc src tgf (fun δ => (c δ).noer) (fun δ => (f δ).noer) (own.map (·.2)))) := by
  obtain ⟨wi, h1, h2⟩ := hi
  have z := ev_lc (E := E) h2 (evg_can (K := X.K) (vs := own.map (·.2)) (f := tgf)) (ev_noer (E := E) (ev_can (K := X.K) (G := G) (rel := rB) (f := c))) (ev_noer (E := E) (ev_can (K := X.K) (G := G) (rel := rV X.K) (f := f)))
  exact ⟨_, ps_setLc hc hN hy hyl hsw h1 ok (fun s H C cl fp => (hg s H C cl fp).can) (fun s H C cl fp => (ht s H C cl fp).can) (fun s H C cl fp => (he s H C cl fp).can) hs,
    fun B δ σ H0 H s => sat_bind (t := tLc wi _ _ _ _ σ H) (k := fun v H1 D => D.nx (σ.set i (some v)) H1) s.base (z B δ σ H0 H s) fun d v H1 H1' u r D q => q _ H1 H1' (.refl u.b (s.base.trans u.c)) (sl_setN s u r)⟩
/-- an owned list is data from here on -/
theorem Sl.freeze {K : PySem.W.Frag} {B H0 H : Hp} {σ : L2.St} {δ : DSt} {i : Nat} {ds : List D} (s : Sl K B H0 H σ δ) (h : δ[i]? = some (SV.own ds)) : ∃ H0', Us B H0 H0' H ∧ Sl K B H0' H σ (δ.set i (.dat (.list ds))) := by
  obtain ⟨q, vs, e1, h0, hb, hp, r⟩ := s.own i ds h
  have e0 : Same H0 (upd H0 q (.lst vs)) := Same.upd h0
  have ex : Same (upd H0 q (.lst vs)) H := fun c o w => by
    by_cases hc : c = q
    · subst hc; rw [upd_same] at w; cases w; exact hp
    · rw [upd_ne hc] at w; exact s.ex _ _ w
  have key : ∀ (j : Nat) (w : SV), (δ.set i (.dat (.list ds)))[j]? = some w → (j = i ∧ w = .dat (.list ds)) ∨ (j ≠ i ∧ δ[j]? = some w) := fun j w h' => by
    by_cases hj : j = i
    · subst hj
      rw [List.getElem?_set_self (List.getElem?_eq_some_iff.mp h).1] at h'
      exact .inl ⟨rfl, (Option.some.inj h').symm⟩
    · rw [List.getElem?_set_ne (Ne.symm hj)] at h'
      exact .inr ⟨hj, h'⟩
  refine ⟨upd H0 q (.lst vs), ⟨e0, ex, s.base, fun c n1 n2 => ?_⟩, s.base, ex, by simp [s.len], fun j d w => ?_, fun j es w => ?_, fun j k d1 d2 c hjk w1 w2 w3 => ?_⟩
  · have hc : c ≠ q := fun z => n1 (z ▸ hb)
    rw [upd_ne hc]; exact n2
  · rcases key j _ w with ⟨rfl, e2⟩ | ⟨hj, w⟩
    · cases e2
      exact ⟨_, e1, .lst upd_same (r.mono e0)⟩
    · obtain ⟨v, a, b⟩ := s.dat j d w
      exact ⟨v, a, b.mono e0⟩
  · rcases key j _ w with ⟨rfl, e2⟩ | ⟨hj, w⟩
    · cases e2
    · obtain ⟨c, ws, a1, a2, a3, a4, a5⟩ := s.own j es w
      refine ⟨c, ws, a1, ?_, a3, a4, a5.mono e0⟩
      have hc : c ≠ q := fun z => by
        subst z
        exact s.sep j i es ds c hj w h a1 e1
      rw [upd_ne hc]; exact a2
  · rcases key j _ w1 with ⟨rfl, e2⟩ | ⟨hj, w1⟩
    · cases e2
    · rcases key k _ w2 with ⟨rfl, e2⟩ | ⟨hk, w2⟩
      · cases e2
      · exact s.sep j k d1 d2 c hjk w1 w2 w3
def frz1 (i : Nat) (δ : DSt) : DSt := match δ[i]? with
  | some (SV.own ds) => δ.set i (.dat (.list ds))
  | _ => δ
theorem Sl.frz1 {K : PySem.W.Frag} {B H0 H : Hp} {σ : L2.St} {δ : DSt} (s : Sl K B H0 H σ δ) (i : Nat) : ∃ H0', Us B H0 H0' H ∧ Sl K B H0' H σ (Dn.frz1 i δ) := by
  unfold Dn.frz1
  split
  · rename_i ds h
    exact s.freeze h
  · exact ⟨H0, s.us, s⟩
/-- ahead of a statement -/
theorem dss_frz {f} (i : Nat) (h : Dss G E X sts f) : Dss G E X sts fun δ => f (frz1 i δ) := by
  obtain ⟨t, h1, h2⟩ := h
  refine ⟨t, h1, fun B δ σ H0 H s => ?_⟩
  obtain ⟨H0', u, s'⟩ := s.frz1 i
  have z := h2 B _ σ H0' H s'
  show SAt X.K G E B H0 H _ (f (frz1 i δ))
  cases q : f (frz1 i δ) with
  | bad => exact True.intro
  | er x => rw [q] at z; exact fun D k => z D fun c dd Ha Hb ua xa => k c dd Ha Hb (u.trans ua) xa
  | ok o => rw [q] at z; exact fun D k => z D (k.up u)
/-- if -/
theorem ds_if {c f g} (hc : Dt G E X e c) (h1 : Dss G E X sts f) (h2 : Dss G E X ss g) : Ds G E X (.If e sts ss pos) (dIf c f g) := by
  obtain ⟨t, a1, a2⟩ := hc
  obtain ⟨u, b1, b2⟩ := h1
  obtain ⟨w, c1, c2⟩ := h2
  refine ⟨_, ps_if a1 b1 c1, fun B δ σ H0 H s => sat_bind (t := t σ H) (k := fun b H1 D => if b = true then u D σ H1 else w D σ H1) s.base (a2 B δ σ H0 H s) fun x y H1 H1' up r => ?_⟩
  cases (show y = x from r)
  cases x with
  | true => exact b2 B δ σ H1 H1' (s.up up)
  | false => exact c2 B δ σ H1 H1' (s.up up)
/-- xs.append(e) of an owned list -/
def dApp (i : Nat) (f : DSt → R D) : DSt → R Out := fun δ => match δ[i]? with
  | some (SV.own ds) => (f δ).bind fun d => if ds.length < LIM then .ok (.nx (δ.set i (.own (ds ++ [d])))) else .bad
  | _ => .bad
theorem Sl.mut {K : PySem.W.Frag} {B H0 H : Hp} {σ : L2.St} {δ : DSt} {i : Nat} {ds es : List D} {q : Addr} {ws : List V} (s : Sl K B H0 H σ δ) (h : δ[i]? = some (SV.own ds)) (e1 : σ[i]? = some (some (V.ref q))) (h0 : H0 q = none) (hb : B q = none) (r : RpAll K H0 ws es) :
    Us B H0 H0 (upd H q (.lst ws)) ∧ Sl K B H0 (upd H q (.lst ws)) σ (δ.set i (.own es)) := by
  have ex : Same H0 (upd H q (.lst ws)) := fun c o w => by rw [upd_ne (ne_of_none w h0)]; exact s.ex _ _ w
  have eb : Same B (upd H q (.lst ws)) := fun c o w => by rw [upd_ne (ne_of_none w hb)]; exact s.base _ _ w
  have key : ∀ (j : Nat) (w : SV), (δ.set i (.own es))[j]? = some w → (j = i ∧ w = .own es) ∨ (j ≠ i ∧ δ[j]? = some w) := fun j w h' => by
    by_cases hj : j = i
    · subst hj
      rw [List.getElem?_set_self (List.getElem?_eq_some_iff.mp h).1] at h'
      exact .inl ⟨rfl, (Option.some.inj h').symm⟩
    · rw [List.getElem?_set_ne (Ne.symm hj)] at h'
      exact .inr ⟨hj, h'⟩
  refine ⟨⟨.refl _, ex, eb, fun _ _ z => z⟩, eb, ex, by simp [s.len], fun j d w => ?_, fun j d1 w => ?_, fun j k d1 d2 c hjk w1 w2 w3 => ?_⟩
  · rcases key j _ w with ⟨rfl, e2⟩ | ⟨hj, w⟩
    · cases e2
    · exact s.dat j d w
  · rcases key j _ w with ⟨rfl, e2⟩ | ⟨hj, w⟩
    · cases e2
      exact ⟨q, ws, e1, h0, hb, upd_same, r⟩
    · obtain ⟨c, us, a1, a2, a3, a4, a5⟩ := s.own j d1 w
      have hc : c ≠ q := fun z => by
        subst z
        exact s.sep j i d1 ds c hj w h a1 e1
      exact ⟨c, us, a1, a2, a3, by rw [upd_ne hc]; exact a4, a5⟩
  · rcases key j _ w1 with ⟨rfl, e2⟩ | ⟨hj, w1⟩
    · rcases key k _ w2 with ⟨rfl, e2⟩ | ⟨hk, w2⟩
      · exact absurd rfl hjk
      · exact s.sep j k ds d2 c hjk h w2 w3
    · have w1' := w1
      rcases key k _ w2 with ⟨rfl, e2⟩ | ⟨hk, w2⟩
      · exact s.sep j k d1 ds c hjk (by first | exact w1' | exact ((key j _ w1').elim (fun z => absurd z.1 hj) fun z => z.2)) h w3
      · exact s.sep j k d1 d2 c hjk w1 w2 w3
theorem ds_app {i : Nat} {x : Str} {f} {pa pc : Pos} (hN : X.N[i]? = some x) (hv : Vis X.env.scope x) (h : De G E X e f) (hd : (x == ("__debug__" : Str)) = false := by decide) (hcd : (x == ("__classdict__" : Str)) = false := by decide)
    (he : starEach [e] X.env = (false, eval e X.env) :: starEach [] X.env := by rfl)
    (hbase : attributeBase (.Name x p) "append" X.env (eval (.Name x p) X.env) = eval (.Name x p) X.env := by rfl)
    (hfew : ((backTo pc (starEach [e] X.env)).all (fun x => !x.1) && (backToKw pc (keywordEach [] X.env)).all (fun x => x.1.isSome)
      && decide ([e].length + ([] : List Keyword).length + (if ([] : List Keyword).isEmpty then 0 else 1) < 30)) = true := by rfl)
    (hline : (pa.endLine == pc.line) = true := by rfl) (hplain : (backTo pc (starEach [] X.env)).any (·.1) = false := by rfl)
    (hs : swapsWith (.Call (.Attribute (.Name x p) "append" pa) [e] [] pc) none pos.line X.env = pure false := by rfl) :
    Ds G E X (.Expr (.Call (.Attribute (.Name x p) "append" pa) [e] [] pc) pos) (dApp i f) := by
  obtain ⟨t, h1, h2⟩ := h
  refine ⟨_, ps_expr (pe_bm PySem.F.plainAttrs_list PySem.F.slot_list_append PySem.F.type_list_append mt_append (pe_var hN hv hd hcd) (pa_cons h1 pa_nil he) hbase hfew hline he hplain) hs, fun B δ σ H0 H s => ?_⟩
  unfold dApp
  split
  · rename_i ds hi
    obtain ⟨q, vs, e1, h0, hb, hp, r⟩ := s.own i ds hi
    refine SAt.imp (sat_bind (t := t σ H) (k := fun v H1 D => ∃ l xs y, V.ref q = .ref l ∧ [v] = [y] ∧ H1 l = some (.lst xs) ∧ xs.length < sizeLine ∧ D.nx σ (upd H1 l (.lst (xs ++ [y])))) s.base (h2 B δ σ H0 H s) fun d v H1 H1' u rv => ?_) fun D w => ⟨_, e1, .inl ⟨rfl, _, SqL.of hp⟩, w⟩
    split
    · rename_i hl
      refine fun D k => ⟨q, vs, v, rfl, rfl, u.c _ _ hp, lim_lt (by rw [r.length]; exact hl), ?_⟩
      have q0 : H1 q = none := u.d q (by rw [hp]; exact fun z => nomatch z) h0
      obtain ⟨u2, s2⟩ := (s.up u).mut hi e1 q0 hb ((r.mono u.a).append (.cons rv .nil))
      exact k σ H1 _ u2 s2
    · exact True.intro
  · exact True.intro
end
end Dn

namespace Dn
open PySem PySem.Spec PyProof.Rows L2

/-! ### loops -/
def forGo (tg : TGd) (b : DSt → R Out) (fs : List Nat) : List D → DSt → R Out
  | [], δ => .ok (.nx (fgt δ fs))
  | x :: xs, δ => match tg x (fgt δ fs) with
    | none => .bad
    | some δ' => (b δ').bind fun o => match o with
      | .nx δ2 => forGo tg b fs xs δ2
      | .ct δ2 => forGo tg b fs xs δ2
      | .bk δ2 => .ok (.nx (fgt δ2 fs))
      | .rt d => .ok (.rt d)
theorem forGo_cons {tg b fs x xs δ} : forGo tg b fs (x :: xs) δ = (match tg x (fgt δ fs) with
    | none => .bad
    | some δ' => (b δ').bind fun o => match o with
      | .nx δ2 => forGo tg b fs xs δ2
      | .ct δ2 => forGo tg b fs xs δ2
      | .bk δ2 => .ok (.nx (fgt δ2 fs))
      | .rt d => .ok (.rt d)) := rfl
def dFor (src : DSt → R (List D)) (tg : TGd) (b : DSt → R Out) (fs : List Nat) : DSt → R Out := fun δ => (src δ).bind fun ds => forGo tg b fs ds δ
section
variable {K : PySem.W.Frag} {G : Str → Addr} {E : XK}
theorem sd_for {wi : TI} {g : TG} {tb : TS} {src tg b} {vs fs : List Nat} (hi : Ev K G E (rI K true) wi src) (hg : EvG K vs g tg) (hb : Sd K G E tb b) : Sd K G E (tFor wi g tb) (dFor src tg b fs) := by
  refine fun B δ σ H0 H s => sat_bind (t := wi σ H) (k := fun J H1 D => ∃ W : Nat → Nat → L2.St → Hp → Prop, (∃ m, W 0 m σ H1) ∧ ∀ i m σ H, W i m σ H →
    (J.stop i H ∧ D.nx σ H) ∨ (J.go i H ∧ ∃ N : L2.St → Hp → Prop, (∀ σ' H', N σ' H' → ∃ m', m' < m ∧ W (i + 1) m' σ' H') ∧ ∀ x H', J.yld i H x H' → g x σ H' fun σ2 H2 => tb { D with nx := N, ct := N, bk := D.nx } σ2 H2)) s.base (hi B δ σ H0 H s) fun ds J H1 H1' u1 ⟨Kp, W, keep⟩ => ?_
  have s1 := s.up u1
  have turns : ∀ D : Ends, forGo tg b fs ds δ ≠ .bad → (∀ o, forGo tg b fs ds δ = .ok o → EndOk K B H1 D o) → (∀ x, forGo tg b fs ds δ = .er x → ∀ cc dd H0' H', Us B H1 H0' H' → XR K G H0' H' cc dd x → E cc dd H') →
      ∃ W : Nat → Nat → L2.St → Hp → Prop, (∃ m, W 0 m σ H1') ∧ ∀ i m σ H, W i m σ H →
        (J.stop i H ∧ D.nx σ H) ∨ (J.go i H ∧ ∃ N : L2.St → Hp → Prop, (∀ σ' H', N σ' H' → ∃ m', m' < m ∧ W (i + 1) m' σ' H') ∧ ∀ x H', J.yld i H x H' → g x σ H' fun σ2 H2 => tb { D with nx := N, ct := N, bk := D.nx } σ2 H2) := by
    intro D nb fin ex
    refine ⟨fun i m σ' H' => m = ds.length - i ∧ i ≤ ds.length ∧ ∃ H0' δ', Us B H1 H0' H' ∧ Sl K B H0' H' σ' δ' ∧ forGo tg b fs (ds.drop i) δ' = forGo tg b fs ds δ, ⟨ds.length, by simp, Nat.zero_le _, H1, δ, s1.us, s1, by rw [List.drop_zero]⟩, ?_⟩
    rintro i m σ' H' ⟨rfl, hle, H0', δ', up, s', hres⟩
    have kp : Kp H' := keep H' (up.a.trans up.b) fun z => nomatch z
    by_cases hlt : i < ds.length
    · obtain ⟨d, hd⟩ : ∃ d, ds[i]? = some d := ⟨ds[i], List.getElem?_eq_getElem hlt⟩
      have hdrop : ds.drop i = d :: ds.drop (i + 1) := by
        rw [List.drop_eq_getElem_cons hlt]
        congr 1
        rw [List.getElem?_eq_getElem hlt] at hd
        exact Option.some.inj hd
      refine .inr ⟨W.go i d H' kp hd, fun σ'' H'' => ∃ H0'' δ'', Us B H1 H0'' H'' ∧ Sl K B H0'' H'' σ'' δ'' ∧ forGo tg b fs (ds.drop (i + 1)) δ'' = forGo tg b fs ds δ, fun σ'' H'' n => ⟨ds.length - (i + 1), by omega, rfl, hlt, n⟩, fun x H3 hy => ?_⟩
      obtain ⟨H03, u3, rx⟩ := W.yld i d H0' H' x H3 kp up.a up.b hd hy
      have up3 := up.trans (u3.us s'.base)
      have s3 := (s'.up u3).fgt fs
      rw [hdrop, forGo_cons] at hres
      cases htg : tg d (fgt δ' fs) with
      | none => rw [htg] at hres; exact absurd hres.symm nb
      | some δ2 =>
        rw [htg] at hres
        simp only at hres
        refine hg B _ σ' H03 H3 x d δ2 s3 rx htg _ fun σ2 s2 w2 => ?_
        have z := hb B δ2 σ2 H03 H3 s2
        cases hbo : b δ2 with
        | bad => rw [hbo] at hres; exact absurd hres.symm nb
        | er xx =>
          rw [hbo] at z hres
          exact z _ fun cc dd Ha Hb ua xa => ex xx (hres.symm.trans rfl) cc dd Ha Hb (up3.trans ua) xa
        | ok o =>
          rw [hbo] at z hres
          refine z _ ?_
          cases o with
          | nx δ3 => exact fun σ4 Ha Hb ua sa => ⟨Ha, δ3, up3.trans ua, sa, hres⟩
          | ct δ3 => exact fun σ4 Ha Hb ua sa => ⟨Ha, δ3, up3.trans ua, sa, hres⟩
          | bk δ3 =>
            have f := fin _ (hres.symm.trans rfl)
            exact fun σ4 Ha Hb ua sa => f σ4 Ha Hb (up3.trans ua) (sa.fgt fs)
          | rt d =>
            have f := fin _ (hres.symm.trans rfl)
            exact fun v Ha Hb ua ra => f v Ha Hb (up3.trans ua) ra
    · have hi : i = ds.length := by omega
      subst hi
      rw [List.drop_eq_nil_of_le (Nat.le_refl _)] at hres
      have f := fin _ (hres.symm.trans rfl)
      exact .inl ⟨W.stop H' kp, f σ' H0' H' up (s'.fgt fs)⟩
  cases hr : forGo tg b fs ds δ with
  | bad => exact True.intro
  | er x => exact fun D q => turns D (by rw [hr]; exact fun z => nomatch z) (fun o z => by rw [hr] at z; cases z) fun y z => by rw [hr] at z; cases z; exact q
  | ok o => exact fun D q => turns D (by rw [hr]; exact fun z => nomatch z) (fun o z => by rw [hr] at z; cases z; exact q) fun y z => by rw [hr] at z; cases z
def whGo (c : DSt → R Bool) (b : DSt → R Out) (fs : List Nat) : Nat → DSt → R Out
  | 0, _ => .bad
  | n + 1, δ => (c (fgt δ fs)).bind fun t => if t then (b (fgt δ fs)).bind fun o => match o with
      | .nx δ2 => whGo c b fs n δ2
      | .ct δ2 => whGo c b fs n δ2
      | .bk δ2 => .ok (.nx (fgt δ2 fs))
      | .rt d => .ok (.rt d)
    else .ok (.nx (fgt δ fs))
theorem whGo_succ {c b fs n δ} : whGo c b fs (n + 1) δ = (c (fgt δ fs)).bind fun t => if t then (b (fgt δ fs)).bind fun o => match o with
      | .nx δ2 => whGo c b fs n δ2
      | .ct δ2 => whGo c b fs n δ2
      | .bk δ2 => .ok (.nx (fgt δ2 fs))
      | .rt d => .ok (.rt d)
    else .ok (.nx (fgt δ fs)) := rfl
theorem sd_while {tc : TT} {tb : TS} {c b} {fs : List Nat} (n : Nat) (hc : Ev K G E rB tc c) (hb : Sd K G E tb b) : Sd K G E (tWhile tc tb) (whGo c b fs n) := by
  intro B δ σ H0 H s
  have turns : ∀ D : Ends, whGo c b fs n δ ≠ .bad → (∀ o, whGo c b fs n δ = .ok o → EndOk K B H0 D o) → (∀ x, whGo c b fs n δ = .er x → ∀ cc dd H0' H', Us B H0 H0' H' → XR K G H0' H' cc dd x → E cc dd H') → tWhile tc tb D σ H := by
    intro D nb fin ex
    refine ⟨fun m σ' H' => ∃ H0' δ', Us B H0 H0' H' ∧ Sl K B H0' H' σ' δ' ∧ whGo c b fs m δ' = whGo c b fs n δ, ⟨n, H0, δ, s.us, s, rfl⟩, ?_⟩
    rintro m σ' H' ⟨H0', δ', up, s', hres⟩
    cases m with
    | zero => exact absurd hres.symm nb
    | succ m =>
      rw [whGo_succ] at hres
      have s1 := s'.fgt fs
      have z := hc B _ σ' H0' H' s1
      cases hcc : c (fgt δ' fs) with
      | bad => rw [hcc] at hres; exact absurd hres.symm nb
      | er xx =>
        rw [hcc] at z hres
        exact z _ fun cc dd Ha Hb ua xa => ex xx (hres.symm.trans rfl) cc dd Ha Hb (up.trans (ua.us s'.base)) xa
      | ok t =>
        rw [hcc] at z hres
        refine z _ fun t' Ha Hb ua e => ?_
        cases (show t' = t from e)
        have up2 := up.trans (ua.us s'.base)
        have s2 := s1.up ua
        cases t with
        | false =>
          have f := fin _ (hres.symm.trans rfl)
          exact f σ' Ha Hb up2 s2
        | true =>
          refine ⟨fun σ'' H'' => ∃ H0'' δ'', Us B H0 H0'' H'' ∧ Sl K B H0'' H'' σ'' δ'' ∧ whGo c b fs m δ'' = whGo c b fs n δ, fun σ'' H'' w => ⟨m, Nat.lt_succ_self m, w⟩, ?_⟩
          simp only [R.bind_ok, if_true] at hres
          have y := hb B _ σ' Ha Hb s2
          cases hbo : b (fgt δ' fs) with
          | bad => rw [hbo] at hres; exact absurd hres.symm nb
          | er xx =>
            rw [hbo] at y hres
            exact y _ fun cc dd Hc Hd uc xc => ex xx (hres.symm.trans rfl) cc dd Hc Hd (up2.trans uc) xc
          | ok o =>
            rw [hbo] at y hres
            refine y _ ?_
            cases o with
            | nx δ3 => exact fun σ4 Hc Hd uc sc => ⟨Hc, δ3, up2.trans uc, sc, hres⟩
            | ct δ3 => exact fun σ4 Hc Hd uc sc => ⟨Hc, δ3, up2.trans uc, sc, hres⟩
            | bk δ3 =>
              have f := fin _ (hres.symm.trans rfl)
              exact fun σ4 Hc Hd uc sc => f σ4 Hc Hd (up2.trans uc) (sc.fgt fs)
            | rt d =>
              have f := fin _ (hres.symm.trans rfl)
              exact fun v Hc Hd uc rc => f v Hc Hd (up2.trans uc) rc
  cases hr : whGo c b fs n δ with
  | bad => exact True.intro
  | er x => exact fun D q => turns D (by rw [hr]; exact fun z => nomatch z) (fun o z => by rw [hr] at z; cases z) fun y z => by rw [hr] at z; cases z; exact q
  | ok o => exact fun D q => turns D (by rw [hr]; exact fun z => nomatch z) (fun o z => by rw [hr] at z; cases z; exact q) fun y z => by rw [hr] at z; cases z
end
section
variable {G : Str → Addr} {E : XK} {X : Cx} {pos p p2 : Pos} {st : Stmt} {sts ss : List Stmt} {e a b : Expr}
theorem ds_for {tg iter : Expr} {body : List Stmt} {src tgf f} {vs : List Nat} (fs : List Nat) (hp : PassesOwn (model X.prog X.w) X.A X.env X.xe) (hc : X.calm = true) (hi : DI G E X true tg iter src) (hg : DG X vs tg tgf) (hb : Dss G E X body f)
    (hs : ∀ x, foldedSetIterable iter X.env x = pure x := by intro _; rfl) : Ds G E X (.For tg iter body [] pos) (dFor src tgf f fs) := by
  obtain ⟨w, h1, h2⟩ := hi
  obtain ⟨g, g1, g2⟩ := hg
  obtain ⟨t, b1, b2⟩ := hb
  exact ⟨_, ps_for hp hc h1 g1 b1 hs, sd_for h2 g2 b2⟩
theorem ds_while {c : Expr} {body : List Stmt} {h f} (n : Nat) (fs : List Nat) (hp : PassesOwn (model X.prog X.w) X.A X.env X.xe) (hc : Dt G E X c h) (hb : Dss G E X body f) : Ds G E X (.While c body [] pos) (whGo h f fs n) := by
  obtain ⟨t, h1, h2⟩ := hc
  obtain ⟨u, b1, b2⟩ := hb
  exact ⟨_, ps_while hp h1 b1, sd_while n h2 b2⟩

/-! ### an owned list lent as data, where a plain value comes back -/
def plain : D → Bool
  | .none => true
  | .bool _ => true
  | .int _ => true
  | .str _ => true
  | _ => false
theorem plain_rp {K : PySem.W.Frag} {H H' : Hp} {v : V} {d : D} (h : plain d = true) (r : Rp K H v d) : Rp K H' v d := by
  cases r with
  | non => exact .non
  | bl b => exact .bl b
  | int i => exact .int i
  | str s => exact .str s
  | lst _ _ => cases h
  | tup _ _ => cases h
  | scr _ _ => cases h
def frzL : List Nat → DSt → DSt
  | [], δ => δ
  | i :: is, δ => frz1 i (frzL is δ)
theorem Sl.frzU {K : PySem.W.Frag} {B H0 H : Hp} {σ : L2.St} {δ : DSt} (s : Sl K B H0 H σ δ) : ∀ is : List Nat, ∃ H0', Us B H0 H0' H ∧ Sl K B H0' H σ (frzL is δ)
  | [] => ⟨H0, s.us, s⟩
  | i :: is => by
    obtain ⟨H1, u1, s1⟩ := Sl.frzU s is
    obtain ⟨H2, u2, s2⟩ := s1.frz1 i
    exact ⟨H2, u1.trans u2, s2⟩
def dLend (is : List Nat) (f : DSt → R D) : DSt → R D := fun δ => match f (frzL is δ) with
  | .ok d => if plain d then .ok d else .bad
  | _ => .bad
theorem de_lend {f} (is : List Nat) (h : De G E X e f) : De G E X e (dLend is f) := by
  obtain ⟨t, h1, h2⟩ := h
  refine ⟨t, h1, fun B δ σ H0 H s => ?_⟩
  obtain ⟨H1, u1, s1⟩ := s.frzU is
  have z := h2 B _ σ H1 H s1
  unfold dLend
  cases q : f (frzL is δ) with
  | bad => exact True.intro
  | er x => exact True.intro
  | ok d =>
    rw [q] at z
    show At X.K G E (rV X.K) H0 H (t σ H) (if plain d then .ok d else .bad)
    cases hp : plain d with
    | false => exact True.intro
    | true =>
      refine fun Q k => z Q fun v Ha Hb ua ra => k v H0 Hb ⟨.refl _, s.ex.trans ua.c, ua.c, fun _ _ w => w⟩ (plain_rp hp ra)
def dLendT (is : List Nat) (f : DSt → R Bool) : DSt → R Bool := fun δ => match f (frzL is δ) with
  | .ok d => .ok d
  | _ => .bad
theorem dt_lend {f} (is : List Nat) (h : Dt G E X e f) : Dt G E X e (dLendT is f) := by
  obtain ⟨t, h1, h2⟩ := h
  refine ⟨t, h1, fun B δ σ H0 H s => ?_⟩
  obtain ⟨H1, u1, s1⟩ := s.frzU is
  have z := h2 B _ σ H1 H s1
  unfold dLendT
  cases q : f (frzL is δ) with
  | bad => exact True.intro
  | er x => exact True.intro
  | ok d =>
    rw [q] at z
    exact fun Q k => z Q fun v Ha Hb ua ra => k v H0 Hb ⟨.refl _, s.ex.trans ua.c, ua.c, fun _ _ w => w⟩ ra

/-! ### xs[i] = e of an owned list -/
def dSetI (i : Nat) (g : DSt → R D) (f : DSt → R D) : DSt → R Out := fun δ => match δ[i]? with
  | some (SV.own ds) => (f δ).bind fun d => (g δ).bind fun k => match k with
    | .int k => match ixN ds.length k with
      | some j => .ok (.nx (δ.set i (.own (ds.set j d))))
      | none => .bad
    | _ => .bad
  | _ => .bad
theorem ds_setI {i : Nat} {x : Str} {f g} (hN : X.N[i]? = some x) (hv : Vis X.env.scope x) (hk : De G E X a g) (h : De G E X e f) (hd : (x == ("__debug__" : Str)) = false := by decide) (hcd : (x == ("__classdict__" : Str)) = false := by decide)
    (ha : ∀ v, assign (.Subscript (.Name x p) a p2) X.env v = (do
      let ov ← holding [v] (eval (.Name x p) X.env)
      let iv ← holding [v, ov] (eval a X.env)
      standAt p2
      holding [v, ov, iv] (setItem ov iv v)
      release [v, ov, iv] []) := by intro _; rfl)
    (hs : swapsWithSole [.Subscript (.Name x p) a p2] e pos.line X.env = pure false := by rfl) (hw : swappedStores [.Subscript (.Name x p) a p2] e X.env = pure none := by rfl)
    (h1 : (assignEach [.Subscript (.Name x p) a p2] X.env).map (·.2) = [assign (.Subscript (.Name x p) a p2) X.env] := by rfl) :
    Ds G E X (.Assign [.Subscript (.Name x p) a p2] e pos) (dSetI i g f) := by
  obtain ⟨t, k1, k2⟩ := h
  obtain ⟨u, l1, l2⟩ := hk
  refine ⟨_, ps_asg k1 (pg_sub (pe_var hN hv hd hcd) l1 set_list ha) hs hw h1, fun B δ σ H0 H s => ?_⟩
  unfold dSetI
  split
  · rename_i ds hi
    obtain ⟨q, vs, e1, h0, hb, hp, r⟩ := s.own i ds hi
    refine SAt.imp (sat_bind (t := t σ H) (k := fun v H1 D => u σ H1 fun y H2 => rSetL (.ref q) y v H2 fun H3 => D.nx σ H3) s.base (k2 B δ σ H0 H s) fun d v H1 H1' u1 rv => sat_bind (t := u σ H1') (k := fun y H2 D => rSetL (.ref q) y v H2 fun H3 => D.nx σ H3) (s.base.trans u1.c) (l2 B δ σ H1 H1' (s.up u1)) fun k y H2 H2' u2 rk => ?_) fun D w => ?_
    · split
      · cases (show Rp X.K H2 y _ from rk)
        split
        · rename_i j hj
          have u12 := u1.trans u2
          refine fun D kk => ⟨q, vs, _, j, rfl, rfl, u12.c _ _ hp, by rw [r.length]; exact hj, ?_⟩
          have q0 : H2 q = none := u12.d q (by rw [hp]; exact fun z => nomatch z) h0
          obtain ⟨u3, s3⟩ := (s.up u12).mut hi e1 q0 hb ((r.mono u12.a).set j (Rp.mono u2.a rv))
          exact kk σ H2 _ u3 s3
        · exact True.intro
      · exact True.intro
    · -- the value, then the list, then the index
      show t σ H fun x H1 => gSub (tVar i) u rSetL x σ H1 D.nx
      show t σ H fun x H1 => tVar i σ H1 fun o H2 => u σ H2 fun y H3 => rSetL o y x H3 fun H4 => D.nx σ H4
      have fin : (fun (x : V) (H1 : Hp) => tVar i σ H1 fun o H2 => u σ H2 fun y H3 => rSetL o y x H3 fun H4 => D.nx σ H4) = fun x H1 => ∃ v, σ[i]? = some (some v) ∧ u σ H1 fun y H3 => rSetL v y x H3 fun H4 => D.nx σ H4 := rfl
      rw [fin]
      have fin2 : (fun (x : V) (H1 : Hp) => ∃ v, σ[i]? = some (some v) ∧ u σ H1 fun y H3 => rSetL v y x H3 fun H4 => D.nx σ H4) = fun x H1 => u σ H1 fun y H3 => rSetL (.ref q) y x H3 fun H4 => D.nx σ H4 := by
        funext x H1
        refine propext ⟨fun ⟨v, e2, z⟩ => ?_, fun z => ⟨_, e1, z⟩⟩
        rw [e1] at e2
        cases e2
        exact z
      rw [fin2]
      exact w
  · exact True.intro

/-! ### defs and their calls -/
/-- the promise of a def that computes F -/
def spD (K : PySem.W.Frag) (G : Str → Addr) (n : Nat) (F : List D → R D) : Sp := fun vs H Q E => ∃ H0 ds, vs.length = n ∧ Same H0 H ∧ RpAll K H0 vs ds ∧ F ds ≠ .bad ∧
  (∀ d, F ds = .ok d → ∀ v H0' H', Up H0 H H0' H' → Rp K H0' v d → Q v H') ∧ (∀ x, F ds = .er x → ∀ c dd H0' H', Up H0 H H0' H' → XR K G H0' H' c dd x → E c dd H')
def dCall (F : List D → R D) (f : DSt → R (List D)) : DSt → R D := fun δ => (f δ).bind F
theorem at_call {K : PySem.W.Frag} {n : Nat} {F : List D → R D} {H0 H : Hp} {vs : List V} {ds : List D} (e : Same H0 H) (hn : vs.length = n) (r : RpAll K H0 vs ds) : At K G E (rV K) H0 H (fun Q => spD K G n F vs H Q E) (F ds) := by
  cases q : F ds with
  | bad => exact True.intro
  | er x => exact fun Q k => ⟨H0, ds, hn, e, r, by rw [q]; exact (fun z => nomatch z), (fun d z => by rw [q] at z; cases z), fun y z => by rw [q] at z; cases z; exact k⟩
  | ok d => exact fun Q k => ⟨H0, ds, hn, e, r, by rw [q]; exact (fun z => nomatch z), (fun y z => by rw [q] at z; cases z; exact k), fun y z => by rw [q] at z; cases z⟩
def dCallN (n : Nat) (F : List D → R D) (f : DSt → R (List D)) : DSt → R D := fun δ => (f δ).bind fun ds => if ds.length = n then F ds else .bad
theorem de_call {CX : CXT} {k : Nat} {f : Addr} {fd : FuncData} {ps : List Str} {x : Str} {n : Nat} {F : List D → R D} {g} {es : List Expr} (hF : FnOk X.prog X.w X.K X.mg X.base CX k f fd ps (spD X.K G n F)) (hr : Room k X.A) (hg : Gl X x) (hm : X.mg x = some (.ref f)) (hk : PySem.W.keepIn X.K (.ref f) = true)
    (hb : Binds X.K fd ps []) (hx : Passes CX X E) (ha : Da G E X (e :: es) g) (hdb : (x == ("__debug__" : Str)) = false := by decide) (he : starEach (e :: es) X.env = (false, eval e X.env) :: starEach es X.env := by rfl) (hpl : (backTo pos (starEach es X.env)).any (·.1) = false := by rfl) :
    De G E X (.Call (.Name x p) (e :: es) [] pos) (dCallN n F g) := by
  obtain ⟨t, h1, h2⟩ := ha
  refine ⟨_, pe_call hF hr hg hm hk hb .nil hx h1 hdb he hpl, fun B δ σ H0 H s => at_bind (t := t σ H) (k := fun vs H1 Q => spD X.K G n F (vs ++ []) H1 Q E) mV (h2 B δ σ H0 H s) fun ds vs H1 H1' u r => ?_⟩
  split
  · rename_i hn
    rw [List.append_nil]
    exact at_call u.b (by rw [r.length]; exact hn) r
  · exact True.intro
end
/-- what a def computes: its body from its arguments -/
def runF (m : Nat) (b : DSt → R Out) : List D → R D := fun ds => (b (ds.map SV.dat ++ List.replicate (m - ds.length) SV.no)).bind fun o => match o with
  | .rt d => .ok d
  | .nx _ => .ok .none
  | _ => .bad
theorem sl_start {K : PySem.W.Frag} {H0 H : Hp} {vs : List V} {ds : List D} {N : List Str} (e : Same H0 H) (r : RpAll K H0 vs ds) (hl : vs.length ≤ N.length) : Sl K H H0 H (L2.start N vs) (ds.map SV.dat ++ List.replicate (N.length - ds.length) SV.no) := by
  have len := r.length
  have key : ∀ (i : Nat) (w : SV), (ds.map SV.dat ++ List.replicate (N.length - ds.length) SV.no)[i]? = some w → (∃ d, ds[i]? = some d ∧ w = .dat d) ∨ w = .no := fun i w h => by
    by_cases hi : i < ds.length
    · rw [List.getElem?_append_left (by simpa using hi), List.getElem?_map, List.getElem?_eq_getElem hi] at h
      cases h
      exact .inl ⟨_, List.getElem?_eq_getElem hi, rfl⟩
    · rw [List.getElem?_append_right (by simpa using hi), List.getElem?_replicate] at h
      split at h
      · cases h; exact .inr rfl
      · cases h
  refine ⟨.refl _, e, ?_, fun i d h => ?_, fun i es h => ?_, fun i j d1 d2 p hij h1 h2 => ?_⟩
  · unfold L2.start
    simp [len]
  · rcases key i _ h with ⟨d', h1, h2⟩ | h2
    · cases h2
      obtain ⟨v, hv, rv⟩ := r.get h1
      refine ⟨v, ?_, rv⟩
      unfold L2.start
      rw [List.getElem?_append_left (by simpa using (List.getElem?_eq_some_iff.mp hv).1), List.getElem?_map, hv]
      rfl
    · cases h2
  · rcases key i _ h with ⟨d', h1, h2⟩ | h2 <;> cases h2
  · rcases key i _ h1 with ⟨d', h3, h4⟩ | h4 <;> cases h4
/-- THE RULE: a def that lets no exception out, by what its body computes -/
theorem fnD {P : Program} {w : World} {K : PySem.W.Frag} {mg : Str → Option Value} {base : Heap} {G : Str → Addr} {x qual : Str} {st : Stmt} {f : Addr} {fd : FuncData} {N ps : List Str} {k m n : Nat} {b : DSt → R Out} (F : Fun K x qual st f fd) (S : FnScope N ps (defScope st)) (hm : N.length = m) (hn : ps.length = n)
    (hb : ∀ (cdv : Value) (A : Around) (outer : List Env) (s : Shared) (H : Hp) (E : XK), Room k (A.deeper (envOfC qual (defScope st) s.heap.objs.size f cdv)) → Dss G E0 (cxOf CX0 P w K mg base N qual (defScope st) f cdv A outer s H E).nox (defBody st) b) :
    FnOk P w K mg base CX0 (k + 1) f fd ps (spD K G n fun ds => (runF m b ds).noer) := by
  subst hm hn
  refine F.ok S (fun vs H Q E h => by obtain ⟨_, _, h, _⟩ := h; exact h) (fun cdv A outer s H vs Q E hr h => ?_)
  obtain ⟨H0, ds, hl, e, r, nb, q, _⟩ := h
  obtain ⟨t, h1, h2⟩ := hb cdv A outer s H E hr
  refine ⟨t, h1, ?_⟩
  have hpl : ps.length ≤ N.length := by have := congrArg List.length S.pre; rw [List.length_take] at this; omega
  have s0 := sl_start (N := N) e r (by omega)
  have z := h2 H _ _ H0 H s0
  unfold runF at nb q
  dsimp only at nb q
  cases hbo : b (ds.map SV.dat ++ List.replicate (N.length - ds.length) SV.no) with
  | bad => rw [hbo] at nb; exact absurd rfl nb
  | er y => rw [hbo] at nb; exact absurd rfl nb
  | ok o =>
    rw [hbo] at nb q z
    refine z _ ?_
    cases o with
    | nx δ => exact fun σ' H0' H' u s' => q _ rfl _ H0' H' ⟨u.a, u.b, u.c, fun p h1 h2 => u.d p h1 h2⟩ .non
    | rt d => exact fun v H0' H' u r' => q _ rfl _ H0' H' ⟨u.a, u.b, u.c, fun p h1 h2 => u.d p h1 h2⟩ r'
    | bk δ => exact absurd rfl nb
    | ct δ => exact absurd rfl nb
/-- a promise may be told by another function, where that one says as much -/
theorem FnOk.toD {P : Program} {w : World} {K : PySem.W.Frag} {mg : Str → Option Value} {base : Heap} {CX : CXT} {k : Nat} {f : Addr} {fd : FuncData} {ps : List Str} {G : Str → Addr} {n : Nat} {F F' : List D → R D} (h : FnOk P w K mg base CX k f fd ps (spD K G n F)) (e : ∀ ds, F' ds ≠ .bad → F ds = F' ds) : FnOk P w K mg base CX k f fd ps (spD K G n F') :=
  h.imp fun vs H Q E ⟨H0, ds, hl, hs, r, nb, q1, q2⟩ => ⟨H0, ds, hl, hs, r, by rw [e ds nb]; exact nb, by rw [e ds nb]; exact q1, by rw [e ds nb]; exact q2⟩
end Dn

namespace Dn
open PySem PySem.Spec PyProof.Rows L2

/-! ### a def of the text and what it computes, as a caller uses it -/
structure EntD (P : Program) (w : World) (K : PySem.W.Frag) (mg : Str → Option Value) (base : Heap) (G : Str → Addr) (x : Str) (k n : Nat) (F : List D → R D) : Prop where
  ex : ∃ f fd ps, FnOk P w K mg base CX0 k f fd ps (spD K G n F) ∧ Binds K fd ps [] ∧ mg x = some (.ref f) ∧ PySem.W.keepIn K (.ref f) = true
/-- a constant of the module -/
def CstD (K : PySem.W.Frag) (mg : Str → Option Value) (x : Str) (d : D) : Prop := ∃ v u, mg x = some u ∧ RelV v u ∧ ∀ H, Rp K H v d
/-- a def of the text as it stands behind the top -/
structure FunE (K : PySem.W.Frag) (mg : Str → Option Value) (x : Str) (st : Stmt) (ps : List Str) : Prop where
  ex : ∃ f fd, Fun K x x st f fd ∧ Binds K fd ps [] ∧ mg x = some (.ref f)
section
variable {G : Str → Addr} {E : XK} {X : Cx} {pos p p2 : Pos} {a b e : Expr} {es : List Expr}
theorem de_callE {x : Str} {k n : Nat} {F : List D → R D} {g} (h : EntD X.prog X.w X.K X.mg X.base G x k n F) (hr : Room k X.A) (hg : Gl X x) (ha : Da G E0 X (e :: es) g) (hdb : (x == ("__debug__" : Str)) = false := by decide)
    (he : starEach (e :: es) X.env = (false, eval e X.env) :: starEach es X.env := by rfl) (hpl : (backTo pos (starEach es X.env)).any (·.1) = false := by rfl) : De G E0 X (.Call (.Name x p) (e :: es) [] pos) (dCallN n F g) := by
  obtain ⟨f, fd, ps, h1, h2, h3, h4⟩ := h.ex
  exact de_call h1 hr hg h3 h4 h2 pass0 ha hdb he hpl
theorem de_cst {x : Str} {d : D} (h : CstD X.K X.mg x d) (hg : Gl X x) (hd : (x == ("__debug__" : Str)) = false := by decide) : De G E X (.Name x pos) (dC d) := by
  obtain ⟨v, u, h1, h2, h3⟩ := h
  exact de_glob hg h1 h2 h3 hd
theorem entD {P : Program} {w : World} {K : PySem.W.Frag} {mg : Str → Option Value} {base : Heap} {x : Str} {st : Stmt} {N ps : List Str} {k m n : Nat} {b : DSt → R Out} (F : FunE K mg x st ps) (S : FnScope N ps (defScope st)) (hm : N.length = m) (hn : ps.length = n)
    (hb : ∀ (f : Addr) (cdv : Value) (A : Around) (outer : List Env) (s : Shared) (H : Hp) (E : XK), Room k (A.deeper (envOfC x (defScope st) s.heap.objs.size f cdv)) → Dss G E0 (cxOf CX0 P w K mg base N x (defScope st) f cdv A outer s H E).nox (defBody st) b) :
    EntD P w K mg base G x (k + 1) n fun ds => (runF m b ds).noer := by
  obtain ⟨f, fd, h1, h2, h3⟩ := F.ex
  exact ⟨f, fd, ps, fnD h1 S hm hn (hb f), h2, h3, h1.kp⟩
theorem EntD.to {P : Program} {w : World} {K : PySem.W.Frag} {mg : Str → Option Value} {base : Heap} {x : Str} {k n : Nat} {F F' : List D → R D} (h : EntD P w K mg base G x k n F) (e : ∀ ds, F' ds ≠ .bad → F ds = F' ds) : EntD P w K mg base G x k n F' := by
  obtain ⟨f, fd, ps, h1, h2⟩ := h.ex
  exact ⟨f, fd, ps, FnOk.toD h1 e, h2⟩
theorem EntD.mono {P : Program} {w : World} {K : PySem.W.Frag} {mg : Str → Option Value} {base : Heap} {x : Str} {j k n : Nat} {F : List D → R D} (h : EntD P w K mg base G x j n F) (l : j ≤ k) : EntD P w K mg base G x k n F := by
  obtain ⟨f, fd, ps, h1, h2⟩ := h.ex
  exact ⟨f, fd, ps, h1.mono l, h2⟩

theorem rp_ints (K : PySem.W.Frag) (H : Hp) : ∀ ns : List Int, RpAll K H (ns.map V.int) (ns.map PyData.int)
  | [] => .nil
  | n :: ns => .cons (.int n) (rp_ints K H ns)

/-! ### in, not in -/
def flatD : D → Bool
  | .none => true
  | .bool _ => true
  | .int _ => true
  | .str _ => true
  | _ => false
theorem flat_rp {K : PySem.W.Frag} {H : Hp} {v : V} {d : D} (r : Rp K H v d) (h : flatD d = true) : flatV v = true := by
  cases r <;> first | rfl | cases h
theorem eq_rp {K : PySem.W.Frag} {H : Hp} {v w : V} {d e : D} (r : Rp K H v d) (r' : Rp K H w e) (h : flatD d = true) (h' : flatD e = true) : eqV v w = PyData.eqv d e := by
  cases r with
  | lst _ _ => cases h
  | tup _ _ => cases h
  | scr _ _ => cases h
  | non => cases r' <;> first | simp only [eqV, PyData.eqv] | cases h'
  | bl _ => cases r' <;> first | simp only [eqV, PyData.eqv] | cases h'
  | int _ => cases r' <;> first | simp only [eqV, PyData.eqv] | cases h'
  | str _ => cases r' <;> first | simp only [eqV, PyData.eqv] | cases h'
theorem in_rp {K : PySem.W.Frag} {H : Hp} {v : V} {d : D} (r : Rp K H v d) (h : flatD d = true) : ∀ {vs : List V} {ds : List D}, RpAll K H vs ds → ds.all flatD = true → (vs.all flatV = true ∧ inV v vs = ds.any fun z => PyData.eqv z d)
  | _, _, .nil, _ => ⟨rfl, rfl⟩
  | _, _, .cons a b, q => by
    simp only [List.all_cons, Bool.and_eq_true] at q
    obtain ⟨h1, h2⟩ := in_rp r h b q.2
    refine ⟨by simp only [List.all_cons, Bool.and_eq_true]; exact ⟨flat_rp a q.1, h1⟩, ?_⟩
    unfold inV at h2 ⊢
    simp only [List.any_cons]
    rw [h2, eq_rp a r q.1 h]
def P.inF (neg : Bool) (x : D) (y : Op) : R D := match asSq y with
  | some ds => if flatD x && ds.all flatD then .ok (.bool (if neg then !ds.any fun z => PyData.eqv z x else ds.any fun z => PyData.eqv z x)) else .bad
  | none => match x, y with
    | .str a, .d (.str z) => match a.cps.toList with
      | [c] => .ok (.bool (if neg then !decide (c ∈ z.cps.toList) else decide (c ∈ z.cps.toList)))
      | _ => .bad
    | _, _ => .bad
def dIn (neg : Bool) (f : DSt → R D) (g : DSt → R Op) : DSt → R D := fun δ => (f δ).bind fun x => (g δ).bind fun y => P.inF neg x y
theorem str1 {a : Str} {c : Nat} (h : a.cps.toList = [c]) : a = ⟨#[c]⟩ := by
  cases a with
  | mk cps =>
    have : cps = #[c] := by
      apply Array.toList_inj.mp
      exact h
    rw [this]
theorem dc_in {f g} (hm : behindInMarks .In b = false) (ha : De G E X a f) (hb : DO G E X b g) : DC G E X .In a b (dIn false f g) := by
  obtain ⟨t, h1, h2⟩ := ha
  obtain ⟨u, k1, k2⟩ := hb
  refine ⟨_, _, _, op_or op_in_seq op_in_sign, h1, k1, hm, ev_op sV mV h2 k2 fun x y v w Hs Hs' H0 H e rx ry => ?_⟩
  unfold P.inF
  split
  · rename_i ds hd
    split
    · rename_i q
      simp only [Bool.and_eq_true] at q
      obtain ⟨p', vs, rfl, hq, r⟩ := as_sq e ry hd
      obtain ⟨i1, i2⟩ := in_rp rx q.1 r q.2
      refine fun Q k => .inl ⟨_, _, rfl, hq, flat_rp rx q.1, i1, ?_⟩
      rw [i2]
      exact k _ H0 H (.refl e) (.bl _)
    · exact True.intro
  · split
    · split
      · rename_i c hc
        cases (show Rp X.K H0 v _ from rx); cases (show Rp X.K H0 w _ from ry)
        exact fun Q k => .inr ⟨c, _, by rw [← str1 hc], rfl, k _ H0 H (.refl e) (.bl _)⟩
      · exact True.intro
    · exact True.intro
theorem dc_notIn {f g} (hm : behindInMarks .NotIn b = false) (ha : De G E X a f) (hb : DO G E X b g) : DC G E X .NotIn a b (dIn true f g) := by
  obtain ⟨t, h1, h2⟩ := ha
  obtain ⟨u, k1, k2⟩ := hb
  refine ⟨_, _, _, op_or op_notIn_seq op_notIn_sign, h1, k1, hm, ev_op sV mV h2 k2 fun x y v w Hs Hs' H0 H e rx ry => ?_⟩
  unfold P.inF
  split
  · rename_i ds hd
    split
    · rename_i q
      simp only [Bool.and_eq_true] at q
      obtain ⟨p', vs, rfl, hq, r⟩ := as_sq e ry hd
      obtain ⟨i1, i2⟩ := in_rp rx q.1 r q.2
      refine fun Q k => .inl ⟨_, _, rfl, hq, flat_rp rx q.1, i1, ?_⟩
      rw [i2]
      exact k _ H0 H (.refl e) (.bl _)
    · exact True.intro
  · split
    · split
      · rename_i c hc
        cases (show Rp X.K H0 v _ from rx); cases (show Rp X.K H0 w _ from ry)
        exact fun Q k => .inr ⟨c, _, by rw [← str1 hc], rfl, k _ H0 H (.refl e) (.bl _)⟩
      · exact True.intro
    · exact True.intro

/-! ### {'a': 'b', ..}[e], written texts -/
def dlook (kvs : List (Str × Str)) (s : Str) : Option V := valV (mergeK [] (kvs.map fun p => (Sum.inr p.1, V.str p.2))) (.inr s)
def dLit (kvs : List (Str × Str)) (f : DSt → R D) : DSt → R D := fun δ => (f δ).bind fun k => match k with
  | .str s => match dlook kvs s with
    | some (.str r) => .ok (.str r)
    | _ => .bad
  | _ => .bad
theorem pairs_str : ∀ (kvs : List (Str × Str)) (σ : L2.St) (H : Hp) (Q : List (V × V) → Hp → Prop), Q (kvs.map fun p => (V.str p.1, V.str p.2)) H → tPairs (kvs.map fun p => (tC (.str p.1), tC (.str p.2))) σ H Q
  | [], _, _, _, q => q
  | p :: r, σ, H, Q, q => pairs_str r σ H (fun ps H3 => Q ((V.str p.1, V.str p.2) :: ps) H3) q
theorem de_dlit {keys : List (Option Expr)} {values : List Expr} {kvs : List (Str × Str)} {f} (hu : X.A.units + 1 < cLine) (h : PPs X p keys values (kvs.map fun q => (tC (.str q.1), tC (.str q.2)))) (hk : De G E X e f) (hn : NoSl e)
    (h15 : kvs.length ≤ 15) (hall : keys.all (·.isSome) = true := by rfl) (hl : keys.length = values.length := by rfl) (h0 : keys ≠ [] := by intro z; cases z) (h15' : keys.length ≤ 15 := by decide) :
    De G E X (.Subscript (.Dict keys values p) e pos) (dLit kvs f) := by
  obtain ⟨t, h1, h2⟩ := hk
  refine ⟨_, pe_dget hu (pe_disp h hall hl h0 h15') h1 hn, fun B δ σ H0 H s => ?_⟩
  have key : ∀ q, H q = none → ∀ Q : V → Hp → Prop, (t σ (upd H q (.dK (mergeK [] (kvs.map fun p => (Sum.inr p.1, V.str p.2))))) fun y H2 => ∃ a v, V.ref q = .ref a ∧ DGet H2 a y (some v) ∧ Q v H2) →
      tPairs (kvs.map fun q => (tC (.str q.1), tC (.str q.2))) σ (upd H q (.dK [])) fun ps H2 => H2 q = some (.dK []) ∧ ∃ kvs : List (Key × V), ps = kvs.map (fun kv => (kV kv.1, kv.2)) ∧ kvs.length ≤ 15 ∧ (fun x H1 => t σ H1 fun y H2 => ∃ a v, x = V.ref a ∧ DGet H2 a y (some v) ∧ Q v H2) (.ref q) (upd H2 q (.dK (mergeK [] kvs))) := by
    intro q hq Q z
    refine pairs_str kvs σ _ _ ⟨upd_same, kvs.map fun p => (Sum.inr p.1, V.str p.2), ?_, by simpa using h15, ?_⟩
    · rw [List.map_map]
      rfl
    · show t σ (upd (upd H q (.dK [])) q (.dK _)) _
      rw [upd_upd]
      exact z
  have run : ∀ q, H q = none → At X.K G E (rV X.K) H0 H (fun Q => t σ (upd H q (.dK (mergeK [] (kvs.map fun p => (Sum.inr p.1, V.str p.2))))) fun y H2 => ∃ a v, V.ref q = .ref a ∧ DGet H2 a y (some v) ∧ Q v H2) (dLit kvs f δ) := by
    intro q hq
    have u0 : Up H0 H H0 (upd H q (.dK (mergeK [] (kvs.map fun p => (Sum.inr p.1, V.str p.2))))) := Up.own s.ex hq
    have z := at_bind (t := t σ (upd H q (.dK (mergeK [] (kvs.map fun p => (Sum.inr p.1, V.str p.2)))))) (k := fun y H2 Q => ∃ a v, V.ref q = .ref a ∧ DGet H2 a y (some v) ∧ Q v H2) (r2 := rV X.K) mV (h2 B δ σ H0 _ (s.up u0)) (g := fun k => match k with
      | .str s => match dlook kvs s with
        | some (.str r) => .ok (.str r)
        | _ => .bad
      | _ => .bad) fun k y H1 H1' u1 rk => by
        cases k with
        | str s' =>
          cases (show Rp X.K H1 y _ from rk)
          show At X.K G E (rV X.K) H1 H1' _ (match dlook kvs s' with | some (.str r) => R.ok (PyData.str r) | _ => .bad)
          split
          · rename_i r hr
            refine fun Q kk => ⟨q, _, rfl, ?_, kk _ H1 H1' (.refl u1.b) (.str r)⟩
            have g := DGet.k (k := Sum.inr s') (u1.c q _ upd_same)
            unfold dlook at hr
            rw [hr] at g
            exact g
          · exact True.intro
        | _ => exact True.intro
    show At X.K G E (rV X.K) H0 H _ (dLit kvs f δ)
    unfold dLit
    cases e0 : (f δ).bind (fun k => match k with
      | .str s => match dlook kvs s with
        | some (.str r) => R.ok (PyData.str r)
        | _ => .bad
      | _ => .bad) with
    | bad => exact True.intro
    | er x => rw [e0] at z; exact fun Q k => z Q fun c dd Ha Hb ua xa => k c dd Ha Hb (u0.trans ua) xa
    | ok d => rw [e0] at z; exact fun Q k => z Q fun v Ha Hb ua ra => k v Ha Hb (u0.trans ua) ra
  cases e0 : dLit kvs f δ with
  | bad => exact True.intro
  | er x =>
    intro Q k q hq
    have z := run q hq
    rw [e0] at z
    exact key q hq Q (z Q k)
  | ok d =>
    intro Q k q hq
    have z := run q hq
    rw [e0] at z
    exact key q hq Q (z Q k)
end
end Dn

namespace Dn
open PySem PySem.Spec PyProof.Rows L2

/-! ### how the combinators compute -/
section
variable {δ : DSt} {f g h : DSt → R D} {fo go : DSt → R Op} {fl gl : DSt → R (List D)} {fb gb : DSt → R Bool} {fp gp : DSt → R (Option Int)} {fs gs : DSt → R Out} {i n : Nat} {d x y : D} {ds es : List D}
@[simp] theorem dC_ap : dC d δ = .ok d := rfl
@[simp] theorem dVar_ap : dVar i δ = (match δ[i]? with | some (SV.dat d) => .ok d | _ => .bad) := rfl
@[simp] theorem dVarO_ap : dVarO i δ = (match δ[i]? with | some (SV.dat d) => .ok (.d d) | some (SV.own ds) => .ok (.o ds) | _ => .bad) := rfl
@[simp] theorem dOp_ap : dOp f δ = (f δ).bind fun d => .ok (.d d) := rfl
@[simp] theorem dAdd_ap : dAdd fo go δ = (fo δ).bind fun x => (go δ).bind fun y => P.add x y := rfl
@[simp] theorem dCatN_ap : dCatN fo go δ = (fo δ).bind fun x => (go δ).bind fun y => P.catN x y := rfl
@[simp] theorem dInt2_ap {c k} : dInt2 c k f g δ = (f δ).bind fun x => (g δ).bind fun y => P.int2 c k x y := rfl
@[simp] theorem dNeg_ap : dNeg f δ = (f δ).bind P.neg := rfl
@[simp] theorem d2_ap {p} : d2 p fo go δ = (fo δ).bind fun x => (go δ).bind fun y => p x y := rfl
@[simp] theorem dCmp_ap {c} : dCmp c f g δ = (f δ).bind fun x => (g δ).bind fun y => P.cmp c x y := rfl
@[simp] theorem dIsN_ap : dIsN fo δ = (fo δ).bind fun x => .ok (P.isN x) := rfl
@[simp] theorem dNotN_ap : dNotN fo δ = (fo δ).bind fun x => .ok (P.notN x) := rfl
@[simp] theorem dTru_ap : dTru f δ = (f δ).bind P.tru := rfl
@[simp] theorem dNot_ap : dNot fb δ = (fb δ).bind fun b => .ok (!b) := rfl
@[simp] theorem dAnd_ap : dAnd fb gb δ = (fb δ).bind fun b => if b then gb δ else .ok false := rfl
@[simp] theorem dOr_ap : dOr fb gb δ = (fb δ).bind fun b => if b then .ok true else gb δ := rfl
@[simp] theorem dAndV_ap : dAndV f g δ = (f δ).bind fun x => (P.tru x).bind fun b => if b then g δ else .ok (.bool false) := rfl
@[simp] theorem dOrV_ap : dOrV f g δ = (f δ).bind fun x => (P.tru x).bind fun b => if b then .ok (.bool true) else g δ := rfl
@[simp] theorem dNotV_ap : dNotV f δ = (f δ).bind fun x => (P.tru x).bind fun b => .ok (.bool (!b)) := rfl
@[simp] theorem dIf_ap {α : Type} {f g : DSt → R α} : dIf fb f g δ = (fb δ).bind fun b => if b then f δ else g δ := rfl
@[simp] theorem dNil_ap : dNil δ = .ok [] := rfl
@[simp] theorem dCons_ap : dCons f fl δ = (f δ).bind fun x => (fl δ).bind fun xs => .ok (x :: xs) := rfl
@[simp] theorem dTup_ap : dTup fl δ = (fl δ).bind fun xs => if xs.length ≤ LIM then .ok (.tuple xs) else .bad := rfl
@[simp] theorem dLst_ap : dLst fl δ = (fl δ).bind fun xs => if xs.length ≤ LIM then .ok (.list xs) else .bad := rfl
@[simp] theorem dLstN_ap : dLstN fl δ = (fl δ).bind fun xs => if xs.length ≤ LIM then .ok xs else .bad := rfl
@[simp] theorem dFre_ap : dFre fl δ = (fl δ).bind fun xs => .ok (.list xs) := rfl
@[simp] theorem dIdx_ap : dIdx fo g δ = (fo δ).bind fun x => (g δ).bind fun y => P.idx x y := rfl
@[simp] theorem dNoPart_ap : dNoPart δ = .ok none := rfl
@[simp] theorem dPart_ap : dPart f δ = (f δ).bind P.part := rfl
@[simp] theorem dSlice_ap : dSlice fo fp gp δ = (fo δ).bind fun x => (fp δ).bind fun lo => (gp δ).bind fun hi => P.slice x lo hi := rfl
@[simp] theorem dLen_ap : dLen fo δ = (fo δ).bind P.len := rfl
@[simp] theorem dIsi_ap {T} : dIsi T fo δ = (fo δ).bind (P.isi T) := rfl
@[simp] theorem dToInt_ap : dToInt fo δ = (fo δ).bind P.toInt := rfl
@[simp] theorem dCall1_ap {p} : dCall1 p fl δ = (fl δ).bind p := rfl
@[simp] theorem d1_ap {p} : d1 p fo δ = (fo δ).bind p := rfl
@[simp] theorem dListN_ap : dListN fo δ = (fo δ).bind P.listN := rfl
@[simp] theorem dItems_ap : dItems f δ = (f δ).bind P.items := rfl
@[simp] theorem dItemsO_ap : dItemsO fo δ = (fo δ).bind P.itemsO := rfl
@[simp] theorem dRng_ap {p} : dRng p fl δ = (fl δ).bind p := rfl
@[simp] theorem dLc_ap {tg c vs} : dLc fl tg c f vs δ = (fl δ).bind fun ds => if ds.length ≤ LIM then lcGo tg c f (fgt δ vs) ds else .bad := rfl
@[simp] theorem dYes_ap : dYes δ = .ok true := rfl
@[simp] theorem dNext_ap : dNext δ = .ok (.nx δ) := rfl
@[simp] theorem dBrk_ap : dBrk δ = .ok (.bk δ) := rfl
@[simp] theorem dCnt_ap : dCnt δ = .ok (.ct δ) := rfl
@[simp] theorem dRet_ap : dRet f δ = (f δ).bind fun d => .ok (.rt d) := rfl
@[simp] theorem dSet_ap : dSet i f δ = (f δ).bind fun d => .ok (.nx (δ.set i (.dat d))) := rfl
@[simp] theorem dSetN_ap : dSetN i fl δ = (fl δ).bind fun d => .ok (.nx (δ.set i (.own d))) := rfl
@[simp] theorem dAsg_ap {t} : dAsg f t δ = (f δ).bind fun d => match t d δ with | some δ' => .ok (.nx δ') | none => .bad := rfl
@[simp] theorem dApp_ap : dApp i f δ = (match δ[i]? with | some (SV.own ds) => (f δ).bind fun d => if ds.length < LIM then .ok (.nx (δ.set i (.own (ds ++ [d])))) else .bad | _ => .bad) := rfl
@[simp] theorem dSeq_ap : dSeq fs gs δ = (fs δ).bind fun o => match o with | .nx δ' => gs δ' | o => .ok o := rfl
@[simp] theorem dFor_ap {tg} {vs : List Nat} : dFor fl tg fs vs δ = (fl δ).bind fun ds => forGo tg fs vs ds δ := rfl
@[simp] theorem dLend_ap {is : List Nat} : dLend is f δ = (match f (frzL is δ) with | .ok d => if plain d then .ok d else .bad | _ => .bad) := rfl
@[simp] theorem dLendT_ap {is : List Nat} : dLendT is fb δ = (match fb (frzL is δ) with | .ok d => .ok d | _ => .bad) := rfl
@[simp] theorem dCallN_ap {F} : dCallN n F fl δ = (fl δ).bind fun ds => if ds.length = n then F ds else .bad := rfl
@[simp] theorem dIn_ap {b} : dIn b f go δ = (f δ).bind fun x => (go δ).bind fun y => P.inF b x y := rfl
@[simp] theorem frzL_nil : frzL [] δ = δ := rfl
@[simp] theorem frzL_cons {is : List Nat} : frzL (i :: is) δ = frz1 i (frzL is δ) := rfl
@[simp] theorem frz1_ap : frz1 i δ = (match δ[i]? with | some (SV.own ds) => δ.set i (.dat (.list ds)) | _ => δ) := rfl
@[simp] theorem fgt_nil : fgt δ [] = δ := rfl
@[simp] theorem fgt_cons {is : List Nat} : fgt δ (i :: is) = (fgt δ is).set i .no := rfl
@[simp] theorem gN_ap : gN i d δ = some (δ.set i (.dat d)) := rfl
@[simp] theorem gsN_nil : gsN [] δ = some δ := rfl
@[simp] theorem gsC_cons {t u} : gsC t u (d :: ds) δ = (t d δ).bind (u ds) := rfl
@[simp] theorem gT_tup {u} : gT n u (.tuple ds) δ = if ds.length = n then u ds δ else none := rfl
@[simp] theorem lcGo_nil {t c} : lcGo t c f δ [] = .ok [] := rfl
@[simp] theorem lcGo_cons' {t c xs} : lcGo t c f δ (x :: xs) = (match t x δ with
    | none => .bad
    | some δ' => (c δ').bind fun b => if b then (f δ').bind fun y => (lcGo t c f δ xs).bind fun ys => .ok (y :: ys) else lcGo t c f δ xs) := rfl
@[simp] theorem forGo_nil {t} {vs : List Nat} : forGo t fs vs [] δ = .ok (.nx (fgt δ vs)) := rfl
end
@[simp] theorem LIM_eq : LIM = 100000 := rfl
/-! ### on plain values -/
@[simp] theorem add_int {i j : Int} : P.add (.d (.int i)) (.d (.int j)) = .ok (.int (i + j)) := rfl
@[simp] theorem add_tup {a b : List D} : P.add (.d (.tuple a)) (.d (.tuple b)) = if a.length + b.length ≤ LIM then .ok (.tuple (a ++ b)) else .bad := rfl
@[simp] theorem add_lst {a b : List D} : P.add (.d (.list a)) (.d (.list b)) = if a.length + b.length ≤ LIM then .ok (.list (a ++ b)) else .bad := rfl
@[simp] theorem add_str {a b : Str} : P.add (.d (.str a)) (.d (.str b)) = if a.length + b.length ≤ LIM then .ok (.str (a ++ b)) else .bad := rfl
@[simp] theorem int2_int {c k} {i j : Int} : P.int2 c k (.int i) (.int j) = if c i j then .ok (k i j) else .bad := rfl
@[simp] theorem neg_int {i : Int} : P.neg (.int i) = .ok (.int (-i)) := rfl
@[simp] theorem cmp_int {c} {i j : Int} : P.cmp c (.int i) (.int j) = .ok (.bool (c i j)) := rfl
@[simp] theorem tru_bool {b} : P.tru (.bool b) = .ok b := rfl
@[simp] theorem part_int {i : Int} : P.part (.int i) = .ok (some i) := rfl
@[simp] theorem toInt_int {i : Int} : P.toInt (.d (.int i)) = .ok (.int i) := rfl
@[simp] theorem len_lst {ds : List D} : P.len (.d (.list ds)) = .ok (.int ds.length) := rfl
@[simp] theorem len_tup {ds : List D} : P.len (.d (.tuple ds)) = .ok (.int ds.length) := rfl
@[simp] theorem len_own {ds : List D} : P.len (.o ds) = .ok (.int ds.length) := rfl
@[simp] theorem items_lst {ds : List D} : P.items (.list ds) = .ok ds := rfl
@[simp] theorem items_tup {ds : List D} : P.items (.tuple ds) = .ok ds := rfl
@[simp] theorem items_str {z : Str} : P.items (.str z) = .ok (signs z) := rfl
@[simp] theorem itemsO_own {ds : List D} : P.itemsO (.o ds) = .ok ds := rfl
@[simp] theorem itemsO_d {d : D} : P.itemsO (.d d) = P.items d := rfl
@[simp] theorem tuple_lst {ds : List D} : P.tuple (.d (.list ds)) = .ok (.tuple ds) := rfl
@[simp] theorem tuple_tup {ds : List D} : P.tuple (.d (.tuple ds)) = .ok (.tuple ds) := rfl
@[simp] theorem tuple_own {ds : List D} : P.tuple (.o ds) = .ok (.tuple ds) := rfl
@[simp] theorem listN_lst {ds : List D} : P.listN (.d (.list ds)) = .ok ds := rfl
@[simp] theorem listN_tup {ds : List D} : P.listN (.d (.tuple ds)) = .ok ds := rfl
@[simp] theorem slice_lst {ds : List D} {lo hi} : P.slice (.d (.list ds)) lo hi = .ok (.list (cutD ds lo hi)) := rfl
@[simp] theorem slice_tup {ds : List D} {lo hi} : P.slice (.d (.tuple ds)) lo hi = .ok (.tuple (cutD ds lo hi)) := rfl
@[simp] theorem slice_scr {ds : List D} {lo hi} : P.slice (.d (scr ds)) lo hi = .ok (.list (cutD ds lo hi)) := rfl
@[simp] theorem max2_int {i j : Int} : P.max2 [.int i, .int j] = .ok (.int (if j > i then j else i)) := rfl
@[simp] theorem min2_int {i j : Int} : P.min2 [.int i, .int j] = .ok (.int (if j < i then j else i)) := rfl
@[simp] theorem zip_tup {a b : List D} : P.zip [.tuple a, .tuple b] = .ok (pairs a b) := rfl
@[simp] theorem zip_lst {a b : List D} : P.zip [.list a, .list b] = .ok (pairs a b) := rfl
@[simp] theorem range1_int {i : Int} : P.range1 [.int i] = if i.natAbs ≤ LIM then .ok (rngD 0 i.toNat) else .bad := rfl
@[simp] theorem range2_int {i j : Int} : P.range2 [.int i, .int j] = if i.natAbs ≤ LIM ∧ j.natAbs ≤ LIM then .ok (rngD i (j - i).toNat) else .bad := rfl
theorem idx_lst {ds : List D} {i : Int} {d : D} (h : atI ds i = some d) : P.idx (.d (.list ds)) (.int i) = .ok d := by
  show (match atI ds i with | some d => R.ok d | none => .bad) = _
  rw [h]
theorem idx_tup {ds : List D} {i : Int} {d : D} (h : atI ds i = some d) : P.idx (.d (.tuple ds)) (.int i) = .ok d := by
  show (match atI ds i with | some d => R.ok d | none => .bad) = _
  rw [h]
theorem idx_own {ds : List D} {i : Int} {d : D} (h : atI ds i = some d) : P.idx (.o ds) (.int i) = .ok d := by
  show (match atI ds i with | some d => R.ok d | none => .bad) = _
  rw [h]
@[simp] theorem idx_tup' {ds : List D} {i : Int} : P.idx (.d (.tuple ds)) (.int i) = (match atI ds i with | some d => .ok d | none => .bad) := rfl
@[simp] theorem idx_lst' {ds : List D} {i : Int} : P.idx (.d (.list ds)) (.int i) = (match atI ds i with | some d => .ok d | none => .bad) := rfl
@[simp] theorem idx_own' {ds : List D} {i : Int} : P.idx (.o ds) (.int i) = (match atI ds i with | some d => .ok d | none => .bad) := rfl
@[simp] theorem sub_c {i j : Int} : cTrue i j = true := rfl
@[simp] theorem pos_c {i j : Int} : cPos i j = decide (0 < j) := rfl
@[simp] theorem div_c {i j : Int} : cDiv i j = (decide (0 < j) && decide (j < 1073741824)) := rfl
@[simp] theorem pow_c {i j : Int} : cPow i j = (decide (0 ≤ j) && decide (j ≤ 1000) && decide (i.natAbs < 2 ^ 64)) := rfl
theorem mul_r {i j : Int} (h1 : -(2 ^ 64) < j) (h2 : j < 2 ^ 64) : cMul i j = true := by
  unfold cMul
  simp only [Bool.or_eq_true, Bool.and_eq_true, decide_eq_true_eq]
  exact .inr ⟨h1, h2⟩
theorem mul_l {i j : Int} (h1 : -(2 ^ 64) < i) (h2 : i < 2 ^ 64) : cMul i j = true := by
  unfold cMul
  simp only [Bool.or_eq_true, Bool.and_eq_true, decide_eq_true_eq]
  exact .inl ⟨h1, h2⟩
/-! ### is .. a .. -/
theorem kb_nn : kitB "NoneType" "int" = some false ∧ kitB "NoneType" "bool" = some false ∧ kitB "NoneType" "str" = some false ∧ kitB "NoneType" "tuple" = some false ∧ kitB "NoneType" "list" = some false := by decide +kernel
theorem kb_bl : kitB "bool" "int" = some true ∧ kitB "bool" "bool" = some true ∧ kitB "bool" "str" = some false ∧ kitB "bool" "tuple" = some false ∧ kitB "bool" "list" = some false := by decide +kernel
theorem kb_in : kitB "int" "int" = some true ∧ kitB "int" "bool" = some false ∧ kitB "int" "str" = some false ∧ kitB "int" "tuple" = some false ∧ kitB "int" "list" = some false := by decide +kernel
theorem kb_st : kitB "str" "int" = some false ∧ kitB "str" "bool" = some false ∧ kitB "str" "str" = some true ∧ kitB "str" "tuple" = some false ∧ kitB "str" "list" = some false := by decide +kernel
theorem kb_tu : kitB "tuple" "int" = some false ∧ kitB "tuple" "bool" = some false ∧ kitB "tuple" "str" = some false ∧ kitB "tuple" "tuple" = some true ∧ kitB "tuple" "list" = some false := by decide +kernel
theorem kb_li : kitB "list" "int" = some false ∧ kitB "list" "bool" = some false ∧ kitB "list" "str" = some false ∧ kitB "list" "tuple" = some false ∧ kitB "list" "list" = some true := by decide +kernel
@[simp] theorem isi_none {T} : P.isi T (.d .none) = (match kitB "NoneType" T with | some b => .ok (.bool b) | none => .bad) := rfl
@[simp] theorem isi_bool {T b} : P.isi T (.d (.bool b)) = (match kitB "bool" T with | some b => .ok (.bool b) | none => .bad) := rfl
@[simp] theorem isi_int {T} {i : Int} : P.isi T (.d (.int i)) = (match kitB "int" T with | some b => .ok (.bool b) | none => .bad) := rfl
@[simp] theorem isi_str {T} {i : Str} : P.isi T (.d (.str i)) = (match kitB "str" T with | some b => .ok (.bool b) | none => .bad) := rfl
@[simp] theorem isi_tup {T} {i : List D} : P.isi T (.d (.tuple i)) = (match kitB "tuple" T with | some b => .ok (.bool b) | none => .bad) := rfl
@[simp] theorem isi_lst {T} {i : List D} : P.isi T (.d (.list i)) = (match kitB "list" T with | some b => .ok (.bool b) | none => .bad) := rfl
@[simp] theorem kb1 : kitB "NoneType" "int" = some false := kb_nn.1
@[simp] theorem kb2 : kitB "NoneType" "bool" = some false := kb_nn.2.1
@[simp] theorem kb3 : kitB "NoneType" "str" = some false := kb_nn.2.2.1
@[simp] theorem kb4 : kitB "NoneType" "tuple" = some false := kb_nn.2.2.2.1
@[simp] theorem kb5 : kitB "NoneType" "list" = some false := kb_nn.2.2.2.2
@[simp] theorem kb6 : kitB "bool" "int" = some true := kb_bl.1
@[simp] theorem kb7 : kitB "bool" "bool" = some true := kb_bl.2.1
@[simp] theorem kb8 : kitB "bool" "str" = some false := kb_bl.2.2.1
@[simp] theorem kb9 : kitB "bool" "tuple" = some false := kb_bl.2.2.2.1
@[simp] theorem kb10 : kitB "bool" "list" = some false := kb_bl.2.2.2.2
@[simp] theorem kb11 : kitB "int" "int" = some true := kb_in.1
@[simp] theorem kb12 : kitB "int" "bool" = some false := kb_in.2.1
@[simp] theorem kb13 : kitB "int" "str" = some false := kb_in.2.2.1
@[simp] theorem kb14 : kitB "int" "tuple" = some false := kb_in.2.2.2.1
@[simp] theorem kb15 : kitB "int" "list" = some false := kb_in.2.2.2.2
@[simp] theorem kb16 : kitB "str" "int" = some false := kb_st.1
@[simp] theorem kb17 : kitB "str" "bool" = some false := kb_st.2.1
@[simp] theorem kb18 : kitB "str" "str" = some true := kb_st.2.2.1
@[simp] theorem kb19 : kitB "str" "tuple" = some false := kb_st.2.2.2.1
@[simp] theorem kb20 : kitB "str" "list" = some false := kb_st.2.2.2.2
@[simp] theorem kb21 : kitB "tuple" "int" = some false := kb_tu.1
@[simp] theorem kb22 : kitB "tuple" "bool" = some false := kb_tu.2.1
@[simp] theorem kb23 : kitB "tuple" "str" = some false := kb_tu.2.2.1
@[simp] theorem kb24 : kitB "tuple" "tuple" = some true := kb_tu.2.2.2.1
@[simp] theorem kb25 : kitB "tuple" "list" = some false := kb_tu.2.2.2.2
@[simp] theorem kb26 : kitB "list" "int" = some false := kb_li.1
@[simp] theorem kb27 : kitB "list" "bool" = some false := kb_li.2.1
@[simp] theorem kb28 : kitB "list" "str" = some false := kb_li.2.2.1
@[simp] theorem kb29 : kitB "list" "tuple" = some false := kb_li.2.2.2.1
@[simp] theorem kb30 : kitB "list" "list" = some true := kb_li.2.2.2.2
/-! ### == -/
@[simp] theorem eq_int {i j : Int} : P.eq (.d (.int i)) (.d (.int j)) = .ok (.bool (i == j)) := by simp [P.eq, opD, SeqAt.shaped, PyData.canLay0, PyData.depth, PyData.eqv]
@[simp] theorem ne_int {i j : Int} : P.ne (.d (.int i)) (.d (.int j)) = .ok (.bool (!(i == j))) := by simp [P.ne, opD, SeqAt.shaped, PyData.canLay0, PyData.depth, PyData.eqv]
@[simp] theorem eq_bool {i j : Bool} : P.eq (.d (.bool i)) (.d (.bool j)) = .ok (.bool (i == j)) := by simp [P.eq, opD, SeqAt.shaped, PyData.canLay0, PyData.depth, PyData.eqv]
/-! ### loops -/
/-- a loop whose turns only go on: its state by what was gone through -/
theorem forGo_inv {tg b fs} {ds : List D} {δ : DSt} (I : Nat → DSt → Prop) (h0 : I 0 (fgt δ fs)) (hs : ∀ i d δ, ds[i]? = some d → I i δ → ∃ δ1 δ2, tg d δ = some δ1 ∧ (b δ1 = .ok (.nx δ2) ∨ b δ1 = .ok (.ct δ2)) ∧ I (i + 1) (fgt δ2 fs)) :
    ∃ δ', forGo tg b fs ds δ = .ok (.nx δ') ∧ I ds.length δ' := by
  suffices H : ∀ (k : Nat) (es : List D) (δ : DSt), ds.drop k = es → k ≤ ds.length → I k (fgt δ fs) → ∃ δ', forGo tg b fs es δ = .ok (.nx δ') ∧ I ds.length δ' from H 0 ds δ (by simp) (Nat.zero_le _) h0
  intro k es
  induction es generalizing k with
  | nil =>
    intro δ hd hk hI
    have : k = ds.length := by
      have := congrArg List.length hd
      simp at this
      omega
    subst this
    exact ⟨_, rfl, hI⟩
  | cons x xs ih =>
    intro δ hd hk hI
    have hlt : k < ds.length := by
      have := congrArg List.length hd
      simp at this
      omega
    have hx : ds[k]? = some x := by
      have := congrArg (·[0]?) hd
      simpa using this
    have hxs : ds.drop (k + 1) = xs := by
      rw [← List.tail_drop, hd]; rfl
    obtain ⟨δ1, δ2, h1, h2, h3⟩ := hs k x _ hx hI
    rw [forGo_cons, h1]
    rcases h2 with h2 | h2
    · simp only [h2, R.bind_ok]
      exact ih (k + 1) δ2 hxs hlt h3
    · simp only [h2, R.bind_ok]
      exact ih (k + 1) δ2 hxs hlt h3
/-- the same, with a break -/
theorem forGo_brk {tg b fs} {ds : List D} {δ : DSt} (I : Nat → DSt → Prop) (J : DSt → Prop) (h0 : I 0 (fgt δ fs)) (hJ : ∀ δ, I ds.length δ → J δ)
    (hs : ∀ i d δ, ds[i]? = some d → I i δ → ∃ δ1 δ2, tg d δ = some δ1 ∧ (((b δ1 = .ok (.nx δ2) ∨ b δ1 = .ok (.ct δ2)) ∧ I (i + 1) (fgt δ2 fs)) ∨ (b δ1 = .ok (.bk δ2) ∧ J (fgt δ2 fs)))) :
    ∃ δ', forGo tg b fs ds δ = .ok (.nx δ') ∧ J δ' := by
  suffices H : ∀ (k : Nat) (es : List D) (δ : DSt), ds.drop k = es → k ≤ ds.length → I k (fgt δ fs) → ∃ δ', forGo tg b fs es δ = .ok (.nx δ') ∧ J δ' from H 0 ds δ (by simp) (Nat.zero_le _) h0
  intro k es
  induction es generalizing k with
  | nil =>
    intro δ hd hk hI
    have : k = ds.length := by
      have := congrArg List.length hd
      simp at this
      omega
    subst this
    exact ⟨_, rfl, hJ _ hI⟩
  | cons x xs ih =>
    intro δ hd hk hI
    have hlt : k < ds.length := by
      have := congrArg List.length hd
      simp at this
      omega
    have hx : ds[k]? = some x := by
      have := congrArg (·[0]?) hd
      simpa using this
    have hxs : ds.drop (k + 1) = xs := by
      rw [← List.tail_drop, hd]; rfl
    obtain ⟨δ1, δ2, h1, h2⟩ := hs k x _ hx hI
    rw [forGo_cons, h1]
    rcases h2 with ⟨h2 | h2, h3⟩ | ⟨h2, h3⟩
    · simp only [h2, R.bind_ok]
      exact ih (k + 1) δ2 hxs hlt h3
    · simp only [h2, R.bind_ok]
      exact ih (k + 1) δ2 hxs hlt h3
    · simp only [h2, R.bind_ok]
      exact ⟨_, rfl, h3⟩
/-- a comprehension that keeps all -/
theorem lcGo_map {tg f δ} {ds : List D} (k : D → D) (h : ∀ d, d ∈ ds → ∃ δ', tg d δ = some δ' ∧ f δ' = .ok (k d)) : lcGo tg (fun _ => R.ok true) f δ ds = .ok (ds.map k) := by
  induction ds with
  | nil => rfl
  | cons x xs ih =>
    obtain ⟨δ', h1, h2⟩ := h x (by simp)
    rw [lcGo_cons, h1]
    simp only [R.bind_ok, if_true, h2]
    rw [ih fun d hd => h d (by simp [hd])]
    rfl
theorem lcGo_filter {tg c f δ} {ds : List D} (p : D → Bool) (k : D → D) (h : ∀ d, d ∈ ds → ∃ δ', tg d δ = some δ' ∧ c δ' = .ok (p d) ∧ (p d = true → f δ' = .ok (k d))) : lcGo tg c f δ ds = .ok ((ds.filter p).map k) := by
  induction ds with
  | nil => rfl
  | cons x xs ih =>
    obtain ⟨δ', h1, h2, h3⟩ := h x (by simp)
    rw [lcGo_cons, h1]
    simp only [h2, R.bind_ok]
    have r := ih fun d hd => h d (by simp [hd])
    cases hp : p x with
    | true =>
      simp only [if_true, h3 hp, R.bind_ok, r, List.filter_cons, hp, List.map_cons]
    | false =>
      simp only [r, List.filter_cons, hp]
      rfl
theorem rngD_mem {lo : Int} {n i : Nat} {d : D} (h : (rngD lo n)[i]? = some d) : i < n ∧ d = .int (lo + (i : Nat)) := by
  have hl := (List.getElem?_eq_some_iff.mp h).1
  rw [rngD_len] at hl
  rw [rngD_get hl] at h
  exact ⟨hl, (Option.some.inj h).symm⟩
theorem atI_in {α : Type} {xs : List α} {i : Int} (h0 : 0 ≤ i) (h1 : i < xs.length) : ∃ x, atI xs i = some x ∧ x ∈ xs := by
  have hk : i.toNat < xs.length := by omega
  refine ⟨xs[i.toNat], ?_, List.getElem_mem hk⟩
  have e : i = ((i.toNat : Nat) : Int) := by omega
  have q : atI xs ((i.toNat : Nat) : Int) = some xs[i.toNat] := atI_nat (List.getElem?_eq_getElem hk)
  rw [← e] at q
  exact q
end Dn

/-! what the laws' own small defs compute: numbers, draw -/
namespace DnL
open PySem PySem.Spec PyProof.Rows L2 Dn
def b_numbers : DSt → R Out := dSeq (dSetN 1 (dLstN dNil)) (dSeq (dFor (dItems (dSlice (dOp (dVar 0)) dNoPart (dPart (dC (.int 63))))) (gN 2) (dIf (dTru (dGe (dVar 2) (dPow (dC (.int 10)) (dC (.int 18))))) (dSeq (dSet 3 (dVar 2)) (dFor (dRng P.range1 (dCons (dC (.int 60)) dNil)) (gN 4) (dSeq (dIf (dTru (d2 P.eq (dOp (dVar 3)) (dOp (dC (.int 0))))) dBrk dNext) (dSeq (dApp 1 (dMod (dToInt (dOp (dVar 3))) (dC (.int 997)))) (dSet 3 (dDiv (dVar 3) (dC (.int 997)))))) [4])) (dFor (dRng P.range1 (dCons (dC (.int 4)) dNil)) (gN 4) (dSeq (dSet 5 (dMod (dToInt (dOp (dAdd (dOp (dAdd (dOp (dMul (dVar 2) (dC (.int 48271)))) (dOp (dMul (dVar 4) (dC (.int 69621)))))) (dOp (dC (.int 11)))))) (dC (.int 2147483647)))) (dApp 1 (dMod (dToInt (dOp (dAdd (dOp (dMul (dVar 5) (dC (.int 16807)))) (dOp (dVar 4))))) (dC (.int 2147483629))))) [4, 5])) [2, 3, 4, 5]) (dSeq (dIf (dTru (d2 P.eq (dOp (dLen (dVarO 1))) (dOp (dC (.int 0))))) (dApp 1 (dC (.int 0))) dNext) ((fun δ => (dRet (dVar 1)) (frz1 1 δ)))))
def b_draw : DSt → R Out := dSeq (dIf (dTru (dLt (dVar 1) (dLen (dOp (dVar 0))))) (dRet (dMod (dToInt (dOp (dIdx (dOp (dVar 0)) (dVar 1)))) (dVar 2))) dNext) (dSeq (dSet 3 (dMod (dToInt (dOp (dAdd (dOp (dAdd (dOp (dMul (dIdx (dOp (dVar 0)) (dMod (dToInt (dOp (dVar 1))) (dLen (dOp (dVar 0))))) (dC (.int 40692)))) (dOp (dMul (dVar 1) (dC (.int 7919)))))) (dOp (dC (.int 3)))))) (dC (.int 2147483399)))) (dRet (dMod (dToInt (dOp (dMod (dToInt (dOp (dAdd (dOp (dMul (dVar 3) (dC (.int 48271)))) (dOp (dVar 1))))) (dC (.int 2147483647))))) (dVar 2))))
def F_numbers : List D → R D := fun ds => (runF 6 b_numbers ds).noer
def F_draw : List D → R D := fun ds => (runF 4 b_draw ds).noer
theorem ge_cut (ns : List Int) : (Dn.cutD (ns.map PyData.int) none (some 63)) = (ns.take 63).map PyData.int := by
  unfold Dn.cutD
  rw [HT.sIx_none, show (some (63 : Int)) = some ((63 : Nat) : Int) from rfl, HT.sIx_nat]
  simp [List.map_take, Nat.min_comm]
theorem map_snoc (ms : List Int) (n : Int) : ms.map PyData.int ++ [PyData.int n] = (ms ++ [n]).map PyData.int := by simp
/-- the row grows by whole numbers alone -/
def Row (s : SV) (m : Nat) (a b : SV) (δ : DSt) : Prop := ∃ ms : List Int, δ = [s, .own (ms.map PyData.int), a, b, .no, .no] ∧ ms.length ≤ m
def RowL (s : SV) (m : Nat) (a : SV) (δ : DSt) : Prop := ∃ l : Int, Row s m a (.dat (.int l)) δ
def great : DSt → R Out := dSeq (dIf (dTru (d2 P.eq (dOp (dVar 3)) (dOp (dC (.int 0))))) dBrk dNext) (dSeq (dApp 1 (dMod (dToInt (dOp (dVar 3))) (dC (.int 997)))) (dSet 3 (dDiv (dVar 3) (dC (.int 997)))))
theorem great_ok (s : SV) (m : Nat) (hm : m ≤ 4000) (c l : Int) (ms : List Int) (hl : ms.length ≤ m) : ∃ δ', forGo (gN 4) great [4] (rngD 0 60) [s, .own (ms.map PyData.int), .dat (.int c), .dat (.int l), .no, .no] = .ok (.nx δ') ∧ RowL s (m + 60) (.dat (.int c)) δ' := by
  refine forGo_brk (fun i δ => i ≤ 60 ∧ RowL s (m + i) (.dat (.int c)) δ) (RowL s (m + 60) (.dat (.int c))) ⟨by decide, l, ms, rfl, hl⟩ (fun δ h => ?_) fun i d δ hd ⟨hi, l, ms, e, hl⟩ => ?_
  · rw [rngD_len] at h
    exact h.2
  · subst e
    obtain ⟨h60, rfl⟩ := rngD_mem hd
    have hlen : ms.length < 100000 := by omega
    by_cases h0 : l = 0
    · subst h0
      refine ⟨_, _, rfl, .inr ⟨by simp [great]; rfl, 0, ms, rfl, by omega⟩⟩
    · refine ⟨_, [s, .own ((ms ++ [l % 997]).map PyData.int), .dat (.int c), .dat (.int (l / 997)), .dat (.int (0 + (i : Nat))), .no], rfl, .inl ⟨.inl (by simp [great, h0, hlen]), by omega, _, _, rfl, by simp; omega⟩⟩
def small : DSt → R Out := dSeq (dSet 5 (dMod (dToInt (dOp (dAdd (dOp (dAdd (dOp (dMul (dVar 2) (dC (.int 48271)))) (dOp (dMul (dVar 4) (dC (.int 69621)))))) (dOp (dC (.int 11)))))) (dC (.int 2147483647)))) (dApp 1 (dMod (dToInt (dOp (dAdd (dOp (dMul (dVar 5) (dC (.int 16807)))) (dOp (dVar 4))))) (dC (.int 2147483629))))
theorem small1 (s : SV) (c j : Int) (ms : List D) (hlen : ms.length < 100000) : ∃ y z : Int, small [s, .own ms, .dat (.int c), .no, .dat (.int j), .no] = .ok (.nx [s, .own (ms ++ [.int y]), .dat (.int c), .no, .dat (.int j), .dat (.int z)]) := by
  refine ⟨((c * 48271 + j * 69621 + 11) % 2147483647 * 16807 + j) % 2147483629, (c * 48271 + j * 69621 + 11) % 2147483647, ?_⟩
  have m1 : ∀ x : Int, cMul x 48271 = true := fun x => mul_r (by decide) (by decide)
  have m2 : ∀ x : Int, cMul x 69621 = true := fun x => mul_r (by decide) (by decide)
  have m3 : ∀ x : Int, cMul x 16807 = true := fun x => mul_r (by decide) (by decide)
  simp [small, m1, m2, m3, hlen]
theorem small_ok (s : SV) (m : Nat) (hm : m ≤ 4000) (c : Int) (ms : List Int) (hl : ms.length ≤ m) : ∃ δ', forGo (gN 4) small [4, 5] (rngD 0 4) [s, .own (ms.map PyData.int), .dat (.int c), .no, .no, .no] = .ok (.nx δ') ∧ Row s (m + 4) (.dat (.int c)) .no δ' := by
  obtain ⟨δ', h1, h2, h3⟩ := forGo_inv (tg := gN 4) (b := small) (fs := [4, 5]) (ds := rngD 0 4) (δ := [s, .own (ms.map PyData.int), .dat (.int c), .no, .no, .no]) (fun i δ => i ≤ 4 ∧ Row s (m + i) (.dat (.int c)) .no δ) ⟨by decide, ms, rfl, hl⟩ fun i d δ hd ⟨hi, ms, e, hl⟩ => by
    subst e
    obtain ⟨h4, rfl⟩ := rngD_mem hd
    obtain ⟨y, z, h⟩ := small1 s c (0 + (i : Nat)) (ms.map PyData.int) (by simp; omega)
    exact ⟨_, _, rfl, .inl h, by omega, ms ++ [y], by rw [← map_snoc]; rfl, by simp; omega⟩
  exact ⟨δ', h1, by rw [rngD_len] at h3; exact h3⟩
theorem numbers_ok (ns : List Int) (hl : ns.length ≤ 63) : ∃ row : List Int, F_numbers [scr (ns.map PyData.int)] = .ok (.list (row.map PyData.int)) ∧ row ≠ [] ∧ row.length ≤ 3900 := by
  unfold F_numbers b_numbers
  simp only [runF, dSeq_ap, dSetN_ap, dLstN_ap, dNil_ap, R.bind_ok]
  rw [if_pos (by decide)]
  simp only [R.bind_ok, dFor_ap, dItems_ap, dSlice_ap, dOp_ap, dVar_ap, dNoPart_ap, dPart_ap, dC_ap]
  have s0 : (List.map SV.dat [scr (ns.map PyData.int)] ++ List.replicate (6 - [scr (ns.map PyData.int)].length) SV.no).set 1 (SV.own []) = [.dat (scr (ns.map PyData.int)), .own [], .no, .no, .no, .no] := rfl
  rw [s0]
  simp only [List.getElem?_cons_zero, R.bind_ok, part_int, slice_scr, ge_cut, items_lst]
  have L := forGo_inv (tg := gN 2) (fs := [2, 3, 4, 5]) (δ := [.dat (scr (ns.map PyData.int)), .own [], .no, .no, .no, .no]) (ds := (ns.take 63).map PyData.int)
    (b := dIf (dTru (dGe (dVar 2) (dPow (dC (.int 10)) (dC (.int 18))))) (dSeq (dSet 3 (dVar 2)) (dFor (dRng P.range1 (dCons (dC (.int 60)) dNil)) (gN 4) great [4])) (dFor (dRng P.range1 (dCons (dC (.int 4)) dNil)) (gN 4) small [4, 5]))
    (fun i δ => i ≤ 63 ∧ Row (.dat (scr (ns.map PyData.int))) (60 * i) .no .no δ) ⟨by decide, [], rfl, by simp⟩ fun i d δ hd ⟨_, ms, e, hlm⟩ => by
    subst e
    have hi : i < 63 := by
      have := (List.getElem?_eq_some_iff.mp hd).1
      simp at this
      omega
    obtain ⟨c, rfl⟩ : ∃ c : Int, d = .int c := by
      rw [List.getElem?_map] at hd
      cases q : (ns.take 63)[i]? with
      | none => rw [q] at hd; cases hd
      | some c => rw [q] at hd; exact ⟨c, (Option.some.inj hd).symm⟩
    by_cases hc : (10 : Int) ^ 18 ≤ c
    · obtain ⟨δ', h1, l, ms', rfl, h3⟩ := great_ok (.dat (scr (ns.map PyData.int))) (60 * i) (by omega) c c ms hlm
      refine ⟨_, [.dat (scr (ns.map PyData.int)), .own (ms'.map PyData.int), .dat (.int c), .dat (.int l), .no, .no], rfl, .inl ?_, by omega, ms', rfl, by omega⟩
      have hc' : (1000000000000000000 : Int) ≤ c := hc
      simp [hc', show Int.toNat 60 = 60 from rfl]
      rw [h1]
    · obtain ⟨δ', h1, ms', rfl, h3⟩ := small_ok (.dat (scr (ns.map PyData.int))) (60 * i) (by omega) c ms hlm
      refine ⟨_, [.dat (scr (ns.map PyData.int)), .own (ms'.map PyData.int), .dat (.int c), .no, .no, .no], rfl, .inl ?_, by omega, ms', rfl, by omega⟩
      have hc' : ¬ (1000000000000000000 : Int) ≤ c := hc
      simp [hc', show Int.toNat 4 = 4 from rfl]
      rw [h1]
  obtain ⟨δ', h1, h2, ms, rfl, h3⟩ := L
  unfold great small at h1
  rw [h1]
  simp only [R.bind_ok]
  by_cases hn : ms = []
  · subst hn
    exact ⟨[0], by simp, by simp, by simp⟩
  · have hn' : ¬ ms.length = 0 := by simpa using hn
    refine ⟨ms, by simp [hn], hn, by omega⟩
theorem draw_ok (row : List Int) (a k : Int) (hr : row ≠ []) (hl : row.length ≤ 100000) (h0 : 0 ≤ a) (hk : 0 < k) : ∃ n : Int, F_draw [.list (row.map PyData.int), .int a, .int k] = .ok (.int n) ∧ 0 ≤ n ∧ n < k := by
  have hk' : ¬ k = 0 := by omega
  have m1 : ∀ x : Int, cMul x 40692 = true := fun x => mul_r (by decide) (by decide)
  have m2 : ∀ x : Int, cMul x 7919 = true := fun x => mul_r (by decide) (by decide)
  have m3 : ∀ x : Int, cMul x 48271 = true := fun x => mul_r (by decide) (by decide)
  have hpos : 0 < row.length := List.length_pos_iff.mpr hr
  by_cases ha : a < row.length
  · obtain ⟨d, h1, h2⟩ := atI_in (xs := row.map PyData.int) (i := a) h0 (by simpa using ha)
    obtain ⟨c, _, rfl⟩ := List.mem_map.mp h2
    refine ⟨c % k, ?_, Int.emod_nonneg _ hk', Int.emod_lt_of_pos _ hk⟩
    simp [F_draw, runF, b_draw, ha, h1, hk]
  · obtain ⟨d, h1, h2⟩ := atI_in (xs := row.map PyData.int) (i := a % (row.length : Int)) (Int.emod_nonneg _ (by omega)) (by simpa using Int.emod_lt_of_pos a (by omega : (0 : Int) < row.length))
    obtain ⟨c, _, rfl⟩ := List.mem_map.mp h2
    have hp : (0 : Int) < row.length := by omega
    refine ⟨((c * 40692 + a * 7919 + 3) % 2147483399 * 48271 + a) % 2147483647 % k, ?_, Int.emod_nonneg _ hk', Int.emod_lt_of_pos _ hk⟩
    simp [F_draw, runF, b_draw, ha, h1, hk, m1, m2, m3, hpos]
end DnL

namespace Dn
open PySem PySem.Spec PyProof.Rows L2

def dYesN : DSt → R Bool := fun δ => (dYes δ).noer
section
variable {G : Str → Addr} {E : XK} {X : Cx} {pos p p2 : Pos} {a b c e : Expr} {es : List Expr}
/-! ### a <= b < c, ints -/
def IntOp (X : Cx) (o : CmpOp) (g : Int → Int → Bool) : Prop := OpR X (compareOp o) (rI0 fun i j => .bl (g i j))
theorem io_lt : IntOp X .Lt fun i j => decide (i < j) := op_lt
theorem io_le : IntOp X .LtE fun i j => decide (i ≤ j) := op_le
theorem io_gt : IntOp X .Gt fun i j => decide (j < i) := op_gt
theorem io_ge : IntOp X .GtE fun i j => decide (j ≤ i) := op_ge
abbrev gLt : Int → Int → Bool := fun i j => decide (i < j)
abbrev gLe : Int → Int → Bool := fun i j => decide (i ≤ j)
abbrev gGt : Int → Int → Bool := fun i j => decide (j < i)
abbrev gGe : Int → Int → Bool := fun i j => decide (j ≤ i)
def dChain (g g' : Int → Int → Bool) (f k l : DSt → R D) : DSt → R D := fun δ => (f δ).bind fun x => (k δ).bind fun y => (P.cmp g x y).bind fun z => (P.tru z).bind fun q => if q then (l δ).bind fun w => P.cmp g' y w else .ok (.bool false)
theorem ev_chain {K : PySem.W.Frag} {g g' : Int → Int → Bool} {ta tb tc : TE} {f k l} (ha : Ev K G E (rV K) ta f) (hb : Ev K G E (rV K) tb k) (hc : Ev K G E (rV K) tc l) :
    Ev K G E (rV K) (tChain (rI0 fun i j => .bl (g i j)) (rI0 fun i j => .bl (g' i j)) ta tb tc) (dChain g g' f k l) := fun B δ σ H0 H s =>
  at_bind (t := ta σ H) (k := fun x H1 Q => tb σ H1 fun y H2 => rI0 (fun i j => .bl (g i j)) x y H2 fun z H3 => ∃ k, z = .bl k ∧ (if k = true then tc σ H3 fun w' H4 => rI0 (fun i j => .bl (g' i j)) y w' H4 Q else Q (.bl false) H3)) mV (ha B δ σ H0 H s) fun x v H1 H1' u rx =>
  at_bind (t := tb σ H1') (k := fun y H2 Q => rI0 (fun i j => .bl (g i j)) v y H2 fun z H3 => ∃ k, z = .bl k ∧ (if k = true then tc σ H3 fun w' H4 => rI0 (fun i j => .bl (g' i j)) y w' H4 Q else Q (.bl false) H3)) mV (hb B δ σ H1 H1' (s.up u)) fun y w H2 H2' u2 ry => by
    cases x with
    | int i =>
      cases y with
      | int j =>
        cases (show Rp K H1 v _ from rx); cases (show Rp K H2 w _ from ry)
        show At K G E (rV K) H2 H2' _ (if g i j = true then (l δ).bind fun w => P.cmp g' (PyData.int j) w else R.ok (PyData.bool false))
        cases q : g i j with
        | true =>
          refine At.imp (t := fun Q => tc σ H2' fun w' H4 => rI0 (fun i j => .bl (g' i j)) (.int j) w' H4 Q) (at_bind (t := tc σ H2') (k := fun w' H4 Q => rI0 (fun i j => .bl (g' i j)) (.int j) w' H4 Q) mV (hc B δ σ H2 H2' ((s.up u).up u2)) fun z w' H3 H3' u3 rz => ?_) fun Q h => ⟨i, j, rfl, rfl, true, congrArg V.bl q, h⟩
          cases z with
          | int k =>
            cases (show Rp K H3 w' _ from rz)
            exact fun Q h => ⟨_, _, rfl, rfl, h _ H3 H3' (.refl u3.b) (.bl _)⟩
          | _ => exact True.intro
        | false => exact fun Q h => ⟨i, j, rfl, rfl, false, congrArg V.bl q, h _ H2 H2' (.refl u2.b) (.bl _)⟩
      | _ => exact True.intro
    | _ => exact True.intro
theorem de_chain {o o' : CmpOp} {g g' : Int → Int → Bool} {f k l} (ho : IntOp X o g) (ho' : IntOp X o' g') (ha : De G E X a f) (hb : De G E X b k) (hc : De G E X c l) (hm : lastMarks [o, o'] [b, c] = false := by with_unfolding_all rfl) :
    De G E X (.Compare a [o, o'] [b, c] pos) (dChain g g' f k l) := by
  obtain ⟨t, h1, h2⟩ := ha
  obtain ⟨u, k1, k2⟩ := hb
  obtain ⟨w, l1, l2⟩ := hc
  exact ⟨_, pe_chain ho ho' h1 k1 l1 hm, ev_chain h2 k2 l2⟩
theorem dt_chain {o o' : CmpOp} {g g' : Int → Int → Bool} {f k l} (ho : IntOp X o g) (ho' : IntOp X o' g') (ha : De G E X a f) (hb : De G E X b k) (hc : De G E X c l) (hm : lastMarks [o, o'] [b, c] = false := by with_unfolding_all rfl) :
    Dt G E X (.Compare a [o, o'] [b, c] pos) (dTru (dChain g g' f k l)) := by
  obtain ⟨t, h1, h2⟩ := ha
  obtain ⟨u, k1, k2⟩ := hb
  obtain ⟨w, l1, l2⟩ := hc
  refine ⟨_, pt_chain ho ho' h1 k1 l1 hm, fun B δ σ H0 H s => at_bind (t := tChain (rI0 fun i j => .bl (g i j)) (rI0 fun i j => .bl (g' i j)) t u w σ H) mB (ev_chain h2 k2 l2 B δ σ H0 H s) fun x v H1 H1' u rx => ?_⟩
  unfold P.tru
  split
  · cases (show Rp X.K H1 v _ from rx)
    exact fun Q q => ⟨_, rfl, q _ H1 H1' (.refl u.b) rfl⟩
  · exact True.intro

/-! ### ints within data -/
def intsD : List D → Option (List Int)
  | [] => some []
  | .int i :: ds => (intsD ds).map (i :: ·)
  | _ => none
theorem intsD_eq : ∀ {ds : List D} {ns : List Int}, intsD ds = some ns → ds = ns.map PyData.int
  | [], _, h => by cases h; rfl
  | .int i :: ds, _, h => by
    unfold intsD at h
    cases q : intsD ds with
    | none => rw [q] at h; cases h
    | some ms =>
      rw [q] at h
      cases h
      rw [intsD_eq q]
      rfl
theorem intsD_map : ∀ ns : List Int, intsD (ns.map PyData.int) = some ns
  | [] => rfl
  | n :: ns => by
    show (intsD (ns.map PyData.int)).map _ = _
    rw [intsD_map ns]
    rfl
/-! ### < of ints and of tuples of ints -/
def tupI : D → Option (List Int)
  | .tuple ds => intsD ds
  | _ => none
theorem tupI_eq {d : D} {ns : List Int} (h : tupI d = some ns) : d = .tuple (ns.map PyData.int) := by
  cases d with
  | tuple ds => rw [intsD_eq h]
  | _ => cases h
theorem tupI_rp {K : PySem.W.Frag} {H0 H : Hp} {v : V} {d : D} {ns : List Int} (e : Same H0 H) (r : Rp K H0 v d) (h : tupI d = some ns) : ∃ t, v = .ref t ∧ SqT K H t (ns.map V.int) := by
  have := tupI_eq h
  subst this
  cases r with
  | tup h1 h2 =>
    have z := RpAll.ints h2
    subst z
    exact ⟨_, rfl, same_t e h1⟩
def P.ltG (x y : D) : R D := match x, y with
  | .int i, .int j => .ok (.bool (decide (i < j)))
  | _, _ => match tupI x, tupI y with
    | some a, some b => .ok (.bool (HT.lexLt a b))
    | _, _ => .bad
def dLtG (f g : DSt → R D) : DSt → R D := fun δ => (f δ).bind fun x => (g δ).bind fun y => P.ltG x y
theorem dc_ltG {f g} (hu : X.A.units < cLine) (ha : De G E X a f) (hb : De G E X b g) : DC G E X .Lt a b (dLtG f g) := by
  obtain ⟨t, h1, h2⟩ := ha
  obtain ⟨u, k1, k2⟩ := hb
  refine ⟨_, _, _, op_or op_lt (op_ltT hu), h1, k1, nomark _, ev_op sV mV h2 k2 fun x y v w Hs Hs' H0 H e rx ry => ?_⟩
  unfold P.ltG
  split
  · cases (show Rp X.K H0 v _ from rx); cases (show Rp X.K H0 w _ from ry)
    exact fun Q k => .inl ⟨_, _, rfl, rfl, k _ H0 H (.refl e) (.bl _)⟩
  · split
    · rename_i a b ha hb
      obtain ⟨t, rfl, ht⟩ := tupI_rp e rx ha
      obtain ⟨t', rfl, ht'⟩ := tupI_rp e ry hb
      exact fun Q k => .inr ⟨_, _, _, _, rfl, rfl, ht, ht', k _ H0 H (.refl e) (.bl _)⟩
    · exact True.intro

/-! ### in, not in, whatever the items are -/
theorem hu65 {k : Nat} {A : Around} (r : Room k A) : A.units + 65 < cLine := by have := r.un; omega
def rInS (K : PySem.W.Frag) (n : Bool) : R2 := fun x y H Q => ∃ d ds, Dp K H x d ∧ (Dp K H y (.list ds) ∧ SeqAt.shaped (.list ds) = true ∨ Dp K H y (.tuple ds) ∧ SeqAt.shaped (.tuple ds) = true) ∧ SeqAt.shaped d = true ∧ Q (.bl (if n then !ds.any fun z => PyData.eqv z d else ds.any fun z => PyData.eqv z d)) H
theorem op_inS (hu : X.A.units + 65 < cLine) : OpR X (compareOp .In) (rInS X.K false) := by
  intro pins s σ H x y v u Q I rx ry h
  obtain ⟨d, ds, hd, he, sd, q⟩ := h
  obtain ⟨as, r1⟩ := Dp.reads I d x v hd rx
  rcases he with ⟨he, se⟩ | ⟨he, se⟩
  · obtain ⟨bs, r2⟩ := Dp.reads I (.list ds) y u he ry
    exact SeqAt.in_list_reads r2 r1 (SeqAt.canLay_of_shaped se) (SeqAt.canLay_of_shaped sd) (room_in_shaped sd hu) ⟨.bl _, H, I, rfl, q⟩
  · obtain ⟨bs, r2⟩ := Dp.reads I (.tuple ds) y u he ry
    exact SeqAt.in_tuple_reads r2 r1 (SeqAt.canLay_of_shaped se) (SeqAt.canLay_of_shaped sd) (room_in_shaped sd hu) ⟨.bl _, H, I, rfl, q⟩
theorem op_notInS (hu : X.A.units + 65 < cLine) : OpR X (compareOp .NotIn) (rInS X.K true) := by
  intro pins s σ H x y v u Q I rx ry h
  obtain ⟨d, ds, hd, he, sd, q⟩ := h
  obtain ⟨as, r1⟩ := Dp.reads I d x v hd rx
  rcases he with ⟨he, se⟩ | ⟨he, se⟩
  · obtain ⟨bs, r2⟩ := Dp.reads I (.list ds) y u he ry
    exact SeqAt.notIn_list_reads r2 r1 (SeqAt.canLay_of_shaped se) (SeqAt.canLay_of_shaped sd) (room_in_shaped sd hu) ⟨.bl _, H, I, rfl, q⟩
  · obtain ⟨bs, r2⟩ := Dp.reads I (.tuple ds) y u he ry
    exact SeqAt.notIn_tuple_reads r2 r1 (SeqAt.canLay_of_shaped se) (SeqAt.canLay_of_shaped sd) (room_in_shaped sd hu) ⟨.bl _, H, I, rfl, q⟩
def seqD : Op → Option (List D)
  | .o ds => some ds
  | .d (.list ds) => some ds
  | .d (.tuple ds) => some ds
  | _ => none
def P.inS (neg : Bool) (x : D) (y : Op) : R D := match seqD y with
  | some ds => if (flatD x && ds.all flatD) || (SeqAt.shaped x && SeqAt.shaped (opD y)) then .ok (.bool (if neg then !ds.any fun z => PyData.eqv z x else ds.any fun z => PyData.eqv z x)) else .bad
  | none => P.inF neg x y
def dInS (neg : Bool) (f : DSt → R D) (g : DSt → R Op) : DSt → R D := fun δ => (f δ).bind fun x => (g δ).bind fun y => P.inS neg x y
theorem seqD_asSq {y : Op} {ds : List D} (h : seqD y = some ds) : asSq y = some ds := by
  cases y with
  | o es => exact h
  | d d => cases d <;> first | exact h | cases h
theorem in_dp {K : PySem.W.Frag} {Hs H0 H : Hp} {v : V} {y : Op} {ds : List D} (e : Same H0 H) (r : rP K Hs H0 H v y) (h : seqD y = some ds) (q : SeqAt.shaped (opD y) = true) :
    Dp K H v (.list ds) ∧ SeqAt.shaped (.list ds) = true ∨ Dp K H v (.tuple ds) ∧ SeqAt.shaped (.tuple ds) = true := by
  have z := op_dp e r q
  cases y with
  | o es => cases h; exact .inl ⟨z, q⟩
  | d d =>
    cases d with
    | list es => cases h; exact .inl ⟨z, q⟩
    | tuple es => cases h; exact .inr ⟨z, q⟩
    | _ => cases h
theorem dc_inS {f g} (hm : behindInMarks .In b = false) (hu : X.A.units + 65 < cLine) (ha : De G E X a f) (hb : DO G E X b g) : DC G E X .In a b (dInS false f g) := by
  obtain ⟨t, h1, h2⟩ := ha
  obtain ⟨u, k1, k2⟩ := hb
  refine ⟨_, _, _, op_or (op_or op_in_seq op_in_sign) (op_inS hu), h1, k1, hm, ev_op sV mV h2 k2 fun x y v w Hs Hs' H0 H e rx ry => ?_⟩
  unfold P.inS
  split
  · rename_i ds hd
    split
    · rename_i q
      cases q1 : flatD x && ds.all flatD with
      | true =>
        simp only [Bool.and_eq_true] at q1
        obtain ⟨p', vs, rfl, hq, r⟩ := as_sq e ry (seqD_asSq hd)
        obtain ⟨i1, i2⟩ := in_rp rx q1.1 r q1.2
        refine fun Q k => .inl (.inl ⟨_, _, rfl, hq, flat_rp rx q1.1, i1, ?_⟩)
        rw [i2]
        exact k _ H0 H (.refl e) (.bl _)
      | false =>
        rw [q1, Bool.false_or, Bool.and_eq_true] at q
        exact fun Q k => .inr ⟨_, _, (Rp.mono e rx).dp (SeqAt.canLay_of_shaped q.1), in_dp e ry hd q.2, q.1, k _ H0 H (.refl e) (.bl _)⟩
    · exact True.intro
  · unfold P.inF
    split
    · rename_i ds hd
      split
      · rename_i q
        simp only [Bool.and_eq_true] at q
        obtain ⟨p', vs, rfl, hq, r⟩ := as_sq e ry hd
        obtain ⟨i1, i2⟩ := in_rp rx q.1 r q.2
        refine fun Q k => .inl (.inl ⟨_, _, rfl, hq, flat_rp rx q.1, i1, ?_⟩)
        rw [i2]
        exact k _ H0 H (.refl e) (.bl _)
      · exact True.intro
    · split
      · split
        · rename_i c hc
          cases (show Rp X.K H0 v _ from rx); cases (show Rp X.K H0 w _ from ry)
          exact fun Q k => .inl (.inr ⟨c, _, by rw [← str1 hc], rfl, k _ H0 H (.refl e) (.bl _)⟩)
        · exact True.intro
      · exact True.intro
theorem dc_notInS {f g} (hm : behindInMarks .NotIn b = false) (hu : X.A.units + 65 < cLine) (ha : De G E X a f) (hb : DO G E X b g) : DC G E X .NotIn a b (dInS true f g) := by
  obtain ⟨t, h1, h2⟩ := ha
  obtain ⟨u, k1, k2⟩ := hb
  refine ⟨_, _, _, op_or (op_or op_notIn_seq op_notIn_sign) (op_notInS hu), h1, k1, hm, ev_op sV mV h2 k2 fun x y v w Hs Hs' H0 H e rx ry => ?_⟩
  unfold P.inS
  split
  · rename_i ds hd
    split
    · rename_i q
      cases q1 : flatD x && ds.all flatD with
      | true =>
        simp only [Bool.and_eq_true] at q1
        obtain ⟨p', vs, rfl, hq, r⟩ := as_sq e ry (seqD_asSq hd)
        obtain ⟨i1, i2⟩ := in_rp rx q1.1 r q1.2
        refine fun Q k => .inl (.inl ⟨_, _, rfl, hq, flat_rp rx q1.1, i1, ?_⟩)
        rw [i2]
        exact k _ H0 H (.refl e) (.bl _)
      | false =>
        rw [q1, Bool.false_or, Bool.and_eq_true] at q
        exact fun Q k => .inr ⟨_, _, (Rp.mono e rx).dp (SeqAt.canLay_of_shaped q.1), in_dp e ry hd q.2, q.1, k _ H0 H (.refl e) (.bl _)⟩
    · exact True.intro
  · unfold P.inF
    split
    · rename_i ds hd
      split
      · rename_i q
        simp only [Bool.and_eq_true] at q
        obtain ⟨p', vs, rfl, hq, r⟩ := as_sq e ry hd
        obtain ⟨i1, i2⟩ := in_rp rx q.1 r q.2
        refine fun Q k => .inl (.inl ⟨_, _, rfl, hq, flat_rp rx q.1, i1, ?_⟩)
        rw [i2]
        exact k _ H0 H (.refl e) (.bl _)
      · exact True.intro
    · split
      · split
        · rename_i c hc
          cases (show Rp X.K H0 v _ from rx); cases (show Rp X.K H0 w _ from ry)
          exact fun Q k => .inl (.inr ⟨c, _, by rw [← str1 hc], rfl, k _ H0 H (.refl e) (.bl _)⟩)
        · exact True.intro
      · exact True.intro

/-! ### str(n) -/
def P.str : Op → R D
  | .d (.int i) => if i.natAbs.log2 < 1920 then .ok (.str (toString i)) else .bad
  | _ => .bad
theorem de_strI {f} (hg : Gl X "str") (hm : X.mg "str" = none) (hv : bootBuiltins "str" = some (.type "str")) (ha : DO G E X e f) (he : starEach [e] X.env = (false, eval e X.env) :: starEach [] X.env := by rfl) (hpl : (backTo pos (starEach [] X.env)).any (·.1) = false := by rfl) :
    De G E X (.Call (.Name "str" p) [e] [] pos) (d1 P.str f) := by
  obtain ⟨t, h1, h2⟩ := ha
  refine ⟨_, pe_callTy call_str_int hg hm hv (pa_cons h1 pa_nil he) (by decide) (by decide) he hpl, ev_cb1 mV h2 fun x v Hs H0 H e rx => ?_⟩
  unfold P.str
  split
  · split
    · rename_i q
      cases (show Rp X.K H0 v _ from rx)
      exact fun Q k => ⟨_, rfl, q, k _ H0 H (.refl e) (.str _)⟩
    · exact True.intro
  · exact True.intro

/-! ### sorted(xs), xs of tuples of ints -/
def BIG : Int := 1000000000000000000000000000000
def bigI (n : Int) : Bool := decide (0 ≤ n) && decide (n < BIG)
theorem bd_of {ns : List Int} (h : ns.all bigI = true) : TS.Bd BIG ns := fun m hm => by
  have z := List.all_eq_true.mp h m hm
  unfold bigI at z
  simpa using z
theorem code_lex : ∀ {x y : List Int}, x.length = y.length → TS.Bd BIG x → TS.Bd BIG y → (TS.code BIG x < TS.code BIG y ↔ HT.lexLt x y = true)
  | [], [], _, _, _ => by simp [HT.lexLt, TS.code]
  | [], _ :: _, h, _, _ => by cases h
  | _ :: _, [], h, _, _ => by cases h
  | i :: x, j :: y, h, hx, hy => by
    have hl : x.length = y.length := by simpa using h
    have ih := code_lex hl hx.tail hy.tail
    rcases Int.lt_trichotomy i j with q | q | q
    · have z := TS.code_lt hl hx.tail hy.tail q
      have n2 : ¬ i = j := by omega
      simp [HT.lexLt, z, q, n2]
    · subst q
      rw [TS.code_same hl, ih]
      simp [HT.lexLt]
    · have z := TS.code_lt hl.symm hy.tail hx.tail q
      have n1 : ¬ i < j := by omega
      have n2 : ¬ i = j := by omega
      simp [HT.lexLt, n1, n2]
      omega
def keyI (d : D) : List Int := (tupI d).getD []
def leT (x y : D) : Bool := !HT.lexLt (keyI y) (keyI x)
def sortT (ds : List D) : List D := ds.mergeSort leT
theorem lexLt_cons {i j : Int} {x y : List Int} : HT.lexLt (i :: x) (j :: y) = true ↔ i < j ∨ (i = j ∧ HT.lexLt x y = true) := by
  by_cases q : i = j
  · subst q; simp [HT.lexLt]
  · simp [HT.lexLt, q]
theorem lexLt_irrefl : ∀ x : List Int, HT.lexLt x x = false
  | [] => rfl
  | i :: x => by simp [HT.lexLt, lexLt_irrefl x]
theorem lexLt_trans : ∀ {x y z : List Int}, HT.lexLt x y = true → HT.lexLt y z = true → HT.lexLt x z = true
  | x, [], z, h, _ => by cases x <;> simp [HT.lexLt] at h
  | _, _ :: _, [], _, h => by simp [HT.lexLt] at h
  | [], _ :: _, _ :: _, _, _ => by simp [HT.lexLt]
  | i :: x, j :: y, k :: z, h, h' => by
    rw [lexLt_cons] at h h' ⊢
    rcases h with h | ⟨rfl, h⟩ <;> rcases h' with h' | ⟨rfl, h'⟩
    · exact .inl (by omega)
    · exact .inl h
    · exact .inl h'
    · exact .inr ⟨rfl, lexLt_trans h h'⟩
theorem lexLt_tri : ∀ {x y : List Int}, HT.lexLt x y = false → HT.lexLt y x = false → x = y
  | [], [], _, _ => rfl
  | [], _ :: _, h, _ => by simp [HT.lexLt] at h
  | _ :: _, [], _, h => by simp [HT.lexLt] at h
  | i :: x, j :: y, h, h' => by
    have key : i = j ∧ HT.lexLt x y = false ∧ HT.lexLt y x = false := by
      rcases Int.lt_trichotomy i j with q | q | q
      · rw [lexLt_cons.mpr (.inl q)] at h
        cases h
      · subst q
        simp [HT.lexLt] at h h'
        exact ⟨rfl, h, h'⟩
      · rw [lexLt_cons.mpr (.inl q)] at h'
        cases h'
    rw [key.1, lexLt_tri key.2.1 key.2.2]
theorem leT_trans (a b c : D) (h : leT a b = true) (h' : leT b c = true) : leT a c = true := by
  unfold leT at h h' ⊢
  simp only [Bool.not_eq_true', ] at h h' ⊢
  cases q : HT.lexLt (keyI c) (keyI a) with
  | false => rfl
  | true =>
    exfalso
    cases q2 : HT.lexLt (keyI a) (keyI b) with
    | true =>
      rw [lexLt_trans q q2] at h'
      cases h'
    | false =>
      have e := lexLt_tri q2 h
      rw [e] at q
      rw [q] at h'
      cases h'
theorem leT_total (a b : D) : (leT a b || leT b a) = true := by
  unfold leT
  cases q : HT.lexLt (keyI b) (keyI a) with
  | false => rfl
  | true =>
    cases q2 : HT.lexLt (keyI a) (keyI b) with
    | false => rfl
    | true =>
      have z := lexLt_trans q q2
      rw [lexLt_irrefl] at z
      cases z
theorem sortT_perm (ds : List D) : (sortT ds).Perm ds := List.mergeSort_perm _ _
theorem sortT_pw (ds : List D) : (sortT ds).Pairwise fun x y => leT x y = true := List.pairwise_mergeSort leT_trans leT_total ds
theorem RpAll.perm {K : PySem.W.Frag} {H : Hp} {xs ys : List V} (h : xs.Perm ys) : ∀ {ds : List D}, RpAll K H xs ds → ∃ es, RpAll K H ys es ∧ ds.Perm es := by
  induction h with
  | nil => exact fun r => ⟨_, r, .refl _⟩
  | cons x _ ih =>
    intro ds r
    cases r with
    | cons r1 r2 =>
      obtain ⟨es, h1, h2⟩ := ih r2
      exact ⟨_ :: es, .cons r1 h1, .cons _ h2⟩
  | swap x y l =>
    intro ds r
    cases r with
    | cons r1 r2 =>
      cases r2 with
      | cons r2 r3 => exact ⟨_, .cons r2 (.cons r1 r3), .swap _ _ _⟩
  | trans _ _ ih1 ih2 =>
    intro ds r
    obtain ⟨es, h1, h2⟩ := ih1 r
    obtain ⟨fs, h3, h4⟩ := ih2 h1
    exact ⟨fs, h3, h2.trans h4⟩
theorem RpAll.mem' {K : PySem.W.Frag} {H : Hp} : ∀ {xs : List V} {ds : List D} {v : V}, RpAll K H xs ds → v ∈ xs → ∃ d, d ∈ ds ∧ Rp K H v d
  | _, _, _, .nil, h => by cases h
  | _, _, v, .cons r t, h => by
    rcases List.mem_cons.mp h with q | q
    · subst q; exact ⟨_, List.mem_cons_self .., r⟩
    · obtain ⟨d, h1, h2⟩ := RpAll.mem' t q
      exact ⟨d, List.mem_cons_of_mem _ h1, h2⟩
theorem RpAll.pw {K : PySem.W.Frag} {H : Hp} {S : V → V → Prop} {T : D → D → Prop} (hst : ∀ x y d e, Rp K H x d → Rp K H y e → S x y → T d e) : ∀ {xs : List V} {ds : List D}, RpAll K H xs ds → xs.Pairwise S → ds.Pairwise T
  | _, _, .nil, _ => .nil
  | _, _, .cons r t, h => by
    cases h with
    | cons h1 h2 =>
      refine .cons (fun e he => ?_) (RpAll.pw hst t h2)
      have key : ∀ {xs : List V} {ds : List D}, RpAll K H xs ds → ∀ e ∈ ds, ∃ v, v ∈ xs ∧ Rp K H v e := by
        intro xs ds r e he
        obtain ⟨i, hi, rfl⟩ := List.getElem_of_mem he
        obtain ⟨v, hv, rv⟩ := r.get (List.getElem?_eq_getElem hi)
        exact ⟨v, List.mem_of_getElem? hv, rv⟩
      obtain ⟨v, hv, rv⟩ := key t e he
      exact hst _ _ _ _ r rv (h1 v hv)
/-- all are tuples of n ints that are not too great -/
def okT (n : Nat) (d : D) : Bool := match tupI d with
  | some ns => ns.length == n && ns.all bigI
  | none => false
def P.sortedN (x : Op) : R (List D) := match asL x with
  | some ds => if decide (ds.length < 64) && ds.all (okT ((ds.head?.bind tupI).map List.length |>.getD 1)) && decide (1 ≤ ((ds.head?.bind tupI).map List.length |>.getD 1)) then .ok (sortT ds) else .bad
  | none => .bad
def rSortAny (K : PySem.W.Frag) : List V → Hp → VK → Prop := fun vs H Q => ∃ d, 1 ≤ d ∧ rSortU K d BIG vs H Q
theorem cr_sortAny : CallR X (.builtin "sorted") (rSortAny X.K) := by
  intro pins s σ H vs us Q I r h
  obtain ⟨d, hd, h⟩ := h
  exact cr_sortT hd pins s σ H vs us Q I r h
def dSorted (f : DSt → R Op) : DSt → R (List D) := fun δ => (f δ).bind P.sortedN
theorem okT_of {n : Nat} {d : D} (h : okT n d = true) : ∃ ns, tupI d = some ns ∧ ns.length = n ∧ TS.Bd BIG ns := by
  unfold okT at h
  split at h
  · rename_i ns q
    simp only [Bool.and_eq_true, beq_iff_eq] at h
    exact ⟨ns, q, h.1, bd_of h.2⟩
  · cases h
theorem dn_sorted {f} (hg : Gl X "sorted") (hm : X.mg "sorted" = none) (hv : bootBuiltins "sorted" = some (.builtin "sorted")) (ha : DO G E X e f) (he : starEach [e] X.env = (false, eval e X.env) :: starEach [] X.env := by rfl) (hpl : (backTo pos (starEach [] X.env)).any (·.1) = false := by rfl) :
    DN G E X (.Call (.Name "sorted" p) [e] [] pos) (dSorted f) := by
  obtain ⟨t, h1, h2⟩ := ha
  refine ⟨_, pe_callB cr_sortAny hg hm hv (pa_cons h1 pa_nil he) (by decide) (by decide) he hpl, ev_cb1 mN h2 fun x v Hs H0 H e rx => ?_⟩
  unfold P.sortedN
  cases q : asL x with
  | none => exact True.intro
  | some ds =>
    show At X.K G E (rN X.K) H0 H _ (if _ then _ else _)
    split
    · rename_i c
      simp only [Bool.and_eq_true, decide_eq_true_eq] at c
      obtain ⟨⟨c1, c2⟩, c3⟩ := c
      generalize ((ds.head?.bind tupI).map List.length).getD 1 = n at c2 c3
      obtain ⟨a, vs, rfl, hq, r⟩ := as_l e rx q
      have okA := List.all_eq_true.mp c2
      refine fun Q k => ⟨n, c3, a, vs, rfl, hq, by rw [r.length]; exact c1, fun x hx => ?_, fun ys p' hp pw hn => ?_⟩
      · obtain ⟨d, hd, rd⟩ := r.mem' hx
        obtain ⟨ns, t1, t2, t3⟩ := okT_of (okA d hd)
        exact ⟨ns, tupI_rp e rd t1, t2, t3⟩
      · obtain ⟨fs, r2, pf⟩ := r.perm hp.symm
        have okF : ∀ d ∈ fs, okT n d = true := fun d hd => okA d (pf.mem_iff.mpr hd)
        have pw2 : fs.Pairwise fun x y => leT x y = true := by
          have pw1 : fs.Pairwise fun x y => okT n x = true → okT n y = true → leT x y = true := by
            refine RpAll.pw (fun x y d e' rx ry h od oe => ?_) r2 pw
            obtain ⟨ns, t1, t2, t3⟩ := okT_of od
            obtain ⟨ms, u1, u2, u3⟩ := okT_of oe
            have z := h ns ms (tupI_rp e rx t1) (tupI_rp e ry u1)
            unfold leT keyI
            rw [t1, u1]
            show (!HT.lexLt ms ns) = true
            cases w : HT.lexLt ms ns with
            | false => rfl
            | true =>
              have := (code_lex (by rw [u2, t2]) u3 t3).mpr w
              omega
          exact pw1.imp_of_mem fun h1 h2 h => h (okF _ h1) (okF _ h2)
        have eq : sortT ds = fs := by
          refine List.Perm.eq_of_pairwise (le := fun x y => leT x y = true) (fun x y hx hy h1 h2 => ?_) (sortT_pw ds) pw2 ((sortT_perm ds).trans pf)
          have ox : okT n x = true := okA x ((sortT_perm ds).mem_iff.mp hx)
          have oy := okF y hy
          obtain ⟨ns, t1, t2, t3⟩ := okT_of ox
          obtain ⟨ms, u1, u2, u3⟩ := okT_of oy
          unfold leT keyI at h1 h2
          rw [t1, u1] at h1 h2
          have e1 : HT.lexLt ms ns = false := by simpa using h1
          have e2 : HT.lexLt ns ms = false := by simpa using h2
          rw [tupI_eq t1, tupI_eq u1, lexLt_tri e2 e1]
        rw [eq] at k
        exact at_newN (G := G) (E := E) e r2 Q k p' hn
    · exact True.intro
end
end Dn

namespace Dn
open PySem PySem.Spec PyProof.Rows L2

/-! ### zip of any two of list, tuple, text -/
inductive Src where
  | l (a : Addr)
  | t (a : Addr)
  | s (z : Str)
def Src.v : Src → V
  | .l a => .ref a
  | .t a => .ref a
  | .s z => .str z
def Src.fp : Src → List Addr
  | .l a => [a]
  | .t a => [a]
  | .s _ => []
def Src.has (K : PySem.W.Frag) (H : Hp) : Src → List V → Prop
  | .l a, xs => SqL K H a xs
  | .t a, xs => SqT K H a xs
  | .s z, xs => xs = z.cps.toList.map fun c => V.str ⟨#[c]⟩
def Src.st (it : Addr) (k : Tok) (i : Nat) (h : Heap) : Src → Prop
  | .l a => h.IsListIter it a i
  | .t a => h.IsTupleIter it a i
  | .s z => h.IsStrIter it (strIterType z) z k i
theorem Src.keep {S : Src} {it : Addr} {k : Tok} {i : Nat} {h h' : Heap} (x : S.st it k i h) (hk : ∀ o, h.get? it = some o → h'.get? it = some o) : S.st it k i h' := by
  cases S with
  | l a => exact Heap.IsListIter.at x hk
  | t a => exact Heap.IsTupleIter.at x hk
  | s z =>
    obtain ⟨o, e, r⟩ := x
    exact ⟨o, hk _ e, r⟩
theorem Src.live {S : Src} {it : Addr} {k : Tok} {i : Nat} {h : Heap} (x : S.st it k i h) : ∃ o, h.get? it = some o ∧ ∀ v, o.data ≠ .cell v := by
  cases S with
  | l a => obtain ⟨o, e, _, d⟩ := x; exact ⟨o, e, fun v q => by rw [d] at q; cases q⟩
  | t a => obtain ⟨o, e, _, d⟩ := x; exact ⟨o, e, fun v q => by rw [d] at q; cases q⟩
  | s z => obtain ⟨o, e, _, d⟩ := x; exact ⟨o, e, fun v q => by rw [d] at q; cases q⟩
theorem draws_n {prog : Program} {w : World} {A : Around} {it : Addr} {fp : List Addr} {n m : Nat} {Pv : Nat → Value → Prop} {St : Nat → Heap → Prop} (e : n = m) (D : Draws prog w A it fp n Pv St) : Draws prog w A it fp m Pv St := e ▸ D
theorem vals_get' : ∀ {xs : List V} {us : List Value} {i : Nat} {u : Value}, Vals xs us → us[i]? = some u → ∃ x, xs[i]? = some x ∧ RelV x u
  | _, _, _, _, .nil, e => by simp at e
  | _, _, 0, _, .cons r _, e => by simp at e; subst e; exact ⟨_, rfl, r⟩
  | _, _, i + 1, _, .cons _ t, e => by
    obtain ⟨v, h1, h2⟩ := vals_get' (i := i) t (by simpa using e)
    exact ⟨v, by simpa using h1, h2⟩
section
variable {X : Cx} {pins : List (Addr × Obj)} {σ : L2.St} {H : Hp} {s : Shared}
theorem Src.inj {S : Src} (I : Inv X pins σ H s) {xs ys : List V} (h : S.has X.K H xs) (h' : S.has X.K H ys) : xs = ys := by
  cases S with
  | l a => exact I.list_inj h h'
  | t a => exact I.tuple_inj h h'
  | s z => exact h.trans h'.symm
theorem Src.draws {S : Src} (I : Inv X pins σ H s) {xs : List V} (h : S.has X.K H xs) (hh : X.A.handled = none) {it : Addr} (k : Tok) (ne : ∀ a ∈ S.fp, a ≠ it) :
    ∃ (Pv : Nat → Value → Prop) (St : Nat → Heap → Prop), Draws X.prog X.w X.A.in1 it (it :: S.fp) xs.length Pv St ∧ (∀ i v, Pv i v → ∃ x, xs[i]? = some x ∧ RelV x v) ∧ (∀ i, S.st it k i s.heap → St i s.heap) ∧ ∀ i h, St i h → S.st it k i h := by
  cases S with
  | l a =>
    obtain ⟨its, rv, p, _⟩ := I.list h
    refine ⟨_, _, draws_n rv.length.symm (Draws.list (A := X.A.in1) hh it a (ne a (by simp [Src.fp])) its.toArray), fun i v e => ?_, fun i e => ⟨e, p.isList⟩, fun i h e => e.1⟩
    have e' : its[i]? = some v := by simpa using e
    exact vals_get' rv e'
  | t a =>
    obtain ⟨its, rv, p, _⟩ := I.tuple h
    refine ⟨_, _, draws_n rv.length.symm (Draws.tuple (A := X.A.in1) hh it a (ne a (by simp [Src.fp])) its.toArray), fun i v e => ?_, fun i e => ⟨e, show s.heap.IsTuple a its.toArray from p⟩, fun i h e => e.1⟩
    have e' : its[i]? = some v := by simpa using e
    exact vals_get' rv e'
  | s z =>
    cases (show xs = _ from h)
    have hl : (z.cps.toList.map fun c => V.str ⟨#[c]⟩).length = z.cps.size := by simp
    refine ⟨_, _, draws_n hl.symm (Draws.text (A := X.A.in1) hh it z k), fun i v e => ?_, fun i e => e, fun i h e => e⟩
    obtain ⟨c, u, e1, rfl⟩ := e
    refine ⟨.str ⟨#[c]⟩, ?_, ⟨u, rfl⟩⟩
    rw [List.getElem?_map, Array.getElem?_toList, e1]
    rfl
end
/-- the sources as they stand at each turn, the items in new pairs -/
def ItzS (K : PySem.W.Frag) (S1 S2 : Src) : It :=
  ⟨fun i H => ∃ (xs ys : List V) (x y : V), S1.has K H xs ∧ S2.has K H ys ∧ xs[i]? = some x ∧ ys[i]? = some y,
    fun i H v H' => ∃ T x y, v = .ref T ∧ H T = none ∧ H' = upd H T (.tup [x, y]) ∧ (∀ xs, S1.has K H xs → xs[i]? = some x) ∧ ∀ ys, S2.has K H ys → ys[i]? = some y,
    fun i H => ∃ xs ys : List V, S1.has K H xs ∧ S2.has K H ys ∧ i = min xs.length ys.length⟩
theorem turn_zipS {P : Program} {w : World} {K : PySem.W.Frag} {elts : List Expr} {kk : Nat} {tpos : Pos} {S1 S2 : Src} {k1 k2 : Tok} {z TI TO i1 i2 : Addr} (D : ZipSep2 z TI TO i1 i2 (i1 :: S1.fp) (i2 :: S2.fp)) (n1 : ∀ a ∈ S1.fp, a ≠ i1) (n2 : ∀ a ∈ S2.fp, a ≠ i2) :
    Turn P w K (.Tuple elts kk tpos) (ItzS K S1 S2) [z, TI, TO, i1, i2] z (fun i h => IsZip h z TI TO .none ∧ IsTupOf2 h TI (.ref i1) (.ref i2) ∧ (∃ x y, IsTupOf2 h TO x y) ∧ S1.st i1 k1 i h ∧ S2.st i2 k2 i h) where
  mem := by simp
  obj := fun i h st c hc => by
    obtain ⟨hz, hTI, ⟨x, y, hTO⟩, s1, s2⟩ := st
    have e' : c = z ∨ c = TI ∨ c = TO ∨ c = i1 ∨ c = i2 := by simpa using hc
    rcases e' with q | q | q | q | q
    · rw [q]; exact ⟨_, hz, fun v q => nomatch q⟩
    · rw [q]; exact ⟨_, hTI, fun v q => nomatch q⟩
    · rw [q]; exact ⟨_, hTO, fun v q => nomatch q⟩
    · rw [q]; exact Src.live s1
    · rw [q]; exact Src.live s2
  keep := fun i h h' st k => by
    obtain ⟨hz, hTI, ⟨x, y, hTO⟩, h1, h2⟩ := st
    exact ⟨k z (by simp) _ hz, k TI (by simp) _ hTI, ⟨x, y, k TO (by simp) _ hTO⟩, Src.keep h1 fun o q => k i1 (by simp) o q, Src.keep h2 fun o q => k i2 (by simp) o q⟩
  item := by
    intro X hP hw hK hc i pins s σ H E I hf st hg
    subst hP hw hK
    obtain ⟨hz, hTI, hTO, h1, h2⟩ := st
    obtain ⟨xs, ys, x, y, hqx, hqy, hx, hy⟩ := hg
    obtain ⟨P1, St1, D1, p1, a1, b1⟩ := Src.draws I hqx (I.ok.hd hc) k1 n1
    obtain ⟨P2, St2, D2, p2, a2, b2⟩ := Src.draws I hqy (I.ok.hd hc) k2 n2
    have W := WalksT.zipD2 (A := X.A) D D1 D2
    have l1 := (List.getElem?_eq_some_iff.mp hx).1
    have l2 := (List.getElem?_eq_some_iff.mp hy).1
    have sub : ∀ c, c ∈ [z, TO, i1, i2] → c ∈ [z, TI, TO, i1, i2] := fun c hc => by
      have e' : c = z ∨ c = TO ∨ c = i1 ∨ c = i2 := by simpa using hc
      rcases e' with q | q | q | q <;> simp [q]
    have zf : ∀ {c o}, s.heap.get? c = some o → c < s.heap.objs.size := fun e => Heap.lt_size e
    refine W.item i s _ _ (by omega) ⟨hz, hTI, hTO, a1 i h1, a2 i h2⟩ fun T vals h' tk hp hT hv mid hk => ?_
    obtain ⟨x1, x2, q1, q2, rfl⟩ := hp
    refine ⟨_, rfl, W.go elts kk tpos i T _ _ _ mid fun h'' st' hk' => ?_⟩
    obtain ⟨hz', hTI', hTO', s1', s2'⟩ := st'
    obtain ⟨o, ho, hc', n, hd⟩ := id hv
    have nT : T ∉ [z, TO, i1, i2] := W.apart i T h' mid
    have hT2 : h''.get? T = some o := hk' T o nT ho
    obtain ⟨u1, e1, r1⟩ := p1 _ _ q1
    obtain ⟨u2, e2, r2⟩ := p2 _ _ q2
    cases hx.symm.trans e1
    cases hy.symm.trans e2
    have new : ObjOk X.prog X.w (upd H T (.tup [x, y])) h'' T (.tup [x, y]) :=
      ⟨by show 2 ≤ sizeLine; decide, [x1, x2], .cons r1 (.cons r2 .nil), ⟨_, hT2, hc', n, hd⟩⟩
    have I1 : Inv X pins σ (upd H T (.tup [x, y])) { s with heap := h'', toks := tk } :=
      I.turnedNew (t' := tk) (ch := [z, TI, TO, i1, i2]) (fun c o hb q => hk' c o (fun m => hb (sub c m)) (hk c o (fun m => hb (sub c m)) q)) hf hT new
    refine ⟨.ref T, _, I1, rfl, ⟨_, x, y, rfl, I.hok.fresh hT, rfl, fun l hl => by rw [Src.inj I hl hqx]; exact hx, fun l hl => by rw [Src.inj I hl hqy]; exact hy⟩, ⟨hz', hTI', hTO', b1 _ _ s1', b2 _ _ s2'⟩, fun c hcm => ?_⟩
    have hlt : c < s.heap.objs.size := by
      have e' : c = z ∨ c = TI ∨ c = TO ∨ c = i1 ∨ c = i2 := by simpa using hcm
      obtain ⟨_, _, hTO⟩ := hTO
      rcases e' with q | q | q | q | q
      · rw [q]; exact zf hz
      · rw [q]; exact zf hTI
      · rw [q]; exact zf hTO
      · rw [q]; obtain ⟨_, e, _⟩ := Src.live h1; exact zf e
      · rw [q]; obtain ⟨_, e, _⟩ := Src.live h2; exact zf e
    rw [upd_ne (Nat.ne_of_lt (Nat.lt_of_lt_of_le hlt hT))]
    exact (hf c hcm).1
  done := by
    intro X hP hw hK hc i pins s σ H E I hf st hg
    subst hP hw hK
    obtain ⟨hz, hTI, hTO, h1, h2⟩ := st
    obtain ⟨xs, ys, hqx, hqy, rfl⟩ := hg
    obtain ⟨P1, St1, D1, p1, a1, b1⟩ := Src.draws I hqx (I.ok.hd hc) k1 n1
    obtain ⟨P2, St2, D2, p2, a2, b2⟩ := Src.draws I hqy (I.ok.hd hc) k2 n2
    have W := WalksT.zipD2 (A := X.A) D D1 D2
    refine W.done s _ _ ⟨hz, hTI, hTO, a1 _ h1, a2 _ h2⟩ fun h' tk hk => ⟨rfl, ?_⟩
    refine I.turnedL (t' := tk) (ch := [z, TI, TO, i1, i2]) (fun c o hb q => hk c o (fun m => hb ?_) q) hf
    have e' : c = z ∨ c = TO ∨ c = i1 ∨ c = i2 := by simpa using m
    rcases e' with q | q | q | q <;> simp [q]
  self := fun A i s Q E st h => wpAny_pyIter_zip st.1 h
/-- how iter(v) begins -/
theorem Src.begins {X : Cx} {pins : List (Addr × Obj)} {σ : L2.St} {H : Hp} {s : Shared} {S : Src} (I : Inv X pins σ H s) {xs : List V} {u : Value} (h : S.has X.K H xs) (r : RelV S.v u) :
    ∃ (o : Obj) (B : Heap → Prop) (k : Tok), Begins u o B ∧ B s.heap ∧ (∀ it h', h'.get? it = some o → S.st it k 0 h') ∧ ∀ a ∈ S.fp, a < s.heap.objs.size := by
  cases S with
  | l a =>
    cases (show u = .ref a from r)
    obtain ⟨its, rv, p, _⟩ := I.list h
    exact ⟨_, _, 0, begins_list a its.toArray, p.isList, fun it h' e => ⟨_, e, rfl, rfl⟩, fun b hb => by
      cases (show b = a by simpa [Src.fp] using hb)
      exact p.lt⟩
  | t a =>
    cases (show u = .ref a from r)
    obtain ⟨its, rv, p, _⟩ := I.tuple h
    exact ⟨_, _, 0, begins_tuple a its.toArray, p, fun it h' e => ⟨_, e, rfl, rfl⟩, fun b hb => by
      cases (show b = a by simpa [Src.fp] using hb)
      obtain ⟨_, e, _⟩ := p
      exact Heap.lt_size e⟩
  | s z =>
    obtain ⟨t, rfl⟩ := (show ∃ t, u = .str z t from r)
    exact ⟨_, _, t, begins_text z t, trivial, fun it h' e => ⟨_, e, rfl, rfl⟩, fun b hb => by simp [Src.fp] at hb⟩
def iZipS (K : PySem.W.Frag) (ta : TA) : TI := fun σ H R => ta σ H fun vs H1 => ∃ S1 S2 xs ys, vs = [Src.v S1, Src.v S2] ∧ S1.has K H1 xs ∧ S2.has K H1 ys ∧ R (ItzS K S1 S2) H1
theorem pi_zipS {X : Cx} {e e2 : Expr} {ta : TA} {p pos tpos : Pos} {elts : List Expr} {kk : Nat} (hg : Gl X "zip") (hm : X.mg "zip" = none) (ha : PA X [e, e2] ta)
    (hs : starEach [e, e2] X.env = (false, eval e X.env) :: starEach [e2] X.env := by rfl) (hpl : (backTo pos (starEach [e2] X.env)).any (·.1) = false := by rfl) :
    PI X (.Tuple elts kk tpos) (.Call (.Name "zip" p) [e, e2] [] pos) (iZipS X.K ta) := by
  refine ⟨fun pins s σ H R I h => ?_⟩
  refine Call_ (ld_blt I hg hm PyProof.Rows.boot_zip (PyProof.Rows.callWith_type1 (thn (ha.run pos pins s σ H _ I h) fun us s1 ⟨vs, H1, I1, r1, q1⟩ => ?_) hs hpl))
  obtain ⟨S1, S2, xs, ys, ex, q1, q2, q3⟩ := q1
  subst ex
  cases r1 with
  | cons r rr =>
    cases rr with
    | cons r' rr =>
      cases rr
      have fresh5 : ∀ c, c ∈ [s1.heap.objs.size + 4, s1.heap.objs.size + 2, s1.heap.objs.size + 3, s1.heap.objs.size, s1.heap.objs.size + 1] → FpOk X pins H1 c := fun c hcm => by
        have e' : c = s1.heap.objs.size + 4 ∨ c = s1.heap.objs.size + 2 ∨ c = s1.heap.objs.size + 3 ∨ c = s1.heap.objs.size ∨ c = s1.heap.objs.size + 1 := by simpa using hcm
        have hle : s1.heap.objs.size ≤ c := by
          rcases e' with z | z | z | z | z
          · rw [z]; exact Nat.le_add_right _ _
          · rw [z]; exact Nat.le_add_right _ _
          · rw [z]; exact Nat.le_add_right _ _
          · rw [z]; exact Nat.le_refl _
          · rw [z]; exact Nat.le_add_right _ _
        exact I1.fpOk hle (I1.hok.fresh hle)
      obtain ⟨o1, B1, k1, b1, g1, t1, f1⟩ := Src.begins I1 q1 r
      obtain ⟨o2, B2, k2, b2, g2, t2, f2⟩ := Src.begins I1 q2 r'
      refine zip_begins2 b1 b2 g1 g2 fun h' hz hTI hTO h1 h2 hsz hk => wpAny_pyIter_zip hz ?_
      have I2 : Inv X pins σ H1 { s1 with heap := h' } := I1.kept (t' := s1.toks) hk
      exact ⟨s1.heap.objs.size + 4, [s1.heap.objs.size + 4, s1.heap.objs.size + 2, s1.heap.objs.size + 3, s1.heap.objs.size, s1.heap.objs.size + 1], _, _, H1, rfl, I2,
        turn_zipS (k1 := k1) (k2 := k2) (zip_sep2 f1 f2) (fun a ha => Nat.ne_of_lt (f1 a ha)) (fun a ha => Nat.ne_of_lt (Nat.lt_of_lt_of_le (f2 a ha) (Nat.le_add_right _ _))), ⟨hz, hTI, ⟨_, _, hTO⟩, t1 _ _ h1, t2 _ _ h2⟩, fresh5, q3⟩

/-! ### as a source -/
theorem wk_zipS {K : PySem.W.Frag} {S1 S2 : Src} {vs ws : List V} {ds es : List D} {H0 : Hp} {Kp : Hp → Prop} (r : RpAll K H0 vs ds) (r' : RpAll K H0 ws es) (k : ∀ H', Kp H' → S1.has K H' vs ∧ S2.has K H' ws) : Wk K (ItzS K S1 S2) (pairs ds es) H0 Kp where
  go := fun i d H' kp hd => by
    obtain ⟨x, y, hx, hy, rfl⟩ := pairs_get hd
    obtain ⟨v, hv, _⟩ := r.get hx
    obtain ⟨w, hw, _⟩ := r'.get hy
    exact ⟨vs, ws, v, w, (k H' kp).1, (k H' kp).2, hv, hw⟩
  yld := fun i d H0' H' x H3 kp e1 e2 hd hy => by
    obtain ⟨x, y, hx, hy', rfl⟩ := pairs_get hd
    obtain ⟨v, hv, rv⟩ := r.get hx
    obtain ⟨w, hw, rw'⟩ := r'.get hy'
    obtain ⟨T, v', w', rfl, hT, rfl, f1, f2⟩ := hy
    have z1 := (f1 vs (k _ kp).1).symm.trans hv
    have z2 := (f2 ws (k _ kp).2).symm.trans hw
    cases z1; cases z2
    refine ⟨_, Up.new (o := .tup [v, w]) e2 hT, .tup (SqT.of upd_same) (.cons ?_ (.cons ?_ .nil))⟩
    · exact (rv.mono e1).mono (Same.upd (e2.free hT))
    · exact (rw'.mono e1).mono (Same.upd (e2.free hT))
  stop := fun H' kp => ⟨vs, ws, (k H' kp).1, (k H' kp).2, by
    rw [pairs_len, r.length, r'.length]⟩
theorem signs_rp {K : PySem.W.Frag} {H : Hp} (z : Str) : RpAll K H (z.cps.toList.map fun c => V.str ⟨#[c]⟩) (signs z) := by
  unfold signs
  induction z.cps.toList with
  | nil => exact .nil
  | cons c l ih => exact .cons (.str _) ih
/-- what stands behind data that can be walked -/
theorem src_of {K : PySem.W.Frag} {H0 H : Hp} {v : V} {d : D} {ds : List D} (e : Same H0 H) (r : Rp K H0 v d) (h : P.items d = .ok ds) : ∃ (S : Src) (vs : List V), v = S.v ∧ RpAll K H0 vs ds ∧ ∀ H', Same H0 H' → S.has K H' vs := by
  cases r with
  | non => cases h
  | bl _ => cases h
  | int _ => cases h
  | str z => cases h; exact ⟨.s z, _, rfl, signs_rp z, fun _ _ => rfl⟩
  | lst h1 r => cases h; exact ⟨.l _, _, rfl, r, fun H' e' => SqL.of (e' _ _ h1)⟩
  | tup h1 r => cases h; exact ⟨.t _, _, rfl, r, fun H' e' => same_t e' h1⟩
  | scr h1 r => cases h; exact ⟨.l _, _, rfl, r, fun H' e' => e'.seq h1⟩
def P.zipS : List D → R (List D)
  | [x, y] => (P.items x).bind fun xs => (P.items y).bind fun ys => .ok (pairs xs ys)
  | _ => .bad
section
variable {G : Str → Addr} {E : XK} {X : Cx} {pos p p2 : Pos} {a b e tg : Expr} {es : List Expr} {m : Bool}
theorem di_zipS {f} {elts : List Expr} {kk : Nat} {tpos : Pos} (hg : Gl X "zip") (hm : X.mg "zip" = none) (h : Da G E X [a, b] f) (hs : starEach [a, b] X.env = (false, eval a X.env) :: starEach [b] X.env := by rfl) (hpl : (backTo pos (starEach [b] X.env)).any (·.1) = false := by rfl) :
    DI G E X m (.Tuple elts kk tpos) (.Call (.Name "zip" p) [a, b] [] pos) (dRng P.zipS f) := by
  obtain ⟨t, h1, h2⟩ := h
  refine ⟨_, pi_zipS hg hm h1 hs hpl, fun B δ σ H0 H s => at_bind (t := t σ H) (k := fun vs H1 R => ∃ S1 S2 xs ys, vs = [Src.v S1, Src.v S2] ∧ S1.has X.K H1 xs ∧ S2.has X.K H1 ys ∧ R (ItzS X.K S1 S2) H1) mI (h2 B δ σ H0 H s) fun x v H1 H1' w rx => ?_⟩
  have e := w.b
  cases rx with
  | nil => exact True.intro
  | cons r1 r2 =>
    cases r2 with
    | nil => exact True.intro
    | cons r2 r3 =>
      cases r3 with
      | cons _ _ => exact True.intro
      | nil =>
        rename_i v1 d1 v2 d2
        show At X.K G E (rI X.K m) H1 H1' _ ((P.items d1).bind fun xs => (P.items d2).bind fun ys => .ok (pairs xs ys))
        cases q1 : P.items d1 with
        | bad => exact True.intro
        | er x => exfalso; unfold P.items at q1; split at q1 <;> cases q1
        | ok xs =>
          cases q2 : P.items d2 with
          | bad => exact True.intro
          | er x => exfalso; unfold P.items at q2; split at q2 <;> cases q2
          | ok ys =>
            obtain ⟨S1, vs1, rfl, w1, k1⟩ := src_of e r1 q1
            obtain ⟨S2, vs2, rfl, w2, k2⟩ := src_of e r2 q2
            exact fun Q q => ⟨S1, S2, vs1, vs2, rfl, k1 _ e, k2 _ e, q _ H1 H1' (.refl e) ⟨fun H' => S1.has X.K H' _ ∧ S2.has X.K H' _, wk_zipS w1 w2 fun _ k => k, fun H'' e2 _ => ⟨k1 _ e2, k2 _ e2⟩⟩⟩
end
end Dn

namespace Dn
open PySem PySem.Spec PyProof.Rows L2

/-! ### a dict of the module with text keys -/
def klook (kvs : List (Str × D)) (z : Str) : Option D := (kvs.find? fun p => p.1 == z).map (·.2)
structure DctE (K : PySem.W.Frag) (w : World) (mg : Str → Option Value) (x : Str) (kvs : List (Str × D)) : Prop where
  ex : ∃ d es n, mg x = some (.ref d) ∧ KDict K w d es n ∧ ∀ z : Str, match klook kvs z with
    | some dd => ∃ u0 v0, PySem.W.nsIn K d z = some (some u0) ∧ RelV v0 u0 ∧ ∀ H, Rp K H v0 dd
    | none => PySem.W.nsIn K d z = some none
def keyTx (e : DictEntry) : Option Str := match e.key with
  | .str x _ => some x
  | _ => none
theorem keyTx_some {e : DictEntry} {x : Str} (h : keyTx e = some x) : ∃ t, e.key = .str x t := by
  unfold keyTx at h
  split at h
  · rename_i y t q
    cases h
    exact ⟨t, q⟩
  · cases h
theorem nsIn_not {K : PySem.W.Frag} {d : Addr} {es : Array DictEntry} {n : Nat} {ks : List Str} (hl : K.lookup d = some ⟨.type "dict", none, .dict es n, #[]⟩) (hk : es.toList.map keyTx = ks.map some) {z : Str} (hz : z ∉ ks) : PySem.W.nsIn K d z = some none := by
  unfold PySem.W.nsIn
  rw [hl]
  show (match es.toList.find? (·.key.isStr z) with | some e => some (some e.val) | none => if es.toList.any (·.refKey) then none else some none) = some none
  have all : ∀ e ∈ es.toList, ∃ x t, x ∈ ks ∧ e.key = .str x t := fun e he => by
    have h1 : keyTx e ∈ es.toList.map keyTx := List.mem_map_of_mem he
    rw [hk] at h1
    obtain ⟨x, hx, e1⟩ := List.mem_map.mp h1
    obtain ⟨t, ht⟩ := keyTx_some e1.symm
    exact ⟨x, t, hx, ht⟩
  have e1 : es.toList.find? (·.key.isStr z) = none := by
    rw [List.find?_eq_none]
    intro e he
    obtain ⟨x, t, hx, e2⟩ := all e he
    rw [e2]
    intro c
    have : x = z := by simpa [Value.isStr] using c
    exact hz (this ▸ hx)
  have e2 : es.toList.any (·.refKey) = false := by
    rw [List.any_eq_false]
    intro e he
    obtain ⟨x, t, hx, e2⟩ := all e he
    simp [DictEntry.refKey, e2]
  rw [e1, e2]
  rfl
/-- the dict's texts, by key -/
inductive NsAll (K : PySem.W.Frag) (d : Addr) : List (Str × D) → Prop where
  | nil : NsAll K d []
  | str {k v : Str} {t : Tok} {r : List (Str × D)} : PySem.W.nsIn K d k = some (some (.str v t)) → NsAll K d r → NsAll K d ((k, .str v) :: r)
  | int {k : Str} {v : Int} {t : Tok} {r : List (Str × D)} : PySem.W.nsIn K d k = some (some (.int v t)) → NsAll K d r → NsAll K d ((k, .int v) :: r)
theorem nsAll_get {K : PySem.W.Frag} {d : Addr} {z : Str} {dd : D} : ∀ {kvs : List (Str × D)}, NsAll K d kvs → klook kvs z = some dd → ∃ u0 v0, PySem.W.nsIn K d z = some (some u0) ∧ RelV v0 u0 ∧ ∀ H, Rp K H v0 dd
  | _, .nil, h => by cases h
  | _, .str (k := k) h1 r, h => by
    unfold klook at h
    rw [List.find?_cons] at h
    cases q : k == z with
    | true =>
      rw [q] at h
      cases h
      cases (beq_iff_eq.mp q)
      exact ⟨_, .str _, h1, ⟨_, rfl⟩, fun H => .str _⟩
    | false =>
      rw [q] at h
      exact nsAll_get r h
  | _, .int (k := k) h1 r, h => by
    unfold klook at h
    rw [List.find?_cons] at h
    cases q : k == z with
    | true =>
      rw [q] at h
      cases h
      cases (beq_iff_eq.mp q)
      exact ⟨_, .int _, h1, ⟨_, rfl⟩, fun H => .int _⟩
    | false =>
      rw [q] at h
      exact nsAll_get r h
theorem dctE_mk {K : PySem.W.Frag} {w : World} {mg : Str → Option Value} {x : Str} {d : Addr} {es : Array DictEntry} {n : Nat} {kvs : List (Str × D)} (hx : mg x = some (.ref d)) (hl : K.lookup d = some ⟨.type "dict", none, .dict es n, #[]⟩) (kl : PySem.W.KeysLit w.params es.toList) (low : (d == sysModules) = false)
    (hk : es.toList.map keyTx = (kvs.map (·.1)).map some) (na : NsAll K d kvs) : DctE K w mg x kvs := by
  refine ⟨d, es, n, hx, ⟨hl, kl, low⟩, fun z => ?_⟩
  split
  · rename_i dd h
    exact nsAll_get na h
  · rename_i h
    refine nsIn_not hl hk fun m => ?_
    obtain ⟨p, hp, e⟩ := List.mem_map.mp m
    unfold klook at h
    rw [Option.map_eq_none_iff, List.find?_eq_none] at h
    exact h p hp (by simp [e])

section
variable {G : Str → Addr} {E : XK} {X : Cx} {pos p p2 : Pos} {a b e : Expr} {es : List Expr}
def P.kin (neg : Bool) (kvs : List (Str × D)) : D → R D
  | .str z => .ok (.bool (if neg then !(klook kvs z).isSome else (klook kvs z).isSome))
  | _ => .bad
def dKin (neg : Bool) (kvs : List (Str × D)) (f : DSt → R D) : DSt → R D := fun δ => (f δ).bind (P.kin neg kvs)
theorem dc_kin {x : Str} {kvs : List (Str × D)} {f} (h : DctE X.K X.w X.mg x kvs) (hg : Gl X x) (ha : De G E X a f) (hd : (x == ("__debug__" : Str)) = false := by decide) : DC G E X .In a (.Name x p) (dKin false kvs f) := by
  obtain ⟨d, es, n, hm, D, k⟩ := h.ex
  obtain ⟨t, h1, h2⟩ := ha
  refine ⟨_, _, _, op_in_kd D, h1, pe_glob (v := .ref d) hg hm rfl hd, rfl, fun B δ σ H0 H s => at_bind (t := t σ H) (k := fun x H1 Q => ∃ (z : Str) (r : Option Value), x = .str z ∧ V.ref d = .ref d ∧ PySem.W.nsIn X.K d z = some r ∧ Q (.bl r.isSome) H1) mV (h2 B δ σ H0 H s) fun x v H1 H1' u rx => ?_⟩
  cases x with
  | str z =>
    cases (show Rp X.K H1 v _ from rx)
    show At X.K G E (rV X.K) H1 H1' _ (.ok (.bool (klook kvs z).isSome))
    have kz := k z
    cases q : klook kvs z with
    | none =>
      rw [q] at kz
      exact fun Q q => ⟨z, none, rfl, rfl, kz, q _ H1 H1' (.refl u.b) (.bl _)⟩
    | some dd =>
      rw [q] at kz
      obtain ⟨u0, v0, e1, _⟩ := kz
      exact fun Q q => ⟨z, some u0, rfl, rfl, e1, q _ H1 H1' (.refl u.b) (.bl _)⟩
  | _ => exact True.intro
theorem dc_knotIn {x : Str} {kvs : List (Str × D)} {f} (h : DctE X.K X.w X.mg x kvs) (hg : Gl X x) (ha : De G E X a f) (hd : (x == ("__debug__" : Str)) = false := by decide) : DC G E X .NotIn a (.Name x p) (dKin true kvs f) := by
  obtain ⟨d, es, n, hm, D, k⟩ := h.ex
  obtain ⟨t, h1, h2⟩ := ha
  refine ⟨_, _, _, op_notIn_kd D, h1, pe_glob (v := .ref d) hg hm rfl hd, rfl, fun B δ σ H0 H s => at_bind (t := t σ H) (k := fun x H1 Q => ∃ (z : Str) (r : Option Value), x = .str z ∧ V.ref d = .ref d ∧ PySem.W.nsIn X.K d z = some r ∧ Q (.bl (!r.isSome)) H1) mV (h2 B δ σ H0 H s) fun x v H1 H1' u rx => ?_⟩
  cases x with
  | str z =>
    cases (show Rp X.K H1 v _ from rx)
    show At X.K G E (rV X.K) H1 H1' _ (.ok (.bool (!(klook kvs z).isSome)))
    have kz := k z
    cases q : klook kvs z with
    | none =>
      rw [q] at kz
      exact fun Q q => ⟨z, none, rfl, rfl, kz, q _ H1 H1' (.refl u.b) (.bl _)⟩
    | some dd =>
      rw [q] at kz
      obtain ⟨u0, v0, e1, _⟩ := kz
      exact fun Q q => ⟨z, some u0, rfl, rfl, e1, q _ H1 H1' (.refl u.b) (.bl _)⟩
  | _ => exact True.intro
def P.kix (kvs : List (Str × D)) : D → R D
  | .str z => match klook kvs z with
    | some d => .ok d
    | none => .bad
  | _ => .bad
def dKix (kvs : List (Str × D)) (f : DSt → R D) : DSt → R D := fun δ => (f δ).bind (P.kix kvs)
theorem de_kix {x : Str} {kvs : List (Str × D)} {f} (h : DctE X.K X.w X.mg x kvs) (hg : Gl X x) (ha : De G E X a f) (hs : PlainIx a) (hd : (x == ("__debug__" : Str)) = false := by decide) : De G E X (.Subscript (.Name x p) a pos) (dKix kvs f) := by
  obtain ⟨d, es, n, hm, D, k⟩ := h.ex
  obtain ⟨t, h1, h2⟩ := ha
  refine ⟨_, pe_ix ix_kdict (pe_glob (v := .ref d) hg hm rfl hd) h1 hs, fun B δ σ H0 H s => at_bind (t := t σ H) (k := fun x H1 Q => ∃ p z v, V.ref d = .ref p ∧ x = .str z ∧ KDct X.K X.w p z v ∧ Q v H1) mV (h2 B δ σ H0 H s) fun x v H1 H1' u rx => ?_⟩
  cases x with
  | str z =>
    cases (show Rp X.K H1 v _ from rx)
    show At X.K G E (rV X.K) H1 H1' _ (match klook kvs z with | some d => R.ok d | none => .bad)
    have kz := k z
    cases q : klook kvs z with
    | none => exact True.intro
    | some dd =>
      rw [q] at kz
      obtain ⟨u0, v0, e1, e2, e3⟩ := kz
      exact fun Q q => ⟨d, z, v0, rfl, rfl, ⟨es, n, u0, D.at_, D.lit, e1, e2⟩, q _ H1 H1' (.refl u.b) (e3 _)⟩
  | _ => exact True.intro
end
end Dn

namespace Dn
open PySem PySem.Spec PyProof.Rows L2
section
variable {δ : DSt} {f g h : DSt → R D} {fo go : DSt → R Op} {fl gl : DSt → R (List D)} {i n : Nat} {d x y : D} {ds es : List D}
@[simp] theorem dChain_ap {a b} : dChain a b f g h δ = (f δ).bind fun x => (g δ).bind fun y => (P.cmp a x y).bind fun z => (P.tru z).bind fun q => if q then (h δ).bind fun w => P.cmp b y w else .ok (.bool false) := rfl
@[simp] theorem dYesN_ap : dYesN δ = .ok true := rfl
@[simp] theorem dLtG_ap : dLtG f g δ = (f δ).bind fun x => (g δ).bind fun y => P.ltG x y := rfl
@[simp] theorem dInS_ap {b} : dInS b f go δ = (f δ).bind fun x => (go δ).bind fun y => P.inS b x y := rfl
@[simp] theorem dKin_ap {b k} : dKin b k f δ = (f δ).bind (P.kin b k) := rfl
@[simp] theorem dKix_ap {k} : dKix k f δ = (f δ).bind (P.kix k) := rfl
@[simp] theorem dSorted_ap : dSorted fo δ = (fo δ).bind P.sortedN := rfl
@[simp] theorem kin_str {b k} {z : Str} : P.kin b k (.str z) = .ok (.bool (if b then !(klook k z).isSome else (klook k z).isSome)) := rfl
@[simp] theorem kix_str {k} {z : Str} : P.kix k (.str z) = (match klook k z with | some d => .ok d | none => .bad) := rfl
@[simp] theorem zipS_2 : P.zipS [x, y] = (P.items x).bind fun xs => (P.items y).bind fun ys => .ok (pairs xs ys) := rfl
@[simp] theorem ltG_int {i j : Int} : P.ltG (.int i) (.int j) = .ok (.bool (decide (i < j))) := rfl
@[simp] theorem len_str {z : Str} : P.len (.d (.str z)) = if z.length ≤ LIM then .ok (.int z.length) else .bad := rfl
@[simp] theorem idx_str' {z : Str} {i : Int} : P.idx (.d (.str z)) (.int i) = (if z.length ≤ LIM then (match atI z.cps.toList i with | some c => .ok (.str ⟨#[c]⟩) | none => .bad) else .bad) := rfl
@[simp] theorem str_int {i : Int} : P.str (.d (.int i)) = if i.natAbs.log2 < 1920 then .ok (.str (toString i)) else .bad := rfl
end
theorem lcGo_mapN {tg} {f : DSt → R D} {δ : DSt} {ds : List D} (k : D → D) (h : ∀ d, d ∈ ds → ∃ δ', tg d δ = some δ' ∧ f δ' = .ok (k d)) : lcGo tg dYesN f δ ds = .ok (ds.map k) := lcGo_map k h
/-- a list of truth values -/
theorem bools_map (ds : List D) (p : D → Bool) : bools? (ds.map fun d => PyData.bool (p d)) = some (ds.map p) := by
  induction ds with
  | nil => rfl
  | cons x xs ih =>
    show (bools? (xs.map _)).map _ = _
    rw [ih]
    rfl
theorem all_map (ds : List D) (p : D → Bool) : P.all (.d (.list (ds.map fun d => PyData.bool (p d)))) = .ok (.bool (ds.all p)) := by
  unfold P.all
  show (match bools? _ with | some bs => R.ok (PyData.bool (bs.all id)) | none => .bad) = _
  rw [bools_map]
  simp
theorem any_map (ds : List D) (p : D → Bool) : P.any (.d (.list (ds.map fun d => PyData.bool (p d)))) = .ok (.bool (ds.any p)) := by
  unfold P.any
  show (match bools? _ with | some bs => R.ok (PyData.bool (bs.any id)) | none => .bad) = _
  rw [bools_map]
  simp
theorem eq_str (a b : Str) (ha : PyData.strOk a = true) (hb : PyData.strOk b = true) : P.eq (.d (.str a)) (.d (.str b)) = .ok (.bool (a == b)) := by
  simp [P.eq, opD, SeqAt.shaped, PyData.canLay0, PyData.depth, PyData.eqv, ha, hb]
theorem ltG_tup {a b : List Int} : P.ltG (.tuple (a.map PyData.int)) (.tuple (b.map PyData.int)) = .ok (.bool (HT.lexLt a b)) := by
  unfold P.ltG
  show (match intsD (a.map PyData.int), intsD (b.map PyData.int) with | some a, some b => R.ok (PyData.bool (HT.lexLt a b)) | _, _ => .bad) = _
  rw [intsD_map, intsD_map]

/-! ### data without dicts whose texts and rows are not too long -/
mutual
def okD : D → Bool
  | .none => true
  | .bool _ => true
  | .int _ => true
  | .str z => decide (z.length ≤ 100000)
  | .list ds => decide (ds.length ≤ 100000) && okDs ds
  | .tuple ds => decide (ds.length ≤ 100000) && okDs ds
  | .dict _ => false
def okDs : List D → Bool
  | [] => true
  | d :: ds => okD d && okDs ds
end
theorem okDs_mem {d : D} : ∀ {ds : List D}, okDs ds = true → d ∈ ds → okD d = true
  | [], _, h => by cases h
  | x :: xs, h, m => by
    simp only [okDs, Bool.and_eq_true] at h
    rcases List.mem_cons.mp m with q | q
    · subst q; exact h.1
    · exact okDs_mem h.2 q
end Dn

namespace K03
open PySem PySem.Spec PyProof.Rows L2 Dn
abbrev K_HANDS : D := (.tuple [(.int 1), (.int 2), (.int 3), (.int 4)])
abbrev K_ROOT : D := (.tuple [(.int 0), (.int 0)])
abbrev K_MOST_SIGNS : D := (.int 8)
abbrev K_LETTERS : D := (.str (Str.ofString "abcdefghijklmnopqrstuvwxyz"))
abbrev K_TEXT_SIGNS : D := (.str (Str.ofString "abcdefghijklmnopqrstuvwxyz "))
abbrev K_PARTS : List (Str × D) := [((Str.ofString "write"), (.str (Str.ofString "bppt"))), ((Str.ofString "erase"), (.str (Str.ofString "e"))), ((Str.ofString "mark"), (.str (Str.ofString "sswW"))), ((Str.ofString "note"), (.str (Str.ofString "sst"))), ((Str.ofString "block"), (.str (Str.ofString "bB"))), ((Str.ofString "move"), (.str (Str.ofString "bbB"))), ((Str.ofString "drop"), (.str (Str.ofString "b"))), ((Str.ofString "undo"), (.str (Str.ofString "n"))), ((Str.ofString "redo"), (.str (Str.ofString "n"))), ((Str.ofString "bar"), (.str (Str.ofString "h"))), ((Str.ofString "let"), (.str (Str.ofString "h"))), ((Str.ofString "settle"), (.str (Str.ofString ""))), ((Str.ofString "say"), (.str (Str.ofString "")))]
abbrev N_is_integer : List Str := [(Str.ofString "value")]
def b_is_integer : DSt → R Out := dRet (dAndV (dIsi "int" (dOp (dVar 0))) (dNotV (dIsi "bool" (dOp (dVar 0)))))
def F_is_integer : List D → R D := fun ds => (runF 1 b_is_integer ds).noer
abbrev N_is_number : List Str := [(Str.ofString "value"), (Str.ofString "least")]
def b_is_number : DSt → R Out := dRet (dAndV (dCallN 1 F_is_integer (dCons (dVar 0) dNil)) (dGe (dVar 0) (dVar 1)))
def F_is_number : List D → R D := fun ds => (runF 2 b_is_number ds).noer
abbrev N_is_clock : List Str := [(Str.ofString "value"), (Str.ofString "one")]
def e_is_clock_1 : DSt → R D := fun δ => ((dCallN 2 F_is_number (dCons (dVar 1) (dCons (dC (.int 0)) dNil))) δ).noer
def b_is_clock : DSt → R Out := dSeq (dIf (dOr (dNot (dTru (dIsi "tuple" (dOp (dVar 0))))) (dTru (d2 P.ne (dOp (dLen (dOp (dVar 0)))) (dOp (dLen (dOp (dC K_HANDS))))))) (dRet (dC (.bool false))) dNext) (dRet (d1 P.all (dOp (dFre (dLc (dItems (dVar 0)) (gN 1) dYesN e_is_clock_1 [1])))))
def F_is_clock : List D → R D := fun ds => (runF 2 b_is_clock ds).noer
abbrev N_is_hand : List Str := [(Str.ofString "value")]
def b_is_hand : DSt → R Out := dRet (dAndV (dCallN 2 F_is_number (dCons (dVar 0) (dCons (dC (.int 1)) dNil))) (dLe (dVar 0) (dLen (dOp (dC K_HANDS)))))
def F_is_hand : List D → R D := fun ds => (runF 1 b_is_hand ds).noer
abbrev N_is_string_of : List Str := [(Str.ofString "value"), (Str.ofString "signs"), (Str.ofString "sign")]
def e_is_string_of_1 : DSt → R D := fun δ => ((dInS false (dVar 2) (dOp (dVar 1))) δ).noer
def b_is_string_of : DSt → R Out := dSeq (dIf (dOr (dNot (dTru (dIsi "str" (dOp (dVar 0))))) (dNot (dTru (dChain gLe gLe (dC (.int 1)) (dLen (dOp (dVar 0))) (dC K_MOST_SIGNS))))) (dRet (dC (.bool false))) dNext) (dRet (d1 P.all (dOp (dFre (dLc (dItems (dVar 0)) (gN 2) dYesN e_is_string_of_1 [2])))))
def F_is_string_of : List D → R D := fun ds => (runF 3 b_is_string_of ds).noer
abbrev N_is_word : List Str := [(Str.ofString "value")]
def b_is_word : DSt → R Out := dRet (dCallN 2 F_is_string_of (dCons (dVar 0) (dCons (dC K_LETTERS) dNil)))
def F_is_word : List D → R D := fun ds => (runF 1 b_is_word ds).noer
abbrev N_is_text : List Str := [(Str.ofString "value")]
def b_is_text : DSt → R Out := dRet (dCallN 2 F_is_string_of (dCons (dVar 0) (dCons (dC K_TEXT_SIGNS) dNil)))
def F_is_text : List D → R D := fun ds => (runF 1 b_is_text ds).noer
abbrev N_is_deed_id : List Str := [(Str.ofString "value")]
def b_is_deed_id : DSt → R Out := dRet (dAndV (dIsi "tuple" (dOp (dVar 0))) (dAndV (d2 P.eq (dOp (dLen (dOp (dVar 0)))) (dOp (dC (.int 2)))) (dAndV (dCallN 1 F_is_hand (dCons (dIdx (dOp (dVar 0)) (dC (.int 0))) dNil)) (dCallN 2 F_is_number (dCons (dIdx (dOp (dVar 0)) (dC (.int 1))) (dCons (dC (.int 1)) dNil))))))
def F_is_deed_id : List D → R D := fun ds => (runF 1 b_is_deed_id ds).noer
abbrev N_is_block_id : List Str := [(Str.ofString "value")]
def b_is_block_id : DSt → R Out := dSeq (dIf (dOr (dNot (dTru (dIsi "tuple" (dOp (dVar 0))))) (dTru (d2 P.ne (dOp (dLen (dOp (dVar 0)))) (dOp (dC (.int 2)))))) (dRet (dC (.bool false))) dNext) (dSeq (dIf (dAnd (dTru (dCallN 2 F_is_number (dCons (dIdx (dOp (dVar 0)) (dC (.int 0))) (dCons (dC (.int 0)) dNil)))) (dAnd (dTru (dCallN 2 F_is_number (dCons (dIdx (dOp (dVar 0)) (dC (.int 1))) (dCons (dC (.int 0)) dNil)))) (dTru (d2 P.eq (dOp (dVar 0)) (dOp (dC K_ROOT)))))) (dRet (dC (.bool true))) dNext) (dRet (dCallN 1 F_is_deed_id (dCons (dVar 0) dNil))))
def F_is_block_id : List D → R D := fun ds => (runF 1 b_is_block_id ds).noer
abbrev N_is_sign_id : List Str := [(Str.ofString "value")]
def b_is_sign_id : DSt → R Out := dSeq (dIf (dOr (dNot (dTru (dIsi "tuple" (dOp (dVar 0))))) (dTru (d2 P.ne (dOp (dLen (dOp (dVar 0)))) (dOp (dC (.int 3)))))) (dRet (dC (.bool false))) dNext) (dRet (dAndV (dCallN 1 F_is_deed_id (dCons (dSlice (dOp (dVar 0)) dNoPart (dPart (dC (.int 2)))) dNil)) (dCallN 2 F_is_number (dCons (dIdx (dOp (dVar 0)) (dC (.int 2))) (dCons (dC (.int 0)) dNil)))))
def F_is_sign_id : List D → R D := fun ds => (runF 1 b_is_sign_id ds).noer
abbrev N_is_erased : List Str := [(Str.ofString "value"), (Str.ofString "at"), (Str.ofString "one")]
def e_is_erased_1 : DSt → R D := fun δ => ((dCallN 1 F_is_sign_id (dCons (dVar 2) dNil)) δ).noer
def e_is_erased_2 : DSt → R D := fun δ => ((dLtG (dIdx (dOp (dVar 0)) (dSub (dVar 1) (dC (.int 1)))) (dIdx (dOp (dVar 0)) (dVar 1))) δ).noer
def b_is_erased : DSt → R Out := dSeq (dIf (dOr (dNot (dTru (dIsi "tuple" (dOp (dVar 0))))) (dNot (dTru (dChain gLe gLe (dC (.int 1)) (dLen (dOp (dVar 0))) (dC K_MOST_SIGNS))))) (dRet (dC (.bool false))) dNext) (dSeq (dIf (dNot (dTru (d1 P.all (dOp (dFre (dLc (dItems (dVar 0)) (gN 2) dYesN e_is_erased_1 [2])))))) (dRet (dC (.bool false))) dNext) (dRet (d1 P.all (dOp (dFre (dLc (dRng P.range2 (dCons (dC (.int 1)) (dCons (dLen (dOp (dVar 0))) dNil))) (gN 1) dYesN e_is_erased_2 [1]))))))
def F_is_erased : List D → R D := fun ds => (runF 3 b_is_erased ds).noer
abbrev N_is_part : List Str := [(Str.ofString "kind"), (Str.ofString "value")]
def b_is_part : DSt → R Out := dSeq (dIf (dTru (d2 P.eq (dOp (dVar 0)) (dOp (dC (.str (Str.ofString "b")))))) (dRet (dCallN 1 F_is_block_id (dCons (dVar 1) dNil))) dNext) (dSeq (dIf (dTru (d2 P.eq (dOp (dVar 0)) (dOp (dC (.str (Str.ofString "B")))))) (dRet (dOrV (dIsN (dOp (dVar 1))) (dCallN 1 F_is_block_id (dCons (dVar 1) dNil)))) dNext) (dSeq (dIf (dTru (d2 P.eq (dOp (dVar 0)) (dOp (dC (.str (Str.ofString "p")))))) (dRet (dOrV (dIsN (dOp (dVar 1))) (dCallN 1 F_is_sign_id (dCons (dVar 1) dNil)))) dNext) (dSeq (dIf (dTru (d2 P.eq (dOp (dVar 0)) (dOp (dC (.str (Str.ofString "s")))))) (dRet (dCallN 1 F_is_sign_id (dCons (dVar 1) dNil))) dNext) (dSeq (dIf (dTru (d2 P.eq (dOp (dVar 0)) (dOp (dC (.str (Str.ofString "e")))))) (dRet (dCallN 1 F_is_erased (dCons (dVar 1) dNil))) dNext) (dSeq (dIf (dTru (d2 P.eq (dOp (dVar 0)) (dOp (dC (.str (Str.ofString "w")))))) (dRet (dCallN 1 F_is_word (dCons (dVar 1) dNil))) dNext) (dSeq (dIf (dTru (d2 P.eq (dOp (dVar 0)) (dOp (dC (.str (Str.ofString "W")))))) (dRet (dOrV (dIsN (dOp (dVar 1))) (dCallN 1 F_is_word (dCons (dVar 1) dNil)))) dNext) (dSeq (dIf (dTru (d2 P.eq (dOp (dVar 0)) (dOp (dC (.str (Str.ofString "t")))))) (dRet (dCallN 1 F_is_text (dCons (dVar 1) dNil))) dNext) (dSeq (dIf (dTru (d2 P.eq (dOp (dVar 0)) (dOp (dC (.str (Str.ofString "n")))))) (dRet (dCallN 2 F_is_number (dCons (dVar 1) (dCons (dC (.int 1)) dNil)))) dNext) (dRet (dAndV (dCallN 1 F_is_hand (dCons (dVar 1) dNil)) (d2 P.ne (dOp (dVar 1)) (dOp (dC (.int 1))))))))))))))
def F_is_part : List D → R D := fun ds => (runF 2 b_is_part ds).noer
abbrev N_is_act : List Str := [(Str.ofString "value"), (Str.ofString "kinds"), (Str.ofString "kind"), (Str.ofString "part")]
def e_is_act_1 : DSt → R D := fun δ => ((dCallN 2 F_is_part (dCons (dVar 2) (dCons (dVar 3) dNil))) δ).noer
def b_is_act : DSt → R Out := dSeq (dIf (dOr (dNot (dTru (dIsi "tuple" (dOp (dVar 0))))) (dOr (dTru (dLt (dLen (dOp (dVar 0))) (dC (.int 1)))) (dNot (dTru (dIsi "str" (dOp (dIdx (dOp (dVar 0)) (dC (.int 0))))))))) (dRet (dC (.bool false))) dNext) (dSeq (dIf (dTru (dKin true K_PARTS (dIdx (dOp (dVar 0)) (dC (.int 0))))) (dRet (dC (.bool false))) dNext) (dSeq (dSet 1 (dKix K_PARTS (dIdx (dOp (dVar 0)) (dC (.int 0))))) (dSeq (dIf (dTru (d2 P.ne (dOp (dLen (dOp (dVar 0)))) (dOp (dAdd (dOp (dLen (dOp (dVar 1)))) (dOp (dC (.int 1))))))) (dRet (dC (.bool false))) dNext) (dRet (d1 P.all (dOp (dFre (dLc (dRng P.zipS (dCons (dVar 1) (dCons (dSlice (dOp (dVar 0)) (dPart (dC (.int 1))) dNoPart) dNil))) (gT 2 (gsC (gN 2) (gsC (gN 3) gsN))) dYesN e_is_act_1 [2, 3]))))))))
def F_is_act : List D → R D := fun ds => (runF 4 b_is_act ds).noer
abbrev N_is_deed : List Str := [(Str.ofString "value"), (Str.ofString "hand"), (Str.ofString "number"), (Str.ofString "seen"), (Str.ofString "act")]
def b_is_deed : DSt → R Out := dSeq (dIf (dOr (dNot (dTru (dIsi "tuple" (dOp (dVar 0))))) (dTru (d2 P.ne (dOp (dLen (dOp (dVar 0)))) (dOp (dC (.int 4)))))) (dRet (dC (.bool false))) dNext) (dSeq (dAsg (dVar 0) (gT 4 (gsC (gN 1) (gsC (gN 2) (gsC (gN 3) (gsC (gN 4) gsN)))))) (dSeq (dIf (dOr (dNot (dTru (dCallN 1 F_is_hand (dCons (dVar 1) dNil)))) (dOr (dNot (dTru (dCallN 2 F_is_number (dCons (dVar 2) (dCons (dC (.int 1)) dNil))))) (dNot (dTru (dCallN 1 F_is_clock (dCons (dVar 3) dNil)))))) (dRet (dC (.bool false))) dNext) (dRet (dAndV (d2 P.eq (dOp (dIdx (dOp (dVar 3)) (dSub (dVar 1) (dC (.int 1))))) (dOp (dSub (dVar 2) (dC (.int 1))))) (dCallN 1 F_is_act (dCons (dVar 4) dNil))))))
def F_is_deed : List D → R D := fun ds => (runF 5 b_is_deed ds).noer
abbrev N_id_of : List Str := [(Str.ofString "deed")]
def b_id_of : DSt → R Out := dRet (dTup (dCons (dIdx (dOp (dVar 0)) (dC (.int 0))) (dCons (dIdx (dOp (dVar 0)) (dC (.int 1))) dNil)))
def F_id_of : List D → R D := fun ds => (runF 1 b_id_of ds).noer
abbrev N_law_so : List Str := [(Str.ofString "_law_found"), (Str.ofString "_law_meant"), (Str.ofString "_law_k")]
def l_law_so_1 (self : List D → R D) : DSt → R Out := dIf (dNot (dTru (dCallN 2 self (dCons (dIdx (dOp (dVar 0)) (dVar 2)) (dCons (dIdx (dOp (dVar 1)) (dVar 2)) dNil))))) (dRet (dC (.bool false))) dNext
def b_law_so (self : List D → R D) : DSt → R Out := dSeq (dIf (dTru (dIsN (dOp (dVar 1)))) (dRet (dIsN (dOp (dVar 0)))) dNext) (dSeq (dIf (dTru (dIsi "bool" (dOp (dVar 1)))) (dRet (dAndV (dIsi "bool" (dOp (dVar 0))) (d2 P.eq (dOp (dVar 0)) (dOp (dVar 1))))) dNext) (dSeq (dIf (dTru (dIsi "int" (dOp (dVar 1)))) (dRet (dAndV (dIsi "int" (dOp (dVar 0))) (dAndV (dNotV (dIsi "bool" (dOp (dVar 0)))) (d2 P.eq (dOp (dVar 0)) (dOp (dVar 1)))))) dNext) (dSeq (dIf (dTru (dIsi "str" (dOp (dVar 1)))) (dRet (dAndV (dIsi "str" (dOp (dVar 0))) (d2 P.eq (dOp (dVar 0)) (dOp (dVar 1))))) dNext) (dSeq (dIf (dOr (dNot (dTru (dIsi "tuple" (dOp (dVar 1))))) (dOr (dNot (dTru (dIsi "tuple" (dOp (dVar 0))))) (dTru (d2 P.ne (dOp (dLen (dOp (dVar 0)))) (dOp (dLen (dOp (dVar 1)))))))) (dRet (dC (.bool false))) dNext) (dSeq (dFor (dRng P.range1 (dCons (dLen (dOp (dVar 1))) dNil)) (gN 2) (l_law_so_1 self) [2]) (dRet (dC (.bool true))))))))
def Fn_law_so : Nat → List D → R D
  | 0 => fun _ => .bad
  | n + 1 => fun ds => (runF 3 (b_law_so (Fn_law_so n)) ds).noer
def F_law_so : List D → R D := Fn_law_so 4
abbrev N_law_numbers : List Str := [(Str.ofString "_law_script"), (Str.ofString "_law_row"), (Str.ofString "_law_cell"), (Str.ofString "_law_left"), (Str.ofString "_law_k"), (Str.ofString "_law_mixed")]
def l_law_numbers_1 : DSt → R Out := dSeq (dIf (dTru (d2 P.eq (dOp (dVar 3)) (dOp (dC (.int 0))))) dBrk dNext) (dSeq (dApp 1 (dMod (dToInt (dOp (dVar 3))) (dC (.int 997)))) (dSet 3 (dDiv (dVar 3) (dC (.int 997)))))
def l_law_numbers_2 : DSt → R Out := dSeq (dSet 5 (dMod (dToInt (dOp (dAdd (dOp (dAdd (dOp (dMul (dVar 2) (dC (.int 48271)))) (dOp (dMul (dVar 4) (dC (.int 69621)))))) (dOp (dC (.int 11)))))) (dC (.int 2147483647)))) (dApp 1 (dMod (dToInt (dOp (dAdd (dOp (dMul (dVar 5) (dC (.int 16807)))) (dOp (dVar 4))))) (dC (.int 2147483629))))
def l_law_numbers_3 : DSt → R Out := dIf (dTru (dGe (dVar 2) (dPow (dC (.int 10)) (dC (.int 18))))) (dSeq (dSet 3 (dVar 2)) (dFor (dRng P.range1 (dCons (dC (.int 60)) dNil)) (gN 4) l_law_numbers_1 [4])) (dFor (dRng P.range1 (dCons (dC (.int 4)) dNil)) (gN 4) l_law_numbers_2 [4, 5])
def b_law_numbers : DSt → R Out := dSeq (dSetN 1 (dLstN dNil)) (dSeq (dFor (dItems (dSlice (dOp (dVar 0)) dNoPart (dPart (dC (.int 63))))) (gN 2) l_law_numbers_3 [2, 3, 4, 5]) (dSeq (dIf (dTru (d2 P.eq (dOp (dLen (dVarO 1))) (dOp (dC (.int 0))))) (dApp 1 (dC (.int 0))) dNext) ((fun δ => (dRet (dVar 1)) (frz1 1 δ)))))
def F_law_numbers : List D → R D := fun ds => (runF 6 b_law_numbers ds).noer
abbrev N_law_draw : List Str := [(Str.ofString "_law_row"), (Str.ofString "_law_at"), (Str.ofString "_law_limit"), (Str.ofString "_law_mixed")]
def b_law_draw : DSt → R Out := dSeq (dIf (dTru (dLt (dVar 1) (dLen (dOp (dVar 0))))) (dRet (dMod (dToInt (dOp (dIdx (dOp (dVar 0)) (dVar 1)))) (dVar 2))) dNext) (dSeq (dSet 3 (dMod (dToInt (dOp (dAdd (dOp (dAdd (dOp (dMul (dIdx (dOp (dVar 0)) (dMod (dToInt (dOp (dVar 1))) (dLen (dOp (dVar 0))))) (dC (.int 40692)))) (dOp (dMul (dVar 1) (dC (.int 7919)))))) (dOp (dC (.int 3)))))) (dC (.int 2147483399)))) (dRet (dMod (dToInt (dOp (dMod (dToInt (dOp (dAdd (dOp (dMul (dVar 3) (dC (.int 48271)))) (dOp (dVar 1))))) (dC (.int 2147483647))))) (dVar 2))))
def F_law_draw : List D → R D := fun ds => (runF 4 b_law_draw ds).noer
abbrev N_law_word : List Str := [(Str.ofString "_law_row"), (Str.ofString "_law_at"), (Str.ofString "_law_most"), (Str.ofString "_law_made"), (Str.ofString "_law_k")]
def l_law_word_1 : DSt → R Out := dSet 3 (dAdd (dOp (dVar 3)) (dOp (dIdx (dOp (dC (.str (Str.ofString "abcdefghijklmnopqrstuvwxyz")))) (dCallN 3 F_law_draw (dCons (dVar 0) (dCons (dAdd (dOp (dAdd (dOp (dVar 1)) (dOp (dC (.int 1))))) (dOp (dVar 4))) (dCons (dC (.int 26)) dNil)))))))
def b_law_word : DSt → R Out := dSeq (dSet 3 (dC (.str (Str.ofString "")))) (dSeq (dFor (dRng P.range1 (dCons (dAdd (dOp (dC (.int 1))) (dOp (dCallN 3 F_law_draw (dCons (dVar 0) (dCons (dVar 1) (dCons (dVar 2) dNil)))))) dNil)) (gN 4) l_law_word_1 [4]) (dRet (dVar 3)))
def F_law_word : List D → R D := fun ds => (runF 5 b_law_word ds).noer
abbrev N_law_typed : List Str := [(Str.ofString "_law_row"), (Str.ofString "_law_at"), (Str.ofString "_law_made"), (Str.ofString "_law_k")]
def l_law_typed_1 : DSt → R Out := dSet 2 (dAdd (dOp (dVar 2)) (dOp (dIdx (dOp (dC (.str (Str.ofString "abcdefghijklmnopqrstuvwxyz  ")))) (dCallN 3 F_law_draw (dCons (dVar 0) (dCons (dAdd (dOp (dAdd (dOp (dVar 1)) (dOp (dC (.int 1))))) (dOp (dVar 3))) (dCons (dC (.int 28)) dNil)))))))
def b_law_typed : DSt → R Out := dSeq (dSet 2 (dC (.str (Str.ofString "")))) (dSeq (dFor (dRng P.range1 (dCons (dAdd (dOp (dC (.int 1))) (dOp (dCallN 3 F_law_draw (dCons (dVar 0) (dCons (dVar 1) (dCons (dC (.int 8)) dNil)))))) dNil)) (gN 3) l_law_typed_1 [3]) (dRet (dVar 2)))
def F_law_typed : List D → R D := fun ds => (runF 4 b_law_typed ds).noer
abbrev N_law_block : List Str := [(Str.ofString "_law_row"), (Str.ofString "_law_at")]
def b_law_block : DSt → R Out := dSeq (dIf (dTru (d2 P.eq (dOp (dCallN 3 F_law_draw (dCons (dVar 0) (dCons (dVar 1) (dCons (dC (.int 4)) dNil))))) (dOp (dC (.int 0))))) (dRet (dTup (dCons (dC (.int 0)) (dCons (dC (.int 0)) dNil)))) dNext) (dRet (dTup (dCons (dAdd (dOp (dC (.int 1))) (dOp (dCallN 3 F_law_draw (dCons (dVar 0) (dCons (dAdd (dOp (dVar 1)) (dOp (dC (.int 1)))) (dCons (dC (.int 4)) dNil)))))) (dCons (dAdd (dOp (dC (.int 1))) (dOp (dCallN 3 F_law_draw (dCons (dVar 0) (dCons (dAdd (dOp (dVar 1)) (dOp (dC (.int 2)))) (dCons (dIdx (dOp (dLst (dCons (dC (.int 9)) (dCons (dC (.int 40)) (dCons (dC (.int 990)) dNil))))) (dCallN 3 F_law_draw (dCons (dVar 0) (dCons (dVar 1) (dCons (dC (.int 3)) dNil))))) dNil)))))) dNil))))
def F_law_block : List D → R D := fun ds => (runF 2 b_law_block ds).noer
abbrev N_law_sign : List Str := [(Str.ofString "_law_row"), (Str.ofString "_law_at")]
def b_law_sign : DSt → R Out := dRet (dTup (dCons (dAdd (dOp (dC (.int 1))) (dOp (dCallN 3 F_law_draw (dCons (dVar 0) (dCons (dVar 1) (dCons (dC (.int 4)) dNil)))))) (dCons (dAdd (dOp (dC (.int 1))) (dOp (dCallN 3 F_law_draw (dCons (dVar 0) (dCons (dAdd (dOp (dVar 1)) (dOp (dC (.int 1)))) (dCons (dIdx (dOp (dLst (dCons (dC (.int 3)) (dCons (dC (.int 40)) (dCons (dC (.int 990)) dNil))))) (dCallN 3 F_law_draw (dCons (dVar 0) (dCons (dAdd (dOp (dVar 1)) (dOp (dC (.int 2)))) (dCons (dC (.int 3)) dNil))))) dNil)))))) (dCons (dCallN 3 F_law_draw (dCons (dVar 0) (dCons (dAdd (dOp (dVar 1)) (dOp (dC (.int 2)))) (dCons (dC (.int 8)) dNil)))) dNil))))
def F_law_sign : List D → R D := fun ds => (runF 2 b_law_sign ds).noer
abbrev N_law_signs : List Str := [(Str.ofString "_law_row"), (Str.ofString "_law_at"), (Str.ofString "_law_made"), (Str.ofString "_law_k"), (Str.ofString "_law_one")]
def l_law_signs_1 : DSt → R Out := dSeq (dSet 4 (dCallN 2 F_law_sign (dCons (dVar 0) (dCons (dAdd (dOp (dAdd (dOp (dVar 1)) (dOp (dC (.int 1))))) (dOp (dMul (dC (.int 3)) (dVar 3)))) dNil)))) (dIf (dTru (dInS true (dVar 4) (dVarO 2))) (dApp 2 (dVar 4)) dNext)
def b_law_signs : DSt → R Out := dSeq (dSetN 2 (dLstN dNil)) (dSeq (dFor (dRng P.range1 (dCons (dAdd (dOp (dC (.int 1))) (dOp (dCallN 3 F_law_draw (dCons (dVar 0) (dCons (dVar 1) (dCons (dC (.int 8)) dNil)))))) dNil)) (gN 3) l_law_signs_1 [3, 4]) ((fun δ => (dRet (d1 P.tuple (dOp (dFre (dSorted (dVarO 2)))))) (frz1 2 δ))))
def F_law_signs : List D → R D := fun ds => (runF 5 b_law_signs ds).noer
abbrev N_law_act : List Str := [(Str.ofString "_law_row"), (Str.ofString "_law_at"), (Str.ofString "_law_kind"), (Str.ofString "_law_worth"), (Str.ofString "_law_left"), (Str.ofString "_law_right"), (Str.ofString "_law_behind")]
def b_law_act : DSt → R Out := dSeq (dSet 3 (dIf (dTru (d2 P.eq (dOp (dCallN 3 F_law_draw (dCons (dVar 0) (dCons (dAdd (dOp (dVar 1)) (dOp (dC (.int 20)))) (dCons (dC (.int 3)) dNil))))) (dOp (dC (.int 0))))) (dC .none) (dCallN 3 F_law_word (dCons (dVar 0) (dCons (dAdd (dOp (dVar 1)) (dOp (dC (.int 21)))) (dCons (dC (.int 8)) dNil)))))) (dSeq (dIf (dTru (d2 P.eq (dOp (dVar 2)) (dOp (dC (.int 0))))) (dSeq (dSet 4 (dIf (dTru (d2 P.eq (dOp (dCallN 3 F_law_draw (dCons (dVar 0) (dCons (dAdd (dOp (dVar 1)) (dOp (dC (.int 3)))) (dCons (dC (.int 3)) dNil))))) (dOp (dC (.int 0))))) (dC .none) (dCallN 2 F_law_sign (dCons (dVar 0) (dCons (dAdd (dOp (dVar 1)) (dOp (dC (.int 4)))) dNil))))) (dSeq (dSet 5 (dIf (dTru (d2 P.eq (dOp (dCallN 3 F_law_draw (dCons (dVar 0) (dCons (dAdd (dOp (dVar 1)) (dOp (dC (.int 7)))) (dCons (dC (.int 3)) dNil))))) (dOp (dC (.int 0))))) (dC .none) (dCallN 2 F_law_sign (dCons (dVar 0) (dCons (dAdd (dOp (dVar 1)) (dOp (dC (.int 8)))) dNil))))) (dRet (dTup (dCons (dC (.str (Str.ofString "write"))) (dCons (dCallN 2 F_law_block (dCons (dVar 0) (dCons (dVar 1) dNil))) (dCons (dVar 4) (dCons (dVar 5) (dCons (dCallN 2 F_law_typed (dCons (dVar 0) (dCons (dAdd (dOp (dVar 1)) (dOp (dC (.int 11)))) dNil))) dNil))))))))) dNext) (dSeq (dIf (dTru (d2 P.eq (dOp (dVar 2)) (dOp (dC (.int 1))))) (dRet (dTup (dCons (dC (.str (Str.ofString "erase"))) (dCons (dCallN 2 F_law_signs (dCons (dVar 0) (dCons (dVar 1) dNil))) dNil)))) dNext) (dSeq (dIf (dTru (d2 P.eq (dOp (dVar 2)) (dOp (dC (.int 2))))) (dRet (dTup (dCons (dC (.str (Str.ofString "mark"))) (dCons (dCallN 2 F_law_sign (dCons (dVar 0) (dCons (dVar 1) dNil))) (dCons (dCallN 2 F_law_sign (dCons (dVar 0) (dCons (dAdd (dOp (dVar 1)) (dOp (dC (.int 3)))) dNil))) (dCons (dCallN 3 F_law_word (dCons (dVar 0) (dCons (dAdd (dOp (dVar 1)) (dOp (dC (.int 6)))) (dCons (dC (.int 8)) dNil)))) (dCons (dVar 3) dNil))))))) dNext) (dSeq (dIf (dTru (d2 P.eq (dOp (dVar 2)) (dOp (dC (.int 3))))) (dRet (dTup (dCons (dC (.str (Str.ofString "note"))) (dCons (dCallN 2 F_law_sign (dCons (dVar 0) (dCons (dVar 1) dNil))) (dCons (dCallN 2 F_law_sign (dCons (dVar 0) (dCons (dAdd (dOp (dVar 1)) (dOp (dC (.int 3)))) dNil))) (dCons (dCallN 2 F_law_typed (dCons (dVar 0) (dCons (dAdd (dOp (dVar 1)) (dOp (dC (.int 6)))) dNil))) dNil)))))) dNext) (dSeq (dSet 6 (dIf (dTru (d2 P.eq (dOp (dCallN 3 F_law_draw (dCons (dVar 0) (dCons (dAdd (dOp (dVar 1)) (dOp (dC (.int 3)))) (dCons (dC (.int 3)) dNil))))) (dOp (dC (.int 0))))) (dC .none) (dCallN 2 F_law_block (dCons (dVar 0) (dCons (dAdd (dOp (dVar 1)) (dOp (dC (.int 4)))) dNil))))) (dSeq (dIf (dTru (d2 P.eq (dOp (dVar 2)) (dOp (dC (.int 4))))) (dRet (dTup (dCons (dC (.str (Str.ofString "block"))) (dCons (dCallN 2 F_law_block (dCons (dVar 0) (dCons (dVar 1) dNil))) (dCons (dVar 6) dNil))))) dNext) (dSeq (dIf (dTru (d2 P.eq (dOp (dVar 2)) (dOp (dC (.int 5))))) (dRet (dTup (dCons (dC (.str (Str.ofString "move"))) (dCons (dCallN 2 F_law_block (dCons (dVar 0) (dCons (dVar 1) dNil))) (dCons (dCallN 2 F_law_block (dCons (dVar 0) (dCons (dAdd (dOp (dVar 1)) (dOp (dC (.int 7)))) dNil))) (dCons (dVar 6) dNil)))))) dNext) (dSeq (dIf (dTru (d2 P.eq (dOp (dVar 2)) (dOp (dC (.int 6))))) (dRet (dTup (dCons (dC (.str (Str.ofString "drop"))) (dCons (dCallN 2 F_law_block (dCons (dVar 0) (dCons (dVar 1) dNil))) dNil)))) dNext) (dSeq (dIf (dTru (dLt (dVar 2) (dC (.int 9)))) (dRet (dTup (dCons (dIdx (dOp (dLst (dCons (dC (.str (Str.ofString "undo"))) (dCons (dC (.str (Str.ofString "redo"))) dNil)))) (dSub (dVar 2) (dC (.int 7)))) (dCons (dAdd (dOp (dC (.int 1))) (dOp (dCallN 3 F_law_draw (dCons (dVar 0) (dCons (dVar 1) (dCons (dIdx (dOp (dLst (dCons (dC (.int 3)) (dCons (dC (.int 90)) (dCons (dC (.int 996)) dNil))))) (dCallN 3 F_law_draw (dCons (dVar 0) (dCons (dAdd (dOp (dVar 1)) (dOp (dC (.int 1)))) (dCons (dC (.int 3)) dNil))))) dNil)))))) dNil)))) dNext) (dSeq (dIf (dTru (dLt (dVar 2) (dC (.int 11)))) (dRet (dTup (dCons (dIdx (dOp (dLst (dCons (dC (.str (Str.ofString "bar"))) (dCons (dC (.str (Str.ofString "let"))) dNil)))) (dSub (dVar 2) (dC (.int 9)))) (dCons (dAdd (dOp (dC (.int 2))) (dOp (dCallN 3 F_law_draw (dCons (dVar 0) (dCons (dVar 1) (dCons (dC (.int 3)) dNil)))))) dNil)))) dNext) (dRet (dTup (dCons (dIdx (dOp (dLst (dCons (dC (.str (Str.ofString "settle"))) (dCons (dC (.str (Str.ofString "say"))) dNil)))) (dSub (dVar 2) (dC (.int 11)))) dNil)))))))))))))
def F_law_act : List D → R D := fun ds => (runF 7 b_law_act ds).noer
abbrev N_law_deed : List Str := [(Str.ofString "_law_row"), (Str.ofString "_law_at"), (Str.ofString "_law_act_here"), (Str.ofString "_law_hand"), (Str.ofString "_law_most"), (Str.ofString "_law_number"), (Str.ofString "_law_seen"), (Str.ofString "_law_k")]
def e_law_deed_1 : DSt → R D := fun δ => ((dCallN 3 F_law_draw (dCons (dVar 0) (dCons (dAdd (dOp (dAdd (dOp (dVar 1)) (dOp (dC (.int 3))))) (dOp (dVar 7))) (dCons (dVar 4) dNil)))) δ).noer
def b_law_deed : DSt → R Out := dSeq (dSet 3 (dAdd (dOp (dC (.int 1))) (dOp (dCallN 3 F_law_draw (dCons (dVar 0) (dCons (dVar 1) (dCons (dC (.int 4)) dNil))))))) (dSeq (dSet 4 (dIdx (dOp (dLst (dCons (dC (.int 4)) (dCons (dC (.int 90)) (dCons (dC (.int 997)) dNil))))) (dCallN 3 F_law_draw (dCons (dVar 0) (dCons (dAdd (dOp (dVar 1)) (dOp (dC (.int 1)))) (dCons (dC (.int 3)) dNil)))))) (dSeq (dSet 5 (dAdd (dOp (dC (.int 1))) (dOp (dCallN 3 F_law_draw (dCons (dVar 0) (dCons (dAdd (dOp (dVar 1)) (dOp (dC (.int 2)))) (dCons (dVar 4) dNil))))))) (dSeq (dSetN 6 (dLc (dRng P.range1 (dCons (dC (.int 4)) dNil)) (gN 7) dYesN e_law_deed_1 [7])) (dSeq (dSetI 6 (dSub (dVar 3) (dC (.int 1))) (dSub (dVar 5) (dC (.int 1)))) (dRet (dTup (dCons (dVar 3) (dCons (dVar 5) (dCons (d1 P.tuple (dVarO 6)) (dCons (dVar 2) dNil))))))))))
def F_law_deed : List D → R D := fun ds => (runF 8 b_law_deed ds).noer
abbrev N_law_wrong : List Str := [(Str.ofString "_law_part"), (Str.ofString "_law_k"), (Str.ofString "_law_blocks"), (Str.ofString "_law_signs_here"), (Str.ofString "_law_rows"), (Str.ofString "_law_j")]
def e_law_wrong_1 : DSt → R D := fun δ => ((dTup (dCons (dC (.int 1)) (dCons (dAdd (dOp (dC (.int 1))) (dOp (dVar 5))) (dCons (dC (.int 0)) dNil)))) δ).noer
def b_law_wrong : DSt → R Out := dSeq (dSet 2 (dLst (dCons (dTup (dCons (dC (.int 0)) (dCons (dC (.int 1)) dNil))) (dCons (dTup (dCons (dC (.int 1)) (dCons (dC (.int 0)) dNil))) (dCons (dTup (dCons (dC (.int 5)) (dCons (dC (.int 1)) dNil))) (dCons (dTup (dCons (dC (.int 1)) dNil)) (dCons (dTup (dCons (dC (.int 1)) (dCons (dC (.int 1)) (dCons (dC (.int 0)) dNil)))) (dCons (dLst (dCons (dC (.int 1)) (dCons (dC (.int 1)) dNil))) (dCons (dTup (dCons (dC (.bool true)) (dCons (dC (.int 1)) dNil))) (dCons (dTup (dCons (dC (.int 1)) (dCons (dC (.bool true)) dNil))) (dCons (dC (.str (Str.ofString "1.1"))) (dCons (dC (.int 1)) (dCons (dTup (dCons (dNeg (dC (.int 1))) (dCons (dC (.int 1)) dNil))) (dCons (dTup (dCons (dC (.int 1)) (dCons (dNeg (dC (.int 1))) dNil))) (dCons (dTup (dCons (dC (.int 0)) (dCons (dC (.int 0)) (dCons (dC (.int 0)) dNil)))) (dCons (dTup dNil) (dCons (dTup (dCons (dC (.int 1)) (dCons (dC .none) dNil))) dNil))))))))))))))))) (dSeq (dSet 3 (dLst (dCons (dTup (dCons (dC (.int 1)) (dCons (dC (.int 1)) dNil))) (dCons (dTup (dCons (dC (.int 0)) (dCons (dC (.int 1)) (dCons (dC (.int 0)) dNil)))) (dCons (dTup (dCons (dC (.int 1)) (dCons (dC (.int 0)) (dCons (dC (.int 0)) dNil)))) (dCons (dTup (dCons (dC (.int 5)) (dCons (dC (.int 1)) (dCons (dC (.int 0)) dNil)))) (dCons (dTup (dCons (dC (.int 1)) (dCons (dC (.int 1)) (dCons (dNeg (dC (.int 1))) dNil)))) (dCons (dTup (dCons (dC (.int 1)) (dCons (dC (.int 1)) (dCons (dC (.bool true)) dNil)))) (dCons (dLst (dCons (dC (.int 1)) (dCons (dC (.int 1)) (dCons (dC (.int 0)) dNil)))) (dCons (dC (.str (Str.ofString "x"))) (dCons (dC (.int 0)) (dCons (dTup (dCons (dC (.int 1)) (dCons (dC (.int 1)) (dCons (dC (.int 0)) (dCons (dC (.int 0)) dNil))))) (dCons (dTup (dCons (dC (.int 1)) (dCons (dC (.int 1)) (dCons (dC .none) dNil)))) (dCons (dTup (dCons (dC (.int 0)) (dCons (dC (.int 0)) (dCons (dC (.int 0)) dNil)))) (dCons (dTup (dCons (dC (.bool true)) (dCons (dC (.int 1)) (dCons (dC (.int 0)) dNil)))) dNil))))))))))))))) (dSeq (dIf (dTru (d2 P.eq (dOp (dVar 0)) (dOp (dC (.str (Str.ofString "block")))))) (dRet (dIdx (dOp (dAdd (dOp (dVar 2)) (dOp (dLst (dCons (dC .none) dNil))))) (dMod (dVar 1) (dLen (dOp (dAdd (dOp (dVar 2)) (dOp (dLst (dCons (dC .none) dNil))))))))) dNext) (dSeq (dIf (dTru (d2 P.eq (dOp (dVar 0)) (dOp (dC (.str (Str.ofString "behind")))))) (dRet (dIdx (dOp (dVar 2)) (dMod (dVar 1) (dLen (dOp (dVar 2)))))) dNext) (dSeq (dIf (dTru (d2 P.eq (dOp (dVar 0)) (dOp (dC (.str (Str.ofString "sign")))))) (dRet (dIdx (dOp (dAdd (dOp (dVar 3)) (dOp (dLst (dCons (dC .none) dNil))))) (dMod (dVar 1) (dLen (dOp (dAdd (dOp (dVar 3)) (dOp (dLst (dCons (dC .none) dNil))))))))) dNext) (dSeq (dIf (dTru (d2 P.eq (dOp (dVar 0)) (dOp (dC (.str (Str.ofString "place")))))) (dRet (dIdx (dOp (dVar 3)) (dMod (dVar 1) (dLen (dOp (dVar 3)))))) dNext) (dSeq (dIf (dTru (d2 P.eq (dOp (dVar 0)) (dOp (dC (.str (Str.ofString "signs")))))) (dSeq (dSet 4 (dLst (dCons (dTup dNil) (dCons (dTup (dCons (dTup (dCons (dC (.int 1)) (dCons (dC (.int 1)) (dCons (dC (.int 1)) dNil)))) (dCons (dTup (dCons (dC (.int 1)) (dCons (dC (.int 1)) (dCons (dC (.int 0)) dNil)))) dNil))) (dCons (dTup (dCons (dTup (dCons (dC (.int 1)) (dCons (dC (.int 1)) (dCons (dC (.int 0)) dNil)))) (dCons (dTup (dCons (dC (.int 1)) (dCons (dC (.int 1)) (dCons (dC (.int 0)) dNil)))) dNil))) (dCons (dLst (dCons (dTup (dCons (dC (.int 1)) (dCons (dC (.int 1)) (dCons (dC (.int 0)) dNil)))) dNil)) (dCons (dTup (dCons (dC (.int 1)) (dCons (dC (.int 1)) (dCons (dC (.int 0)) dNil)))) (dCons (dC .none) (dCons (dTup (dCons (dTup (dCons (dC (.int 1)) (dCons (dC (.int 1)) (dCons (dC (.int 0)) dNil)))) (dCons (dC .none) dNil))) (dCons (dTup (dCons (dTup (dCons (dC (.int 1)) (dCons (dC (.int 1)) dNil))) dNil)) dNil)))))))))) (dSeq (dSet 4 (dAdd (dOp (dVar 4)) (dOp (dLst (dCons (d1 P.tuple (dOp (dFre (dLc (dRng P.range1 (dCons (dC (.int 9)) dNil)) (gN 5) dYesN e_law_wrong_1 [5])))) (dCons (dTup (dCons (dTup (dCons (dC (.int 1)) (dCons (dC (.int 1)) (dCons (dC (.int 0)) dNil)))) (dCons (dLst (dCons (dC (.int 1)) (dCons (dC (.int 1)) (dCons (dC (.int 1)) dNil)))) dNil))) (dCons (dTup (dCons (dTup (dCons (dC (.int 2)) (dCons (dC (.int 1)) (dCons (dC (.int 0)) dNil)))) (dCons (dTup (dCons (dC (.int 1)) (dCons (dC (.int 2)) (dCons (dC (.int 0)) dNil)))) dNil))) dNil))))))) (dRet (dIdx (dOp (dVar 4)) (dMod (dVar 1) (dLen (dOp (dVar 4)))))))) dNext) (dSeq (dIf (dTru (d2 P.eq (dOp (dVar 0)) (dOp (dC (.str (Str.ofString "text")))))) (dRet (dIdx (dOp (dLst (dCons (dC (.str (Str.ofString ""))) (dCons (dC (.str (Str.ofString "abcdefghi"))) (dCons (dC (.str (Str.ofString "A"))) (dCons (dC (.str (Str.ofString "a1"))) (dCons (dC (.str (Str.ofString "a\n"))) (dCons (dC .none) (dCons (dC (.int 5)) (dCons (dTup (dCons (dC (.str (Str.ofString "a"))) dNil)) (dCons (dC (.str (Str.ofString "-"))) (dCons (dC (.str (Str.ofString "a.b"))) (dCons (dC (.bool true)) (dCons (dC (.str (Str.ofString "abc\td"))) dNil)))))))))))))) (dMod (dVar 1) (dC (.int 12))))) dNext) (dSeq (dIf (dTru (d2 P.eq (dOp (dVar 0)) (dOp (dC (.str (Str.ofString "word")))))) (dRet (dIdx (dOp (dLst (dCons (dC (.str (Str.ofString ""))) (dCons (dC (.str (Str.ofString "abcdefghi"))) (dCons (dC (.str (Str.ofString "Ab"))) (dCons (dC (.str (Str.ofString "a b"))) (dCons (dC .none) (dCons (dC (.int 0)) (dCons (dC (.str (Str.ofString "a1"))) (dCons (dTup (dCons (dC (.str (Str.ofString "a"))) dNil)) (dCons (dC (.str (Str.ofString " "))) (dCons (dC (.bool true)) (dCons (dC (.str (Str.ofString "a-"))) dNil))))))))))))) (dMod (dVar 1) (dC (.int 11))))) dNext) (dSeq (dIf (dTru (d2 P.eq (dOp (dVar 0)) (dOp (dC (.str (Str.ofString "worth")))))) (dRet (dIdx (dOp (dLst (dCons (dC (.str (Str.ofString ""))) (dCons (dC (.str (Str.ofString "abcdefghi"))) (dCons (dC (.str (Str.ofString "Ab"))) (dCons (dC (.str (Str.ofString "a b"))) (dCons (dC (.int 0)) (dCons (dC (.bool true)) (dCons (dC (.str (Str.ofString "-"))) (dCons (dTup (dCons (dC (.str (Str.ofString "a"))) dNil)) (dCons (dC (.bool false)) (dCons (dC (.str (Str.ofString "a1"))) dNil)))))))))))) (dMod (dVar 1) (dC (.int 10))))) dNext) (dSeq (dIf (dTru (d2 P.eq (dOp (dVar 0)) (dOp (dC (.str (Str.ofString "number")))))) (dRet (dIdx (dOp (dLst (dCons (dC (.int 0)) (dCons (dNeg (dC (.int 1))) (dCons (dC (.bool true)) (dCons (dC .none) (dCons (dC (.str (Str.ofString "1"))) (dCons (dTup (dCons (dC (.int 1)) dNil)) (dCons (dLst (dCons (dC (.int 1)) dNil)) (dCons (dNeg (dC (.int 7))) dNil)))))))))) (dMod (dVar 1) (dC (.int 8))))) dNext) (dRet (dIdx (dOp (dLst (dCons (dC (.int 1)) (dCons (dC (.int 0)) (dCons (dC (.int 5)) (dCons (dC (.bool true)) (dCons (dC .none) (dCons (dC (.str (Str.ofString "2"))) (dCons (dNeg (dC (.int 2))) (dCons (dTup (dCons (dC (.int 2)) dNil)) dNil)))))))))) (dMod (dVar 1) (dC (.int 8)))))))))))))))
def F_law_wrong : List D → R D := fun ds => (runF 6 b_law_wrong ds).noer
abbrev N_law_parts : List Str := [(Str.ofString "_law_kind"), (Str.ofString "_law_table")]
def b_law_parts : DSt → R Out := dSeq (dSet 1 (dLst (dCons (dLst (dCons (dC (.str (Str.ofString "block"))) (dCons (dC (.str (Str.ofString "place"))) (dCons (dC (.str (Str.ofString "place"))) (dCons (dC (.str (Str.ofString "text"))) dNil))))) (dCons (dLst (dCons (dC (.str (Str.ofString "signs"))) dNil)) (dCons (dLst (dCons (dC (.str (Str.ofString "sign"))) (dCons (dC (.str (Str.ofString "sign"))) (dCons (dC (.str (Str.ofString "word"))) (dCons (dC (.str (Str.ofString "worth"))) dNil))))) (dCons (dLst (dCons (dC (.str (Str.ofString "sign"))) (dCons (dC (.str (Str.ofString "sign"))) (dCons (dC (.str (Str.ofString "text"))) dNil)))) (dCons (dLst (dCons (dC (.str (Str.ofString "block"))) (dCons (dC (.str (Str.ofString "behind"))) dNil))) dNil))))))) (dSeq (dSet 1 (dAdd (dOp (dVar 1)) (dOp (dLst (dCons (dLst (dCons (dC (.str (Str.ofString "block"))) (dCons (dC (.str (Str.ofString "block"))) (dCons (dC (.str (Str.ofString "behind"))) dNil)))) (dCons (dLst (dCons (dC (.str (Str.ofString "block"))) dNil)) (dCons (dLst (dCons (dC (.str (Str.ofString "number"))) dNil)) (dCons (dLst (dCons (dC (.str (Str.ofString "number"))) dNil)) (dCons (dLst (dCons (dC (.str (Str.ofString "hand"))) dNil)) (dCons (dLst (dCons (dC (.str (Str.ofString "hand"))) dNil)) (dCons (dLst dNil) (dCons (dLst dNil) dNil)))))))))))) (dRet (dIdx (dOp (dVar 1)) (dVar 0))))
def F_law_parts : List D → R D := fun ds => (runF 2 b_law_parts ds).noer
abbrev N_law_acts_wrong : List Str := [(Str.ofString "_law_row"), (Str.ofString "_law_at"), (Str.ofString "_law_act_here"), (Str.ofString "_law_kind"), (Str.ofString "_law_made"), (Str.ofString "_law_parts_here"), (Str.ofString "_law_j"), (Str.ofString "_law_k")]
def l_law_acts_wrong_1 : DSt → R Out := dApp 4 (dAdd (dOp (dAdd (dOp (dSlice (dOp (dVar 2)) dNoPart (dPart (dAdd (dOp (dVar 6)) (dOp (dC (.int 1))))))) (dOp (dTup (dCons (dCallN 2 F_law_wrong (dCons (dIdx (dOp (dVar 5)) (dVar 6)) (dCons (dCallN 3 F_law_draw (dCons (dVar 0) (dCons (dAdd (dOp (dAdd (dOp (dVar 1)) (dOp (dMul (dC (.int 3)) (dVar 6))))) (dOp (dVar 7))) (dCons (dC (.int 840)) dNil)))) dNil))) dNil))))) (dOp (dSlice (dOp (dVar 2)) (dPart (dAdd (dOp (dVar 6)) (dOp (dC (.int 2))))) dNoPart)))
def l_law_acts_wrong_2 : DSt → R Out := dFor (dRng P.range1 (dCons (dC (.int 3)) dNil)) (gN 7) l_law_acts_wrong_1 [7]
def b_law_acts_wrong : DSt → R Out := dSeq (dSetN 4 (dLstN (dCons (dFre (dListN (dOp (dVar 2)))) (dCons (dAdd (dOp (dVar 2)) (dOp (dTup (dCons (dC (.int 0)) dNil)))) (dCons (dSlice (dOp (dVar 2)) dNoPart (dPart (dSub (dLen (dOp (dVar 2))) (dC (.int 1))))) (dCons (dTup (dCons (dVar 2) dNil)) (dCons (dSlice (dOp (dVar 2)) (dPart (dC (.int 1))) dNoPart) (dCons (dAdd (dOp (dTup (dCons (dC (.str (Str.ofString "Say"))) dNil))) (dOp (dSlice (dOp (dVar 2)) (dPart (dC (.int 1))) dNoPart))) (dCons (dAdd (dOp (dTup (dCons (dAdd (dOp (dIdx (dOp (dVar 2)) (dC (.int 0)))) (dOp (dC (.str (Str.ofString " "))))) dNil))) (dOp (dSlice (dOp (dVar 2)) (dPart (dC (.int 1))) dNoPart))) (dCons (dAdd (dOp (dTup (dCons (dC .none) dNil))) (dOp (dSlice (dOp (dVar 2)) (dPart (dC (.int 1))) dNoPart))) (dCons (dIdx (dOp (dVar 2)) (dC (.int 0))) (dCons (dC .none) (dCons (dC (.bool true)) dNil))))))))))))) (dSeq (dSetN 4 (dCatN (dVarO 4) (dOp (dLst (dCons (dVar 1) (dCons (dAdd (dOp (dVar 2)) (dOp (dVar 2))) (dCons (dTup (dCons (dC (.str (Str.ofString "says"))) dNil)) dNil))))))) (dSeq (dSet 5 (dCallN 1 F_law_parts (dCons (dVar 3) dNil))) (dSeq (dFor (dRng P.range1 (dCons (dLen (dOp (dVar 5))) dNil)) (gN 6) l_law_acts_wrong_2 [6, 7]) ((fun δ => (dRet (dVar 4)) (frz1 4 δ))))))
def F_law_acts_wrong : List D → R D := fun ds => (runF 8 b_law_acts_wrong ds).noer
abbrev N_law_deeds_wrong : List Str := [(Str.ofString "_law_deed_here"), (Str.ofString "_law_k"), (Str.ofString "_law_hand"), (Str.ofString "_law_number"), (Str.ofString "_law_seen"), (Str.ofString "_law_act_here"), (Str.ofString "_law_made"), (Str.ofString "_law_other"), (Str.ofString "_law_j")]
def e_law_deeds_wrong_1 : DSt → R D := fun δ => ((dAdd (dOp (dIdx (dOp (dVar 4)) (dVar 8))) (dOp (dIf (dTru (d2 P.eq (dOp (dVar 8)) (dOp (dSub (dVar 2) (dC (.int 1)))))) (dC (.int 1)) (dC (.int 0))))) δ).noer
def e_law_deeds_wrong_2 : DSt → R D := fun δ => ((dIf (dTru (d2 P.eq (dOp (dVar 8)) (dOp (dVar 7)))) (dNeg (dC (.int 1))) (dIdx (dOp (dVar 4)) (dVar 8))) δ).noer
def e_law_deeds_wrong_3 : DSt → R D := fun δ => ((dIf (dTru (d2 P.eq (dOp (dVar 8)) (dOp (dVar 7)))) (dC (.bool false)) (dIdx (dOp (dVar 4)) (dVar 8))) δ).noer
def b_law_deeds_wrong : DSt → R Out := dSeq (dAsg (dVar 0) (gT 4 (gsC (gN 2) (gsC (gN 3) (gsC (gN 4) (gsC (gN 5) gsN)))))) (dSeq (dSetN 6 (dLstN (dCons (dFre (dListN (dOp (dVar 0)))) (dCons (dAdd (dOp (dVar 0)) (dOp (dTup (dCons (dC (.int 0)) dNil)))) (dCons (dSlice (dOp (dVar 0)) dNoPart (dPart (dC (.int 3)))) (dCons (dTup (dCons (dVar 0) dNil)) (dCons (dTup (dCons (dC (.int 0)) (dCons (dVar 3) (dCons (dVar 4) (dCons (dVar 5) dNil))))) (dCons (dTup (dCons (dC (.int 5)) (dCons (dVar 3) (dCons (dVar 4) (dCons (dVar 5) dNil))))) (dCons (dTup (dCons (dC (.bool true)) (dCons (dVar 3) (dCons (dVar 4) (dCons (dVar 5) dNil))))) dNil))))))))) (dSeq (dSetN 6 (dCatN (dVarO 6) (dOp (dLst (dCons (dTup (dCons (d1 P.str (dOp (dVar 2))) (dCons (dVar 3) (dCons (dVar 4) (dCons (dVar 5) dNil))))) (dCons (dTup (dCons (dVar 2) (dCons (dC (.int 0)) (dCons (dVar 4) (dCons (dVar 5) dNil))))) (dCons (dTup (dCons (dVar 2) (dCons (dC (.bool true)) (dCons (dVar 4) (dCons (dVar 5) dNil))))) (dCons (dTup (dCons (dVar 2) (dCons (dC .none) (dCons (dVar 4) (dCons (dVar 5) dNil))))) dNil)))))))) (dSeq (dSetN 6 (dCatN (dVarO 6) (dOp (dLst (dCons (dTup (dCons (dVar 2) (dCons (dVar 3) (dCons (dFre (dListN (dOp (dVar 4)))) (dCons (dVar 5) dNil))))) (dCons (dTup (dCons (dVar 2) (dCons (dVar 3) (dCons (dSlice (dOp (dVar 4)) dNoPart (dPart (dC (.int 3)))) (dCons (dVar 5) dNil))))) (dCons (dTup (dCons (dVar 2) (dCons (dVar 3) (dCons (dAdd (dOp (dVar 4)) (dOp (dTup (dCons (dC (.int 0)) dNil)))) (dCons (dVar 5) dNil))))) (dCons (dTup (dCons (dVar 2) (dCons (dAdd (dOp (dVar 3)) (dOp (dC (.int 1)))) (dCons (dVar 4) (dCons (dVar 5) dNil))))) dNil)))))))) (dSeq (dSetN 6 (dCatN (dVarO 6) (dOp (dLst (dCons (dTup (dCons (dVar 2) (dCons (dVar 3) (dCons (dVar 4) (dCons (dFre (dListN (dOp (dVar 5)))) dNil))))) (dCons (dTup (dCons (dVar 2) (dCons (dVar 3) (dCons (dVar 4) (dCons (dIdx (dOp (dVar 5)) (dC (.int 0))) dNil))))) (dCons (dTup (dCons (dVar 2) (dCons (dVar 3) (dCons (dVar 4) (dCons (dC .none) dNil))))) (dCons (dTup (dCons (dVar 3) (dCons (dVar 4) (dCons (dVar 5) dNil)))) dNil)))))))) (dSeq (dApp 6 (dTup (dCons (dVar 2) (dCons (dVar 3) (dCons (d1 P.tuple (dOp (dFre (dLc (dRng P.range1 (dCons (dC (.int 4)) dNil)) (gN 8) dYesN e_law_deeds_wrong_1 [8])))) (dCons (dVar 5) dNil)))))) (dSeq (dSet 7 (dMod (dToInt (dOp (dAdd (dOp (dVar 2)) (dOp (dVar 1))))) (dC (.int 4)))) (dSeq (dIf (dTru (d2 P.ne (dOp (dVar 7)) (dOp (dSub (dVar 2) (dC (.int 1)))))) (dSeq (dApp 6 (dTup (dCons (dVar 2) (dCons (dVar 3) (dCons (d1 P.tuple (dOp (dFre (dLc (dRng P.range1 (dCons (dC (.int 4)) dNil)) (gN 8) dYesN e_law_deeds_wrong_2 [8])))) (dCons (dVar 5) dNil)))))) (dApp 6 (dTup (dCons (dVar 2) (dCons (dVar 3) (dCons (d1 P.tuple (dOp (dFre (dLc (dRng P.range1 (dCons (dC (.int 4)) dNil)) (gN 8) dYesN e_law_deeds_wrong_3 [8])))) (dCons (dVar 5) dNil))))))) dNext) ((fun δ => (dRet (dVar 6)) (frz1 6 δ))))))))))
def F_law_deeds_wrong : List D → R D := fun ds => (runF 9 b_law_deeds_wrong ds).noer
abbrev N_law : List Str := [(Str.ofString "_law_script"), (Str.ofString "_law_row"), (Str.ofString "_law_turn"), (Str.ofString "_law_at"), (Str.ofString "_law_kind"), (Str.ofString "_law_act_here"), (Str.ofString "_law_deed_here"), (Str.ofString "_law_bad")]
def l_law_1 : DSt → R Out := dIf (dOr (dNot (dTru (dCallN 2 F_law_so (dCons (dCallN 1 F_is_act (dCons (dVar 7) dNil)) (dCons (dC (.bool false)) dNil))))) (dNot (dTru (dCallN 2 F_law_so (dCons (dCallN 1 F_is_deed (dCons (dTup (dCons (dIdx (dOp (dVar 6)) (dC (.int 0))) (dCons (dIdx (dOp (dVar 6)) (dC (.int 1))) (dCons (dIdx (dOp (dVar 6)) (dC (.int 2))) (dCons (dVar 7) dNil))))) dNil)) (dCons (dC (.bool false)) dNil)))))) (dRet (dC (.bool false))) dNext
def l_law_2 : DSt → R Out := dIf (dNot (dTru (dCallN 2 F_law_so (dCons (dCallN 1 F_is_deed (dCons (dVar 7) dNil)) (dCons (dC (.bool false)) dNil))))) (dRet (dC (.bool false))) dNext
def l_law_3 : DSt → R Out := dSeq (dSet 3 (dMul (dC (.int 43)) (dVar 2))) (dSeq (dSet 4 (dMod (dToInt (dOp (dAdd (dOp (dCallN 3 F_law_draw (dCons (dVar 1) (dCons (dC (.int 5)) (dCons (dC (.int 13)) dNil))))) (dOp (dVar 2))))) (dC (.int 13)))) (dSeq (dSet 5 (dCallN 3 F_law_act (dCons (dVar 1) (dCons (dVar 3) (dCons (dVar 4) dNil))))) (dSeq (dSet 6 (dCallN 3 F_law_deed (dCons (dVar 1) (dCons (dAdd (dOp (dVar 3)) (dOp (dC (.int 31)))) (dCons (dVar 5) dNil))))) (dSeq (dIf (dOr (dNot (dTru (dCallN 2 F_law_so (dCons (dCallN 1 F_is_act (dCons (dVar 5) dNil)) (dCons (dC (.bool true)) dNil))))) (dOr (dNot (dTru (dCallN 2 F_law_so (dCons (dCallN 1 F_is_deed (dCons (dVar 6) dNil)) (dCons (dC (.bool true)) dNil))))) (dNot (dTru (dCallN 2 F_law_so (dCons (dCallN 1 F_id_of (dCons (dVar 6) dNil)) (dCons (dTup (dCons (dIdx (dOp (dVar 6)) (dC (.int 0))) (dCons (dIdx (dOp (dVar 6)) (dC (.int 1))) dNil))) dNil))))))) (dRet (dC (.bool false))) dNext) (dSeq (dIf (dOr (dNot (dTru (dCallN 2 F_law_so (dCons (dCallN 1 F_is_act (dCons (dVar 6) dNil)) (dCons (dC (.bool false)) dNil))))) (dNot (dTru (dCallN 2 F_law_so (dCons (dCallN 1 F_is_deed (dCons (dVar 5) dNil)) (dCons (dC (.bool false)) dNil)))))) (dRet (dC (.bool false))) dNext) (dSeq (dFor (dItems (dCallN 4 F_law_acts_wrong (dCons (dVar 1) (dCons (dAdd (dOp (dVar 3)) (dOp (dC (.int 7)))) (dCons (dVar 5) (dCons (dVar 4) dNil)))))) (gN 7) l_law_1 [7]) (dFor (dItems (dCallN 2 F_law_deeds_wrong (dCons (dVar 6) (dCons (dCallN 3 F_law_draw (dCons (dVar 1) (dCons (dAdd (dOp (dVar 3)) (dOp (dC (.int 9)))) (dCons (dC (.int 4)) dNil)))) dNil)))) (gN 7) l_law_2 [7])))))))
def b_law : DSt → R Out := dSeq (dSet 1 (dCallN 1 F_law_numbers (dCons (dVar 0) dNil))) (dSeq (dFor (dRng P.range1 (dCons (dAdd (dOp (dC (.int 2))) (dOp (dCall1 P.min2 (dCons (dDiv (dLen (dOp (dVar 1))) (dC (.int 6))) (dCons (dC (.int 11)) dNil))))) dNil)) (gN 2) l_law_3 [2, 3, 4, 5, 6, 7]) (dRet (dAndV (dCallN 2 F_law_so (dCons (dCallN 1 F_is_act (dCons (dTup (dCons (dC (.str (Str.ofString "move"))) (dCons (dTup (dCons (dC (.int 0)) (dCons (dC (.int 0)) dNil))) (dCons (dTup (dCons (dC (.int 0)) (dCons (dC (.int 0)) dNil))) (dCons (dC .none) dNil))))) dNil)) (dCons (dC (.bool true)) dNil))) (dAndV (dCallN 2 F_law_so (dCons (dCallN 1 F_is_act (dCons (dTup (dCons (dC (.str (Str.ofString "drop"))) (dCons (dTup (dCons (dC (.int 0)) (dCons (dC (.int 0)) dNil))) dNil))) dNil)) (dCons (dC (.bool true)) dNil))) (dCallN 2 F_law_so (dCons (dCallN 1 F_is_act (dCons (dTup (dCons (dC (.str (Str.ofString "block"))) (dCons (dTup (dCons (dC (.int 0)) (dCons (dC (.int 0)) dNil))) (dCons (dTup (dCons (dC (.int 0)) (dCons (dC (.int 0)) dNil))) dNil)))) dNil)) (dCons (dC (.bool true)) dNil)))))))
def F_law : List D → R D := fun ds => (runF 8 b_law ds).noer
end K03

namespace K03
open PySem PySem.Spec PyProof.Rows L2 Dn
def topS (i : Nat) : Stmt := PySem.Challenge.pw_quillmoot_k03_whole_what_is_an_act_and_a.main.body.getD i (.Pass ⟨0, 0, 0, 0⟩)
abbrev s_is_integer : Stmt := topS 2
theorem sc_is_integer : FnScope N_is_integer [(Str.ofString "value")] (defScope s_is_integer) := ⟨rfl, rfl, rfl, by decide +kernel, rfl, by decide +kernel, by decide +kernel⟩
abbrev s_is_number : Stmt := topS 3
theorem sc_is_number : FnScope N_is_number [(Str.ofString "value"), (Str.ofString "least")] (defScope s_is_number) := ⟨rfl, rfl, rfl, by decide +kernel, rfl, by decide +kernel, by decide +kernel⟩
abbrev s_is_clock : Stmt := topS 4
theorem sc_is_clock : FnScope N_is_clock [(Str.ofString "value")] (defScope s_is_clock) := ⟨rfl, rfl, rfl, by decide +kernel, rfl, by decide +kernel, by decide +kernel⟩
abbrev s_is_hand : Stmt := topS 11
theorem sc_is_hand : FnScope N_is_hand [(Str.ofString "value")] (defScope s_is_hand) := ⟨rfl, rfl, rfl, by decide +kernel, rfl, by decide +kernel, by decide +kernel⟩
abbrev s_is_string_of : Stmt := topS 12
theorem sc_is_string_of : FnScope N_is_string_of [(Str.ofString "value"), (Str.ofString "signs")] (defScope s_is_string_of) := ⟨rfl, rfl, rfl, by decide +kernel, rfl, by decide +kernel, by decide +kernel⟩
abbrev s_is_word : Stmt := topS 13
theorem sc_is_word : FnScope N_is_word [(Str.ofString "value")] (defScope s_is_word) := ⟨rfl, rfl, rfl, by decide +kernel, rfl, by decide +kernel, by decide +kernel⟩
abbrev s_is_text : Stmt := topS 14
theorem sc_is_text : FnScope N_is_text [(Str.ofString "value")] (defScope s_is_text) := ⟨rfl, rfl, rfl, by decide +kernel, rfl, by decide +kernel, by decide +kernel⟩
abbrev s_is_deed_id : Stmt := topS 15
theorem sc_is_deed_id : FnScope N_is_deed_id [(Str.ofString "value")] (defScope s_is_deed_id) := ⟨rfl, rfl, rfl, by decide +kernel, rfl, by decide +kernel, by decide +kernel⟩
abbrev s_is_block_id : Stmt := topS 16
theorem sc_is_block_id : FnScope N_is_block_id [(Str.ofString "value")] (defScope s_is_block_id) := ⟨rfl, rfl, rfl, by decide +kernel, rfl, by decide +kernel, by decide +kernel⟩
abbrev s_is_sign_id : Stmt := topS 17
theorem sc_is_sign_id : FnScope N_is_sign_id [(Str.ofString "value")] (defScope s_is_sign_id) := ⟨rfl, rfl, rfl, by decide +kernel, rfl, by decide +kernel, by decide +kernel⟩
abbrev s_is_erased : Stmt := topS 18
theorem sc_is_erased : FnScope N_is_erased [(Str.ofString "value")] (defScope s_is_erased) := ⟨rfl, rfl, rfl, by decide +kernel, rfl, by decide +kernel, by decide +kernel⟩
abbrev s_is_part : Stmt := topS 19
theorem sc_is_part : FnScope N_is_part [(Str.ofString "kind"), (Str.ofString "value")] (defScope s_is_part) := ⟨rfl, rfl, rfl, by decide +kernel, rfl, by decide +kernel, by decide +kernel⟩
abbrev s_is_act : Stmt := topS 20
theorem sc_is_act : FnScope N_is_act [(Str.ofString "value")] (defScope s_is_act) := ⟨rfl, rfl, rfl, by decide +kernel, rfl, by decide +kernel, by decide +kernel⟩
abbrev s_is_deed : Stmt := topS 21
theorem sc_is_deed : FnScope N_is_deed [(Str.ofString "value")] (defScope s_is_deed) := ⟨rfl, rfl, rfl, by decide +kernel, rfl, by decide +kernel, by decide +kernel⟩
abbrev s_id_of : Stmt := topS 22
theorem sc_id_of : FnScope N_id_of [(Str.ofString "deed")] (defScope s_id_of) := ⟨rfl, rfl, rfl, by decide +kernel, rfl, by decide +kernel, by decide +kernel⟩
abbrev s_law_so : Stmt := topS 24
theorem sc_law_so : FnScope N_law_so [(Str.ofString "_law_found"), (Str.ofString "_law_meant")] (defScope s_law_so) := ⟨rfl, rfl, rfl, by decide +kernel, rfl, by decide +kernel, by decide +kernel⟩
abbrev s_law_numbers : Stmt := topS 25
theorem sc_law_numbers : FnScope N_law_numbers [(Str.ofString "_law_script")] (defScope s_law_numbers) := ⟨rfl, rfl, rfl, by decide +kernel, rfl, by decide +kernel, by decide +kernel⟩
abbrev s_law_draw : Stmt := topS 26
theorem sc_law_draw : FnScope N_law_draw [(Str.ofString "_law_row"), (Str.ofString "_law_at"), (Str.ofString "_law_limit")] (defScope s_law_draw) := ⟨rfl, rfl, rfl, by decide +kernel, rfl, by decide +kernel, by decide +kernel⟩
abbrev s_law_word : Stmt := topS 27
theorem sc_law_word : FnScope N_law_word [(Str.ofString "_law_row"), (Str.ofString "_law_at"), (Str.ofString "_law_most")] (defScope s_law_word) := ⟨rfl, rfl, rfl, by decide +kernel, rfl, by decide +kernel, by decide +kernel⟩
abbrev s_law_typed : Stmt := topS 28
theorem sc_law_typed : FnScope N_law_typed [(Str.ofString "_law_row"), (Str.ofString "_law_at")] (defScope s_law_typed) := ⟨rfl, rfl, rfl, by decide +kernel, rfl, by decide +kernel, by decide +kernel⟩
abbrev s_law_block : Stmt := topS 29
theorem sc_law_block : FnScope N_law_block [(Str.ofString "_law_row"), (Str.ofString "_law_at")] (defScope s_law_block) := ⟨rfl, rfl, rfl, by decide +kernel, rfl, by decide +kernel, by decide +kernel⟩
abbrev s_law_sign : Stmt := topS 30
theorem sc_law_sign : FnScope N_law_sign [(Str.ofString "_law_row"), (Str.ofString "_law_at")] (defScope s_law_sign) := ⟨rfl, rfl, rfl, by decide +kernel, rfl, by decide +kernel, by decide +kernel⟩
abbrev s_law_signs : Stmt := topS 31
theorem sc_law_signs : FnScope N_law_signs [(Str.ofString "_law_row"), (Str.ofString "_law_at")] (defScope s_law_signs) := ⟨rfl, rfl, rfl, by decide +kernel, rfl, by decide +kernel, by decide +kernel⟩
abbrev s_law_act : Stmt := topS 32
theorem sc_law_act : FnScope N_law_act [(Str.ofString "_law_row"), (Str.ofString "_law_at"), (Str.ofString "_law_kind")] (defScope s_law_act) := ⟨rfl, rfl, rfl, by decide +kernel, rfl, by decide +kernel, by decide +kernel⟩
abbrev s_law_deed : Stmt := topS 33
theorem sc_law_deed : FnScope N_law_deed [(Str.ofString "_law_row"), (Str.ofString "_law_at"), (Str.ofString "_law_act_here")] (defScope s_law_deed) := ⟨rfl, rfl, rfl, by decide +kernel, rfl, by decide +kernel, by decide +kernel⟩
abbrev s_law_wrong : Stmt := topS 34
theorem sc_law_wrong : FnScope N_law_wrong [(Str.ofString "_law_part"), (Str.ofString "_law_k")] (defScope s_law_wrong) := ⟨rfl, rfl, rfl, by decide +kernel, rfl, by decide +kernel, by decide +kernel⟩
abbrev s_law_parts : Stmt := topS 35
theorem sc_law_parts : FnScope N_law_parts [(Str.ofString "_law_kind")] (defScope s_law_parts) := ⟨rfl, rfl, rfl, by decide +kernel, rfl, by decide +kernel, by decide +kernel⟩
abbrev s_law_acts_wrong : Stmt := topS 36
theorem sc_law_acts_wrong : FnScope N_law_acts_wrong [(Str.ofString "_law_row"), (Str.ofString "_law_at"), (Str.ofString "_law_act_here"), (Str.ofString "_law_kind")] (defScope s_law_acts_wrong) := ⟨rfl, rfl, rfl, by decide +kernel, rfl, by decide +kernel, by decide +kernel⟩
abbrev s_law_deeds_wrong : Stmt := topS 37
theorem sc_law_deeds_wrong : FnScope N_law_deeds_wrong [(Str.ofString "_law_deed_here"), (Str.ofString "_law_k")] (defScope s_law_deeds_wrong) := ⟨rfl, rfl, rfl, by decide +kernel, rfl, by decide +kernel, by decide +kernel⟩
abbrev s_law : Stmt := topS 38
theorem sc_law : FnScope N_law [(Str.ofString "_law_script")] (defScope s_law) := ⟨rfl, rfl, rfl, by decide +kernel, rfl, by decide +kernel, by decide +kernel⟩
section
variable {P : Program} {w : World} {K : PySem.W.Frag} {mg : Str → Option Value} {base : Heap} {G : Str → Addr}
theorem ok_is_integer (F : FunE K mg (Str.ofString "is_integer") s_is_integer [(Str.ofString "value")]) (z_bool : mg (Str.ofString "bool") = none) (z_int : mg (Str.ofString "int") = none) (z_isinstance : mg (Str.ofString "isinstance") = none) : EntD P w K mg base G (Str.ofString "is_integer") 1 1 F_is_integer :=
  entD F sc_is_integer rfl rfl fun f cdv A outer s H E hr => dss_one (ds_ret (de_and (de_isi (by rfl) z_isinstance (by decide +kernel) (by rfl) z_int (by decide +kernel) (do_of (de_var 0))) (de_one (de_not (de_isi (by rfl) z_isinstance (by decide +kernel) (by rfl) z_bool (by decide +kernel) (do_of (de_var 0)))))))
theorem ok_is_number (F : FunE K mg (Str.ofString "is_number") s_is_number [(Str.ofString "value"), (Str.ofString "least")]) (h_is_integer : EntD P w K mg base G (Str.ofString "is_integer") 1 1 F_is_integer) : EntD P w K mg base G (Str.ofString "is_number") 2 2 F_is_number :=
  entD F sc_is_number rfl rfl fun f cdv A outer s H E hr => dss_one (ds_ret (de_and (de_callE h_is_integer (hr.mono (by decide)) (by rfl) (da_cons (de_var 0) da_nil)) (de_one (de_c (dc_ge (de_var 0) (de_var 1))))))
theorem ok_is_clock (F : FunE K mg (Str.ofString "is_clock") s_is_clock [(Str.ofString "value")]) (h_is_number : EntD P w K mg base G (Str.ofString "is_number") 2 2 F_is_number) (c_HANDS : CstD K mg (Str.ofString "HANDS") K_HANDS) (z_all : mg (Str.ofString "all") = none) (z_isinstance : mg (Str.ofString "isinstance") = none) (z_len : mg (Str.ofString "len") = none) (z_tuple : mg (Str.ofString "tuple") = none) : EntD P w K mg base G (Str.ofString "is_clock") 3 1 F_is_clock :=
  entD F sc_is_clock rfl rfl fun f cdv A outer s H E hr => dss_cons (ds_if (dt_w (dw_or (dt_not (dt_val (de_isi (by rfl) z_isinstance (by decide +kernel) (by rfl) z_tuple (by decide +kernel) (do_of (de_var 0))))) (dw_or1 (dt_c (dc_ne hr.units (do_of (de_len (by rfl) z_len (do_of (de_var 0)))) (do_of (de_len (by rfl) z_len (do_of (de_cst c_HANDS (by rfl)))))))))) (dss_one (ds_ret de_bl)) dss_nil) (dss_one (ds_ret (de_all rfl (by rfl) z_all (by decide +kernel) (do_of (de_fre (dn_lc (m := false) (own := [((Str.ofString "one"), 1)]) rfl sc_is_clock.nd (di_any (de_var 0)) (blkOk_by (N := N_is_clock) (sc := defScope s_is_clock) (by decide +kernel)) (fun _ _ _ _ _ => dg_name 1 (by decide) sc_is_clock.nd rfl (by first | exact .inl rfl | exact .inr rfl)) (fun _ _ _ _ _ => dts_nil) (fun _ _ _ _ _ => de_callE h_is_number (hr.mono (by decide)) (by rfl) (da_cons (de_var 1) (da_cons de_int da_nil)))))))))
theorem ok_is_hand (F : FunE K mg (Str.ofString "is_hand") s_is_hand [(Str.ofString "value")]) (h_is_number : EntD P w K mg base G (Str.ofString "is_number") 2 2 F_is_number) (c_HANDS : CstD K mg (Str.ofString "HANDS") K_HANDS) (z_len : mg (Str.ofString "len") = none) : EntD P w K mg base G (Str.ofString "is_hand") 3 1 F_is_hand :=
  entD F sc_is_hand rfl rfl fun f cdv A outer s H E hr => dss_one (ds_ret (de_and (de_callE h_is_number (hr.mono (by decide)) (by rfl) (da_cons (de_var 0) (da_cons de_int da_nil))) (de_one (de_c (dc_le (de_var 0) (de_len (by rfl) z_len (do_of (de_cst c_HANDS (by rfl)))))))))
theorem ok_is_string_of (F : FunE K mg (Str.ofString "is_string_of") s_is_string_of [(Str.ofString "value"), (Str.ofString "signs")]) (c_MOST_SIGNS : CstD K mg (Str.ofString "MOST_SIGNS") K_MOST_SIGNS) (z_all : mg (Str.ofString "all") = none) (z_isinstance : mg (Str.ofString "isinstance") = none) (z_len : mg (Str.ofString "len") = none) (z_str : mg (Str.ofString "str") = none) : EntD P w K mg base G (Str.ofString "is_string_of") 1 2 F_is_string_of :=
  entD F sc_is_string_of rfl rfl fun f cdv A outer s H E hr => dss_cons (ds_if (dt_w (dw_or (dt_not (dt_val (de_isi (by rfl) z_isinstance (by decide +kernel) (by rfl) z_str (by decide +kernel) (do_of (de_var 0))))) (dw_or1 (dt_not (dt_chain io_le io_le de_int (de_len (by rfl) z_len (do_of (de_var 0))) (de_cst c_MOST_SIGNS (by rfl))))))) (dss_one (ds_ret de_bl)) dss_nil) (dss_one (ds_ret (de_all rfl (by rfl) z_all (by decide +kernel) (do_of (de_fre (dn_lc (m := false) (own := [((Str.ofString "sign"), 2)]) rfl sc_is_string_of.nd (di_any (de_var 0)) (blkOk_by (N := N_is_string_of) (sc := defScope s_is_string_of) (by decide +kernel)) (fun _ _ _ _ _ => dg_name 2 (by decide) sc_is_string_of.nd rfl (by first | exact .inl rfl | exact .inr rfl)) (fun _ _ _ _ _ => dts_nil) (fun _ _ _ _ _ => de_c (dc_inS (by rfl) (hu65 hr) (de_var 2) (do_of (de_var 1))))))))))
theorem ok_is_word (F : FunE K mg (Str.ofString "is_word") s_is_word [(Str.ofString "value")]) (h_is_string_of : EntD P w K mg base G (Str.ofString "is_string_of") 1 2 F_is_string_of) (c_LETTERS : CstD K mg (Str.ofString "LETTERS") K_LETTERS) : EntD P w K mg base G (Str.ofString "is_word") 2 1 F_is_word :=
  entD F sc_is_word rfl rfl fun f cdv A outer s H E hr => dss_one (ds_ret (de_callE h_is_string_of (hr.mono (by decide)) (by rfl) (da_cons (de_var 0) (da_cons (de_cst c_LETTERS (by rfl)) da_nil))))
theorem ok_is_text (F : FunE K mg (Str.ofString "is_text") s_is_text [(Str.ofString "value")]) (h_is_string_of : EntD P w K mg base G (Str.ofString "is_string_of") 1 2 F_is_string_of) (c_TEXT_SIGNS : CstD K mg (Str.ofString "TEXT_SIGNS") K_TEXT_SIGNS) : EntD P w K mg base G (Str.ofString "is_text") 2 1 F_is_text :=
  entD F sc_is_text rfl rfl fun f cdv A outer s H E hr => dss_one (ds_ret (de_callE h_is_string_of (hr.mono (by decide)) (by rfl) (da_cons (de_var 0) (da_cons (de_cst c_TEXT_SIGNS (by rfl)) da_nil))))
theorem ok_is_deed_id (F : FunE K mg (Str.ofString "is_deed_id") s_is_deed_id [(Str.ofString "value")]) (h_is_hand : EntD P w K mg base G (Str.ofString "is_hand") 3 1 F_is_hand) (h_is_number : EntD P w K mg base G (Str.ofString "is_number") 2 2 F_is_number) (z_isinstance : mg (Str.ofString "isinstance") = none) (z_len : mg (Str.ofString "len") = none) (z_tuple : mg (Str.ofString "tuple") = none) : EntD P w K mg base G (Str.ofString "is_deed_id") 4 1 F_is_deed_id :=
  entD F sc_is_deed_id rfl rfl fun f cdv A outer s H E hr => dss_one (ds_ret (de_and (de_isi (by rfl) z_isinstance (by decide +kernel) (by rfl) z_tuple (by decide +kernel) (do_of (de_var 0))) (de_and (de_c (dc_eq hr.units (do_of (de_len (by rfl) z_len (do_of (de_var 0)))) (do_of de_int))) (de_and (de_callE h_is_hand (hr.mono (by decide)) (by rfl) (da_cons (de_ix (do_of (de_var 0)) de_int (fun _ _ => rfl)) da_nil)) (de_one (de_callE h_is_number (hr.mono (by decide)) (by rfl) (da_cons (de_ix (do_of (de_var 0)) de_int (fun _ _ => rfl)) (da_cons de_int da_nil))))))))
theorem ok_is_block_id (F : FunE K mg (Str.ofString "is_block_id") s_is_block_id [(Str.ofString "value")]) (h_is_number : EntD P w K mg base G (Str.ofString "is_number") 2 2 F_is_number) (h_is_deed_id : EntD P w K mg base G (Str.ofString "is_deed_id") 4 1 F_is_deed_id) (c_ROOT : CstD K mg (Str.ofString "ROOT") K_ROOT) (z_isinstance : mg (Str.ofString "isinstance") = none) (z_len : mg (Str.ofString "len") = none) (z_tuple : mg (Str.ofString "tuple") = none) : EntD P w K mg base G (Str.ofString "is_block_id") 5 1 F_is_block_id :=
  entD F sc_is_block_id rfl rfl fun f cdv A outer s H E hr => dss_cons (ds_if (dt_w (dw_or (dt_not (dt_val (de_isi (by rfl) z_isinstance (by decide +kernel) (by rfl) z_tuple (by decide +kernel) (do_of (de_var 0))))) (dw_or1 (dt_c (dc_ne hr.units (do_of (de_len (by rfl) z_len (do_of (de_var 0)))) (do_of de_int)))))) (dss_one (ds_ret de_bl)) dss_nil) (dss_cons (ds_if (dt_w (dw_and (dt_val (de_callE h_is_number (hr.mono (by decide)) (by rfl) (da_cons (de_ix (do_of (de_var 0)) de_int (fun _ _ => rfl)) (da_cons de_int da_nil)))) (dw_and (dt_val (de_callE h_is_number (hr.mono (by decide)) (by rfl) (da_cons (de_ix (do_of (de_var 0)) de_int (fun _ _ => rfl)) (da_cons de_int da_nil)))) (dw_and1 (dt_c (dc_eq hr.units (do_of (de_var 0)) (do_of (de_cst c_ROOT (by rfl))))))))) (dss_one (ds_ret de_bl)) dss_nil) (dss_one (ds_ret (de_callE h_is_deed_id (hr.mono (by decide)) (by rfl) (da_cons (de_var 0) da_nil)))))
theorem ok_is_sign_id (F : FunE K mg (Str.ofString "is_sign_id") s_is_sign_id [(Str.ofString "value")]) (h_is_deed_id : EntD P w K mg base G (Str.ofString "is_deed_id") 4 1 F_is_deed_id) (h_is_number : EntD P w K mg base G (Str.ofString "is_number") 2 2 F_is_number) (z_isinstance : mg (Str.ofString "isinstance") = none) (z_len : mg (Str.ofString "len") = none) (z_tuple : mg (Str.ofString "tuple") = none) : EntD P w K mg base G (Str.ofString "is_sign_id") 5 1 F_is_sign_id :=
  entD F sc_is_sign_id rfl rfl fun f cdv A outer s H E hr => dss_cons (ds_if (dt_w (dw_or (dt_not (dt_val (de_isi (by rfl) z_isinstance (by decide +kernel) (by rfl) z_tuple (by decide +kernel) (do_of (de_var 0))))) (dw_or1 (dt_c (dc_ne hr.units (do_of (de_len (by rfl) z_len (do_of (de_var 0)))) (do_of de_int)))))) (dss_one (ds_ret de_bl)) dss_nil) (dss_one (ds_ret (de_and (de_callE h_is_deed_id (hr.mono (by decide)) (by rfl) (da_cons (de_slice (do_of (de_var 0)) dp_none (dp_some de_int)) da_nil)) (de_one (de_callE h_is_number (hr.mono (by decide)) (by rfl) (da_cons (de_ix (do_of (de_var 0)) de_int (fun _ _ => rfl)) (da_cons de_int da_nil)))))))
theorem ok_is_erased (F : FunE K mg (Str.ofString "is_erased") s_is_erased [(Str.ofString "value")]) (h_is_sign_id : EntD P w K mg base G (Str.ofString "is_sign_id") 5 1 F_is_sign_id) (c_MOST_SIGNS : CstD K mg (Str.ofString "MOST_SIGNS") K_MOST_SIGNS) (z_all : mg (Str.ofString "all") = none) (z_isinstance : mg (Str.ofString "isinstance") = none) (z_len : mg (Str.ofString "len") = none) (z_range : mg (Str.ofString "range") = none) (z_tuple : mg (Str.ofString "tuple") = none) : EntD P w K mg base G (Str.ofString "is_erased") 6 1 F_is_erased :=
  entD F sc_is_erased rfl rfl fun f cdv A outer s H E hr => dss_cons (ds_if (dt_w (dw_or (dt_not (dt_val (de_isi (by rfl) z_isinstance (by decide +kernel) (by rfl) z_tuple (by decide +kernel) (do_of (de_var 0))))) (dw_or1 (dt_not (dt_chain io_le io_le de_int (de_len (by rfl) z_len (do_of (de_var 0))) (de_cst c_MOST_SIGNS (by rfl))))))) (dss_one (ds_ret de_bl)) dss_nil) (dss_cons (ds_if (dt_not (dt_val (de_all rfl (by rfl) z_all (by decide +kernel) (do_of (de_fre (dn_lc (m := false) (own := [((Str.ofString "one"), 2)]) rfl sc_is_erased.nd (di_any (de_var 0)) (blkOk_by (N := N_is_erased) (sc := defScope s_is_erased) (by decide +kernel)) (fun _ _ _ _ _ => dg_name 2 (by decide) sc_is_erased.nd rfl (by first | exact .inl rfl | exact .inr rfl)) (fun _ _ _ _ _ => dts_nil) (fun _ _ _ _ _ => de_callE h_is_sign_id (hr.mono (by decide)) (by rfl) (da_cons (de_var 2) da_nil)))))))) (dss_one (ds_ret de_bl)) dss_nil) (dss_one (ds_ret (de_all rfl (by rfl) z_all (by decide +kernel) (do_of (de_fre (dn_lc (m := false) (own := [((Str.ofString "at"), 1)]) rfl sc_is_erased.nd (di_range2 (by rfl) z_range (da_cons de_int (da_cons (de_len (by rfl) z_len (do_of (de_var 0))) da_nil))) (blkOk_by (N := N_is_erased) (sc := defScope s_is_erased) (by decide +kernel)) (fun _ _ _ _ _ => dg_name 1 (by decide) sc_is_erased.nd rfl (by first | exact .inl rfl | exact .inr rfl)) (fun _ _ _ _ _ => dts_nil) (fun _ _ _ _ _ => de_c (dc_ltG hr.units0 (de_ix (do_of (de_var 0)) (de_sub (de_var 1) de_int) (fun _ _ => rfl)) (de_ix (do_of (de_var 0)) (de_var 1) (fun _ _ => rfl)))))))))))
theorem ok_is_part (F : FunE K mg (Str.ofString "is_part") s_is_part [(Str.ofString "kind"), (Str.ofString "value")]) (h_is_block_id : EntD P w K mg base G (Str.ofString "is_block_id") 5 1 F_is_block_id) (h_is_sign_id : EntD P w K mg base G (Str.ofString "is_sign_id") 5 1 F_is_sign_id) (h_is_erased : EntD P w K mg base G (Str.ofString "is_erased") 6 1 F_is_erased) (h_is_word : EntD P w K mg base G (Str.ofString "is_word") 2 1 F_is_word) (h_is_text : EntD P w K mg base G (Str.ofString "is_text") 2 1 F_is_text) (h_is_number : EntD P w K mg base G (Str.ofString "is_number") 2 2 F_is_number) (h_is_hand : EntD P w K mg base G (Str.ofString "is_hand") 3 1 F_is_hand) : EntD P w K mg base G (Str.ofString "is_part") 7 2 F_is_part :=
  entD F sc_is_part rfl rfl fun f cdv A outer s H E hr => dss_cons (ds_if (dt_c (dc_eq hr.units (do_of (de_var 0)) (do_of de_str))) (dss_one (ds_ret (de_callE h_is_block_id (hr.mono (by decide)) (by rfl) (da_cons (de_var 1) da_nil)))) dss_nil) (dss_cons (ds_if (dt_c (dc_eq hr.units (do_of (de_var 0)) (do_of de_str))) (dss_one (ds_ret (de_or (de_c (dc_isN (do_of (de_var 1)))) (de_one (de_callE h_is_block_id (hr.mono (by decide)) (by rfl) (da_cons (de_var 1) da_nil)))))) dss_nil) (dss_cons (ds_if (dt_c (dc_eq hr.units (do_of (de_var 0)) (do_of de_str))) (dss_one (ds_ret (de_or (de_c (dc_isN (do_of (de_var 1)))) (de_one (de_callE h_is_sign_id (hr.mono (by decide)) (by rfl) (da_cons (de_var 1) da_nil)))))) dss_nil) (dss_cons (ds_if (dt_c (dc_eq hr.units (do_of (de_var 0)) (do_of de_str))) (dss_one (ds_ret (de_callE h_is_sign_id (hr.mono (by decide)) (by rfl) (da_cons (de_var 1) da_nil)))) dss_nil) (dss_cons (ds_if (dt_c (dc_eq hr.units (do_of (de_var 0)) (do_of de_str))) (dss_one (ds_ret (de_callE h_is_erased (hr.mono (by decide)) (by rfl) (da_cons (de_var 1) da_nil)))) dss_nil) (dss_cons (ds_if (dt_c (dc_eq hr.units (do_of (de_var 0)) (do_of de_str))) (dss_one (ds_ret (de_callE h_is_word (hr.mono (by decide)) (by rfl) (da_cons (de_var 1) da_nil)))) dss_nil) (dss_cons (ds_if (dt_c (dc_eq hr.units (do_of (de_var 0)) (do_of de_str))) (dss_one (ds_ret (de_or (de_c (dc_isN (do_of (de_var 1)))) (de_one (de_callE h_is_word (hr.mono (by decide)) (by rfl) (da_cons (de_var 1) da_nil)))))) dss_nil) (dss_cons (ds_if (dt_c (dc_eq hr.units (do_of (de_var 0)) (do_of de_str))) (dss_one (ds_ret (de_callE h_is_text (hr.mono (by decide)) (by rfl) (da_cons (de_var 1) da_nil)))) dss_nil) (dss_cons (ds_if (dt_c (dc_eq hr.units (do_of (de_var 0)) (do_of de_str))) (dss_one (ds_ret (de_callE h_is_number (hr.mono (by decide)) (by rfl) (da_cons (de_var 1) (da_cons de_int da_nil))))) dss_nil) (dss_one (ds_ret (de_and (de_callE h_is_hand (hr.mono (by decide)) (by rfl) (da_cons (de_var 1) da_nil)) (de_one (de_c (dc_ne hr.units (do_of (de_var 1)) (do_of de_int)))))))))))))))
theorem ok_is_act (F : FunE K mg (Str.ofString "is_act") s_is_act [(Str.ofString "value")]) (h_is_part : EntD P w K mg base G (Str.ofString "is_part") 7 2 F_is_part) (k_PARTS : DctE K w mg (Str.ofString "PARTS") K_PARTS) (z_all : mg (Str.ofString "all") = none) (z_isinstance : mg (Str.ofString "isinstance") = none) (z_len : mg (Str.ofString "len") = none) (z_str : mg (Str.ofString "str") = none) (z_tuple : mg (Str.ofString "tuple") = none) (z_zip : mg (Str.ofString "zip") = none) : EntD P w K mg base G (Str.ofString "is_act") 8 1 F_is_act :=
  entD F sc_is_act rfl rfl fun f cdv A outer s H E hr => dss_cons (ds_if (dt_w (dw_or (dt_not (dt_val (de_isi (by rfl) z_isinstance (by decide +kernel) (by rfl) z_tuple (by decide +kernel) (do_of (de_var 0))))) (dw_or (dt_c (dc_lt (de_len (by rfl) z_len (do_of (de_var 0))) de_int)) (dw_or1 (dt_not (dt_val (de_isi (by rfl) z_isinstance (by decide +kernel) (by rfl) z_str (by decide +kernel) (do_of (de_ix (do_of (de_var 0)) de_int (fun _ _ => rfl)))))))))) (dss_one (ds_ret de_bl)) dss_nil) (dss_cons (ds_if (dt_c (dc_knotIn k_PARTS (by rfl) (de_ix (do_of (de_var 0)) de_int (fun _ _ => rfl)))) (dss_one (ds_ret de_bl)) dss_nil) (dss_cons (ds_set (i := 1) sc_is_act.nd rfl (by first | exact .inl rfl | exact .inr rfl) (de_kix k_PARTS (by rfl) (de_ix (do_of (de_var 0)) de_int (fun _ _ => rfl)) (fun _ _ => rfl))) (dss_cons (ds_if (dt_c (dc_ne hr.units (do_of (de_len (by rfl) z_len (do_of (de_var 0)))) (do_of (de_add (do_of (de_len (by rfl) z_len (do_of (de_var 1)))) (do_of de_int))))) (dss_one (ds_ret de_bl)) dss_nil) (dss_one (ds_ret (de_all rfl (by rfl) z_all (by decide +kernel) (do_of (de_fre (dn_lc (m := false) (own := [((Str.ofString "kind"), 2), ((Str.ofString "part"), 3)]) rfl sc_is_act.nd (di_zipS (by rfl) z_zip (da_cons (de_var 1) (da_cons (de_slice (do_of (de_var 0)) (dp_some de_int) dp_none) da_nil))) (blkOk_by (N := N_is_act) (sc := defScope s_is_act) (by decide +kernel)) (fun _ _ _ _ _ => dg_tup rfl (dgs_cons (dg_name 2 (by decide) sc_is_act.nd rfl (by first | exact .inl rfl | exact .inr rfl)) (dgs_cons (dg_name 3 (by decide) sc_is_act.nd rfl (by first | exact .inl rfl | exact .inr rfl)) dgs_nil))) (fun _ _ _ _ _ => dts_nil) (fun _ _ _ _ _ => de_callE h_is_part (hr.mono (by decide)) (by rfl) (da_cons (de_var 2) (da_cons (de_var 3) da_nil))))))))))))
theorem ok_is_deed (F : FunE K mg (Str.ofString "is_deed") s_is_deed [(Str.ofString "value")]) (h_is_hand : EntD P w K mg base G (Str.ofString "is_hand") 3 1 F_is_hand) (h_is_number : EntD P w K mg base G (Str.ofString "is_number") 2 2 F_is_number) (h_is_clock : EntD P w K mg base G (Str.ofString "is_clock") 3 1 F_is_clock) (h_is_act : EntD P w K mg base G (Str.ofString "is_act") 8 1 F_is_act) (z_isinstance : mg (Str.ofString "isinstance") = none) (z_len : mg (Str.ofString "len") = none) (z_tuple : mg (Str.ofString "tuple") = none) : EntD P w K mg base G (Str.ofString "is_deed") 9 1 F_is_deed :=
  entD F sc_is_deed rfl rfl fun f cdv A outer s H E hr => dss_cons (ds_if (dt_w (dw_or (dt_not (dt_val (de_isi (by rfl) z_isinstance (by decide +kernel) (by rfl) z_tuple (by decide +kernel) (do_of (de_var 0))))) (dw_or1 (dt_c (dc_ne hr.units (do_of (de_len (by rfl) z_len (do_of (de_var 0)))) (do_of de_int)))))) (dss_one (ds_ret de_bl)) dss_nil) (dss_cons (ds_asg (vs := [1, 2, 3, 4]) (de_var 0) (dg_tup rfl (dgs_cons (dg_name 1 (by decide) sc_is_deed.nd rfl (by first | exact .inl rfl | exact .inr rfl)) (dgs_cons (dg_name 2 (by decide) sc_is_deed.nd rfl (by first | exact .inl rfl | exact .inr rfl)) (dgs_cons (dg_name 3 (by decide) sc_is_deed.nd rfl (by first | exact .inl rfl | exact .inr rfl)) (dgs_cons (dg_name 4 (by decide) sc_is_deed.nd rfl (by first | exact .inl rfl | exact .inr rfl)) dgs_nil)))))) (dss_cons (ds_if (dt_w (dw_or (dt_not (dt_val (de_callE h_is_hand (hr.mono (by decide)) (by rfl) (da_cons (de_var 1) da_nil)))) (dw_or (dt_not (dt_val (de_callE h_is_number (hr.mono (by decide)) (by rfl) (da_cons (de_var 2) (da_cons de_int da_nil))))) (dw_or1 (dt_not (dt_val (de_callE h_is_clock (hr.mono (by decide)) (by rfl) (da_cons (de_var 3) da_nil)))))))) (dss_one (ds_ret de_bl)) dss_nil) (dss_one (ds_ret (de_and (de_c (dc_eq hr.units (do_of (de_ix (do_of (de_var 3)) (de_sub (de_var 1) de_int) (fun _ _ => rfl))) (do_of (de_sub (de_var 2) de_int)))) (de_one (de_callE h_is_act (hr.mono (by decide)) (by rfl) (da_cons (de_var 4) da_nil))))))))
theorem ok_id_of (F : FunE K mg (Str.ofString "id_of") s_id_of [(Str.ofString "deed")]) : EntD P w K mg base G (Str.ofString "id_of") 1 1 F_id_of :=
  entD F sc_id_of rfl rfl fun f cdv A outer s H E hr => dss_one (ds_ret (de_tup (da_cons (de_ix (do_of (de_var 0)) de_int (fun _ _ => rfl)) (da_cons (de_ix (do_of (de_var 0)) de_int (fun _ _ => rfl)) da_nil))))
theorem ok_law_so (F : FunE K mg (Str.ofString "_law_so") s_law_so [(Str.ofString "_law_found"), (Str.ofString "_law_meant")]) (z_bool : mg (Str.ofString "bool") = none) (z_int : mg (Str.ofString "int") = none) (z_isinstance : mg (Str.ofString "isinstance") = none) (z_len : mg (Str.ofString "len") = none) (z_range : mg (Str.ofString "range") = none) (z_str : mg (Str.ofString "str") = none) (z_tuple : mg (Str.ofString "tuple") = none) : ∀ n : Nat, EntD P w K mg base G (Str.ofString "_law_so") (0 + n) 2 (Fn_law_so n)
  | 0 => by
    obtain ⟨f, fd, h1, h2, h3⟩ := F.ex
    exact ⟨f, fd, [(Str.ofString "_law_found"), (Str.ofString "_law_meant")], ⟨fun vs H Q E h => (by obtain ⟨_, _, h, _⟩ := h; exact h), fun A outer s H args us vs Q E _ _ _ _ h => (by obtain ⟨_, _, _, _, _, h, _⟩ := h; exact absurd rfl h)⟩, h2, h3, h1.kp⟩
  | n + 1 => by
    have h_self := ok_law_so F z_bool z_int z_isinstance z_len z_range z_str z_tuple n
    exact entD (b := b_law_so (Fn_law_so n)) F sc_law_so rfl rfl fun f cdv A outer s H E hr => dss_cons (ds_if (dt_c (dc_isN (do_of (de_var 1)))) (dss_one (ds_ret (de_c (dc_isN (do_of (de_var 0)))))) dss_nil) (dss_cons (ds_if (dt_val (de_isi (by rfl) z_isinstance (by decide +kernel) (by rfl) z_bool (by decide +kernel) (do_of (de_var 1)))) (dss_one (ds_ret (de_and (de_isi (by rfl) z_isinstance (by decide +kernel) (by rfl) z_bool (by decide +kernel) (do_of (de_var 0))) (de_one (de_c (dc_eq hr.units (do_of (de_var 0)) (do_of (de_var 1)))))))) dss_nil) (dss_cons (ds_if (dt_val (de_isi (by rfl) z_isinstance (by decide +kernel) (by rfl) z_int (by decide +kernel) (do_of (de_var 1)))) (dss_one (ds_ret (de_and (de_isi (by rfl) z_isinstance (by decide +kernel) (by rfl) z_int (by decide +kernel) (do_of (de_var 0))) (de_and (de_not (de_isi (by rfl) z_isinstance (by decide +kernel) (by rfl) z_bool (by decide +kernel) (do_of (de_var 0)))) (de_one (de_c (dc_eq hr.units (do_of (de_var 0)) (do_of (de_var 1))))))))) dss_nil) (dss_cons (ds_if (dt_val (de_isi (by rfl) z_isinstance (by decide +kernel) (by rfl) z_str (by decide +kernel) (do_of (de_var 1)))) (dss_one (ds_ret (de_and (de_isi (by rfl) z_isinstance (by decide +kernel) (by rfl) z_str (by decide +kernel) (do_of (de_var 0))) (de_one (de_c (dc_eq hr.units (do_of (de_var 0)) (do_of (de_var 1)))))))) dss_nil) (dss_cons (ds_if (dt_w (dw_or (dt_not (dt_val (de_isi (by rfl) z_isinstance (by decide +kernel) (by rfl) z_tuple (by decide +kernel) (do_of (de_var 1))))) (dw_or (dt_not (dt_val (de_isi (by rfl) z_isinstance (by decide +kernel) (by rfl) z_tuple (by decide +kernel) (do_of (de_var 0))))) (dw_or1 (dt_c (dc_ne hr.units (do_of (de_len (by rfl) z_len (do_of (de_var 0)))) (do_of (de_len (by rfl) z_len (do_of (de_var 1)))))))))) (dss_one (ds_ret de_bl)) dss_nil) (dss_cons (ds_for (vs := [2]) [2] PassesOwn.never rfl (di_range1 (by rfl) z_range (da_cons (de_len (by rfl) z_len (do_of (de_var 1))) da_nil)) (dg_name 2 (by decide) sc_law_so.nd rfl (by first | exact .inl rfl | exact .inr rfl)) (dss_one (ds_if (dt_not (dt_val (de_callE h_self (hr.mono (by first | exact Nat.le_refl _ | (simp only [Nat.add_eq]; omega))) (by rfl) (da_cons (de_ix (do_of (de_var 0)) (de_var 2) (fun _ _ => rfl)) (da_cons (de_ix (do_of (de_var 1)) (de_var 2) (fun _ _ => rfl)) da_nil))))) (dss_one (ds_ret de_bl)) dss_nil))) (dss_one (ds_ret de_bl)))))))
theorem ok_law_numbers (F : FunE K mg (Str.ofString "_law_numbers") s_law_numbers [(Str.ofString "_law_script")]) (z_int : mg (Str.ofString "int") = none) (z_len : mg (Str.ofString "len") = none) (z_range : mg (Str.ofString "range") = none) : EntD P w K mg base G (Str.ofString "_law_numbers") 1 1 F_law_numbers :=
  entD F sc_law_numbers rfl rfl fun f cdv A outer s H E hr => dss_cons (ds_setN (i := 1) sc_law_numbers.nd rfl (by first | exact .inl rfl | exact .inr rfl) (dn_lst da_nil)) (dss_cons (ds_for (vs := [2]) [2, 3, 4, 5] PassesOwn.never rfl (di_any (de_slice (do_of (de_var 0)) dp_none (dp_some de_int))) (dg_name 2 (by decide) sc_law_numbers.nd rfl (by first | exact .inl rfl | exact .inr rfl)) (dss_one (ds_if (dt_c (dc_ge (de_var 2) (de_pow de_int de_int))) (dss_cons (ds_set (i := 3) sc_law_numbers.nd rfl (by first | exact .inl rfl | exact .inr rfl) (de_var 2)) (dss_one (ds_for (vs := [4]) [4] PassesOwn.never rfl (di_range1 (by rfl) z_range (da_cons de_int da_nil)) (dg_name 4 (by decide) sc_law_numbers.nd rfl (by first | exact .inl rfl | exact .inr rfl)) (dss_cons (ds_if (dt_c (dc_eq hr.units (do_of (de_var 3)) (do_of de_int))) (dss_one ds_break) dss_nil) (dss_cons (ds_app (i := 1) rfl (by first | exact .inl rfl | exact .inr (.inl rfl)) (de_mod (de_toInt (by rfl) z_int (by decide +kernel) (do_of (de_var 3))) de_int)) (dss_one (ds_set (i := 3) sc_law_numbers.nd rfl (by first | exact .inl rfl | exact .inr rfl) (de_div (de_var 3) de_int)))))))) (dss_one (ds_for (vs := [4]) [4, 5] PassesOwn.never rfl (di_range1 (by rfl) z_range (da_cons de_int da_nil)) (dg_name 4 (by decide) sc_law_numbers.nd rfl (by first | exact .inl rfl | exact .inr rfl)) (dss_cons (ds_set (i := 5) sc_law_numbers.nd rfl (by first | exact .inl rfl | exact .inr rfl) (de_mod (de_toInt (by rfl) z_int (by decide +kernel) (do_of (de_add (do_of (de_add (do_of (de_mul (de_var 2) de_int)) (do_of (de_mul (de_var 4) de_int)))) (do_of de_int)))) de_int)) (dss_one (ds_app (i := 1) rfl (by first | exact .inl rfl | exact .inr (.inl rfl)) (de_mod (de_toInt (by rfl) z_int (by decide +kernel) (do_of (de_add (do_of (de_mul (de_var 5) de_int)) (do_of (de_var 4))))) de_int))))))))) (dss_cons (ds_if (dt_c (dc_eq hr.units (do_of (de_len (by rfl) z_len (do_var 1))) (do_of de_int))) (dss_one (ds_app (i := 1) rfl (by first | exact .inl rfl | exact .inr (.inl rfl)) de_int)) dss_nil) (dss_frz 1 (dss_one (ds_ret (de_var 1))))))
theorem ok_law_draw (F : FunE K mg (Str.ofString "_law_draw") s_law_draw [(Str.ofString "_law_row"), (Str.ofString "_law_at"), (Str.ofString "_law_limit")]) (z_int : mg (Str.ofString "int") = none) (z_len : mg (Str.ofString "len") = none) : EntD P w K mg base G (Str.ofString "_law_draw") 1 3 F_law_draw :=
  entD F sc_law_draw rfl rfl fun f cdv A outer s H E hr => dss_cons (ds_if (dt_c (dc_lt (de_var 1) (de_len (by rfl) z_len (do_of (de_var 0))))) (dss_one (ds_ret (de_mod (de_toInt (by rfl) z_int (by decide +kernel) (do_of (de_ix (do_of (de_var 0)) (de_var 1) (fun _ _ => rfl)))) (de_var 2)))) dss_nil) (dss_cons (ds_set (i := 3) sc_law_draw.nd rfl (by first | exact .inl rfl | exact .inr rfl) (de_mod (de_toInt (by rfl) z_int (by decide +kernel) (do_of (de_add (do_of (de_add (do_of (de_mul (de_ix (do_of (de_var 0)) (de_mod (de_toInt (by rfl) z_int (by decide +kernel) (do_of (de_var 1))) (de_len (by rfl) z_len (do_of (de_var 0)))) (fun _ _ => rfl)) de_int)) (do_of (de_mul (de_var 1) de_int)))) (do_of de_int)))) de_int)) (dss_one (ds_ret (de_mod (de_toInt (by rfl) z_int (by decide +kernel) (do_of (de_mod (de_toInt (by rfl) z_int (by decide +kernel) (do_of (de_add (do_of (de_mul (de_var 3) de_int)) (do_of (de_var 1))))) de_int))) (de_var 2)))))
theorem ok_law_word (F : FunE K mg (Str.ofString "_law_word") s_law_word [(Str.ofString "_law_row"), (Str.ofString "_law_at"), (Str.ofString "_law_most")]) (h_law_draw : EntD P w K mg base G (Str.ofString "_law_draw") 1 3 F_law_draw) (z_range : mg (Str.ofString "range") = none) : EntD P w K mg base G (Str.ofString "_law_word") 2 3 F_law_word :=
  entD F sc_law_word rfl rfl fun f cdv A outer s H E hr => dss_cons (ds_set (i := 3) sc_law_word.nd rfl (by first | exact .inl rfl | exact .inr rfl) de_str) (dss_cons (ds_for (vs := [4]) [4] PassesOwn.never rfl (di_range1 (by rfl) z_range (da_cons (de_add (do_of de_int) (do_of (de_callE h_law_draw (hr.mono (by decide)) (by rfl) (da_cons (de_var 0) (da_cons (de_var 1) (da_cons (de_var 2) da_nil)))))) da_nil)) (dg_name 4 (by decide) sc_law_word.nd rfl (by first | exact .inl rfl | exact .inr rfl)) (dss_one (ds_set (i := 3) sc_law_word.nd rfl (by first | exact .inl rfl | exact .inr rfl) (de_add (do_of (de_var 3)) (do_of (de_ix (do_of de_str) (de_callE h_law_draw (hr.mono (by decide)) (by rfl) (da_cons (de_var 0) (da_cons (de_add (do_of (de_add (do_of (de_var 1)) (do_of de_int))) (do_of (de_var 4))) (da_cons de_int da_nil)))) (fun _ _ => rfl))))))) (dss_one (ds_ret (de_var 3))))
theorem ok_law_typed (F : FunE K mg (Str.ofString "_law_typed") s_law_typed [(Str.ofString "_law_row"), (Str.ofString "_law_at")]) (h_law_draw : EntD P w K mg base G (Str.ofString "_law_draw") 1 3 F_law_draw) (z_range : mg (Str.ofString "range") = none) : EntD P w K mg base G (Str.ofString "_law_typed") 2 2 F_law_typed :=
  entD F sc_law_typed rfl rfl fun f cdv A outer s H E hr => dss_cons (ds_set (i := 2) sc_law_typed.nd rfl (by first | exact .inl rfl | exact .inr rfl) de_str) (dss_cons (ds_for (vs := [3]) [3] PassesOwn.never rfl (di_range1 (by rfl) z_range (da_cons (de_add (do_of de_int) (do_of (de_callE h_law_draw (hr.mono (by decide)) (by rfl) (da_cons (de_var 0) (da_cons (de_var 1) (da_cons de_int da_nil)))))) da_nil)) (dg_name 3 (by decide) sc_law_typed.nd rfl (by first | exact .inl rfl | exact .inr rfl)) (dss_one (ds_set (i := 2) sc_law_typed.nd rfl (by first | exact .inl rfl | exact .inr rfl) (de_add (do_of (de_var 2)) (do_of (de_ix (do_of de_str) (de_callE h_law_draw (hr.mono (by decide)) (by rfl) (da_cons (de_var 0) (da_cons (de_add (do_of (de_add (do_of (de_var 1)) (do_of de_int))) (do_of (de_var 3))) (da_cons de_int da_nil)))) (fun _ _ => rfl))))))) (dss_one (ds_ret (de_var 2))))
theorem ok_law_block (F : FunE K mg (Str.ofString "_law_block") s_law_block [(Str.ofString "_law_row"), (Str.ofString "_law_at")]) (h_law_draw : EntD P w K mg base G (Str.ofString "_law_draw") 1 3 F_law_draw) : EntD P w K mg base G (Str.ofString "_law_block") 2 2 F_law_block :=
  entD F sc_law_block rfl rfl fun f cdv A outer s H E hr => dss_cons (ds_if (dt_c (dc_eq hr.units (do_of (de_callE h_law_draw (hr.mono (by decide)) (by rfl) (da_cons (de_var 0) (da_cons (de_var 1) (da_cons de_int da_nil))))) (do_of de_int))) (dss_one (ds_ret (de_tup (da_cons de_int (da_cons de_int da_nil))))) dss_nil) (dss_one (ds_ret (de_tup (da_cons (de_add (do_of de_int) (do_of (de_callE h_law_draw (hr.mono (by decide)) (by rfl) (da_cons (de_var 0) (da_cons (de_add (do_of (de_var 1)) (do_of de_int)) (da_cons de_int da_nil)))))) (da_cons (de_add (do_of de_int) (do_of (de_callE h_law_draw (hr.mono (by decide)) (by rfl) (da_cons (de_var 0) (da_cons (de_add (do_of (de_var 1)) (do_of de_int)) (da_cons (de_ix (do_of (de_lst (da_cons de_int (da_cons de_int (da_cons de_int da_nil))))) (de_callE h_law_draw (hr.mono (by decide)) (by rfl) (da_cons (de_var 0) (da_cons (de_var 1) (da_cons de_int da_nil)))) (fun _ _ => rfl)) da_nil)))))) da_nil)))))
theorem ok_law_sign (F : FunE K mg (Str.ofString "_law_sign") s_law_sign [(Str.ofString "_law_row"), (Str.ofString "_law_at")]) (h_law_draw : EntD P w K mg base G (Str.ofString "_law_draw") 1 3 F_law_draw) : EntD P w K mg base G (Str.ofString "_law_sign") 2 2 F_law_sign :=
  entD F sc_law_sign rfl rfl fun f cdv A outer s H E hr => dss_one (ds_ret (de_tup (da_cons (de_add (do_of de_int) (do_of (de_callE h_law_draw (hr.mono (by decide)) (by rfl) (da_cons (de_var 0) (da_cons (de_var 1) (da_cons de_int da_nil)))))) (da_cons (de_add (do_of de_int) (do_of (de_callE h_law_draw (hr.mono (by decide)) (by rfl) (da_cons (de_var 0) (da_cons (de_add (do_of (de_var 1)) (do_of de_int)) (da_cons (de_ix (do_of (de_lst (da_cons de_int (da_cons de_int (da_cons de_int da_nil))))) (de_callE h_law_draw (hr.mono (by decide)) (by rfl) (da_cons (de_var 0) (da_cons (de_add (do_of (de_var 1)) (do_of de_int)) (da_cons de_int da_nil)))) (fun _ _ => rfl)) da_nil)))))) (da_cons (de_callE h_law_draw (hr.mono (by decide)) (by rfl) (da_cons (de_var 0) (da_cons (de_add (do_of (de_var 1)) (do_of de_int)) (da_cons de_int da_nil)))) da_nil)))))
theorem ok_law_signs (F : FunE K mg (Str.ofString "_law_signs") s_law_signs [(Str.ofString "_law_row"), (Str.ofString "_law_at")]) (h_law_draw : EntD P w K mg base G (Str.ofString "_law_draw") 1 3 F_law_draw) (h_law_sign : EntD P w K mg base G (Str.ofString "_law_sign") 2 2 F_law_sign) (z_range : mg (Str.ofString "range") = none) (z_sorted : mg (Str.ofString "sorted") = none) (z_tuple : mg (Str.ofString "tuple") = none) : EntD P w K mg base G (Str.ofString "_law_signs") 3 2 F_law_signs :=
  entD F sc_law_signs rfl rfl fun f cdv A outer s H E hr => dss_cons (ds_setN (i := 2) sc_law_signs.nd rfl (by first | exact .inl rfl | exact .inr rfl) (dn_lst da_nil)) (dss_cons (ds_for (vs := [3]) [3, 4] PassesOwn.never rfl (di_range1 (by rfl) z_range (da_cons (de_add (do_of de_int) (do_of (de_callE h_law_draw (hr.mono (by decide)) (by rfl) (da_cons (de_var 0) (da_cons (de_var 1) (da_cons de_int da_nil)))))) da_nil)) (dg_name 3 (by decide) sc_law_signs.nd rfl (by first | exact .inl rfl | exact .inr rfl)) (dss_cons (ds_set (i := 4) sc_law_signs.nd rfl (by first | exact .inl rfl | exact .inr rfl) (de_callE h_law_sign (hr.mono (by decide)) (by rfl) (da_cons (de_var 0) (da_cons (de_add (do_of (de_add (do_of (de_var 1)) (do_of de_int))) (do_of (de_mul de_int (de_var 3)))) da_nil)))) (dss_one (ds_if (dt_c (dc_notInS (by rfl) (hu65 hr) (de_var 4) (do_var 2))) (dss_one (ds_app (i := 2) rfl (by first | exact .inl rfl | exact .inr (.inl rfl)) (de_var 4))) dss_nil)))) (dss_frz 2 (dss_one (ds_ret (de_tuple (by rfl) z_tuple (by decide +kernel) (do_of (de_fre (dn_sorted (by rfl) z_sorted (by decide +kernel) (do_var 2)))))))))
theorem ok_law_act (F : FunE K mg (Str.ofString "_law_act") s_law_act [(Str.ofString "_law_row"), (Str.ofString "_law_at"), (Str.ofString "_law_kind")]) (h_law_draw : EntD P w K mg base G (Str.ofString "_law_draw") 1 3 F_law_draw) (h_law_word : EntD P w K mg base G (Str.ofString "_law_word") 2 3 F_law_word) (h_law_sign : EntD P w K mg base G (Str.ofString "_law_sign") 2 2 F_law_sign) (h_law_block : EntD P w K mg base G (Str.ofString "_law_block") 2 2 F_law_block) (h_law_typed : EntD P w K mg base G (Str.ofString "_law_typed") 2 2 F_law_typed) (h_law_signs : EntD P w K mg base G (Str.ofString "_law_signs") 3 2 F_law_signs) : EntD P w K mg base G (Str.ofString "_law_act") 4 3 F_law_act :=
  entD F sc_law_act rfl rfl fun f cdv A outer s H E hr => dss_cons (ds_set (i := 3) sc_law_act.nd rfl (by first | exact .inl rfl | exact .inr rfl) (de_if (dt_c (dc_eq hr.units (do_of (de_callE h_law_draw (hr.mono (by decide)) (by rfl) (da_cons (de_var 0) (da_cons (de_add (do_of (de_var 1)) (do_of de_int)) (da_cons de_int da_nil))))) (do_of de_int))) de_non (de_callE h_law_word (hr.mono (by decide)) (by rfl) (da_cons (de_var 0) (da_cons (de_add (do_of (de_var 1)) (do_of de_int)) (da_cons de_int da_nil)))))) (dss_cons (ds_if (dt_c (dc_eq hr.units (do_of (de_var 2)) (do_of de_int))) (dss_cons (ds_set (i := 4) sc_law_act.nd rfl (by first | exact .inl rfl | exact .inr rfl) (de_if (dt_c (dc_eq hr.units (do_of (de_callE h_law_draw (hr.mono (by decide)) (by rfl) (da_cons (de_var 0) (da_cons (de_add (do_of (de_var 1)) (do_of de_int)) (da_cons de_int da_nil))))) (do_of de_int))) de_non (de_callE h_law_sign (hr.mono (by decide)) (by rfl) (da_cons (de_var 0) (da_cons (de_add (do_of (de_var 1)) (do_of de_int)) da_nil))))) (dss_cons (ds_set (i := 5) sc_law_act.nd rfl (by first | exact .inl rfl | exact .inr rfl) (de_if (dt_c (dc_eq hr.units (do_of (de_callE h_law_draw (hr.mono (by decide)) (by rfl) (da_cons (de_var 0) (da_cons (de_add (do_of (de_var 1)) (do_of de_int)) (da_cons de_int da_nil))))) (do_of de_int))) de_non (de_callE h_law_sign (hr.mono (by decide)) (by rfl) (da_cons (de_var 0) (da_cons (de_add (do_of (de_var 1)) (do_of de_int)) da_nil))))) (dss_one (ds_ret (de_tup (da_cons de_str (da_cons (de_callE h_law_block (hr.mono (by decide)) (by rfl) (da_cons (de_var 0) (da_cons (de_var 1) da_nil))) (da_cons (de_var 4) (da_cons (de_var 5) (da_cons (de_callE h_law_typed (hr.mono (by decide)) (by rfl) (da_cons (de_var 0) (da_cons (de_add (do_of (de_var 1)) (do_of de_int)) da_nil))) da_nil)))))))))) dss_nil) (dss_cons (ds_if (dt_c (dc_eq hr.units (do_of (de_var 2)) (do_of de_int))) (dss_one (ds_ret (de_tup (da_cons de_str (da_cons (de_callE h_law_signs (hr.mono (by decide)) (by rfl) (da_cons (de_var 0) (da_cons (de_var 1) da_nil))) da_nil))))) dss_nil) (dss_cons (ds_if (dt_c (dc_eq hr.units (do_of (de_var 2)) (do_of de_int))) (dss_one (ds_ret (de_tup (da_cons de_str (da_cons (de_callE h_law_sign (hr.mono (by decide)) (by rfl) (da_cons (de_var 0) (da_cons (de_var 1) da_nil))) (da_cons (de_callE h_law_sign (hr.mono (by decide)) (by rfl) (da_cons (de_var 0) (da_cons (de_add (do_of (de_var 1)) (do_of de_int)) da_nil))) (da_cons (de_callE h_law_word (hr.mono (by decide)) (by rfl) (da_cons (de_var 0) (da_cons (de_add (do_of (de_var 1)) (do_of de_int)) (da_cons de_int da_nil)))) (da_cons (de_var 3) da_nil)))))))) dss_nil) (dss_cons (ds_if (dt_c (dc_eq hr.units (do_of (de_var 2)) (do_of de_int))) (dss_one (ds_ret (de_tup (da_cons de_str (da_cons (de_callE h_law_sign (hr.mono (by decide)) (by rfl) (da_cons (de_var 0) (da_cons (de_var 1) da_nil))) (da_cons (de_callE h_law_sign (hr.mono (by decide)) (by rfl) (da_cons (de_var 0) (da_cons (de_add (do_of (de_var 1)) (do_of de_int)) da_nil))) (da_cons (de_callE h_law_typed (hr.mono (by decide)) (by rfl) (da_cons (de_var 0) (da_cons (de_add (do_of (de_var 1)) (do_of de_int)) da_nil))) da_nil))))))) dss_nil) (dss_cons (ds_set (i := 6) sc_law_act.nd rfl (by first | exact .inl rfl | exact .inr rfl) (de_if (dt_c (dc_eq hr.units (do_of (de_callE h_law_draw (hr.mono (by decide)) (by rfl) (da_cons (de_var 0) (da_cons (de_add (do_of (de_var 1)) (do_of de_int)) (da_cons de_int da_nil))))) (do_of de_int))) de_non (de_callE h_law_block (hr.mono (by decide)) (by rfl) (da_cons (de_var 0) (da_cons (de_add (do_of (de_var 1)) (do_of de_int)) da_nil))))) (dss_cons (ds_if (dt_c (dc_eq hr.units (do_of (de_var 2)) (do_of de_int))) (dss_one (ds_ret (de_tup (da_cons de_str (da_cons (de_callE h_law_block (hr.mono (by decide)) (by rfl) (da_cons (de_var 0) (da_cons (de_var 1) da_nil))) (da_cons (de_var 6) da_nil)))))) dss_nil) (dss_cons (ds_if (dt_c (dc_eq hr.units (do_of (de_var 2)) (do_of de_int))) (dss_one (ds_ret (de_tup (da_cons de_str (da_cons (de_callE h_law_block (hr.mono (by decide)) (by rfl) (da_cons (de_var 0) (da_cons (de_var 1) da_nil))) (da_cons (de_callE h_law_block (hr.mono (by decide)) (by rfl) (da_cons (de_var 0) (da_cons (de_add (do_of (de_var 1)) (do_of de_int)) da_nil))) (da_cons (de_var 6) da_nil))))))) dss_nil) (dss_cons (ds_if (dt_c (dc_eq hr.units (do_of (de_var 2)) (do_of de_int))) (dss_one (ds_ret (de_tup (da_cons de_str (da_cons (de_callE h_law_block (hr.mono (by decide)) (by rfl) (da_cons (de_var 0) (da_cons (de_var 1) da_nil))) da_nil))))) dss_nil) (dss_cons (ds_if (dt_c (dc_lt (de_var 2) de_int)) (dss_one (ds_ret (de_tup (da_cons (de_ix (do_of (de_lst (da_cons de_str (da_cons de_str da_nil)))) (de_sub (de_var 2) de_int) (fun _ _ => rfl)) (da_cons (de_add (do_of de_int) (do_of (de_callE h_law_draw (hr.mono (by decide)) (by rfl) (da_cons (de_var 0) (da_cons (de_var 1) (da_cons (de_ix (do_of (de_lst (da_cons de_int (da_cons de_int (da_cons de_int da_nil))))) (de_callE h_law_draw (hr.mono (by decide)) (by rfl) (da_cons (de_var 0) (da_cons (de_add (do_of (de_var 1)) (do_of de_int)) (da_cons de_int da_nil)))) (fun _ _ => rfl)) da_nil)))))) da_nil))))) dss_nil) (dss_cons (ds_if (dt_c (dc_lt (de_var 2) de_int)) (dss_one (ds_ret (de_tup (da_cons (de_ix (do_of (de_lst (da_cons de_str (da_cons de_str da_nil)))) (de_sub (de_var 2) de_int) (fun _ _ => rfl)) (da_cons (de_add (do_of de_int) (do_of (de_callE h_law_draw (hr.mono (by decide)) (by rfl) (da_cons (de_var 0) (da_cons (de_var 1) (da_cons de_int da_nil)))))) da_nil))))) dss_nil) (dss_one (ds_ret (de_tup (da_cons (de_ix (do_of (de_lst (da_cons de_str (da_cons de_str da_nil)))) (de_sub (de_var 2) de_int) (fun _ _ => rfl)) da_nil))))))))))))))
theorem ok_law_deed (F : FunE K mg (Str.ofString "_law_deed") s_law_deed [(Str.ofString "_law_row"), (Str.ofString "_law_at"), (Str.ofString "_law_act_here")]) (h_law_draw : EntD P w K mg base G (Str.ofString "_law_draw") 1 3 F_law_draw) (z_range : mg (Str.ofString "range") = none) (z_tuple : mg (Str.ofString "tuple") = none) : EntD P w K mg base G (Str.ofString "_law_deed") 2 3 F_law_deed :=
  entD F sc_law_deed rfl rfl fun f cdv A outer s H E hr => dss_cons (ds_set (i := 3) sc_law_deed.nd rfl (by first | exact .inl rfl | exact .inr rfl) (de_add (do_of de_int) (do_of (de_callE h_law_draw (hr.mono (by decide)) (by rfl) (da_cons (de_var 0) (da_cons (de_var 1) (da_cons de_int da_nil))))))) (dss_cons (ds_set (i := 4) sc_law_deed.nd rfl (by first | exact .inl rfl | exact .inr rfl) (de_ix (do_of (de_lst (da_cons de_int (da_cons de_int (da_cons de_int da_nil))))) (de_callE h_law_draw (hr.mono (by decide)) (by rfl) (da_cons (de_var 0) (da_cons (de_add (do_of (de_var 1)) (do_of de_int)) (da_cons de_int da_nil)))) (fun _ _ => rfl))) (dss_cons (ds_set (i := 5) sc_law_deed.nd rfl (by first | exact .inl rfl | exact .inr rfl) (de_add (do_of de_int) (do_of (de_callE h_law_draw (hr.mono (by decide)) (by rfl) (da_cons (de_var 0) (da_cons (de_add (do_of (de_var 1)) (do_of de_int)) (da_cons (de_var 4) da_nil))))))) (dss_cons (ds_setLc (m := false) (i := 6) (own := [((Str.ofString "_law_k"), 7)]) rfl sc_law_deed.nd rfl rfl (sw_true rfl rfl rfl (by decide +kernel)) (di_range1 (by rfl) z_range (da_cons de_int da_nil)) (blkOk_by (N := N_law_deed) (sc := defScope s_law_deed) (by decide +kernel)) (fun _ _ _ _ _ => dg_name 7 (by decide) sc_law_deed.nd rfl (by first | exact .inl rfl | exact .inr rfl)) (fun _ _ _ _ _ => dts_nil) (fun _ _ _ _ _ => de_callE h_law_draw (hr.mono (by decide)) (by rfl) (da_cons (de_var 0) (da_cons (de_add (do_of (de_add (do_of (de_var 1)) (do_of de_int))) (do_of (de_var 7))) (da_cons (de_var 4) da_nil))))) (dss_cons (ds_setI (i := 6) rfl (by first | exact .inl rfl | exact .inr (.inl rfl)) (de_sub (de_var 3) de_int) (de_sub (de_var 5) de_int)) (dss_one (ds_ret (de_tup (da_cons (de_var 3) (da_cons (de_var 5) (da_cons (de_tuple (by rfl) z_tuple (by decide +kernel) (do_var 6)) (da_cons (de_var 2) da_nil)))))))))))
theorem ok_law_wrong (F : FunE K mg (Str.ofString "_law_wrong") s_law_wrong [(Str.ofString "_law_part"), (Str.ofString "_law_k")]) (z_len : mg (Str.ofString "len") = none) (z_range : mg (Str.ofString "range") = none) (z_tuple : mg (Str.ofString "tuple") = none) : EntD P w K mg base G (Str.ofString "_law_wrong") 1 2 F_law_wrong :=
  entD F sc_law_wrong rfl rfl fun f cdv A outer s H E hr => dss_cons (ds_set (i := 2) sc_law_wrong.nd rfl (by first | exact .inl rfl | exact .inr rfl) (de_lst (da_cons (de_tup (da_cons de_int (da_cons de_int da_nil))) (da_cons (de_tup (da_cons de_int (da_cons de_int da_nil))) (da_cons (de_tup (da_cons de_int (da_cons de_int da_nil))) (da_cons (de_tup (da_cons de_int da_nil)) (da_cons (de_tup (da_cons de_int (da_cons de_int (da_cons de_int da_nil)))) (da_cons (de_lst (da_cons de_int (da_cons de_int da_nil))) (da_cons (de_tup (da_cons de_bl (da_cons de_int da_nil))) (da_cons (de_tup (da_cons de_int (da_cons de_bl da_nil))) (da_cons de_str (da_cons de_int (da_cons (de_tup (da_cons (de_neg de_int) (da_cons de_int da_nil))) (da_cons (de_tup (da_cons de_int (da_cons (de_neg de_int) da_nil))) (da_cons (de_tup (da_cons de_int (da_cons de_int (da_cons de_int da_nil)))) (da_cons (de_tup da_nil) (da_cons (de_tup (da_cons de_int (da_cons de_non da_nil))) da_nil))))))))))))))))) (dss_cons (ds_set (i := 3) sc_law_wrong.nd rfl (by first | exact .inl rfl | exact .inr rfl) (de_lst (da_cons (de_tup (da_cons de_int (da_cons de_int da_nil))) (da_cons (de_tup (da_cons de_int (da_cons de_int (da_cons de_int da_nil)))) (da_cons (de_tup (da_cons de_int (da_cons de_int (da_cons de_int da_nil)))) (da_cons (de_tup (da_cons de_int (da_cons de_int (da_cons de_int da_nil)))) (da_cons (de_tup (da_cons de_int (da_cons de_int (da_cons (de_neg de_int) da_nil)))) (da_cons (de_tup (da_cons de_int (da_cons de_int (da_cons de_bl da_nil)))) (da_cons (de_lst (da_cons de_int (da_cons de_int (da_cons de_int da_nil)))) (da_cons de_str (da_cons de_int (da_cons (de_tup (da_cons de_int (da_cons de_int (da_cons de_int (da_cons de_int da_nil))))) (da_cons (de_tup (da_cons de_int (da_cons de_int (da_cons de_non da_nil)))) (da_cons (de_tup (da_cons de_int (da_cons de_int (da_cons de_int da_nil)))) (da_cons (de_tup (da_cons de_bl (da_cons de_int (da_cons de_int da_nil)))) da_nil))))))))))))))) (dss_cons (ds_if (dt_c (dc_eq hr.units (do_of (de_var 0)) (do_of de_str))) (dss_one (ds_ret (de_ix (do_of (de_add (do_of (de_var 2)) (do_of (de_lst (da_cons de_non da_nil))))) (de_mod (de_var 1) (de_len (by rfl) z_len (do_of (de_add (do_of (de_var 2)) (do_of (de_lst (da_cons de_non da_nil))))))) (fun _ _ => rfl)))) dss_nil) (dss_cons (ds_if (dt_c (dc_eq hr.units (do_of (de_var 0)) (do_of de_str))) (dss_one (ds_ret (de_ix (do_of (de_var 2)) (de_mod (de_var 1) (de_len (by rfl) z_len (do_of (de_var 2)))) (fun _ _ => rfl)))) dss_nil) (dss_cons (ds_if (dt_c (dc_eq hr.units (do_of (de_var 0)) (do_of de_str))) (dss_one (ds_ret (de_ix (do_of (de_add (do_of (de_var 3)) (do_of (de_lst (da_cons de_non da_nil))))) (de_mod (de_var 1) (de_len (by rfl) z_len (do_of (de_add (do_of (de_var 3)) (do_of (de_lst (da_cons de_non da_nil))))))) (fun _ _ => rfl)))) dss_nil) (dss_cons (ds_if (dt_c (dc_eq hr.units (do_of (de_var 0)) (do_of de_str))) (dss_one (ds_ret (de_ix (do_of (de_var 3)) (de_mod (de_var 1) (de_len (by rfl) z_len (do_of (de_var 3)))) (fun _ _ => rfl)))) dss_nil) (dss_cons (ds_if (dt_c (dc_eq hr.units (do_of (de_var 0)) (do_of de_str))) (dss_cons (ds_set (i := 4) sc_law_wrong.nd rfl (by first | exact .inl rfl | exact .inr rfl) (de_lst (da_cons (de_tup da_nil) (da_cons (de_tup (da_cons (de_tup (da_cons de_int (da_cons de_int (da_cons de_int da_nil)))) (da_cons (de_tup (da_cons de_int (da_cons de_int (da_cons de_int da_nil)))) da_nil))) (da_cons (de_tup (da_cons (de_tup (da_cons de_int (da_cons de_int (da_cons de_int da_nil)))) (da_cons (de_tup (da_cons de_int (da_cons de_int (da_cons de_int da_nil)))) da_nil))) (da_cons (de_lst (da_cons (de_tup (da_cons de_int (da_cons de_int (da_cons de_int da_nil)))) da_nil)) (da_cons (de_tup (da_cons de_int (da_cons de_int (da_cons de_int da_nil)))) (da_cons de_non (da_cons (de_tup (da_cons (de_tup (da_cons de_int (da_cons de_int (da_cons de_int da_nil)))) (da_cons de_non da_nil))) (da_cons (de_tup (da_cons (de_tup (da_cons de_int (da_cons de_int da_nil))) da_nil)) da_nil)))))))))) (dss_cons (ds_set (i := 4) sc_law_wrong.nd rfl (by first | exact .inl rfl | exact .inr rfl) (de_add (do_of (de_var 4)) (do_of (de_lst (da_cons (de_tuple (by rfl) z_tuple (by decide +kernel) (do_of (de_fre (dn_lc (m := false) (own := [((Str.ofString "_law_j"), 5)]) rfl sc_law_wrong.nd (di_range1 (by rfl) z_range (da_cons de_int da_nil)) (blkOk_by (N := N_law_wrong) (sc := defScope s_law_wrong) (by decide +kernel)) (fun _ _ _ _ _ => dg_name 5 (by decide) sc_law_wrong.nd rfl (by first | exact .inl rfl | exact .inr rfl)) (fun _ _ _ _ _ => dts_nil) (fun _ _ _ _ _ => de_tup (da_cons de_int (da_cons (de_add (do_of de_int) (do_of (de_var 5))) (da_cons de_int da_nil)))))))) (da_cons (de_tup (da_cons (de_tup (da_cons de_int (da_cons de_int (da_cons de_int da_nil)))) (da_cons (de_lst (da_cons de_int (da_cons de_int (da_cons de_int da_nil)))) da_nil))) (da_cons (de_tup (da_cons (de_tup (da_cons de_int (da_cons de_int (da_cons de_int da_nil)))) (da_cons (de_tup (da_cons de_int (da_cons de_int (da_cons de_int da_nil)))) da_nil))) da_nil))))))) (dss_one (ds_ret (de_ix (do_of (de_var 4)) (de_mod (de_var 1) (de_len (by rfl) z_len (do_of (de_var 4)))) (fun _ _ => rfl)))))) dss_nil) (dss_cons (ds_if (dt_c (dc_eq hr.units (do_of (de_var 0)) (do_of de_str))) (dss_one (ds_ret (de_ix (do_of (de_lst (da_cons de_str (da_cons de_str (da_cons de_str (da_cons de_str (da_cons de_str (da_cons de_non (da_cons de_int (da_cons (de_tup (da_cons de_str da_nil)) (da_cons de_str (da_cons de_str (da_cons de_bl (da_cons de_str da_nil)))))))))))))) (de_mod (de_var 1) de_int) (fun _ _ => rfl)))) dss_nil) (dss_cons (ds_if (dt_c (dc_eq hr.units (do_of (de_var 0)) (do_of de_str))) (dss_one (ds_ret (de_ix (do_of (de_lst (da_cons de_str (da_cons de_str (da_cons de_str (da_cons de_str (da_cons de_non (da_cons de_int (da_cons de_str (da_cons (de_tup (da_cons de_str da_nil)) (da_cons de_str (da_cons de_bl (da_cons de_str da_nil))))))))))))) (de_mod (de_var 1) de_int) (fun _ _ => rfl)))) dss_nil) (dss_cons (ds_if (dt_c (dc_eq hr.units (do_of (de_var 0)) (do_of de_str))) (dss_one (ds_ret (de_ix (do_of (de_lst (da_cons de_str (da_cons de_str (da_cons de_str (da_cons de_str (da_cons de_int (da_cons de_bl (da_cons de_str (da_cons (de_tup (da_cons de_str da_nil)) (da_cons de_bl (da_cons de_str da_nil)))))))))))) (de_mod (de_var 1) de_int) (fun _ _ => rfl)))) dss_nil) (dss_cons (ds_if (dt_c (dc_eq hr.units (do_of (de_var 0)) (do_of de_str))) (dss_one (ds_ret (de_ix (do_of (de_lst (da_cons de_int (da_cons (de_neg de_int) (da_cons de_bl (da_cons de_non (da_cons de_str (da_cons (de_tup (da_cons de_int da_nil)) (da_cons (de_lst (da_cons de_int da_nil)) (da_cons (de_neg de_int) da_nil)))))))))) (de_mod (de_var 1) de_int) (fun _ _ => rfl)))) dss_nil) (dss_one (ds_ret (de_ix (do_of (de_lst (da_cons de_int (da_cons de_int (da_cons de_int (da_cons de_bl (da_cons de_non (da_cons de_str (da_cons (de_neg de_int) (da_cons (de_tup (da_cons de_int da_nil)) da_nil)))))))))) (de_mod (de_var 1) de_int) (fun _ _ => rfl))))))))))))))
theorem ok_law_parts (F : FunE K mg (Str.ofString "_law_parts") s_law_parts [(Str.ofString "_law_kind")]) : EntD P w K mg base G (Str.ofString "_law_parts") 1 1 F_law_parts :=
  entD F sc_law_parts rfl rfl fun f cdv A outer s H E hr => dss_cons (ds_set (i := 1) sc_law_parts.nd rfl (by first | exact .inl rfl | exact .inr rfl) (de_lst (da_cons (de_lst (da_cons de_str (da_cons de_str (da_cons de_str (da_cons de_str da_nil))))) (da_cons (de_lst (da_cons de_str da_nil)) (da_cons (de_lst (da_cons de_str (da_cons de_str (da_cons de_str (da_cons de_str da_nil))))) (da_cons (de_lst (da_cons de_str (da_cons de_str (da_cons de_str da_nil)))) (da_cons (de_lst (da_cons de_str (da_cons de_str da_nil))) da_nil))))))) (dss_cons (ds_set (i := 1) sc_law_parts.nd rfl (by first | exact .inl rfl | exact .inr rfl) (de_add (do_of (de_var 1)) (do_of (de_lst (da_cons (de_lst (da_cons de_str (da_cons de_str (da_cons de_str da_nil)))) (da_cons (de_lst (da_cons de_str da_nil)) (da_cons (de_lst (da_cons de_str da_nil)) (da_cons (de_lst (da_cons de_str da_nil)) (da_cons (de_lst (da_cons de_str da_nil)) (da_cons (de_lst (da_cons de_str da_nil)) (da_cons (de_lst da_nil) (da_cons (de_lst da_nil) da_nil)))))))))))) (dss_one (ds_ret (de_ix (do_of (de_var 1)) (de_var 0) (fun _ _ => rfl)))))
theorem ok_law_acts_wrong (F : FunE K mg (Str.ofString "_law_acts_wrong") s_law_acts_wrong [(Str.ofString "_law_row"), (Str.ofString "_law_at"), (Str.ofString "_law_act_here"), (Str.ofString "_law_kind")]) (h_law_parts : EntD P w K mg base G (Str.ofString "_law_parts") 1 1 F_law_parts) (h_law_draw : EntD P w K mg base G (Str.ofString "_law_draw") 1 3 F_law_draw) (h_law_wrong : EntD P w K mg base G (Str.ofString "_law_wrong") 1 2 F_law_wrong) (z_len : mg (Str.ofString "len") = none) (z_list : mg (Str.ofString "list") = none) (z_range : mg (Str.ofString "range") = none) : EntD P w K mg base G (Str.ofString "_law_acts_wrong") 2 4 F_law_acts_wrong :=
  entD F sc_law_acts_wrong rfl rfl fun f cdv A outer s H E hr => dss_cons (ds_setN (i := 4) sc_law_acts_wrong.nd rfl (by first | exact .inl rfl | exact .inr rfl) (dn_lst (da_cons (de_fre (dn_list (by rfl) z_list (by decide +kernel) (do_of (de_var 2)))) (da_cons (de_add (do_of (de_var 2)) (do_of (de_tup (da_cons de_int da_nil)))) (da_cons (de_slice (do_of (de_var 2)) dp_none (dp_some (de_sub (de_len (by rfl) z_len (do_of (de_var 2))) de_int))) (da_cons (de_tup (da_cons (de_var 2) da_nil)) (da_cons (de_slice (do_of (de_var 2)) (dp_some de_int) dp_none) (da_cons (de_add (do_of (de_tup (da_cons de_str da_nil))) (do_of (de_slice (do_of (de_var 2)) (dp_some de_int) dp_none))) (da_cons (de_add (do_of (de_tup (da_cons (de_add (do_of (de_ix (do_of (de_var 2)) de_int (fun _ _ => rfl))) (do_of de_str)) da_nil))) (do_of (de_slice (do_of (de_var 2)) (dp_some de_int) dp_none))) (da_cons (de_add (do_of (de_tup (da_cons de_non da_nil))) (do_of (de_slice (do_of (de_var 2)) (dp_some de_int) dp_none))) (da_cons (de_ix (do_of (de_var 2)) de_int (fun _ _ => rfl)) (da_cons de_non (da_cons de_bl da_nil))))))))))))) (dss_cons (ds_setN (i := 4) sc_law_acts_wrong.nd rfl (by first | exact .inl rfl | exact .inr rfl) (dn_cat (do_var 4) (do_of (de_lst (da_cons (de_var 1) (da_cons (de_add (do_of (de_var 2)) (do_of (de_var 2))) (da_cons (de_tup (da_cons de_str da_nil)) da_nil))))))) (dss_cons (ds_set (i := 5) sc_law_acts_wrong.nd rfl (by first | exact .inl rfl | exact .inr rfl) (de_callE h_law_parts (hr.mono (by decide)) (by rfl) (da_cons (de_var 3) da_nil))) (dss_cons (ds_for (vs := [6]) [6, 7] PassesOwn.never rfl (di_range1 (by rfl) z_range (da_cons (de_len (by rfl) z_len (do_of (de_var 5))) da_nil)) (dg_name 6 (by decide) sc_law_acts_wrong.nd rfl (by first | exact .inl rfl | exact .inr rfl)) (dss_one (ds_for (vs := [7]) [7] PassesOwn.never rfl (di_range1 (by rfl) z_range (da_cons de_int da_nil)) (dg_name 7 (by decide) sc_law_acts_wrong.nd rfl (by first | exact .inl rfl | exact .inr rfl)) (dss_one (ds_app (i := 4) rfl (by first | exact .inl rfl | exact .inr (.inl rfl)) (de_add (do_of (de_add (do_of (de_slice (do_of (de_var 2)) dp_none (dp_some (de_add (do_of (de_var 6)) (do_of de_int))))) (do_of (de_tup (da_cons (de_callE h_law_wrong (hr.mono (by decide)) (by rfl) (da_cons (de_ix (do_of (de_var 5)) (de_var 6) (fun _ _ => rfl)) (da_cons (de_callE h_law_draw (hr.mono (by decide)) (by rfl) (da_cons (de_var 0) (da_cons (de_add (do_of (de_add (do_of (de_var 1)) (do_of (de_mul de_int (de_var 6))))) (do_of (de_var 7))) (da_cons de_int da_nil)))) da_nil))) da_nil))))) (do_of (de_slice (do_of (de_var 2)) (dp_some (de_add (do_of (de_var 6)) (do_of de_int))) dp_none)))))))) (dss_frz 4 (dss_one (ds_ret (de_var 4)))))))
theorem ok_law_deeds_wrong (F : FunE K mg (Str.ofString "_law_deeds_wrong") s_law_deeds_wrong [(Str.ofString "_law_deed_here"), (Str.ofString "_law_k")]) (z_int : mg (Str.ofString "int") = none) (z_list : mg (Str.ofString "list") = none) (z_range : mg (Str.ofString "range") = none) (z_str : mg (Str.ofString "str") = none) (z_tuple : mg (Str.ofString "tuple") = none) : EntD P w K mg base G (Str.ofString "_law_deeds_wrong") 1 2 F_law_deeds_wrong :=
  entD F sc_law_deeds_wrong rfl rfl fun f cdv A outer s H E hr => dss_cons (ds_asg (vs := [2, 3, 4, 5]) (de_var 0) (dg_tup rfl (dgs_cons (dg_name 2 (by decide) sc_law_deeds_wrong.nd rfl (by first | exact .inl rfl | exact .inr rfl)) (dgs_cons (dg_name 3 (by decide) sc_law_deeds_wrong.nd rfl (by first | exact .inl rfl | exact .inr rfl)) (dgs_cons (dg_name 4 (by decide) sc_law_deeds_wrong.nd rfl (by first | exact .inl rfl | exact .inr rfl)) (dgs_cons (dg_name 5 (by decide) sc_law_deeds_wrong.nd rfl (by first | exact .inl rfl | exact .inr rfl)) dgs_nil)))))) (dss_cons (ds_setN (i := 6) sc_law_deeds_wrong.nd rfl (by first | exact .inl rfl | exact .inr rfl) (dn_lst (da_cons (de_fre (dn_list (by rfl) z_list (by decide +kernel) (do_of (de_var 0)))) (da_cons (de_add (do_of (de_var 0)) (do_of (de_tup (da_cons de_int da_nil)))) (da_cons (de_slice (do_of (de_var 0)) dp_none (dp_some de_int)) (da_cons (de_tup (da_cons (de_var 0) da_nil)) (da_cons (de_tup (da_cons de_int (da_cons (de_var 3) (da_cons (de_var 4) (da_cons (de_var 5) da_nil))))) (da_cons (de_tup (da_cons de_int (da_cons (de_var 3) (da_cons (de_var 4) (da_cons (de_var 5) da_nil))))) (da_cons (de_tup (da_cons de_bl (da_cons (de_var 3) (da_cons (de_var 4) (da_cons (de_var 5) da_nil))))) da_nil))))))))) (dss_cons (ds_setN (i := 6) sc_law_deeds_wrong.nd rfl (by first | exact .inl rfl | exact .inr rfl) (dn_cat (do_var 6) (do_of (de_lst (da_cons (de_tup (da_cons (de_strI (by rfl) z_str (by decide +kernel) (do_of (de_var 2))) (da_cons (de_var 3) (da_cons (de_var 4) (da_cons (de_var 5) da_nil))))) (da_cons (de_tup (da_cons (de_var 2) (da_cons de_int (da_cons (de_var 4) (da_cons (de_var 5) da_nil))))) (da_cons (de_tup (da_cons (de_var 2) (da_cons de_bl (da_cons (de_var 4) (da_cons (de_var 5) da_nil))))) (da_cons (de_tup (da_cons (de_var 2) (da_cons de_non (da_cons (de_var 4) (da_cons (de_var 5) da_nil))))) da_nil)))))))) (dss_cons (ds_setN (i := 6) sc_law_deeds_wrong.nd rfl (by first | exact .inl rfl | exact .inr rfl) (dn_cat (do_var 6) (do_of (de_lst (da_cons (de_tup (da_cons (de_var 2) (da_cons (de_var 3) (da_cons (de_fre (dn_list (by rfl) z_list (by decide +kernel) (do_of (de_var 4)))) (da_cons (de_var 5) da_nil))))) (da_cons (de_tup (da_cons (de_var 2) (da_cons (de_var 3) (da_cons (de_slice (do_of (de_var 4)) dp_none (dp_some de_int)) (da_cons (de_var 5) da_nil))))) (da_cons (de_tup (da_cons (de_var 2) (da_cons (de_var 3) (da_cons (de_add (do_of (de_var 4)) (do_of (de_tup (da_cons de_int da_nil)))) (da_cons (de_var 5) da_nil))))) (da_cons (de_tup (da_cons (de_var 2) (da_cons (de_add (do_of (de_var 3)) (do_of de_int)) (da_cons (de_var 4) (da_cons (de_var 5) da_nil))))) da_nil)))))))) (dss_cons (ds_setN (i := 6) sc_law_deeds_wrong.nd rfl (by first | exact .inl rfl | exact .inr rfl) (dn_cat (do_var 6) (do_of (de_lst (da_cons (de_tup (da_cons (de_var 2) (da_cons (de_var 3) (da_cons (de_var 4) (da_cons (de_fre (dn_list (by rfl) z_list (by decide +kernel) (do_of (de_var 5)))) da_nil))))) (da_cons (de_tup (da_cons (de_var 2) (da_cons (de_var 3) (da_cons (de_var 4) (da_cons (de_ix (do_of (de_var 5)) de_int (fun _ _ => rfl)) da_nil))))) (da_cons (de_tup (da_cons (de_var 2) (da_cons (de_var 3) (da_cons (de_var 4) (da_cons de_non da_nil))))) (da_cons (de_tup (da_cons (de_var 3) (da_cons (de_var 4) (da_cons (de_var 5) da_nil)))) da_nil)))))))) (dss_cons (ds_app (i := 6) rfl (by first | exact .inl rfl | exact .inr (.inl rfl)) (de_tup (da_cons (de_var 2) (da_cons (de_var 3) (da_cons (de_tuple (by rfl) z_tuple (by decide +kernel) (do_of (de_fre (dn_lc (m := false) (own := [((Str.ofString "_law_j"), 8)]) rfl sc_law_deeds_wrong.nd (di_range1 (by rfl) z_range (da_cons de_int da_nil)) (blkOk_by (N := N_law_deeds_wrong) (sc := defScope s_law_deeds_wrong) (by decide +kernel)) (fun _ _ _ _ _ => dg_name 8 (by decide) sc_law_deeds_wrong.nd rfl (by first | exact .inl rfl | exact .inr rfl)) (fun _ _ _ _ _ => dts_nil) (fun _ _ _ _ _ => de_add (do_of (de_ix (do_of (de_var 4)) (de_var 8) (fun _ _ => rfl))) (do_of (de_if (dt_c (dc_eq hr.units (do_of (de_var 8)) (do_of (de_sub (de_var 2) de_int)))) de_int de_int))))))) (da_cons (de_var 5) da_nil)))))) (dss_cons (ds_set (i := 7) sc_law_deeds_wrong.nd rfl (by first | exact .inl rfl | exact .inr rfl) (de_mod (de_toInt (by rfl) z_int (by decide +kernel) (do_of (de_add (do_of (de_var 2)) (do_of (de_var 1))))) de_int)) (dss_cons (ds_if (dt_c (dc_ne hr.units (do_of (de_var 7)) (do_of (de_sub (de_var 2) de_int)))) (dss_cons (ds_app (i := 6) rfl (by first | exact .inl rfl | exact .inr (.inl rfl)) (de_tup (da_cons (de_var 2) (da_cons (de_var 3) (da_cons (de_tuple (by rfl) z_tuple (by decide +kernel) (do_of (de_fre (dn_lc (m := false) (own := [((Str.ofString "_law_j"), 8)]) rfl sc_law_deeds_wrong.nd (di_range1 (by rfl) z_range (da_cons de_int da_nil)) (blkOk_by (N := N_law_deeds_wrong) (sc := defScope s_law_deeds_wrong) (by decide +kernel)) (fun _ _ _ _ _ => dg_name 8 (by decide) sc_law_deeds_wrong.nd rfl (by first | exact .inl rfl | exact .inr rfl)) (fun _ _ _ _ _ => dts_nil) (fun _ _ _ _ _ => de_if (dt_c (dc_eq hr.units (do_of (de_var 8)) (do_of (de_var 7)))) (de_neg de_int) (de_ix (do_of (de_var 4)) (de_var 8) (fun _ _ => rfl))))))) (da_cons (de_var 5) da_nil)))))) (dss_one (ds_app (i := 6) rfl (by first | exact .inl rfl | exact .inr (.inl rfl)) (de_tup (da_cons (de_var 2) (da_cons (de_var 3) (da_cons (de_tuple (by rfl) z_tuple (by decide +kernel) (do_of (de_fre (dn_lc (m := false) (own := [((Str.ofString "_law_j"), 8)]) rfl sc_law_deeds_wrong.nd (di_range1 (by rfl) z_range (da_cons de_int da_nil)) (blkOk_by (N := N_law_deeds_wrong) (sc := defScope s_law_deeds_wrong) (by decide +kernel)) (fun _ _ _ _ _ => dg_name 8 (by decide) sc_law_deeds_wrong.nd rfl (by first | exact .inl rfl | exact .inr rfl)) (fun _ _ _ _ _ => dts_nil) (fun _ _ _ _ _ => de_if (dt_c (dc_eq hr.units (do_of (de_var 8)) (do_of (de_var 7)))) de_bl (de_ix (do_of (de_var 4)) (de_var 8) (fun _ _ => rfl))))))) (da_cons (de_var 5) da_nil)))))))) dss_nil) (dss_frz 6 (dss_one (ds_ret (de_var 6)))))))))))
theorem ok_law {f : Addr} {fd : FuncData} (F : Fun K (Str.ofString "law") (Str.ofString "law") s_law f fd) (h_law_numbers : EntD P w K mg base G (Str.ofString "_law_numbers") 1 1 F_law_numbers) (h_law_draw : EntD P w K mg base G (Str.ofString "_law_draw") 1 3 F_law_draw) (h_law_act : EntD P w K mg base G (Str.ofString "_law_act") 4 3 F_law_act) (h_law_deed : EntD P w K mg base G (Str.ofString "_law_deed") 2 3 F_law_deed) (h_is_act : EntD P w K mg base G (Str.ofString "is_act") 8 1 F_is_act) (h_law_so : EntD P w K mg base G (Str.ofString "_law_so") 4 2 F_law_so) (h_is_deed : EntD P w K mg base G (Str.ofString "is_deed") 9 1 F_is_deed) (h_id_of : EntD P w K mg base G (Str.ofString "id_of") 1 1 F_id_of) (h_law_acts_wrong : EntD P w K mg base G (Str.ofString "_law_acts_wrong") 2 4 F_law_acts_wrong) (h_law_deeds_wrong : EntD P w K mg base G (Str.ofString "_law_deeds_wrong") 1 2 F_law_deeds_wrong) (z_int : mg (Str.ofString "int") = none) (z_len : mg (Str.ofString "len") = none) (z_min : mg (Str.ofString "min") = none) (z_range : mg (Str.ofString "range") = none) : FnOk P w K mg base CX0 10 f fd [(Str.ofString "_law_script")] (spD K G 1 F_law) :=
  fnD F sc_law rfl rfl fun cdv A outer s H E hr => dss_cons (ds_set (i := 1) sc_law.nd rfl (by first | exact .inl rfl | exact .inr rfl) (de_callE h_law_numbers (hr.mono (by decide)) (by rfl) (da_cons (de_var 0) da_nil))) (dss_cons (ds_for (vs := [2]) [2, 3, 4, 5, 6, 7] PassesOwn.never rfl (di_range1 (by rfl) z_range (da_cons (de_add (do_of de_int) (do_of (de_min2 rfl (by rfl) z_min (by decide +kernel) (da_cons (de_div (de_len (by rfl) z_len (do_of (de_var 1))) de_int) (da_cons de_int da_nil))))) da_nil)) (dg_name 2 (by decide) sc_law.nd rfl (by first | exact .inl rfl | exact .inr rfl)) (dss_cons (ds_set (i := 3) sc_law.nd rfl (by first | exact .inl rfl | exact .inr rfl) (de_mul de_int (de_var 2))) (dss_cons (ds_set (i := 4) sc_law.nd rfl (by first | exact .inl rfl | exact .inr rfl) (de_mod (de_toInt (by rfl) z_int (by decide +kernel) (do_of (de_add (do_of (de_callE h_law_draw (hr.mono (by decide)) (by rfl) (da_cons (de_var 1) (da_cons de_int (da_cons de_int da_nil))))) (do_of (de_var 2))))) de_int)) (dss_cons (ds_set (i := 5) sc_law.nd rfl (by first | exact .inl rfl | exact .inr rfl) (de_callE h_law_act (hr.mono (by decide)) (by rfl) (da_cons (de_var 1) (da_cons (de_var 3) (da_cons (de_var 4) da_nil))))) (dss_cons (ds_set (i := 6) sc_law.nd rfl (by first | exact .inl rfl | exact .inr rfl) (de_callE h_law_deed (hr.mono (by decide)) (by rfl) (da_cons (de_var 1) (da_cons (de_add (do_of (de_var 3)) (do_of de_int)) (da_cons (de_var 5) da_nil))))) (dss_cons (ds_if (dt_w (dw_or (dt_not (dt_val (de_callE h_law_so (hr.mono (by decide)) (by rfl) (da_cons (de_callE h_is_act (hr.mono (by decide)) (by rfl) (da_cons (de_var 5) da_nil)) (da_cons de_bl da_nil))))) (dw_or (dt_not (dt_val (de_callE h_law_so (hr.mono (by decide)) (by rfl) (da_cons (de_callE h_is_deed (hr.mono (by decide)) (by rfl) (da_cons (de_var 6) da_nil)) (da_cons de_bl da_nil))))) (dw_or1 (dt_not (dt_val (de_callE h_law_so (hr.mono (by decide)) (by rfl) (da_cons (de_callE h_id_of (hr.mono (by decide)) (by rfl) (da_cons (de_var 6) da_nil)) (da_cons (de_tup (da_cons (de_ix (do_of (de_var 6)) de_int (fun _ _ => rfl)) (da_cons (de_ix (do_of (de_var 6)) de_int (fun _ _ => rfl)) da_nil))) da_nil))))))))) (dss_one (ds_ret de_bl)) dss_nil) (dss_cons (ds_if (dt_w (dw_or (dt_not (dt_val (de_callE h_law_so (hr.mono (by decide)) (by rfl) (da_cons (de_callE h_is_act (hr.mono (by decide)) (by rfl) (da_cons (de_var 6) da_nil)) (da_cons de_bl da_nil))))) (dw_or1 (dt_not (dt_val (de_callE h_law_so (hr.mono (by decide)) (by rfl) (da_cons (de_callE h_is_deed (hr.mono (by decide)) (by rfl) (da_cons (de_var 5) da_nil)) (da_cons de_bl da_nil)))))))) (dss_one (ds_ret de_bl)) dss_nil) (dss_cons (ds_for (vs := [7]) [7] PassesOwn.never rfl (di_any (de_callE h_law_acts_wrong (hr.mono (by decide)) (by rfl) (da_cons (de_var 1) (da_cons (de_add (do_of (de_var 3)) (do_of de_int)) (da_cons (de_var 5) (da_cons (de_var 4) da_nil)))))) (dg_name 7 (by decide) sc_law.nd rfl (by first | exact .inl rfl | exact .inr rfl)) (dss_one (ds_if (dt_w (dw_or (dt_not (dt_val (de_callE h_law_so (hr.mono (by decide)) (by rfl) (da_cons (de_callE h_is_act (hr.mono (by decide)) (by rfl) (da_cons (de_var 7) da_nil)) (da_cons de_bl da_nil))))) (dw_or1 (dt_not (dt_val (de_callE h_law_so (hr.mono (by decide)) (by rfl) (da_cons (de_callE h_is_deed (hr.mono (by decide)) (by rfl) (da_cons (de_tup (da_cons (de_ix (do_of (de_var 6)) de_int (fun _ _ => rfl)) (da_cons (de_ix (do_of (de_var 6)) de_int (fun _ _ => rfl)) (da_cons (de_ix (do_of (de_var 6)) de_int (fun _ _ => rfl)) (da_cons (de_var 7) da_nil))))) da_nil)) (da_cons de_bl da_nil)))))))) (dss_one (ds_ret de_bl)) dss_nil))) (dss_one (ds_for (vs := [7]) [7] PassesOwn.never rfl (di_any (de_callE h_law_deeds_wrong (hr.mono (by decide)) (by rfl) (da_cons (de_var 6) (da_cons (de_callE h_law_draw (hr.mono (by decide)) (by rfl) (da_cons (de_var 1) (da_cons (de_add (do_of (de_var 3)) (do_of de_int)) (da_cons de_int da_nil)))) da_nil)))) (dg_name 7 (by decide) sc_law.nd rfl (by first | exact .inl rfl | exact .inr rfl)) (dss_one (ds_if (dt_not (dt_val (de_callE h_law_so (hr.mono (by decide)) (by rfl) (da_cons (de_callE h_is_deed (hr.mono (by decide)) (by rfl) (da_cons (de_var 7) da_nil)) (da_cons de_bl da_nil))))) (dss_one (ds_ret de_bl)) dss_nil)))))))))))) (dss_one (ds_ret (de_and (de_callE h_law_so (hr.mono (by decide)) (by rfl) (da_cons (de_callE h_is_act (hr.mono (by decide)) (by rfl) (da_cons (de_tup (da_cons de_str (da_cons (de_tup (da_cons de_int (da_cons de_int da_nil))) (da_cons (de_tup (da_cons de_int (da_cons de_int da_nil))) (da_cons de_non da_nil))))) da_nil)) (da_cons de_bl da_nil))) (de_and (de_callE h_law_so (hr.mono (by decide)) (by rfl) (da_cons (de_callE h_is_act (hr.mono (by decide)) (by rfl) (da_cons (de_tup (da_cons de_str (da_cons (de_tup (da_cons de_int (da_cons de_int da_nil))) da_nil))) da_nil)) (da_cons de_bl da_nil))) (de_one (de_callE h_law_so (hr.mono (by decide)) (by rfl) (da_cons (de_callE h_is_act (hr.mono (by decide)) (by rfl) (da_cons (de_tup (da_cons de_str (da_cons (de_tup (da_cons de_int (da_cons de_int da_nil))) (da_cons (de_tup (da_cons de_int (da_cons de_int da_nil))) da_nil)))) da_nil)) (da_cons de_bl da_nil)))))))))
end
end K03

namespace K03
open PySem PySem.Spec PyProof.Rows L2 Dn

/-! ### what the program's own tests answer, in plain Lean -/
def isInt : D → Bool
  | .int _ => true
  | _ => false
theorem integer_eq (d : D) (h : okD d = true) : F_is_integer [d] = .ok (.bool (isInt d)) := by
  cases d <;> first | (simp [okD] at h; done) | simp [F_is_integer, runF, b_is_integer, isInt]
def isNum (k : Int) : D → Bool
  | .int i => decide (k ≤ i)
  | _ => false
theorem number_eq (d : D) (k : Int) (h : okD d = true) : F_is_number [d, .int k] = .ok (.bool (isNum k d)) := by
  have e := integer_eq d h
  cases d <;> simp [F_is_number, runF, b_is_number, isNum, e, isInt]
def isHand : D → Bool
  | .int i => decide (1 ≤ i) && decide (i ≤ 4)
  | _ => false
theorem hand_eq (d : D) (h : okD d = true) : F_is_hand [d] = .ok (.bool (isHand d)) := by
  have e := number_eq d 1 h
  cases d with
  | int i =>
    by_cases q : 1 ≤ i <;> simp [F_is_hand, runF, b_is_hand, isHand, e, isNum, q]
  | _ => simp [F_is_hand, runF, b_is_hand, isHand, e, isNum]
def isClock : D → Bool
  | .tuple [a, b, c, d] => isNum 0 a && isNum 0 b && isNum 0 c && isNum 0 d
  | _ => false
theorem clock_eq (d : D) (h : okD d = true) : F_is_clock [d] = .ok (.bool (isClock d)) := by
  cases d with
  | tuple ds =>
    simp only [okD, Bool.and_eq_true, decide_eq_true_eq] at h
    have key : ∀ x, x ∈ ds → F_is_number [x, .int 0] = .ok (.bool (isNum 0 x)) := fun x hx => number_eq x 0 (okDs_mem h.2 hx)
    match ds, key with
    | [], _ => simp [F_is_clock, runF, b_is_clock, isClock]
    | [a], _ => simp [F_is_clock, runF, b_is_clock, isClock]
    | [a, b], _ => simp [F_is_clock, runF, b_is_clock, isClock]
    | [a, b, c], _ => simp [F_is_clock, runF, b_is_clock, isClock]
    | [a, b, c, d], key =>
      have e1 := key a (by simp)
      have e2 := key b (by simp)
      have e3 := key c (by simp)
      have e4 := key d (by simp)
      simp [F_is_clock, runF, b_is_clock, e_is_clock_1, isClock, e1, e2, e3, e4, P.all, asL, bools?, Bool.and_assoc]
    | a :: b :: c :: d :: e :: r, _ =>
      have q : ¬ ((r.length : Int) + 1 + 1 + 1 + 1 + 1 = 4) := by omega
      simp [F_is_clock, runF, b_is_clock, isClock, q]
  | _ => first | (simp [okD] at h; done) | simp [F_is_clock, runF, b_is_clock, isClock]
def inSg (s : Str) : D → Bool
  | .str a => match a.cps.toList with
    | [c] => decide (c ∈ s.cps.toList)
    | _ => false
  | _ => false
def allIn (s z : Str) : Bool := z.cps.toList.all fun c => decide (c ∈ s.cps.toList)
def isStrOf (s : Str) : D → Bool
  | .str z => decide (1 ≤ z.length) && decide (z.length ≤ 8) && allIn s z
  | _ => false
theorem signs_all (s z : Str) : (Dn.signs z).all (inSg s) = allIn s z := by
  unfold Dn.signs allIn
  rw [List.all_map]
  congr 1
theorem string_eq (d : D) (s : Str) (h : okD d = true) : F_is_string_of [d, .str s] = .ok (.bool (isStrOf s d)) := by
  cases d with
  | str z =>
    have hz : z.length ≤ 100000 := by simpa [okD] using h
    have e : lcGo (gN 2) dYesN e_is_string_of_1 [.dat (.str z), .dat (.str s), .no] (Dn.signs z) = .ok ((Dn.signs z).map fun d => .bool (inSg s d)) := by
      refine lcGo_mapN _ fun d hd => ⟨_, rfl, ?_⟩
      unfold Dn.signs at hd
      obtain ⟨c, hc, rfl⟩ := List.mem_map.mp hd
      rfl
    have hs : (Dn.signs z).length = z.length := by simp [Dn.signs, Str.length]
    by_cases h1 : 1 ≤ z.length
    · by_cases h8 : z.length ≤ 8
      · have h1' : (1 : Int) ≤ z.length := by omega
        have h8' : (z.length : Int) ≤ 8 := by omega
        simp [F_is_string_of, runF, b_is_string_of, isStrOf, hz, h1, h8, h1', h8', hs, e, all_map, signs_all]
      · have h1' : (1 : Int) ≤ z.length := by omega
        have h8' : ¬ (z.length : Int) ≤ 8 := by omega
        simp [F_is_string_of, runF, b_is_string_of, isStrOf, hz, h1, h8, h1', h8']
    · have h1' : ¬ (1 : Int) ≤ z.length := by omega
      simp [F_is_string_of, runF, b_is_string_of, isStrOf, hz, h1, h1']
  | _ => first | (simp [okD] at h; done) | simp [F_is_string_of, runF, b_is_string_of, isStrOf]
abbrev LET : Str := Str.ofString "abcdefghijklmnopqrstuvwxyz"
abbrev TXT : Str := Str.ofString "abcdefghijklmnopqrstuvwxyz "
theorem word_eq (d : D) (h : okD d = true) : F_is_word [d] = .ok (.bool (isStrOf LET d)) := by
  simp [F_is_word, runF, b_is_word, string_eq d _ h]
theorem text_eq (d : D) (h : okD d = true) : F_is_text [d] = .ok (.bool (isStrOf TXT d)) := by
  simp [F_is_text, runF, b_is_text, string_eq d _ h]
def isDeedId : D → Bool
  | .tuple [a, b] => isHand a && isNum 1 b
  | _ => false
theorem deedId_eq (d : D) (h : okD d = true) : F_is_deed_id [d] = .ok (.bool (isDeedId d)) := by
  cases d with
  | tuple ds =>
    simp only [okD, Bool.and_eq_true, decide_eq_true_eq] at h
    match ds, h.2 with
    | [], _ => simp [F_is_deed_id, runF, b_is_deed_id, isDeedId]
    | [a], _ => simp [F_is_deed_id, runF, b_is_deed_id, isDeedId]
    | [a, b], h2 =>
      have e1 := hand_eq a (okDs_mem h2 (by simp))
      have e2 := number_eq b 1 (okDs_mem h2 (by simp))
      cases q : isHand a <;> simp [F_is_deed_id, runF, b_is_deed_id, isDeedId, atI, ixN, e1, e2, q]
    | a :: b :: c :: r, _ =>
      have q : ¬ ((r.length : Int) + 1 + 1 + 1 = 2) := by omega
      simp [F_is_deed_id, runF, b_is_deed_id, isDeedId, q]
  | _ => first | (simp [okD] at h; done) | simp [F_is_deed_id, runF, b_is_deed_id, isDeedId]
def is0 : D → Bool
  | .int i => i == 0
  | _ => false
def isBlockId : D → Bool
  | .tuple [a, b] => (is0 a && is0 b) || (isHand a && isNum 1 b)
  | _ => false
theorem blockId_eq (d : D) (h : okD d = true) : F_is_block_id [d] = .ok (.bool (isBlockId d)) := by
  have e0 := deedId_eq d h
  cases d with
  | tuple ds =>
    simp only [okD, Bool.and_eq_true, decide_eq_true_eq] at h
    match ds, h.2 with
    | [], _ => simp [F_is_block_id, runF, b_is_block_id, isBlockId]
    | [a], _ => simp [F_is_block_id, runF, b_is_block_id, isBlockId]
    | [a, b], h2 =>
      have e1 := number_eq a 0 (okDs_mem h2 (by simp))
      have e2 := number_eq b 0 (okDs_mem h2 (by simp))
      by_cases hz : a = .int 0 ∧ b = .int 0
      · obtain ⟨rfl, rfl⟩ := hz
        simp [F_is_block_id, runF, b_is_block_id, isBlockId, atI, ixN, e1, e2, isNum, is0, P.eq, opD, SeqAt.shaped, PyData.canLay0, PyData.canLayAll0, PyData.depth, PyData.depthAll, PyData.eqv, PyData.eqvAll]
      · have hn : (is0 a && is0 b) = false := by
          cases a <;> cases b <;> first | rfl | (simp only [is0, Bool.and_false]; done) | (simp only [is0, Bool.and_eq_false_iff, beq_eq_false_iff_ne, ne_eq]; simp only [PyData.int.injEq] at hz; omega)
        cases q1 : isNum 0 a with
        | false => simp [F_is_block_id, runF, b_is_block_id, isBlockId, atI, ixN, e1, e2, q1, hn, e0, isDeedId]
        | true =>
          cases q2 : isNum 0 b with
          | false => simp [F_is_block_id, runF, b_is_block_id, isBlockId, atI, ixN, e1, e2, q1, q2, hn, e0, isDeedId]
          | true =>
            have pe : P.eq (.d (.tuple [a, b])) (.d (.tuple [.int 0, .int 0])) = .ok (.bool false) := by
              cases a <;> first | (simp [isNum] at q1; done) | skip
              cases b <;> first | (simp [isNum] at q2; done) | skip
              rename_i i j
              simp [P.eq, opD, SeqAt.shaped, PyData.canLay0, PyData.canLayAll0, PyData.depth, PyData.depthAll, PyData.eqv, PyData.eqvAll]
              simpa using hz
            simp [F_is_block_id, runF, b_is_block_id, isBlockId, atI, ixN, e1, e2, q1, q2, hn, e0, isDeedId, pe]
    | a :: b :: c :: r, _ =>
      have q : ¬ ((r.length : Int) + 1 + 1 + 1 = 2) := by omega
      simp [F_is_block_id, runF, b_is_block_id, isBlockId, q]
  | _ => first | (simp [okD] at h; done) | simp [F_is_block_id, runF, b_is_block_id, isBlockId]
def isSignId : D → Bool
  | .tuple [a, b, c] => isHand a && isNum 1 b && isNum 0 c
  | _ => false
theorem signId_eq (d : D) (h : okD d = true) : F_is_sign_id [d] = .ok (.bool (isSignId d)) := by
  cases d with
  | tuple ds =>
    simp only [okD, Bool.and_eq_true, decide_eq_true_eq] at h
    match ds, h.2 with
    | [], _ => simp [F_is_sign_id, runF, b_is_sign_id, isSignId]
    | [a], _ => simp [F_is_sign_id, runF, b_is_sign_id, isSignId]
    | [a, b], _ => simp [F_is_sign_id, runF, b_is_sign_id, isSignId]
    | [a, b, c], h2 =>
      have e1 := deedId_eq (.tuple [a, b]) (by simp [okD, okDs, okDs_mem h2 (show a ∈ [a, b, c] by simp), okDs_mem h2 (show b ∈ [a, b, c] by simp)])
      have e2 := number_eq c 0 (okDs_mem h2 (by simp))
      have ec : Dn.cutD [a, b, c] none (some 2) = [a, b] := rfl
      cases q : isHand a <;> cases q2 : isNum 1 b <;> simp [F_is_sign_id, runF, b_is_sign_id, isSignId, atI, ixN, ec, e1, e2, isDeedId, q, q2]
    | a :: b :: c :: d :: r, _ =>
      have q : ¬ ((r.length : Int) + 1 + 1 + 1 + 1 = 3) := by omega
      simp [F_is_sign_id, runF, b_is_sign_id, isSignId, q]
  | _ => first | (simp [okD] at h; done) | simp [F_is_sign_id, runF, b_is_sign_id, isSignId]
end K03

namespace K03
open PySem PySem.Spec PyProof.Rows L2 Dn

def asc : List D → Bool
  | x :: y :: r => HT.lexLt (keyI x) (keyI y) && asc (y :: r)
  | _ => true
def isErased : D → Bool
  | .tuple ds => decide (1 ≤ ds.length) && (decide (ds.length ≤ 8) && (ds.all isSignId && asc ds))
  | _ => false
theorem sign_tup {d : D} (h : isSignId d = true) : ∃ a b c : Int, d = .tuple [.int a, .int b, .int c] := by
  unfold isSignId at h
  split at h
  · rename_i a b c
    simp only [Bool.and_eq_true] at h
    cases a <;> first | (simp [isHand] at h; done) | skip
    cases b <;> first | (simp [isNum] at h; done) | skip
    cases c <;> first | (simp [isNum] at h; done) | skip
    exact ⟨_, _, _, rfl⟩
  · cases h
def pairLt (ds : List D) (j : Nat) : Bool := HT.lexLt (keyI (ds.getD j .none)) (keyI (ds.getD (j + 1) .none))
def pairT (ds : List D) : D → Bool
  | .int j => pairLt ds (j - 1).toNat
  | _ => false
theorem asc_range : ∀ ds : List D, (List.range (ds.length - 1)).all (pairLt ds) = asc ds
  | [] => rfl
  | [x] => rfl
  | x :: y :: r => by
    have ih := asc_range (y :: r)
    have e : (x :: y :: r).length - 1 = ((y :: r).length - 1) + 1 := rfl
    rw [e, List.range_succ_eq_map, List.all_cons, List.all_map]
    show (HT.lexLt (keyI x) (keyI y) && _) = (HT.lexLt (keyI x) (keyI y) && asc (y :: r))
    rw [← ih]
    rfl
theorem ltG_sign {x y : D} (hx : isSignId x = true) (hy : isSignId y = true) : P.ltG x y = .ok (.bool (HT.lexLt (keyI x) (keyI y))) := by
  obtain ⟨a, b, c, rfl⟩ := sign_tup hx
  obtain ⟨a', b', c', rfl⟩ := sign_tup hy
  exact ltG_tup (a := [a, b, c]) (b := [a', b', c'])
theorem erased_eq (d : D) (h : okD d = true) : F_is_erased [d] = .ok (.bool (isErased d)) := by
  cases d with
  | tuple ds =>
    simp only [okD, Bool.and_eq_true, decide_eq_true_eq] at h
    have e1 : ∀ v, lcGo (gN 2) dYesN e_is_erased_1 [.dat (.tuple ds), v, .no] ds = .ok (ds.map fun d => .bool (isSignId d)) := fun v =>
      lcGo_mapN _ fun d hd => ⟨_, rfl, by simp [e_is_erased_1, signId_eq d (okDs_mem h.2 hd)]⟩
    by_cases h1 : 1 ≤ ds.length
    · by_cases h8 : ds.length ≤ 8
      · have h1' : (1 : Int) ≤ ds.length := by omega
        have h8' : (ds.length : Int) ≤ 8 := by omega
        have hl : ds.length ≤ 100000 := h.1
        cases hs : ds.all isSignId with
        | false => simp [F_is_erased, runF, b_is_erased, isErased, h1, h8, h1', h8', hl, e1, all_map, hs]
        | true =>
          have hs' := List.all_eq_true.mp hs
          have e2 : lcGo (gN 1) dYesN e_is_erased_2 [.dat (.tuple ds), .no, .no] (rngD 1 ((ds.length : Int) - 1).toNat) = .ok ((rngD 1 ((ds.length : Int) - 1).toNat).map fun d => .bool (pairT ds d)) := by
            refine lcGo_mapN _ fun d hd => ?_
            obtain ⟨i, hi, rfl⟩ := List.getElem_of_mem hd
            rw [rngD_len] at hi
            have hx : (rngD 1 ((ds.length : Int) - 1).toNat)[i]'(by rw [rngD_len]; exact hi) = .int (1 + (i : Nat)) := by
              have := rngD_get (lo := 1) hi
              exact (List.getElem?_eq_some_iff.mp this).2
            rw [hx]
            have i1 : i + 1 < ds.length := by omega
            have a1 : atI ds ((1 + (i : Int)) - 1) = some ds[i] := by
              have : (1 + (i : Int)) - 1 = ((i : Nat) : Int) := by omega
              rw [this]
              exact atI_nat (List.getElem?_eq_getElem (by omega))
            have a2 : atI ds (1 + (i : Int)) = some ds[i + 1] := by
              have : (1 + (i : Int)) = ((i + 1 : Nat) : Int) := by omega
              rw [this]
              exact atI_nat (List.getElem?_eq_getElem i1)
            refine ⟨_, rfl, ?_⟩
            have lt := ltG_sign (hs' ds[i] (List.getElem_mem _)) (hs' ds[i + 1] (List.getElem_mem _))
            have e3 : (1 + (i : Int) - 1).toNat = i := by omega
            have g1 : ds.getD i .none = ds[i] := by simp [List.getD, List.getElem?_eq_getElem (show i < ds.length by omega)]
            have g2 : ds.getD (i + 1) .none = ds[i + 1] := by simp [List.getD, List.getElem?_eq_getElem i1]
            have q : pairLt ds i = HT.lexLt (keyI ds[i]) (keyI ds[i + 1]) := by
              unfold pairLt
              rw [g1, g2]
            simp only [e_is_erased_2, pairT, dLtG_ap, dIdx_ap, dOp_ap, dVar_ap, dInt2_ap, dC_ap, List.set_cons_succ, List.set_cons_zero, List.getElem?_cons_zero, List.getElem?_cons_succ, R.bind_ok, int2_int, sub_c, if_true, idx_tup', a1, a2, lt, e3, q, R.noer_ok]
          have hr : (rngD 1 ((ds.length : Int) - 1).toNat).length ≤ 100000 := by rw [rngD_len]; omega
          have ha : ((rngD 1 ((ds.length : Int) - 1).toNat).all fun d => pairT ds d) = asc ds := by
            rw [← asc_range]
            unfold rngD
            rw [List.all_map]
            have : ((ds.length : Int) - 1).toNat = ds.length - 1 := by omega
            rw [this]
            congr 1
            funext i
            show pairLt ds ((1 + (i : Int)) - 1).toNat = _
            congr 1
            omega
          have eN : ((ds.length : Int) - 1).toNat = ds.length - 1 := by omega
          rw [eN] at e2 hr ha
          have hn1 : (1 : Int).natAbs ≤ 100000 := by decide
          simp [F_is_erased, runF, b_is_erased, isErased, h1, h8, h1', h8', hl, e1, all_map, hs, e2, hr, ha, hn1]
      · have h1' : (1 : Int) ≤ ds.length := by omega
        have h8' : ¬ (ds.length : Int) ≤ 8 := by omega
        simp [F_is_erased, runF, b_is_erased, isErased, h1, h8, h1', h8']
    · have h1' : ¬ (1 : Int) ≤ ds.length := by omega
      simp [F_is_erased, runF, b_is_erased, isErased, h1, h1']
  | _ => first | (simp [okD] at h; done) | simp [F_is_erased, runF, b_is_erased, isErased]

def isN : D → Bool
  | .none => true
  | _ => false
theorem isN_d (d : D) : P.isN (.d d) = .bool (isN d) := by cases d <;> rfl
def partOk (c : Nat) (d : D) : Bool :=
  if c = 98 then isBlockId d else if c = 66 then isN d || isBlockId d else if c = 112 then isN d || isSignId d else if c = 115 then isSignId d else if c = 101 then isErased d
  else if c = 119 then isStrOf LET d else if c = 87 then isN d || isStrOf LET d else if c = 116 then isStrOf TXT d else if c = 110 then isNum 1 d else isHand d && !(match d with | .int i => i == 1 | _ => false)
theorem sg (s : String) (c k : Nat) (hs : Str.ofString s = ⟨#[k]⟩) (hc : PyData.strOk ⟨#[c]⟩ = true) (hk : PyData.strOk ⟨#[k]⟩ = true) : P.eq (.d (.str ⟨#[c]⟩)) (.d (.str (Str.ofString s))) = .ok (.bool (decide (c = k))) := by
  rw [hs, eq_str _ _ hc hk]
  congr 2
  by_cases q : c = k
  · subst q; simp
  · have : ¬ (⟨#[c]⟩ : Str) = ⟨#[k]⟩ := fun e => q (by injection e with e; injection e with e; injection e)
    simp [q, this]
theorem part_eq (c : Nat) (d : D) (h : okD d = true) (hc : PyData.strOk ⟨#[c]⟩ = true) : F_is_part [.str ⟨#[c]⟩, d] = .ok (.bool (partOk c d)) := by
  have q1 := sg "b" c 98 (by decide) hc (by decide +kernel)
  have q2 := sg "B" c 66 (by decide) hc (by decide +kernel)
  have q3 := sg "p" c 112 (by decide) hc (by decide +kernel)
  have q4 := sg "s" c 115 (by decide) hc (by decide +kernel)
  have q5 := sg "e" c 101 (by decide) hc (by decide +kernel)
  have q6 := sg "w" c 119 (by decide) hc (by decide +kernel)
  have q7 := sg "W" c 87 (by decide) hc (by decide +kernel)
  have q8 := sg "t" c 116 (by decide) hc (by decide +kernel)
  have q9 := sg "n" c 110 (by decide) hc (by decide +kernel)
  have f1 := blockId_eq d h
  have f2 := signId_eq d h
  have f3 := erased_eq d h
  have f4 := word_eq d h
  have f5 := text_eq d h
  have f6 := number_eq d 1 h
  have f7 := hand_eq d h
  unfold F_is_part b_is_part partOk
  simp only [runF]
  have s0 : List.map SV.dat [PyData.str ⟨#[c]⟩, d] ++ List.replicate (2 - [PyData.str ⟨#[c]⟩, d].length) SV.no = [.dat (.str ⟨#[c]⟩), .dat d] := rfl
  rw [s0]
  by_cases c1 : c = 98
  · subst c1; simp [q1, f1]
  by_cases c2 : c = 66
  · subst c2; cases hn : isN d <;> simp [q1, q2, isN_d, hn, f1]
  by_cases c3 : c = 112
  · subst c3; cases hn : isN d <;> simp [q1, q2, q3, isN_d, hn, f2]
  by_cases c4 : c = 115
  · subst c4; simp [q1, q2, q3, q4, f2]
  by_cases c5 : c = 101
  · subst c5; simp [q1, q2, q3, q4, q5, f3]
  by_cases c6 : c = 119
  · subst c6; simp [q1, q2, q3, q4, q5, q6, f4]
  by_cases c7 : c = 87
  · subst c7; cases hn : isN d <;> simp [q1, q2, q3, q4, q5, q6, q7, isN_d, hn, f4]
  by_cases c8 : c = 116
  · subst c8; simp [q1, q2, q3, q4, q5, q6, q7, q8, f5]
  by_cases c9 : c = 110
  · subst c9; simp [q1, q2, q3, q4, q5, q6, q7, q8, q9, f6]
  cases hh : isHand d with
  | false => simp [q1, q2, q3, q4, q5, q6, q7, q8, q9, c1, c2, c3, c4, c5, c6, c7, c8, c9, f7, hh]
  | true =>
    cases d with
    | int i => simp [q1, q2, q3, q4, q5, q6, q7, q8, q9, c1, c2, c3, c4, c5, c6, c7, c8, c9, f7, hh]
    | _ => simp [isHand] at hh
end K03

namespace K03
open PySem PySem.Spec PyProof.Rows L2 Dn

theorem cut_from (ds : List D) (k : Nat) : Dn.cutD ds (some (k : Int)) none = ds.drop k := by
  unfold Dn.cutD
  rw [HT.sIx_nat, HT.sIx_none]
  by_cases h : k ≤ ds.length
  · rw [Nat.min_eq_left h, List.take_of_length_le (by rw [List.length_drop]; omega)]
  · rw [Nat.min_eq_right (by omega), List.drop_of_length_le (Nat.le_refl _), List.drop_of_length_le (by omega)]
    simp
theorem cut_to (ds : List D) (k : Nat) : Dn.cutD ds none (some (k : Int)) = ds.take k := by
  unfold Dn.cutD
  rw [HT.sIx_nat, HT.sIx_none, List.drop_zero, Nat.sub_zero]
  by_cases h : k ≤ ds.length
  · rw [Nat.min_eq_left h]
  · rw [Nat.min_eq_right (by omega), List.take_length, List.take_of_length_le (by omega)]
def kindsOk : D → Bool
  | .str z => decide (z.length ≤ 8) && z.cps.toList.all fun c => PyData.strOk ⟨#[c]⟩
  | _ => false
theorem parts_ok : (K_PARTS.all fun p => kindsOk p.2) = true := by decide +kernel
theorem look_kinds {w : Str} {dd : D} (h : klook K_PARTS w = some dd) : ∃ z, dd = .str z ∧ z.length ≤ 8 ∧ ∀ c ∈ z.cps.toList, PyData.strOk ⟨#[c]⟩ = true := by
  unfold klook at h
  cases q : K_PARTS.find? (fun p => p.1 == w) with
  | none => rw [q] at h; cases h
  | some p =>
    rw [q] at h
    obtain ⟨pk, x⟩ := p
    cases h
    have z := List.all_eq_true.mp parts_ok (pk, x) (List.mem_of_find?_eq_some q)
    cases x with
    | str z' =>
      simp only [kindsOk, Bool.and_eq_true, decide_eq_true_eq] at z
      exact ⟨z', rfl, z.1, fun c hc => List.all_eq_true.mp z.2 c hc⟩
    | _ => cases z
def tp : D → Bool
  | .tuple [.str a, d] => match a.cps.toList with
    | [c] => partOk c d
    | _ => false
  | _ => false
def actOk : D → Bool
  | .tuple (.str w :: ps) => match klook K_PARTS w with
    | some (.str kinds) => decide (ps.length = kinds.length) && (pairs (Dn.signs kinds) ps).all tp
    | _ => false
  | _ => false
theorem pairs_mem {kinds : Str} {ps : List D} {t : D} (h : t ∈ pairs (Dn.signs kinds) ps) : ∃ c d, c ∈ kinds.cps.toList ∧ d ∈ ps ∧ t = .tuple [.str ⟨#[c]⟩, d] := by
  unfold pairs at h
  obtain ⟨p, hp, rfl⟩ := List.mem_map.mp h
  have h1 := List.of_mem_zip hp
  unfold Dn.signs at h1
  obtain ⟨c, hc, e⟩ := List.mem_map.mp h1.1
  exact ⟨c, p.2, hc, h1.2, by rw [← e]⟩
theorem act_eq (d : D) (h : okD d = true) : F_is_act [d] = .ok (.bool (actOk d)) := by
  cases d with
  | tuple ds =>
    simp only [okD, Bool.and_eq_true, decide_eq_true_eq] at h
    cases ds with
    | nil => simp [F_is_act, runF, b_is_act, actOk]
    | cons x ps =>
      have hl : ¬ ((ps.length : Int) + 1 < 1) := by omega
      cases x with
      | str w =>
        cases q : klook K_PARTS w with
        | none => simp [F_is_act, runF, b_is_act, actOk, atI, ixN, hl, q]
        | some dd =>
          obtain ⟨kinds, rfl, hk, hc⟩ := look_kinds q
          have hk' : kinds.length ≤ 100000 := by omega
          by_cases hn : ps.length = kinds.length
          · have hd := cut_from (.str w :: ps) 1
            have hd' : Dn.cutD (.str w :: ps) (some 1) none = ps := hd
            have e : ∀ v, lcGo (gT 2 (gsC (gN 2) (gsC (gN 3) gsN))) dYesN e_is_act_1 [.dat (.tuple (.str w :: ps)), v, .no, .no] (pairs (Dn.signs kinds) ps) = .ok ((pairs (Dn.signs kinds) ps).map fun t => .bool (tp t)) := fun v =>
              lcGo_mapN _ fun t ht => by
                obtain ⟨c, d, h1, h2, rfl⟩ := pairs_mem ht
                have hp : okDs ps = true := by
                  have := h.2
                  simp only [okDs, Bool.and_eq_true] at this
                  exact this.2
                refine ⟨_, rfl, ?_⟩
                have pe := part_eq c d (okDs_mem hp h2) (hc c h1)
                simp [e_is_act_1, pe, tp]
            have hpl : (pairs (Dn.signs kinds) ps).length ≤ 100000 := by
              rw [Dn.pairs_len]
              have : (Dn.signs kinds).length = kinds.length := by simp [Dn.signs, Str.length]
              omega
            have hn' : (ps.length : Int) = kinds.length := by omega
            have hl2 : ¬ ((kinds.length : Int) + 1 < 1) := by omega
            simp [F_is_act, runF, b_is_act, actOk, atI, ixN, hl, hl2, q, hk', hn, hn', hd', e, all_map, hpl]
          · have hn' : ¬ ((ps.length : Int) = kinds.length) := by omega
            simp [F_is_act, runF, b_is_act, actOk, atI, ixN, hl, q, hk', hn, hn']
      | _ => first | (simp [okD, okDs] at h; done) | simp [F_is_act, runF, b_is_act, actOk, atI, ixN, hl]
  | _ => first | (simp [okD] at h; done) | simp [F_is_act, runF, b_is_act, actOk]
def seenOk (h n s : D) : Bool := match h, n, s with
  | .int i, .int j, .tuple ds => match atI ds (i - 1) with
    | some (.int k) => k == j - 1
    | _ => false
  | _, _, _ => false
def deedOk : D → Bool
  | .tuple [h, n, s, a] => isHand h && (isNum 1 n && (isClock s && (seenOk h n s && actOk a)))
  | _ => false
theorem deed_eq (d : D) (h : okD d = true) : F_is_deed [d] = .ok (.bool (deedOk d)) := by
  cases d with
  | tuple ds =>
    simp only [okD, Bool.and_eq_true, decide_eq_true_eq] at h
    match ds, h.2 with
    | [], _ => simp [F_is_deed, runF, b_is_deed, deedOk]
    | [a], _ => simp [F_is_deed, runF, b_is_deed, deedOk]
    | [a, b], _ => simp [F_is_deed, runF, b_is_deed, deedOk]
    | [a, b, c], _ => simp [F_is_deed, runF, b_is_deed, deedOk]
    | [a, b, c, d], h2 =>
      have e1 := hand_eq a (okDs_mem h2 (by simp))
      have e2 := number_eq b 1 (okDs_mem h2 (by simp))
      have e3 := clock_eq c (okDs_mem h2 (by simp))
      have e4 := act_eq d (okDs_mem h2 (by simp))
      cases q1 : isHand a with
      | false => simp [F_is_deed, runF, b_is_deed, deedOk, e1, q1]
      | true =>
        cases q2 : isNum 1 b with
        | false => simp [F_is_deed, runF, b_is_deed, deedOk, e1, q1, e2, q2]
        | true =>
          cases q3 : isClock c with
          | false => simp [F_is_deed, runF, b_is_deed, deedOk, e1, q1, e2, q2, e3, q3]
          | true =>
            cases a <;> first | (simp [isHand] at q1; done) | skip
            cases b <;> first | (simp [isNum] at q2; done) | skip
            rename_i i j
            unfold isClock at q3
            split at q3
            · rename_i x y z w
              simp only [Bool.and_eq_true] at q3
              obtain ⟨⟨⟨g1, g2⟩, g3⟩, g4⟩ := q3
              cases x <;> first | (simp [isNum] at g1; done) | skip
              cases y <;> first | (simp [isNum] at g2; done) | skip
              cases z <;> first | (simp [isNum] at g3; done) | skip
              cases w <;> first | (simp [isNum] at g4; done) | skip
              rename_i x y z w
              have q1' : 1 ≤ i ∧ i ≤ 4 := by simpa [isHand] using q1
              have hq3 : isClock (.tuple [.int x, .int y, .int z, .int w]) = true := by simp [isClock, g1, g2, g3, g4]
              have fin : ∃ k, atI [PyData.int x, .int y, .int z, .int w] (i - 1) = some (.int k) := by
                have : i = 1 ∨ i = 2 ∨ i = 3 ∨ i = 4 := by omega
                rcases this with r | r | r | r <;> subst r <;> exact ⟨_, rfl⟩
              obtain ⟨k, hk⟩ := fin
              by_cases hkj : k = j - 1
              · simp [F_is_deed, runF, b_is_deed, deedOk, e1, q1, e2, q2, e3, hq3, seenOk, hk, hkj, e4]
              · simp [F_is_deed, runF, b_is_deed, deedOk, e1, q1, e2, q2, e3, hq3, seenOk, hk, hkj, e4]
            · cases q3
    | a :: b :: c :: d :: e :: r, _ =>
      have q : ¬ ((r.length : Int) + 1 + 1 + 1 + 1 + 1 = 4) := by omega
      simp [F_is_deed, runF, b_is_deed, deedOk, q]
  | _ => first | (simp [okD] at h; done) | simp [F_is_deed, runF, b_is_deed, deedOk]
end K03

namespace K03
open PySem PySem.Spec PyProof.Rows L2 Dn

theorem numbers_ok (ns : List Int) (hl : ns.length ≤ 63) : ∃ row : List Int, F_law_numbers [scr (ns.map PyData.int)] = .ok (.list (row.map PyData.int)) ∧ row ≠ [] ∧ row.length ≤ 3900 := DnL.numbers_ok ns hl
/-- a row of drawn numbers -/
structure Row (r : D) : Prop where
  draw : ∀ a k : Int, 0 ≤ a → 0 < k → ∃ n : Int, F_law_draw [r, .int a, .int k] = .ok (.int n) ∧ 0 ≤ n ∧ n < k
theorem row_ok (row : List Int) (hr : row ≠ []) (hl : row.length ≤ 100000) : Row (.list (row.map PyData.int)) := ⟨fun a k h0 hk => DnL.draw_ok row a k hr hl h0 hk⟩

theorem str_push (z : Str) (c : Nat) : (z ++ (⟨#[c]⟩ : Str)).cps.toList = z.cps.toList ++ [c] := by
  show (z.cps ++ #[c]).toList = _
  simp
theorem str_push_len (z : Str) (c : Nat) : (z ++ (⟨#[c]⟩ : Str)).length = z.length + 1 := by
  show (z.cps ++ #[c]).size = z.cps.size + 1
  simp
theorem allIn_push {s z : Str} {c : Nat} (h : allIn s z = true) (hc : c ∈ s.cps.toList) : allIn s (z ++ (⟨#[c]⟩ : Str)) = true := by
  unfold allIn at h ⊢
  rw [str_push, List.all_append, h]
  simpa using hc
abbrev DRW : Str := Str.ofString "abcdefghijklmnopqrstuvwxyz  "
theorem sub_drw : ∀ c ∈ DRW.cps.toList, c ∈ TXT.cps.toList := by decide +kernel
theorem len_let : LET.cps.toList.length = 26 := by decide +kernel
theorem len_drw : DRW.cps.toList.length = 28 := by decide +kernel
theorem len_let' : LET.length ≤ 100000 := by decide +kernel
theorem len_drw' : DRW.length ≤ 100000 := by decide +kernel
theorem word_ok {r : D} (W : Row r) (a : Int) (ha : 0 ≤ a) : ∃ z, F_law_word [r, .int a, .int 8] = .ok (.str z) ∧ isStrOf LET (.str z) = true := by
  obtain ⟨n, h1, n0, n8⟩ := W.draw a 8 ha (by decide)
  have L := forGo_inv (tg := gN 4) (b := l_law_word_1) (fs := [4]) (ds := rngD 0 (1 + n).toNat) (δ := [.dat r, .dat (.int a), .dat (.int 8), .dat (.str (Str.ofString "")), .no])
    (fun i δ => i ≤ 8 ∧ ∃ z : Str, δ = [.dat r, .dat (.int a), .dat (.int 8), .dat (.str z), .no] ∧ z.length = i ∧ allIn LET z = true) ⟨by decide, _, rfl, by decide +kernel, by decide +kernel⟩ fun i d δ hd ⟨_, z, e, hz, hi⟩ => by
    subst e
    obtain ⟨hn, rfl⟩ := rngD_mem hd
    obtain ⟨m, h2, m0, m26⟩ := W.draw (a + 1 + (0 + (i : Nat))) 26 (by omega) (by decide)
    obtain ⟨c, hc, hm⟩ := atI_in (xs := LET.cps.toList) (i := m) m0 (by rw [len_let]; exact m26)
    have hl := len_let'
    have hzl : z.length + (⟨#[c]⟩ : Str).length ≤ 100000 := by
      have : (⟨#[c]⟩ : Str).length = 1 := rfl
      omega
    refine ⟨_, _, rfl, .inl (by simp only [l_law_word_1, dSet_ap, dAdd_ap, dOp_ap, dVar_ap, dIdx_ap, dC_ap, dCallN_ap, dCons_ap, dNil_ap, List.set_cons_succ, List.set_cons_zero, List.getElem?_cons_zero, List.getElem?_cons_succ, R.bind_ok, Dn.add_int, List.length_cons, List.length_nil, h2, idx_str', LIM_eq, hl, if_true, hc, add_str, hzl]; rfl), by omega, _, rfl, by rw [str_push_len]; omega, allIn_push hi hm⟩
  obtain ⟨δ', h3, _, z, rfl, hz, hi⟩ := L
  rw [rngD_len] at hz
  refine ⟨z, ?_, ?_⟩
  · have hb : (1 + n).natAbs ≤ 100000 := by omega
    simp [F_law_word, runF, b_law_word, h1, hb, h3]
  · show (decide (1 ≤ z.length) && decide (z.length ≤ 8) && allIn LET z) = true
    rw [hi]
    simp
    omega
theorem allIn_mono {s t z : Str} (h : ∀ c ∈ s.cps.toList, c ∈ t.cps.toList) (q : allIn s z = true) : allIn t z = true := by
  unfold allIn at q ⊢
  rw [List.all_eq_true] at q ⊢
  intro c hc
  have := q c hc
  simp only [decide_eq_true_eq] at this ⊢
  exact h c this
theorem typed_ok {r : D} (W : Row r) (a : Int) (ha : 0 ≤ a) : ∃ z, F_law_typed [r, .int a] = .ok (.str z) ∧ isStrOf TXT (.str z) = true := by
  obtain ⟨n, h1, n0, n8⟩ := W.draw a 8 ha (by decide)
  have L := forGo_inv (tg := gN 3) (b := l_law_typed_1) (fs := [3]) (ds := rngD 0 (1 + n).toNat) (δ := [.dat r, .dat (.int a), .dat (.str (Str.ofString "")), .no])
    (fun i δ => i ≤ 8 ∧ ∃ z : Str, δ = [.dat r, .dat (.int a), .dat (.str z), .no] ∧ z.length = i ∧ allIn DRW z = true) ⟨by decide, _, rfl, by decide +kernel, by decide +kernel⟩ fun i d δ hd ⟨_, z, e, hz, hi⟩ => by
    subst e
    obtain ⟨hn, rfl⟩ := rngD_mem hd
    obtain ⟨m, h2, m0, m26⟩ := W.draw (a + 1 + (0 + (i : Nat))) 28 (by omega) (by decide)
    obtain ⟨c, hc, hm⟩ := atI_in (xs := DRW.cps.toList) (i := m) m0 (by rw [len_drw]; exact m26)
    have hl := len_drw'
    have hzl : z.length + (⟨#[c]⟩ : Str).length ≤ 100000 := by
      have : (⟨#[c]⟩ : Str).length = 1 := rfl
      omega
    refine ⟨_, _, rfl, .inl (by simp only [l_law_typed_1, dSet_ap, dAdd_ap, dOp_ap, dVar_ap, dIdx_ap, dC_ap, dCallN_ap, dCons_ap, dNil_ap, List.set_cons_succ, List.set_cons_zero, List.getElem?_cons_zero, List.getElem?_cons_succ, R.bind_ok, Dn.add_int, List.length_cons, List.length_nil, h2, idx_str', LIM_eq, hl, if_true, hc, add_str, hzl]; rfl), by omega, _, rfl, by rw [str_push_len]; omega, allIn_push hi hm⟩
  obtain ⟨δ', h3, _, z, rfl, hz, hi⟩ := L
  rw [rngD_len] at hz
  refine ⟨z, ?_, ?_⟩
  · have hb : (1 + n).natAbs ≤ 100000 := by omega
    simp [F_law_typed, runF, b_law_typed, h1, hb, h3]
  · show (decide (1 ≤ z.length) && decide (z.length ≤ 8) && allIn TXT z) = true
    rw [allIn_mono sub_drw hi]
    simp
    omega
/-- one of three -/
theorem of3 (x y z : Int) (n : Int) (h0 : 0 ≤ n) (h1 : n < 3) (hx : 0 < x ∧ x ≤ 1000) (hy : 0 < y ∧ y ≤ 1000) (hz : 0 < z ∧ z ≤ 1000) : ∃ w, atI [PyData.int x, .int y, .int z] n = some (.int w) ∧ 0 < w ∧ w ≤ 1000 := by
  have : n = 0 ∨ n = 1 ∨ n = 2 := by omega
  rcases this with r | r | r <;> subst r
  · exact ⟨x, rfl, hx⟩
  · exact ⟨y, rfl, hy⟩
  · exact ⟨z, rfl, hz⟩
def sgn (a b c : Int) : D := .tuple [.int a, .int b, .int c]
theorem sign_ok {r : D} (W : Row r) (a : Int) (ha : 0 ≤ a) : ∃ x y z, F_law_sign [r, .int a] = .ok (sgn x y z) ∧ 1 ≤ x ∧ x ≤ 4 ∧ 1 ≤ y ∧ y ≤ 1000 ∧ 0 ≤ z ∧ z < 8 := by
  obtain ⟨n, h1, n0, n4⟩ := W.draw a 4 ha (by decide)
  obtain ⟨t, h2, t0, t3⟩ := W.draw (a + 2) 3 (by omega) (by decide)
  obtain ⟨w, hw, w0, w1⟩ := of3 3 40 990 t t0 t3 (by decide) (by decide) (by decide)
  obtain ⟨m, h3, m0, mw⟩ := W.draw (a + 1) w (by omega) w0
  obtain ⟨k, h4, k0, k8⟩ := W.draw (a + 2) 8 (by omega) (by decide)
  exact ⟨1 + n, 1 + m, k, by simp [F_law_sign, runF, b_law_sign, h1, h2, hw, h3, h4, sgn], by omega⟩
theorem block_ok {r : D} (W : Row r) (a : Int) (ha : 0 ≤ a) : ∃ x y : Int, F_law_block [r, .int a] = .ok (.tuple [.int x, .int y]) ∧ isBlockId (.tuple [.int x, .int y]) = true := by
  obtain ⟨n, h1, n0, n4⟩ := W.draw a 4 ha (by decide)
  by_cases hn : n = 0
  · subst hn
    exact ⟨0, 0, by simp [F_law_block, runF, b_law_block, h1], rfl⟩
  · obtain ⟨t, h2, t0, t3⟩ := W.draw a 3 ha (by decide)
    obtain ⟨w, hw, w0, w1⟩ := of3 9 40 990 t t0 t3 (by decide) (by decide) (by decide)
    obtain ⟨m, h3, m0, mw⟩ := W.draw (a + 2) w (by omega) w0
    obtain ⟨k, h4, k0, k4⟩ := W.draw (a + 1) 4 (by omega) (by decide)
    refine ⟨1 + k, 1 + m, by simp [F_law_block, runF, b_law_block, h1, hn, h2, hw, h3, h4], ?_⟩
    simp [isBlockId, isHand, isNum]
    omega
end K03

namespace K03
open PySem PySem.Spec PyProof.Rows L2 Dn

/-! ### signs, ascending -/
open scoped Classical
def Sm (d : D) : Prop := ∃ x y z : Int, d = sgn x y z ∧ 1 ≤ x ∧ x ≤ 4 ∧ 1 ≤ y ∧ y ≤ 1000 ∧ 0 ≤ z ∧ z < 8
theorem sm_sign {d : D} (h : Sm d) : isSignId d = true := by
  obtain ⟨x, y, z, rfl, h⟩ := h
  simp [sgn, isSignId, isHand, isNum]
  omega
theorem sm_lay {L : List D} : (∀ d ∈ L, Sm d) → PyData.canLayAll0 L = true ∧ PyData.depthAll L ≤ 1 := by
  induction L with
  | nil => intro _; simp [PyData.canLayAll0, PyData.depthAll]
  | cons d L ih =>
    intro h
    obtain ⟨h1, h2⟩ := ih fun e he => h e (List.mem_cons_of_mem _ he)
    obtain ⟨x, y, z, rfl, _⟩ := h d (by simp)
    refine ⟨by simp [PyData.canLayAll0, PyData.canLay0, sgn, h1], ?_⟩
    simp only [PyData.depthAll, PyData.depth, sgn]
    omega
theorem sm_eqv {d e : D} (hd : Sm d) (he : Sm e) : PyData.eqv d e = decide (d = e) := by
  obtain ⟨x, y, z, rfl, _⟩ := hd
  obtain ⟨x', y', z', rfl, _⟩ := he
  unfold sgn
  simp only [PyData.eqv, PyData.eqvAll]
  by_cases h : x = x' ∧ y = y' ∧ z = z'
  · obtain ⟨rfl, rfl, rfl⟩ := h; simp
  · have : ¬ (PyData.tuple [.int x, .int y, .int z] = .tuple [.int x', .int y', .int z']) := fun e => h (by simpa using e)
    simp [this]
    intro a b c
    exact h ⟨a, b, c⟩
theorem sm_any {L : List D} {d : D} (h : ∀ e ∈ L, Sm e) (hd : Sm d) : (L.any fun z => PyData.eqv z d) = decide (d ∈ L) := by
  induction L with
  | nil => simp
  | cons e L ih =>
    rw [List.any_cons, ih fun e he => h e (List.mem_cons_of_mem _ he), sm_eqv (h e (by simp)) hd]
    by_cases q : e = d
    · subst q; simp
    · have q' : ¬ d = e := fun z => q z.symm
      simp [q, q']
theorem sm_in {L : List D} {d : D} (h : ∀ e ∈ L, Sm e) (hd : Sm d) : P.inS true d (.o L) = .ok (.bool (!decide (d ∈ L))) := by
  obtain ⟨l1, l2⟩ := sm_lay h
  obtain ⟨l3, l4⟩ := sm_lay (L := [d]) fun e he => by
    cases (show e = d by simpa using he)
    exact hd
  have s1 : SeqAt.shaped (opD (.o L)) = true := by
    simp only [SeqAt.shaped, opD, PyData.canLay0, l1, PyData.depth, Bool.true_and, decide_eq_true_eq]
    omega
  have s2 : SeqAt.shaped d = true := by
    simp only [PyData.canLayAll0, Bool.and_true] at l3
    simp only [PyData.depthAll] at l4
    simp only [SeqAt.shaped, l3, Bool.true_and, decide_eq_true_eq]
    omega
  unfold P.inS
  show (if ((flatD d && L.all flatD) || (SeqAt.shaped d && SeqAt.shaped (opD (.o L)))) = true then R.ok (PyData.bool (if true = true then !L.any fun z => PyData.eqv z d else L.any fun z => PyData.eqv z d)) else R.bad) = _
  rw [s1, s2, sm_any h hd]
  simp
theorem sm_asc {L : List D} : (∀ e ∈ L, Sm e) → L.Nodup → L.Pairwise (fun x y => leT x y = true) → asc L = true := by
  induction L with
  | nil => intros; rfl
  | cons x L ih =>
    intro h hn hp
    cases L with
    | nil => rfl
    | cons y L =>
      have r := ih (fun e he => h e (List.mem_cons_of_mem _ he)) (List.nodup_cons.mp hn).2 (List.pairwise_cons.mp hp).2
      have ne : x ≠ y := fun e => (List.nodup_cons.mp hn).1 (by rw [e]; simp)
      have le := (List.pairwise_cons.mp hp).1 y (by simp)
      have lt : HT.lexLt (keyI x) (keyI y) = true := by
        unfold leT at le
        cases q : HT.lexLt (keyI x) (keyI y) with
        | true => rfl
        | false =>
          exfalso
          have e := lexLt_tri q (by simpa using le)
          obtain ⟨a, b, c, rfl, _⟩ := h x (by simp)
          obtain ⟨a', b', c', rfl, _⟩ := h y (by simp)
          have e' : [a, b, c] = [a', b', c'] := e
          simp at e'
          exact ne (by rw [e'.1, e'.2.1, e'.2.2])
      show (HT.lexLt (keyI x) (keyI y) && asc (y :: L)) = true
      rw [lt, r]
      rfl
theorem okT_sm {d : D} (h : Sm d) : okT 3 d = true := by
  obtain ⟨x, y, z, rfl, h⟩ := h
  have b : ∀ i : Int, 0 ≤ i → i ≤ 1000 → bigI i = true := fun i h0 h1 => by
    unfold bigI BIG
    simp
    omega
  show (([x, y, z] : List Int).length == 3 && [x, y, z].all bigI) = true
  simp [b x (by omega) (by omega), b y (by omega) (by omega), b z (by omega) (by omega)]
theorem sorted_sm {L : List D} (h : ∀ e ∈ L, Sm e) (hn : L ≠ []) (hl : L.length < 64) : P.sortedN (.d (.list L)) = .ok (sortT L) := by
  cases L with
  | nil => exact absurd rfl hn
  | cons x L =>
    obtain ⟨a, b, c, rfl, _⟩ := h x (by simp)
    unfold P.sortedN
    show (if (decide ((sgn a b c :: L).length < 64) && (sgn a b c :: L).all (okT 3) && decide (1 ≤ 3)) = true then R.ok (sortT (sgn a b c :: L)) else R.bad) = _
    have q : (sgn a b c :: L).all (okT 3) = true := List.all_eq_true.mpr fun e he => okT_sm (h e he)
    rw [q, decide_eq_true hl]
    rfl
theorem signs_ok {r : D} (W : Row r) (a : Int) (ha : 0 ≤ a) : ∃ ds, F_law_signs [r, .int a] = .ok (.tuple ds) ∧ isErased (.tuple ds) = true ∧ (∀ d ∈ ds, Sm d) ∧ ds.length ≤ 8 := by
  obtain ⟨n, h1, n0, n8⟩ := W.draw a 8 ha (by decide)
  have L := forGo_inv (tg := gN 3) (b := l_law_signs_1) (fs := [3, 4]) (ds := rngD 0 (1 + n).toNat) (δ := [.dat r, .dat (.int a), .own [], .no, .no])
    (fun i δ => i ≤ 8 ∧ ∃ L : List D, δ = [.dat r, .dat (.int a), .own L, .no, .no] ∧ (∀ d ∈ L, Sm d) ∧ L.Nodup ∧ L.length ≤ i ∧ (0 < i → L ≠ [])) ⟨by decide, [], rfl, by simp, by simp, by simp, by simp⟩ fun i d δ hd ⟨_, L, e, q1, q2, q3, q4⟩ => by
    subst e
    obtain ⟨hn, rfl⟩ := rngD_mem hd
    obtain ⟨x, y, z, h2, hb⟩ := sign_ok W (a + 1 + 3 * (i : Nat)) (by omega)
    have sm : Sm (sgn x y z) := ⟨x, y, z, rfl, hb⟩
    have m1 : ∀ j : Int, cMul 3 j = true := fun j => mul_l (by decide) (by decide)
    have hi := sm_in q1 sm
    have hlim : L.length < 100000 := by omega
    by_cases hm : sgn x y z ∈ L
    · refine ⟨_, [.dat r, .dat (.int a), .own L, .dat (.int (0 + (i : Nat))), .dat (sgn x y z)], rfl, .inl (by simp [l_law_signs_1, m1, h2, hi, hm]), by omega, L, rfl, q1, q2, by omega, fun _ e => by rw [e] at hm; cases hm⟩
    · refine ⟨_, [.dat r, .dat (.int a), .own (L ++ [sgn x y z]), .dat (.int (0 + (i : Nat))), .dat (sgn x y z)], rfl, .inl (by simp [l_law_signs_1, m1, h2, hi, hm, hlim]), by omega, _, rfl, fun d hd => ?_, ?_, by simp; omega, fun _ => by simp⟩
      · rcases List.mem_append.mp hd with p | p
        · exact q1 d p
        · cases (show d = sgn x y z by simpa using p)
          exact sm
      · rw [List.nodup_append]
        refine ⟨q2, by simp, fun p hp e he => ?_⟩
        cases (show e = sgn x y z by simpa using he)
        exact fun z => hm (z ▸ hp)
  obtain ⟨δ', h3, _, L, rfl, q1, q2, q3, q4⟩ := L
  rw [rngD_len] at q3 q4
  have hb : (1 + n).natAbs ≤ 100000 := by omega
  have pm := sortT_perm L
  have hsl : (sortT L).length = L.length := pm.length_eq
  have hne : L ≠ [] := q4 (by omega)
  have hpos : 0 < L.length := List.length_pos_iff.mpr hne
  have qs : ∀ d ∈ sortT L, Sm d := fun d hd => q1 d (pm.mem_iff.mp hd)
  refine ⟨sortT L, ?_, ?_, qs, by omega⟩
  · have so := sorted_sm q1 hne (by omega)
    simp [F_law_signs, runF, b_law_signs, h1, hb, h3, so]
  · have e1 : (sortT L).all isSignId = true := List.all_eq_true.mpr fun d hd => sm_sign (qs d hd)
    have e2 := sm_asc qs (pm.nodup_iff.mpr q2) (sortT_pw L)
    simp only [isErased, e1, e2, Bool.and_self, Bool.and_true, Bool.and_eq_true, decide_eq_true_eq]
    omega
end K03

namespace K03
open PySem PySem.Spec PyProof.Rows L2 Dn

/-! ### wrong parts: told off one by one, by the kernel -/
def chk (c : Nat) : R D → Bool
  | .ok d => okD d && !partOk c d
  | _ => false
def wrongAll (p : String) (c n : Nat) : Bool := (List.range n).all fun k => chk c (F_law_wrong [.str (Str.ofString p), .int k])
theorem wr_of {p : String} {c : Nat} (h : wrongAll p c 840 = true) (k : Int) (h0 : 0 ≤ k) (h1 : k < 840) : ∃ d, F_law_wrong [.str (Str.ofString p), .int k] = .ok d ∧ okD d = true ∧ partOk c d = false := by
  have z := List.all_eq_true.mp h k.toNat (List.mem_range.mpr (by omega))
  have e : ((k.toNat : Nat) : Int) = k := by omega
  rw [e] at z
  generalize F_law_wrong [.str (Str.ofString p), .int k] = x at z
  cases x with
  | ok d =>
    simp only [chk, Bool.and_eq_true, Bool.not_eq_true'] at z
    exact ⟨d, rfl, z.1, z.2⟩
  | _ => cases z
theorem wr_block : wrongAll "block" 98 840 = true := by decide +kernel
theorem wr_behind : wrongAll "behind" 66 840 = true := by decide +kernel
theorem wr_sign : wrongAll "sign" 115 840 = true := by decide +kernel
theorem wr_place : wrongAll "place" 112 840 = true := by decide +kernel
theorem wr_signs : wrongAll "signs" 101 840 = true := by decide +kernel
theorem wr_text : wrongAll "text" 116 840 = true := by decide +kernel
theorem wr_word : wrongAll "word" 119 840 = true := by decide +kernel
theorem wr_worth : wrongAll "worth" 87 840 = true := by decide +kernel
theorem wr_number : wrongAll "number" 110 840 = true := by decide +kernel
theorem wr_hand : wrongAll "hand" 104 840 = true := by decide +kernel
end K03

namespace K03
open PySem PySem.Spec PyProof.Rows L2 Dn

def allP : List Nat → List D → Bool
  | c :: cs, d :: ds => partOk c d && allP cs ds
  | _, _ => true
theorem all_tp : ∀ (cs : List Nat) (ps : List D), (pairs (Dn.signs ⟨cs.toArray⟩) ps).all tp = allP cs ps
  | [], _ => by simp [pairs, Dn.signs, allP]
  | c :: cs, [] => by simp [pairs, Dn.signs, allP]
  | c :: cs, d :: ps => by
    have ih := all_tp cs ps
    show (tp (.tuple [.str ⟨#[c]⟩, d]) && (pairs (Dn.signs ⟨cs.toArray⟩) ps).all tp) = (partOk c d && allP cs ps)
    rw [ih]
    rfl
theorem allP_set : ∀ {cs : List Nat} {ps : List D} {j c : Nat} {d : D}, cs[j]? = some c → partOk c d = false → j < ps.length → allP cs (ps.take j ++ d :: ps.drop (j + 1)) = false
  | [], _, _, _, _, h, _, _ => by simp at h
  | _ :: _, [], _, _, _, _, _, h => by simp at h
  | c :: cs, p :: ps, 0, _, d, h, q, _ => by
    simp at h
    subst h
    simp [allP, q]
  | c :: cs, p :: ps, j + 1, _, d, h, q, l => by
    have ih := allP_set (cs := cs) (ps := ps) (j := j) (d := d) (by simpa using h) q (by simpa using l)
    show (partOk c p && allP cs (ps.take j ++ d :: ps.drop (j + 1))) = false
    rw [ih, Bool.and_false]
inductive Fit : List String → List Nat → Prop
  | nil : Fit [] []
  | cons {s : String} {c : Nat} {ss : List String} {cs : List Nat} : wrongAll s c 840 = true → Fit ss cs → Fit (s :: ss) (c :: cs)
theorem Fit.len : ∀ {ss : List String} {cs : List Nat}, Fit ss cs → ss.length = cs.length
  | _, _, .nil => rfl
  | _, _, .cons _ t => congrArg Nat.succ t.len
theorem Fit.get : ∀ {ss : List String} {cs : List Nat} {j : Nat} {s : String}, Fit ss cs → ss[j]? = some s → ∃ c, cs[j]? = some c ∧ wrongAll s c 840 = true
  | _, _, _, _, .nil, h => by simp at h
  | _, _, 0, _, .cons h _, e => by simp at e; subst e; exact ⟨_, rfl, h⟩
  | _, _, j + 1, _, .cons _ t, e => by
    obtain ⟨c, h1, h2⟩ := Fit.get (j := j) t (by simpa using e)
    exact ⟨c, by simpa using h1, h2⟩
def lookIs (w : Str) (cs : List Nat) : Bool := match klook K_PARTS w with
  | some (.str z) => z == ⟨cs.toArray⟩
  | _ => false
theorem look_of {w : Str} {cs : List Nat} (h : lookIs w cs = true) : klook K_PARTS w = some (.str ⟨cs.toArray⟩) := by
  unfold lookIs at h
  split at h
  · rename_i z q
    rw [q, beq_iff_eq.mp h]
  · cases h
/-- an act of a kind, and what is known of it -/
structure IsAct (k : Int) (act : D) (w : Str) (ps : List D) (cs : List Nat) (ss : List String) : Prop where
  eq : act = .tuple (.str w :: ps)
  look : lookIs w cs = true
  len : ps.length = cs.length
  all : allP cs ps = true
  ok : okDs ps = true
  first : ∀ d, ps.head? = some d → ∀ z, d ≠ .str z
  parts : F_law_parts [.int k] = .ok (.list (ss.map fun s => .str (Str.ofString s)))
  fit : Fit ss cs
  blank : (klook K_PARTS (w ++ Str.ofString " ")).isNone = true
  short : w.length ≤ 8
  few : ps.length ≤ 4
theorem strOf_ok {s : Str} {d : D} (h : isStrOf s d = true) : okD d = true := by
  cases d with
  | str z =>
    simp only [isStrOf, Bool.and_eq_true, decide_eq_true_eq] at h
    simp only [okD, decide_eq_true_eq]
    omega
  | _ => cases h
theorem sm_okD {d : D} (h : Sm d) : okD d = true := by
  obtain ⟨x, y, z, rfl, _⟩ := h
  simp [sgn, okD, okDs]
theorem sms_okD {ds : List D} (h : ∀ d ∈ ds, Sm d) (hl : ds.length ≤ 8) : okD (.tuple ds) = true := by
  have : okDs ds = true := by
    clear hl
    induction ds with
    | nil => rfl
    | cons d ds ih =>
      simp only [okDs, sm_okD (h d (by simp)), ih fun e he => h e (List.mem_cons_of_mem _ he), Bool.and_self]
  simp only [okD, this, Bool.and_true, decide_eq_true_eq]
  omega
section
variable {r : D} (W : Row r) (a : Int) (ha : 0 ≤ a)
include W ha
theorem opt_word (n : Int) : ∃ v, (if n = 0 then R.ok PyData.none else F_law_word [r, .int (a + 21), .int 8]) = .ok v ∧ partOk 87 v = true ∧ okD v = true := by
  by_cases h : n = 0
  · exact ⟨.none, by simp [h], rfl, rfl⟩
  · obtain ⟨z, h1, h2⟩ := word_ok W (a + 21) (by omega)
    exact ⟨.str z, by simp [h, h1], h2, strOf_ok h2⟩
theorem opt_sign (n b : Int) (hb : 0 ≤ b) : ∃ v, (if n = 0 then R.ok PyData.none else F_law_sign [r, .int b]) = .ok v ∧ partOk 112 v = true ∧ okD v = true := by
  by_cases h : n = 0
  · exact ⟨.none, by simp [h], rfl, rfl⟩
  · obtain ⟨x, y, z, h1, h2⟩ := sign_ok W b hb
    have sm : Sm (sgn x y z) := ⟨x, y, z, rfl, h2⟩
    exact ⟨sgn x y z, by simp [h, h1], sm_sign sm, sm_okD sm⟩
theorem opt_block (n b : Int) (hb : 0 ≤ b) : ∃ v, (if n = 0 then R.ok PyData.none else F_law_block [r, .int b]) = .ok v ∧ partOk 66 v = true ∧ okD v = true := by
  by_cases h : n = 0
  · exact ⟨.none, by simp [h], rfl, rfl⟩
  · obtain ⟨x, y, h1, h2⟩ := block_ok W b hb
    exact ⟨.tuple [.int x, .int y], by simp [h, h1], by show (isN (.tuple [.int x, .int y]) || isBlockId (.tuple [.int x, .int y])) = true; rw [h2]; rfl, rfl⟩
theorem act_0 : ∃ act w ps cs ss, F_law_act [r, .int a, .int 0] = .ok act ∧ IsAct 0 act w ps cs ss := by
  obtain ⟨n, d1, _⟩ := W.draw (a + 20) 3 (by omega) (by decide)
  obtain ⟨wv, e1, w1, w2⟩ := opt_word W a ha n
  obtain ⟨n2, d2, _⟩ := W.draw (a + 3) 3 (by omega) (by decide)
  obtain ⟨n3, d3, _⟩ := W.draw (a + 7) 3 (by omega) (by decide)
  obtain ⟨lv, e2, l1, l2⟩ := opt_sign W a ha n2 (a + 4) (by omega)
  obtain ⟨rv, e3, r1, r2⟩ := opt_sign W a ha n3 (a + 8) (by omega)
  obtain ⟨bx, by', e4, b1⟩ := block_ok W a ha
  obtain ⟨t, e5, t1⟩ := typed_ok W (a + 11) (by omega)
  refine ⟨_, Str.ofString "write", [.tuple [.int bx, .int by'], lv, rv, .str t], [98, 112, 112, 116], ["block", "place", "place", "text"], by simp [F_law_act, runF, b_law_act, d1, e1, d2, e2, d3, e3, e4, e5], rfl, by decide +kernel, rfl, ?_, ?_, fun d h z => ?_, by simp [F_law_parts, runF, b_law_parts, atI, ixN], .cons wr_block (.cons wr_place (.cons wr_place (.cons wr_text .nil))), by decide +kernel, by decide +kernel, by simp⟩
  · simp only [allP, l1, r1, Bool.and_true]
    rw [show partOk 98 (.tuple [.int bx, .int by']) = true from b1, show partOk 116 (.str t) = true from t1]
    rfl
  · simp only [okDs, l2, r2, strOf_ok t1, Bool.and_true]
    rfl
  · cases h; exact fun z => nomatch z
theorem act_1 : ∃ act w ps cs ss, F_law_act [r, .int a, .int 1] = .ok act ∧ IsAct 1 act w ps cs ss := by
  obtain ⟨n, d1, _⟩ := W.draw (a + 20) 3 (by omega) (by decide)
  obtain ⟨wv, e1, w1, w2⟩ := opt_word W a ha n
  obtain ⟨ds, e2, s1, s2, s3⟩ := signs_ok W a ha
  refine ⟨_, Str.ofString "erase", [.tuple ds], [101], ["signs"], by simp [F_law_act, runF, b_law_act, atI, ixN, d1, e1, e2], rfl, by decide +kernel, rfl, ?_, ?_, fun d h z => ?_, by simp [F_law_parts, runF, b_law_parts, atI, ixN], .cons wr_signs (.nil), by decide +kernel, by decide +kernel, by simp⟩
  · simp only [allP, Bool.and_true]; exact s1
  · simp only [okDs, sms_okD s2 s3, Bool.and_true]
  · cases h; exact fun z => nomatch z
theorem act_2 : ∃ act w ps cs ss, F_law_act [r, .int a, .int 2] = .ok act ∧ IsAct 2 act w ps cs ss := by
  obtain ⟨n, d1, _⟩ := W.draw (a + 20) 3 (by omega) (by decide)
  obtain ⟨wv, e1, w1, w2⟩ := opt_word W a ha n
  obtain ⟨x1, y1, z1, e2, g1⟩ := sign_ok W (a) (by omega)
  have sm1 : Sm (sgn x1 y1 z1) := ⟨_, _, _, rfl, g1⟩
  obtain ⟨x2, y2, z2, e3, g2⟩ := sign_ok W (a + 3) (by omega)
  have sm2 : Sm (sgn x2 y2 z2) := ⟨_, _, _, rfl, g2⟩
  obtain ⟨t, e4, t1⟩ := word_ok W (a + 6) (by omega)
  refine ⟨_, Str.ofString "mark", [sgn x1 y1 z1, sgn x2 y2 z2, .str t, wv], [115, 115, 119, 87], ["sign", "sign", "word", "worth"], by simp [F_law_act, runF, b_law_act, atI, ixN, d1, e1, e2, e3, e4], rfl, by decide +kernel, rfl, ?_, ?_, fun d h z => ?_, by simp [F_law_parts, runF, b_law_parts, atI, ixN], .cons wr_sign (.cons wr_sign (.cons wr_word (.cons wr_worth (.nil)))), by decide +kernel, by decide +kernel, by simp⟩
  · simp only [allP, w1, Bool.and_true]; rw [show partOk 115 (sgn x1 y1 z1) = true from sm_sign sm1, show partOk 115 (sgn x2 y2 z2) = true from sm_sign sm2, show partOk 119 (.str t) = true from t1]; rfl
  · simp only [okDs, w2, sm_okD sm1, sm_okD sm2, strOf_ok t1, Bool.and_true]
  · cases h; exact fun z => nomatch z
theorem act_3 : ∃ act w ps cs ss, F_law_act [r, .int a, .int 3] = .ok act ∧ IsAct 3 act w ps cs ss := by
  obtain ⟨n, d1, _⟩ := W.draw (a + 20) 3 (by omega) (by decide)
  obtain ⟨wv, e1, w1, w2⟩ := opt_word W a ha n
  obtain ⟨x1, y1, z1, e2, g1⟩ := sign_ok W (a) (by omega)
  have sm1 : Sm (sgn x1 y1 z1) := ⟨_, _, _, rfl, g1⟩
  obtain ⟨x2, y2, z2, e3, g2⟩ := sign_ok W (a + 3) (by omega)
  have sm2 : Sm (sgn x2 y2 z2) := ⟨_, _, _, rfl, g2⟩
  obtain ⟨t, e4, t1⟩ := typed_ok W (a + 6) (by omega)
  refine ⟨_, Str.ofString "note", [sgn x1 y1 z1, sgn x2 y2 z2, .str t], [115, 115, 116], ["sign", "sign", "text"], by simp [F_law_act, runF, b_law_act, atI, ixN, d1, e1, e2, e3, e4], rfl, by decide +kernel, rfl, ?_, ?_, fun d h z => ?_, by simp [F_law_parts, runF, b_law_parts, atI, ixN], .cons wr_sign (.cons wr_sign (.cons wr_text (.nil))), by decide +kernel, by decide +kernel, by simp⟩
  · simp only [allP, Bool.and_true]; rw [show partOk 115 (sgn x1 y1 z1) = true from sm_sign sm1, show partOk 115 (sgn x2 y2 z2) = true from sm_sign sm2, show partOk 116 (.str t) = true from t1]; rfl
  · simp only [okDs, sm_okD sm1, sm_okD sm2, strOf_ok t1, Bool.and_true]
  · cases h; exact fun z => nomatch z
theorem act_4 : ∃ act w ps cs ss, F_law_act [r, .int a, .int 4] = .ok act ∧ IsAct 4 act w ps cs ss := by
  obtain ⟨n, d1, _⟩ := W.draw (a + 20) 3 (by omega) (by decide)
  obtain ⟨wv, e1, w1, w2⟩ := opt_word W a ha n
  obtain ⟨n2, d2, _⟩ := W.draw (a + 3) 3 (by omega) (by decide)
  obtain ⟨bv, e2, l1, l2⟩ := opt_block W a ha n2 (a + 4) (by omega)
  obtain ⟨bx, by', e3, b1⟩ := block_ok W a ha
  refine ⟨_, Str.ofString "block", [PyData.tuple [.int bx, .int by'], bv], [98, 66], ["block", "behind"], by simp [F_law_act, runF, b_law_act, atI, ixN, d1, e1, d2, e2, e3], rfl, by decide +kernel, rfl, ?_, ?_, fun d h z => ?_, by simp [F_law_parts, runF, b_law_parts, atI, ixN], .cons wr_block (.cons wr_behind (.nil)), by decide +kernel, by decide +kernel, by simp⟩
  · simp only [allP, l1, Bool.and_true]; exact b1
  · simp only [okDs, l2, Bool.and_true]; rfl
  · cases h; exact fun z => nomatch z
theorem act_5 : ∃ act w ps cs ss, F_law_act [r, .int a, .int 5] = .ok act ∧ IsAct 5 act w ps cs ss := by
  obtain ⟨n, d1, _⟩ := W.draw (a + 20) 3 (by omega) (by decide)
  obtain ⟨wv, e1, w1, w2⟩ := opt_word W a ha n
  obtain ⟨n2, d2, _⟩ := W.draw (a + 3) 3 (by omega) (by decide)
  obtain ⟨bv, e2, l1, l2⟩ := opt_block W a ha n2 (a + 4) (by omega)
  obtain ⟨bx, by', e3, b1⟩ := block_ok W a ha
  obtain ⟨cx, cy, e4, b2⟩ := block_ok W (a + 7) (by omega)
  refine ⟨_, Str.ofString "move", [PyData.tuple [.int bx, .int by'], PyData.tuple [.int cx, .int cy], bv], [98, 98, 66], ["block", "block", "behind"], by simp [F_law_act, runF, b_law_act, atI, ixN, d1, e1, d2, e2, e3, e4], rfl, by decide +kernel, rfl, ?_, ?_, fun d h z => ?_, by simp [F_law_parts, runF, b_law_parts, atI, ixN], .cons wr_block (.cons wr_block (.cons wr_behind (.nil))), by decide +kernel, by decide +kernel, by simp⟩
  · simp only [allP, l1, Bool.and_true]; rw [show partOk 98 (.tuple [.int bx, .int by']) = true from b1, show partOk 98 (.tuple [.int cx, .int cy]) = true from b2]; rfl
  · simp only [okDs, l2, Bool.and_true]; rfl
  · cases h; exact fun z => nomatch z
theorem act_6 : ∃ act w ps cs ss, F_law_act [r, .int a, .int 6] = .ok act ∧ IsAct 6 act w ps cs ss := by
  obtain ⟨n, d1, _⟩ := W.draw (a + 20) 3 (by omega) (by decide)
  obtain ⟨wv, e1, w1, w2⟩ := opt_word W a ha n
  obtain ⟨n2, d2, _⟩ := W.draw (a + 3) 3 (by omega) (by decide)
  obtain ⟨bv, e2, l1, l2⟩ := opt_block W a ha n2 (a + 4) (by omega)
  obtain ⟨bx, by', e3, b1⟩ := block_ok W a ha
  refine ⟨_, Str.ofString "drop", [PyData.tuple [.int bx, .int by']], [98], ["block"], by simp [F_law_act, runF, b_law_act, atI, ixN, d1, e1, d2, e2, e3], rfl, by decide +kernel, rfl, ?_, ?_, fun d h z => ?_, by simp [F_law_parts, runF, b_law_parts, atI, ixN], .cons wr_block (.nil), by decide +kernel, by decide +kernel, by simp⟩
  · simp only [allP, Bool.and_true]; exact b1
  · rfl
  · cases h; exact fun z => nomatch z
theorem act_7 : ∃ act w ps cs ss, F_law_act [r, .int a, .int 7] = .ok act ∧ IsAct 7 act w ps cs ss := by
  obtain ⟨n, d1, _⟩ := W.draw (a + 20) 3 (by omega) (by decide)
  obtain ⟨wv, e1, w1, w2⟩ := opt_word W a ha n
  obtain ⟨n2, d2, _⟩ := W.draw (a + 3) 3 (by omega) (by decide)
  obtain ⟨bv, e2, l1, l2⟩ := opt_block W a ha n2 (a + 4) (by omega)
  obtain ⟨t, d3, t0, t3⟩ := W.draw (a + 1) 3 (by omega) (by decide)
  obtain ⟨u, hu, u0, u1⟩ := of3 3 90 996 t t0 t3 (by decide) (by decide) (by decide)
  obtain ⟨m, d4, m0, _⟩ := W.draw a u ha u0
  have i0 : atI [PyData.str (Str.ofString "undo"), .str (Str.ofString "redo")] 0 = some (.str (Str.ofString "undo")) := rfl
  have i1 : atI [PyData.str (Str.ofString "undo"), .str (Str.ofString "redo")] 1 = some (.str (Str.ofString "redo")) := rfl
  refine ⟨_, Str.ofString "undo", [.int (1 + m)], [110], ["number"], by simp [F_law_act, runF, b_law_act, i0, i1, d1, e1, d2, e2, d3, hu, d4], rfl, by decide +kernel, rfl, ?_, ?_, fun d h z => ?_, by simp [F_law_parts, runF, b_law_parts, atI, ixN], .cons wr_number (.nil), by decide +kernel, by decide +kernel, by simp⟩
  · simp only [allP, Bool.and_true]; show decide (1 ≤ 1 + m) = true; simp; omega
  · rfl
  · cases h; exact fun z => nomatch z
theorem act_8 : ∃ act w ps cs ss, F_law_act [r, .int a, .int 8] = .ok act ∧ IsAct 8 act w ps cs ss := by
  obtain ⟨n, d1, _⟩ := W.draw (a + 20) 3 (by omega) (by decide)
  obtain ⟨wv, e1, w1, w2⟩ := opt_word W a ha n
  obtain ⟨n2, d2, _⟩ := W.draw (a + 3) 3 (by omega) (by decide)
  obtain ⟨bv, e2, l1, l2⟩ := opt_block W a ha n2 (a + 4) (by omega)
  obtain ⟨t, d3, t0, t3⟩ := W.draw (a + 1) 3 (by omega) (by decide)
  obtain ⟨u, hu, u0, u1⟩ := of3 3 90 996 t t0 t3 (by decide) (by decide) (by decide)
  obtain ⟨m, d4, m0, _⟩ := W.draw a u ha u0
  have i0 : atI [PyData.str (Str.ofString "undo"), .str (Str.ofString "redo")] 0 = some (.str (Str.ofString "undo")) := rfl
  have i1 : atI [PyData.str (Str.ofString "undo"), .str (Str.ofString "redo")] 1 = some (.str (Str.ofString "redo")) := rfl
  refine ⟨_, Str.ofString "redo", [.int (1 + m)], [110], ["number"], by simp [F_law_act, runF, b_law_act, i0, i1, d1, e1, d2, e2, d3, hu, d4], rfl, by decide +kernel, rfl, ?_, ?_, fun d h z => ?_, by simp [F_law_parts, runF, b_law_parts, atI, ixN], .cons wr_number (.nil), by decide +kernel, by decide +kernel, by simp⟩
  · simp only [allP, Bool.and_true]; show decide (1 ≤ 1 + m) = true; simp; omega
  · rfl
  · cases h; exact fun z => nomatch z
theorem act_9 : ∃ act w ps cs ss, F_law_act [r, .int a, .int 9] = .ok act ∧ IsAct 9 act w ps cs ss := by
  obtain ⟨n, d1, _⟩ := W.draw (a + 20) 3 (by omega) (by decide)
  obtain ⟨wv, e1, w1, w2⟩ := opt_word W a ha n
  obtain ⟨n2, d2, _⟩ := W.draw (a + 3) 3 (by omega) (by decide)
  obtain ⟨bv, e2, l1, l2⟩ := opt_block W a ha n2 (a + 4) (by omega)
  obtain ⟨m, d3, m0, m3⟩ := W.draw a 3 ha (by decide)
  refine ⟨_, Str.ofString "bar", [.int (2 + m)], [104], ["hand"], by simp [F_law_act, runF, b_law_act, atI, ixN, d1, e1, d2, e2, d3], rfl, by decide +kernel, rfl, ?_, ?_, fun d h z => ?_, by simp [F_law_parts, runF, b_law_parts, atI, ixN], .cons wr_hand (.nil), by decide +kernel, by decide +kernel, by simp⟩
  · simp only [allP, Bool.and_true]; show ((decide (1 ≤ 2 + m) && decide (2 + m ≤ 4)) && !((2 + m) == 1)) = true; simp; omega
  · rfl
  · cases h; exact fun z => nomatch z
theorem act_10 : ∃ act w ps cs ss, F_law_act [r, .int a, .int 10] = .ok act ∧ IsAct 10 act w ps cs ss := by
  obtain ⟨n, d1, _⟩ := W.draw (a + 20) 3 (by omega) (by decide)
  obtain ⟨wv, e1, w1, w2⟩ := opt_word W a ha n
  obtain ⟨n2, d2, _⟩ := W.draw (a + 3) 3 (by omega) (by decide)
  obtain ⟨bv, e2, l1, l2⟩ := opt_block W a ha n2 (a + 4) (by omega)
  obtain ⟨m, d3, m0, m3⟩ := W.draw a 3 ha (by decide)
  refine ⟨_, Str.ofString "let", [.int (2 + m)], [104], ["hand"], by simp [F_law_act, runF, b_law_act, atI, ixN, d1, e1, d2, e2, d3], rfl, by decide +kernel, rfl, ?_, ?_, fun d h z => ?_, by simp [F_law_parts, runF, b_law_parts, atI, ixN], .cons wr_hand (.nil), by decide +kernel, by decide +kernel, by simp⟩
  · simp only [allP, Bool.and_true]; show ((decide (1 ≤ 2 + m) && decide (2 + m ≤ 4)) && !((2 + m) == 1)) = true; simp; omega
  · rfl
  · cases h; exact fun z => nomatch z
theorem act_11 : ∃ act w ps cs ss, F_law_act [r, .int a, .int 11] = .ok act ∧ IsAct 11 act w ps cs ss := by
  obtain ⟨n, d1, _⟩ := W.draw (a + 20) 3 (by omega) (by decide)
  obtain ⟨wv, e1, w1, w2⟩ := opt_word W a ha n
  obtain ⟨n2, d2, _⟩ := W.draw (a + 3) 3 (by omega) (by decide)
  obtain ⟨bv, e2, l1, l2⟩ := opt_block W a ha n2 (a + 4) (by omega)
  refine ⟨_, Str.ofString "settle", [], [], [], by simp [F_law_act, runF, b_law_act, atI, ixN, d1, e1, d2, e2], rfl, by decide +kernel, rfl, ?_, ?_, fun d h z => ?_, by simp [F_law_parts, runF, b_law_parts, atI, ixN], .nil, by decide +kernel, by decide +kernel, by simp⟩
  · rfl
  · rfl
  · cases h
theorem act_12 : ∃ act w ps cs ss, F_law_act [r, .int a, .int 12] = .ok act ∧ IsAct 12 act w ps cs ss := by
  obtain ⟨n, d1, _⟩ := W.draw (a + 20) 3 (by omega) (by decide)
  obtain ⟨wv, e1, w1, w2⟩ := opt_word W a ha n
  obtain ⟨n2, d2, _⟩ := W.draw (a + 3) 3 (by omega) (by decide)
  obtain ⟨bv, e2, l1, l2⟩ := opt_block W a ha n2 (a + 4) (by omega)
  refine ⟨_, Str.ofString "say", [], [], [], by simp [F_law_act, runF, b_law_act, atI, ixN, d1, e1, d2, e2], rfl, by decide +kernel, rfl, ?_, ?_, fun d h z => ?_, by simp [F_law_parts, runF, b_law_parts, atI, ixN], .nil, by decide +kernel, by decide +kernel, by simp⟩
  · rfl
  · rfl
  · cases h
end
end K03

namespace K03
open PySem PySem.Spec PyProof.Rows L2 Dn

theorem okDs_app : ∀ {a b : List D}, okDs a = true → okDs b = true → okDs (a ++ b) = true
  | [], _, _, h => h
  | x :: a, b, h, h' => by
    simp only [okDs, Bool.and_eq_true] at h
    simp only [List.cons_append, okDs, h.1, okDs_app h.2 h', Bool.and_self]
theorem okDs_take : ∀ (n : Nat) {a : List D}, okDs a = true → okDs (a.take n) = true
  | 0, _, _ => rfl
  | _ + 1, [], _ => rfl
  | n + 1, x :: a, h => by
    simp only [okDs, Bool.and_eq_true] at h
    simp only [List.take_succ_cons, okDs, h.1, okDs_take n h.2, Bool.and_self]
theorem okDs_drop : ∀ (n : Nat) {a : List D}, okDs a = true → okDs (a.drop n) = true
  | 0, _, h => h
  | _ + 1, [], _ => rfl
  | n + 1, x :: a, h => by
    simp only [okDs, Bool.and_eq_true] at h
    exact okDs_drop n h.2
theorem ok_tup {l : List D} (h : okDs l = true) (hl : l.length ≤ 100000) : okD (.tuple l) = true := by
  simp only [okD, h, Bool.and_true, decide_eq_true_eq]
  exact hl
theorem ok_str {z : Str} (h : z.length ≤ 100000) : okD (.str z) = true := by simpa [okD] using h
def Bad (x : D) : Prop := okD x = true ∧ actOk x = false
theorem act_not {w : Str} {ps : List D} {cs : List Nat} (h : klook K_PARTS w = some (.str ⟨cs.toArray⟩)) (hl : ps.length ≠ cs.length) : actOk (.tuple (.str w :: ps)) = false := by
  have : ¬ ps.length = (⟨cs.toArray⟩ : Str).length := by
    show ¬ ps.length = cs.toArray.size
    simpa using hl
  simp [actOk, h, this]
theorem act_none {w : Str} {ps : List D} (h : klook K_PARTS w = none) : actOk (.tuple (.str w :: ps)) = false := by
  simp [actOk, h]
theorem act_all {w : Str} {ps : List D} {cs : List Nat} (h : klook K_PARTS w = some (.str ⟨cs.toArray⟩)) (hl : ps.length = cs.length) : actOk (.tuple (.str w :: ps)) = allP cs ps := by
  have : ps.length = (⟨cs.toArray⟩ : Str).length := by
    show ps.length = cs.toArray.size
    simpa using hl
  simp [actOk, h, this, all_tp]
def first14 (at' : Int) (w : Str) (ps : List D) : List D := [.list (.str w :: ps), .tuple (.str w :: (ps ++ [.int 0])), .tuple ((.str w :: ps).take ps.length), .tuple [.tuple (.str w :: ps)], .tuple ps, .tuple (.str (Str.ofString "Say") :: ps),
  .tuple (.str (w ++ Str.ofString " ") :: ps), .tuple (.none :: ps), .str w, .none, .bool true, .int at', .tuple (.str w :: (ps ++ .str w :: ps)), .tuple [.str (Str.ofString "says")]]
section
variable {k : Int} {act : D} {w : Str} {ps : List D} {cs : List Nat} {ss : List String} (A : IsAct k act w ps cs ss)
include A
theorem act_okD : okD act = true := by
  have := A.few
  have h := A.short
  rw [A.eq]
  refine ok_tup ?_ (by simp; omega)
  simp only [okDs, A.ok, Bool.and_true]
  exact ok_str (by omega)
theorem act_true : actOk act = true := by
  rw [A.eq, act_all (look_of A.look) A.len, A.all]
theorem bad14 (a : Int) : ∀ x ∈ first14 a w ps, Bad x := by
  have hf := A.few
  have hs := A.short
  have hw : okD (.str w) = true := ok_str (by omega)
  have hwp : okDs (.str w :: ps) = true := by simp only [okDs, hw, A.ok, Bool.and_self]
  have lk := look_of A.look
  intro x hx
  unfold first14 at hx
  simp only [List.mem_cons, List.not_mem_nil, or_false] at hx
  rcases hx with h | h | h | h | h | h | h | h | h | h | h | h | h | h <;> subst h
  · exact ⟨by simp only [okD, hwp, Bool.and_true, decide_eq_true_eq, List.length_cons]; omega, rfl⟩
  · refine ⟨ok_tup (by simp only [okDs, hw, okDs_app A.ok (show okDs [.int 0] = true from rfl), Bool.and_self]) (by simp; omega), act_not lk ?_⟩
    have := A.len
    simp; omega
  · refine ⟨ok_tup (okDs_take _ hwp) (by simp; omega), ?_⟩
    cases ps with
    | nil => rfl
    | cons p ps =>
      have := A.len
      simp only [List.length_cons, List.take_succ_cons]
      refine act_not lk ?_
      simp at this ⊢
      omega
  · exact ⟨ok_tup (by simp only [okDs, ok_tup hwp (by simp; omega), Bool.and_self]) (by simp), rfl⟩
  · refine ⟨ok_tup A.ok (by omega), ?_⟩
    cases ps with
    | nil => rfl
    | cons p ps =>
      have := A.first p rfl
      cases p <;> first | rfl | exact absurd rfl (this _)
  · exact ⟨ok_tup (by simp only [okDs, A.ok, Bool.and_true]; exact ok_str (by decide +kernel)) (by simp; omega), act_none (by
      have : (klook K_PARTS (Str.ofString "Say")).isNone = true := by decide +kernel
      simpa using this)⟩
  · refine ⟨ok_tup (by
      simp only [okDs, A.ok, Bool.and_true]
      refine ok_str ?_
      show (w.cps ++ (Str.ofString " ").cps).size ≤ 100000
      have : (Str.ofString " ").cps.size = 1 := by decide +kernel
      rw [Array.size_append, this]
      have : w.cps.size ≤ 8 := hs
      omega) (by simp; omega), act_none (by simpa using A.blank)⟩
  · exact ⟨ok_tup (by simp only [okDs, A.ok, okD, Bool.and_self]) (by simp; omega), rfl⟩
  · exact ⟨hw, rfl⟩
  · exact ⟨rfl, rfl⟩
  · exact ⟨rfl, rfl⟩
  · exact ⟨rfl, rfl⟩
  · refine ⟨ok_tup (by simp only [okDs, hw, okDs_app A.ok hwp, Bool.and_self]) (by simp; omega), act_not lk ?_⟩
    have := A.len
    simp; omega
  · exact ⟨ok_tup (by simp only [okDs, Bool.and_true]; exact ok_str (by decide +kernel)) (by simp), act_none (by
      have : (klook K_PARTS (Str.ofString "says")).isNone = true := by decide +kernel
      simpa using this)⟩
theorem bad_set {i : Nat} {s : String} {d : D} (hs : ss[i]? = some s) (hd : okD d = true) (hp : ∀ c, cs[i]? = some c → partOk c d = false) : Bad (.tuple (.str w :: (ps.take i ++ d :: ps.drop (i + 1)))) := by
  have hf := A.few
  have hsh := A.short
  have hw : okD (.str w) = true := ok_str (by omega)
  obtain ⟨c, hc, _⟩ := A.fit.get hs
  have hi : i < ps.length := by
    rw [A.len]
    exact (List.getElem?_eq_some_iff.mp hc).1
  have hl : (ps.take i ++ d :: ps.drop (i + 1)).length = ps.length := by simp; omega
  refine ⟨ok_tup ?_ (by simp; omega), ?_⟩
  · simp only [okDs, hw, Bool.true_and]
    exact okDs_app (okDs_take _ A.ok) (by simp only [okDs, hd, okDs_drop _ A.ok, Bool.and_self])
  · rw [act_all (look_of A.look) (by rw [hl, A.len])]
    exact allP_set hc (hp c hc) hi
theorem acts_wrong_ok {r : D} (W : Row r) (a : Int) (ha : 0 ≤ a) : ∃ L, F_law_acts_wrong [r, .int a, act, .int k] = .ok (.list L) ∧ (∀ x ∈ L, Bad x) := by
  have hf := A.few
  have hfit := A.fit.len
  have hlen := A.len
  obtain ⟨PL, hP⟩ : ∃ PL, PL = ss.map fun s => PyData.str (Str.ofString s) := ⟨_, rfl⟩
  have hPl : PL.length = ps.length := by rw [hP, List.length_map, hfit, hlen]
  have inner : ∀ (i : Nat) (L : List D), i < PL.length → (∀ x ∈ L, Bad x) → L.length ≤ 1000 → ∃ L', forGo (gN 7) l_law_acts_wrong_1 [7] (rngD 0 3) [.dat r, .dat (.int a), .dat act, .dat (.int k), .own L, .dat (.list PL), .dat (.int (i : Nat)), .no] = .ok (.nx [.dat r, .dat (.int a), .dat act, .dat (.int k), .own L', .dat (.list PL), .dat (.int (i : Nat)), .no]) ∧ (∀ x ∈ L', Bad x) ∧ L'.length ≤ L.length + 3 := by
    intro i L hi hB hL
    have G := forGo_inv (tg := gN 7) (b := l_law_acts_wrong_1) (fs := [7]) (ds := rngD 0 3) (δ := [.dat r, .dat (.int a), .dat act, .dat (.int k), .own L, .dat (.list PL), .dat (.int (i : Nat)), .no])
      (fun j δ => ∃ L', δ = [.dat r, .dat (.int a), .dat act, .dat (.int k), .own L', .dat (.list PL), .dat (.int (i : Nat)), .no] ∧ (∀ x ∈ L', Bad x) ∧ L'.length ≤ L.length + j ∧ j ≤ 3) ⟨L, rfl, hB, by omega, by decide⟩ fun j d δ hd ⟨L', e, hB', hL', hj⟩ => by
        subst e
        obtain ⟨h3, rfl⟩ := rngD_mem hd
        obtain ⟨s, hs⟩ : ∃ s, ss[i]? = some s := ⟨ss[i]'(by rw [hP, List.length_map] at hi; exact hi), List.getElem?_eq_getElem _⟩
        obtain ⟨c, hc, hw⟩ := A.fit.get hs
        obtain ⟨m, d1, m0, m1⟩ := W.draw (a + 3 * (i : Nat) + (j : Nat)) 840 (by omega) (by decide)
        obtain ⟨x, e1, x1, x2⟩ := wr_of hw m m0 m1
        have ix : atI PL (i : Nat) = some (.str (Str.ofString s)) := atI_nat (by rw [hP, List.getElem?_map, hs]; rfl)
        have c1 : Dn.cutD (.str w :: ps) none (some ((i : Int) + 1)) = .str w :: ps.take i := by
          have := cut_to (.str w :: ps) (i + 1)
          rw [show ((i + 1 : Nat) : Int) = (i : Int) + 1 from rfl] at this
          rw [this]
          rfl
        have c2 : Dn.cutD (.str w :: ps) (some ((i : Int) + 2)) none = ps.drop (i + 1) := by
          have := cut_from (.str w :: ps) (i + 2)
          rw [show ((i + 2 : Nat) : Int) = (i : Int) + 2 from rfl] at this
          rw [this]
          rfl
        have m3 : ∀ q : Int, cMul 3 q = true := fun q => mul_l (by decide) (by decide)
        have g1 : (ps.take i).length + 1 + 1 ≤ 100000 := by simp; omega
        have g2 : (ps.take i).length + 1 + (ps.drop (i + 1)).length + 1 ≤ 100000 := by simp; omega
        have g3 : min i ps.length + 1 + 1 ≤ 100000 := by omega
        have g4 : min i ps.length + 1 + 1 + (ps.length - (i + 1)) ≤ 100000 := by omega
        have g5 : L'.length < 100000 := by omega
        have bs : Bad (.tuple (.str w :: (ps.take i ++ x :: ps.drop (i + 1)))) := bad_set A hs x1 fun c' h' => by
          rw [hc] at h'
          cases h'
          exact x2
        refine ⟨_, [.dat r, .dat (.int a), .dat act, .dat (.int k), .own (L' ++ [.tuple (.str w :: (ps.take i ++ x :: ps.drop (i + 1)))]), .dat (.list PL), .dat (.int (i : Nat)), .dat (.int (0 + (j : Nat)))], rfl, .inl ?_, _, rfl, fun y hy => ?_, by simp; omega, by omega⟩
        · rw [A.eq]
          simp [l_law_acts_wrong_1, m3, d1, ix, e1, c1, c2, g1, g2, g3, g4, g5]
        · rcases List.mem_append.mp hy with q | q
          · exact hB' y q
          · cases (show y = _ by simpa using q)
            exact bs
    obtain ⟨δ', h1, L', rfl, h2, h3, _⟩ := G
    rw [rngD_len] at h3
    exact ⟨L', h1, h2, h3⟩
  have outer := forGo_inv (tg := gN 6) (b := l_law_acts_wrong_2) (fs := [6, 7]) (ds := rngD 0 PL.length) (δ := [.dat r, .dat (.int a), .dat act, .dat (.int k), .own (first14 a w ps), .dat (.list PL), .no, .no])
    (fun i δ => ∃ L, δ = [.dat r, .dat (.int a), .dat act, .dat (.int k), .own L, .dat (.list PL), .no, .no] ∧ (∀ x ∈ L, Bad x) ∧ L.length ≤ 14 + 3 * i) ⟨_, rfl, bad14 A a, by simp [first14]⟩ fun i d δ hd ⟨L, e, hB, hL⟩ => by
      subst e
      obtain ⟨hi, rfl⟩ := rngD_mem hd
      obtain ⟨L', h1, h2, h3⟩ := inner i L hi hB (by omega)
      have h3' : (rngD 0 (3 : Int).toNat) = rngD 0 3 := rfl
      refine ⟨_, [.dat r, .dat (.int a), .dat act, .dat (.int k), .own L', .dat (.list PL), .dat (.int (i : Nat)), .no], rfl, .inl ?_, L', rfl, h2, by omega⟩
      simp [l_law_acts_wrong_2, h3']
      rw [h1]
  obtain ⟨δ', h1, L, rfl, h2, h3⟩ := outer
  refine ⟨L, ?_, h2⟩
  have hb : (PL.length : Int).natAbs ≤ 100000 := by omega
  have t0 : Dn.cutD (.str w :: ps) none (some (ps.length : Nat)) = (.str w :: ps).take ps.length := cut_to _ _
  have t1 : Dn.cutD (.str w :: ps) (some 1) none = ps := cut_from (.str w :: ps) 1
  have hparts := A.parts
  rw [← hP] at hparts
  have g1 : ps.length + 1 ≤ 100000 := by omega
  have g2 : ps.length + 1 + 1 ≤ 100000 := by omega
  have g3 : ps.length + 1 + (ps.length + 1) ≤ 100000 := by omega
  have g4 : 1 + ps.length ≤ 100000 := by omega
  have g5 : w.length + (Str.ofString " ").length ≤ 100000 := by
    have : (Str.ofString " ").length = 1 := by decide +kernel
    have := A.short
    omega
  have hbP : PL.length ≤ 100000 := by omega
  rw [A.eq] at h1 ⊢
  unfold first14 at h1
  simp [F_law_acts_wrong, runF, b_law_acts_wrong, t0, t1, hparts, g1, g2, g3, g4, g5, atI, ixN, hb, hbP, h1, Dn.P.catN, asLt]
end
end K03

namespace K03
open PySem PySem.Spec PyProof.Rows L2 Dn

def dd (h n a b c d : Int) (act : D) : D := .tuple [.int h, .int n, .tuple [.int a, .int b, .int c, .int d], act]
/-- the number of a hand in a clock -/
def at4 (h a b c d : Int) : Int := if h = 1 then a else if h = 2 then b else if h = 3 then c else d
structure DeedN (h n a b c d : Int) : Prop where
  h1 : 1 ≤ h
  h4 : h ≤ 4
  n1 : 1 ≤ n
  a0 : 0 ≤ a
  b0 : 0 ≤ b
  c0 : 0 ≤ c
  d0 : 0 ≤ d
  seen : at4 h a b c d = n - 1
theorem deed_made {r : D} (W : Row r) (t : Int) (ht : 0 ≤ t) (act : D) : ∃ h n a b c d, F_law_deed [r, .int t, act] = .ok (dd h n a b c d act) ∧ DeedN h n a b c d := by
  obtain ⟨x, e1, x0, x4⟩ := W.draw t 4 ht (by decide)
  obtain ⟨y, e2, y0, y3⟩ := W.draw (t + 1) 3 (by omega) (by decide)
  obtain ⟨m, e3, m0, m1⟩ := of3 4 90 997 y y0 y3 (by decide) (by decide) (by decide)
  obtain ⟨z, e4, z0, _⟩ := W.draw (t + 2) m (by omega) m0
  obtain ⟨s0, f0, g0, _⟩ := W.draw (t + 3) m (by omega) m0
  obtain ⟨s1, f1, g1, _⟩ := W.draw (t + 3 + 1) m (by omega) m0
  obtain ⟨s2, f2, g2, _⟩ := W.draw (t + 3 + 2) m (by omega) m0
  obtain ⟨s3, f3, g3, _⟩ := W.draw (t + 3 + 3) m (by omega) m0
  have r4 : rngD 0 4 = [.int 0, .int 1, .int 2, .int 3] := rfl
  have z1 : 1 + z - 1 = z := by omega
  have hx : x = 0 ∨ x = 1 ∨ x = 2 ∨ x = 3 := by omega
  rcases hx with hx | hx | hx | hx <;> subst hx
  · exact ⟨1, 1 + z, z, s1, s2, s3, by simp [F_law_deed, runF, b_law_deed, e1, e2, e3, e4, e_law_deed_1, r4, f0, f1, f2, f3, dSetI, ixN, dd, z1], ⟨by omega, by omega, by omega, z0, g1, g2, g3, by simp [at4]; omega⟩⟩
  · exact ⟨2, 1 + z, s0, z, s2, s3, by simp [F_law_deed, runF, b_law_deed, e1, e2, e3, e4, e_law_deed_1, r4, f0, f1, f2, f3, dSetI, ixN, dd, z1], ⟨by omega, by omega, by omega, g0, z0, g2, g3, by simp [at4]; omega⟩⟩
  · exact ⟨3, 1 + z, s0, s1, z, s3, by simp [F_law_deed, runF, b_law_deed, e1, e2, e3, e4, e_law_deed_1, r4, f0, f1, f2, f3, dSetI, ixN, dd, z1], ⟨by omega, by omega, by omega, g0, g1, z0, g3, by simp [at4]; omega⟩⟩
  · exact ⟨4, 1 + z, s0, s1, s2, z, by simp [F_law_deed, runF, b_law_deed, e1, e2, e3, e4, e_law_deed_1, r4, f0, f1, f2, f3, dSetI, ixN, dd, z1], ⟨by omega, by omega, by omega, g0, g1, g2, z0, by simp [at4]; omega⟩⟩
theorem dd_ok {h n a b c d : Int} {act : D} (ha : okD act = true) : okD (dd h n a b c d act) = true := by
  simp [dd, okD, okDs, ha]
theorem dd_deed {h n a b c d : Int} (N : DeedN h n a b c d) (act : D) : deedOk (dd h n a b c d act) = actOk act := by
  obtain ⟨h1, h4, n1, a0, b0, c0, d0, s⟩ := N
  have hs : seenOk (.int h) (.int n) (.tuple [.int a, .int b, .int c, .int d]) = true := by
    have : h = 1 ∨ h = 2 ∨ h = 3 ∨ h = 4 := by omega
    rcases this with q | q | q | q <;> subst q <;> simp [at4] at s <;> subst s <;> simp [seenOk, atI, ixN]
  simp [dd, deedOk, isHand, isNum, isClock, h1, h4, n1, a0, b0, c0, d0, hs]
theorem dd_act {h n a b c d : Int} {act : D} : actOk (dd h n a b c d act) = false := rfl
theorem act_deed (w : Str) (ps : List D) : deedOk (.tuple (.str w :: ps)) = false := by
  match ps with
  | [] => rfl
  | [_] => rfl
  | [_, _] => rfl
  | [_, _, _] => rfl
  | _ :: _ :: _ :: _ :: _ => rfl
def BadD (x : D) : Prop := okD x = true ∧ deedOk x = false
theorem cut3 (a b c d : D) : Dn.cutD [a, b, c, d] none (some 3) = [a, b, c] := rfl
theorem deeds_wrong_ok {h n a b c d k : Int} (N : DeedN h n a b c d) (k0 : 0 ≤ k) (k4 : k < 4) (w : Str) (ps : List D) (hk : okD (.tuple (.str w :: ps)) = true) :
    ∃ L, F_law_deeds_wrong [dd h n a b c d (.tuple (.str w :: ps)), .int k] = .ok (.list L) ∧ ∀ x ∈ L, BadD x := by
  obtain ⟨h1, h4, n1, a0, b0, c0, d0, s⟩ := N
  have r4 : rngD 0 4 = [.int 0, .int 1, .int 2, .int 3] := rfl
  have hl : ps.length + 1 ≤ 100000 := by
    simp only [okD, Bool.and_eq_true, decide_eq_true_eq, List.length_cons] at hk
    exact hk.1
  have hks := hk
  simp only [okD, Bool.and_eq_true, decide_eq_true_eq] at hks
  obtain ⟨hk1, hk2⟩ := hks
  have hk3 : okD (.str w) = true := by
    simp only [okDs, Bool.and_eq_true] at hk2
    exact hk2.1
  have hk5 : w.length ≤ 100000 := by simpa [okD] using hk3
  have hk6 : okDs ps = true := by
    simp only [okDs, Bool.and_eq_true] at hk2
    exact hk2.2
  have hk4 : okD (.list (.str w :: ps)) = true := by simp only [okD, hk2, Bool.and_true, decide_eq_true_eq]; exact hk1
  have l1 : Nat.log2 1 < 1920 := by decide
  have l2 : Nat.log2 2 < 1920 := by decide
  have l3 : Nat.log2 3 < 1920 := by decide
  have l4 : Nat.log2 4 < 1920 := by decide
  have t1 : (Str.ofString (Int.repr 1)).length ≤ 100000 := by decide +kernel
  have t2 : (Str.ofString (Int.repr 2)).length ≤ 100000 := by decide +kernel
  have t3 : (Str.ofString (Int.repr 3)).length ≤ 100000 := by decide +kernel
  have t4 : (Str.ofString (Int.repr 4)).length ≤ 100000 := by decide +kernel
  have nn : ¬ n + 1 ≤ 0 := by omega
  have hh : h = 1 ∨ h = 2 ∨ h = 3 ∨ h = 4 := by omega
  have kk : k = 0 ∨ k = 1 ∨ k = 2 ∨ k = 3 := by omega
  rcases hh with q | q | q | q <;> subst q <;> simp [at4] at s <;> subst s <;> rcases kk with q | q | q | q <;> subst q <;>
    (refine ⟨_, by simp [F_law_deeds_wrong, runF, b_law_deeds_wrong, dd, r4, Dn.P.catN, asLt, atI, ixN, e_law_deeds_wrong_1, e_law_deeds_wrong_2, e_law_deeds_wrong_3, cut3, l1, l2, l3, l4] <;> rfl, fun x hx => ?_⟩
     simp only [List.mem_cons, List.mem_append, List.not_mem_nil, or_false, or_assoc] at hx
     repeat (first
       | (rcases hx with hx | hx
          · subst hx
            exact ⟨by simp [okD, okDs, hk5, hk6, hl, t1, t2, t3, t4] <;> omega, by simp [deedOk, isHand, isNum, isClock, seenOk, atI, ixN, actOk] <;> omega⟩)
       | (subst hx
          exact ⟨by simp [okD, okDs, hk5, hk6, hl, t1, t2, t3, t4] <;> omega, by simp [deedOk, isHand, isNum, isClock, seenOk, atI, ixN, actOk] <;> omega⟩)))
end K03

namespace K03
open PySem PySem.Spec PyProof.Rows L2 Dn

theorem act_ok {r : D} (W : Row r) (a : Int) (ha : 0 ≤ a) (k : Int) (k0 : 0 ≤ k) (k1 : k < 13) : ∃ act w ps cs ss, F_law_act [r, .int a, .int k] = .ok act ∧ IsAct k act w ps cs ss := by
  have : k = 0 ∨ k = 1 ∨ k = 2 ∨ k = 3 ∨ k = 4 ∨ k = 5 ∨ k = 6 ∨ k = 7 ∨ k = 8 ∨ k = 9 ∨ k = 10 ∨ k = 11 ∨ k = 12 := by omega
  rcases this with q | q | q | q | q | q | q | q | q | q | q | q | q <;> subst q
  · exact act_0 W a ha
  · exact act_1 W a ha
  · exact act_2 W a ha
  · exact act_3 W a ha
  · exact act_4 W a ha
  · exact act_5 W a ha
  · exact act_6 W a ha
  · exact act_7 W a ha
  · exact act_8 W a ha
  · exact act_9 W a ha
  · exact act_10 W a ha
  · exact act_11 W a ha
  · exact act_12 W a ha
theorem so_bool (a b : Bool) : F_law_so [.bool a, .bool b] = .ok (.bool (a == b)) := by
  simp [F_law_so, Fn_law_so, runF, b_law_so, P.isN]
theorem so_int1 (n : Nat) (a b : Int) : Fn_law_so (n + 1) [.int a, .int b] = .ok (.bool (a == b)) := by
  simp [Fn_law_so, runF, b_law_so, P.isN]
theorem so_pair (a b : Int) : F_law_so [.tuple [.int a, .int b], .tuple [.int a, .int b]] = .ok (.bool true) := by
  unfold F_law_so
  rw [show (4 : Nat) = 3 + 1 from rfl]
  unfold Fn_law_so
  simp [runF, b_law_so, l_law_so_1, P.isN, rngD, List.range, List.range.loop, forGo_cons, so_int1, atI, ixN]
theorem id_eq (h n a b c d : Int) (act : D) : F_id_of [dd h n a b c d act] = .ok (.tuple [.int h, .int n]) := by
  simp [F_id_of, runF, b_id_of, dd, atI, ixN]
theorem loop1 (S r t at' kd act : D) (h n a b c d : Int) (N : DeedN h n a b c d) (hact : okD act = true) (L : List D) (hL : ∀ x ∈ L, Bad x) :
    ∃ δ', forGo (gN 7) l_law_1 [7] L [.dat S, .dat r, .dat t, .dat at', .dat kd, .dat act, .dat (dd h n a b c d act), .no] = .ok (.nx δ') ∧ δ' = [.dat S, .dat r, .dat t, .dat at', .dat kd, .dat act, .dat (dd h n a b c d act), .no] :=
  forGo_inv (fun _ δ => δ = [.dat S, .dat r, .dat t, .dat at', .dat kd, .dat act, .dat (dd h n a b c d act), .no]) rfl fun i x δ hx e => by
    subst e
    obtain ⟨x1, x2⟩ := hL x (List.mem_of_getElem? hx)
    have e1 := act_eq x x1
    have e2 := deed_eq (dd h n a b c d x) (dd_ok x1)
    rw [dd_deed N, x2] at e2
    rw [x2] at e1
    refine ⟨_, [.dat S, .dat r, .dat t, .dat at', .dat kd, .dat act, .dat (dd h n a b c d act), .dat x], rfl, .inl ?_, rfl⟩
    have e2' : F_is_deed [.tuple [.int h, .int n, .tuple [.int a, .int b, .int c, .int d], x]] = .ok (.bool false) := e2
    simp [l_law_1, e1, so_bool, dd, atI, ixN, e2']
theorem loop2 (S r t at' kd act dx : D) (L : List D) (hL : ∀ x ∈ L, BadD x) :
    ∃ δ', forGo (gN 7) l_law_2 [7] L [.dat S, .dat r, .dat t, .dat at', .dat kd, .dat act, .dat dx, .no] = .ok (.nx δ') ∧ δ' = [.dat S, .dat r, .dat t, .dat at', .dat kd, .dat act, .dat dx, .no] :=
  forGo_inv (fun _ δ => δ = [.dat S, .dat r, .dat t, .dat at', .dat kd, .dat act, .dat dx, .no]) rfl fun i x δ hx e => by
    subst e
    obtain ⟨x1, x2⟩ := hL x (List.mem_of_getElem? hx)
    have e1 := deed_eq x x1
    rw [x2] at e1
    refine ⟨_, [.dat S, .dat r, .dat t, .dat at', .dat kd, .dat act, .dat dx, .dat x], rfl, .inl ?_, rfl⟩
    simp [l_law_2, e1, so_bool]
theorem turn_ok (S r : D) (W : Row r) (t : Int) (t0 : 0 ≤ t) : ∃ δ', l_law_3 [.dat S, .dat r, .dat (.int t), .no, .no, .no, .no, .no] = .ok (.nx δ') ∧ fgt δ' [2, 3, 4, 5, 6, 7] = [.dat S, .dat r, .no, .no, .no, .no, .no, .no] := by
  obtain ⟨q, d1, q0, q1⟩ := W.draw 5 13 (by decide) (by decide)
  obtain ⟨act, w, ps, cs, ss, e1, A⟩ := act_ok W (43 * t) (by omega) ((q + t) % 13) (by omega) (by omega)
  obtain ⟨h, n, a, b, c, d, e2, N⟩ := deed_made W (43 * t + 31) (by omega) act
  have hok := act_okD A
  have f1 := act_eq act hok
  rw [act_true A] at f1
  have f2 := deed_eq _ (dd_ok (h := h) (n := n) (a := a) (b := b) (c := c) (d := d) hok)
  rw [dd_deed N, act_true A] at f2
  have f3 := act_eq _ (dd_ok (h := h) (n := n) (a := a) (b := b) (c := c) (d := d) hok)
  rw [dd_act] at f3
  have f4 := deed_eq act hok
  have f4' : deedOk act = false := by rw [A.eq]; exact act_deed w ps
  rw [f4'] at f4
  obtain ⟨L1, g1, gB⟩ := acts_wrong_ok A W (43 * t + 7) (by omega)
  obtain ⟨m, d2, m0, m4⟩ := W.draw (43 * t + 9) 4 (by omega) (by decide)
  have hok' := hok
  rw [A.eq] at hok'
  obtain ⟨L2, g2, gD⟩ := deeds_wrong_ok N m0 m4 w ps hok'
  rw [← A.eq] at g2
  obtain ⟨δ1, i1, rfl⟩ := loop1 S r (.int t) (.int (43 * t)) (.int ((q + t) % 13)) act h n a b c d N hok L1 gB
  obtain ⟨δ2, i2, rfl⟩ := loop2 S r (.int t) (.int (43 * t)) (.int ((q + t) % 13)) act (dd h n a b c d act) L2 gD
  have m3 : ∀ x : Int, cMul 43 x = true := fun x => mul_l (by decide) (by decide)
  have ix0 : P.idx (.d (dd h n a b c d act)) (.int 0) = .ok (.int h) := rfl
  have ix1 : P.idx (.d (dd h n a b c d act)) (.int 1) = .ok (.int n) := rfl
  have ids := id_eq h n a b c d act
  have sp := so_pair h n
  refine ⟨[.dat S, .dat r, .dat (.int t), .dat (.int (43 * t)), .dat (.int ((q + t) % 13)), .dat act, .dat (dd h n a b c d act), .no], ?_, rfl⟩
  simp [l_law_3, m3, d1, e1, e2, f1, f2, f3, f4, so_bool, ids, ix0, ix1, sp, g1, i1, d2, g2, i2]
theorem last_ok : F_is_act [.tuple [.str (Str.ofString "move"), .tuple [.int 0, .int 0], .tuple [.int 0, .int 0], .none]] = .ok (.bool true) ∧ F_is_act [.tuple [.str (Str.ofString "drop"), .tuple [.int 0, .int 0]]] = .ok (.bool true) ∧
    F_is_act [.tuple [.str (Str.ofString "block"), .tuple [.int 0, .int 0], .tuple [.int 0, .int 0]]] = .ok (.bool true) := by
  refine ⟨?_, ?_, ?_⟩
  · rw [act_eq _ (by decide +kernel)]
    congr 2
  · rw [act_eq _ (by decide +kernel)]
    congr 2
  · rw [act_eq _ (by decide +kernel)]
    congr 2
theorem law_true (ns : List Int) (hl : ns.length ≤ 63) : F_law [scr (ns.map PyData.int)] = .ok (.bool true) := by
  obtain ⟨row, h1, hr, hrl⟩ := numbers_ok ns hl
  have W := row_ok row hr (by omega)
  have L : ∀ m : Nat, ∃ δ', forGo (gN 2) l_law_3 [2, 3, 4, 5, 6, 7] (rngD 0 m) [.dat (scr (ns.map PyData.int)), .dat (.list (row.map PyData.int)), .no, .no, .no, .no, .no, .no] = .ok (.nx δ') ∧ δ' = [.dat (scr (ns.map PyData.int)), .dat (.list (row.map PyData.int)), .no, .no, .no, .no, .no, .no] := fun m =>
    forGo_inv (fun _ δ => δ = [.dat (scr (ns.map PyData.int)), .dat (.list (row.map PyData.int)), .no, .no, .no, .no, .no, .no]) rfl fun i d δ hd hδ => by
      subst hδ
      obtain ⟨hi, rfl⟩ := rngD_mem hd
      obtain ⟨δ', q1, q2⟩ := turn_ok (scr (ns.map PyData.int)) _ W (0 + (i : Nat)) (by omega)
      exact ⟨_, δ', rfl, .inl q1, q2⟩
  have hlen : (List.map PyData.int row).length = row.length := by simp
  have hb : (2 + if 11 < (row.length : Int) / 6 then 11 else (row.length : Int) / 6).natAbs ≤ LIM := by rw [LIM_eq]; omega
  obtain ⟨δ', q1, rfl⟩ := L (2 + if 11 < (row.length : Int) / 6 then 11 else (row.length : Int) / 6).toNat
  have e2 : dRng P.range1 (dCons (dAdd (dOp (dC (.int 2))) (dOp (dCall1 P.min2 (dCons (dDiv (dLen (dOp (dVar 1))) (dC (.int 6))) (dCons (dC (.int 11)) dNil))))) dNil) [.dat (scr (ns.map PyData.int)), .dat (.list (row.map PyData.int)), .no, .no, .no, .no, .no, .no] = .ok (rngD 0 (2 + if 11 < (row.length : Int) / 6 then 11 else (row.length : Int) / 6).toNat) := by
    rw [LIM_eq] at hb
    simp [hb]
  have e1 : dSet 1 (dCallN 1 F_law_numbers (dCons (dVar 0) dNil)) [.dat (scr (ns.map PyData.int)), .no, .no, .no, .no, .no, .no, .no] = .ok (.nx [.dat (scr (ns.map PyData.int)), .dat (.list (row.map PyData.int)), .no, .no, .no, .no, .no, .no]) := by
    simp [h1]
  unfold F_law b_law runF
  have s0 : List.map SV.dat [scr (ns.map PyData.int)] ++ List.replicate (8 - [scr (ns.map PyData.int)].length) SV.no = [.dat (scr (ns.map PyData.int)), .no, .no, .no, .no, .no, .no, .no] := rfl
  rw [s0, dSeq_ap, e1]
  simp only [R.bind_ok, dSeq_ap, dFor_ap, e2, q1]
  simp [last_ok, so_bool]
end K03

namespace K03
open PySem PySem.Spec PyProof.Rows L2 Dn
theorem all_mk {P : Program} {w : World} {K : PySem.W.Frag} {h : Heap} {mg : Str → Option Value} {fa : Addr} (X : K.In h) (G : h.Ns mainGlobals mg) (hfa : mg (Str.ofString "law") = some (.ref fa))
    {f0 : Addr} {od0 an0 : Option Addr} {sl0 : Array (Option Value)} {oc0 kV0 dc0 pm0 cd0 ct0 : Value}
    {f1 : Addr} {od1 an1 : Option Addr} {sl1 : Array (Option Value)} {oc1 kV1 dc1 pm1 cd1 ct1 : Value}
    {f2 : Addr} {od2 an2 : Option Addr} {sl2 : Array (Option Value)} {oc2 kV2 dc2 pm2 cd2 ct2 : Value}
    {f3 : Addr} {od3 an3 : Option Addr} {sl3 : Array (Option Value)} {oc3 kV3 dc3 pm3 cd3 ct3 : Value}
    {f4 : Addr} {od4 an4 : Option Addr} {sl4 : Array (Option Value)} {oc4 kV4 dc4 pm4 cd4 ct4 : Value}
    {f5 : Addr} {od5 an5 : Option Addr} {sl5 : Array (Option Value)} {oc5 kV5 dc5 pm5 cd5 ct5 : Value}
    {f6 : Addr} {od6 an6 : Option Addr} {sl6 : Array (Option Value)} {oc6 kV6 dc6 pm6 cd6 ct6 : Value}
    {f7 : Addr} {od7 an7 : Option Addr} {sl7 : Array (Option Value)} {oc7 kV7 dc7 pm7 cd7 ct7 : Value}
    {f8 : Addr} {od8 an8 : Option Addr} {sl8 : Array (Option Value)} {oc8 kV8 dc8 pm8 cd8 ct8 : Value}
    {f9 : Addr} {od9 an9 : Option Addr} {sl9 : Array (Option Value)} {oc9 kV9 dc9 pm9 cd9 ct9 : Value}
    {f10 : Addr} {od10 an10 : Option Addr} {sl10 : Array (Option Value)} {oc10 kV10 dc10 pm10 cd10 ct10 : Value}
    {f11 : Addr} {od11 an11 : Option Addr} {sl11 : Array (Option Value)} {oc11 kV11 dc11 pm11 cd11 ct11 : Value}
    {f12 : Addr} {od12 an12 : Option Addr} {sl12 : Array (Option Value)} {oc12 kV12 dc12 pm12 cd12 ct12 : Value}
    {f13 : Addr} {od13 an13 : Option Addr} {sl13 : Array (Option Value)} {oc13 kV13 dc13 pm13 cd13 ct13 : Value}
    {f14 : Addr} {od14 an14 : Option Addr} {sl14 : Array (Option Value)} {oc14 kV14 dc14 pm14 cd14 ct14 : Value}
    {f15 : Addr} {od15 an15 : Option Addr} {sl15 : Array (Option Value)} {oc15 kV15 dc15 pm15 cd15 ct15 : Value}
    {f16 : Addr} {od16 an16 : Option Addr} {sl16 : Array (Option Value)} {oc16 kV16 dc16 pm16 cd16 ct16 : Value}
    {f17 : Addr} {od17 an17 : Option Addr} {sl17 : Array (Option Value)} {oc17 kV17 dc17 pm17 cd17 ct17 : Value}
    {f18 : Addr} {od18 an18 : Option Addr} {sl18 : Array (Option Value)} {oc18 kV18 dc18 pm18 cd18 ct18 : Value}
    {f19 : Addr} {od19 an19 : Option Addr} {sl19 : Array (Option Value)} {oc19 kV19 dc19 pm19 cd19 ct19 : Value}
    {f20 : Addr} {od20 an20 : Option Addr} {sl20 : Array (Option Value)} {oc20 kV20 dc20 pm20 cd20 ct20 : Value}
    {f21 : Addr} {od21 an21 : Option Addr} {sl21 : Array (Option Value)} {oc21 kV21 dc21 pm21 cd21 ct21 : Value}
    {f22 : Addr} {od22 an22 : Option Addr} {sl22 : Array (Option Value)} {oc22 kV22 dc22 pm22 cd22 ct22 : Value}
    {f23 : Addr} {od23 an23 : Option Addr} {sl23 : Array (Option Value)} {oc23 kV23 dc23 pm23 cd23 ct23 : Value}
    {f24 : Addr} {od24 an24 : Option Addr} {sl24 : Array (Option Value)} {oc24 kV24 dc24 pm24 cd24 ct24 : Value}
    {f25 : Addr} {od25 an25 : Option Addr} {sl25 : Array (Option Value)} {oc25 kV25 dc25 pm25 cd25 ct25 : Value}
    {f26 : Addr} {od26 an26 : Option Addr} {sl26 : Array (Option Value)} {oc26 kV26 dc26 pm26 cd26 ct26 : Value}
    {f27 : Addr} {od27 an27 : Option Addr} {sl27 : Array (Option Value)} {oc27 kV27 dc27 pm27 cd27 ct27 : Value}
    {f28 : Addr} {od28 an28 : Option Addr} {sl28 : Array (Option Value)} {oc28 kV28 dc28 pm28 cd28 ct28 : Value}
    {f29 : Addr} {od29 an29 : Option Addr} {sl29 : Array (Option Value)} {oc29 kV29 dc29 pm29 cd29 ct29 : Value}
    {g0 : Addr} {gd0 : Option Addr} {gn0 : Nat} {gs0 : Array (Option Value)} {tk0_0 tk0_1 tk0_2 tk0_3 : Tok}
    {tk1 : Tok}
    {tk2 : Tok}
    {g3 : Addr} {gd3 : Option Addr} {gn3 : Nat} {gs3 : Array (Option Value)} {tk3_0 tk3_1 : Tok}
    {tk4 : Tok}
    {dg0 : Addr} {de0 : Array DictEntry} {dn0 : Nat} {dt0_0 dt0_1 dt0_2 dt0_3 dt0_4 dt0_5 dt0_6 dt0_7 dt0_8 dt0_9 dt0_10 dt0_11 dt0_12 : Tok}
    (a0 : PySem.W.nsIn K mainGlobals (Str.ofString "is_integer") = some (some (.ref f0))) (l0 : K.lookup f0 = some ⟨oc0, od0, .func (PySem.W.fnOf (Str.ofString "is_integer") (Str.ofString "is_integer") (defArgs s_is_integer) (defBody s_is_integer) (defScope s_is_integer) .none kV0 dc0 pm0 an0 cd0 ct0), sl0⟩) (c0 : PySem.W.codeIn K cd0 (Str.ofString "is_integer") = true) (k0 : PySem.W.keepIn K (.ref f0) = true)
    (a1 : PySem.W.nsIn K mainGlobals (Str.ofString "is_number") = some (some (.ref f1))) (l1 : K.lookup f1 = some ⟨oc1, od1, .func (PySem.W.fnOf (Str.ofString "is_number") (Str.ofString "is_number") (defArgs s_is_number) (defBody s_is_number) (defScope s_is_number) .none kV1 dc1 pm1 an1 cd1 ct1), sl1⟩) (c1 : PySem.W.codeIn K cd1 (Str.ofString "is_number") = true) (k1 : PySem.W.keepIn K (.ref f1) = true)
    (a2 : PySem.W.nsIn K mainGlobals (Str.ofString "is_clock") = some (some (.ref f2))) (l2 : K.lookup f2 = some ⟨oc2, od2, .func (PySem.W.fnOf (Str.ofString "is_clock") (Str.ofString "is_clock") (defArgs s_is_clock) (defBody s_is_clock) (defScope s_is_clock) .none kV2 dc2 pm2 an2 cd2 ct2), sl2⟩) (c2 : PySem.W.codeIn K cd2 (Str.ofString "is_clock") = true) (k2 : PySem.W.keepIn K (.ref f2) = true)
    (a3 : PySem.W.nsIn K mainGlobals (Str.ofString "is_hand") = some (some (.ref f3))) (l3 : K.lookup f3 = some ⟨oc3, od3, .func (PySem.W.fnOf (Str.ofString "is_hand") (Str.ofString "is_hand") (defArgs s_is_hand) (defBody s_is_hand) (defScope s_is_hand) .none kV3 dc3 pm3 an3 cd3 ct3), sl3⟩) (c3 : PySem.W.codeIn K cd3 (Str.ofString "is_hand") = true) (k3 : PySem.W.keepIn K (.ref f3) = true)
    (a4 : PySem.W.nsIn K mainGlobals (Str.ofString "is_string_of") = some (some (.ref f4))) (l4 : K.lookup f4 = some ⟨oc4, od4, .func (PySem.W.fnOf (Str.ofString "is_string_of") (Str.ofString "is_string_of") (defArgs s_is_string_of) (defBody s_is_string_of) (defScope s_is_string_of) .none kV4 dc4 pm4 an4 cd4 ct4), sl4⟩) (c4 : PySem.W.codeIn K cd4 (Str.ofString "is_string_of") = true) (k4 : PySem.W.keepIn K (.ref f4) = true)
    (a5 : PySem.W.nsIn K mainGlobals (Str.ofString "is_word") = some (some (.ref f5))) (l5 : K.lookup f5 = some ⟨oc5, od5, .func (PySem.W.fnOf (Str.ofString "is_word") (Str.ofString "is_word") (defArgs s_is_word) (defBody s_is_word) (defScope s_is_word) .none kV5 dc5 pm5 an5 cd5 ct5), sl5⟩) (c5 : PySem.W.codeIn K cd5 (Str.ofString "is_word") = true) (k5 : PySem.W.keepIn K (.ref f5) = true)
    (a6 : PySem.W.nsIn K mainGlobals (Str.ofString "is_text") = some (some (.ref f6))) (l6 : K.lookup f6 = some ⟨oc6, od6, .func (PySem.W.fnOf (Str.ofString "is_text") (Str.ofString "is_text") (defArgs s_is_text) (defBody s_is_text) (defScope s_is_text) .none kV6 dc6 pm6 an6 cd6 ct6), sl6⟩) (c6 : PySem.W.codeIn K cd6 (Str.ofString "is_text") = true) (k6 : PySem.W.keepIn K (.ref f6) = true)
    (a7 : PySem.W.nsIn K mainGlobals (Str.ofString "is_deed_id") = some (some (.ref f7))) (l7 : K.lookup f7 = some ⟨oc7, od7, .func (PySem.W.fnOf (Str.ofString "is_deed_id") (Str.ofString "is_deed_id") (defArgs s_is_deed_id) (defBody s_is_deed_id) (defScope s_is_deed_id) .none kV7 dc7 pm7 an7 cd7 ct7), sl7⟩) (c7 : PySem.W.codeIn K cd7 (Str.ofString "is_deed_id") = true) (k7 : PySem.W.keepIn K (.ref f7) = true)
    (a8 : PySem.W.nsIn K mainGlobals (Str.ofString "is_block_id") = some (some (.ref f8))) (l8 : K.lookup f8 = some ⟨oc8, od8, .func (PySem.W.fnOf (Str.ofString "is_block_id") (Str.ofString "is_block_id") (defArgs s_is_block_id) (defBody s_is_block_id) (defScope s_is_block_id) .none kV8 dc8 pm8 an8 cd8 ct8), sl8⟩) (c8 : PySem.W.codeIn K cd8 (Str.ofString "is_block_id") = true) (k8 : PySem.W.keepIn K (.ref f8) = true)
    (a9 : PySem.W.nsIn K mainGlobals (Str.ofString "is_sign_id") = some (some (.ref f9))) (l9 : K.lookup f9 = some ⟨oc9, od9, .func (PySem.W.fnOf (Str.ofString "is_sign_id") (Str.ofString "is_sign_id") (defArgs s_is_sign_id) (defBody s_is_sign_id) (defScope s_is_sign_id) .none kV9 dc9 pm9 an9 cd9 ct9), sl9⟩) (c9 : PySem.W.codeIn K cd9 (Str.ofString "is_sign_id") = true) (k9 : PySem.W.keepIn K (.ref f9) = true)
    (a10 : PySem.W.nsIn K mainGlobals (Str.ofString "is_erased") = some (some (.ref f10))) (l10 : K.lookup f10 = some ⟨oc10, od10, .func (PySem.W.fnOf (Str.ofString "is_erased") (Str.ofString "is_erased") (defArgs s_is_erased) (defBody s_is_erased) (defScope s_is_erased) .none kV10 dc10 pm10 an10 cd10 ct10), sl10⟩) (c10 : PySem.W.codeIn K cd10 (Str.ofString "is_erased") = true) (k10 : PySem.W.keepIn K (.ref f10) = true)
    (a11 : PySem.W.nsIn K mainGlobals (Str.ofString "is_part") = some (some (.ref f11))) (l11 : K.lookup f11 = some ⟨oc11, od11, .func (PySem.W.fnOf (Str.ofString "is_part") (Str.ofString "is_part") (defArgs s_is_part) (defBody s_is_part) (defScope s_is_part) .none kV11 dc11 pm11 an11 cd11 ct11), sl11⟩) (c11 : PySem.W.codeIn K cd11 (Str.ofString "is_part") = true) (k11 : PySem.W.keepIn K (.ref f11) = true)
    (a12 : PySem.W.nsIn K mainGlobals (Str.ofString "is_act") = some (some (.ref f12))) (l12 : K.lookup f12 = some ⟨oc12, od12, .func (PySem.W.fnOf (Str.ofString "is_act") (Str.ofString "is_act") (defArgs s_is_act) (defBody s_is_act) (defScope s_is_act) .none kV12 dc12 pm12 an12 cd12 ct12), sl12⟩) (c12 : PySem.W.codeIn K cd12 (Str.ofString "is_act") = true) (k12 : PySem.W.keepIn K (.ref f12) = true)
    (a13 : PySem.W.nsIn K mainGlobals (Str.ofString "is_deed") = some (some (.ref f13))) (l13 : K.lookup f13 = some ⟨oc13, od13, .func (PySem.W.fnOf (Str.ofString "is_deed") (Str.ofString "is_deed") (defArgs s_is_deed) (defBody s_is_deed) (defScope s_is_deed) .none kV13 dc13 pm13 an13 cd13 ct13), sl13⟩) (c13 : PySem.W.codeIn K cd13 (Str.ofString "is_deed") = true) (k13 : PySem.W.keepIn K (.ref f13) = true)
    (a14 : PySem.W.nsIn K mainGlobals (Str.ofString "id_of") = some (some (.ref f14))) (l14 : K.lookup f14 = some ⟨oc14, od14, .func (PySem.W.fnOf (Str.ofString "id_of") (Str.ofString "id_of") (defArgs s_id_of) (defBody s_id_of) (defScope s_id_of) .none kV14 dc14 pm14 an14 cd14 ct14), sl14⟩) (c14 : PySem.W.codeIn K cd14 (Str.ofString "id_of") = true) (k14 : PySem.W.keepIn K (.ref f14) = true)
    (a15 : PySem.W.nsIn K mainGlobals (Str.ofString "_law_so") = some (some (.ref f15))) (l15 : K.lookup f15 = some ⟨oc15, od15, .func (PySem.W.fnOf (Str.ofString "_law_so") (Str.ofString "_law_so") (defArgs s_law_so) (defBody s_law_so) (defScope s_law_so) .none kV15 dc15 pm15 an15 cd15 ct15), sl15⟩) (c15 : PySem.W.codeIn K cd15 (Str.ofString "_law_so") = true) (k15 : PySem.W.keepIn K (.ref f15) = true)
    (a16 : PySem.W.nsIn K mainGlobals (Str.ofString "_law_numbers") = some (some (.ref f16))) (l16 : K.lookup f16 = some ⟨oc16, od16, .func (PySem.W.fnOf (Str.ofString "_law_numbers") (Str.ofString "_law_numbers") (defArgs s_law_numbers) (defBody s_law_numbers) (defScope s_law_numbers) .none kV16 dc16 pm16 an16 cd16 ct16), sl16⟩) (c16 : PySem.W.codeIn K cd16 (Str.ofString "_law_numbers") = true) (k16 : PySem.W.keepIn K (.ref f16) = true)
    (a17 : PySem.W.nsIn K mainGlobals (Str.ofString "_law_draw") = some (some (.ref f17))) (l17 : K.lookup f17 = some ⟨oc17, od17, .func (PySem.W.fnOf (Str.ofString "_law_draw") (Str.ofString "_law_draw") (defArgs s_law_draw) (defBody s_law_draw) (defScope s_law_draw) .none kV17 dc17 pm17 an17 cd17 ct17), sl17⟩) (c17 : PySem.W.codeIn K cd17 (Str.ofString "_law_draw") = true) (k17 : PySem.W.keepIn K (.ref f17) = true)
    (a18 : PySem.W.nsIn K mainGlobals (Str.ofString "_law_word") = some (some (.ref f18))) (l18 : K.lookup f18 = some ⟨oc18, od18, .func (PySem.W.fnOf (Str.ofString "_law_word") (Str.ofString "_law_word") (defArgs s_law_word) (defBody s_law_word) (defScope s_law_word) .none kV18 dc18 pm18 an18 cd18 ct18), sl18⟩) (c18 : PySem.W.codeIn K cd18 (Str.ofString "_law_word") = true) (k18 : PySem.W.keepIn K (.ref f18) = true)
    (a19 : PySem.W.nsIn K mainGlobals (Str.ofString "_law_typed") = some (some (.ref f19))) (l19 : K.lookup f19 = some ⟨oc19, od19, .func (PySem.W.fnOf (Str.ofString "_law_typed") (Str.ofString "_law_typed") (defArgs s_law_typed) (defBody s_law_typed) (defScope s_law_typed) .none kV19 dc19 pm19 an19 cd19 ct19), sl19⟩) (c19 : PySem.W.codeIn K cd19 (Str.ofString "_law_typed") = true) (k19 : PySem.W.keepIn K (.ref f19) = true)
    (a20 : PySem.W.nsIn K mainGlobals (Str.ofString "_law_block") = some (some (.ref f20))) (l20 : K.lookup f20 = some ⟨oc20, od20, .func (PySem.W.fnOf (Str.ofString "_law_block") (Str.ofString "_law_block") (defArgs s_law_block) (defBody s_law_block) (defScope s_law_block) .none kV20 dc20 pm20 an20 cd20 ct20), sl20⟩) (c20 : PySem.W.codeIn K cd20 (Str.ofString "_law_block") = true) (k20 : PySem.W.keepIn K (.ref f20) = true)
    (a21 : PySem.W.nsIn K mainGlobals (Str.ofString "_law_sign") = some (some (.ref f21))) (l21 : K.lookup f21 = some ⟨oc21, od21, .func (PySem.W.fnOf (Str.ofString "_law_sign") (Str.ofString "_law_sign") (defArgs s_law_sign) (defBody s_law_sign) (defScope s_law_sign) .none kV21 dc21 pm21 an21 cd21 ct21), sl21⟩) (c21 : PySem.W.codeIn K cd21 (Str.ofString "_law_sign") = true) (k21 : PySem.W.keepIn K (.ref f21) = true)
    (a22 : PySem.W.nsIn K mainGlobals (Str.ofString "_law_signs") = some (some (.ref f22))) (l22 : K.lookup f22 = some ⟨oc22, od22, .func (PySem.W.fnOf (Str.ofString "_law_signs") (Str.ofString "_law_signs") (defArgs s_law_signs) (defBody s_law_signs) (defScope s_law_signs) .none kV22 dc22 pm22 an22 cd22 ct22), sl22⟩) (c22 : PySem.W.codeIn K cd22 (Str.ofString "_law_signs") = true) (k22 : PySem.W.keepIn K (.ref f22) = true)
    (a23 : PySem.W.nsIn K mainGlobals (Str.ofString "_law_act") = some (some (.ref f23))) (l23 : K.lookup f23 = some ⟨oc23, od23, .func (PySem.W.fnOf (Str.ofString "_law_act") (Str.ofString "_law_act") (defArgs s_law_act) (defBody s_law_act) (defScope s_law_act) .none kV23 dc23 pm23 an23 cd23 ct23), sl23⟩) (c23 : PySem.W.codeIn K cd23 (Str.ofString "_law_act") = true) (k23 : PySem.W.keepIn K (.ref f23) = true)
    (a24 : PySem.W.nsIn K mainGlobals (Str.ofString "_law_deed") = some (some (.ref f24))) (l24 : K.lookup f24 = some ⟨oc24, od24, .func (PySem.W.fnOf (Str.ofString "_law_deed") (Str.ofString "_law_deed") (defArgs s_law_deed) (defBody s_law_deed) (defScope s_law_deed) .none kV24 dc24 pm24 an24 cd24 ct24), sl24⟩) (c24 : PySem.W.codeIn K cd24 (Str.ofString "_law_deed") = true) (k24 : PySem.W.keepIn K (.ref f24) = true)
    (a25 : PySem.W.nsIn K mainGlobals (Str.ofString "_law_wrong") = some (some (.ref f25))) (l25 : K.lookup f25 = some ⟨oc25, od25, .func (PySem.W.fnOf (Str.ofString "_law_wrong") (Str.ofString "_law_wrong") (defArgs s_law_wrong) (defBody s_law_wrong) (defScope s_law_wrong) .none kV25 dc25 pm25 an25 cd25 ct25), sl25⟩) (c25 : PySem.W.codeIn K cd25 (Str.ofString "_law_wrong") = true) (k25 : PySem.W.keepIn K (.ref f25) = true)
    (a26 : PySem.W.nsIn K mainGlobals (Str.ofString "_law_parts") = some (some (.ref f26))) (l26 : K.lookup f26 = some ⟨oc26, od26, .func (PySem.W.fnOf (Str.ofString "_law_parts") (Str.ofString "_law_parts") (defArgs s_law_parts) (defBody s_law_parts) (defScope s_law_parts) .none kV26 dc26 pm26 an26 cd26 ct26), sl26⟩) (c26 : PySem.W.codeIn K cd26 (Str.ofString "_law_parts") = true) (k26 : PySem.W.keepIn K (.ref f26) = true)
    (a27 : PySem.W.nsIn K mainGlobals (Str.ofString "_law_acts_wrong") = some (some (.ref f27))) (l27 : K.lookup f27 = some ⟨oc27, od27, .func (PySem.W.fnOf (Str.ofString "_law_acts_wrong") (Str.ofString "_law_acts_wrong") (defArgs s_law_acts_wrong) (defBody s_law_acts_wrong) (defScope s_law_acts_wrong) .none kV27 dc27 pm27 an27 cd27 ct27), sl27⟩) (c27 : PySem.W.codeIn K cd27 (Str.ofString "_law_acts_wrong") = true) (k27 : PySem.W.keepIn K (.ref f27) = true)
    (a28 : PySem.W.nsIn K mainGlobals (Str.ofString "_law_deeds_wrong") = some (some (.ref f28))) (l28 : K.lookup f28 = some ⟨oc28, od28, .func (PySem.W.fnOf (Str.ofString "_law_deeds_wrong") (Str.ofString "_law_deeds_wrong") (defArgs s_law_deeds_wrong) (defBody s_law_deeds_wrong) (defScope s_law_deeds_wrong) .none kV28 dc28 pm28 an28 cd28 ct28), sl28⟩) (c28 : PySem.W.codeIn K cd28 (Str.ofString "_law_deeds_wrong") = true) (k28 : PySem.W.keepIn K (.ref f28) = true)
    (a29 : PySem.W.nsIn K mainGlobals (Str.ofString "law") = some (some (.ref f29))) (l29 : K.lookup f29 = some ⟨oc29, od29, .func (PySem.W.fnOf (Str.ofString "law") (Str.ofString "law") (defArgs s_law) (defBody s_law) (defScope s_law) .none kV29 dc29 pm29 an29 cd29 ct29), sl29⟩) (c29 : PySem.W.codeIn K cd29 (Str.ofString "law") = true) (k29 : PySem.W.keepIn K (.ref f29) = true)
    (x0 : PySem.W.nsIn K mainGlobals (Str.ofString "HANDS") = some (some (.ref g0))) (y0 : K.lookup g0 = some ⟨.type "tuple", gd0, .seq #[.int 1 tk0_0, .int 2 tk0_1, .int 3 tk0_2, .int 4 tk0_3] gn0, gs0⟩)
    (x1 : PySem.W.nsIn K mainGlobals (Str.ofString "LETTERS") = some (some (.str (Str.ofString "abcdefghijklmnopqrstuvwxyz") tk1)))
    (x2 : PySem.W.nsIn K mainGlobals (Str.ofString "MOST_SIGNS") = some (some (.int 8 tk2)))
    (x3 : PySem.W.nsIn K mainGlobals (Str.ofString "ROOT") = some (some (.ref g3))) (y3 : K.lookup g3 = some ⟨.type "tuple", gd3, .seq #[.int 0 tk3_0, .int 0 tk3_1] gn3, gs3⟩)
    (x4 : PySem.W.nsIn K mainGlobals (Str.ofString "TEXT_SIGNS") = some (some (.str (Str.ofString "abcdefghijklmnopqrstuvwxyz ") tk4)))
    (dx0 : PySem.W.nsIn K mainGlobals (Str.ofString "PARTS") = some (some (.ref dg0))) (dl0 : K.lookup dg0 = some ⟨.type "dict", none, .dict de0 dn0, #[]⟩) (dk0 : PySem.W.KeysLit w.params de0.toList) (dw0 : (dg0 == sysModules) = false) (ds0 : de0.toList.map keyTx = (K_PARTS.map (·.1)).map some)
    (dv0_12 : PySem.W.nsIn K dg0 (Str.ofString "say") = some (some (.str (Str.ofString "") dt0_12)))
    (dv0_11 : PySem.W.nsIn K dg0 (Str.ofString "settle") = some (some (.str (Str.ofString "") dt0_11)))
    (dv0_10 : PySem.W.nsIn K dg0 (Str.ofString "let") = some (some (.str (Str.ofString "h") dt0_10)))
    (dv0_9 : PySem.W.nsIn K dg0 (Str.ofString "bar") = some (some (.str (Str.ofString "h") dt0_9)))
    (dv0_8 : PySem.W.nsIn K dg0 (Str.ofString "redo") = some (some (.str (Str.ofString "n") dt0_8)))
    (dv0_7 : PySem.W.nsIn K dg0 (Str.ofString "undo") = some (some (.str (Str.ofString "n") dt0_7)))
    (dv0_6 : PySem.W.nsIn K dg0 (Str.ofString "drop") = some (some (.str (Str.ofString "b") dt0_6)))
    (dv0_5 : PySem.W.nsIn K dg0 (Str.ofString "move") = some (some (.str (Str.ofString "bbB") dt0_5)))
    (dv0_4 : PySem.W.nsIn K dg0 (Str.ofString "block") = some (some (.str (Str.ofString "bB") dt0_4)))
    (dv0_3 : PySem.W.nsIn K dg0 (Str.ofString "note") = some (some (.str (Str.ofString "sst") dt0_3)))
    (dv0_2 : PySem.W.nsIn K dg0 (Str.ofString "mark") = some (some (.str (Str.ofString "sswW") dt0_2)))
    (dv0_1 : PySem.W.nsIn K dg0 (Str.ofString "erase") = some (some (.str (Str.ofString "e") dt0_1)))
    (dv0_0 : PySem.W.nsIn K dg0 (Str.ofString "write") = some (some (.str (Str.ofString "bppt") dt0_0)))
    (z_all : PySem.W.nsIn K mainGlobals (Str.ofString "all") = some none)
    (z_bool : PySem.W.nsIn K mainGlobals (Str.ofString "bool") = some none)
    (z_int : PySem.W.nsIn K mainGlobals (Str.ofString "int") = some none)
    (z_isinstance : PySem.W.nsIn K mainGlobals (Str.ofString "isinstance") = some none)
    (z_len : PySem.W.nsIn K mainGlobals (Str.ofString "len") = some none)
    (z_list : PySem.W.nsIn K mainGlobals (Str.ofString "list") = some none)
    (z_min : PySem.W.nsIn K mainGlobals (Str.ofString "min") = some none)
    (z_range : PySem.W.nsIn K mainGlobals (Str.ofString "range") = some none)
    (z_sorted : PySem.W.nsIn K mainGlobals (Str.ofString "sorted") = some none)
    (z_str : PySem.W.nsIn K mainGlobals (Str.ofString "str") = some none)
    (z_tuple : PySem.W.nsIn K mainGlobals (Str.ofString "tuple") = some none)
    (z_zip : PySem.W.nsIn K mainGlobals (Str.ofString "zip") = some none)
    : ∃ fd : FuncData, (∀ (s : Shared) (v : Value), BindsTo s fd ⟨[v], []⟩ [((Str.ofString "_law_script"), v)]) ∧ ∀ base : Heap, K.In base → base.Ns mainGlobals mg → FnOk P w K mg base CX0 10 fa fd [(Str.ofString "_law_script")] (spD K (fun _ => 0) 1 F_law) := by
  have e := hfa.symm.trans (PySem.W.mg_of X G a29)
  cases e
  have U0 := fun_mk (st := s_is_integer) l0 c0 k0
  have B_is_integer : FunE K mg (Str.ofString "is_integer") s_is_integer [(Str.ofString "value")] := ⟨_, _, U0, U0.binds (ps := [(Str.ofString "value")]) fun _ _ _ _ _ _ us hl => match us, hl with | [_], _ => rfl, PySem.W.mg_of X G a0⟩
  have U1 := fun_mk (st := s_is_number) l1 c1 k1
  have B_is_number : FunE K mg (Str.ofString "is_number") s_is_number [(Str.ofString "value"), (Str.ofString "least")] := ⟨_, _, U1, U1.binds (ps := [(Str.ofString "value"), (Str.ofString "least")]) fun _ _ _ _ _ _ us hl => match us, hl with | [_, _], _ => rfl, PySem.W.mg_of X G a1⟩
  have U2 := fun_mk (st := s_is_clock) l2 c2 k2
  have B_is_clock : FunE K mg (Str.ofString "is_clock") s_is_clock [(Str.ofString "value")] := ⟨_, _, U2, U2.binds (ps := [(Str.ofString "value")]) fun _ _ _ _ _ _ us hl => match us, hl with | [_], _ => rfl, PySem.W.mg_of X G a2⟩
  have U3 := fun_mk (st := s_is_hand) l3 c3 k3
  have B_is_hand : FunE K mg (Str.ofString "is_hand") s_is_hand [(Str.ofString "value")] := ⟨_, _, U3, U3.binds (ps := [(Str.ofString "value")]) fun _ _ _ _ _ _ us hl => match us, hl with | [_], _ => rfl, PySem.W.mg_of X G a3⟩
  have U4 := fun_mk (st := s_is_string_of) l4 c4 k4
  have B_is_string_of : FunE K mg (Str.ofString "is_string_of") s_is_string_of [(Str.ofString "value"), (Str.ofString "signs")] := ⟨_, _, U4, U4.binds (ps := [(Str.ofString "value"), (Str.ofString "signs")]) fun _ _ _ _ _ _ us hl => match us, hl with | [_, _], _ => rfl, PySem.W.mg_of X G a4⟩
  have U5 := fun_mk (st := s_is_word) l5 c5 k5
  have B_is_word : FunE K mg (Str.ofString "is_word") s_is_word [(Str.ofString "value")] := ⟨_, _, U5, U5.binds (ps := [(Str.ofString "value")]) fun _ _ _ _ _ _ us hl => match us, hl with | [_], _ => rfl, PySem.W.mg_of X G a5⟩
  have U6 := fun_mk (st := s_is_text) l6 c6 k6
  have B_is_text : FunE K mg (Str.ofString "is_text") s_is_text [(Str.ofString "value")] := ⟨_, _, U6, U6.binds (ps := [(Str.ofString "value")]) fun _ _ _ _ _ _ us hl => match us, hl with | [_], _ => rfl, PySem.W.mg_of X G a6⟩
  have U7 := fun_mk (st := s_is_deed_id) l7 c7 k7
  have B_is_deed_id : FunE K mg (Str.ofString "is_deed_id") s_is_deed_id [(Str.ofString "value")] := ⟨_, _, U7, U7.binds (ps := [(Str.ofString "value")]) fun _ _ _ _ _ _ us hl => match us, hl with | [_], _ => rfl, PySem.W.mg_of X G a7⟩
  have U8 := fun_mk (st := s_is_block_id) l8 c8 k8
  have B_is_block_id : FunE K mg (Str.ofString "is_block_id") s_is_block_id [(Str.ofString "value")] := ⟨_, _, U8, U8.binds (ps := [(Str.ofString "value")]) fun _ _ _ _ _ _ us hl => match us, hl with | [_], _ => rfl, PySem.W.mg_of X G a8⟩
  have U9 := fun_mk (st := s_is_sign_id) l9 c9 k9
  have B_is_sign_id : FunE K mg (Str.ofString "is_sign_id") s_is_sign_id [(Str.ofString "value")] := ⟨_, _, U9, U9.binds (ps := [(Str.ofString "value")]) fun _ _ _ _ _ _ us hl => match us, hl with | [_], _ => rfl, PySem.W.mg_of X G a9⟩
  have U10 := fun_mk (st := s_is_erased) l10 c10 k10
  have B_is_erased : FunE K mg (Str.ofString "is_erased") s_is_erased [(Str.ofString "value")] := ⟨_, _, U10, U10.binds (ps := [(Str.ofString "value")]) fun _ _ _ _ _ _ us hl => match us, hl with | [_], _ => rfl, PySem.W.mg_of X G a10⟩
  have U11 := fun_mk (st := s_is_part) l11 c11 k11
  have B_is_part : FunE K mg (Str.ofString "is_part") s_is_part [(Str.ofString "kind"), (Str.ofString "value")] := ⟨_, _, U11, U11.binds (ps := [(Str.ofString "kind"), (Str.ofString "value")]) fun _ _ _ _ _ _ us hl => match us, hl with | [_, _], _ => rfl, PySem.W.mg_of X G a11⟩
  have U12 := fun_mk (st := s_is_act) l12 c12 k12
  have B_is_act : FunE K mg (Str.ofString "is_act") s_is_act [(Str.ofString "value")] := ⟨_, _, U12, U12.binds (ps := [(Str.ofString "value")]) fun _ _ _ _ _ _ us hl => match us, hl with | [_], _ => rfl, PySem.W.mg_of X G a12⟩
  have U13 := fun_mk (st := s_is_deed) l13 c13 k13
  have B_is_deed : FunE K mg (Str.ofString "is_deed") s_is_deed [(Str.ofString "value")] := ⟨_, _, U13, U13.binds (ps := [(Str.ofString "value")]) fun _ _ _ _ _ _ us hl => match us, hl with | [_], _ => rfl, PySem.W.mg_of X G a13⟩
  have U14 := fun_mk (st := s_id_of) l14 c14 k14
  have B_id_of : FunE K mg (Str.ofString "id_of") s_id_of [(Str.ofString "deed")] := ⟨_, _, U14, U14.binds (ps := [(Str.ofString "deed")]) fun _ _ _ _ _ _ us hl => match us, hl with | [_], _ => rfl, PySem.W.mg_of X G a14⟩
  have U15 := fun_mk (st := s_law_so) l15 c15 k15
  have B_law_so : FunE K mg (Str.ofString "_law_so") s_law_so [(Str.ofString "_law_found"), (Str.ofString "_law_meant")] := ⟨_, _, U15, U15.binds (ps := [(Str.ofString "_law_found"), (Str.ofString "_law_meant")]) fun _ _ _ _ _ _ us hl => match us, hl with | [_, _], _ => rfl, PySem.W.mg_of X G a15⟩
  have U16 := fun_mk (st := s_law_numbers) l16 c16 k16
  have B_law_numbers : FunE K mg (Str.ofString "_law_numbers") s_law_numbers [(Str.ofString "_law_script")] := ⟨_, _, U16, U16.binds (ps := [(Str.ofString "_law_script")]) fun _ _ _ _ _ _ us hl => match us, hl with | [_], _ => rfl, PySem.W.mg_of X G a16⟩
  have U17 := fun_mk (st := s_law_draw) l17 c17 k17
  have B_law_draw : FunE K mg (Str.ofString "_law_draw") s_law_draw [(Str.ofString "_law_row"), (Str.ofString "_law_at"), (Str.ofString "_law_limit")] := ⟨_, _, U17, U17.binds (ps := [(Str.ofString "_law_row"), (Str.ofString "_law_at"), (Str.ofString "_law_limit")]) fun _ _ _ _ _ _ us hl => match us, hl with | [_, _, _], _ => rfl, PySem.W.mg_of X G a17⟩
  have U18 := fun_mk (st := s_law_word) l18 c18 k18
  have B_law_word : FunE K mg (Str.ofString "_law_word") s_law_word [(Str.ofString "_law_row"), (Str.ofString "_law_at"), (Str.ofString "_law_most")] := ⟨_, _, U18, U18.binds (ps := [(Str.ofString "_law_row"), (Str.ofString "_law_at"), (Str.ofString "_law_most")]) fun _ _ _ _ _ _ us hl => match us, hl with | [_, _, _], _ => rfl, PySem.W.mg_of X G a18⟩
  have U19 := fun_mk (st := s_law_typed) l19 c19 k19
  have B_law_typed : FunE K mg (Str.ofString "_law_typed") s_law_typed [(Str.ofString "_law_row"), (Str.ofString "_law_at")] := ⟨_, _, U19, U19.binds (ps := [(Str.ofString "_law_row"), (Str.ofString "_law_at")]) fun _ _ _ _ _ _ us hl => match us, hl with | [_, _], _ => rfl, PySem.W.mg_of X G a19⟩
  have U20 := fun_mk (st := s_law_block) l20 c20 k20
  have B_law_block : FunE K mg (Str.ofString "_law_block") s_law_block [(Str.ofString "_law_row"), (Str.ofString "_law_at")] := ⟨_, _, U20, U20.binds (ps := [(Str.ofString "_law_row"), (Str.ofString "_law_at")]) fun _ _ _ _ _ _ us hl => match us, hl with | [_, _], _ => rfl, PySem.W.mg_of X G a20⟩
  have U21 := fun_mk (st := s_law_sign) l21 c21 k21
  have B_law_sign : FunE K mg (Str.ofString "_law_sign") s_law_sign [(Str.ofString "_law_row"), (Str.ofString "_law_at")] := ⟨_, _, U21, U21.binds (ps := [(Str.ofString "_law_row"), (Str.ofString "_law_at")]) fun _ _ _ _ _ _ us hl => match us, hl with | [_, _], _ => rfl, PySem.W.mg_of X G a21⟩
  have U22 := fun_mk (st := s_law_signs) l22 c22 k22
  have B_law_signs : FunE K mg (Str.ofString "_law_signs") s_law_signs [(Str.ofString "_law_row"), (Str.ofString "_law_at")] := ⟨_, _, U22, U22.binds (ps := [(Str.ofString "_law_row"), (Str.ofString "_law_at")]) fun _ _ _ _ _ _ us hl => match us, hl with | [_, _], _ => rfl, PySem.W.mg_of X G a22⟩
  have U23 := fun_mk (st := s_law_act) l23 c23 k23
  have B_law_act : FunE K mg (Str.ofString "_law_act") s_law_act [(Str.ofString "_law_row"), (Str.ofString "_law_at"), (Str.ofString "_law_kind")] := ⟨_, _, U23, U23.binds (ps := [(Str.ofString "_law_row"), (Str.ofString "_law_at"), (Str.ofString "_law_kind")]) fun _ _ _ _ _ _ us hl => match us, hl with | [_, _, _], _ => rfl, PySem.W.mg_of X G a23⟩
  have U24 := fun_mk (st := s_law_deed) l24 c24 k24
  have B_law_deed : FunE K mg (Str.ofString "_law_deed") s_law_deed [(Str.ofString "_law_row"), (Str.ofString "_law_at"), (Str.ofString "_law_act_here")] := ⟨_, _, U24, U24.binds (ps := [(Str.ofString "_law_row"), (Str.ofString "_law_at"), (Str.ofString "_law_act_here")]) fun _ _ _ _ _ _ us hl => match us, hl with | [_, _, _], _ => rfl, PySem.W.mg_of X G a24⟩
  have U25 := fun_mk (st := s_law_wrong) l25 c25 k25
  have B_law_wrong : FunE K mg (Str.ofString "_law_wrong") s_law_wrong [(Str.ofString "_law_part"), (Str.ofString "_law_k")] := ⟨_, _, U25, U25.binds (ps := [(Str.ofString "_law_part"), (Str.ofString "_law_k")]) fun _ _ _ _ _ _ us hl => match us, hl with | [_, _], _ => rfl, PySem.W.mg_of X G a25⟩
  have U26 := fun_mk (st := s_law_parts) l26 c26 k26
  have B_law_parts : FunE K mg (Str.ofString "_law_parts") s_law_parts [(Str.ofString "_law_kind")] := ⟨_, _, U26, U26.binds (ps := [(Str.ofString "_law_kind")]) fun _ _ _ _ _ _ us hl => match us, hl with | [_], _ => rfl, PySem.W.mg_of X G a26⟩
  have U27 := fun_mk (st := s_law_acts_wrong) l27 c27 k27
  have B_law_acts_wrong : FunE K mg (Str.ofString "_law_acts_wrong") s_law_acts_wrong [(Str.ofString "_law_row"), (Str.ofString "_law_at"), (Str.ofString "_law_act_here"), (Str.ofString "_law_kind")] := ⟨_, _, U27, U27.binds (ps := [(Str.ofString "_law_row"), (Str.ofString "_law_at"), (Str.ofString "_law_act_here"), (Str.ofString "_law_kind")]) fun _ _ _ _ _ _ us hl => match us, hl with | [_, _, _, _], _ => rfl, PySem.W.mg_of X G a27⟩
  have U28 := fun_mk (st := s_law_deeds_wrong) l28 c28 k28
  have B_law_deeds_wrong : FunE K mg (Str.ofString "_law_deeds_wrong") s_law_deeds_wrong [(Str.ofString "_law_deed_here"), (Str.ofString "_law_k")] := ⟨_, _, U28, U28.binds (ps := [(Str.ofString "_law_deed_here"), (Str.ofString "_law_k")]) fun _ _ _ _ _ _ us hl => match us, hl with | [_, _], _ => rfl, PySem.W.mg_of X G a28⟩
  have UL := fun_mk (st := s_law) l29 c29 k29
  have Z_all := PySem.W.mg_none_of X G z_all
  have Z_bool := PySem.W.mg_none_of X G z_bool
  have Z_int := PySem.W.mg_none_of X G z_int
  have Z_isinstance := PySem.W.mg_none_of X G z_isinstance
  have Z_len := PySem.W.mg_none_of X G z_len
  have Z_list := PySem.W.mg_none_of X G z_list
  have Z_min := PySem.W.mg_none_of X G z_min
  have Z_range := PySem.W.mg_none_of X G z_range
  have Z_sorted := PySem.W.mg_none_of X G z_sorted
  have Z_str := PySem.W.mg_none_of X G z_str
  have Z_tuple := PySem.W.mg_none_of X G z_tuple
  have Z_zip := PySem.W.mg_none_of X G z_zip
  have C_HANDS : CstD K mg (Str.ofString "HANDS") K_HANDS := ⟨.ref g0, _, PySem.W.mg_of X G x0, rfl, fun H => .tup (xs := [V.int 1, V.int 2, V.int 3, V.int 4]) (.inr ⟨_, _, _, y0, rfl, rfl, by show 4 ≤ sizeLine; decide, .cons ⟨_, rfl⟩ (.cons ⟨_, rfl⟩ (.cons ⟨_, rfl⟩ (.cons ⟨_, rfl⟩ (.nil))))⟩) (.cons (.int _) (.cons (.int _) (.cons (.int _) (.cons (.int _) (.nil)))))⟩
  have C_LETTERS : CstD K mg (Str.ofString "LETTERS") K_LETTERS := ⟨.str (Str.ofString "abcdefghijklmnopqrstuvwxyz"), _, PySem.W.mg_of X G x1, ⟨_, rfl⟩, fun H => .str _⟩
  have C_MOST_SIGNS : CstD K mg (Str.ofString "MOST_SIGNS") K_MOST_SIGNS := ⟨.int 8, _, PySem.W.mg_of X G x2, ⟨_, rfl⟩, fun H => .int _⟩
  have C_ROOT : CstD K mg (Str.ofString "ROOT") K_ROOT := ⟨.ref g3, _, PySem.W.mg_of X G x3, rfl, fun H => .tup (xs := [V.int 0, V.int 0]) (.inr ⟨_, _, _, y3, rfl, rfl, by show 2 ≤ sizeLine; decide, .cons ⟨_, rfl⟩ (.cons ⟨_, rfl⟩ (.nil))⟩) (.cons (.int _) (.cons (.int _) (.nil)))⟩
  have C_TEXT_SIGNS : CstD K mg (Str.ofString "TEXT_SIGNS") K_TEXT_SIGNS := ⟨.str (Str.ofString "abcdefghijklmnopqrstuvwxyz "), _, PySem.W.mg_of X G x4, ⟨_, rfl⟩, fun H => .str _⟩
  have KD_PARTS : DctE K w mg (Str.ofString "PARTS") K_PARTS := dctE_mk (PySem.W.mg_of X G dx0) dl0 dk0 dw0 ds0 (.str dv0_0 (.str dv0_1 (.str dv0_2 (.str dv0_3 (.str dv0_4 (.str dv0_5 (.str dv0_6 (.str dv0_7 (.str dv0_8 (.str dv0_9 (.str dv0_10 (.str dv0_11 (.str dv0_12 (.nil))))))))))))))
  refine ⟨PySem.W.fnOf (Str.ofString "law") (Str.ofString "law") (defArgs s_law) (defBody s_law) (defScope s_law) .none kV29 dc29 pm29 an29 cd29 ct29, fun s v => .of_eq rfl, fun base _ _ => ?_⟩
  have E_is_integer := ok_is_integer (P := P) (w := w) (base := base) (G := fun _ => 0) B_is_integer Z_bool Z_int Z_isinstance
  have E_is_number := ok_is_number (P := P) (w := w) (base := base) (G := fun _ => 0) B_is_number E_is_integer
  have E_is_clock := ok_is_clock (P := P) (w := w) (base := base) (G := fun _ => 0) B_is_clock E_is_number C_HANDS Z_all Z_isinstance Z_len Z_tuple
  have E_is_hand := ok_is_hand (P := P) (w := w) (base := base) (G := fun _ => 0) B_is_hand E_is_number C_HANDS Z_len
  have E_is_string_of := ok_is_string_of (P := P) (w := w) (base := base) (G := fun _ => 0) B_is_string_of C_MOST_SIGNS Z_all Z_isinstance Z_len Z_str
  have E_is_word := ok_is_word (P := P) (w := w) (base := base) (G := fun _ => 0) B_is_word E_is_string_of C_LETTERS
  have E_is_text := ok_is_text (P := P) (w := w) (base := base) (G := fun _ => 0) B_is_text E_is_string_of C_TEXT_SIGNS
  have E_is_deed_id := ok_is_deed_id (P := P) (w := w) (base := base) (G := fun _ => 0) B_is_deed_id E_is_hand E_is_number Z_isinstance Z_len Z_tuple
  have E_is_block_id := ok_is_block_id (P := P) (w := w) (base := base) (G := fun _ => 0) B_is_block_id E_is_number E_is_deed_id C_ROOT Z_isinstance Z_len Z_tuple
  have E_is_sign_id := ok_is_sign_id (P := P) (w := w) (base := base) (G := fun _ => 0) B_is_sign_id E_is_deed_id E_is_number Z_isinstance Z_len Z_tuple
  have E_is_erased := ok_is_erased (P := P) (w := w) (base := base) (G := fun _ => 0) B_is_erased E_is_sign_id C_MOST_SIGNS Z_all Z_isinstance Z_len Z_range Z_tuple
  have E_is_part := ok_is_part (P := P) (w := w) (base := base) (G := fun _ => 0) B_is_part E_is_block_id E_is_sign_id E_is_erased E_is_word E_is_text E_is_number E_is_hand
  have E_is_act := ok_is_act (P := P) (w := w) (base := base) (G := fun _ => 0) B_is_act E_is_part KD_PARTS Z_all Z_isinstance Z_len Z_str Z_tuple Z_zip
  have E_is_deed := ok_is_deed (P := P) (w := w) (base := base) (G := fun _ => 0) B_is_deed E_is_hand E_is_number E_is_clock E_is_act Z_isinstance Z_len Z_tuple
  have E_id_of := ok_id_of (P := P) (w := w) (base := base) (G := fun _ => 0) B_id_of
  have E_law_so : EntD P w K mg base (fun _ => 0) (Str.ofString "_law_so") 4 2 F_law_so := ok_law_so B_law_so Z_bool Z_int Z_isinstance Z_len Z_range Z_str Z_tuple 4
  have E_law_numbers := ok_law_numbers (P := P) (w := w) (base := base) (G := fun _ => 0) B_law_numbers Z_int Z_len Z_range
  have E_law_draw := ok_law_draw (P := P) (w := w) (base := base) (G := fun _ => 0) B_law_draw Z_int Z_len
  have E_law_word := ok_law_word (P := P) (w := w) (base := base) (G := fun _ => 0) B_law_word E_law_draw Z_range
  have E_law_typed := ok_law_typed (P := P) (w := w) (base := base) (G := fun _ => 0) B_law_typed E_law_draw Z_range
  have E_law_block := ok_law_block (P := P) (w := w) (base := base) (G := fun _ => 0) B_law_block E_law_draw
  have E_law_sign := ok_law_sign (P := P) (w := w) (base := base) (G := fun _ => 0) B_law_sign E_law_draw
  have E_law_signs := ok_law_signs (P := P) (w := w) (base := base) (G := fun _ => 0) B_law_signs E_law_draw E_law_sign Z_range Z_sorted Z_tuple
  have E_law_act := ok_law_act (P := P) (w := w) (base := base) (G := fun _ => 0) B_law_act E_law_draw E_law_word E_law_sign E_law_block E_law_typed E_law_signs
  have E_law_deed := ok_law_deed (P := P) (w := w) (base := base) (G := fun _ => 0) B_law_deed E_law_draw Z_range Z_tuple
  have E_law_wrong := ok_law_wrong (P := P) (w := w) (base := base) (G := fun _ => 0) B_law_wrong Z_len Z_range Z_tuple
  have E_law_parts := ok_law_parts (P := P) (w := w) (base := base) (G := fun _ => 0) B_law_parts
  have E_law_acts_wrong := ok_law_acts_wrong (P := P) (w := w) (base := base) (G := fun _ => 0) B_law_acts_wrong E_law_parts E_law_draw E_law_wrong Z_len Z_list Z_range
  have E_law_deeds_wrong := ok_law_deeds_wrong (P := P) (w := w) (base := base) (G := fun _ => 0) B_law_deeds_wrong Z_int Z_list Z_range Z_str Z_tuple
  exact ok_law UL E_law_numbers E_law_draw E_law_act E_law_deed E_is_act E_law_so E_is_deed E_id_of E_law_acts_wrong E_law_deeds_wrong Z_int Z_len Z_min Z_range
end K03
open PySem PySem.W PyProof.Rows
set_option maxHeartbeats 0 in
theorem PySem.Challenge.cw_quillmoot_k03_whole_what_is_an_act_and_a_holds : PySem.Challenge.rw_quillmoot_k03_whole_what_is_an_act_and_a.Holds := by
  w_on; o_law; k_head; (case hw => w_witness2)
  k_fill
  refine L2.walk_ofK (l := PySem.Challenge.rw_quillmoot_k03_whole_what_is_an_act_and_a) (n := 63) (k := 10) (x := (Str.ofString "_law_script")) (CX := L2.CX0) (sp := fun K => Dn.spD K (fun _ => 0) 1 K03.F_law) rfl (by decide) rfl ⟨rfl, by decide, by decide⟩ (fun w h Y => PySem.W.kIn_of Y) ?F (fun K H a ns hl _ hS => ⟨H, [Dn.scr (ns.map PyData.int)], rfl, .refl _, .cons (.scr hS (Dn.rp_ints K H ns)) .nil, by rw [K03.law_true ns hl]; exact (fun z => nomatch z), fun d hd v H0 H1 _ r => by rw [K03.law_true ns hl] at hd; cases hd; cases r; rfl, fun x hx => by rw [K03.law_true ns hl] at hx; cases hx⟩) (fun _ _ _ _ h => h)
  case F =>
    intro w mg fa h KX G hmg
    refine' K03.all_mk KX G hmg ?a0 ?l0 ?c0 ?k0 ?a1 ?l1 ?c1 ?k1 ?a2 ?l2 ?c2 ?k2 ?a3 ?l3 ?c3 ?k3 ?a4 ?l4 ?c4 ?k4 ?a5 ?l5 ?c5 ?k5 ?a6 ?l6 ?c6 ?k6 ?a7 ?l7 ?c7 ?k7 ?a8 ?l8 ?c8 ?k8 ?a9 ?l9 ?c9 ?k9 ?a10 ?l10 ?c10 ?k10 ?a11 ?l11 ?c11 ?k11 ?a12 ?l12 ?c12 ?k12 ?a13 ?l13 ?c13 ?k13 ?a14 ?l14 ?c14 ?k14 ?a15 ?l15 ?c15 ?k15 ?a16 ?l16 ?c16 ?k16 ?a17 ?l17 ?c17 ?k17 ?a18 ?l18 ?c18 ?k18 ?a19 ?l19 ?c19 ?k19 ?a20 ?l20 ?c20 ?k20 ?a21 ?l21 ?c21 ?k21 ?a22 ?l22 ?c22 ?k22 ?a23 ?l23 ?c23 ?k23 ?a24 ?l24 ?c24 ?k24 ?a25 ?l25 ?c25 ?k25 ?a26 ?l26 ?c26 ?k26 ?a27 ?l27 ?c27 ?k27 ?a28 ?l28 ?c28 ?k28 ?a29 ?l29 ?c29 ?k29 ?x0 ?y0 ?x1 ?x2 ?x3 ?y3 ?x4 ?dx0 ?dl0 ?dk0 ?dw0 ?ds0 ?dv0_12 ?dv0_11 ?dv0_10 ?dv0_9 ?dv0_8 ?dv0_7 ?dv0_6 ?dv0_5 ?dv0_4 ?dv0_3 ?dv0_2 ?dv0_1 ?dv0_0 ?z_all ?z_bool ?z_int ?z_isinstance ?z_len ?z_list ?z_min ?z_range ?z_sorted ?z_str ?z_tuple ?z_zip
    (case a0 => k_is)
    (case l0 => k_is)
    (case c0 => k_is)
    (case k0 => k_is)
    (case a1 => k_is)
    (case l1 => k_is)
    (case c1 => k_is)
    (case k1 => k_is)
    (case a2 => k_is)
    (case l2 => k_is)
    (case c2 => k_is)
    (case k2 => k_is)
    (case a3 => k_is)
    (case l3 => k_is)
    (case c3 => k_is)
    (case k3 => k_is)
    (case a4 => k_is)
    (case l4 => k_is)
    (case c4 => k_is)
    (case k4 => k_is)
    (case a5 => k_is)
    (case l5 => k_is)
    (case c5 => k_is)
    (case k5 => k_is)
    (case a6 => k_is)
    (case l6 => k_is)
    (case c6 => k_is)
    (case k6 => k_is)
    (case a7 => k_is)
    (case l7 => k_is)
    (case c7 => k_is)
    (case k7 => k_is)
    (case a8 => k_is)
    (case l8 => k_is)
    (case c8 => k_is)
    (case k8 => k_is)
    (case a9 => k_is)
    (case l9 => k_is)
    (case c9 => k_is)
    (case k9 => k_is)
    (case a10 => k_is)
    (case l10 => k_is)
    (case c10 => k_is)
    (case k10 => k_is)
    (case a11 => k_is)
    (case l11 => k_is)
    (case c11 => k_is)
    (case k11 => k_is)
    (case a12 => k_is)
    (case l12 => k_is)
    (case c12 => k_is)
    (case k12 => k_is)
    (case a13 => k_is)
    (case l13 => k_is)
    (case c13 => k_is)
    (case k13 => k_is)
    (case a14 => k_is)
    (case l14 => k_is)
    (case c14 => k_is)
    (case k14 => k_is)
    (case a15 => k_is)
    (case l15 => k_is)
    (case c15 => k_is)
    (case k15 => k_is)
    (case a16 => k_is)
    (case l16 => k_is)
    (case c16 => k_is)
    (case k16 => k_is)
    (case a17 => k_is)
    (case l17 => k_is)
    (case c17 => k_is)
    (case k17 => k_is)
    (case a18 => k_is)
    (case l18 => k_is)
    (case c18 => k_is)
    (case k18 => k_is)
    (case a19 => k_is)
    (case l19 => k_is)
    (case c19 => k_is)
    (case k19 => k_is)
    (case a20 => k_is)
    (case l20 => k_is)
    (case c20 => k_is)
    (case k20 => k_is)
    (case a21 => k_is)
    (case l21 => k_is)
    (case c21 => k_is)
    (case k21 => k_is)
    (case a22 => k_is)
    (case l22 => k_is)
    (case c22 => k_is)
    (case k22 => k_is)
    (case a23 => k_is)
    (case l23 => k_is)
    (case c23 => k_is)
    (case k23 => k_is)
    (case a24 => k_is)
    (case l24 => k_is)
    (case c24 => k_is)
    (case k24 => k_is)
    (case a25 => k_is)
    (case l25 => k_is)
    (case c25 => k_is)
    (case k25 => k_is)
    (case a26 => k_is)
    (case l26 => k_is)
    (case c26 => k_is)
    (case k26 => k_is)
    (case a27 => k_is)
    (case l27 => k_is)
    (case c27 => k_is)
    (case k27 => k_is)
    (case a28 => k_is)
    (case l28 => k_is)
    (case c28 => k_is)
    (case k28 => k_is)
    (case a29 => k_is)
    (case l29 => k_is)
    (case c29 => k_is)
    (case k29 => k_is)
    (case x0 => k_is)
    (case y0 => k_is)
    (case x1 => k_is)
    (case x2 => k_is)
    (case x3 => k_is)
    (case y3 => k_is)
    (case x4 => k_is)
    (case dx0 => k_is)
    (case dl0 => k_is)
    (case dk0 => k_keys)
    (case dw0 => first | rfl | decide)
    (case ds0 => rfl)
    (case dv0_12 => k_is)
    (case dv0_11 => k_is)
    (case dv0_10 => k_is)
    (case dv0_9 => k_is)
    (case dv0_8 => k_is)
    (case dv0_7 => k_is)
    (case dv0_6 => k_is)
    (case dv0_5 => k_is)
    (case dv0_4 => k_is)
    (case dv0_3 => k_is)
    (case dv0_2 => k_is)
    (case dv0_1 => k_is)
    (case dv0_0 => k_is)
    (case z_all => k_is)
    (case z_bool => k_is)
    (case z_int => k_is)
    (case z_isinstance => k_is)
    (case z_len => k_is)
    (case z_list => k_is)
    (case z_min => k_is)
    (case z_range => k_is)
    (case z_sorted => k_is)
    (case z_str => k_is)
    (case z_tuple => k_is)
    (case z_zip => k_is)
