import PyProof.Rows.All
import Wide.All
import OpenK.AllK
import Wide.FinOn
import HandS.ForMost
import HandS.ForExc
import HandS.Walk
import HandS.TupAny
import HandS.TupMul
import HandS.Wide
import HandS.IsInst
import HandS.Rev
import HandS.Zip
import HandS.RevRange
import HandS.Conv
import KE.KRevSl
import HandS.Style
import HandS.Iter
import KE.KDictZip
import KE.GoesEnum
import HandS.HotCalls
import HandS.ExcIs
import HandS.TryOnly
import KE.GoesEnumKw
import PyProof.Rows.CallKwBuiltin
import HandS.SortInts
import KE.DataMinMax
import HandS.RevTup
import KE.GoesMore
import HandS.Strs
import PySem.Challenge.RW_loopwright_k34_whole_half_twists_and_for
set_option Elab.async false
set_option linter.all false
set_option maxRecDepth 100000
set_option maxHeartbeats 4000000
/-! Wk1: data D, results R, what a heap knows of data, growth of heaps. -/
namespace Wk
open PySem PySem.Spec PyProof.Rows L2

def isComp : Expr → Bool
  | .ListComp .. => true
  | .SetComp .. => true
  | .DictComp .. => true
  | _ => false
theorem swaps_no {e : Expr} {t : Option Expr} {l : Nat} {env : Env} (h : isComp e = false) : swapsWith e t l env = pure false := by
  cases e <;> first | rfl | cases h
theorem swapsS_no {t e : Expr} {l : Nat} {env : Env} (h : isComp e = false) : swapsWithSole [t] e l env = pure false := swaps_no h
/-- plain data -/
inductive D where
  | non | bl (b : Bool) | int (i : Int) | str (x : Str)
  | lst (xs : List D) | tup (xs : List D) | dK (ks : List Key) (ds : List D) | dT (ks : List (List Key)) (ds : List D) | exc (c : Nat) | frl (xs : List D) | tux (xs : List D) | ob (C : Addr) (n pw : D) (xs : List D)

/-- a run's result: a value, a refusal by its number, or nothing known -/
inductive R (α : Type) where
  | ok (a : α) | err (c : Nat) | bad
def R.bnd {α β : Type} (m : R α) (f : α → R β) : R β := match m with
  | .ok a => f a
  | .err c => .err c
  | .bad => .bad
/-- two things at once -/
def R.bnd2 {α β γ : Type} (m : R (α × β)) (f : α → β → R γ) : R γ := m.bnd fun r => f r.1 r.2
@[simp] theorem bnd2_ok {α β γ : Type} (a : α) (b : β) (f : α → β → R γ) : (R.ok (a, b)).bnd2 f = f a b := by exact id rfl
@[simp] theorem bnd2_err {α β γ : Type} (c : Nat) (f : α → β → R γ) : (R.err c : R (α × β)).bnd2 f = .err c := by exact id rfl
@[simp] theorem bnd2_bad {α β γ : Type} (f : α → β → R γ) : (R.bad : R (α × β)).bnd2 f = .bad := by exact id rfl
@[simp] theorem bnd_ok {α β : Type} (a : α) (f : α → R β) : (R.ok a).bnd f = f a := by exact id rfl
@[simp] theorem bnd_err {α β : Type} (c : Nat) (f : α → R β) : (R.err c : R α).bnd f = .err c := by exact id rfl
@[simp] theorem bnd_bad {α β : Type} (f : α → R β) : (R.bad : R α).bnd f = .bad := by exact id rfl
def R.of {α : Type} (o : Option α) : R α := match o with
  | some a => .ok a
  | none => .bad
@[simp] theorem of_some {α : Type} (a : α) : R.of (some a) = .ok a := by exact id rfl
@[simp] theorem of_none {α : Type} : R.of (none : Option α) = .bad := by exact id rfl
theorem bnd_assoc {α β γ : Type} (m : R α) (f : α → R β) (g : β → R γ) : (m.bnd f).bnd g = m.bnd fun x => (f x).bnd g := by
  cases m <;> rfl
def wp {α : Type} (m : R α) (P : α → Prop) (E : Nat → Prop) : Prop := match m with
  | .ok a => P a
  | .err c => E c
  | .bad => False
theorem wp_of {α : Type} {o : Option α} {P : α → Prop} {E : Nat → Prop} (h : wp (R.of o) P E) : ∃ a, o = some a ∧ P a := by
  cases o with
  | some a => exact ⟨a, rfl, h⟩
  | none => exact h.elim
theorem wp_bnd {α β : Type} {m : R α} {f : α → R β} {P : β → Prop} {E : Nat → Prop} : wp (m.bnd f) P E ↔ wp m (fun a => wp (f a) P E) E := by
  cases m <;> exact Iff.rfl
theorem wp_mono {α : Type} {m : R α} {P P' : α → Prop} {E E' : Nat → Prop} (h : wp m P E) (hp : ∀ a, P a → P' a) (he : ∀ c, E c → E' c) : wp m P' E' := by
  cases m with
  | ok a => exact hp a h
  | err c => exact he c h
  | bad => exact h

/-! ### what is known of heaps -/
def plainO : HO → Bool
  | .lst _ => true
  | .tup _ => true
  | .dK _ => true
  | .dT _ => true
  | .ext _ => true
  | .frz _ (.tup _) => true
  | .ins _ _ _ => true
  | _ => false
def Le (G G' : Hp) : Prop := ∀ a o, plainO o = true → Rd G a o → Rd G' a o
theorem Le.refl (G : Hp) : Le G G := fun _ _ _ h => h
theorem Le.trans {G G1 G2 : Hp} (a : Le G G1) (b : Le G1 G2) : Le G G2 := fun x o p h => b x o p (a x o p h)
theorem Le.of {G G' : Hp} (h : ∀ a o, G a = some o → G' a = some o) : Le G G' := fun a o _ r => by
  rcases r with r | ⟨u, r⟩
  · exact .inl (h _ _ r)
  · exact .inr ⟨u, h _ _ r⟩
theorem Le.upd {G : Hp} {p : Addr} {o : HO} (h : G p = none) : Le G (upd G p o) := Le.of fun a u e => by
  rw [upd_ne (ne_of_none e h)]
  exact e
theorem Le.seqL {K : PySem.W.Frag} {G G' : Hp} {a : Addr} {xs : List V} (l : Le G G') (h : SqL K G a xs) : SqL K G' a xs := h.imp (l _ _ rfl) id
theorem Le.seqT {K : PySem.W.Frag} {G G' : Hp} {a : Addr} {xs : List V} (l : Le G G') (h : SqT K G a xs) : SqT K G' a xs := h.imp (l _ _ rfl) id

/-- the fields of an object of the class Form -/
def fF (n pw : V) (q : Addr) : List (Str × V) := putF "rows" (.ref q) (putF "power" pw (putF "strands" n []))
/-- a tuple that is known to have no dict of its own -/
def XTu (G : Hp) (a : Addr) (xs : List V) : Prop := Rd G a (.tup xs) ∧ ∃ o : Obj, Rd G a (.frz o (.tup xs)) ∧ o.cls = .type "tuple" ∧ o.dict = none
theorem XTu.up {G G' : Hp} {a : Addr} {xs : List V} (l : Le G G') (h : XTu G a xs) : XTu G' a xs := ⟨l _ _ rfl h.1, let ⟨o, h1, h2⟩ := h.2; ⟨o, l _ _ rfl h1, h2⟩⟩

/-! v stands for d, as G knows -/
mutual
inductive Rp (K : PySem.W.Frag) (G : Hp) : V → D → Prop
  | non : Rp K G .non .non
  | bl (b : Bool) : Rp K G (.bl b) (.bl b)
  | int (i : Int) : Rp K G (.int i) (.int i)
  | str (x : Str) : Rp K G (.str x) (.str x)
  | lst {a : Addr} {xs : List V} {ds : List D} : Rd G a (.lst xs) → RpAll K G xs ds → Rp K G (.ref a) (.lst ds)
  | tup {a : Addr} {xs : List V} {ds : List D} : SqT K G a xs → RpAll K G xs ds → Rp K G (.ref a) (.tup ds)
  | dK {a : Addr} {kvs : List (Key × V)} {ks : List Key} {vs : List V} {ds : List D} : Rd G a (.dK kvs) → kvs = ks.zip vs → ks.length = vs.length → ks.Nodup → RpAll K G vs ds → Rp K G (.ref a) (.dK ks ds)
  | dT {a : Addr} {kvs : List (List Key × V)} {ks : List (List Key)} {vs : List V} {ds : List D} : Rd G a (.dT kvs) → kvs = ks.zip vs → ks.length = vs.length → ks.Nodup → RpAll K G vs ds → Rp K G (.ref a) (.dT ks ds)
  | frl {a : Addr} {xs : List V} {ds : List D} : SqL K G a xs → RpAll K G xs ds → Rp K G (.ref a) (.frl ds)
  | tux {a : Addr} {xs : List V} {ds : List D} : XTu G a xs → RpAll K G xs ds → Rp K G (.ref a) (.tux ds)
  | ob {p q C dx : Addr} {vn vp : V} {n pw : D} {xs : List V} {ds : List D} : Rd G p (.ins C dx (fF vn vp q)) → Rd G q (.lst xs) → Rp K G vn n → Rp K G vp pw → RpAll K G xs ds → Rp K G (.ref p) (.ob C n pw ds)
inductive RpAll (K : PySem.W.Frag) (G : Hp) : List V → List D → Prop
  | nil : RpAll K G [] []
  | cons {v : V} {vs : List V} {d : D} {ds : List D} : Rp K G v d → RpAll K G vs ds → RpAll K G (v :: vs) (d :: ds)
end
section
variable {K : PySem.W.Frag} {G G' : Hp}
mutual
theorem Rp.up (l : Le G G') : ∀ {d : D} {v : V}, Rp K G v d → Rp K G' v d
  | .non, _, h => by cases h; exact .non
  | .bl b, _, h => by cases h; exact .bl b
  | .int i, _, h => by cases h; exact .int i
  | .str x, _, h => by cases h; exact .str x
  | .lst ds, _, h => by
    cases h with
    | lst a b => exact .lst (l _ _ rfl a) (RpAll.up l b)
  | .tup ds, _, h => by
    cases h with
    | tup a b => exact .tup (l.seqT a) (RpAll.up l b)
  | .dK ks ds, v, h => by
    cases h with
    | dK r e1 e2 nd b => exact .dK (l _ _ rfl r) e1 e2 nd (RpAll.up l b)
  | .dT ks ds, v, h => by
    cases h with
    | dT r e1 e2 nd b => exact .dT (l _ _ rfl r) e1 e2 nd (RpAll.up l b)
  | .exc c, v, h => by cases h
  | .frl ds, _, h => by
    cases h with
    | frl a b => exact .frl (l.seqL a) (RpAll.up l b)
  | .tux ds, _, h => by
    cases h with
    | tux a b => exact .tux (a.up l) (RpAll.up l b)
  | .ob C n pw ds, _, h => by
    cases h with
    | ob a b c d e => exact .ob (l _ _ rfl a) (l _ _ rfl b) (Rp.up l c) (Rp.up l d) (RpAll.up l e)
theorem RpAll.up (l : Le G G') : ∀ {ds : List D} {vs : List V}, RpAll K G vs ds → RpAll K G' vs ds
  | [], _, h => by cases h; exact .nil
  | d :: ds, _, h => by
    cases h with
    | cons a b => exact .cons (Rp.up l a) (RpAll.up l b)
end
end
end Wk
set_option maxHeartbeats 4000000
/-! Wk2: slots, growth, judgements of expressions. -/
namespace Wk
open PySem PySem.Spec PyProof.Rows L2

/-- what an owned object holds -/
inductive OO where
  | l (ds : List D)
  | f (p C : Addr) (n pw : D) (ds : List D)
/-- the address that stands for it: a list's own; an object's, its list being what changes -/
def OO.top (q : Addr) : OO → Addr
  | .l _ => q
  | .f p _ _ _ _ => p
def OO.ob : OO → Option Addr
  | .l _ => none
  | .f p _ _ _ _ => some p
/-- a slot: data that stand for ever, or an object of the def's own -/
inductive DV where
  | v (d : D) | o (io : Bool) (p : Addr) (c : OO)
abbrev En := List (Option DV)
section
variable (K : PySem.W.Frag)
def OwnRp (G H : Hp) (p : Addr) : OO → Prop
  | .l ds => ∃ vs, H p = some (.lst vs) ∧ RpAll K G vs ds
  | .f a C n pw ds => G a = none ∧ ∃ dx vn vp vs, H a = some (.ins C dx (fF vn vp p)) ∧ H p = some (.lst vs) ∧ Rp K G vn n ∧ Rp K G vp pw ∧ RpAll K G vs ds
def RpV (G H : Hp) (v : V) : DV → Prop
  | .v d => Rp K G v d
  | .o _ p c => v = .ref (c.top p) ∧ G p = none ∧ OwnRp K G H p c
structure Lk (G H : Hp) : Prop where
  le : Le G H
  kn : ∀ a, H a = none → G a = none
structure Sl (en : En) (σ : L2.St) (G H : Hp) : Prop where
  le : Lk G H
  len : σ.length = en.length
  at_ : ∀ (i : Nat) (dv : DV), en[i]? = some (some dv) → ∃ v, σ[i]? = some (some v) ∧ RpV K G H v dv
  one : ∀ (i j : Nat) (b b' : Bool) (p : Addr) (c c' : OO), en[i]? = some (some (.o b p c)) → en[j]? = some (some (.o b' p c')) → i = j
end
structure Grow (G H G2 H2 : Hp) : Prop where
  g : Le G G2
  up : Lk G2 H2
  h : ∀ a o, H a = some o → H2 a = some o
  cl : ∀ a, G a = none → H a ≠ none → G2 a = none
theorem ne_of_ne {H H2 : Hp} (h : ∀ a o, H a = some o → H2 a = some o) {a : Addr} (n : H a ≠ none) : H2 a ≠ none := by
  cases e : H a with
  | none => exact absurd e n
  | some o => rw [h a o e]; intro z; cases z
theorem Grow.refl {G H : Hp} (l : Lk G H) : Grow G H G H := ⟨Le.refl _, l, fun _ _ h => h, fun _ h _ => h⟩
theorem Grow.trans {G H G1 H1 G2 H2 : Hp} (a : Grow G H G1 H1) (b : Grow G1 H1 G2 H2) : Grow G H G2 H2 :=
  ⟨a.g.trans b.g, b.up, fun x o h => b.h x o (a.h x o h), fun x n m => b.cl x (a.cl x n m) (ne_of_ne a.h m)⟩
section
variable {K : PySem.W.Frag} {G H G2 H2 : Hp}
theorem OwnRp.grow {p : Addr} {c : OO} (w : Grow G H G2 H2) (h : OwnRp K G H p c) : OwnRp K G2 H2 p c := by
  cases c with
  | l ds => obtain ⟨vs, e, r⟩ := h; exact ⟨vs, w.h _ _ e, r.up w.g⟩
  | f a C n pw ds => obtain ⟨g0, dx, vn, vp, vs, e1, e2, r1, r2, r3⟩ := h; exact ⟨w.cl _ g0 (by rw [e1]; intro z; cases z), dx, vn, vp, vs, w.h _ _ e1, w.h _ _ e2, r1.up w.g, r2.up w.g, r3.up w.g⟩
theorem OwnRp.there {p : Addr} {c : OO} (h : OwnRp K G H p c) : H p ≠ none := by
  cases c with
  | l ds => obtain ⟨vs, e, r⟩ := h; rw [e]; intro z; cases z
  | f a C n pw ds => obtain ⟨_, dx, vn, vp, vs, _, e2, _⟩ := h; rw [e2]; intro z; cases z
theorem OwnRp.lst {p : Addr} {c : OO} (h : OwnRp K G H p c) : ∃ vs, H p = some (.lst vs) := by
  cases c with
  | l ds => obtain ⟨vs, e, _⟩ := h; exact ⟨vs, e⟩
  | f a C n pw ds => obtain ⟨_, dx, vn, vp, vs, _, e2, _⟩ := h; exact ⟨vs, e2⟩
theorem RpV.grow {v : V} {dv : DV} (w : Grow G H G2 H2) (h : RpV K G H v dv) : RpV K G2 H2 v dv := by
  cases dv with
  | v d => exact Rp.up w.g h
  | o _ p c => obtain ⟨a, b, d⟩ := h; exact ⟨a, w.cl _ b d.there, d.grow w⟩
theorem Sl.grow {en : En} {σ : L2.St} (s : Sl K en σ G H) (w : Grow G H G2 H2) : Sl K en σ G2 H2 :=
  ⟨w.up, s.len, fun i dv e => by obtain ⟨v, a, b⟩ := s.at_ i dv e; exact ⟨v, a, b.grow w⟩, s.one⟩
/-- a new object that stands for ever -/
theorem Grow.new {p : Addr} {o : HO} (l : Lk G H) (h : H p = none) (hp : plainO o = true) : Grow G H (upd G p o) (upd H p o) := by
  have hg := l.kn p h
  refine ⟨Le.upd hg, ⟨fun a u pu r => ?_, fun a n => ?_⟩, fun a u e => by rw [upd_ne (ne_of_none e h)]; exact e, fun a n m => ?_⟩
  · by_cases e : a = p
    · subst e
      rcases r with r | ⟨z, r⟩
      · rw [upd_same] at r; exact .inl (by rw [upd_same]; exact r)
      · rw [upd_same] at r; exact .inr ⟨z, by rw [upd_same]; exact r⟩
    · have r' : Rd G a u := by
        rcases r with r | ⟨z, r⟩
        · rw [upd_ne e] at r; exact .inl r
        · rw [upd_ne e] at r; exact .inr ⟨z, r⟩
      rcases l.le a u pu r' with r | ⟨z, r⟩
      · exact .inl (by rw [upd_ne e]; exact r)
      · exact .inr ⟨z, by rw [upd_ne e]; exact r⟩
  · by_cases e : a = p
    · subst e; rw [upd_same] at n; cases n
    · rw [upd_ne e] at n ⊢; exact l.kn a n
  · have e : a ≠ p := fun z => m (by rw [z]; exact h)
    rw [upd_ne e]; exact n
/-- a new object that may change -/
theorem Grow.own {p : Addr} {o : HO} (l : Lk G H) (h : H p = none) : Grow G H G (upd H p o) := by
  refine ⟨Le.refl _, ⟨l.le.trans (Le.upd h), fun a n => ?_⟩, fun a u e => by rw [upd_ne (ne_of_none e h)]; exact e, fun a n _ => n⟩
  by_cases e : a = p
  · subst e; rw [upd_same] at n; cases n
  · rw [upd_ne e] at n; exact l.kn a n
end

/-! ### readings that are the weakest there are -/
def wE (X : Cx) (e : Expr) : TE := fun σ H Q => ∀ (pins : List (Addr × Obj)) (s : Shared), Inv X pins σ H s → wpAny (model X.prog X.w) X.A (eval e X.env) (EP X pins σ Q) X.xe s
theorem pe_w {X : Cx} {e : Expr} : PE X e (wE X e) := ⟨fun pins s _ _ _ I h => h pins s I⟩
theorem pe_to {X : Cx} {e : Expr} {t : TE} (p : PE X e t) {σ : L2.St} {H : Hp} {Q : VK} (h : t σ H Q) : wE X e σ H Q := fun pins s I => p.run pins s σ H Q I h
def wT (X : Cx) (e : Expr) : TT := fun σ H Q => ∀ (pins : List (Addr × Obj)) (s : Shared), Inv X pins σ H s → wpAny (model X.prog X.w) X.A (isTrue e X.env (eval e X.env)) (TP X pins σ Q) X.xe s
theorem pt_w {X : Cx} {e : Expr} : PT X e (wT X e) := ⟨fun pins s _ _ _ I h => h pins s I⟩
theorem pt_to {X : Cx} {e : Expr} {t : TT} (p : PT X e t) {σ : L2.St} {H : Hp} {Q : Bool → Hp → Prop} (h : t σ H Q) : wT X e σ H Q := fun pins s I => p.run pins s σ H Q I h
def wW (X : Cx) (e : Expr) : TT := fun σ H Q => ∀ (whole : Sem Value) (pins : List (Addr × Obj)) (s : Shared), Inv X pins σ H s → wpAny (model X.prog X.w) X.A (isTrue e X.env whole) (TP X pins σ Q) X.xe s
theorem pw_w {X : Cx} {e : Expr} : PW X e (wW X e) := ⟨fun wh pins s _ _ _ I h => h wh pins s I⟩
theorem pw_to {X : Cx} {e : Expr} {t : TT} (p : PW X e t) {σ : L2.St} {H : Hp} {Q : Bool → Hp → Prop} (h : t σ H Q) : wW X e σ H Q := fun wh pins s I => p.run wh pins s σ H Q I h
def wA (X : Cx) (es : List Expr) : TA := fun σ H Q => ∀ (pos : Pos) (pins : List (Addr × Obj)) (s : Shared), Inv X pins σ H s → wpAny (model X.prog X.w) X.A (spliced (backTo pos (starEach es X.env))) (AP X pins σ Q) X.xe s
theorem pa_w {X : Cx} {es : List Expr} : PA X es (wA X es) := ⟨fun pos pins s _ _ _ I h => h pos pins s I⟩
theorem pa_to {X : Cx} {es : List Expr} {t : TA} (p : PA X es t) {σ : L2.St} {H : Hp} {Q : List V → Hp → Prop} (h : t σ H Q) : wA X es σ H Q := fun pos pins s I => p.run pos pins s σ H Q I h
def wS (X : Cx) (st : Stmt) : TS := fun D σ H => ∀ (pins : List (Addr × Obj)) (s : Shared), Inv X pins σ H s → wpAny (model X.prog X.w) X.A (exec st X.env) (SP X pins D) X.xe s
theorem ps_w {X : Cx} {st : Stmt} : PS X st (wS X st) := ⟨fun pins s _ _ _ I h => h pins s I⟩
theorem ps_to {X : Cx} {st : Stmt} {t : TS} (p : PS X st t) {D : Ends} {σ : L2.St} {H : Hp} (h : t D σ H) : wS X st D σ H := fun pins s I => p.run pins s σ H D I h
def wB (X : Cx) (st : List Stmt) : TS := fun D σ H => ∀ (pins : List (Addr × Obj)) (s : Shared), Inv X pins σ H s → wpAny (model X.prog X.w) X.A (execs st X.env) (SP X pins D) X.xe s
theorem pss_w {X : Cx} {st : List Stmt} : PSs X st (wB X st) := ⟨fun pins s _ _ _ I h => h pins s I⟩
theorem pss_to {X : Cx} {st : List Stmt} {t : TS} (p : PSs X st t) {D : Ends} {σ : L2.St} {H : Hp} (h : t D σ H) : wB X st D σ H := fun pins s I => p.run pins s σ H D I h
def wI (X : Cx) (tg it : Expr) : TI := fun σ H Q => ∀ (pins : List (Addr × Obj)) (s : Shared), Inv X pins σ H s →
  wpAny (model X.prog X.w) X.A (eval it X.env) (fun v s1 => wpAny (model X.prog X.w) X.A (pyIter v) (PIE X pins σ tg Q) X.xe s1) X.xe s
theorem pi_w {X : Cx} {tg it : Expr} : PI X tg it (wI X tg it) := ⟨fun pins s _ _ _ I h => h pins s I⟩
theorem pi_to {X : Cx} {tg it : Expr} {t : TI} (p : PI X tg it t) {σ : L2.St} {H : Hp} {Q : It → Hp → Prop} (h : t σ H Q) : wI X tg it σ H Q := fun pins s I => p.run pins s σ H Q I h
def wO (X : Cx) (e : Option Expr) : TO := fun σ H Q => ∀ (t : TO), PO X e t → True → ∀ R, R = Q → t σ H R

/-! ### judgements of expressions that own nothing anew -/
/-- what is wished of refusals -/
abbrev WN := Nat → L2.St → Hp → Prop
section
variable (X : Cx) (W : WN)
def XP (e : Expr) (en : En) (m : R D) : Prop := ∀ σ G H, Sl X.K en σ G H → ∀ Q : VK,
  wp m (fun d => ∀ v G2 H2, Grow G H G2 H2 → Rp X.K G2 v d → Q v H2) (fun c => ∀ G2 H2, Grow G H G2 H2 → W c σ H2) → wE X e σ H Q
/-- a new list, the asker's own -/
def XN (e : Expr) (en : En) (m : R (List D)) : Prop := ∀ σ G H, Sl X.K en σ G H → ∀ Q : VK,
  wp m (fun ds => ∀ p vs G2 H2, Grow G H G2 H2 → H p = none → G2 p = none → H2 p = some (.lst vs) → RpAll X.K G2 vs ds → Q (.ref p) H2) (fun c => ∀ G2 H2, Grow G H G2 H2 → W c σ H2) → wE X e σ H Q
def XT (e : Expr) (en : En) (m : R Bool) : Prop := ∀ σ G H, Sl X.K en σ G H → ∀ Q : Bool → Hp → Prop,
  wp m (fun b => ∀ G2 H2, Grow G H G2 H2 → Q b H2) (fun c => ∀ G2 H2, Grow G H G2 H2 → W c σ H2) → wT X e σ H Q
def XW (e : Expr) (en : En) (m : R Bool) : Prop := ∀ σ G H, Sl X.K en σ G H → ∀ Q : Bool → Hp → Prop,
  wp m (fun b => ∀ G2 H2, Grow G H G2 H2 → Q b H2) (fun c => ∀ G2 H2, Grow G H G2 H2 → W c σ H2) → wW X e σ H Q
def XA (es : List Expr) (en : En) (m : R (List D)) : Prop := ∀ σ G H, Sl X.K en σ G H → ∀ Q : List V → Hp → Prop,
  wp m (fun ds => ∀ vs G2 H2, Grow G H G2 H2 → RpAll X.K G2 vs ds → Q vs H2) (fun c => ∀ G2 H2, Grow G H G2 H2 → W c σ H2) → wA X es σ H Q
end
/-- an operation on values -/
def OpD (K : PySem.W.Frag) (r : R2) (f : D → D → Option D) : Prop := ∀ G H x y dx dy d, Lk G H → Rp K G x dx → Rp K G y dy → f dx dy = some d → ∀ Q : VK,
  (∀ v G2 H2, Grow G H G2 H2 → Rp K G2 v d → Q v H2) → r x y H Q
def UnD (K : PySem.W.Frag) (r : V → Hp → VK → Prop) (f : D → Option D) : Prop := ∀ G H x dx d, Lk G H → Rp K G x dx → f dx = some d → ∀ Q : VK,
  (∀ v G2 H2, Grow G H G2 H2 → Rp K G2 v d → Q v H2) → r x H Q
def CallD (K : PySem.W.Frag) (r : List V → Hp → VK → Prop) (f : List D → Option D) : Prop := ∀ G H xs ds d, Lk G H → RpAll K G xs ds → f ds = some d → ∀ Q : VK,
  (∀ v G2 H2, Grow G H G2 H2 → Rp K G2 v d → Q v H2) → r xs H Q
def NewL (K : PySem.W.Frag) (G H : Hp) (ds : List D) (Q : VK) : Prop := ∀ p vs G2 H2, Grow G H G2 H2 → H p = none → G2 p = none → H2 p = some (.lst vs) → RpAll K G2 vs ds → Q (.ref p) H2
/-- an operation that makes a new list -/
def OpN (K : PySem.W.Frag) (r : R2) (f : D → D → Option (List D)) : Prop := ∀ G H x y dx dy d, Lk G H → Rp K G x dx → Rp K G y dy → f dx dy = some d → ∀ Q : VK, NewL K G H d Q → r x y H Q
def CallN (K : PySem.W.Frag) (r : List V → Hp → VK → Prop) (f : List D → Option (List D)) : Prop := ∀ G H xs ds d, Lk G H → RpAll K G xs ds → f ds = some d → ∀ Q : VK, NewL K G H d Q → r xs H Q
section
variable {X : Cx} {W : WN} {en : En} {a b c : Expr} {ma mb mc : R D} {pos : Pos}
theorem xp_var {i : Nat} {x : Str} {d : D} (he : en[i]? = some (some (.v d))) (hN : X.N[i]? = some x := by rfl) (hv : Vis X.env.scope x := by first | exact Or.inl rfl | exact Or.inr (Or.inl rfl) | exact Or.inr (Or.inr rfl))
    (hd : (x == ("__debug__" : Str)) = false := by decide) (hcd : (x == ("__classdict__" : Str)) = false := by decide) : XP X W (.Name x pos) en (.ok d) := fun σ G H S Q h => by
  obtain ⟨v, e, r⟩ := S.at_ i _ he
  exact pe_to (pe_var hN hv hd hcd) ⟨v, e, h v G H (Grow.refl S.le) r⟩
theorem xp_int {i : Int} {j : Nat} : XP X W (.Constant (.int i) j pos) en (.ok (.int i)) := fun σ G H S Q h => pe_to pe_int (h _ G H (Grow.refl S.le) (.int i))
theorem xp_bl {i : Bool} {j : Nat} : XP X W (.Constant (.bool i) j pos) en (.ok (.bl i)) := fun σ G H S Q h => pe_to pe_bl (h _ G H (Grow.refl S.le) (.bl i))
theorem xp_non {j : Nat} : XP X W (.Constant .none j pos) en (.ok .non) := fun σ G H S Q h => pe_to pe_non (h _ G H (Grow.refl S.le) .non)
theorem xp_str {x : Str} {j : Nat} : XP X W (.Constant (.str x) j pos) en (.ok (.str x)) := fun σ G H S Q h => pe_to pe_str (h _ G H (Grow.refl S.le) (.str x))
/-- a module's constant -/
theorem xp_globI {x : Str} {i : Int} {u : Value} (hg : Gl X x) (hm : X.mg x = some u) (r : RelV (.int i) u) (hd : (x == ("__debug__" : Str)) = false := by decide) : XP X W (.Name x pos) en (.ok (.int i)) := fun σ G H S Q h => pe_to (pe_glob hg hm r hd) (h _ G H (Grow.refl S.le) (.int i))
theorem xp_globS {x : Str} {i : Str} {u : Value} (hg : Gl X x) (hm : X.mg x = some u) (r : RelV (.str i) u) (hd : (x == ("__debug__" : Str)) = false := by decide) : XP X W (.Name x pos) en (.ok (.str i)) := fun σ G H S Q h => pe_to (pe_glob hg hm r hd) (h _ G H (Grow.refl S.le) (.str i))
theorem xp_two {f : D → D → Option D} {r : R2} {e : Expr} (hf : OpD X.K r f) (ha : XP X W a en ma) (hb : XP X W b en mb) (hr : PE X e (tOp r (wE X a) (wE X b))) : XP X W e en (ma.bnd fun x => mb.bnd fun y => R.of (f x y)) := fun σ G H S Q h => by
  refine pe_to hr (ha σ G H S _ (wp_mono (wp_bnd.mp h) (fun x hx v G1 H1 w1 r1 => ?_) fun _ z => z))
  refine hb σ G1 H1 (S.grow w1) _ (wp_mono (wp_bnd.mp hx) (fun y hy u G2 H2 w2 r2 => ?_) fun _ z G2 H2 w => z G2 H2 (w1.trans w))
  obtain ⟨d, e, hd⟩ := wp_of hy
  exact hf G2 H2 v u x y d w2.up (r1.up w2.g) r2 e Q fun v G3 H3 w3 r3 => hd v G3 H3 ((w1.trans w2).trans w3) r3
theorem xp_op {op : Operator} {r : R2} {f : D → D → Option D} (ho : OpR X (binaryOp op) r) (hf : OpD X.K r f) (ha : XP X W a en ma) (hb : XP X W b en mb) : XP X W (.BinOp a op b pos) en (ma.bnd fun x => mb.bnd fun y => R.of (f x y)) :=
  xp_two hf ha hb (pe_op ho pe_w pe_w)
theorem xp_cmp {op : CmpOp} {r : R2} {f : D → D → Option D} (ho : OpR X (compareOp op) r) (hf : OpD X.K r f) (hm : behindInMarks op b = false) (ha : XP X W a en ma) (hb : XP X W b en mb) : XP X W (.Compare a [op] [b] pos) en (ma.bnd fun x => mb.bnd fun y => R.of (f x y)) :=
  xp_two hf ha hb (pe_cmpR ho pe_w pe_w hm)
theorem xp_ix {r : R2} {f : D → D → Option D} (ho : IxR X r) (hf : OpD X.K r f) (hs : PlainIx b) (ha : XP X W a en ma) (hb : XP X W b en mb) : XP X W (.Subscript a b pos) en (ma.bnd fun x => mb.bnd fun y => R.of (f x y)) :=
  xp_two hf ha hb (pe_ix ho pe_w pe_w hs)
theorem xp_un {op : UnaryOp} {r : V → Hp → VK → Prop} {f : D → Option D} (ho : UnR X (unaryOp op) r) (hf : UnD X.K r f) (ha : XP X W a en ma) : XP X W (.UnaryOp op a pos) en (ma.bnd fun x => R.of (f x)) := fun σ G H S Q h => by
  refine pe_to (pe_un ho pe_w) (ha σ G H S _ (wp_mono (wp_bnd.mp h) (fun x hx v G1 H1 w1 r1 => ?_) fun _ z => z))
  obtain ⟨d, e, hd⟩ := wp_of hx
  exact hf G1 H1 v x d w1.up r1 e Q fun v G3 H3 w3 r3 => hd v G3 H3 (w1.trans w3) r3
/-! arguments -/
theorem xa_nil : XA X W [] en (.ok []) := fun σ G H S Q h => pa_to pa_nil (h [] G H (Grow.refl S.le) .nil)
theorem xa_cons {es : List Expr} {ms : R (List D)} (ha : XP X W a en ma) (hs : XA X W es en ms) (he : starEach (a :: es) X.env = (false, eval a X.env) :: starEach es X.env := by rfl) : XA X W (a :: es) en (ma.bnd fun x => ms.bnd fun xs => .ok (x :: xs)) := fun σ G H S Q h => by
  refine pa_to (pa_cons pe_w pa_w he) (ha σ G H S _ (wp_mono (wp_bnd.mp h) (fun x hx v G1 H1 w1 r1 => ?_) fun _ z => z))
  exact hs σ G1 H1 (S.grow w1) _ (wp_mono (wp_bnd.mp hx) (fun y hy vs G2 H2 w2 r2 => hy (v :: vs) G2 H2 (w1.trans w2) (.cons (r1.up w2.g) r2)) fun _ z G2 H2 w => z G2 H2 (w1.trans w))
/-! a new list is data, when nobody changes it -/
theorem NewL.frz {K : PySem.W.Frag} {G H : Hp} {ds : List D} {Q : VK} (h : ∀ v G2 H2, Grow G H G2 H2 → Rp K G2 v (.lst ds) → Q v H2) : NewL K G H ds Q := fun p vs G2 H2 w hp gp e r => by
  have l : Le G2 (upd G2 p (.lst vs)) := Le.upd gp
  refine h (.ref p) (upd G2 p (.lst vs)) H2 ⟨w.g.trans l, ⟨fun a u pu ru => ?_, fun a n => ?_⟩, w.h, fun a n m => ?_⟩ (.lst (.inl upd_same) (r.up l))
  · by_cases ea : a = p
    · subst ea
      rcases ru with ru | ⟨z, ru⟩
      · rw [upd_same] at ru; cases ru; exact .inl e
      · rw [upd_same] at ru; cases ru
    · refine w.up.le a u pu ?_
      rcases ru with ru | ⟨z, ru⟩
      · rw [upd_ne ea] at ru; exact .inl ru
      · rw [upd_ne ea] at ru; exact .inr ⟨z, ru⟩
  · have ea : a ≠ p := fun z => by rw [z, e] at n; cases n
    rw [upd_ne ea]; exact w.up.kn a n
  · rw [upd_ne (fun z => m (by rw [z]; exact hp))]
    exact w.cl a n m
theorem xn_xp {e : Expr} {m : R (List D)} (h : XN X W e en m) : XP X W e en (m.bnd fun ds => .ok (.lst ds)) := fun σ G H S Q k => by
  refine h σ G H S Q (wp_mono (wp_bnd.mp k) (fun ds hd => ?_) fun _ z => z)
  exact NewL.frz hd
theorem xn_two {f : D → D → Option (List D)} {r : R2} {e : Expr} (hf : OpN X.K r f) (ha : XP X W a en ma) (hb : XP X W b en mb) (hr : PE X e (tOp r (wE X a) (wE X b))) : XN X W e en (ma.bnd fun x => mb.bnd fun y => R.of (f x y)) := fun σ G H S Q h => by
  refine pe_to hr (ha σ G H S _ (wp_mono (wp_bnd.mp h) (fun x hx v G1 H1 w1 r1 => ?_) fun _ z => z))
  refine hb σ G1 H1 (S.grow w1) _ (wp_mono (wp_bnd.mp hx) (fun y hy u G2 H2 w2 r2 => ?_) fun _ z G2 H2 w => z G2 H2 (w1.trans w))
  obtain ⟨d, e, hd⟩ := wp_of hy
  exact hf G2 H2 v u x y d w2.up (r1.up w2.g) r2 e Q fun p vs G3 H3 w3 hp gp e3 r3 => hd p vs G3 H3 ((w1.trans w2).trans w3) (Option.eq_none_iff_forall_ne_some.mpr fun o z => by rw [(w1.trans w2).h p o z] at hp; cases hp) gp e3 r3
/-- a size that lists may have here -/
def fits {α : Type} (ds : List α) : Option (List α) := if ds.length ≤ 16000000 then some ds else none
theorem fits_some {α : Type} {ds es : List α} (h : fits ds = some es) : es = ds ∧ ds.length ≤ 16000000 := by
  unfold fits at h
  split at h
  · rename_i z; exact ⟨(Option.some.inj h).symm, z⟩
  · cases h
theorem size_ok {n : Nat} (h : n ≤ 16000000) : n ≤ sizeLine := Nat.le_trans h (by decide)
theorem RpAll.len {K : PySem.W.Frag} {G : Hp} : ∀ {ds : List D} {vs : List V}, RpAll K G vs ds → vs.length = ds.length
  | [], _, h => by cases h; rfl
  | d :: ds, _, h => by
    cases h with
    | cons a b => simp only [List.length_cons, b.len]
/-- [..] -/
theorem xn_lst {es : List Expr} {ms : R (List D)} (ha : XA X W es en ms) : XN X W (.List es pos) en (ms.bnd fun ds => R.of (fits ds)) := fun σ G H S Q h => by
  refine pe_to (pe_lst pa_w) (ha σ G H S _ (wp_mono (wp_bnd.mp h) (fun ds hd vs G1 H1 w1 r1 => ?_) fun _ z => z))
  obtain ⟨es, e, hd'⟩ := wp_of hd
  obtain ⟨rfl, hl⟩ := fits_some e
  refine ⟨size_ok (by rw [r1.len]; exact hl), fun p hp => ?_⟩
  have w2 := w1.trans (Grow.own (o := .lst vs) w1.up hp)
  exact hd' p vs G1 _ w2 (Option.eq_none_iff_forall_ne_some.mpr fun o z => by rw [w1.h p o z] at hp; cases hp) (w1.up.kn p hp) upd_same r1
/-- (..) -/
theorem xp_tup {es : List Expr} {j : Nat} {ms : R (List D)} (ha : XA X W es en ms) : XP X W (.Tuple es j pos) en (ms.bnd fun ds => R.of ((fits ds).map .tup)) := fun σ G H S Q h => by
  refine pe_to (pe_tup pa_w) (ha σ G H S _ (wp_mono (wp_bnd.mp h) (fun ds hd vs G1 H1 w1 r1 => ?_) fun _ z => z))
  obtain ⟨es, e, hd'⟩ := wp_of hd
  obtain ⟨es', e', rfl⟩ := Option.map_eq_some_iff.mp e
  obtain ⟨rfl, hl⟩ := fits_some e'
  refine ⟨size_ok (by rw [r1.len]; exact hl), fun p hp => ?_⟩
  have w2 := Grow.new (o := .tup vs) w1.up hp rfl
  exact hd' _ _ _ (w1.trans w2) (.tup (.inl (.inl upd_same)) (r1.up w2.g))
/-! built-ins by name -/
theorem xp_callB {x : Str} {id : String} {e : Expr} {es : List Expr} {r : List V → Hp → VK → Prop} {f : List D → Option D} {ms : R (List D)} {p : Pos} (hc : CallR X (.builtin id) r) (hf : CallD X.K r f) (hg : Gl X x) (hm : X.mg x = none) (hv : bootBuiltins x = some (.builtin id))
    (ha : XA X W (e :: es) en ms) (hn : x ≠ "__name__" := by decide) (hdb : (x == ("__debug__" : Str)) = false := by decide) (h1 : starEach (e :: es) X.env = (false, eval e X.env) :: starEach es X.env := by rfl) (h2 : (backTo pos (starEach es X.env)).any (·.1) = false := by rfl) :
    XP X W (.Call (.Name x p) (e :: es) [] pos) en (ms.bnd fun ds => R.of (f ds)) := fun σ G H S Q h => by
  refine pe_to (pe_callB hc hg hm hv pa_w hn hdb h1 h2) (ha σ G H S _ (wp_mono (wp_bnd.mp h) (fun ds hd vs G1 H1 w1 r1 => ?_) fun _ z => z))
  obtain ⟨d, e, hd⟩ := wp_of hd
  exact hf G1 H1 vs ds d w1.up r1 e Q fun v G3 H3 w3 r3 => hd v G3 H3 (w1.trans w3) r3
theorem xp_callTy {x : Str} {id : String} {e : Expr} {es : List Expr} {r : List V → Hp → VK → Prop} {f : List D → Option D} {ms : R (List D)} {p : Pos} (hc : CallR X (.type id) r) (hf : CallD X.K r f) (hg : Gl X x) (hm : X.mg x = none) (hv : bootBuiltins x = some (.type id))
    (ha : XA X W (e :: es) en ms) (hn : x ≠ "__name__" := by decide) (hdb : (x == ("__debug__" : Str)) = false := by decide) (h1 : starEach (e :: es) X.env = (false, eval e X.env) :: starEach es X.env := by rfl) (h2 : (backTo pos (starEach es X.env)).any (·.1) = false := by rfl) :
    XP X W (.Call (.Name x p) (e :: es) [] pos) en (ms.bnd fun ds => R.of (f ds)) := fun σ G H S Q h => by
  refine pe_to (pe_callTy hc hg hm hv pa_w hn hdb h1 h2) (ha σ G H S _ (wp_mono (wp_bnd.mp h) (fun ds hd vs G1 H1 w1 r1 => ?_) fun _ z => z))
  obtain ⟨d, e, hd⟩ := wp_of hd
  exact hf G1 H1 vs ds d w1.up r1 e Q fun v G3 H3 w3 r3 => hd v G3 H3 (w1.trans w3) r3
theorem NewL.up {K : PySem.W.Frag} {G H G1 H1 : Hp} {ds : List D} {Q : VK} (w : Grow G H G1 H1) (h : NewL K G H ds Q) : NewL K G1 H1 ds Q := fun p vs G2 H2 w2 hp gp e r =>
  h p vs G2 H2 (w.trans w2) (Option.eq_none_iff_forall_ne_some.mpr fun o z => by rw [w.h p o z] at hp; cases hp) gp e r
theorem xn_callTy {x : Str} {id : String} {e : Expr} {es : List Expr} {r : List V → Hp → VK → Prop} {f : List D → Option (List D)} {ms : R (List D)} {p : Pos} (hc : CallR X (.type id) r) (hf : CallN X.K r f) (hg : Gl X x) (hm : X.mg x = none) (hv : bootBuiltins x = some (.type id))
    (ha : XA X W (e :: es) en ms) (hn : x ≠ "__name__" := by decide) (hdb : (x == ("__debug__" : Str)) = false := by decide) (h1 : starEach (e :: es) X.env = (false, eval e X.env) :: starEach es X.env := by rfl) (h2 : (backTo pos (starEach es X.env)).any (·.1) = false := by rfl) :
    XN X W (.Call (.Name x p) (e :: es) [] pos) en (ms.bnd fun ds => R.of (f ds)) := fun σ G H S Q h => by
  refine pe_to (pe_callTy hc hg hm hv pa_w hn hdb h1 h2) (ha σ G H S _ (wp_mono (wp_bnd.mp h) (fun ds hd vs G1 H1 w1 r1 => ?_) fun _ z => z))
  obtain ⟨d, e, hd⟩ := wp_of hd
  exact hf G1 H1 vs ds d w1.up r1 e Q (NewL.up w1 hd)
theorem xn_callB {x : Str} {id : String} {e : Expr} {es : List Expr} {r : List V → Hp → VK → Prop} {f : List D → Option (List D)} {ms : R (List D)} {p : Pos} (hc : CallR X (.builtin id) r) (hf : CallN X.K r f) (hg : Gl X x) (hm : X.mg x = none) (hv : bootBuiltins x = some (.builtin id))
    (ha : XA X W (e :: es) en ms) (hn : x ≠ "__name__" := by decide) (hdb : (x == ("__debug__" : Str)) = false := by decide) (h1 : starEach (e :: es) X.env = (false, eval e X.env) :: starEach es X.env := by rfl) (h2 : (backTo pos (starEach es X.env)).any (·.1) = false := by rfl) :
    XN X W (.Call (.Name x p) (e :: es) [] pos) en (ms.bnd fun ds => R.of (f ds)) := fun σ G H S Q h => by
  refine pe_to (pe_callB hc hg hm hv pa_w hn hdb h1 h2) (ha σ G H S _ (wp_mono (wp_bnd.mp h) (fun ds hd vs G1 H1 w1 r1 => ?_) fun _ z => z))
  obtain ⟨d, e, hd⟩ := wp_of hd
  exact hf G1 H1 vs ds d w1.up r1 e Q (NewL.up w1 hd)
/-! tests -/
theorem xt_cmp {op : CmpOp} {r : R2} {f : D → D → Option Bool} (ho : OpR X (compareOp op) r) (hf : OpD X.K r (fun x y => (f x y).map .bl)) (hm : behindInMarks op b = false) (ha : XP X W a en ma) (hb : XP X W b en mb) : XT X W (.Compare a [op] [b] pos) en (ma.bnd fun x => mb.bnd fun y => R.of (f x y)) := fun σ G H S Q h => by
  refine pt_to (pt_cmpR ho pe_w pe_w hm) (ha σ G H S _ (wp_mono (wp_bnd.mp h) (fun x hx v G1 H1 w1 r1 => ?_) fun _ z => z))
  refine hb σ G1 H1 (S.grow w1) _ (wp_mono (wp_bnd.mp hx) (fun y hy u G2 H2 w2 r2 => ?_) fun _ z G2 H2 w => z G2 H2 (w1.trans w))
  obtain ⟨d, e, hd⟩ := wp_of hy
  refine hf G2 H2 v u x y (.bl d) w2.up (r1.up w2.g) r2 (by show (f x y).map _ = _; rw [e]; rfl) _ fun v G3 H3 w3 r3 => ?_
  cases r3
  exact ⟨d, rfl, hd G3 H3 ((w1.trans w2).trans w3)⟩
def D.bool : D → Option Bool
  | .bl b => some b
  | _ => none
theorem xt_val {m : R D} (h : XP X W a en m) (he : ∀ whole, isTrue a X.env whole = (do let v ← whole; standAt a.pos; holding [v] (truthy v)) := by intro _; rfl) : XT X W a en (m.bnd fun d => R.of d.bool) := fun σ G H S Q k => by
  refine pt_to (pt_val pe_w he) (h σ G H S _ (wp_mono (wp_bnd.mp k) (fun x hx v G1 H1 w1 r1 => ?_) fun _ z => z))
  obtain ⟨d, e, hd⟩ := wp_of hx
  cases x <;> cases e
  cases r1
  exact ⟨_, rfl, hd G1 H1 w1⟩
variable {ta tb : R Bool} {rest : List Expr}
theorem xt_not (h : XT X W a en ta) : XT X W (.UnaryOp .Not a pos) en (ta.bnd fun x => .ok (!x)) := fun σ G H S Q k => by
  exact pt_to (pt_not pt_w) (h σ G H S _ (wp_mono (wp_bnd.mp k) (fun x hx G1 H1 w1 => hx G1 H1 w1) fun _ z => z))
theorem xt_w (h : XW X W a en ta) : XT X W a en ta := fun σ G H S Q k => pt_to (PW.pt pw_w) (h σ G H S Q k)
theorem xw_and1 (h : XT X W a en ta) : XW X W (.BoolOp .And [a] pos) en ta := fun σ G H S Q k => pw_to (pw_and1 pt_w) (h σ G H S Q k)
theorem xw_or1 (h : XT X W a en ta) : XW X W (.BoolOp .Or [a] pos) en ta := fun σ G H S Q k => pw_to (pw_or1 pt_w) (h σ G H S Q k)
theorem xw_and (ha : XT X W a en ta) (hb : XW X W (.BoolOp .And (b :: rest) pos) en tb) : XW X W (.BoolOp .And (a :: b :: rest) pos) en (ta.bnd fun x => if x = true then tb else .ok false) := fun σ G H S Q k => by
  refine pw_to (pw_and pt_w pw_w) (ha σ G H S _ (wp_mono (wp_bnd.mp k) (fun x hx G1 H1 w1 => ?_) fun _ z => z))
  cases x with
  | true => exact hb σ G1 H1 (S.grow w1) Q (wp_mono hx (fun y hy G2 H2 w2 => hy G2 H2 (w1.trans w2)) fun _ z G2 H2 w => z G2 H2 (w1.trans w))
  | false => exact hx G1 H1 w1
theorem xw_or (ha : XT X W a en ta) (hb : XW X W (.BoolOp .Or (b :: rest) pos) en tb) : XW X W (.BoolOp .Or (a :: b :: rest) pos) en (ta.bnd fun x => if x = true then .ok true else tb) := fun σ G H S Q k => by
  refine pw_to (pw_or pt_w pw_w) (ha σ G H S _ (wp_mono (wp_bnd.mp k) (fun x hx G1 H1 w1 => ?_) fun _ z => z))
  cases x with
  | false => exact hb σ G1 H1 (S.grow w1) Q (wp_mono hx (fun y hy G2 H2 w2 => hy G2 H2 (w1.trans w2)) fun _ z G2 H2 w => z G2 H2 (w1.trans w))
  | true => exact hx G1 H1 w1
end
end Wk
set_option maxHeartbeats 4000000
/-! Wk3: blocks. -/
namespace Wk
open PySem PySem.Spec PyProof.Rows L2

/-- where a def began: what was known, what stood, and the objects that it may change -/
structure Bs where
  G0 : Hp
  H0 : Hp
  io : List Addr
structure Fr8 (B : Bs) (G H : Hp) : Prop where
  up : Lk G H
  le0 : Le B.G0 G
  keep : ∀ a o, a ∉ B.io → B.H0 a = some o → H a = some o
  there : ∀ a, B.H0 a ≠ none → H a ≠ none
  cl : ∀ a, B.G0 a = none → B.H0 a ≠ none → G a = none
/-- what of it was there ahead -/
def OwnB (B : Bs) (b : Bool) (p : Addr) (c : OO) : Prop := (if b = true then p ∈ B.io else B.H0 p = none) ∧ ∀ a, c.ob = some a → a ∈ B.io ∨ B.H0 a = none
structure Es (K : PySem.W.Frag) (B : Bs) (en : En) (σ : L2.St) (G H : Hp) : Prop where
  fr : Fr8 B G H
  at_ : ∀ (i : Nat) (dv : DV), en[i]? = some (some dv) → ∃ v, σ[i]? = some (some v) ∧ RpV K G H v dv
  one : ∀ (i j : Nat) (b b' : Bool) (p : Addr) (c c' : OO), en[i]? = some (some (.o b p c)) → en[j]? = some (some (.o b' p c')) → i = j
  own : ∀ (i : Nat) (b : Bool) (p : Addr) (c : OO), en[i]? = some (some (.o b p c)) → OwnB B b p c
structure St8 (K : PySem.W.Frag) (B : Bs) (en : En) (σ : L2.St) (G H : Hp) : Prop where
  es : Es K B en σ G H
  len : σ.length = en.length
/-- less is known -/
inductive Wkn : En → En → Prop
  | nil : Wkn [] []
  | k {x : Option DV} {a b : En} : Wkn a b → Wkn (x :: a) (x :: b)
  | d {x : Option DV} {a b : En} : Wkn a b → Wkn (none :: a) (x :: b)
def Wk0 (e' e : En) : Prop := ∀ (i : Nat) (dv : DV), e'[i]? = some (some dv) → e[i]? = some (some dv)
theorem wk0_nil {e : En} : Wk0 [] e := fun i dv h => by simp at h
theorem wk0_refl {e : En} : Wk0 e e := fun i dv h => h
theorem Wkn.wk0 : ∀ {a b : En}, Wkn a b → Wk0 a b
  | _, _, .nil => wk0_refl
  | _, _, .k h => fun i dv e => by
    cases i with
    | zero => exact e
    | succ i => exact h.wk0 i dv e
  | _, _, .d h => fun i dv e => by
    cases i with
    | zero => cases e
    | succ i => exact h.wk0 i dv e
theorem Wkn.len {a b : En} (h : Wkn a b) : a.length = b.length := by
  induction h with
  | nil => rfl
  | k _ ih => simp only [List.length_cons, ih]
  | d _ ih => simp only [List.length_cons, ih]
section
variable {K : PySem.W.Frag} {B : Bs} {en : En} {σ : L2.St} {G H G2 H2 : Hp}
theorem St8.sl (s : St8 K B en σ G H) : Sl K en σ G H := ⟨s.es.fr.up, s.len, s.es.at_, s.es.one⟩
theorem Fr8.grow (f : Fr8 B G H) (w : Grow G H G2 H2) : Fr8 B G2 H2 :=
  ⟨w.up, f.le0.trans w.g, fun a o n e => w.h a o (f.keep a o n e), fun a n => ne_of_ne w.h (f.there a n), fun a n m => w.cl a (f.cl a n m) (f.there a m)⟩
theorem Es.grow (s : Es K B en σ G H) (w : Grow G H G2 H2) : Es K B en σ G2 H2 :=
  ⟨s.fr.grow w, fun i dv e => by obtain ⟨v, a, b⟩ := s.at_ i dv e; exact ⟨v, a, b.grow w⟩, s.one, s.own⟩
theorem St8.grow (s : St8 K B en σ G H) (w : Grow G H G2 H2) : St8 K B en σ G2 H2 := ⟨s.es.grow w, s.len⟩
theorem Es.weak {e' : En} (s : Es K B en σ G H) (w : Wk0 e' en) : Es K B e' σ G H :=
  ⟨s.fr, fun i dv e => s.at_ i dv (w i dv e), fun i j b b' p c c' e e' => s.one i j b b' p c c' (w i _ e) (w j _ e'), fun i b p c e => s.own i b p c (w i _ e)⟩
theorem St8.weak {e' : En} (s : St8 K B en σ G H) (w : Wkn e' en) : St8 K B e' σ G H := ⟨s.es.weak w.wk0, s.len.trans w.len.symm⟩
theorem get_set {α : Type} {l : List α} {i j : Nat} {x y : α} (h : (l.set i x)[j]? = some y) : (j = i ∧ y = x) ∨ (j ≠ i ∧ l[j]? = some y) := by
  by_cases e : j = i
  · subst e
    by_cases hj : j < l.length
    · rw [List.getElem?_set_self hj] at h; exact .inl ⟨rfl, (Option.some.inj h).symm⟩
    · rw [List.getElem?_eq_none (by simpa using hj)] at h; cases h
  · rw [List.getElem?_set_ne (Ne.symm e)] at h; exact .inr ⟨e, h⟩
/-- a slot gets data -/
theorem St8.set {i : Nat} {v : V} {d : D} (s : St8 K B en σ G H) (r : Rp K G v d) : St8 K B (en.set i (some (.v d))) (σ.set i (some v)) G H := by
  refine ⟨⟨s.es.fr, fun j dv e => ?_, fun j k b b' p c c' e e' => ?_, fun j b p c e => ?_⟩, by simp [s.len]⟩
  · rcases get_set e with ⟨rfl, e1⟩ | ⟨n, f1⟩
    · cases e1
      have hj : j < σ.length := by
        rw [s.len]
        have := (List.getElem?_eq_some_iff.mp e).1
        simpa using this
      exact ⟨v, List.getElem?_set_self hj, r⟩
    · obtain ⟨u, a, b⟩ := s.es.at_ j dv f1
      exact ⟨u, by rw [List.getElem?_set_ne (Ne.symm n)]; exact a, b⟩
  · rcases get_set e with ⟨rfl, e1⟩ | ⟨n, f1⟩
    · cases e1
    · rcases get_set e' with ⟨rfl, e1⟩ | ⟨n', f2⟩
      · cases e1
      · exact s.es.one j k b b' p c c' f1 f2
  · rcases get_set e with ⟨rfl, e1⟩ | ⟨n, f1⟩
    · cases e1
    · exact s.es.own j b p c f1
/-- a slot gets a new object of the def's own -/
theorem St8.setO {i : Nat} {p : Addr} {c : OO} (s : St8 K B en σ G H) (hn : ∀ (j : Nat) (b : Bool) (c' : OO), en[j]? ≠ some (some (.o b p c'))) (hB : B.H0 p = none) (gp : G p = none) (r : OwnRp K G H p c) (ht : c.top p = p := by rfl) (ho : c.ob = none := by rfl) : St8 K B (en.set i (some (.o false p c))) (σ.set i (some (.ref p))) G H := by
  refine ⟨⟨s.es.fr, fun j dv e => ?_, fun j k b b' q c c' e e' => ?_, fun j b q c e => ?_⟩, by simp [s.len]⟩
  · rcases get_set e with ⟨rfl, e1⟩ | ⟨n, f1⟩
    · cases e1
      have hj : j < σ.length := by
        rw [s.len]
        have := (List.getElem?_eq_some_iff.mp e).1
        simpa using this
      exact ⟨.ref p, List.getElem?_set_self hj, by rw [ht], gp, r⟩
    · obtain ⟨u, a, b⟩ := s.es.at_ j dv f1
      exact ⟨u, by rw [List.getElem?_set_ne (Ne.symm n)]; exact a, b⟩
  · rcases get_set e with ⟨rfl, e1⟩ | ⟨n, f1⟩
    · cases e1
      rcases get_set e' with ⟨rfl, e1⟩ | ⟨n', f2⟩
      · rfl
      · exact absurd f2 (hn k b' c')
    · rcases get_set e' with ⟨rfl, e1⟩ | ⟨n', f2⟩
      · cases e1; exact absurd f1 (hn j b c)
      · exact s.es.one j k b b' q c c' f1 f2
  · rcases get_set e with ⟨rfl, e1⟩ | ⟨n, f1⟩
    · cases e1; exact ⟨hB, fun a z => by rw [ho] at z; cases z⟩
    · exact s.es.own j b q c f1
theorem OwnRp.other {p q : Addr} {c : OO} {o : HO} (h : OwnRp K G H p c) (n : p ≠ q) (hl : ∀ C dx fs, H q ≠ some (.ins C dx fs)) : OwnRp K G (upd H q o) p c := by
  cases c with
  | l ds => obtain ⟨vs, e, r⟩ := h; exact ⟨vs, by rw [upd_ne n]; exact e, r⟩
  | f a C m pw ds =>
    obtain ⟨g0, dx, vn, vp, vs, e1, e2, r⟩ := h
    have na : a ≠ q := fun z => by rw [z] at e1; exact hl _ _ _ e1
    exact ⟨g0, dx, vn, vp, vs, by rw [upd_ne na]; exact e1, by rw [upd_ne n]; exact e2, r⟩
/-- an owned object is changed -/
theorem St8.mut {i : Nat} {p : Addr} {b : Bool} {c c' : OO} {o : HO} (s : St8 K B en σ G H) (e : en[i]? = some (some (.o b p c))) (r : OwnRp K G (upd H p o) p c') (ht : c'.top p = c.top p := by rfl) (ho : c'.ob = c.ob := by rfl) : St8 K B (en.set i (some (.o b p c'))) σ G (upd H p o) := by
  obtain ⟨v0, e0, ev0, g0, r0⟩ := s.es.at_ i _ e
  have hb := (s.es.own i b p c e).1
  have hb2 := (s.es.own i b p c e).2
  obtain ⟨vs0, hl0⟩ := r0.lst
  refine ⟨⟨⟨⟨fun a u pu ru => ?_, fun a n => ?_⟩, s.es.fr.le0, fun a u n eu => ?_, fun a n => ?_, s.es.fr.cl⟩, fun j dv ej => ?_, fun j k b b' q c c' ej ek => ?_, fun j b q c ej => ?_⟩, by simp [s.len]⟩
  · have na : a ≠ p := fun z => by
      subst z
      rcases ru with z | ⟨_, z⟩ <;> (rw [g0] at z; cases z)
    rcases s.es.fr.up.le a u pu ru with z | ⟨x, z⟩
    · exact .inl (by rw [upd_ne na]; exact z)
    · exact .inr ⟨x, by rw [upd_ne na]; exact z⟩
  · by_cases z : a = p
    · rw [z]; exact g0
    · rw [upd_ne z] at n; exact s.es.fr.up.kn a n
  · have na : a ≠ p := fun z => by
      subst z
      cases b with
      | true => exact n hb
      | false => rw [if_neg Bool.false_ne_true] at hb; rw [hb] at eu; cases eu
    rw [upd_ne na]; exact s.es.fr.keep a u n eu
  · by_cases z : a = p
    · rw [z, upd_same]; intro y; cases y
    · rw [upd_ne z]; exact s.es.fr.there a n
  · rcases get_set ej with ⟨rfl, e1⟩ | ⟨n, fj⟩
    · cases e1; exact ⟨v0, e0, by rw [ht]; exact ev0, g0, r⟩
    · obtain ⟨u, x, y⟩ := s.es.at_ j dv fj
      refine ⟨u, x, ?_⟩
      cases dv with
      | v d => exact y
      | o b2 q c2 =>
        obtain ⟨y1, y2, y3⟩ := y
        refine ⟨y1, y2, y3.other (fun z => n ?_) fun _ _ _ z => by rw [hl0] at z; cases z⟩
        subst z
        exact s.es.one j i _ _ _ _ _ fj e
  · rcases get_set ej with ⟨rfl, e1⟩ | ⟨n, fj⟩
    · cases e1
      rcases get_set ek with ⟨rfl, e1⟩ | ⟨n', fk⟩
      · rfl
      · exact s.es.one _ _ _ _ _ _ _ e fk
    · rcases get_set ek with ⟨rfl, e1⟩ | ⟨n', fk⟩
      · cases e1; exact s.es.one _ _ _ _ _ _ _ fj e
      · exact s.es.one j k _ _ q _ _ fj fk
  · rcases get_set ej with ⟨rfl, e1⟩ | ⟨n, fj⟩
    · cases e1; exact ⟨hb, fun a z => hb2 a (by rw [← ho]; exact z)⟩
    · exact s.es.own j _ q _ fj
/-- an owned list is data from now on -/
theorem St8.frz {i : Nat} {p : Addr} {ds : List D} (s : St8 K B en σ G H) (e : en[i]? = some (some (.o false p (.l ds)))) : ∃ G2, Le G G2 ∧ St8 K B (en.set i (some (.v (.lst ds)))) σ G2 H := by
  obtain ⟨v0, e0, rfl, g0, vs, hp, r⟩ := s.es.at_ i _ e
  have hb : B.H0 p = none := by simpa using (s.es.own i false p _ e).1
  have l : Le G (upd G p (.lst vs)) := Le.upd g0
  refine ⟨upd G p (.lst vs), l, ⟨⟨⟨⟨fun a u pu ru => ?_, fun a n => ?_⟩, s.es.fr.le0.trans l, s.es.fr.keep, s.es.fr.there, fun a n m => ?_⟩, fun j dv ej => ?_, fun j k b b' q c c' ej ek => ?_, fun j b q c ej => ?_⟩, by simp [s.len]⟩⟩
  · by_cases na : a = p
    · subst na
      rcases ru with z | ⟨_, z⟩
      · rw [upd_same] at z; cases z; exact .inl hp
      · rw [upd_same] at z; cases z
    · refine s.es.fr.up.le a u pu ?_
      rcases ru with z | ⟨x, z⟩
      · rw [upd_ne na] at z; exact .inl z
      · rw [upd_ne na] at z; exact .inr ⟨x, z⟩
  · have na : a ≠ p := fun z => by rw [z, hp] at n; cases n
    rw [upd_ne na]; exact s.es.fr.up.kn a n
  · have na : a ≠ p := fun z => by rw [z] at m; exact m hb
    rw [upd_ne na]; exact s.es.fr.cl a n m
  · rcases get_set ej with ⟨rfl, e1⟩ | ⟨n, fj⟩
    · cases e1; exact ⟨_, e0, .lst (.inl upd_same) (r.up l)⟩
    · obtain ⟨u, x, y⟩ := s.es.at_ j dv fj
      refine ⟨u, x, ?_⟩
      cases dv with
      | v d => exact Rp.up l y
      | o b2 q c2 =>
        obtain ⟨y1, y2, y3⟩ := y
        have nq : q ≠ p := fun z => n (by subst z; exact s.es.one j i _ _ _ _ _ fj e)
        refine ⟨y1, by rw [upd_ne nq]; exact y2, ?_⟩
        cases c2 with
        | l ds => obtain ⟨vs, e, r⟩ := y3; exact ⟨vs, e, r.up l⟩
        | f a C m pw ds =>
          obtain ⟨z0, dx, vn, vp, vs', z1, z2, r1, r2, r3⟩ := y3
          have na : a ≠ p := fun z => by rw [z, hp] at z1; cases z1
          exact ⟨by rw [upd_ne na]; exact z0, dx, vn, vp, vs', z1, z2, r1.up l, r2.up l, r3.up l⟩
  · rcases get_set ej with ⟨rfl, e1⟩ | ⟨n, fj⟩
    · cases e1
    · rcases get_set ek with ⟨rfl, e1⟩ | ⟨n', fk⟩
      · cases e1
      · exact s.es.one j k _ _ q _ _ fj fk
  · rcases get_set ej with ⟨rfl, e1⟩ | ⟨n, fj⟩
    · cases e1
    · exact s.es.own j _ q _ fj
end
end Wk
set_option maxHeartbeats 4000000
/-! Wk4: blocks, loops. -/
namespace Wk
open PySem PySem.Spec PyProof.Rows L2

def wx (ec : Nat → Addr) (W : WN) : WX := fun cls d σ H => ∃ c, cls = .ref (ec c) ∧ d = none ∧ W c σ H
/-- what every rule asks of where one stands -/
structure Go (X : Cx) (ec : Nat → Addr) (W : WN) : Prop where
  calm : X.calm = true
  po : PassesOwn (model X.prog X.w) X.A X.env X.xe
  nd : X.N.Nodup
  tk : Takes X (wx ec W)
inductive Out (α β : Type) where
  | nx (a : α) | rt (b : β)
section
variable (X : Cx) (W : WN) (eE : En)
def Post {ω : Type} (B : Bs) (m : R ω) (T : ω → Prop) : Prop := wp m T (fun c => ∀ σ G H, Es X.K B eE σ G H → W c σ H)
def XB (st : List Stmt) (en : En) {ω : Type} (m : R ω) (T : Bs → ω → Ends → Prop) : Prop := ∀ B σ G H, St8 X.K B en σ G H → ∀ D : Ends, Post X W eE B m (fun o => T B o D) → wB X st D σ H
def XS (st : Stmt) (en : En) {ω : Type} (m : R ω) (T : Bs → ω → Ends → Prop) : Prop := ∀ B σ G H, St8 X.K B en σ G H → ∀ D : Ends, Post X W eE B m (fun o => T B o D) → wS X st D σ H
end
section
variable (K : PySem.W.Frag)
def TN {α : Type} (L : α → En → Prop) : Bs → α → Ends → Prop := fun B a D => ∀ e σ G H, L a e → St8 K B e σ G H → D.nx σ H
def TR {β : Type} (Rr : Hp → β → V → Hp → Hp → Prop) : Bs → β → Ends → Prop := fun B d D => ∀ v G H, Fr8 B G H → Rr B.H0 d v G H → D.rt v H
def TO {α β : Type} (L : α → En → Prop) (Rr : Hp → β → V → Hp → Hp → Prop) : Bs → Out α β → Ends → Prop := fun B o D => match o with
  | .nx a => TN K L B a D
  | .rt d => TR Rr B d D
/-- what is handed back: data; a new list; data, and the asker's list changed -/
def rP : Hp → D → V → Hp → Hp → Prop := fun _ d v G _ => Rp K G v d
def rN : Hp → List D → V → Hp → Hp → Prop := fun H0 ds v G H => ∃ p vs, v = .ref p ∧ H0 p = none ∧ G p = none ∧ H p = some (.lst vs) ∧ RpAll K G vs ds
def rIO (p : Addr) : Hp → D × OO → V → Hp → Hp → Prop := fun _ r v G H => Rp K G v r.1 ∧ G p = none ∧ OwnRp K G H p r.2
end
section
variable {X : Cx} {W : WN} {eE : En} {ec : Nat → Addr} {en : En} {pos : Pos} {e : Expr} {rest : List Stmt} {ω α β : Type} {T : Bs → ω → Ends → Prop}
/-- an expression's run within a def -/
theorem xp_run {m : R D} (h : XP X W e en m) {B : Bs} {σ : L2.St} {G H : Hp} (S : St8 X.K B en σ G H) (we : Wk0 eE en) {Q : VK} (k : Post X W eE B m (fun d => ∀ v G2 H2, Le G G2 → St8 X.K B en σ G2 H2 → Rp X.K G2 v d → Q v H2)) : wE X e σ H Q :=
  h σ G H S.sl Q (wp_mono k (fun d hd v G2 H2 w r => hd v G2 H2 w.g (S.grow w) r) fun c hc G2 H2 w => hc σ G2 H2 ((S.grow w).es.weak we))
theorem xn_run {m : R (List D)} (h : XN X W e en m) {B : Bs} {σ : L2.St} {G H : Hp} (S : St8 X.K B en σ G H) (we : Wk0 eE en) {Q : VK} (k : Post X W eE B m (fun ds => ∀ p vs G2 H2, Le G G2 → St8 X.K B en σ G2 H2 → H p = none → G2 p = none → H2 p = some (.lst vs) → RpAll X.K G2 vs ds → Q (.ref p) H2)) : wE X e σ H Q :=
  h σ G H S.sl Q (wp_mono k (fun d hd p vs G2 H2 w hp gp e r => hd p vs G2 H2 w.g (S.grow w) hp gp e r) fun c hc G2 H2 w => hc σ G2 H2 ((S.grow w).es.weak we))
theorem xt_run {m : R Bool} (h : XT X W e en m) {B : Bs} {σ : L2.St} {G H : Hp} (S : St8 X.K B en σ G H) (we : Wk0 eE en) {Q : Bool → Hp → Prop} (k : Post X W eE B m (fun b => ∀ G2 H2, Le G G2 → St8 X.K B en σ G2 H2 → Q b H2)) : wT X e σ H Q :=
  h σ G H S.sl Q (wp_mono k (fun d hd G2 H2 w => hd G2 H2 w.g (S.grow w)) fun c hc G2 H2 w => hc σ G2 H2 ((S.grow w).es.weak we))
/-- the block's end -/
theorem xb_end {L : α → En → Prop} {a : α} {e' : En} (hL : L a e') (w : Wkn e' en) : XB X W eE [] en (.ok a) (TN X.K L) := fun B σ G H S D k => pss_to pss_nil (k e' σ G H hL (S.weak w))
theorem xb_endO {L : α → En → Prop} {Rr : Hp → β → V → Hp → Hp → Prop} {a : α} {e' : En} (hL : L a e') (w : Wkn e' en) : XB X W eE [] en (.ok (.nx a)) (TO X.K L Rr) := fun B σ G H S D k => pss_to pss_nil (k e' σ G H hL (S.weak w))
/-- a statement, then the rest -/
theorem xb_seq {st : Stmt} {L : α → En → Prop} {m : R α} {k : α → R ω} (h : XS X W eE st en m (TN X.K L)) (hk : ∀ a e, L a e → XB X W eE rest e (k a) T) : XB X W eE (st :: rest) en (m.bnd k) T := fun B σ G H S D q => by
  refine pss_to (pss_cons ps_w pss_w) (h B σ G H S _ (wp_mono (wp_bnd.mp q) (fun a ha e σ2 G2 H2 hL S2 => ?_) fun _ z => z))
  exact hk a e hL B σ2 G2 H2 S2 D ha
/-- the last statement -/
theorem xb_one {st : Stmt} {m : R ω} (h : XS X W eE st en m T) : XB X W eE [st] en m T := fun B σ G H S D q => pss_to (pss_one ps_w) (h B σ G H S D q)
def R.tho {α β γ : Type} (m : R (Out α β)) (k : α → R (Out γ β)) : R (Out γ β) := m.bnd fun o => match o with
  | .nx a => k a
  | .rt b => .ok (.rt b)
def R.thr {α β : Type} (m : R (Out α β)) (k : α → R β) : R β := m.bnd fun o => match o with
  | .nx a => k a
  | .rt b => .ok b
theorem xb_seqO {γ : Type} {st : Stmt} {L : α → En → Prop} {L' : γ → En → Prop} {Rr : Hp → β → V → Hp → Hp → Prop} {m : R (Out α β)} {k : α → R (Out γ β)} (h : XS X W eE st en m (TO X.K L Rr)) (hk : ∀ a e, L a e → XB X W eE rest e (k a) (TO X.K L' Rr)) :
    XB X W eE (st :: rest) en (m.tho k) (TO X.K L' Rr) := fun B σ G H S D q => by
  refine pss_to (pss_cons ps_w pss_w) (h B σ G H S _ (wp_mono (wp_bnd.mp q) (fun o ho => ?_) fun _ z => z))
  cases o with
  | nx a => exact fun e σ2 G2 H2 hL S2 => hk a e hL B σ2 G2 H2 S2 D ho
  | rt b => exact ho
theorem xb_seqR {st : Stmt} {L : α → En → Prop} {Rr : Hp → β → V → Hp → Hp → Prop} {m : R (Out α β)} {k : α → R β} (h : XS X W eE st en m (TO X.K L Rr)) (hk : ∀ a e, L a e → XB X W eE rest e (k a) (TR Rr)) :
    XB X W eE (st :: rest) en (m.thr k) (TR Rr) := fun B σ G H S D q => by
  refine pss_to (pss_cons ps_w pss_w) (h B σ G H S _ (wp_mono (wp_bnd.mp q) (fun o ho => ?_) fun _ z => z))
  cases o with
  | nx a => exact fun e σ2 G2 H2 hL S2 => hk a e hL B σ2 G2 H2 S2 D ho
  | rt b => exact ho
/-- x = e, then the rest -/
theorem xb_let {i : Nat} {x : Str} {p : Pos} {m : R D} {k : D → R ω} (g : Go X ec W) (φ : D → En) (h : XP X W e en m) (hk : ∀ d, XB X W eE rest (φ d) (k d) T) (hi : X.N[i]? = some x := by rfl) (hφ : ∀ d, en.set i (some (.v d)) = φ d := by intro _; rfl)
    (hx : Loc X.env.scope x := by first | exact Or.inl rfl | exact Or.inr rfl) (we : Wk0 eE en := by first | exact wk0_nil | exact wk0_refl | assumption | exact Wkn.wk0 (by repeat' first | exact Wkn.nil | apply Wkn.k | apply Wkn.d)) (hs : swapsWith e (some (.Name x p)) pos.line X.env = pure false := by first | exact swaps_no rfl | exact swapsS_no rfl | rfl)
    (hf : X.fn x = true ∨ X.env.scope.names.lookup x = some .local := by first | exact .inl rfl | exact .inr rfl) : XB X W eE (.Assign [.Name x p] e pos :: rest) en (m.bnd k) T := fun B σ G H S D q => by
  refine pss_to (pss_cons (ps_set g.nd hi hx pe_w hs hf) pss_w) (xp_run h S we (wp_mono (wp_bnd.mp q) (fun d hd v G2 H2 l S2 r => ?_) fun _ z => z))
  exact hk d B _ G2 H2 (by have := S2.set (i := i) r; rw [hφ] at this; exact this) D hd
theorem xb_letN {i : Nat} {x : Str} {p : Pos} {m : R (List D)} {k : List D → R ω} (g : Go X ec W) (φ : Addr → List D → En) (h : XN X W e en m) (hk : ∀ a ds, XB X W eE rest (φ a ds) (k ds) T) (hi : X.N[i]? = some x := by rfl) (hφ : ∀ a ds, en.set i (some (.o false a (.l ds))) = φ a ds := by intro _ _; rfl)
    (hx : Loc X.env.scope x := by first | exact Or.inl rfl | exact Or.inr rfl) (we : Wk0 eE en := by first | exact wk0_nil | exact wk0_refl | assumption | exact Wkn.wk0 (by repeat' first | exact Wkn.nil | apply Wkn.k | apply Wkn.d)) (hs : swapsWith e (some (.Name x p)) pos.line X.env = pure false := by first | exact swaps_no rfl | exact swapsS_no rfl | rfl)
    (hf : X.fn x = true ∨ X.env.scope.names.lookup x = some .local := by first | exact .inl rfl | exact .inr rfl) : XB X W eE (.Assign [.Name x p] e pos :: rest) en (m.bnd k) T := fun B σ G H S D q => by
  refine pss_to (pss_cons (ps_set g.nd hi hx pe_w hs hf) pss_w) (xn_run h S we (wp_mono (wp_bnd.mp q) (fun d hd a vs G2 H2 l S2 hp gp ep r => ?_) fun _ z => z))
  have hB : B.H0 a = none := by
    cases z : B.H0 a with
    | none => rfl
    | some o => exact absurd hp (S.es.fr.there a (by rw [z]; intro y; cases y))
  refine hk a d B _ G2 H2 ?_ D hd
  have := S2.setO (i := i) (p := a) (c := .l d) (fun j b c' ej => ?_) hB gp ⟨vs, ep, r⟩
  · rw [hφ] at this; exact this
  · obtain ⟨u, x1, y1, y2, y3⟩ := S.es.at_ j _ ej
    exact y3.there hp
/-- an owned list is data from now on -/
theorem xb_frz {i : Nat} {p : Addr} {ds : List D} {m : R ω} (φ : En) (h : XB X W eE rest φ m T) (he : en[i]? = some (some (.o false p (.l ds))) := by rfl) (hφ : en.set i (some (.v (.lst ds))) = φ := by rfl) : XB X W eE rest en m T := fun B σ G H S D q => by
  obtain ⟨G2, l, S2⟩ := S.frz he
  rw [hφ] at S2
  exact h B σ G2 H S2 D q
theorem xb_ret {m : R D} (h : XP X W e en m) (we : Wk0 eE en := by first | exact wk0_nil | exact wk0_refl | assumption | exact Wkn.wk0 (by repeat' first | exact Wkn.nil | apply Wkn.k | apply Wkn.d)) : XB X W eE [.Return (some e) pos] en m (TR (rP X.K)) := fun B σ G H S D q =>
  pss_to (pss_one (ps_ret pe_w)) (xp_run h S we (wp_mono q (fun d hd v G2 H2 l S2 r => hd v G2 H2 S2.es.fr r) fun _ z => z))
theorem xb_retN {m : R (List D)} (h : XN X W e en m) (we : Wk0 eE en := by first | exact wk0_nil | exact wk0_refl | assumption | exact Wkn.wk0 (by repeat' first | exact Wkn.nil | apply Wkn.k | apply Wkn.d)) : XB X W eE [.Return (some e) pos] en m (TR (rN X.K)) := fun B σ G H S D q =>
  pss_to (pss_one (ps_ret pe_w)) (xn_run h S we (wp_mono q (fun d hd p vs G2 H2 l S2 hp gp ep r => hd _ G2 H2 S2.es.fr ⟨p, vs, rfl, (by
    cases z : B.H0 p with
    | none => rfl
    | some o => exact absurd hp (S.es.fr.there p (by rw [z]; intro y; cases y))), gp, ep, r⟩) fun _ z => z))
/-- an owned list is handed back -/
theorem xb_retO {i : Nat} {x : Str} {p : Addr} {px : Pos} {ds : List D} (he : en[i]? = some (some (.o false p (.l ds)))) (hN : X.N[i]? = some x := by rfl) (hv : Vis X.env.scope x := by first | exact Or.inl rfl | exact Or.inr (Or.inl rfl) | exact Or.inr (Or.inr rfl))
    (hd : (x == ("__debug__" : Str)) = false := by decide) (hcd : (x == ("__classdict__" : Str)) = false := by decide) : XB X W eE [.Return (some (.Name x px)) pos] en (.ok ds) (TR (rN X.K)) := fun B σ G H S D q => by
  obtain ⟨v, e1, rfl, gp, vs, hp, r⟩ := S.es.at_ i _ he
  have hb : B.H0 p = none := by simpa using (S.es.own i false p _ he).1
  exact pss_to (pss_one (ps_ret (pe_var hN hv hd hcd))) ⟨_, e1, q _ G H S.es.fr ⟨p, vs, rfl, hb, gp, hp, r⟩⟩
/-- an owned list is handed back as data -/
theorem xb_retOP {i : Nat} {x : Str} {p : Addr} {px : Pos} {ds : List D} (he : en[i]? = some (some (.o false p (.l ds)))) (hN : X.N[i]? = some x := by rfl) (hv : Vis X.env.scope x := by first | exact Or.inl rfl | exact Or.inr (Or.inl rfl) | exact Or.inr (Or.inr rfl))
    (hd : (x == ("__debug__" : Str)) = false := by decide) (hcd : (x == ("__classdict__" : Str)) = false := by decide) : XB X W eE [.Return (some (.Name x px)) pos] en (.ok (.lst ds)) (TR (rP X.K)) := fun B σ G H S D q => by
  obtain ⟨G2, l, S2⟩ := S.frz he
  have hi : i < en.length := (List.getElem?_eq_some_iff.mp he).1
  obtain ⟨v, e1, r⟩ := S2.es.at_ i (.v (.lst ds)) (by rw [List.getElem?_set_self hi])
  exact pss_to (pss_one (ps_ret (pe_var hN hv hd hcd))) ⟨_, e1, q _ G2 H S2.es.fr r⟩
/-! if -/
variable {c : Expr} {A C : List Stmt} {mc : R Bool}
theorem xs_if {ma mb : R ω} (hc : XT X W c en mc) (ha : XB X W eE A en ma T) (hb : XB X W eE C en mb T) (we : Wk0 eE en := by first | exact wk0_nil | exact wk0_refl | assumption | exact Wkn.wk0 (by repeat' first | exact Wkn.nil | apply Wkn.k | apply Wkn.d)) :
    XS X W eE (.If c A C pos) en (mc.bnd fun b => if b = true then ma else mb) T := fun B σ G H S D q => by
  refine ps_to (ps_if pt_w pss_w pss_w) (xt_run hc S we (wp_mono (wp_bnd.mp q) (fun b hb' G2 H2 l S2 => ?_) fun _ z => z))
  cases b with
  | true => exact ha B σ G2 H2 S2 D hb'
  | false => exact hb B σ G2 H2 S2 D hb'
/-- if c: A (which goes out); rest -/
theorem xb_ifR {Rr : Hp → β → V → Hp → Hp → Prop} {ma mr : R β} (hc : XT X W c en mc) (ha : XB X W eE A en ma (TR Rr)) (hr : XB X W eE rest en mr (TR Rr)) (we : Wk0 eE en := by first | exact wk0_nil | exact wk0_refl | assumption | exact Wkn.wk0 (by repeat' first | exact Wkn.nil | apply Wkn.k | apply Wkn.d)) :
    XB X W eE (.If c A [] pos :: rest) en (mc.bnd fun b => if b = true then ma else mr) (TR Rr) := fun B σ G H S D q => by
  refine pss_to (pss_cons (ps_if pt_w pss_w pss_nil) pss_w) (xt_run hc S we (wp_mono (wp_bnd.mp q) (fun b hb' G2 H2 l S2 => ?_) fun _ z => z))
  cases b with
  | true => exact ha B σ G2 H2 S2 _ (wp_mono hb' (fun _ z => z) fun _ z => z)
  | false => exact hr B σ G2 H2 S2 D hb'
theorem xb_ifO {L : α → En → Prop} {Rr : Hp → β → V → Hp → Hp → Prop} {ma : R β} {mr : R (Out α β)} (hc : XT X W c en mc) (ha : XB X W eE A en ma (TR Rr)) (hr : XB X W eE rest en mr (TO X.K L Rr)) (we : Wk0 eE en := by first | exact wk0_nil | exact wk0_refl | assumption | exact Wkn.wk0 (by repeat' first | exact Wkn.nil | apply Wkn.k | apply Wkn.d)) :
    XB X W eE (.If c A [] pos :: rest) en (mc.bnd fun b => if b = true then ma.bnd fun d => .ok (.rt d) else mr) (TO X.K L Rr) := fun B σ G H S D q => by
  refine pss_to (pss_cons (ps_if pt_w pss_w pss_nil) pss_w) (xt_run hc S we (wp_mono (wp_bnd.mp q) (fun b hb' G2 H2 l S2 => ?_) fun _ z => z))
  cases b with
  | true => exact ha B σ G2 H2 S2 _ (wp_mono (wp_bnd.mp hb') (fun _ z => z) fun _ z => z)
  | false => exact hr B σ G2 H2 S2 D hb'
/-- if c: raise ..; rest -/
theorem xb_ifE {n : Nat} {mr : R ω} (hc : XT X W c en mc) (ha : XB X W eE A en (.err n : R Empty) (fun _ _ _ => False)) (hr : XB X W eE rest en mr T) (we : Wk0 eE en := by first | exact wk0_nil | exact wk0_refl | assumption | exact Wkn.wk0 (by repeat' first | exact Wkn.nil | apply Wkn.k | apply Wkn.d)) :
    XB X W eE (.If c A [] pos :: rest) en (mc.bnd fun b => if b = true then .err n else mr) T := fun B σ G H S D q => by
  refine pss_to (pss_cons (ps_if pt_w pss_w pss_nil) pss_w) (xt_run hc S we (wp_mono (wp_bnd.mp q) (fun b hb' G2 H2 l S2 => ?_) fun _ z => z))
  cases b with
  | true => exact ha B σ G2 H2 S2 _ hb'
  | false => exact hr B σ G2 H2 S2 D hb'
theorem xb_raise {n : Nat} {x m : Str} {j : Nat} {p p2 p3 : Pos} {bmB : List Value} {Bn newId initId : String} (g : Go X ec W) (F : ExcBaseFacts Bn newId initId bmB) (q : PySem.W.excIn X.K (ec n) bmB newId = true) (gC : X.mg x = some (.ref (ec n))) (kC : PySem.W.keepIn X.K (.ref (ec n)) = true) (r : Raises X (.ref (ec n))) (hg : Gl X x := by rfl)
    (hdb : (x == ("__debug__" : Str)) = false := by decide) (we : Wk0 eE en := by first | exact wk0_nil | exact wk0_refl | assumption | exact Wkn.wk0 (by repeat' first | exact Wkn.nil | apply Wkn.k | apply Wkn.d)) : XB X W eE [.Raise (some (.Call (.Name x p) [.Constant (.str m) j p2] [] p3)) none pos] en (.err n : R ω) T := fun B σ G H S D h =>
  pss_to (pss_one (ps_raise g.calm g.tk (pmk_own F q gC kC r hg hdb))) ⟨n, rfl, rfl, h σ G H (S.es.weak we)⟩
/-! for -/
/-- J walks over ds -/
structure Wlk (K : PySem.W.Frag) (J : It) (G : Hp) (ds : List D) : Prop where
  stop : ∀ G' H', Le G G' → Lk G' H' → J.stop ds.length H'
  go : ∀ (i : Nat) (d : D), ds[i]? = some d → ∀ G' H', Le G G' → Lk G' H' → J.go i H' ∧ ∀ x H'', J.yld i H' x H'' → ∃ G'', Grow G' H' G'' H'' ∧ Rp K G'' x d
theorem Wlk.up {K : PySem.W.Frag} {J : It} {G G1 : Hp} {ds : List D} (w : Wlk K J G ds) (l : Le G G1) : Wlk K J G1 ds := ⟨fun G' H' a b => w.stop G' H' (l.trans a) b, fun i d e G' H' a b => w.go i d e G' H' (l.trans a) b⟩
def XI (X : Cx) (W : WN) (tg e : Expr) (en : En) (m : R (List D)) : Prop := ∀ σ G H, Sl X.K en σ G H → ∀ Q : It → Hp → Prop,
  wp m (fun ds => ∀ J G2 H2, Grow G H G2 H2 → Wlk X.K J G2 ds → Q J H2) (fun c => ∀ G2 H2, Grow G H G2 H2 → W c σ H2) → wI X tg e σ H Q
theorem xi_run {tg : Expr} {m : R (List D)} (h : XI X W tg e en m) {B : Bs} {σ : L2.St} {G H : Hp} (S : St8 X.K B en σ G H) (we : Wk0 eE en) {Q : It → Hp → Prop} (k : Post X W eE B m (fun ds => ∀ J G2 H2, St8 X.K B en σ G2 H2 → Wlk X.K J G2 ds → Q J H2)) : wI X tg e σ H Q :=
  h σ G H S.sl Q (wp_mono k (fun d hd J G2 H2 w r => hd J G2 H2 (S.grow w) r) fun c hc G2 H2 w => hc σ G2 H2 ((S.grow w).es.weak we))
def foldR (step : α → D → R α) : α → List D → R α
  | a, [] => .ok a
  | a, d :: ds => (step a d).bnd fun a' => foldR step a' ds
def loopR (step : α → D → R (Out α β)) : α → List D → R (Out α β)
  | a, [] => .ok (.nx a)
  | a, d :: ds => (step a d).tho fun a' => loopR step a' ds
/-- a target: what it makes of the slots -/
def TgD (K : PySem.W.Frag) (g : TG) (f : En → D → Option En) : Prop := ∀ B en σ G H, St8 K B en σ G H → ∀ d v en', Rp K G v d → f en d = some en' → ∀ Q : L2.St → Hp → Prop, (∀ σ', St8 K B en' σ' G H → Q σ' H) → g v σ H Q
theorem tg_name {i : Nat} : TgD X.K (gName i) (fun en d => some (en.set i (some (.v d)))) := fun B en σ G H S d v en' r e Q k => by
  cases e
  exact k _ (S.set r)
def D.two : D → Option (D × D)
  | .tup [x, y] => some (x, y)
  | _ => none
def D.three : D → Option (D × D × D)
  | .tup [x, y, z] => some (x, y, z)
  | _ => none
theorem tg_two {i j : Nat} : TgD X.K (gTup X.K 2 (gCons (gName i) (gCons (gName j) gNil))) (fun en d => d.two.map fun p => (en.set i (some (.v p.1))).set j (some (.v p.2))) := fun B en σ G H S d v en' r e Q k => by
  obtain ⟨⟨x, y⟩, e1, e2⟩ := Option.map_eq_some_iff.mp e
  unfold D.two at e1
  split at e1
  · cases e1
    cases r with
    | tup hs ha =>
      cases ha with
      | cons r1 h2 =>
        cases h2 with
        | cons r2 h3 =>
          cases h3
          rw [← e2] at k
          exact ⟨_, _, rfl, S.es.fr.up.le.seqT hs, rfl, _, _, rfl, _, _, rfl, rfl, k _ ((S.set r1).set r2)⟩
  · cases e1
theorem tg_three {i j l : Nat} : TgD X.K (gTup X.K 3 (gCons (gName i) (gCons (gName j) (gCons (gName l) gNil)))) (fun en d => d.three.map fun p => ((en.set i (some (.v p.1))).set j (some (.v p.2.1))).set l (some (.v p.2.2))) := fun B en σ G H S d v en' r e Q k => by
  obtain ⟨⟨x, y, z⟩, e1, e2⟩ := Option.map_eq_some_iff.mp e
  unfold D.three at e1
  split at e1
  · cases e1
    cases r with
    | tup hs ha =>
      cases ha with
      | cons r1 h2 =>
        cases h2 with
        | cons r2 h3 =>
          cases h3 with
          | cons r3 h4 =>
            cases h4
            rw [← e2] at k
            exact ⟨_, _, rfl, S.es.fr.up.le.seqT hs, rfl, _, _, rfl, _, _, rfl, _, _, rfl, rfl, k _ (((S.set r1).set r2).set r3)⟩
  · cases e1
/-- the same from a later knowledge on -/
abbrev Bs.at_ (B : Bs) (G : Hp) : Bs := ⟨G, B.H0, B.io⟩
theorem Fr8.to {B : Bs} {G H G2 H2 : Hp} (f : Fr8 B G H) (w : Grow G H G2 H2) : Fr8 (B.at_ G) G2 H2 :=
  ⟨w.up, w.g, fun a o n e => w.h a o (f.keep a o n e), fun a n => ne_of_ne w.h (f.there a n), fun a n m => w.cl a n (f.there a m)⟩
theorem Fr8.of {B : Bs} {G H G2 H2 : Hp} (f : Fr8 B G H) (g : Fr8 (B.at_ G) G2 H2) : Fr8 B G2 H2 :=
  ⟨g.up, f.le0.trans g.le0, g.keep, g.there, fun a n m => g.cl a (f.cl a n m) m⟩
theorem St8.to {B : Bs} {e : En} {σ : L2.St} {G H G2 H2 : Hp} {K : PySem.W.Frag} (f : Fr8 B G H) (w : Grow G H G2 H2) (s : St8 K B e σ G2 H2) : St8 K (B.at_ G) e σ G2 H2 := ⟨⟨f.to w, s.es.at_, s.es.one, s.es.own⟩, s.len⟩
theorem Es.of {B : Bs} {e : En} {σ : L2.St} {G H G2 H2 : Hp} {K : PySem.W.Frag} (f : Fr8 B G H) (s : Es K (B.at_ G) e σ G2 H2) : Es K B e σ G2 H2 := ⟨f.of s.fr, s.at_, s.one, s.own⟩
theorem St8.of {B : Bs} {e : En} {σ : L2.St} {G H G2 H2 : Hp} {K : PySem.W.Frag} (f : Fr8 B G H) (s : St8 K (B.at_ G) e σ G2 H2) : St8 K B e σ G2 H2 := ⟨s.es.of f, s.len⟩
/-- the loop -/
theorem for_core {tg it : Expr} {body : List Stmt} {g : TG} {f : En → D → Option En} {L : α → En → Prop} {Rr : Hp → β → V → Hp → Hp → Prop} {step : α → D → R (Out α β)} {mi : R (List D)} {a0 : α} {e0 : En} (Gx : Go X ec W) (hg : PG X tg g) (ht : TgD X.K g f) (hi : XI X W tg it en mi)
    (h0 : L a0 e0) (w0 : Wkn e0 en) (hb : ∀ a e d (P : Out α β → Prop) (E : Nat → Prop), L a e → wp (step a d) P E → ∃ e', f e d = some e' ∧ XB X W eE body e' (step a d) (TO X.K L Rr)) (we : Wk0 eE en)
    (hs : ∀ x, foldedSetIterable it X.env x = pure x) : XS X W eE (.For tg it body [] pos) en (mi.bnd fun ds => loopR step a0 ds) (TO X.K L Rr) := fun B σ G H S D q => by
  refine ps_to (ps_for Gx.po Gx.calm pi_w hg pss_w hs) (xi_run hi S we (wp_mono (wp_bnd.mp q) (fun ds hd J G2 H2 S2 wk => ?_) fun _ z => z))
  refine ⟨fun i m σ' H' => m = ds.length - i ∧ ∃ a e G', L a e ∧ St8 X.K B e σ' G' H' ∧ Le G2 G' ∧ i ≤ ds.length ∧ Post X W eE B (loopR step a (ds.drop i)) (fun o => TO X.K L Rr B o D), ⟨_, rfl, a0, e0, G2, h0, S2.weak w0, Le.refl _, Nat.zero_le _, hd⟩, ?_⟩
  rintro i m σ' H' ⟨rfl, a, e, G', hL', S', l', hi', p⟩
  by_cases hlt : i < ds.length
  · rw [List.drop_eq_getElem_cons hlt] at p
    obtain ⟨go, yl⟩ := wk.go i ds[i] (List.getElem?_eq_getElem hlt) G' H' l' S'.es.fr.up
    refine .inr ⟨go, fun σ3 H3 => ∃ a e G3, L a e ∧ St8 X.K B e σ3 G3 H3 ∧ Le G2 G3 ∧ Post X W eE B (loopR step a (ds.drop (i + 1))) (fun o => TO X.K L Rr B o D), fun σ3 H3 ⟨a3, e3, G3, h1, h2, h3, h4⟩ => ⟨ds.length - (i + 1), by omega, rfl, a3, e3, G3, h1, h2, h3, hlt, h4⟩, fun x H4 y => ?_⟩
    obtain ⟨G4, w4, r4⟩ := yl x H4 y
    have p' := wp_bnd.mp p
    obtain ⟨e', ef, xb⟩ := hb a e ds[i] _ _ hL' p'
    refine ht B e σ' G4 H4 (S'.grow w4) ds[i] x e' r4 ef _ fun σ5 S5 => ?_
    refine xb (B.at_ G') σ5 G4 H4 (S5.to S'.es.fr w4) _ (wp_mono p' (fun o ho => ?_) fun _ z σ6 G6 H6 s6 => z σ6 G6 H6 (s6.of S'.es.fr))
    cases o with
    | nx a6 => exact fun e6 σ6 G6 H6 hL6 S6 => ⟨a6, e6, G6, hL6, S6.of S'.es.fr, l'.trans S6.es.fr.le0, ho⟩
    | rt b => exact fun v6 G6 H6 f6 r6 => ho v6 G6 H6 (S'.es.fr.of f6) r6
  · have ei : i = ds.length := by omega
    subst ei
    rw [List.drop_length] at p
    exact .inl ⟨wk.stop G' H' l' S'.es.fr.up, p e σ' G' H' hL' S'⟩
/-- for x in ..: a body that never hands back -/
def Out.of {α β : Type} (a : α) : Out α β := .nx a
theorem fold_loop {β : Type} {step : α → D → R α} : ∀ (ds : List D) (a : α), loopR (β := β) (fun a d => (step a d).bnd fun a' => .ok (.nx a')) a ds = (foldR step a ds).bnd fun a' => .ok (.nx a')
  | [], a => rfl
  | d :: ds, a => by
    show ((step a d).bnd _).tho _ = ((step a d).bnd _).bnd _
    cases step a d with
    | ok a' => exact fold_loop ds a'
    | err c => rfl
    | bad => rfl
theorem xs_forO {i : Nat} {x : Str} {p : Pos} {it : Expr} {body : List Stmt} {L : α → En → Prop} {Rr : Hp → β → V → Hp → Hp → Prop} {step : α → D → R (Out α β)} {mi : R (List D)} {a0 : α} {e0 : En} (g : Go X ec W) (hi : XI X W (.Name x p) it en mi) (h0 : L a0 e0) (w0 : Wkn e0 en)
    (hb : ∀ a e d, L a e → XB X W eE body (e.set i (some (.v d))) (step a d) (TO X.K L Rr)) (hN : X.N[i]? = some x := by rfl) (hx : Loc X.env.scope x := by first | exact Or.inl rfl | exact Or.inr rfl) (we : Wk0 eE en := by first | exact wk0_nil | exact wk0_refl | assumption | exact Wkn.wk0 (by repeat' first | exact Wkn.nil | apply Wkn.k | apply Wkn.d))
    (hs : ∀ x, foldedSetIterable it X.env x = pure x := by intro _; rfl) (hf : X.fn x = true ∨ X.env.scope.names.lookup x = some .local := by first | exact .inl rfl | exact .inr rfl) : XS X W eE (.For (.Name x p) it body [] pos) en (mi.bnd fun ds => loopR step a0 ds) (TO X.K L Rr) :=
  for_core g (pg_name g.nd hN hx hf) tg_name hi h0 w0 (fun a e d P E hL _ => ⟨_, rfl, hb a e d hL⟩) we hs
theorem xs_for {i : Nat} {x : Str} {p : Pos} {it : Expr} {body : List Stmt} {L : α → En → Prop} {step : α → D → R α} {mi : R (List D)} {a0 : α} {e0 : En} (g : Go X ec W) (hi : XI X W (.Name x p) it en mi) (h0 : L a0 e0) (w0 : Wkn e0 en)
    (hb : ∀ a e d, L a e → XB X W eE body (e.set i (some (.v d))) (step a d) (TN X.K L)) (hN : X.N[i]? = some x := by rfl) (hx : Loc X.env.scope x := by first | exact Or.inl rfl | exact Or.inr rfl) (we : Wk0 eE en := by first | exact wk0_nil | exact wk0_refl | assumption | exact Wkn.wk0 (by repeat' first | exact Wkn.nil | apply Wkn.k | apply Wkn.d))
    (hs : ∀ x, foldedSetIterable it X.env x = pure x := by intro _; rfl) (hf : X.fn x = true ∨ X.env.scope.names.lookup x = some .local := by first | exact .inl rfl | exact .inr rfl) : XS X W eE (.For (.Name x p) it body [] pos) en (mi.bnd fun ds => foldR step a0 ds) (TN X.K L) := fun B σ G H S D q => by
  refine xs_forO (β := Empty) (Rr := fun _ _ _ _ _ => False) (step := fun a d => (step a d).bnd fun a' => .ok (.nx a')) g hi h0 w0 (fun a e d hL B σ G H S D q => hb a e d hL B σ G H S D (wp_mono (wp_bnd.mp q) (fun _ z => z) fun _ z => z)) hN hx we hs hf B σ G H S D ?_
  refine wp_bnd.mpr (wp_mono (wp_bnd.mp q) (fun ds hd => ?_) fun _ z => z)
  rw [fold_loop]
  exact wp_bnd.mpr hd
theorem xs_for2O {i j : Nat} {x y : Str} {p p' p2 : Pos} {k : Nat} {it : Expr} {body : List Stmt} {L : α → En → Prop} {Rr : Hp → β → V → Hp → Hp → Prop} {step : α → D → D → R (Out α β)} {mi : R (List D)} {a0 : α} {e0 : En} (g : Go X ec W) (hi : XI X W (.Tuple [.Name x p, .Name y p'] k p2) it en mi) (h0 : L a0 e0) (w0 : Wkn e0 en)
    (hb : ∀ a e d d', L a e → XB X W eE body ((e.set i (some (.v d))).set j (some (.v d'))) (step a d d') (TO X.K L Rr)) (hN : X.N[i]? = some x := by rfl) (hN' : X.N[j]? = some y := by rfl) (hx : Loc X.env.scope x := by first | exact Or.inl rfl | exact Or.inr rfl) (hx' : Loc X.env.scope y := by first | exact Or.inl rfl | exact Or.inr rfl)
    (we : Wk0 eE en := by first | exact wk0_nil | exact wk0_refl | assumption | exact Wkn.wk0 (by repeat' first | exact Wkn.nil | apply Wkn.k | apply Wkn.d)) (hs : ∀ x, foldedSetIterable it X.env x = pure x := by intro _; rfl) (hf : X.fn x = true ∨ X.env.scope.names.lookup x = some .local := by first | exact .inl rfl | exact .inr rfl) (hf' : X.fn y = true ∨ X.env.scope.names.lookup y = some .local := by first | exact .inl rfl | exact .inr rfl)
    (hn : (assignEach [.Name x p, .Name y p'] X.env).length = 2 := by rfl) (hst : (assignEach [.Name x p, .Name y p'] X.env).findIdx? (·.1) = none := by rfl)
    (h1 : (assignEach [.Name x p, .Name y p'] X.env).map (·.2) = assign (.Name x p) X.env :: (assignEach [.Name y p'] X.env).map (·.2) := by rfl) (h2 : (assignEach [.Name y p'] X.env).map (·.2) = assign (.Name y p') X.env :: (assignEach [] X.env).map (·.2) := by rfl) :
    XS X W eE (.For (.Tuple [.Name x p, .Name y p'] k p2) it body [] pos) en (mi.bnd fun ds => loopR (fun a d => (R.of d.two).bnd fun q => step a q.1 q.2) a0 ds) (TO X.K L Rr) :=
  for_core g (pg_tup g.calm (pgs_cons (pg_name g.nd hN hx hf) (pgs_cons (pg_name g.nd hN' hx' hf') pgs_nil h2) h1) hn hst) tg_two hi h0 w0 (fun a e d P E hL hw => by
    obtain ⟨(q : D × D), e1, e2⟩ := wp_of (wp_bnd.mp hw)
    refine ⟨(e.set i (some (.v q.1))).set j (some (.v q.2)), by rw [e1]; rfl, ?_⟩
    rw [e1]
    exact hb a e q.1 q.2 hL) we hs
end
end Wk
set_option maxHeartbeats 4000000
/-! Wk5: operations on data. -/
namespace Wk
open PySem PySem.Spec PyProof.Rows L2

/-! ### data's own operations -/
def D.addI : D → D → Option D
  | .int i, .int j => some (.int (i + j))
  | .str x, .str y => if x.length + y.length ≤ 16000000 then some (.str (x ++ y)) else none
  | .tup xs, .tup ys => if xs.length + ys.length ≤ 16000000 then some (.tup (xs ++ ys)) else none
  | _, _ => none
def D.cat : D → D → Option (List D)
  | .lst xs, .lst ys => if xs.length + ys.length ≤ 16000000 then some (xs ++ ys) else none
  | _, _ => none
def D.sub : D → D → Option D
  | .int i, .int j => some (.int (i - j))
  | _, _ => none
def D.mul : D → D → Option D
  | .int i, .int j => if (-(2 ^ 64) < i ∧ i < 2 ^ 64) ∨ (-(2 ^ 64) < j ∧ j < 2 ^ 64) then some (.int (i * j)) else none
  | _, _ => none
def D.rep : D → D → Option (List D)
  | .lst xs, .int k => if -(2 ^ 63) ≤ k ∧ k < 2 ^ 63 ∧ xs.length * k.toNat ≤ 16000000 then some (List.replicate k.toNat xs).flatten else none
  | _, _ => none
def D.div : D → D → Option D
  | .int i, .int j => if 0 < j ∧ j.natAbs.log2 < 9000 then some (.int (i / j)) else none
  | _, _ => none
def D.mod : D → D → Option D
  | .int i, .int j => if 0 < j then some (.int (i % j)) else none
  | _, _ => none
def D.pow : D → D → Option D
  | .int i, .int j => if 0 ≤ j ∧ j ≤ 1000000 ∧ i.natAbs < 2 ^ 64 then some (.int (i ^ j.toNat)) else none
  | _, _ => none
def D.neg : D → Option D
  | .int i => some (.int (-i))
  | _ => none
def D.lt : D → D → Option Bool
  | .int i, .int j => some (decide (i < j))
  | _, _ => none
def D.le : D → D → Option Bool
  | .int i, .int j => some (decide (i ≤ j))
  | _, _ => none
def D.gt : D → D → Option Bool
  | .int i, .int j => some (decide (j < i))
  | _, _ => none
def D.ge : D → D → Option Bool
  | .int i, .int j => some (decide (j ≤ i))
  | _, _ => none
mutual
/-- data that == looks at deeply -/
def D.py : D → Option PyData
  | .non => some .none
  | .bl b => some (.bool b)
  | .int i => some (.int i)
  | .str x => some (.str x)
  | .lst xs => (D.pys xs).map .list
  | .tup xs => (D.pys xs).map .tuple
  | .tux xs => (D.pys xs).map .tuple
  | _ => none
def D.pys : List D → Option (List PyData)
  | [] => some []
  | x :: xs => (D.py x).bind fun y => (D.pys xs).map fun ys => y :: ys
end
def D.eq (x y : D) : Option Bool := match x, y with
  | .int i, .int j => some (decide (i = j))
  | .str i, .str j => some (decide (i = j))
  | .bl i, .bl j => some (decide (i = j))
  | x, y => (D.py x).bind fun a => (D.py y).bind fun b => if SeqAt.shaped a = true ∧ SeqAt.shaped b = true then some (PyData.eqv a b) else none
def D.ne (x y : D) : Option Bool := (D.eq x y).map fun b => !b
def D.isN : D → D → Option Bool
  | .non, .non => some true
  | _, .non => some false
  | _, _ => none
def D.notN (x y : D) : Option Bool := (D.isN x y).map fun b => !b
def D.ix : D → D → Option D
  | .lst xs, .int i => atI xs i
  | .tup xs, .int i => atI xs i
  | .tux xs, .int i => atI xs i
  | .frl xs, .int i => atI xs i
  | _, _ => none
def D.len : List D → Option D
  | [.lst xs] => some (.int xs.length)
  | [.tup xs] => some (.int xs.length)
  | [.tux xs] => some (.int xs.length)
  | [.frl xs] => some (.int xs.length)
  | [.str x] => if x.length ≤ 16000000 then some (.int x.length) else none
  | _ => none
def D.abs : List D → Option D
  | [.int i] => some (.int (if i < 0 then -i else i))
  | _ => none
def D.toInt : List D → Option D
  | [.int i] => some (.int i)
  | [.bl b] => some (.int (if b then 1 else 0))
  | _ => none
def D.toTup : List D → Option D
  | [.lst xs] => some (.tup xs)
  | [.tup xs] => some (.tup xs)
  | _ => none
def D.toLst : List D → Option (List D)
  | [.lst xs] => some xs
  | [.tup xs] => some xs
  | [.tux xs] => some xs
  | _ => none

section
variable {X : Cx} {K : PySem.W.Frag}
theorem Inv.lstR {pins : List (Addr × Obj)} {σ : L2.St} {H : Hp} {s : Shared} {a : Addr} {xs : List V} (I : Inv X pins σ H s) (h : Rd H a (.lst xs)) : xs.length ≤ sizeLine ∧ ∃ (its : List Value) (n : Nat), Vals xs its ∧ xs.length = its.length ∧ s.heap.get? a = some { cls := .type "list", data := .seq its.toArray n } := by
  obtain ⟨z, its, n, r, e⟩ := h.ok I.hok
  exact ⟨z, its, n, r, r.length, e⟩
def rCatR : R2 := fun x y H Q => ∃ l b xs zs, x = .ref l ∧ y = .ref b ∧ Rd H l (.lst xs) ∧ Rd H b (.lst zs) ∧ xs.length + zs.length ≤ sizeLine ∧ ∀ p, H p = none → Q (.ref p) (upd H p (.lst (xs ++ zs)))
theorem op_catR : OpR X (binaryOp .Add) rCatR := by
  intro pins s σ H x y v u Q I rx ry h
  obtain ⟨l, b, xs, zs, rfl, rfl, hH, hB, hz, q⟩ := h
  cases rx
  cases ry
  obtain ⟨z, its, n, r, hl, e⟩ := Inv.lstR I hH
  obtain ⟨z2, its2, n2, r2, hl2, e2⟩ := Inv.lstR I hB
  refine PySem.P.add_list e e2 ?_ (by rw [List.size_toArray, List.size_toArray]; omega)
  have ea : its.toArray ++ its2.toArray = (its ++ its2).toArray := by simp
  rw [ea]
  exact ⟨.ref _, _, I.lnew (t' := s.toks) (r.append r2) (by rw [List.length_append]; omega), rfl, q _ I.fresh⟩
def rRepR : R2 := fun x y H Q => ∃ l k xs, x = .ref l ∧ y = .int k ∧ Rd H l (.lst xs) ∧ -(2 ^ 63) ≤ k ∧ k < 2 ^ 63 ∧ xs.length * k.toNat ≤ sizeLine ∧
  ∀ p, H p = none → Q (.ref p) (upd H p (.lst (List.replicate k.toNat xs).flatten))
theorem op_repR : OpR X (binaryOp .Mult) rRepR := by
  intro pins s σ H x y v u Q I rx ry h
  obtain ⟨l, k, xs, rfl, rfl, hH, h1, h2, hz, q⟩ := h
  cases rx
  obtain ⟨t, rfl⟩ := ry
  obtain ⟨z, its, n, r, hl, e⟩ := Inv.lstR I hH
  have hlen : its.toArray.size * k.toNat ≤ sizeLine := by rw [List.size_toArray, ← hl]; exact hz
  have hcap : ¬ its.toArray.size * k.toNat > (2 ^ 63 - 1) / 8 := by
    have : (sizeLine : Nat) ≤ (2 ^ 63 - 1) / 8 := by decide
    omega
  have hfit : ¬ (!Builtin.List.listFitsIndex k) = true := by
    rw [fitsIndex_both h1 h2]
    exact Bool.false_ne_true
  have hlong : ¬ Builtin.List.listTooLong (its.toArray.size * k.toNat) = true := by
    rw [notLongL hlen]
    exact Bool.false_ne_true
  have hnew : List.foldl (fun x1 x2 => x1 ++ x2) #[] (List.replicate (if its.toArray.isEmpty = true then 0 else k.toNat) its.toArray) = (List.replicate k.toNat its).flatten.toArray := by
    have f0 : ∀ m : Nat, List.foldl (fun x1 x2 => x1 ++ x2) #[] (List.replicate m its.toArray) = (List.replicate m its).flatten.toArray := fun m => by
      have := foldl_rep its m []
      rw [List.nil_append] at this
      exact this
    rw [f0]
    cases its with
    | nil => simp
    | cons a r' => rw [if_neg (by simp)]
  refine wpAny_binaryOp_repeat_ref (T := "list") (U := "int") (by decide) ⟨_, e, rfl⟩ (fun s' => typeIs_int s' k t) noFill_list_mul F.fills_int_mul F.slot_int_rmul repeat_list F.slot_int_index.lookup
    (call_meets F.slot_int_rmul (typeIs_int s k t) F.entry_int_rmul (F.args_int_rmul_2 _ _) (int___rmul___int_list k t l its.toArray n)
      ⟨e, rfl, ⟨_, e, rfl⟩, call_meets F.slot_list_mul ⟨_, e, rfl⟩ F.entry_list_mul (F.args_list_mul_2 _ _) (AutoListH.list___mul___list_int_3 l its.toArray n k t hfit hcap hlong) ⟨e, ?_⟩⟩)
  rw [hnew]
  exact ⟨.ref _, _, I.lnew (t' := s.toks) (r.rep k.toNat) (by rw [PyProof.Rows.lm_len_rep_flat, Nat.mul_comm]; exact hz), rfl, q _ I.fresh⟩

/-! lists of data -/
theorem RpAll.app {K : PySem.W.Frag} {G : Hp} : ∀ {ds es : List D} {vs us : List V}, RpAll K G vs ds → RpAll K G us es → RpAll K G (vs ++ us) (ds ++ es)
  | [], _, _, _, h, h' => by cases h; exact h'
  | d :: ds, _, _, _, h, h' => by
    cases h with
    | cons a b => exact .cons a (b.app h')
theorem RpAll.get {K : PySem.W.Frag} {G : Hp} : ∀ {ds : List D} {vs : List V} {i : Nat} {d : D}, RpAll K G vs ds → ds[i]? = some d → ∃ v, vs[i]? = some v ∧ Rp K G v d
  | [], _, _, _, h, e => by simp at e
  | d :: ds, _, 0, _, h, e => by
    cases h with
    | cons a b => cases e; exact ⟨_, rfl, a⟩
  | d :: ds, _, i + 1, _, h, e => by
    cases h with
    | cons a b => obtain ⟨v, h1, h2⟩ := b.get (i := i) (by simpa using e); exact ⟨v, by simpa using h1, h2⟩
theorem RpAll.getV {K : PySem.W.Frag} {G : Hp} {ds : List D} {vs : List V} {i : Nat} {v : V} (h : RpAll K G vs ds) (e : vs[i]? = some v) : ∃ d, ds[i]? = some d ∧ Rp K G v d := by
  obtain ⟨h1, h2⟩ := List.getElem?_eq_some_iff.mp e
  have hi : i < ds.length := by rw [← h.len]; exact h1
  obtain ⟨u, e2, r⟩ := h.get (List.getElem?_eq_getElem hi)
  rw [e] at e2; cases e2
  exact ⟨_, List.getElem?_eq_getElem hi, r⟩
theorem RpAll.at_ {K : PySem.W.Frag} {G : Hp} {ds : List D} {vs : List V} {i : Int} {d : D} (h : RpAll K G vs ds) (e : atI ds i = some d) : ∃ v, atI vs i = some v ∧ Rp K G v d := by
  unfold atI at e ⊢
  rw [h.len]
  cases z : ixN ds.length i with
  | none => rw [z] at e; cases e
  | some j => rw [z] at e; exact h.get e
theorem RpAll.take {K : PySem.W.Frag} {G : Hp} : ∀ {ds : List D} {vs : List V} (n : Nat), RpAll K G vs ds → RpAll K G (vs.take n) (ds.take n)
  | _, _, 0, _ => by simp only [List.take_zero]; exact .nil
  | [], _, _ + 1, h => by cases h; exact .nil
  | d :: ds, _, n + 1, h => by
    cases h with
    | cons a b => exact .cons a (b.take n)
theorem RpAll.drop {K : PySem.W.Frag} {G : Hp} : ∀ {ds : List D} {vs : List V} (n : Nat), RpAll K G vs ds → RpAll K G (vs.drop n) (ds.drop n)
  | _, _, 0, h => h
  | [], _, _ + 1, h => by cases h; exact .nil
  | d :: ds, _, n + 1, h => by
    cases h with
    | cons a b => exact b.drop n
theorem RpAll.rep {K : PySem.W.Frag} {G : Hp} {ds : List D} {vs : List V} (h : RpAll K G vs ds) : ∀ n : Nat, RpAll K G (List.replicate n vs).flatten (List.replicate n ds).flatten
  | 0 => .nil
  | n + 1 => by
    simp only [List.replicate_succ, List.flatten_cons]
    exact h.app (h.rep n)
theorem RpAll.set {K : PySem.W.Frag} {G : Hp} {v : V} {d : D} (r : Rp K G v d) : ∀ {ds : List D} {vs : List V} (i : Nat), RpAll K G vs ds → RpAll K G (vs.set i v) (ds.set i d)
  | [], _, _, h => by cases h; exact .nil
  | _ :: _, _, 0, h => by
    cases h with
    | cons a b => exact .cons r b
  | _ :: _, _, i + 1, h => by
    cases h with
    | cons a b => exact .cons a (b.set r i)
theorem RpAll.rev {K : PySem.W.Frag} {G : Hp} {ds : List D} {vs : List V} (h : RpAll K G vs ds) : RpAll K G vs.reverse ds.reverse := by
  induction ds generalizing vs with
  | nil => cases h; exact .nil
  | cons d ds ih =>
    cases h with
    | cons a b => simp only [List.reverse_cons]; exact (ih b).app (.cons a .nil)

/-! ### the operations, as rules -/
def keepQ {K : PySem.W.Frag} {G H : Hp} {Q : VK} {d : D} {v : V} (l : Lk G H) (q : ∀ v G2 H2, Grow G H G2 H2 → Rp K G2 v d → Q v H2) (r : Rp K G v d) : Q v H := q v G H (Grow.refl l) r
def rAddI (K : PySem.W.Frag) : R2 := fun x y H Q => (rI0 fun i j => .int (i + j)) x y H Q ∨ (∃ i j, x = .str i ∧ y = .str j ∧ i.length + j.length ≤ sizeLine ∧ Q (.str (i ++ j)) H) ∨ rCatA K x y H Q
theorem o_add : OpR X (binaryOp .Add) (rAddI X.K) := op_add.or (op_add_str.or op_catA)
theorem d_add : OpD K (rAddI K) D.addI := fun G H x y dx dy d l rx ry e Q q => by
  unfold D.addI at e
  split at e
  · cases e; cases rx; cases ry; exact .inl ⟨_, _, rfl, rfl, keepQ l q (.int _)⟩
  · split at e
    · rename_i hz
      cases e; cases rx; cases ry; exact .inr (.inl ⟨_, _, rfl, rfl, size_ok hz, keepQ l q (.str _)⟩)
    · cases e
  · split at e
    · rename_i xs ys hz
      cases e
      cases rx with
      | @tup a vs _ h1 r1 =>
        cases ry with
        | @tup b us _ h2 r2 =>
          refine .inr (.inr ⟨_, _, _, _, rfl, rfl, l.le.seqT h1, l.le.seqT h2, size_ok (by rw [r1.len, r2.len]; exact hz), fun z => ?_, fun z1 z2 => ?_, fun z1 z2 p hp => ?_⟩)
          · subst z
            cases r1
            exact keepQ l q (.tup h2 r2)
          · subst z2
            cases r2
            rw [List.append_nil] at q
            exact keepQ l q (.tup h1 r1)
          · have w := Grow.new (o := .tup (vs ++ us)) l hp rfl
            exact q _ _ _ w (.tup (.inl (.inl upd_same)) ((r1.app r2).up w.g))
    · cases e
  · cases e
theorem newL {K : PySem.W.Frag} {G H : Hp} {Q : VK} {ds : List D} {vs : List V} {p : Addr} (l : Lk G H) (hp : H p = none) (r : RpAll K G vs ds) (q : NewL K G H ds Q) : Q (.ref p) (upd H p (.lst vs)) :=
  q p vs G _ (Grow.own l hp) hp (l.kn p hp) upd_same r
theorem d_cat : OpN K rCatR D.cat := fun G H x y dx dy d l rx ry e Q q => by
  unfold D.cat at e
  split at e
  · split at e
    · rename_i xs ys hz
      cases e
      cases rx with
      | lst h1 r1 =>
        cases ry with
        | lst h2 r2 => exact ⟨_, _, _, _, rfl, rfl, l.le _ _ rfl h1, l.le _ _ rfl h2, size_ok (by rw [r1.len, r2.len]; exact hz), fun p hp => newL l hp (r1.app r2) q⟩
    · cases e
  · cases e
theorem d_rep : OpN K rRepR D.rep := fun G H x y dx dy d l rx ry e Q q => by
  unfold D.rep at e
  split at e
  · split at e
    · rename_i xs k hz
      cases e
      cases ry
      cases rx with
      | lst h1 r1 => exact ⟨_, _, _, rfl, rfl, l.le _ _ rfl h1, hz.1, hz.2.1, size_ok (by rw [r1.len]; exact hz.2.2), fun p hp => newL l hp (r1.rep _) q⟩
    · cases e
  · cases e
theorem d_sub : OpD K (rI0 fun i j => .int (i - j)) D.sub := fun G H x y dx dy d l rx ry e Q q => by
  unfold D.sub at e
  split at e
  · cases e; cases rx; cases ry; exact ⟨_, _, rfl, rfl, keepQ l q (.int _)⟩
  · cases e
theorem d_mul : OpD K (rI CMul fun i j => .int (i * j)) D.mul := fun G H x y dx dy d l rx ry e Q q => by
  unfold D.mul at e
  split at e
  · split at e
    · rename_i hz
      cases e; cases rx; cases ry; exact ⟨_, _, rfl, rfl, hz, keepQ l q (.int _)⟩
    · cases e
  · cases e
theorem d_div : OpD K (rI CDivW fun i j => .int (i / j)) D.div := fun G H x y dx dy d l rx ry e Q q => by
  unfold D.div at e
  split at e
  · split at e
    · rename_i hz
      cases e; cases rx; cases ry; exact ⟨_, _, rfl, rfl, hz, keepQ l q (.int _)⟩
    · cases e
  · cases e
theorem d_mod : OpD K (rI (fun _ j => 0 < j) fun i j => .int (i % j)) D.mod := fun G H x y dx dy d l rx ry e Q q => by
  unfold D.mod at e
  split at e
  · split at e
    · rename_i hz
      cases e; cases rx; cases ry; exact ⟨_, _, rfl, rfl, hz, keepQ l q (.int _)⟩
    · cases e
  · cases e
theorem d_pow : OpD K (rI CPow fun i j => .int (i ^ j.toNat)) D.pow := fun G H x y dx dy d l rx ry e Q q => by
  unfold D.pow at e
  split at e
  · split at e
    · rename_i hz
      cases e; cases rx; cases ry; exact ⟨_, _, rfl, rfl, hz, keepQ l q (.int _)⟩
    · cases e
  · cases e
theorem d_neg : UnD K (rU fun i => .int (-i)) D.neg := fun G H x dx d l rx e Q q => by
  unfold D.neg at e
  split at e
  · cases e; cases rx; exact ⟨_, rfl, keepQ l q (.int _)⟩
  · cases e
theorem d_cmpI {p : Int → Int → Bool} {f : D → D → Option Bool} (hf : ∀ i j, f (.int i) (.int j) = some (p i j)) (hn : ∀ x y b, f x y = some b → ∃ i j, x = .int i ∧ y = .int j) : OpD K (rI0 fun i j => .bl (p i j)) (fun x y => (f x y).map .bl) := fun G H x y dx dy d l rx ry e Q q => by
  obtain ⟨b, e1, rfl⟩ := Option.map_eq_some_iff.mp e
  obtain ⟨i, j, rfl, rfl⟩ := hn _ _ _ e1
  rw [hf] at e1
  cases e1; cases rx; cases ry
  exact ⟨_, _, rfl, rfl, keepQ l q (.bl _)⟩
theorem d_lt : OpD K (rI0 fun i j => .bl (decide (i < j))) (fun x y => (D.lt x y).map .bl) := d_cmpI (fun _ _ => rfl) fun x y b e => by
  unfold D.lt at e; split at e
  · exact ⟨_, _, rfl, rfl⟩
  · cases e
theorem d_le : OpD K (rI0 fun i j => .bl (decide (i ≤ j))) (fun x y => (D.le x y).map .bl) := d_cmpI (fun _ _ => rfl) fun x y b e => by
  unfold D.le at e; split at e
  · exact ⟨_, _, rfl, rfl⟩
  · cases e
theorem d_gt : OpD K (rI0 fun i j => .bl (decide (j < i))) (fun x y => (D.gt x y).map .bl) := d_cmpI (fun _ _ => rfl) fun x y b e => by
  unfold D.gt at e; split at e
  · exact ⟨_, _, rfl, rfl⟩
  · cases e
theorem d_ge : OpD K (rI0 fun i j => .bl (decide (j ≤ i))) (fun x y => (D.ge x y).map .bl) := d_cmpI (fun _ _ => rfl) fun x y b e => by
  unfold D.ge at e; split at e
  · exact ⟨_, _, rfl, rfl⟩
  · cases e
mutual
theorem Rp.dp {G H : Hp} (l : Lk G H) : ∀ {d : D} {v : V} {y : PyData}, Rp K G v d → D.py d = some y → Dp K H v y
  | .non, _, _, h, e => by cases e; cases h; exact .non
  | .bl b, _, _, h, e => by cases e; cases h; exact .bl b
  | .int i, _, _, h, e => by cases e; cases h; exact .int i
  | .str x, _, _, h, e => by cases e; cases h; exact .str x
  | .lst xs, _, _, h, e => by
    simp only [D.py, Option.map_eq_some_iff] at e
    obtain ⟨ys, e1, rfl⟩ := e
    cases h with
    | lst a b => exact .lst (.inl (l.le _ _ rfl a)) (RpAll.dp l b e1)
  | .tup xs, _, _, h, e => by
    simp only [D.py, Option.map_eq_some_iff] at e
    obtain ⟨ys, e1, rfl⟩ := e
    cases h with
    | tup a b => exact .tup (l.le.seqT a) (RpAll.dp l b e1)
  | .tux xs, _, _, h, e => by
    simp only [D.py, Option.map_eq_some_iff] at e
    obtain ⟨ys, e1, rfl⟩ := e
    cases h with
    | tux a b => exact .tup (l.le.seqT (.inl a.1)) (RpAll.dp l b e1)
  | .dK _ _, _, _, h, e => by simp [D.py] at e
  | .dT _ _, _, _, h, e => by simp [D.py] at e
  | .exc _, _, _, h, e => by simp [D.py] at e
theorem RpAll.dp {G H : Hp} (l : Lk G H) : ∀ {ds : List D} {vs : List V} {ys : List PyData}, RpAll K G vs ds → D.pys ds = some ys → DpAll K H vs ys
  | [], _, _, h, e => by simp only [D.pys] at e; cases e; cases h; exact .nil
  | d :: ds, _, _, h, e => by
    simp only [D.pys, Option.bind_eq_some_iff, Option.map_eq_some_iff] at e
    obtain ⟨y, e1, ys, e2, rfl⟩ := e
    cases h with
    | cons a b => exact .cons (Rp.dp l a e1) (RpAll.dp l b e2)
end
def rEqA (K : PySem.W.Frag) : R2 := fun x y H Q => rEq x y H Q ∨ rEqD K x y H Q
def rNeA (K : PySem.W.Frag) : R2 := fun x y H Q => rNe x y H Q ∨ rNeD K x y H Q
theorem o_eq (hu : X.A.units + 64 < cLine) : OpR X (compareOp .Eq) (rEqA X.K) := op_eq.or (op_eqD hu)
theorem o_ne (hu : X.A.units + 64 < cLine) : OpR X (compareOp .NotEq) (rNeA X.K) := op_ne.or (op_neD hu)
theorem d_eq : OpD K (rEqA K) (fun x y => (D.eq x y).map .bl) := fun G H x y dx dy d l rx ry e Q q => by
  obtain ⟨b, e1, rfl⟩ := Option.map_eq_some_iff.mp e
  unfold D.eq at e1
  split at e1
  · cases e1; cases rx; cases ry
    refine .inl ⟨rfl, ?_⟩
    have := keepQ l q (.bl _)
    rw [dec_int]; rw [Bool.beq_eq_decide_eq]; exact this
  · cases e1; cases rx; cases ry
    refine .inl ⟨rfl, ?_⟩
    have := keepQ l q (.bl _)
    rw [dec_str]; rw [Bool.beq_eq_decide_eq]; exact this
  · cases e1; cases rx; cases ry
    refine .inl ⟨rfl, ?_⟩
    have := keepQ l q (.bl _)
    rw [dec_bl]; rw [Bool.beq_eq_decide_eq]; exact this
  · simp only [Option.bind_eq_some_iff] at e1
    obtain ⟨a, ea, c, ec, e1⟩ := e1
    split at e1
    · rename_i hs
      cases e1
      exact .inr ⟨a, c, Rp.dp l rx ea, Rp.dp l ry ec, hs.1, hs.2, keepQ l q (.bl _)⟩
    · cases e1
theorem d_ne : OpD K (rNeA K) (fun x y => (D.ne x y).map .bl) := fun G H x y dx dy d l rx ry e Q q => by
  obtain ⟨b0, e0, rfl⟩ := Option.map_eq_some_iff.mp e
  obtain ⟨b, e1, rfl⟩ := Option.map_eq_some_iff.mp e0
  have h := d_eq (K := K) G H x y dx dy (.bl b) l rx ry (by show Option.map D.bl _ = _; rw [e1]; rfl) (fun v H2 => ∃ b', v = .bl b' ∧ Q (.bl (!b')) H2) (fun v G2 H2 w r => by cases r; exact ⟨_, rfl, q _ G2 H2 w (.bl _)⟩)
  rcases h with ⟨h1, b', h2, h3⟩ | ⟨a, c, h1, h2, h3, h4, b', h5, h6⟩
  · cases h2; exact .inl ⟨h1, h3⟩
  · cases h5; exact .inr ⟨a, c, h1, h2, h3, h4, h6⟩
theorem d_isN : OpD K (fun x y H Q => y = .non ∧ Q (.bl (decide (x = .non))) H) (fun x y => (D.isN x y).map .bl) := fun G H x y dx dy d l rx ry e Q q => by
  obtain ⟨b, e1, rfl⟩ := Option.map_eq_some_iff.mp e
  unfold D.isN at e1
  split at e1
  · cases e1; cases rx; cases ry; exact ⟨rfl, keepQ l q (.bl _)⟩
  · rename_i hn
    cases e1; cases ry
    refine ⟨rfl, ?_⟩
    rw [decide_eq_false (fun z => by subst z; cases rx; exact hn rfl)]
    exact keepQ l q (.bl _)
  · cases e1
theorem d_notN : OpD K (fun x y H Q => y = .non ∧ Q (.bl (!decide (x = .non))) H) (fun x y => (D.notN x y).map .bl) := fun G H x y dx dy d l rx ry e Q q => by
  obtain ⟨b0, e0, rfl⟩ := Option.map_eq_some_iff.mp e
  obtain ⟨b, e1, rfl⟩ := Option.map_eq_some_iff.mp e0
  have h := d_isN (K := K) G H x y dx dy (.bl b) l rx ry (by show Option.map D.bl _ = _; rw [e1]; rfl) (fun v H2 => ∃ b', v = .bl b' ∧ Q (.bl (!b')) H2) (fun v G2 H2 w r => by cases r; exact ⟨_, rfl, q _ G2 H2 w (.bl _)⟩)
  obtain ⟨h1, b', h2, h3⟩ := h
  cases h2; exact ⟨h1, h3⟩
def rIxA (K : PySem.W.Frag) : R2 := fun x y H Q => rIxL K x y H Q ∨ rIxT K x y H Q
theorem o_ix : IxR X (rIxA X.K) := ix_list.or ix_tup
theorem d_ix : OpD K (rIxA K) D.ix := fun G H x y dx dy d l rx ry e Q q => by
  unfold D.ix at e
  split at e
  · cases ry
    cases rx with
    | lst h1 r1 =>
      obtain ⟨v, hv, rv⟩ := r1.at_ e
      exact .inl ⟨_, _, _, _, rfl, rfl, .inl (l.le _ _ rfl h1), hv, keepQ l q rv⟩
  · cases ry
    cases rx with
    | tup h1 r1 =>
      obtain ⟨v, hv, rv⟩ := r1.at_ e
      exact .inr ⟨_, _, _, _, rfl, rfl, l.le.seqT h1, hv, keepQ l q rv⟩
  · cases ry
    cases rx with
    | tux h1 r1 =>
      obtain ⟨v, hv, rv⟩ := r1.at_ e
      exact .inr ⟨_, _, _, _, rfl, rfl, l.le.seqT (.inl h1.1), hv, keepQ l q rv⟩
  · cases ry
    cases rx with
    | frl h1 r1 =>
      obtain ⟨v, hv, rv⟩ := r1.at_ e
      exact .inl ⟨_, _, _, _, rfl, rfl, l.le.seqL h1, hv, keepQ l q rv⟩
  · cases e
def rLenA (K : PySem.W.Frag) : List V → Hp → VK → Prop := fun xs H Q => (∃ p ys, xs = [.ref p] ∧ (SqL K H p ys ∨ SqT K H p ys) ∧ Q (.int ys.length) H) ∨ ∃ z, xs = [.str z] ∧ z.length ≤ sizeLine ∧ Q (.int z.length) H
theorem c_len : CallR X (.builtin "len") (rLenA X.K) := call_len_seq.or call_len_str
theorem d_len : CallD K (rLenA K) D.len := fun G H xs ds d l r e Q q => by
  unfold D.len at e
  split at e
  · cases e
    cases r with
    | cons a b =>
      cases b
      cases a with
      | lst h1 r1 => exact .inl ⟨_, _, rfl, .inl (.inl (l.le _ _ rfl h1)), by rw [r1.len]; exact keepQ l q (.int _)⟩
  · cases e
    cases r with
    | cons a b =>
      cases b
      cases a with
      | tup h1 r1 => exact .inl ⟨_, _, rfl, .inr (l.le.seqT h1), by rw [r1.len]; exact keepQ l q (.int _)⟩
  · cases e
    cases r with
    | cons a b =>
      cases b
      cases a with
      | tux h1 r1 => exact .inl ⟨_, _, rfl, .inr (l.le.seqT (.inl h1.1)), by rw [r1.len]; exact keepQ l q (.int _)⟩
  · cases e
    cases r with
    | cons a b =>
      cases b
      cases a with
      | frl h1 r1 => exact .inl ⟨_, _, rfl, .inl (l.le.seqL h1), by rw [r1.len]; exact keepQ l q (.int _)⟩
  · split at e
    · rename_i hz
      cases e
      cases r with
      | cons a b =>
        cases b
        cases a
        exact .inr ⟨_, rfl, size_ok hz, keepQ l q (.int _)⟩
    · cases e
  · cases e
theorem d_abs : CallD K (fun xs H Q => ∃ i, xs = [.int i] ∧ Q (.int (if i < 0 then -i else i)) H) D.abs := fun G H xs ds d l r e Q q => by
  unfold D.abs at e
  split at e
  · cases e
    cases r with
    | cons a b => cases b; cases a; exact ⟨_, rfl, keepQ l q (.int _)⟩
  · cases e
theorem d_int : CallD K (fun xs H Q => (∃ i, xs = [.int i] ∧ Q (.int i) H) ∨ ∃ k, xs = [.bl k] ∧ Q (.int (if k then 1 else 0)) H) D.toInt := fun G H xs ds d l r e Q q => by
  unfold D.toInt at e
  split at e
  · cases e
    cases r with
    | cons a b => cases b; cases a; exact .inl ⟨_, rfl, keepQ l q (.int _)⟩
  · cases e
    cases r with
    | cons a b => cases b; cases a; exact .inr ⟨_, rfl, keepQ l q (.int _)⟩
  · cases e
theorem d_tup : CallD K (fun xs H Q => ∃ p ys, xs = [.ref p] ∧ ((SqL K H p ys ∧ ∀ l, H l = none → Q (.ref l) (upd H l (.tup ys))) ∨ (SqT K H p ys ∧ Q (.ref p) H))) D.toTup := fun G H xs ds d l r e Q q => by
  unfold D.toTup at e
  split at e
  · cases e
    cases r with
    | cons a b =>
      cases b
      cases a with
      | @lst a vs _ h1 r1 =>
        refine ⟨_, _, rfl, .inl ⟨.inl (l.le _ _ rfl h1), fun p hp => ?_⟩⟩
        have w := Grow.new (o := .tup vs) l hp rfl
        exact q _ _ _ w (.tup (.inl (.inl upd_same)) (r1.up w.g))
  · cases e
    cases r with
    | cons a b =>
      cases b
      cases a with
      | tup h1 r1 => exact ⟨_, _, rfl, .inr ⟨l.le.seqT h1, keepQ l q (.tup h1 r1)⟩⟩
  · cases e
theorem d_lst : CallN K (fun xs H Q => ∃ p ys, xs = [.ref p] ∧ (SqL K H p ys ∨ SqT K H p ys) ∧ ∀ l, H l = none → Q (.ref l) (upd H l (.lst ys))) D.toLst := fun G H xs ds d l r e Q q => by
  unfold D.toLst at e
  split at e
  · cases e
    cases r with
    | cons a b =>
      cases b
      cases a with
      | lst h1 r1 => exact ⟨_, _, rfl, .inl (.inl (l.le _ _ rfl h1)), fun p hp => newL l hp r1 q⟩
  · cases e
    cases r with
    | cons a b =>
      cases b
      cases a with
      | tup h1 r1 => exact ⟨_, _, rfl, .inr (l.le.seqT h1), fun p hp => newL l hp r1 q⟩
  · cases e
    cases r with
    | cons a b =>
      cases b
      cases a with
      | tux h1 r1 => exact ⟨_, _, rfl, .inr (l.le.seqT (.inl h1.1)), fun p hp => newL l hp r1 q⟩
  · cases e
end
end Wk
set_option maxHeartbeats 4000000
/-! Wk6: defs, calls, slices, what is walked, comprehensions. -/
namespace Wk
open PySem PySem.Spec PyProof.Rows L2

/-! ### defs -/
section
variable {ω : Type}
def ap0 (f : R ω) : List D → R ω
  | [] => f
  | _ => .bad
def ap1 (f : D → R ω) : List D → R ω
  | [a] => f a
  | _ => .bad
def ap2 (f : D → D → R ω) : List D → R ω
  | [a, b] => f a b
  | _ => .bad
def ap3 (f : D → D → D → R ω) : List D → R ω
  | [a, b, c] => f a b c
  | _ => .bad
def ap4 (f : D → D → D → D → R ω) : List D → R ω
  | [a, b, c, d] => f a b c d
  | _ => .bad
def ap5 (f : D → D → D → D → D → R ω) : List D → R ω
  | [a, b, c, d, e] => f a b c d e
  | _ => .bad
/-- what a def promises: f of its arguments' data -/
def spR (K : PySem.W.Frag) (ec : Nat → Addr) (Rr : Hp → ω → V → Hp → Hp → Prop) (n : Nat) (f : List D → R ω) : Sp := fun vs H Q E => ∃ G ds, Lk G H ∧ RpAll K G vs ds ∧ ds.length = n ∧
  wp (f ds) (fun o => ∀ v G2 H2, Grow G H G2 H2 → Rr H o v G2 H2 → Q v H2) (fun c => ∀ G2 H2, Grow G H G2 H2 → E (.ref (ec c)) none H2)
end
theorem Fr8.toGrow {G H G2 H2 : Hp} (f : Fr8 ⟨G, H, []⟩ G2 H2) : Grow G H G2 H2 := ⟨f.le0, f.up, fun a o e => f.keep a o (by simp) e, fun a n m => f.cl a n m⟩
theorem Fr8.ofGrow {G H G2 H2 : Hp} (w : Grow G H G2 H2) : Fr8 ⟨G, H, []⟩ G2 H2 := ⟨w.up, w.g, fun a o _ e => w.h a o e, fun a n => ne_of_ne w.h n, w.cl⟩
/-- the slots at a def's entry -/
def en0 (N : List Str) (ds : List D) : En := ds.map (fun d => some (.v d)) ++ List.replicate (N.length - ds.length) none
theorem st_start {K : PySem.W.Frag} {G H : Hp} {vs : List V} {ds : List D} {N : List Str} (l : Lk G H) (r : RpAll K G vs ds) : St8 K ⟨G, H, []⟩ (en0 N ds) (start N vs) G H := by
  have hl := r.len
  have noown : ∀ (i : Nat) (dv : DV), (en0 N ds)[i]? = some (some dv) → ∃ d, ds[i]? = some d ∧ dv = .v d := fun i dv e => by
    unfold en0 at e
    by_cases hi : i < ds.length
    · rw [List.getElem?_append_left (by simpa using hi), List.getElem?_map] at e
      cases z : ds[i]? with
      | none => rw [z] at e; cases e
      | some d => rw [z] at e; cases e; exact ⟨d, rfl, rfl⟩
    · rw [List.getElem?_append_right (by simpa using hi), List.getElem?_replicate] at e
      split at e <;> cases e
  refine ⟨⟨⟨l, Le.refl _, fun _ _ _ e => e, fun _ n => n, fun _ n _ => n⟩, fun i dv e => ?_, fun i j b b' p c c' e e' => ?_, fun i b p c e => ?_⟩, ?_⟩
  · obtain ⟨d, e1, rfl⟩ := noown i dv e
    obtain ⟨v, e2, r2⟩ := r.get e1
    refine ⟨v, ?_, r2⟩
    have hi : i < vs.length := (List.getElem?_eq_some_iff.mp e2).1
    unfold L2.start
    rw [List.getElem?_append_left (by simpa using hi), List.getElem?_map, e2]
    rfl
  · obtain ⟨d, _, z⟩ := noown i _ e
    cases z
  · obtain ⟨d, _, z⟩ := noown i _ e
    cases z
  · unfold L2.start en0
    simp [hl]
section
variable {P : Program} {w : World} {K : PySem.W.Frag} {mg : Str → Option Value} {base : Heap} {ec : Nat → Addr} {ω : Type}
/-- a def by its body -/
theorem fn_ok {x qual : Str} {st : Stmt} {f : Addr} {fd : FuncData} {N ps : List Str} {k : Nat} {n : Nat} {Rr : Hp → ω → V → Hp → Hp → Prop} {fm : List D → R ω} (F : Fun K x qual st f fd) (S : FnScope N ps (defScope st)) (hn : ps.length = n)
    (body : ∀ (cdv : Value) (A : Around) (outer : List Env) (s : Shared) (H : Hp) (E : XK), Room k (A.deeper (envOfC qual (defScope st) s.heap.objs.size f cdv)) →
      Go (cxOf (L2.CX P w) P w K mg base N qual (defScope st) f cdv A outer s H E) ec (fun c _ H => E (.ref (ec c)) none H) → ∀ ds : List D, ds.length = n →
      XB (cxOf (L2.CX P w) P w K mg base N qual (defScope st) f cdv A outer s H E) (fun c _ H => E (.ref (ec c)) none H) [] (defBody st) (en0 N ds) (fm ds) (TR Rr)) :
    FnOk P w K mg base (L2.CX P w) (k + 1) f fd ps (spR K ec Rr n fm) := by
  refine F.okX S (fun vs H Q E h => ?_) (fun cdv A outer s H vs Q E hr h => ?_)
  · obtain ⟨G, ds, l, r, e, _⟩ := h
    rw [r.len, e, hn]
  · obtain ⟨G, ds, l, r, e, q⟩ := h
    have g : Go (cxOf (L2.CX P w) P w K mg base N qual (defScope st) f cdv A outer s H E) ec (fun c _ H => E (.ref (ec c)) none H) :=
      ⟨rfl, passes_of rfl, S.nd, (takes_of (E := E) rfl rfl rfl rfl).imp fun cls d σ H' ⟨c, e1, e2, e3⟩ => by rw [e1, e2]; exact e3⟩
    have b := body cdv A outer s H E hr g ds e
    exact ⟨_, pss_w, b ⟨G, H, []⟩ (start N vs) G H (st_start l r) _ (wp_mono q (fun o ho v G2 H2 f8 rr => ho v G2 H2 f8.toGrow rr) fun c hc σ G2 H2 es => hc G2 H2 es.fr.toGrow)⟩
/-- a def that ends without handing back -/
theorem xb_fall {X : Cx} {W : WN} {eE : En} {st : List Stmt} {en : En} {α : Type} {m : R α} {L : α → En → Prop} (h : XB X W eE st en m (TN X.K L)) : ∀ B σ G H, St8 X.K B en σ G H → ∀ Q : VK, Post X W eE B m (fun _ => ∀ G2 H2, Fr8 B G2 H2 → Q .non H2) → wB X st { nx := fun _ H' => Q .non H', rt := Q } σ H :=
  fun B σ G H S Q q => h B σ G H S _ (wp_mono q (fun a ha e σ2 G2 H2 _ S2 => ha G2 H2 S2.es.fr) fun _ z => z)
/-- a def that hands back nothing -/
theorem fn_okN {x qual : Str} {st : Stmt} {f : Addr} {fd : FuncData} {N ps : List Str} {k : Nat} {n : Nat} {α : Type} {L : α → En → Prop} {fm : List D → R α} (F : Fun K x qual st f fd) (S : FnScope N ps (defScope st)) (hn : ps.length = n)
    (body : ∀ (cdv : Value) (A : Around) (outer : List Env) (s : Shared) (H : Hp) (E : XK), Room k (A.deeper (envOfC qual (defScope st) s.heap.objs.size f cdv)) →
      Go (cxOf (L2.CX P w) P w K mg base N qual (defScope st) f cdv A outer s H E) ec (fun c _ H => E (.ref (ec c)) none H) → ∀ ds : List D, ds.length = n →
      XB (cxOf (L2.CX P w) P w K mg base N qual (defScope st) f cdv A outer s H E) (fun c _ H => E (.ref (ec c)) none H) [] (defBody st) (en0 N ds) (fm ds) (TN K L)) :
    FnOk P w K mg base (L2.CX P w) (k + 1) f fd ps (spR K ec (rP K) n (fun ds => (fm ds).bnd fun _ => .ok .non)) := by
  refine F.okX S (fun vs H Q E h => ?_) (fun cdv A outer s H vs Q E hr h => ?_)
  · obtain ⟨G, ds, l, r, e, _⟩ := h
    rw [r.len, e, hn]
  · obtain ⟨G, ds, l, r, e, q⟩ := h
    have g : Go (cxOf (L2.CX P w) P w K mg base N qual (defScope st) f cdv A outer s H E) ec (fun c _ H => E (.ref (ec c)) none H) :=
      ⟨rfl, passes_of rfl, S.nd, (takes_of (E := E) rfl rfl rfl rfl).imp fun cls d σ H' ⟨c, e1, e2, e3⟩ => by rw [e1, e2]; exact e3⟩
    have b := body cdv A outer s H E hr g ds e
    exact ⟨_, pss_w, xb_fall b ⟨G, H, []⟩ (start N vs) G H (st_start l r) Q (wp_mono (wp_bnd.mp q) (fun o ho G2 H2 f8 => ho .non G2 H2 f8.toGrow .non) fun c hc σ G2 H2 es => hc G2 H2 es.fr.toGrow)⟩
end
section
variable {X : Cx} {W : WN} {eE : En} {en : En} {ec : Nat → Addr} {pos : Pos} {ω : Type}
/-- a call -/
theorem xp_call {x : Str} {p : Pos} {e : Expr} {es : List Expr} {k n : Nat} {f : Addr} {fd : FuncData} {ps : List Str} {fm : List D → R D} {ms : R (List D)} (g : Go X ec W) (F : FnOk X.prog X.w X.K X.mg X.base (L2.CX X.prog X.w) k f fd ps (spR X.K ec (rP X.K) n fm)) (hr : Room k X.A) (hm : X.mg x = some (.ref f)) (hk : PySem.W.keepIn X.K (.ref f) = true) (hb : Binds X.K fd ps [])
    (ha : XA X W (e :: es) en ms) (hln : ∀ ds P E, wp (fm ds) P E → ds.length = n) (hg : Gl X x := by rfl) (hdb : (x == ("__debug__" : Str)) = false := by decide) (h1 : starEach (e :: es) X.env = (false, eval e X.env) :: starEach es X.env := by rfl) (h2 : (backTo pos (starEach es X.env)).any (·.1) = false := by rfl) :
    XP X W (.Call (.Name x p) (e :: es) [] pos) en (ms.bnd fm) := fun σ G H S Q h => by
  refine pe_to (pe_callS F hr hg hm hk hb (fun σ => passAt g.tk σ) pa_w hdb h1 h2) (ha σ G H S _ ?_)
  have h' := wp_bnd.mp h
  cases em : ms with
  | ok ds =>
    rw [em] at h'
    refine fun vs G1 H1 w1 r1 => ⟨G1, ds, w1.up, r1, hln ds _ _ h', wp_mono h' (fun d hd v G2 H2 w2 r2 => hd v G2 H2 (w1.trans w2) r2) fun c hc G2 H2 w2 => ⟨c, rfl, rfl, hc G2 H2 (w1.trans w2)⟩⟩
  | err c => rw [em] at h'; exact fun G2 H2 w => h' G2 H2 w
  | bad => rw [em] at h'; exact h'.elim
theorem xn_call {x : Str} {p : Pos} {e : Expr} {es : List Expr} {k n : Nat} {f : Addr} {fd : FuncData} {ps : List Str} {fm : List D → R (List D)} {ms : R (List D)} (g : Go X ec W) (F : FnOk X.prog X.w X.K X.mg X.base (L2.CX X.prog X.w) k f fd ps (spR X.K ec (rN X.K) n fm)) (hr : Room k X.A) (hm : X.mg x = some (.ref f)) (hk : PySem.W.keepIn X.K (.ref f) = true) (hb : Binds X.K fd ps [])
    (ha : XA X W (e :: es) en ms) (hln : ∀ ds P E, wp (fm ds) P E → ds.length = n) (hg : Gl X x := by rfl) (hdb : (x == ("__debug__" : Str)) = false := by decide) (h1 : starEach (e :: es) X.env = (false, eval e X.env) :: starEach es X.env := by rfl) (h2 : (backTo pos (starEach es X.env)).any (·.1) = false := by rfl) :
    XN X W (.Call (.Name x p) (e :: es) [] pos) en (ms.bnd fm) := fun σ G H S Q h => by
  refine pe_to (pe_callS F hr hg hm hk hb (fun σ => passAt g.tk σ) pa_w hdb h1 h2) (ha σ G H S _ ?_)
  have h' := wp_bnd.mp h
  cases em : ms with
  | ok ds =>
    rw [em] at h'
    refine fun vs G1 H1 w1 r1 => ⟨G1, ds, w1.up, r1, hln ds _ _ h', wp_mono h' (fun d hd v G2 H2 w2 r2 => ?_) fun c hc G2 H2 w2 => ⟨c, rfl, rfl, hc G2 H2 (w1.trans w2)⟩⟩
    obtain ⟨p, us, rfl, hp, gp, ep, rr⟩ := r2
    refine hd p us G2 H2 (w1.trans w2) ?_ gp ep rr
    cases z : H p with
    | none => rfl
    | some o => rw [w1.h p o z] at hp; cases hp
  | err c => rw [em] at h'; exact fun G2 H2 w => h' G2 H2 w
  | bad => rw [em] at h'; exact h'.elim
/-! the arities -/
variable {a b c d : Expr} {ma mb mc md : R D}
theorem len_ms1 : ∀ ds, (ma.bnd fun x => (R.ok []).bnd fun xs => .ok (x :: xs)) = .ok ds → ds.length = 1 := fun ds e => by
  cases ma <;> cases e; rfl
theorem xa_1 (ha : XP X W a en ma) (h1 : starEach [a] X.env = (false, eval a X.env) :: starEach [] X.env := by rfl) : XA X W [a] en (ma.bnd fun x => .ok [x]) := xa_cons ha xa_nil h1
theorem xa_2 (ha : XP X W a en ma) (hb : XP X W b en mb) (h1 : starEach [a, b] X.env = (false, eval a X.env) :: starEach [b] X.env := by rfl) (h2 : starEach [b] X.env = (false, eval b X.env) :: starEach [] X.env := by rfl) : XA X W [a, b] en (ma.bnd fun x => mb.bnd fun y => .ok [x, y]) := by
  have h := xa_cons ha (xa_1 hb h2) h1
  simpa only [bnd_assoc, bnd_ok] using h
theorem xa_3 (ha : XP X W a en ma) (hb : XP X W b en mb) (hc : XP X W c en mc) (h1 : starEach [a, b, c] X.env = (false, eval a X.env) :: starEach [b, c] X.env := by rfl) (h2 : starEach [b, c] X.env = (false, eval b X.env) :: starEach [c] X.env := by rfl) (h3 : starEach [c] X.env = (false, eval c X.env) :: starEach [] X.env := by rfl) : XA X W [a, b, c] en (ma.bnd fun x => mb.bnd fun y => mc.bnd fun z => .ok [x, y, z]) := by
  have h := xa_cons ha (xa_2 hb hc h2 h3) h1
  simpa only [bnd_assoc, bnd_ok] using h
theorem xa_4 (ha : XP X W a en ma) (hb : XP X W b en mb) (hc : XP X W c en mc) (hd : XP X W d en md) (h1 : starEach [a, b, c, d] X.env = (false, eval a X.env) :: starEach [b, c, d] X.env := by rfl) (h2 : starEach [b, c, d] X.env = (false, eval b X.env) :: starEach [c, d] X.env := by rfl) (h3 : starEach [c, d] X.env = (false, eval c X.env) :: starEach [d] X.env := by rfl) (h4 : starEach [d] X.env = (false, eval d X.env) :: starEach [] X.env := by rfl) : XA X W [a, b, c, d] en (ma.bnd fun x => mb.bnd fun y => mc.bnd fun z => md.bnd fun t => .ok [x, y, z, t]) := by
  have h := xa_cons ha (xa_3 hb hc hd h2 h3 h4) h1
  simpa only [bnd_assoc, bnd_ok] using h
theorem ln_1 : ∀ ds, (ma.bnd fun x => R.ok [x]) = .ok ds → ds.length = 1 := fun ds e => by
  cases ma <;> cases e; rfl
theorem ln_2 : ∀ ds, (ma.bnd fun x => mb.bnd fun y => R.ok [x, y]) = .ok ds → ds.length = 2 := fun ds e => by
  cases ma <;> cases mb <;> cases e; rfl
theorem ln_3 : ∀ ds, (ma.bnd fun x => mb.bnd fun y => mc.bnd fun z => R.ok [x, y, z]) = .ok ds → ds.length = 3 := fun ds e => by
  cases ma <;> cases mb <;> cases mc <;> cases e; rfl
theorem ln_4 : ∀ ds, (ma.bnd fun x => mb.bnd fun y => mc.bnd fun z => md.bnd fun t => R.ok [x, y, z, t]) = .ok ds → ds.length = 4 := fun ds e => by
  cases ma <;> cases mb <;> cases mc <;> cases md <;> cases e; rfl
theorem XP.is {e : Expr} {m m' : R D} (h : XP X W e en m) (q : m = m') : XP X W e en m' := by rw [← q]; exact h
theorem XN.is {e : Expr} {m m' : R (List D)} (h : XN X W e en m) (q : m = m') : XN X W e en m' := by rw [← q]; exact h

/-! ### slices -/
def XO (X : Cx) (W : WN) (e : Option Expr) (en : En) (m : R (Option Int)) : Prop := ∀ σ G H, Sl X.K en σ G H → ∀ Q : Option Int → Hp → Prop,
  wp m (fun o => ∀ G2 H2, Grow G H G2 H2 → Q o H2) (fun c => ∀ G2 H2, Grow G H G2 H2 → W c σ H2) → ∃ t, PO X e t ∧ t σ H Q
def wOp (X : Cx) (e : Option Expr) : L2.TO := fun σ H Q => ∃ t, PO X e t ∧ t σ H Q
theorem po_w {X : Cx} {e : Option Expr} : PO X e (wOp X e) := ⟨fun pins s σ H Q I h => by obtain ⟨t, p, q⟩ := h; exact p.run pins s σ H Q I q⟩
theorem xo_none : XO X W none en (.ok none) := fun σ G H S Q h => ⟨_, po_none, h G H (Grow.refl S.le)⟩
def D.toI : D → Option Int
  | .int i => some i
  | _ => none
theorem xo_some (h : XP X W a en ma) : XO X W (some a) en (ma.bnd fun d => (R.of d.toI).bnd fun i => .ok (some i)) := fun σ G H S Q k => by
  refine ⟨_, po_some pe_w, h σ G H S _ (wp_mono (wp_bnd.mp k) (fun d hd v G1 H1 w1 r1 => ?_) fun _ z => z)⟩
  obtain ⟨i, e, hd⟩ := wp_of (wp_bnd.mp hd)
  cases d <;> cases e
  cases r1
  exact ⟨_, rfl, hd G1 H1 w1⟩
def cutD (xs : List D) (lo hi : Option Int) : List D := (xs.drop (HT.sIx xs.length 0 lo)).take (HT.sIx xs.length xs.length hi - HT.sIx xs.length 0 lo)
def D.cut : D → Option Int → Option Int → Option D
  | .tup xs, lo, hi => some (.tup (cutD xs lo hi))
  | _, _, _ => none
def D.cutL : D → Option Int → Option Int → Option (List D)
  | .lst xs, lo, hi => some (cutD xs lo hi)
  | _, _, _ => none
theorem RpAll.cut {K : PySem.W.Frag} {G : Hp} {ds : List D} {vs : List V} (h : RpAll K G vs ds) (lo hi : Option Int) : RpAll K G (cutV vs lo hi) (cutD ds lo hi) := by
  unfold cutV cutD
  rw [h.len]
  exact (h.drop _).take _
variable {lo hi : Option Expr} {ml mh : R (Option Int)} {p2 : Pos}
theorem xp_cut (ha : XP X W a en ma) (hl : XO X W lo en ml) (hh : XO X W hi en mh) : XP X W (.Subscript a (.Slice lo hi none p2) pos) en (ma.bnd fun x => ml.bnd fun l => mh.bnd fun h => R.of (x.cut l h)) := fun σ G H S Q k => by
  refine pe_to (pe_slice sl_tupA pe_w po_w po_w) (ha σ G H S _ (wp_mono (wp_bnd.mp k) (fun x hx v G1 H1 w1 r1 => ?_) fun _ z => z))
  refine hl σ G1 H1 (S.grow w1) _ (wp_mono (wp_bnd.mp hx) (fun l hl' G2 H2 w2 => ?_) fun _ z G2 H2 w => z G2 H2 (w1.trans w))
  refine hh σ G2 H2 ((S.grow w1).grow w2) _ (wp_mono (wp_bnd.mp hl') (fun h hh' G3 H3 w3 => ?_) fun _ z G3 H3 w => z G3 H3 ((w1.trans w2).trans w))
  obtain ⟨d, e, hd⟩ := wp_of hh'
  unfold D.cut at e
  split at e
  · rename_i xs
    cases e
    have w := (w1.trans w2).trans w3
    cases r1 with
    | @tup a vs _ h1 r1 =>
      have r3 := r1.up (w2.g.trans w3.g)
      refine ⟨a, vs, rfl, (w3.up.le.seqT ((w2.g.trans w3.g).seqT h1)), fun z => ?_, fun _ p hp => ?_⟩
      · refine hd _ _ _ w ?_
        have e1 : cutD xs l h = xs := by
          unfold cutD
          rw [← r1.len, z.1, z.2, Nat.sub_zero, List.drop_zero, r1.len, List.take_length]
        rw [e1]
        exact .tup ((w2.g.trans w3.g).seqT h1) r3
      · have w4 := Grow.new (o := .tup (cutV vs l h)) w3.up hp rfl
        exact hd _ _ _ (w.trans w4) (.tup (.inl (.inl upd_same)) ((r3.cut l h).up w4.g))
  · cases e
theorem xn_cut (ha : XP X W a en ma) (hl : XO X W lo en ml) (hh : XO X W hi en mh) : XN X W (.Subscript a (.Slice lo hi none p2) pos) en (ma.bnd fun x => ml.bnd fun l => mh.bnd fun h => R.of (x.cutL l h)) := fun σ G H S Q k => by
  refine pe_to (pe_slice sl_list pe_w po_w po_w) (ha σ G H S _ (wp_mono (wp_bnd.mp k) (fun x hx v G1 H1 w1 r1 => ?_) fun _ z => z))
  refine hl σ G1 H1 (S.grow w1) _ (wp_mono (wp_bnd.mp hx) (fun l hl' G2 H2 w2 => ?_) fun _ z G2 H2 w => z G2 H2 (w1.trans w))
  refine hh σ G2 H2 ((S.grow w1).grow w2) _ (wp_mono (wp_bnd.mp hl') (fun h hh' G3 H3 w3 => ?_) fun _ z G3 H3 w => z G3 H3 ((w1.trans w2).trans w))
  obtain ⟨d, e, hd⟩ := wp_of hh'
  unfold D.cutL at e
  split at e
  · cases e
    have w := (w1.trans w2).trans w3
    cases r1 with
    | @lst a vs _ h1 r1 =>
      have r3 := r1.up (w2.g.trans w3.g)
      refine ⟨a, vs, rfl, .inl (w3.up.le _ _ rfl ((w2.g.trans w3.g) _ _ rfl h1)), fun p hp => ?_⟩
      exact newL w3.up hp (r3.cut l h) (NewL.up w hd)
  · cases e

/-! ### what is walked -/
def iAny (K : PySem.W.Frag) (tl : TE) : TI := fun σ H R => tl σ H fun x H1 => ∃ a, x = .ref a ∧ (((∃ xs, SqL K H1 a xs) ∧ R (Itl K a) H1) ∨ ((∃ xs, SqT K H1 a xs) ∧ R (Itt K a) H1))
theorem pi_any {tg l : Expr} {tl : TE} (hl : PE X l tl) : PI X tg l (iAny X.K tl) := by
  refine ⟨fun pins s σ H R I h => ?_⟩
  refine thn (hl.run pins s σ H _ I h) fun v s1 ⟨x, H1, I1, r1, q1⟩ => ?_
  obtain ⟨a, e, q⟩ := q1
  subst e
  cases r1
  have fp : ∀ b, b ∈ [s1.heap.objs.size] → FpOk X pins H1 b := fun b hb => by
    have e : b = s1.heap.objs.size := by simpa using hb
    subst e
    exact I1.fpOk (Nat.le_refl _) (I1.hok.fresh (Nat.le_refl _))
  rcases q with ⟨⟨xs, hq⟩, q⟩ | ⟨⟨xs, hq⟩, q⟩
  · obtain ⟨its, rv, p, hz⟩ := I1.list hq
    refine wpAny_pyIter_list p.isList ?_
    exact ⟨s1.heap.objs.size, [s1.heap.objs.size], _, _, H1, rfl, I1.kept (t' := s1.toks) fun b o e => Heap.get?_push_of_some _ e, turn_list a _, ⟨_, Heap.get?_push_size _ rfl, rfl, rfl⟩, fp, q⟩
  · obtain ⟨its, rv, p, hz⟩ := I1.tuple hq
    refine wpAny_pyIter_tuple (show s1.heap.IsTuple a its.toArray from p) ?_
    exact ⟨s1.heap.objs.size, [s1.heap.objs.size], _, _, H1, rfl, I1.kept (t' := s1.toks) fun b o e => Heap.get?_push_of_some _ e, turn_tuple a _, ⟨_, Heap.get?_push_size _ rfl, rfl, rfl⟩, fp, q⟩
theorem wlk_L {K : PySem.W.Frag} {G : Hp} {a : Addr} {vs : List V} {ds : List D} (h : Rd G a (.lst vs)) (r : RpAll K G vs ds) : Wlk K (Itl K a) G ds :=
  ⟨fun G' H' l k => ⟨vs, .inl (k.le _ _ rfl (l _ _ rfl h)), Nat.le_of_eq r.len⟩, fun i d e G' H' l k => by
    obtain ⟨v, e2, r2⟩ := r.get e
    have hq : SqL K H' a vs := .inl (k.le _ _ rfl (l _ _ rfl h))
    refine ⟨⟨vs, v, hq, e2⟩, fun x H'' y => ?_⟩
    obtain ⟨rfl, y⟩ := y
    have := y vs hq
    rw [e2] at this; cases this
    exact ⟨G', Grow.refl k, r2.up l⟩⟩
theorem wlk_T {K : PySem.W.Frag} {G : Hp} {a : Addr} {vs : List V} {ds : List D} (h : SqT K G a vs) (r : RpAll K G vs ds) : Wlk K (Itt K a) G ds :=
  ⟨fun G' H' l k => ⟨vs, k.le.seqT (l.seqT h), Nat.le_of_eq r.len⟩, fun i d e G' H' l k => by
    obtain ⟨v, e2, r2⟩ := r.get e
    have hq : SqT K H' a vs := k.le.seqT (l.seqT h)
    refine ⟨⟨vs, v, hq, e2⟩, fun x H'' y => ?_⟩
    obtain ⟨rfl, y⟩ := y
    have := y vs hq
    rw [e2] at this; cases this
    exact ⟨G', Grow.refl k, r2.up l⟩⟩
def D.seq : D → Option (List D)
  | .lst xs => some xs
  | .tup xs => some xs
  | .tux xs => some xs
  | _ => none
theorem xi_seq {tg : Expr} (h : XP X W a en ma) : XI X W tg a en (ma.bnd fun d => R.of d.seq) := fun σ G H S Q k => by
  refine pi_to (pi_any pe_w) (h σ G H S _ (wp_mono (wp_bnd.mp k) (fun d hd v G1 H1 w1 r1 => ?_) fun _ z => z))
  obtain ⟨ds, e, hd⟩ := wp_of hd
  unfold D.seq at e
  split at e
  · cases e
    cases r1 with
    | lst h1 r1 => exact ⟨_, rfl, .inl ⟨⟨_, .inl (w1.up.le _ _ rfl h1)⟩, hd _ G1 H1 w1 (wlk_L h1 r1)⟩⟩
  · cases e
    cases r1 with
    | tup h1 r1 => exact ⟨_, rfl, .inr ⟨⟨_, w1.up.le.seqT h1⟩, hd _ G1 H1 w1 (wlk_T h1 r1)⟩⟩
  · cases e
    cases r1 with
    | tux h1 r1 => exact ⟨_, rfl, .inr ⟨⟨_, w1.up.le.seqT (.inl h1.1)⟩, hd _ G1 H1 w1 (wlk_T (.inl h1.1) r1)⟩⟩
  · cases e
/-- the numbers i, i + 1 .. below j -/
def upD (i j : Int) : List D := (List.range (j - i).toNat).map fun k => .int (i + (k : Nat))
theorem upD_len {i j : Int} : (upD i j).length = (j - i).toNat := by unfold upD; rw [List.length_map, List.length_range]
theorem upD_get {i j : Int} {k : Nat} {d : D} (h : (upD i j)[k]? = some d) : k < (j - i).toNat ∧ d = .int (i + (k : Nat)) := by
  unfold upD at h
  rw [List.getElem?_map] at h
  obtain ⟨m, e1, e2⟩ := Option.map_eq_some_iff.mp h
  obtain ⟨h1, h2⟩ := List.getElem?_eq_some_iff.mp e1
  rw [List.length_range] at h1
  simp only [List.getElem_range] at h2
  exact ⟨h1, by rw [← e2, h2]⟩
theorem wlk_R {K : PySem.W.Frag} {G : Hp} {i j : Int} : Wlk K (Itr i (j - i).toNat) G (upD i j) :=
  ⟨fun G' H' l k => by show _ ≤ _; rw [upD_len]; exact Nat.le_refl _, fun n d e G' H' l k => by
    obtain ⟨h1, rfl⟩ := upD_get e
    refine ⟨h1, fun x H'' y => ?_⟩
    obtain ⟨rfl, rfl⟩ := y
    exact ⟨G', Grow.refl k, .int _⟩⟩
def rg1 : D → Option (List D)
  | .int j => if -(2 ^ 62) ≤ j ∧ j < 2 ^ 62 then some (upD 0 j) else none
  | _ => none
def rg2 : D → D → Option (List D)
  | .int i, .int j => if -(2 ^ 62) ≤ i ∧ i < 2 ^ 62 ∧ -(2 ^ 62) ≤ j ∧ j < 2 ^ 62 then some (upD i j) else none
  | _, _ => none
theorem xi_range1 {tg : Expr} {p : Pos} (hm : X.mg "range" = none) (h : XP X W a en ma) (hg : Gl X "range" := by rfl) (hs : starEach [a] X.env = [(false, eval a X.env)] := by rfl) : XI X W tg (.Call (.Name "range" p) [a] [] pos) en (ma.bnd fun x => R.of (rg1 x)) := fun σ G H S Q k => by
  refine pi_to (pi_range1 hg hm pa_w hs) (xa_1 h hs σ G H S _ (wp_bnd.mpr (wp_mono (wp_bnd.mp k) (fun d hd vs G1 H1 w1 r1 => ?_) fun _ z => z)))
  obtain ⟨ds, e, hd⟩ := wp_of hd
  unfold rg1 at e
  split at e
  · split at e
    · rename_i j hz
      cases e
      cases r1 with
      | cons r1 r2 =>
        cases r1; cases r2
        have := hd (Itr 0 j.toNat) G1 H1 w1 (by have := wlk_R (K := X.K) (G := G1) (i := 0) (j := j); rw [Int.sub_zero] at this; exact this)
        exact ⟨j, rfl, hz.1, hz.2, this⟩
    · cases e
  · cases e
theorem xi_range2 {tg : Expr} {p : Pos} (hm : X.mg "range" = none) (h : XP X W a en ma) (h' : XP X W b en mb) (hg : Gl X "range" := by rfl) (hs : starEach [a, b] X.env = [(false, eval a X.env), (false, eval b X.env)] := by rfl) (hs2 : starEach [b] X.env = [(false, eval b X.env)] := by rfl) : XI X W tg (.Call (.Name "range" p) [a, b] [] pos) en (ma.bnd fun x => mb.bnd fun y => R.of (rg2 x y)) := fun σ G H S Q k => by
  refine pi_to (pi_range2 hg hm pa_w hs hs2) (xa_2 h h' (by rw [hs, hs2]) hs2 σ G H S _ (wp_bnd.mpr (wp_mono (wp_bnd.mp k) (fun d hd => wp_bnd.mpr (wp_mono (wp_bnd.mp hd) (fun y hy vs G1 H1 w1 r1 => ?_) fun _ z => z)) fun _ z => z)))
  obtain ⟨ds, e, hy⟩ := wp_of hy
  unfold rg2 at e
  split at e
  · split at e
    · rename_i i j hz
      cases e
      cases r1 with
      | cons r1 r2 =>
        cases r2 with
        | cons r2 r3 =>
          cases r1; cases r2; cases r3
          exact ⟨i, j, rfl, hz, hy _ G1 H1 w1 wlk_R⟩
    · cases e
  · cases e
theorem xi_rev {tg : Expr} {p : Pos} (hm : X.mg "reversed" = none) (h : XP X W a en ma) (hg : Gl X "reversed" := by rfl) (hs : starEach [a] X.env = (false, eval a X.env) :: starEach [] X.env := by rfl) : XI X W tg (.Call (.Name "reversed" p) [a] [] pos) en (ma.bnd fun x => R.of (x.seq.map List.reverse)) := fun σ G H S Q k => by
  refine pi_to (RT.pi_revA hg hm pe_w hs) (h σ G H S _ (wp_mono (wp_bnd.mp k) (fun d hd v G1 H1 w1 r1 => ?_) fun _ z => z))
  obtain ⟨ds, e, hd⟩ := wp_of hd
  obtain ⟨es, e1, rfl⟩ := Option.map_eq_some_iff.mp e
  have key : ∀ {vs : List V} (r : RpAll X.K G1 vs es) (i : Nat) (d : D), es.reverse[i]? = some d → ∃ v, vs[vs.length - 1 - i]? = some v ∧ Rp X.K G1 v d ∧ i < vs.length := fun {vs} r i d e => by
    have hi : i < es.length := by have := (List.getElem?_eq_some_iff.mp e).1; simpa using this
    rw [List.getElem?_reverse hi] at e
    obtain ⟨v, a1, a2⟩ := r.get e
    rw [← r.len] at a1
    exact ⟨v, a1, a2, by rw [r.len]; exact hi⟩
  unfold D.seq at e1
  split at e1
  · cases e1
    cases r1 with
    | @lst a vs _ h1 r1 =>
      refine ⟨_, vs, rfl, .inl ⟨.inl (w1.up.le _ _ rfl h1), hd _ G1 H1 w1 ⟨fun G' H' l k => ?_, fun i d e G' H' l k => ?_⟩⟩⟩
      · show vs.length ≤ _
        rw [List.length_reverse, r1.len]
        exact Nat.le_refl _
      · obtain ⟨v, a1, a2, a3⟩ := key r1 i d e
        have hq : SqL X.K H' a vs := .inl (k.le _ _ rfl (l _ _ rfl h1))
        refine ⟨⟨a3, vs, v, hq, a1⟩, fun x H'' y => ?_⟩
        obtain ⟨rfl, y⟩ := y
        have := y vs hq
        rw [a1] at this; cases this
        exact ⟨G', Grow.refl k, a2.up l⟩
  · cases e1
    cases r1 with
    | @tup a vs _ h1 r1 =>
      refine ⟨_, vs, rfl, .inr ⟨w1.up.le.seqT h1, hd _ G1 H1 w1 ⟨fun G' H' l k => ?_, fun i d e G' H' l k => ?_⟩⟩⟩
      · show vs.length ≤ _
        rw [List.length_reverse, r1.len]
        exact Nat.le_refl _
      · obtain ⟨v, a1, a2, a3⟩ := key r1 i d e
        have hq : SqT X.K H' a vs := k.le.seqT (l.seqT h1)
        refine ⟨⟨a3, vs, v, hq, a1⟩, fun x H'' y => ?_⟩
        obtain ⟨rfl, y⟩ := y
        have := y vs hq
        rw [a1] at this; cases this
        exact ⟨G', Grow.refl k, a2.up l⟩
  · cases e1
    cases r1 with
    | @tux a vs _ h1' r1 =>
      have h1 : SqT X.K G1 a vs := .inl h1'.1
      refine ⟨_, vs, rfl, .inr ⟨w1.up.le.seqT h1, hd _ G1 H1 w1 ⟨fun G' H' l k => ?_, fun i d e G' H' l k => ?_⟩⟩⟩
      · show vs.length ≤ _
        rw [List.length_reverse, r1.len]
        exact Nat.le_refl _
      · obtain ⟨v, a1, a2, a3⟩ := key r1 i d e
        have hq : SqT X.K H' a vs := k.le.seqT (l.seqT h1)
        refine ⟨⟨a3, vs, v, hq, a1⟩, fun x H'' y => ?_⟩
        obtain ⟨rfl, y⟩ := y
        have := y vs hq
        rw [a1] at this; cases this
        exact ⟨G', Grow.refl k, a2.up l⟩
  · cases e1
end
end Wk
set_option maxHeartbeats 4000000
/-! Wk7: comprehensions; lists that are one's own. -/
namespace Wk
open PySem PySem.Spec PyProof.Rows L2

/-- within a comprehension nothing may be refused -/
def noE {α : Type} : R α → R α
  | .err _ => .bad
  | m => m
@[simp] theorem noE_ok {α : Type} (a : α) : noE (R.ok a) = .ok a := by exact id rfl
theorem wp_noE {α : Type} {m : R α} {P : α → Prop} {E : Nat → Prop} (h : wp (noE m) P E) : wp m P fun _ => False := by
  cases m with
  | ok a => exact h
  | err c => exact h
  | bad => exact h
def lcI (t : D → R Bool) (f : D → R D) : List D → R (List D)
  | [] => .ok []
  | d :: ds => (noE (t d)).bnd fun b => if b = true then (noE (f d)).bnd fun y => (lcI t f ds).bnd fun ys => .ok (y :: ys) else lcI t f ds
def lcM (f : D → R D) : List D → R (List D)
  | [] => .ok []
  | d :: ds => (noE (f d)).bnd fun y => (lcM f ds).bnd fun ys => .ok (y :: ys)
theorem lcI_true (f : D → R D) : ∀ ds, lcI (fun _ => .ok true) f ds = lcM f ds
  | [] => rfl
  | d :: ds => by
    show (noE (f d)).bnd _ = (noE (f d)).bnd _
    rw [lcI_true f ds]
def lcIR (t : D → R Bool) (f : D → R D) (ds : List D) : R (List D) := if ds.length ≤ 16000000 then lcI t f ds else .bad
def lcR (f : D → R D) (ds : List D) : R (List D) := if ds.length ≤ 16000000 then lcM f ds else .bad
theorem lcIR_true (f : D → R D) (ds : List D) : lcIR (fun _ => .ok true) f ds = lcR f ds := by
  unfold lcIR lcR
  rw [lcI_true]
def clr (en : En) (vs : List Nat) : Bool := vs.all fun i => match en[i]? with
  | some none => true
  | _ => false
theorem clr_at {en : En} {vs : List Nat} (h : clr en vs = true) {i : Nat} (hi : i ∈ vs) : en[i]? = some none := by
  have := List.all_eq_true.mp h i hi
  split at this
  · assumption
  · cases this
/-- readings that hold wherever the block runs -/
def wEb (X : Cx) (scope : Scope) (e : Expr) : TE := fun σ H Q => ∀ (s : Shared) (H0 : Hp) (C : Addr) (cl : List (Str × Addr)) (fp : List Addr), wE (X.blk s H0 scope (compEnvC scope cl C X.env) fp) e σ H Q
theorem pe_wb {X : Cx} {scope : Scope} {e : Expr} (s : Shared) (H0 : Hp) (C : Addr) (cl : List (Str × Addr)) (fp : List Addr) : PE (X.blk s H0 scope (compEnvC scope cl C X.env) fp) e (wEb X scope e) := ⟨fun pins s' _ _ _ I h => h s H0 C cl fp pins s' I⟩
def wTb (X : Cx) (scope : Scope) (e : Expr) : TT := fun σ H Q => ∀ (s : Shared) (H0 : Hp) (C : Addr) (cl : List (Str × Addr)) (fp : List Addr), wT (X.blk s H0 scope (compEnvC scope cl C X.env) fp) e σ H Q
theorem pt_wb {X : Cx} {scope : Scope} {e : Expr} (s : Shared) (H0 : Hp) (C : Addr) (cl : List (Str × Addr)) (fp : List Addr) : PT (X.blk s H0 scope (compEnvC scope cl C X.env) fp) e (wTb X scope e) := ⟨fun pins s' _ _ _ I h => h s H0 C cl fp pins s' I⟩
abbrev W0 : WN := fun _ _ _ => False
/-- a block's judgements -/
def BP (X : Cx) (scope : Scope) (e : Expr) (en : En) (m : R D) : Prop := ∀ (s : Shared) (H0 : Hp) (C : Addr) (cl : List (Str × Addr)) (fp : List Addr), XP (X.blk s H0 scope (compEnvC scope cl C X.env) fp) W0 e en m
def BT (X : Cx) (scope : Scope) (e : Expr) (en : En) (m : R Bool) : Prop := ∀ (s : Shared) (H0 : Hp) (C : Addr) (cl : List (Str × Addr)) (fp : List Addr), XT (X.blk s H0 scope (compEnvC scope cl C X.env) fp) W0 e en m
section
variable {K : PySem.W.Frag} {en : En} {σ : L2.St} {G H : Hp}
theorem Grow.mutD {G2 H2 : Hp} {p : Addr} {o : HO} (w : Grow G H G2 H2) (hp : H p = none) (gp : G2 p = none) : Grow G H G2 (upd H2 p o) := by
  refine ⟨w.g, ⟨fun a u pu ru => ?_, fun a n => ?_⟩, fun a u e => ?_, w.cl⟩
  · have na : a ≠ p := fun z => by
      subst z
      rcases ru with z | ⟨_, z⟩ <;> (rw [gp] at z; cases z)
    rcases w.up.le a u pu ru with z | ⟨x, z⟩
    · exact .inl (by rw [upd_ne na]; exact z)
    · exact .inr ⟨x, by rw [upd_ne na]; exact z⟩
  · by_cases z : a = p
    · rw [z]; exact gp
    · rw [upd_ne z] at n; exact w.up.kn a n
  · rw [upd_ne (ne_of_none e hp)]; exact w.h a u e
theorem Sl.wipe {vs : List Nat} (s : Sl K en σ G H) (h : clr en vs = true) : Sl K en (L2.wipe σ vs) G H := by
  refine ⟨s.le, by rw [wipe_length]; exact s.len, fun i dv e => ?_, s.one⟩
  obtain ⟨v, a, b⟩ := s.at_ i dv e
  refine ⟨v, ?_, b⟩
  rw [wipe_out fun hi => ?_]
  · exact a
  · rw [clr_at h hi] at e; cases e
theorem Sl.set {i : Nat} {v : V} {d : D} (s : Sl K en σ G H) (r : Rp K G v d) : Sl K (en.set i (some (.v d))) (σ.set i (some v)) G H := by
  refine ⟨s.le, by simp [s.len], fun j dv e => ?_, fun j k b b' p c c' e e' => ?_⟩
  · rcases get_set e with ⟨rfl, e1⟩ | ⟨n, f1⟩
    · cases e1
      have hj : j < σ.length := by
        rw [s.len]
        have := (List.getElem?_eq_some_iff.mp e).1
        simpa using this
      exact ⟨v, List.getElem?_set_self hj, r⟩
    · obtain ⟨u, a, b⟩ := s.at_ j dv f1
      exact ⟨u, by rw [List.getElem?_set_ne (Ne.symm n)]; exact a, b⟩
  · rcases get_set e with ⟨rfl, e1⟩ | ⟨n, f1⟩
    · cases e1
    · rcases get_set e' with ⟨rfl, e1⟩ | ⟨n', f2⟩
      · cases e1
      · exact s.one j k b b' p c c' f1 f2
theorem wipe_set {σ : L2.St} {i : Nat} {x : Option V} : ∀ {vs : List Nat}, i ∈ vs → wipe (σ.set i x) vs = wipe σ vs
  | v :: vs, h => by
    by_cases hv : i ∈ vs
    · unfold wipe
      rw [wipe_set hv]
    · have e : i = v := by
        rcases List.mem_cons.mp h with z | z
        · exact z
        · exact absurd z hv
      subst e
      unfold wipe
      have key : ∀ {vs : List Nat}, i ∉ vs → wipe (σ.set i x) vs = (wipe σ vs).set i x := by
        intro vs
        induction vs with
        | nil => intro _; rfl
        | cons u us ih =>
          intro hn
          unfold wipe
          have h1 : i ≠ u := fun z => hn (by rw [z]; exact List.mem_cons_self)
          have h2 : i ∉ us := fun z => hn (List.mem_cons_of_mem _ z)
          rw [ih h2, List.set_comm _ _ h1]
      rw [key hv, List.set_set]
theorem wipe_wipe {σ : L2.St} : ∀ (vs us : List Nat), (∀ i ∈ vs, i ∈ us) → wipe (wipe σ vs) us = wipe σ us
  | [], _, _ => rfl
  | v :: vs, us, h => by
    show wipe ((wipe σ vs).set v none) us = _
    rw [wipe_set (h v List.mem_cons_self)]
    exact wipe_wipe vs us fun i hi => h i (List.mem_cons_of_mem _ hi)
end
/-- a comprehension's target -/
def TgL (K : PySem.W.Frag) (g : TG) (vs : List Nat) (f : En → D → Option En) : Prop := ∀ en σ G H, Sl K en σ G H → ∀ d v en', Rp K G v d → f en d = some en' → ∀ Q : L2.St → Hp → Prop, (∀ σ', Sl K en' σ' G H → wipe σ' vs = wipe σ vs → Q σ' H) → g v σ H Q
section
variable {X : Cx} {W : WN} {eE : En} {en : En} {ec : Nat → Addr} {pos : Pos}
theorem tl_name {i : Nat} : TgL X.K (gName i) [i] (fun en d => some (en.set i (some (.v d)))) := fun en σ G H S d v en' r e Q k => by
  cases e
  exact k _ (S.set r) (wipe_set (by simp))
theorem tl_two {i j : Nat} : TgL X.K (gTup X.K 2 (gCons (gName i) (gCons (gName j) gNil))) [i, j] (fun en d => d.two.map fun p => (en.set i (some (.v p.1))).set j (some (.v p.2))) := fun en σ G H S d v en' r e Q k => by
  obtain ⟨⟨x, y⟩, e1, e2⟩ := Option.map_eq_some_iff.mp e
  unfold D.two at e1
  split at e1
  · cases e1
    cases r with
    | tup hs ha =>
      cases ha with
      | cons r1 h2 =>
        cases h2 with
        | cons r2 h3 =>
          cases h3
          rw [← e2] at k
          exact ⟨_, _, rfl, S.le.le.seqT hs, rfl, _, _, rfl, _, _, rfl, rfl, k _ ((S.set r1).set r2) (by rw [wipe_set (by simp), wipe_set (by simp)])⟩
  · cases e1
theorem tl_three {i j l : Nat} : TgL X.K (gTup X.K 3 (gCons (gName i) (gCons (gName j) (gCons (gName l) gNil)))) [i, j, l] (fun en d => d.three.map fun p => ((en.set i (some (.v p.1))).set j (some (.v p.2.1))).set l (some (.v p.2.2))) := fun en σ G H S d v en' r e Q k => by
  obtain ⟨⟨x, y, z⟩, e1, e2⟩ := Option.map_eq_some_iff.mp e
  unfold D.three at e1
  split at e1
  · cases e1
    cases r with
    | tup hs ha =>
      cases ha with
      | cons r1 h2 =>
        cases h2 with
        | cons r2 h3 =>
          cases h3 with
          | cons r3 h4 =>
            cases h4
            rw [← e2] at k
            exact ⟨_, _, rfl, S.le.le.seqT hs, rfl, _, _, rfl, _, _, rfl, _, _, rfl, rfl, k _ (((S.set r1).set r2).set r3) (by rw [wipe_set (by simp), wipe_set (by simp), wipe_set (by simp)])⟩
  · cases e1
/-- the run of a comprehension -/
theorem lc_run {tg it elt : Expr} {scope : Scope} {g : TG} {tt : TT} {vs : List Nat} {f : En → D → Option En} {mi : R (List D)} {mt : D → R Bool} {me : D → R D} (hi : XI X W tg it en mi) (ht : TgL X.K g vs f) (hc : clr en vs = true)
    (hb : ∀ d (P : Bool → Prop) (E : Nat → Prop), wp (mt d) P E → ∃ e', f en d = some e' ∧ (∀ σ G H, Sl X.K e' σ G H → ∀ Q : Bool → Hp → Prop, wp (mt d) (fun b => ∀ G2 H2, Grow G H G2 H2 → Q b H2) (fun _ => False) → tt σ H Q) ∧ BP X scope elt e' (me d))
    (σ : L2.St) (G H : Hp) (S : Sl X.K en σ G H) (Q : VK) (q : wp (mi.bnd fun ds => lcIR mt me ds) (fun ys => NewL X.K G H ys Q) (fun c => ∀ G2 H2, Grow G H G2 H2 → W c σ H2)) : tLc (wI X tg it) g tt (wEb X scope elt) vs σ H Q := by
  refine hi σ G H S _ (wp_mono (wp_bnd.mp q) (fun ds hd J G1 H1 w1 wk => ?_) fun _ z => z)
  unfold lcIR at hd
  by_cases hln : ds.length ≤ 16000000
  · rw [if_pos hln] at hd
    intro D hD
    have hpD : H D = none := Option.eq_none_iff_forall_ne_some.mpr fun o z => by rw [w1.h D o z] at hD; cases hD
    refine ⟨fun i m H' => m = ds.length - i ∧ i ≤ ds.length ∧ ∃ G' acc dn, Grow G1 H1 G' H' ∧ H' D = some (.lst acc) ∧ G' D = none ∧ RpAll X.K G' acc dn ∧ acc.length ≤ i ∧ wp (lcI mt me (ds.drop i)) (fun ys => NewL X.K G H (dn ++ ys) Q) (fun c => ∀ G2 H2, Grow G H G2 H2 → W c σ H2),
      ⟨_, rfl, Nat.zero_le _, G1, [], [], Grow.own w1.up hD, upd_same, w1.up.kn D hD, .nil, Nat.le_refl _, hd⟩, ?_⟩
    rintro i m H' ⟨rfl, hi', G', acc, dn, w', hA, gA, rA, lA, p⟩
    by_cases hlt : i < ds.length
    · rw [List.drop_eq_getElem_cons hlt] at p
      obtain ⟨go, yl⟩ := wk.go i ds[i] (List.getElem?_eq_getElem hlt) G' H' w'.g w'.up
      refine .inr ⟨go, fun H3 => ∃ G3 acc dn, Grow G1 H1 G3 H3 ∧ H3 D = some (.lst acc) ∧ G3 D = none ∧ RpAll X.K G3 acc dn ∧ acc.length ≤ i + 1 ∧ wp (lcI mt me (ds.drop (i + 1))) (fun ys => NewL X.K G H (dn ++ ys) Q) (fun c => ∀ G2 H2, Grow G H G2 H2 → W c σ H2),
        fun H3 ⟨G3, acc, dn, h⟩ => ⟨ds.length - (i + 1), by omega, rfl, hlt, G3, acc, dn, h⟩, fun x H4 y => ?_⟩
      obtain ⟨G4, w4, r4⟩ := yl x H4 y
      have p1 := wp_bnd.mp p
      have p2 := wp_noE p1
      obtain ⟨e', ef, ht', hp'⟩ := hb ds[i] _ _ p2
      have wA := w'.trans w4
      have S4 : Sl X.K en (wipe σ vs) G4 H4 := ((S.grow w1).grow wA).wipe hc
      refine ht en (wipe σ vs) G4 H4 S4 ds[i] x e' r4 ef _ fun σ5 S5 hw => ⟨?_, ?_⟩
      · rw [hw]; exact wipe_wipe _ _ fun _ h => h
      · refine ht' σ5 G4 H4 S5 _ (wp_mono p2 (fun b hb G5 H5 w5 => ?_) fun _ z => z)
        have nD4 : ∀ {G5 H5 : Hp}, Grow G4 H4 G5 H5 → H5 D = some (.lst acc) ∧ G5 D = none := fun {G5 H5} w5 =>
          ⟨w5.h _ _ (w4.h _ _ hA), w5.cl D (w4.cl D gA (by rw [hA]; intro z; cases z)) (by rw [w4.h _ _ hA]; intro z; cases z)⟩
        cases b with
        | false =>
          show ∃ G3 acc dn, _
          exact ⟨G5, acc, dn, wA.trans w5, (nD4 w5).1, (nD4 w5).2, rA.up (w4.g.trans w5.g), by omega, hb⟩
        | true =>
          show wEb X scope elt σ5 H5 _
          intro s0 H0 C cl fp
          refine hp' s0 H0 C cl fp σ5 G5 H5 (S5.grow w5) _ (wp_mono (wp_noE (wp_bnd.mp hb)) (fun d hd v G6 H6 w6 r6 => ?_) fun _ z => z.elim)
          have n6 := nD4 (w5.trans w6)
          refine ⟨acc, n6.1, Nat.lt_of_le_of_lt lA (Nat.lt_of_lt_of_le hlt (size_ok hln)), G6, acc ++ [v], dn ++ [d], ((wA.trans w5).trans w6).mutD hD n6.2, upd_same, n6.2, (rA.up (w4.g.trans (w5.g.trans w6.g))).app (.cons r6 .nil), by rw [List.length_append]; show _ + 1 ≤ _; omega, ?_⟩
          refine wp_mono (wp_bnd.mp hd) (fun ys hy => ?_) fun _ z => z
          show NewL X.K G H (dn ++ [d] ++ ys) Q
          rw [List.append_assoc]
          exact hy
    · have ei : i = ds.length := by omega
      subst ei
      rw [List.drop_length] at p
      have p : NewL X.K G H (dn ++ []) Q := p
      rw [List.append_nil] at p
      exact .inl ⟨wk.stop G' H' w'.g w'.up, p D acc G' H' (w1.trans w') hpD gA hA rA⟩
  · rw [if_neg hln] at hd
    exact hd.elim
def tYesB : TT := tYes
/-- [e for x in it] -/
theorem xn_lc {i : Nat} {x : Str} {p : Pos} {it elt : Expr} {scope : Scope} {mi : R (List D)} {me : D → R D} (g : Go X ec W) (hi : XI X W (.Name x p) it en mi) (he : ∀ d, BP X scope elt (en.set i (some (.v d))) (me d)) (hblk : BlkOk X.N X.env.scope scope [(x, i)]) (hc : clr en [i] = true := by rfl)
    (hN : X.N[i]? = some x := by rfl) (hx : ∀ (s : Shared) (H0 : Hp) (C : Addr) (cl : List (Str × Addr)) (fp : List Addr), Loc (X.blk s H0 scope (compEnvC scope cl C X.env) fp).env.scope x := by intros; first | exact Or.inl rfl | exact Or.inr rfl)
    (hf : ∀ (s : Shared) (H0 : Hp) (C : Addr) (cl : List (Str × Addr)) (fp : List Addr), (X.blk s H0 scope (compEnvC scope cl C X.env) fp).fn x = true ∨ (X.blk s H0 scope (compEnvC scope cl C X.env) fp).env.scope.names.lookup x = some .local := by intros; first | exact .inl rfl | exact .inr rfl)
    (hs : ∀ x, foldedSetIterable it X.env x = pure x := by intro _; rfl) : XN X W (.ListComp elt [⟨.Name x p, it, [], 0⟩] scope pos) en (mi.bnd fun ds => lcR me ds) := fun σ G H S Q q => by
  refine pe_to (pe_lc (own := [(x, i)]) g.calm g.nd pi_w hblk (fun s H0 C cl fp => pg_name g.nd hN (hx s H0 C cl fp) (hf s H0 C cl fp)) (fun _ _ _ _ _ => pts_nil) pe_wb hs) ?_
  refine lc_run (mt := fun _ => .ok true) hi tl_name hc (fun d P E _ => ⟨_, rfl, fun σ G H S Q k => k G H (Grow.refl S.le), he d⟩) σ G H S Q ?_
  simp only [lcIR_true]
  exact q
/-- [e for x in it if c] -/
theorem xn_lcI {i : Nat} {x : Str} {p : Pos} {it elt c : Expr} {scope : Scope} {mi : R (List D)} {mt : D → R Bool} {me : D → R D} (g : Go X ec W) (hi : XI X W (.Name x p) it en mi) (ht : ∀ d, BT X scope c (en.set i (some (.v d))) (mt d)) (he : ∀ d, BP X scope elt (en.set i (some (.v d))) (me d)) (hblk : BlkOk X.N X.env.scope scope [(x, i)]) (hc : clr en [i] = true := by rfl)
    (hN : X.N[i]? = some x := by rfl) (hx : ∀ (s : Shared) (H0 : Hp) (C : Addr) (cl : List (Str × Addr)) (fp : List Addr), Loc (X.blk s H0 scope (compEnvC scope cl C X.env) fp).env.scope x := by intros; first | exact Or.inl rfl | exact Or.inr rfl)
    (hf : ∀ (s : Shared) (H0 : Hp) (C : Addr) (cl : List (Str × Addr)) (fp : List Addr), (X.blk s H0 scope (compEnvC scope cl C X.env) fp).fn x = true ∨ (X.blk s H0 scope (compEnvC scope cl C X.env) fp).env.scope.names.lookup x = some .local := by intros; first | exact .inl rfl | exact .inr rfl)
    (hs : ∀ x, foldedSetIterable it X.env x = pure x := by intro _; rfl) : XN X W (.ListComp elt [⟨.Name x p, it, [c], 0⟩] scope pos) en (mi.bnd fun ds => lcIR mt me ds) := fun σ G H S Q q => by
  refine pe_to (pe_lc (own := [(x, i)]) g.calm g.nd pi_w hblk (fun s H0 C cl fp => pg_name g.nd hN (hx s H0 C cl fp) (hf s H0 C cl fp)) (fun s H0 C cl fp => pts_one (pt_wb s H0 C cl fp)) pe_wb hs) ?_
  exact lc_run hi tl_name hc (fun d P E _ => ⟨_, rfl, fun σ G H S Q k s0 H0 C cl fp => ht d s0 H0 C cl fp σ G H S Q (wp_mono k (fun _ z => z) fun _ z => z.elim), he d⟩) σ G H S Q q
end
end Wk
set_option maxHeartbeats 4000000
/-! Wk8: borrowing, owned lists, several names at once, chains. -/
namespace PySem.AutoSeq1
open PySem PySem.Spec
theorem ext_tup (l : Addr) (items : Array Value) (n : Nat) (b : Addr) (items2 : Array Value) (n2 : Nat) (dd : Option Addr) (sl : Array (Option Value)) (hs0 : ¬(!items.isEmpty && Builtin.List.listTooLong (items.size + items2.size)) = true) (hs1 : items.size ≤ sizeLine) (hs2 : items.size + items2.size ≤ sizeLine + 1) :
    Meets (Builtin.«list.extend» ⟨[.ref l, .ref b], []⟩) (fun _ R s => s.heap.get? l = some { cls := .type "list", dict := none, data := .seq items n, slots := #[] } ∧ s.heap.get? b = some { cls := .type "tuple", dict := dd, data := .seq items2 n2, slots := sl } ∧ R (.ok (.ret Value.none)) { s with heap := s.heap.update l (Obj.mapSeq fun x => x ++ items2), toks := s.toks }) :=
  .of_wp fun prog w A R s h => by
    obtain ⟨hp, g, d, tk, os⟩ := s; obtain ⟨hl, hb, h⟩ := h; have f1 := idx_int; have f2 := sub_tuple_tuple; have f3 := sub_list_list; have f4 := sub_tuple_list; have f5 := sub_list_tuple;
    have hz' : (items ++ items2).size ≤ sizeLine + 1 := by rw [Array.size_append]; exact hs2
    wp_walk using (wpAny_updateSeq hl rfl (hz := hs1) (_hz' := hz')), wpAny_loadPart' hl, wpAny_loadPart' hb; exact ⟨_, rfl, h⟩
end PySem.AutoSeq1
namespace Wk
open PySem PySem.Spec PyProof.Rows L2

section
variable {X : Cx} {W : WN} {eE : En} {en en' : En} {ec : Nat → Addr} {pos : Pos} {ω : Type} {T : Bs → ω → Ends → Prop} {rest : List Stmt}
theorem Go.blk {scope : Scope} (g : Go X ec W) (s : Shared) (H0 : Hp) (C : Addr) (cl : List (Str × Addr)) (fp : List Addr) : Go (X.blk s H0 scope (compEnvC scope cl C X.env) fp) ec W0 :=
  ⟨g.calm, PassesOwn.never, g.nd, fun _ _ x => by
    obtain ⟨_, _, _, _, _, _, _, _, _, _, _, _, _, _, _, _, z⟩ := x
    obtain ⟨_, _, _, z⟩ := z
    exact z.elim⟩
theorem Sl.weak {K : PySem.W.Frag} {σ : L2.St} {G H : Hp} (s : Sl K en σ G H) (w : Wkn en' en) : Sl K en' σ G H :=
  ⟨s.le, s.len.trans w.len.symm, fun i dv e => s.at_ i dv (w.wk0 i dv e), fun i j b b' p c c' e e' => s.one i j b b' p c c' (w.wk0 i _ e) (w.wk0 j _ e')⟩
theorem xp_wk {e : Expr} {m : R D} (w : Wkn en' en) (h : XP X W e en' m) : XP X W e en m := fun σ G H S Q k => h σ G H (S.weak w) Q k
theorem xn_wk {e : Expr} {m : R (List D)} (w : Wkn en' en) (h : XN X W e en' m) : XN X W e en m := fun σ G H S Q k => h σ G H (S.weak w) Q k
theorem xt_wk {e : Expr} {m : R Bool} (w : Wkn en' en) (h : XT X W e en' m) : XT X W e en m := fun σ G H S Q k => h σ G H (S.weak w) Q k

/-! ### borrowing -/
def hidG (G : Hp) (p : Addr) : Hp := fun a => if a = p then none else G a
theorem borrow {K : PySem.W.Frag} {σ : L2.St} {G H : Hp} {i : Nat} {b : Bool} {p : Addr} {ds : List D} (S : Sl K en σ G H) (he : en[i]? = some (some (.o b p (.l ds)))) :
    ∃ G', Sl K (en.set i (some (.v (.lst ds)))) σ G' H ∧ ∀ G2 H2, Grow G' H G2 H2 → Grow G H (hidG G2 p) H2 := by
  obtain ⟨v0, e0, rfl, g0, vs, hp, r⟩ := S.at_ i _ he
  have l : Le G (upd G p (.lst vs)) := Le.upd g0
  refine ⟨upd G p (.lst vs), ⟨⟨fun a u pu ru => ?_, fun a n => ?_⟩, by simp [S.len], fun j dv ej => ?_, fun j k b b' q c c' ej ek => ?_⟩, fun G2 H2 w => ⟨fun a u pu ru => ?_, ⟨fun a u pu ru => ?_, fun a n => ?_⟩, w.h, fun a n m => ?_⟩⟩
  · by_cases na : a = p
    · subst na
      rcases ru with z | ⟨_, z⟩
      · rw [upd_same] at z; cases z; exact .inl hp
      · rw [upd_same] at z; cases z
    · refine S.le.le a u pu ?_
      rcases ru with z | ⟨x, z⟩
      · rw [upd_ne na] at z; exact .inl z
      · rw [upd_ne na] at z; exact .inr ⟨x, z⟩
  · have na : a ≠ p := fun z => by rw [z, hp] at n; cases n
    rw [upd_ne na]; exact S.le.kn a n
  · rcases get_set ej with ⟨rfl, e1⟩ | ⟨n, fj⟩
    · cases e1; exact ⟨_, e0, .lst (.inl upd_same) (r.up l)⟩
    · obtain ⟨u, x, y⟩ := S.at_ j dv fj
      refine ⟨u, x, ?_⟩
      cases dv with
      | v d => exact Rp.up l y
      | o b2 q c2 =>
        obtain ⟨y1, y2, y3⟩ := y
        have nq : q ≠ p := fun z => n (by subst z; exact S.one j i _ _ _ _ _ fj he)
        refine ⟨y1, by rw [upd_ne nq]; exact y2, ?_⟩
        cases c2 with
        | l ds => obtain ⟨vs, e, r⟩ := y3; exact ⟨vs, e, r.up l⟩
        | f a C m pw ds =>
          obtain ⟨z0, dx, vn, vp, vs', z1, z2, r1, r2, r3⟩ := y3
          have na : a ≠ p := fun z => by rw [z, hp] at z1; cases z1
          exact ⟨by rw [upd_ne na]; exact z0, dx, vn, vp, vs', z1, z2, r1.up l, r2.up l, r3.up l⟩
  · rcases get_set ej with ⟨rfl, e1⟩ | ⟨n, fj⟩
    · cases e1
    · rcases get_set ek with ⟨rfl, e1⟩ | ⟨n', fk⟩
      · cases e1
      · exact S.one j k _ _ q _ _ fj fk
  · have na : a ≠ p := fun z => by
      subst z
      rcases ru with z | ⟨_, z⟩ <;> (rw [g0] at z; cases z)
    rcases w.g a u pu (l a u pu ru) with z | ⟨x, z⟩
    · exact .inl (by unfold hidG; rw [if_neg na]; exact z)
    · exact .inr ⟨x, by unfold hidG; rw [if_neg na]; exact z⟩
  · refine w.up.le a u pu ?_
    unfold hidG at ru
    rcases ru with z | ⟨x, z⟩
    · by_cases na : a = p
      · simp only [na, if_true] at z; cases z
      · simp only [na, if_false] at z; exact .inl z
    · by_cases na : a = p
      · simp only [na, if_true] at z; cases z
      · simp only [na, if_false] at z; exact .inr ⟨x, z⟩
  · unfold hidG
    by_cases na : a = p
    · rw [if_pos na]
    · rw [if_neg na]; exact w.up.kn a n
  · unfold hidG
    by_cases na : a = p
    · rw [if_pos na]
    · rw [if_neg na]
      exact w.cl a (by rw [upd_ne na]; exact n) m
theorem xt_bor {i : Nat} {b : Bool} {p : Addr} {ds : List D} {e : Expr} {m : R Bool} (φ : En) (h : XT X W e φ m) (he : en[i]? = some (some (.o b p (.l ds))) := by rfl) (hφ : en.set i (some (.v (.lst ds))) = φ := by rfl) : XT X W e en m := fun σ G H S Q k => by
  obtain ⟨G', S', w'⟩ := borrow S he
  rw [hφ] at S'
  exact h σ G' H S' Q (wp_mono k (fun b hb G2 H2 w => hb _ H2 (w' G2 H2 w)) fun c hc G2 H2 w => hc _ H2 (w' G2 H2 w))
def D.flat : D → Option D
  | .non => some .non
  | .bl b => some (.bl b)
  | .int i => some (.int i)
  | .str x => some (.str x)
  | _ => none
theorem flat_rp {K : PySem.W.Frag} {G G' : Hp} {v : V} {d e : D} (h : d.flat = some e) (r : Rp K G v d) : e = d ∧ Rp K G' v d := by
  cases d <;> cases h <;> cases r
  · exact ⟨rfl, .non⟩
  · exact ⟨rfl, .bl _⟩
  · exact ⟨rfl, .int _⟩
  · exact ⟨rfl, .str _⟩
theorem xp_bor {i : Nat} {b : Bool} {p : Addr} {ds : List D} {e : Expr} {m : R D} (φ : En) (h : XP X W e φ m) (he : en[i]? = some (some (.o b p (.l ds))) := by rfl) (hφ : en.set i (some (.v (.lst ds))) = φ := by rfl) : XP X W e en (m.bnd fun d => R.of d.flat) := fun σ G H S Q k => by
  obtain ⟨G', S', w'⟩ := borrow S he
  rw [hφ] at S'
  refine h σ G' H S' Q (wp_mono (wp_bnd.mp k) (fun d hd v G2 H2 w r => ?_) fun c hc G2 H2 w => hc _ H2 (w' G2 H2 w))
  obtain ⟨d', e', hd3⟩ := wp_of hd
  obtain ⟨rfl, r'⟩ := flat_rp (G' := hidG G2 p) e' r
  exact hd3 v _ H2 (w' G2 H2 w) r'
/-! owned lists read -/
theorem own_var {K : PySem.W.Frag} {σ : L2.St} {G H : Hp} {i : Nat} {b : Bool} {p : Addr} {ds : List D} (S : Sl K en σ G H) (he : en[i]? = some (some (.o b p (.l ds)))) : σ[i]? = some (some (.ref p)) ∧ ∃ vs, H p = some (.lst vs) ∧ RpAll K G vs ds := by
  obtain ⟨v, e, rfl, _, vs, h, r⟩ := S.at_ i _ he
  exact ⟨e, vs, h, r⟩
/-- x[e], x one's own -/
theorem xp_ixO {i : Nat} {b : Bool} {p : Addr} {px : Pos} {ds : List D} {x : Str} {a : Expr} {ma : R D} (ha : XP X W a en ma) (he : en[i]? = some (some (.o b p (.l ds))) := by rfl) (hs : PlainIx a := by intro _ _; rfl) (hN : X.N[i]? = some x := by rfl) (hv : Vis X.env.scope x := by first | exact Or.inl rfl | exact Or.inr (Or.inl rfl) | exact Or.inr (Or.inr rfl))
    (hd : (x == ("__debug__" : Str)) = false := by decide) (hcd : (x == ("__classdict__" : Str)) = false := by decide) : XP X W (.Subscript (.Name x px) a pos) en (ma.bnd fun y => R.of (D.ix (.lst ds) y)) := fun σ G H S Q k => by
  obtain ⟨e1, vs, hp, r⟩ := own_var S he
  refine pe_to (pe_ix ix_list (pe_var hN hv hd hcd) pe_w hs) ⟨.ref p, e1, ha σ G H S _ (wp_mono (wp_bnd.mp k) (fun y hy v G1 H1 w1 r1 => ?_) fun _ z => z)⟩
  obtain ⟨d, e2, hd⟩ := wp_of hy
  unfold D.ix at e2
  split at e2
  · rename_i xs i' ej
    cases ej
    cases r1
    obtain ⟨u, hu, ru⟩ := r.at_ e2
    exact ⟨p, vs, _, u, rfl, rfl, .inl (.inl (w1.h _ _ hp)), hu, hd u G1 H1 w1 (ru.up w1.g)⟩
  · rename_i xs i' ej
    cases ej
  · rename_i xs i' ej
    cases ej
  · rename_i xs i' ej
    cases ej
  · cases e2
/-- tuple(x), x one's own -/
theorem xp_tupO {i : Nat} {b : Bool} {p : Addr} {px pc : Pos} {ds : List D} {x : Str} (hm : X.mg "tuple" = none) (he : en[i]? = some (some (.o b p (.l ds))) := by rfl) (hg : Gl X "tuple" := by rfl) (hN : X.N[i]? = some x := by rfl) (hv : Vis X.env.scope x := by first | exact Or.inl rfl | exact Or.inr (Or.inl rfl) | exact Or.inr (Or.inr rfl))
    (hd : (x == ("__debug__" : Str)) = false := by decide) (hcd : (x == ("__classdict__" : Str)) = false := by decide) (hs : starEach [.Name x px] X.env = (false, eval (.Name x px) X.env) :: starEach [] X.env := by rfl) (hp2 : (backTo pos (starEach [] X.env)).any (·.1) = false := by rfl) : XP X W (.Call (.Name "tuple" pc) [.Name x px] [] pos) en (.ok (.tup ds)) := fun σ G H S Q k => by
  obtain ⟨e1, vs, hp, r⟩ := own_var S he
  refine pe_to (pe_callTy call_tuple_of hg hm (by decide +kernel) (pa_cons (pe_var hN hv hd hcd) pa_nil hs) (by decide) (by decide) hs hp2) ⟨.ref p, e1, p, vs, rfl, .inl ⟨.inl (.inl hp), fun q hq => ?_⟩⟩
  have w := Grow.new (o := .tup vs) S.le hq rfl
  exact k _ _ _ w (.tup (.inl (.inl upd_same)) (r.up w.g))
/-! owned lists changed -/
theorem st_at {B : Bs} {σ : L2.St} {G H : Hp} {i : Nat} {b : Bool} {p : Addr} {ds : List D} (S : St8 X.K B en σ G H) (he : en[i]? = some (some (.o b p (.l ds)))) : σ[i]? = some (some (.ref p)) ∧ G p = none ∧ ∃ vs, H p = some (.lst vs) ∧ RpAll X.K G vs ds := by
  obtain ⟨v, e, rfl, g, vs, h, r⟩ := S.es.at_ i _ he
  exact ⟨e, g, vs, h, r⟩
/-- a list's method that hands back nothing -/
def MutD (K : PySem.W.Frag) (r : V → List V → Hp → VK → Prop) (f : List D → D → Option (List D)) : Prop := ∀ G H p vs ds v d ds', Lk G H → H p = some (.lst vs) → RpAll K G vs ds → Rp K G v d → f ds d = some ds' → ∀ Q : VK, (∀ vs', RpAll K G vs' ds' → Q .non (upd H p (.lst vs'))) → r (.ref p) [v] H Q
/-- x.m(e), x one's own list, nothing handed back -/
theorem xb_mut {i : Nat} {b : Bool} {p : Addr} {px pa pc : Pos} {ds : List D} {x name : Str} {id : String} {a : Expr} {ma : R D} {r : V → List V → Hp → VK → Prop} {f : List D → D → Option (List D)} {k : List D → R ω} (slot : Slot "list" name id) (hty : typeOf (.builtin id) = pure (.type "method_descriptor")) (hm : MtR X id r) (hf : MutD X.K r f)
    (φ : List D → En) (ha : XP X W a en ma) (hk : ∀ ds, XB X W eE rest (φ ds) (k ds) T) (he : en[i]? = some (some (.o b p (.l ds))) := by rfl) (hφ : ∀ ds, en.set i (some (.o b p (.l ds))) = φ ds := by intro _; rfl) (we : Wk0 eE en := by first | exact wk0_nil | exact wk0_refl | assumption | exact Wkn.wk0 (by repeat' first | exact Wkn.nil | apply Wkn.k | apply Wkn.d))
    (hN : X.N[i]? = some x := by rfl) (hv : Vis X.env.scope x := by first | exact Or.inl rfl | exact Or.inr (Or.inl rfl) | exact Or.inr (Or.inr rfl)) (hd : (x == ("__debug__" : Str)) = false := by decide) (hcd : (x == ("__classdict__" : Str)) = false := by decide)
    (hbase : attributeBase (.Name x px) name X.env (eval (.Name x px) X.env) = eval (.Name x px) X.env := by rfl)
    (hfew : ((backTo pc (starEach [a] X.env)).all (fun x => !x.1) && (backToKw pc (keywordEach [] X.env)).all (fun x => x.1.isSome)
      && decide (([a] : List Expr).length + ([] : List Keyword).length + (if ([] : List Keyword).isEmpty then 0 else 1) < 30)) = true := by rfl)
    (hline : (pa.endLine == pc.line) = true := by rfl) (hs : starEach [a] X.env = (false, eval a X.env) :: starEach [] X.env := by rfl) (hplain : (backTo pc (starEach [] X.env)).any (·.1) = false := by rfl)
    (hsw : swapsWith (.Call (.Attribute (.Name x px) name pa) [a] [] pc) none pos.line X.env = pure false := by first | exact swaps_no rfl | exact swapsS_no rfl | rfl) : XB X W eE (.Expr (.Call (.Attribute (.Name x px) name pa) [a] [] pc) pos :: rest) en (ma.bnd fun d => (R.of (f ds d)).bnd k) T := fun B σ G H S D q => by
  obtain ⟨e1, g0, vs, hp, rr⟩ := st_at S he
  refine pss_to (pss_cons (ps_expr (pe_bm PySem.F.plainAttrs_list slot hty hm (pe_var hN hv hd hcd) (pa_cons pe_w pa_nil hs) hbase hfew hline hs hplain) hsw) pss_w) ⟨.ref p, e1, .inl ⟨rfl, vs, .inl (.inl hp)⟩, ?_⟩
  refine xp_run ha S we (wp_mono (wp_bnd.mp q) (fun d hd' v G1 H1 l S1 r1 => ?_) fun _ z => z)
  obtain ⟨ds', e2, hd2⟩ := wp_of (wp_bnd.mp hd')
  obtain ⟨e3, g3, us, hp3, r3⟩ := st_at S1 he
  refine hf G1 H1 p us ds v d ds' S1.es.fr.up hp3 r3 r1 e2 _ fun us' r' => ?_
  have S2 := S1.mut (c' := .l ds') (o := .lst us') he ⟨_, upd_same, r'⟩
  rw [hφ] at S2
  exact hk _ B σ G1 _ S2 D hd2
def appD (ds : List D) (d : D) : Option (List D) := if ds.length < 16000000 then some (ds ++ [d]) else none
theorem m_app {K : PySem.W.Frag} : MutD K rAppend appD := fun G H p vs ds v d ds' l hp r r1 e Q q => by
  unfold appD at e
  split at e
  · rename_i hz
    cases e
    exact ⟨p, vs, v, rfl, rfl, hp, Nat.lt_of_lt_of_le (by rw [r.len]; exact hz) (size_ok (Nat.le_refl _)), q _ (r.app (.cons r1 .nil))⟩
  · cases e
def extD (ds : List D) (d : D) : Option (List D) := match d.seq with
  | some es => if ds.length + es.length ≤ 16000000 then some (ds ++ es) else none
  | none => none
def rExtA (K : PySem.W.Frag) : V → List V → Hp → VK → Prop := fun x vs H Q => ∃ l b xs zs, x = .ref l ∧ vs = [.ref b] ∧ H l = some (.lst xs) ∧ (Rd H b (.lst zs) ∨ SqT K H b zs) ∧ xs.length + zs.length ≤ 16000000 ∧ Q .non (upd H l (.lst (xs ++ zs)))
theorem mt_extA : MtM X "list.extend" (rExtA X.K) := by
  intro pins s σ H x vs v us Q I rx rv h
  obtain ⟨l, b, xs, zs, rfl, rfl, hH, hB, hz, q⟩ := h
  cases rx
  obtain ⟨u, rfl, ru⟩ := rv.one
  cases ru
  obtain ⟨z, its, n, r, hl, e⟩ := I.lstM hH
  have hz' := size_ok hz
  rcases hB with hB | hB
  · obtain ⟨z2, its2, n2, r2, hl2, e2⟩ := Inv.lstR I hB
    have hsz : its.toArray.size + its2.toArray.size ≤ sizeLine := by rw [List.size_toArray, List.size_toArray]; omega
    have hlong : ¬ (!its.toArray.isEmpty && Builtin.List.listTooLong (its.toArray.size + its2.toArray.size)) = true := by
      rw [notLongL hsz, Bool.and_false]
      exact Bool.false_ne_true
    refine call_meets F.slot_list_extend ⟨_, e, rfl⟩ F.entry_list_extend (F.args_list_extend_2 _ _)
      (AutoSeq1.list_extend_list_list_0 l its.toArray n b its2.toArray n2 hlong (by rw [List.size_toArray]; omega) (by omega)) ⟨e, e2, ?_⟩
    refine ⟨.non, _, I.lset (its' := its ++ its2) hH e (by simp) (r.append r2) ?_, rfl, q⟩
    rw [List.length_append]
    omega
  · obtain ⟨its2, r2, ⟨o2, e2, c2, n2, d2⟩, z2⟩ := I.tuple hB
    have hl2 := r2.length
    have hsz : its.toArray.size + its2.toArray.size ≤ sizeLine := by rw [List.size_toArray, List.size_toArray]; omega
    have hlong : ¬ (!its.toArray.isEmpty && Builtin.List.listTooLong (its.toArray.size + its2.toArray.size)) = true := by
      rw [notLongL hsz, Bool.and_false]
      exact Bool.false_ne_true
    obtain ⟨oc, od, oda, osl⟩ := o2
    have c2 : oc = _ := c2
    have d2 : oda = _ := d2
    subst c2 d2
    refine call_meets F.slot_list_extend ⟨_, e, rfl⟩ F.entry_list_extend (F.args_list_extend_2 _ _)
      (AutoSeq1.ext_tup l its.toArray n b its2.toArray n2 od osl hlong (by rw [List.size_toArray]; omega) (by omega)) ⟨e, e2, ?_⟩
    refine ⟨.non, _, I.lset (its' := its ++ its2) hH e (by simp) (r.append r2) ?_, rfl, q⟩
    rw [List.length_append]
    omega
theorem m_ext {K : PySem.W.Frag} : MutD K (rExtA K) extD := fun G H p vs ds v d ds' l hp r r1 e Q q => by
  unfold extD at e
  split at e
  · rename_i es hs
    split at e
    · rename_i hz
      cases e
      unfold D.seq at hs
      split at hs
      · cases hs
        cases r1 with
        | lst h1 r2 => exact ⟨p, _, vs, _, rfl, rfl, hp, .inl (l.le _ _ rfl h1), by rw [r.len, r2.len]; exact hz, q _ (r.app r2)⟩
      · cases hs
        cases r1 with
        | tup h1 r2 => exact ⟨p, _, vs, _, rfl, rfl, hp, .inr (l.le.seqT h1), by rw [r.len, r2.len]; exact hz, q _ (r.app r2)⟩
      · cases hs
        cases r1 with
        | tux h1 r2 => exact ⟨p, _, vs, _, rfl, rfl, hp, .inr (l.le.seqT (.inl h1.1)), by rw [r.len, r2.len]; exact hz, q _ (r.app r2)⟩
      · cases hs
    · cases e
  · cases e
/-- x.pop() as a statement -/
def popD (ds : List D) : Option (List D) := if ds = [] then none else some ds.dropLast
theorem RpAll.last {K : PySem.W.Frag} {G : Hp} {ds : List D} {vs : List V} (r : RpAll K G vs ds) : RpAll K G vs.dropLast ds.dropLast := by
  rw [List.dropLast_eq_take, List.dropLast_eq_take, r.len]
  exact r.take _
theorem xb_pop {i : Nat} {b : Bool} {p : Addr} {px pa pc : Pos} {ds : List D} {x : Str} {k : List D → R ω} (φ : List D → En) (hk : ∀ ds, XB X W eE rest (φ ds) (k ds) T) (he : en[i]? = some (some (.o b p (.l ds))) := by rfl) (hφ : ∀ ds, en.set i (some (.o b p (.l ds))) = φ ds := by intro _; rfl)
    (hN : X.N[i]? = some x := by rfl) (hv : Vis X.env.scope x := by first | exact Or.inl rfl | exact Or.inr (Or.inl rfl) | exact Or.inr (Or.inr rfl)) (hd : (x == ("__debug__" : Str)) = false := by decide) (hcd : (x == ("__classdict__" : Str)) = false := by decide)
    (hbase : attributeBase (.Name x px) "pop" X.env (eval (.Name x px) X.env) = eval (.Name x px) X.env := by rfl) (hline : (pa.endLine == pc.line) = true := by rfl)
    (hsw : swapsWith (.Call (.Attribute (.Name x px) "pop" pa) [] [] pc) none pos.line X.env = pure false := by first | exact swaps_no rfl | exact swapsS_no rfl | rfl) : XB X W eE (.Expr (.Call (.Attribute (.Name x px) "pop" pa) [] [] pc) pos :: rest) en ((R.of (popD ds)).bnd k) T := fun B σ G H S D q => by
  obtain ⟨e1, g0, vs, hp, rr⟩ := st_at S he
  obtain ⟨ds', e2, hd2⟩ := wp_of (wp_bnd.mp q)
  unfold popD at e2
  split at e2
  · cases e2
  · rename_i hne
    cases e2
    have hlen : 0 < vs.length := by
      rw [rr.len]
      exact List.length_pos_iff.mpr hne
    refine pss_to (pss_cons (ps_expr (pe_bm0 PySem.F.plainAttrs_list PySem.F.slot_list_pop PySem.F.type_list_pop mt_pop (pe_var hN hv hd hcd) hbase hline) hsw) pss_w) ⟨.ref p, e1, .inl ⟨rfl, vs, .inl (.inl hp)⟩, p, vs, vs[vs.length - 1]'(by omega), rfl, rfl, hp, List.getElem?_eq_getElem (by omega), ?_⟩
    have S2 := S.mut (c' := .l ds.dropLast) (o := .lst vs.dropLast) he ⟨_, upd_same, rr.last⟩
    rw [hφ] at S2
    exact hk _ B σ G _ S2 D hd2
/-! x[a] = e, x one's own -/
def setD (ds : List D) (i d : D) : Option (List D) := match i with
  | .int i => (ixN ds.length i).map fun j => ds.set j d
  | _ => none
theorem xb_put {i : Nat} {b : Bool} {p : Addr} {px ps' : Pos} {ds : List D} {x : Str} {a e : Expr} {ma me : R D} {k : List D → R ω} (φ : List D → En) (h : XP X W e en me) (ha : XP X W a en ma) (hk : ∀ ds, XB X W eE rest (φ ds) (k ds) T) (he : en[i]? = some (some (.o b p (.l ds))) := by rfl) (hφ : ∀ ds, en.set i (some (.o b p (.l ds))) = φ ds := by intro _; rfl) (we : Wk0 eE en := by first | exact wk0_nil | exact wk0_refl | assumption | exact Wkn.wk0 (by repeat' first | exact Wkn.nil | apply Wkn.k | apply Wkn.d))
    (hN : X.N[i]? = some x := by rfl) (hv : Vis X.env.scope x := by first | exact Or.inl rfl | exact Or.inr (Or.inl rfl) | exact Or.inr (Or.inr rfl)) (hd : (x == ("__debug__" : Str)) = false := by decide) (hcd : (x == ("__classdict__" : Str)) = false := by decide)
    (h0 : ∀ v, assign (.Subscript (.Name x px) a ps') X.env v = (do
      let ov ← holding [v] (eval (.Name x px) X.env)
      let iv ← holding [v, ov] (eval a X.env)
      standAt ps'
      holding [v, ov, iv] (setItem ov iv v)
      release [v, ov, iv] []) := by intro _; rfl)
    (h1 : swapsWithSole [.Subscript (.Name x px) a ps'] e pos.line X.env = pure false := by first | exact swaps_no rfl | exact swapsS_no rfl | rfl) (h2 : swappedStores [.Subscript (.Name x px) a ps'] e X.env = pure none := by rfl) (h3 : (assignEach [.Subscript (.Name x px) a ps'] X.env).map (·.2) = [assign (.Subscript (.Name x px) a ps') X.env] := by rfl) :
    XB X W eE (.Assign [.Subscript (.Name x px) a ps'] e pos :: rest) en (me.bnd fun d => ma.bnd fun j => (R.of (setD ds j d)).bnd k) T := fun B σ G H S D q => by
  refine pss_to (pss_cons (ps_asg pe_w (pg_sub (pe_var hN hv hd hcd) pe_w set_list h0) h1 h2 h3) pss_w) ?_
  refine xp_run h S we (wp_mono (wp_bnd.mp q) (fun d hd' v G1 H1 l1 S1 r1 => ?_) fun _ z => z)
  obtain ⟨e1, _, _, _, _⟩ := st_at S1 he
  refine ⟨.ref p, e1, ?_⟩
  refine xp_run ha S1 we (wp_mono (wp_bnd.mp hd') (fun j hj u G2 H2 l2 S2 r2 => ?_) fun _ z => z)
  obtain ⟨ds', e2, hd2⟩ := wp_of (wp_bnd.mp hj)
  unfold setD at e2
  split at e2
  · rename_i j'
    obtain ⟨n, e3, rfl⟩ := Option.map_eq_some_iff.mp e2
    cases r2
    obtain ⟨_, _, us, hp3, r3⟩ := st_at S2 he
    refine ⟨p, us, _, n, rfl, rfl, hp3, by rw [r3.len]; exact e3, ?_⟩
    have S3 := S2.mut (c' := .l (ds.set n d)) (o := .lst (us.set n v)) he ⟨_, upd_same, r3.set (r1.up l2) n⟩
    rw [hφ] at S3
    exact hk _ B σ G2 _ S3 D hd2
  · cases e2
/-! several names at once -/
def R.bU2 {ω : Type} (m : R D) (k : D → D → R ω) : R ω := m.bnd fun d => (R.of d.two).bnd fun q => k q.1 q.2
def R.bU3 {ω : Type} (m : R D) (k : D → D → D → R ω) : R ω := m.bnd fun d => (R.of d.three).bnd fun q => k q.1 q.2.1 q.2.2

theorem xb_two {i j : Nat} {x y : Str} {p p' p2 : Pos} {kk : Nat} {e : Expr} {m : R D} {k : D → D → R ω} (g : Go X ec W) (φ : D → D → En) (h : XP X W e en m) (hk : ∀ d d', XB X W eE rest (φ d d') (k d d') T) (hN : X.N[i]? = some x := by rfl) (hN' : X.N[j]? = some y := by rfl) (hφ : ∀ d d', (en.set i (some (.v d))).set j (some (.v d')) = φ d d' := by intro _ _; rfl)
    (hx : Loc X.env.scope x := by first | exact Or.inl rfl | exact Or.inr rfl) (hx' : Loc X.env.scope y := by first | exact Or.inl rfl | exact Or.inr rfl) (we : Wk0 eE en := by first | exact wk0_nil | exact wk0_refl | assumption | exact Wkn.wk0 (by repeat' first | exact Wkn.nil | apply Wkn.k | apply Wkn.d)) (hf : X.fn x = true ∨ X.env.scope.names.lookup x = some .local := by first | exact .inl rfl | exact .inr rfl) (hf' : X.fn y = true ∨ X.env.scope.names.lookup y = some .local := by first | exact .inl rfl | exact .inr rfl)
    (hn : (assignEach [.Name x p, .Name y p'] X.env).length = 2 := by rfl) (hst : (assignEach [.Name x p, .Name y p'] X.env).findIdx? (·.1) = none := by rfl)
    (h1 : (assignEach [.Name x p, .Name y p'] X.env).map (·.2) = assign (.Name x p) X.env :: (assignEach [.Name y p'] X.env).map (·.2) := by rfl) (h2 : (assignEach [.Name y p'] X.env).map (·.2) = assign (.Name y p') X.env :: (assignEach [] X.env).map (·.2) := by rfl)
    (s1 : swapsWithSole [.Tuple [.Name x p, .Name y p'] kk p2] e pos.line X.env = pure false := by first | exact swaps_no rfl | exact swapsS_no rfl | rfl) (s2 : swappedStores [.Tuple [.Name x p, .Name y p'] kk p2] e X.env = pure none := by rfl) (s3 : (assignEach [.Tuple [.Name x p, .Name y p'] kk p2] X.env).map (·.2) = [assign (.Tuple [.Name x p, .Name y p'] kk p2) X.env] := by rfl) :
    XB X W eE (.Assign [.Tuple [.Name x p, .Name y p'] kk p2] e pos :: rest) en (R.bU2 m k) T := fun B σ G H S D q => by
  refine pss_to (pss_cons (ps_asg pe_w (pg_tup g.calm (pgs_cons (pg_name g.nd hN hx hf) (pgs_cons (pg_name g.nd hN' hx' hf') pgs_nil h2) h1) hn hst) s1 s2 s3) pss_w) ?_
  refine xp_run h S we (wp_mono (wp_bnd.mp q) (fun d hd v G1 H1 l S1 r => ?_) fun _ z => z)
  obtain ⟨(z : Wk.D × Wk.D), e1, hd⟩ := wp_of (wp_bnd.mp hd)
  refine tg_two B en σ G1 H1 S1 d v _ r (by show Option.map _ d.two = _; rw [e1]; rfl) _ fun σ' S' => ?_
  dsimp only at S'
  rw [hφ] at S'
  exact hk _ _ B σ' G1 H1 S' D hd
theorem xb_three {i j l : Nat} {x y w : Str} {p p' p'' p2 : Pos} {kk : Nat} {e : Expr} {m : R D} {k : D → D → D → R ω} (g : Go X ec W) (φ : D → D → D → En) (h : XP X W e en m) (hk : ∀ d d' d'', XB X W eE rest (φ d d' d'') (k d d' d'') T) (hN : X.N[i]? = some x := by rfl) (hN' : X.N[j]? = some y := by rfl) (hN'' : X.N[l]? = some w := by rfl) (hφ : ∀ d d' d'', ((en.set i (some (.v d))).set j (some (.v d'))).set l (some (.v d'')) = φ d d' d'' := by intro _ _ _; rfl)
    (hx : Loc X.env.scope x := by first | exact Or.inl rfl | exact Or.inr rfl) (hx' : Loc X.env.scope y := by first | exact Or.inl rfl | exact Or.inr rfl) (hx'' : Loc X.env.scope w := by first | exact Or.inl rfl | exact Or.inr rfl) (we : Wk0 eE en := by first | exact wk0_nil | exact wk0_refl | assumption | exact Wkn.wk0 (by repeat' first | exact Wkn.nil | apply Wkn.k | apply Wkn.d)) (hf : X.fn x = true ∨ X.env.scope.names.lookup x = some .local := by first | exact .inl rfl | exact .inr rfl) (hf' : X.fn y = true ∨ X.env.scope.names.lookup y = some .local := by first | exact .inl rfl | exact .inr rfl) (hf'' : X.fn w = true ∨ X.env.scope.names.lookup w = some .local := by first | exact .inl rfl | exact .inr rfl)
    (hn : (assignEach [.Name x p, .Name y p', .Name w p''] X.env).length = 3 := by rfl) (hst : (assignEach [.Name x p, .Name y p', .Name w p''] X.env).findIdx? (·.1) = none := by rfl)
    (h1 : (assignEach [.Name x p, .Name y p', .Name w p''] X.env).map (·.2) = assign (.Name x p) X.env :: (assignEach [.Name y p', .Name w p''] X.env).map (·.2) := by rfl) (h2 : (assignEach [.Name y p', .Name w p''] X.env).map (·.2) = assign (.Name y p') X.env :: (assignEach [.Name w p''] X.env).map (·.2) := by rfl) (h3 : (assignEach [.Name w p''] X.env).map (·.2) = assign (.Name w p'') X.env :: (assignEach [] X.env).map (·.2) := by rfl)
    (s1 : swapsWithSole [.Tuple [.Name x p, .Name y p', .Name w p''] kk p2] e pos.line X.env = pure false := by first | exact swaps_no rfl | exact swapsS_no rfl | rfl) (s2 : swappedStores [.Tuple [.Name x p, .Name y p', .Name w p''] kk p2] e X.env = pure none := by rfl) (s3 : (assignEach [.Tuple [.Name x p, .Name y p', .Name w p''] kk p2] X.env).map (·.2) = [assign (.Tuple [.Name x p, .Name y p', .Name w p''] kk p2) X.env] := by rfl) :
    XB X W eE (.Assign [.Tuple [.Name x p, .Name y p', .Name w p''] kk p2] e pos :: rest) en (R.bU3 m k) T := fun B σ G H S D q => by
  refine pss_to (pss_cons (ps_asg pe_w (pg_tup g.calm (pgs_cons (pg_name g.nd hN hx hf) (pgs_cons (pg_name g.nd hN' hx' hf') (pgs_cons (pg_name g.nd hN'' hx'' hf'') pgs_nil h3) h2) h1) hn hst) s1 s2 s3) pss_w) ?_
  refine xp_run h S we (wp_mono (wp_bnd.mp q) (fun d hd v G1 H1 l S1 r => ?_) fun _ z => z)
  obtain ⟨(z : Wk.D × Wk.D × Wk.D), e1, hd⟩ := wp_of (wp_bnd.mp hd)
  refine tg_three B en σ G1 H1 S1 d v _ r (by show Option.map _ d.three = _; rw [e1]; rfl) _ fun σ' S' => ?_
  dsimp only at S'
  rw [hφ] at S'
  exact hk _ _ _ B σ' G1 H1 S' D hd
/-- y = [e for x in it] -/
theorem xb_letLc {i j : Nat} {x y : Str} {p py : Pos} {it elt : Expr} {scope : Scope} {posc : Pos} {mi : R (List D)} {me : D → R D} {k : List D → R ω} (g : Go X ec W) (φ : Addr → List D → En) (hi : XI X W (.Name x p) it en mi) (he : ∀ d, BP X scope elt (en.set i (some (.v d))) (me d)) (hk : ∀ a ds, XB X W eE rest (φ a ds) (k ds) T)
    (hN : X.N[i]? = some x := by rfl) (hNy : X.N[j]? = some y := by rfl) (hφ : ∀ a ds, en.set j (some (.o false a (.l ds))) = φ a ds := by intro _ _; rfl) (hblk : BlkOk X.N X.env.scope scope [(x, i)]) (hc : clr en [i] = true := by rfl) (we : Wk0 eE en := by first | exact wk0_nil | exact wk0_refl | assumption | exact Wkn.wk0 (by repeat' first | exact Wkn.nil | apply Wkn.k | apply Wkn.d))
    (hyl : X.env.scope.names.lookup y = some .local := by rfl) (hsw : swapsWith (.ListComp elt [⟨.Name x p, it, [], 0⟩] scope posc) (some (.Name y py)) pos.line X.env = pure true := by exact sw_true rfl rfl rfl (by decide +kernel))
    (hx : ∀ (s : Shared) (H0 : Hp) (C : Addr) (cl : List (Str × Addr)) (fp : List Addr), Loc (X.blk s H0 scope (compEnvC scope cl C X.env) fp).env.scope x := by intros; first | exact Or.inl rfl | exact Or.inr rfl)
    (hf : ∀ (s : Shared) (H0 : Hp) (C : Addr) (cl : List (Str × Addr)) (fp : List Addr), (X.blk s H0 scope (compEnvC scope cl C X.env) fp).fn x = true ∨ (X.blk s H0 scope (compEnvC scope cl C X.env) fp).env.scope.names.lookup x = some .local := by intros; first | exact .inl rfl | exact .inr rfl)
    (hs : ∀ x, foldedSetIterable it X.env x = pure x := by intro _; rfl) : XB X W eE (.Assign [.Name y py] (.ListComp elt [⟨.Name x p, it, [], 0⟩] scope posc) pos :: rest) en ((mi.bnd fun ds => lcR me ds).bnd k) T := fun B σ G H S D q => by
  refine pss_to (pss_cons (ps_setLc (own := [(x, i)]) g.calm g.nd hNy hyl hsw pi_w hblk (fun s H0 C cl fp => pg_name g.nd hN (hx s H0 C cl fp) (hf s H0 C cl fp)) (fun _ _ _ _ _ => pts_nil) pe_wb hs) pss_w) ?_
  unfold tSeq tAsg
  refine lc_run (mt := fun _ => .ok true) hi tl_name hc (fun d P E _ => ⟨_, rfl, fun σ G H S Q k => k G H (Grow.refl S.le), he d⟩) σ G H S.sl _ ?_
  simp only [lcIR_true]
  refine wp_mono (wp_bnd.mp q) (fun ds hd a vs G2 H2 w hp gp ep r => ?_) fun c hc G2 H2 w => hc σ G2 H2 ((S.grow w).es.weak we)
  have hB : B.H0 a = none := by
    cases z : B.H0 a with
    | none => rfl
    | some o => exact absurd hp (S.es.fr.there a (by rw [z]; intro y; cases y))
  have := (S.grow w).setO (i := j) (p := a) (c := .l ds) (fun jj b c' ej => ?_) hB gp ⟨vs, ep, r⟩
  · rw [hφ] at this
    exact hk a ds B _ G2 H2 this D hd
  · obtain ⟨u, x1, y1, y2, y3⟩ := S.es.at_ jj _ ej
    exact y3.there hp
/-! chains -/
theorem xt_chain {op op' : CmpOp} {r r' : R2} {f f' : D → D → Option Bool} {a b c : Expr} {ma mb mc : R D} (ho : OpR X (compareOp op) r) (ho' : OpR X (compareOp op') r') (hf : OpD X.K r (fun x y => (f x y).map .bl)) (hf' : OpD X.K r' (fun x y => (f' x y).map .bl)) (ha : XP X W a en ma) (hb : XP X W b en mb) (hc : XP X W c en mc)
    (hr : PT X (.Compare a [op, op'] [b, c] pos) (tTest (tChain r r' (wE X a) (wE X b) (wE X c)))) :
    XT X W (.Compare a [op, op'] [b, c] pos) en (ma.bnd fun x => mb.bnd fun y => (R.of (f x y)).bnd fun t => if t = true then mc.bnd fun z => R.of (f' y z) else .ok false) := fun σ G H S Q h => by
  refine pt_to hr (ha σ G H S _ (wp_mono (wp_bnd.mp h) (fun x hx v G1 H1 w1 r1 => ?_) fun _ z => z))
  refine hb σ G1 H1 (S.grow w1) _ (wp_mono (wp_bnd.mp hx) (fun y hy u G2 H2 w2 r2 => ?_) fun _ z G2 H2 w => z G2 H2 (w1.trans w))
  obtain ⟨t, e, hd⟩ := wp_of (wp_bnd.mp hy)
  refine hf G2 H2 v u x y (.bl t) w2.up (r1.up w2.g) r2 (by show (f x y).map _ = _; rw [e]; rfl) _ fun v3 G3 H3 w3 r3 => ?_
  cases r3
  refine ⟨t, rfl, ?_⟩
  cases t with
  | false => exact ⟨false, rfl, hd G3 H3 ((w1.trans w2).trans w3)⟩
  | true =>
    refine hc σ G3 H3 (((S.grow w1).grow w2).grow w3) _ (wp_mono (wp_bnd.mp hd) (fun z hz u4 G4 H4 w4 r4 => ?_) fun _ z G2 H2 w => z G2 H2 (((w1.trans w2).trans w3).trans w))
    obtain ⟨t', e', hd'⟩ := wp_of hz
    refine hf' G4 H4 u u4 y z (.bl t') w4.up (r2.up (w3.g.trans w4.g)) r4 (by show (f' y z).map _ = _; rw [e']; rfl) _ fun v5 G5 H5 w5 r5 => ?_
    cases r5
    exact ⟨t', rfl, hd' G5 H5 ((((w1.trans w2).trans w3).trans w4).trans w5)⟩
end
end Wk
set_option maxHeartbeats 4000000
/-! Wk9: expressions that change what one owns. -/
namespace Wk
open PySem PySem.Spec PyProof.Rows L2

def NoOwn (en : En) (p : Addr) : Prop := ∀ (j : Nat) (b : Bool) (c : OO), en[j]? ≠ some (some (.o b p c))
theorem St8.noOwn {K : PySem.W.Frag} {B : Bs} {en : En} {σ : L2.St} {G H : Hp} {p : Addr} (S : St8 K B en σ G H) (hp : H p = none) : NoOwn en p := fun j b c e => by
  obtain ⟨u, x1, y1, y2, y3⟩ := S.es.at_ j _ e
  exact y3.there hp
theorem St8.h0 {K : PySem.W.Frag} {B : Bs} {en : En} {σ : L2.St} {G H : Hp} {p : Addr} (S : St8 K B en σ G H) (hp : H p = none) : B.H0 p = none := by
  cases z : B.H0 p with
  | none => rfl
  | some o => exact absurd hp (S.es.fr.there p (by rw [z]; intro y; cases y))
/-- a new list is data from now on -/
theorem St8.frzP {K : PySem.W.Frag} {B : Bs} {en : En} {σ : L2.St} {G H : Hp} {p : Addr} {vs : List V} {ds : List D} (s : St8 K B en σ G H) (hb : B.H0 p = none) (no : NoOwn en p) (g0 : G p = none) (hp : H p = some (.lst vs)) (r : RpAll K G vs ds) : Le G (upd G p (.lst vs)) ∧ St8 K B en σ (upd G p (.lst vs)) H ∧ Rp K (upd G p (.lst vs)) (.ref p) (.lst ds) := by
  have l : Le G (upd G p (.lst vs)) := Le.upd g0
  refine ⟨l, ⟨⟨⟨⟨fun a u pu ru => ?_, fun a n => ?_⟩, s.es.fr.le0.trans l, s.es.fr.keep, s.es.fr.there, fun a n m => ?_⟩, fun j dv ej => ?_, s.es.one, s.es.own⟩, s.len⟩, .lst (.inl upd_same) (r.up l)⟩
  · by_cases na : a = p
    · subst na
      rcases ru with z | ⟨_, z⟩
      · rw [upd_same] at z; cases z; exact .inl hp
      · rw [upd_same] at z; cases z
    · refine s.es.fr.up.le a u pu ?_
      rcases ru with z | ⟨x, z⟩
      · rw [upd_ne na] at z; exact .inl z
      · rw [upd_ne na] at z; exact .inr ⟨x, z⟩
  · have na : a ≠ p := fun z => by rw [z, hp] at n; cases n
    rw [upd_ne na]; exact s.es.fr.up.kn a n
  · have na : a ≠ p := fun z => by rw [z] at m; exact m hb
    rw [upd_ne na]; exact s.es.fr.cl a n m
  · obtain ⟨u, x, y⟩ := s.es.at_ j dv ej
    refine ⟨u, x, ?_⟩
    cases dv with
    | v d => exact Rp.up l y
    | o b2 q c2 =>
      obtain ⟨y1, y2, y3⟩ := y
      have nq : q ≠ p := fun z => by subst z; exact no j b2 c2 ej
      refine ⟨y1, by rw [upd_ne nq]; exact y2, ?_⟩
      cases c2 with
      | l ds => obtain ⟨vs, e, r⟩ := y3; exact ⟨vs, e, r.up l⟩
      | f a C m pw ds =>
        obtain ⟨z0, dx, vn, vp, vs', z1, z2, r1, r2, r3⟩ := y3
        have na : a ≠ p := fun z => by rw [z, hp] at z1; cases z1
        exact ⟨by rw [upd_ne na]; exact z0, dx, vn, vp, vs', z1, z2, r1.up l, r2.up l, r3.up l⟩
/-- growth but for the object at p -/
structure GrowX (p : Addr) (G H G2 H2 : Hp) : Prop where
  g : Le G G2
  up : Lk G2 H2
  h : ∀ a o, a ≠ p → H a = some o → H2 a = some o
  there : ∀ a, H a ≠ none → H2 a ≠ none
  cl : ∀ a, G a = none → H a ≠ none → G2 a = none
section
variable {K : PySem.W.Frag} {B : Bs} {en : En} {σ : L2.St} {G H G2 H2 : Hp}
theorem St8.growX {i : Nat} {p : Addr} {b : Bool} {c c' : List D} {us : List V} (s : St8 K B en σ G H) (e : en[i]? = some (some (.o b p (.l c)))) (w : GrowX p G H G2 H2) (hp : H2 p = some (.lst us)) (r : RpAll K G2 us c') : St8 K B (en.set i (some (.o b p (.l c')))) σ G2 H2 := by
  obtain ⟨v0, e0, ev0, g0, r0⟩ := s.es.at_ i _ e
  have hb := (s.es.own i b p _ e).1
  obtain ⟨vs0, hl0⟩ := r0.lst
  have gp : G2 p = none := w.cl p g0 r0.there
  refine ⟨⟨⟨w.up, s.es.fr.le0.trans w.g, fun a u n eu => ?_, fun a n => w.there a (s.es.fr.there a n), fun a n m => w.cl a (s.es.fr.cl a n m) (s.es.fr.there a m)⟩, fun j dv ej => ?_, fun j k b b' q c c' ej ek => ?_, fun j b q c ej => ?_⟩, by simp [s.len]⟩
  · have na : a ≠ p := fun z => by
      subst z
      cases b with
      | true => exact n hb
      | false => rw [if_neg Bool.false_ne_true] at hb; rw [hb] at eu; cases eu
    exact w.h a u na (s.es.fr.keep a u n eu)
  · rcases get_set ej with ⟨rfl, e1⟩ | ⟨n, fj⟩
    · cases e1; exact ⟨v0, e0, ev0, gp, us, hp, r⟩
    · obtain ⟨u, x, y⟩ := s.es.at_ j dv fj
      refine ⟨u, x, ?_⟩
      cases dv with
      | v d => exact Rp.up w.g y
      | o b2 q c2 =>
        obtain ⟨y1, y2, y3⟩ := y
        have nq : q ≠ p := fun z => n (by subst z; exact s.es.one j i _ _ _ _ _ fj e)
        refine ⟨y1, w.cl q y2 y3.there, ?_⟩
        cases c2 with
        | l ds => obtain ⟨vs, e, r⟩ := y3; exact ⟨vs, w.h _ _ nq e, r.up w.g⟩
        | f a C m pw ds =>
          obtain ⟨z0, dx, vn, vp, vs', z1, z2, r1, r2, r3⟩ := y3
          have na : a ≠ p := fun z => by rw [z, hl0] at z1; cases z1
          exact ⟨w.cl a z0 (by rw [z1]; intro z; cases z), dx, vn, vp, vs', w.h _ _ na z1, w.h _ _ nq z2, r1.up w.g, r2.up w.g, r3.up w.g⟩
  · rcases get_set ej with ⟨rfl, e1⟩ | ⟨n, fj⟩
    · cases e1
      rcases get_set ek with ⟨rfl, e1⟩ | ⟨n', fk⟩
      · rfl
      · exact s.es.one _ _ _ _ _ _ _ e fk
    · rcases get_set ek with ⟨rfl, e1⟩ | ⟨n', fk⟩
      · cases e1; exact s.es.one _ _ _ _ _ _ _ fj e
      · exact s.es.one j k _ _ q _ _ fj fk
  · rcases get_set ej with ⟨rfl, e1⟩ | ⟨n, fj⟩
    · cases e1; exact ⟨hb, fun a z => by cases z⟩
    · exact s.es.own j _ q _ fj
end
section
variable (X : Cx) (W : WN) (eE : En)
def XV (e : Expr) (en : En) {γ : Type} (m : R (D × γ)) (φ : γ → En) : Prop := ∀ B σ G H, St8 X.K B en σ G H → ∀ Q : VK, Post X W eE B m (fun r => ∀ v G2 H2, Le G G2 → St8 X.K B (φ r.2) σ G2 H2 → Rp X.K G2 v r.1 → Q v H2) → wE X e σ H Q
/-- a new list, and a change -/
def XNV (e : Expr) (en : En) {γ : Type} (m : R (List D × γ)) (φ : γ → En) : Prop := ∀ B σ G H, St8 X.K B en σ G H → ∀ Q : VK, Post X W eE B m (fun r => ∀ p vs G2 H2, Le G G2 → St8 X.K B (φ r.2) σ G2 H2 → B.H0 p = none → NoOwn (φ r.2) p → G2 p = none → H2 p = some (.lst vs) → RpAll X.K G2 vs r.1 → Q (.ref p) H2) → wE X e σ H Q
def XAV (es : List Expr) (en : En) {γ : Type} (m : R (List D × γ)) (φ : γ → En) : Prop := ∀ B σ G H, St8 X.K B en σ G H → ∀ Q : List V → Hp → Prop, Post X W eE B m (fun r => ∀ vs G2 H2, Le G G2 → St8 X.K B (φ r.2) σ G2 H2 → RpAll X.K G2 vs r.1 → Q vs H2) → wA X es σ H Q
def XTV (e : Expr) (en : En) {γ : Type} (m : R (Bool × γ)) (φ : γ → En) : Prop := ∀ B σ G H, St8 X.K B en σ G H → ∀ Q : Bool → Hp → Prop, Post X W eE B m (fun r => ∀ G2 H2, Le G G2 → St8 X.K B (φ r.2) σ G2 H2 → Q r.1 H2) → wT X e σ H Q
def XWV (e : Expr) (en : En) {γ : Type} (m : R (Bool × γ)) (φ : γ → En) : Prop := ∀ B σ G H, St8 X.K B en σ G H → ∀ Q : Bool → Hp → Prop, Post X W eE B m (fun r => ∀ G2 H2, Le G G2 → St8 X.K B (φ r.2) σ G2 H2 → Q r.1 H2) → wW X e σ H Q
def X2V (a b : Expr) (en : En) {γ : Type} (m : R ((D × D) × γ)) (φ : γ → En) : Prop := ∀ B σ G H, St8 X.K B en σ G H → ∀ Q : V → V → Hp → Prop, Post X W eE B m (fun r => ∀ v u G2 H2, Le G G2 → St8 X.K B (φ r.2) σ G2 H2 → Rp X.K G2 v r.1.1 → Rp X.K G2 u r.1.2 → Q v u H2) → wE X a σ H fun x H1 => wE X b σ H1 fun y H2 => Q x y H2
end
section
variable {X : Cx} {W : WN} {eE : En} {en : En} {ec : Nat → Addr} {pos : Pos} {γ δ : Type} {φ : γ → En} {ψ : δ → En} {a b c : Expr} {es : List Expr}
theorem xv_of {m : R D} {cc : γ} (h : XP X W a en m) (hφ : φ cc = en := by rfl) (we : Wk0 eE en := by first | exact wk0_nil | exact wk0_refl | assumption | exact Wkn.wk0 (by repeat' first | exact Wkn.nil | apply Wkn.k | apply Wkn.d)) : XV X W eE a en (m.bnd fun d => .ok (d, cc)) φ := fun B σ G H S Q k =>
  xp_run h S we (wp_mono (wp_bnd.mp k) (fun d hd v G2 H2 l S2 r => hd v G2 H2 l (by show St8 X.K B (φ cc) _ _ _; rw [hφ]; exact S2) r) fun _ z => z)
theorem xtv_of {m : R Bool} {cc : γ} (h : XT X W a en m) (hφ : φ cc = en := by rfl) (we : Wk0 eE en := by first | exact wk0_nil | exact wk0_refl | assumption | exact Wkn.wk0 (by repeat' first | exact Wkn.nil | apply Wkn.k | apply Wkn.d)) : XTV X W eE a en (m.bnd fun d => .ok (d, cc)) φ := fun B σ G H S Q k =>
  xt_run h S we (wp_mono (wp_bnd.mp k) (fun d hd G2 H2 l S2 => hd G2 H2 l (by show St8 X.K B (φ cc) _ _ _; rw [hφ]; exact S2)) fun _ z => z)
theorem xav_of {m : R (List D)} {cc : γ} (h : XA X W es en m) (hφ : φ cc = en := by rfl) (we : Wk0 eE en := by first | exact wk0_nil | exact wk0_refl | assumption | exact Wkn.wk0 (by repeat' first | exact Wkn.nil | apply Wkn.k | apply Wkn.d)) : XAV X W eE es en (m.bnd fun d => .ok (d, cc)) φ := fun B σ G H S Q k =>
  h σ G H S.sl Q (wp_mono (wp_bnd.mp k) (fun d hd v G2 H2 w r => hd v G2 H2 w.g (by show St8 X.K B (φ cc) _ _ _; rw [hφ]; exact S.grow w) r) fun c hc G2 H2 w => hc σ G2 H2 ((S.grow w).es.weak we))
theorem xav_p {m : R D} {ms : R (List D × γ)} (h : XP X W a en m) (hs : XAV X W eE es en ms φ) (we : Wk0 eE en := by first | exact wk0_nil | exact wk0_refl | assumption | exact Wkn.wk0 (by repeat' first | exact Wkn.nil | apply Wkn.k | apply Wkn.d)) (he : starEach (a :: es) X.env = (false, eval a X.env) :: starEach es X.env := by rfl) : XAV X W eE (a :: es) en (m.bnd fun x => ms.bnd2 fun xs c => .ok (x :: xs, c)) φ := fun B σ G H S Q k => by
  refine pa_to (pa_cons pe_w pa_w he) (xp_run h S we (wp_mono (wp_bnd.mp k) (fun x hx v G1 H1 l1 S1 r1 => ?_) fun _ z => z))
  exact hs B σ G1 H1 S1 _ (wp_mono (wp_bnd.mp hx) (fun y hy vs G2 H2 l2 S2 r2 => hy (v :: vs) G2 H2 (l1.trans l2) S2 (.cons (r1.up l2) r2)) fun _ z => z)
theorem xav_v {m : R (D × δ)} {ms : δ → R (List D × γ)} (h : XV X W eE a en m ψ) (hs : ∀ c, XAV X W eE es (ψ c) (ms c) φ) (he : starEach (a :: es) X.env = (false, eval a X.env) :: starEach es X.env := by rfl) : XAV X W eE (a :: es) en (m.bnd2 fun x c => (ms c).bnd2 fun xs c' => .ok (x :: xs, c')) φ := fun B σ G H S Q k => by
  refine pa_to (pa_cons pe_w pa_w he) (h B σ G H S _ (wp_mono (wp_bnd.mp k) (fun x hx v G1 H1 l1 S1 r1 => ?_) fun _ z => z))
  exact hs x.2 B σ G1 H1 S1 _ (wp_mono (wp_bnd.mp hx) (fun y hy vs G2 H2 l2 S2 r2 => hy (v :: vs) G2 H2 (l1.trans l2) S2 (.cons (r1.up l2) r2)) fun _ z => z)
theorem xav_n {m : R (List D × δ)} {ms : δ → R (List D × γ)} (h : XNV X W eE a en m ψ) (hs : ∀ c, XAV X W eE es (ψ c) (ms c) φ) : True := trivial
theorem x2_pv {m : R D} {m2 : R (D × γ)} (h : XP X W a en m) (h2 : XV X W eE b en m2 φ) (we : Wk0 eE en := by first | exact wk0_nil | exact wk0_refl | assumption | exact Wkn.wk0 (by repeat' first | exact Wkn.nil | apply Wkn.k | apply Wkn.d)) : X2V X W eE a b en (m.bnd fun x => m2.bnd2 fun y c => .ok ((x, y), c)) φ := fun B σ G H S Q k => by
  refine xp_run h S we (wp_mono (wp_bnd.mp k) (fun x hx v G1 H1 l1 S1 r1 => ?_) fun _ z => z)
  exact h2 B σ G1 H1 S1 _ (wp_mono (wp_bnd.mp hx) (fun y hy u G2 H2 l2 S2 r2 => hy v u G2 H2 (l1.trans l2) S2 (r1.up l2) r2) fun _ z => z)
theorem x2_vp {m : R (D × γ)} {m2 : γ → R D} (h : XV X W eE a en m φ) (h2 : ∀ c, XP X W b (φ c) (m2 c)) (we : ∀ c, Wk0 eE (φ c) := by intro _; first | exact wk0_nil | exact wk0_refl | assumption | exact Wkn.wk0 (by repeat' first | exact Wkn.nil | apply Wkn.k | apply Wkn.d)) : X2V X W eE a b en (m.bnd2 fun x c => (m2 c).bnd fun y => .ok ((x, y), c)) φ := fun B σ G H S Q k => by
  refine h B σ G H S _ (wp_mono (wp_bnd.mp k) (fun x hx v G1 H1 l1 S1 r1 => ?_) fun _ z => z)
  exact xp_run (h2 x.2) S1 (we x.2) (wp_mono (wp_bnd.mp hx) (fun y hy u G2 H2 l2 S2 r2 => hy v u G2 H2 (l1.trans l2) S2 (r1.up l2) r2) fun _ z => z)
theorem x2_vv {m : R (D × δ)} {m2 : δ → R (D × γ)} (h : XV X W eE a en m ψ) (h2 : ∀ c, XV X W eE b (ψ c) (m2 c) φ) : X2V X W eE a b en (m.bnd2 fun x c => (m2 c).bnd2 fun y c' => .ok ((x, y), c')) φ := fun B σ G H S Q k => by
  refine h B σ G H S _ (wp_mono (wp_bnd.mp k) (fun x hx v G1 H1 l1 S1 r1 => ?_) fun _ z => z)
  exact h2 x.2 B σ G1 H1 S1 _ (wp_mono (wp_bnd.mp hx) (fun y hy u G2 H2 l2 S2 r2 => hy v u G2 H2 (l1.trans l2) S2 (r1.up l2) r2) fun _ z => z)
theorem St8.lk {K : PySem.W.Frag} {B : Bs} {σ : L2.St} {G H : Hp} (S : St8 K B en σ G H) : Lk G H := S.es.fr.up
theorem xv_two {f : D → D → Option D} {r : R2} {e : Expr} {m : R ((D × D) × γ)} (hf : OpD X.K r f) (h : X2V X W eE a b en m φ) (hr : PE X e (tOp r (wE X a) (wE X b))) : XV X W eE e en (m.bnd2 fun q c => (R.of (f q.1 q.2)).bnd fun d => .ok (d, c)) φ := fun B σ G H S Q k => by
  refine pe_to hr (h B σ G H S _ (wp_mono (wp_bnd.mp k) (fun q hq v u G1 H1 l1 S1 r1 r2 => ?_) fun _ z => z))
  obtain ⟨d, e, hd⟩ := wp_of (wp_bnd.mp hq)
  exact hf G1 H1 v u _ _ d S1.lk r1 r2 e Q fun v G3 H3 w3 r3 => hd v G3 H3 (l1.trans w3.g) (S1.grow w3) r3
theorem xv_op {op : Operator} {r : R2} {f : D → D → Option D} {m : R ((D × D) × γ)} (ho : OpR X (binaryOp op) r) (hf : OpD X.K r f) (h : X2V X W eE a b en m φ) : XV X W eE (.BinOp a op b pos) en (m.bnd2 fun q c => (R.of (f q.1 q.2)).bnd fun d => .ok (d, c)) φ := xv_two hf h (pe_op ho pe_w pe_w)
theorem xv_ix {r : R2} {f : D → D → Option D} {m : R ((D × D) × γ)} (ho : IxR X r) (hf : OpD X.K r f) (hs : PlainIx b) (h : X2V X W eE a b en m φ) : XV X W eE (.Subscript a b pos) en (m.bnd2 fun q c => (R.of (f q.1 q.2)).bnd fun d => .ok (d, c)) φ := xv_two hf h (pe_ix ho pe_w pe_w hs)
theorem xtv_cmp {op : CmpOp} {r : R2} {f : D → D → Option Bool} {m : R ((D × D) × γ)} (ho : OpR X (compareOp op) r) (hf : OpD X.K r (fun x y => (f x y).map .bl)) (hm : behindInMarks op b = false) (h : X2V X W eE a b en m φ) : XTV X W eE (.Compare a [op] [b] pos) en (m.bnd2 fun q c => (R.of (f q.1 q.2)).bnd fun d => .ok (d, c)) φ := fun B σ G H S Q k => by
  refine pt_to (pt_cmpR ho pe_w pe_w hm) (h B σ G H S _ (wp_mono (wp_bnd.mp k) (fun q hq v u G1 H1 l1 S1 r1 r2 => ?_) fun _ z => z))
  obtain ⟨d, e, hd⟩ := wp_of (wp_bnd.mp hq)
  refine hf G1 H1 v u _ _ (.bl d) S1.lk r1 r2 (by show (f _ _).map _ = _; rw [e]; rfl) _ fun v3 G3 H3 w3 r3 => ?_
  cases r3
  exact ⟨d, rfl, hd G3 H3 (l1.trans w3.g) (S1.grow w3)⟩
theorem xv_un {op : UnaryOp} {r : V → Hp → VK → Prop} {f : D → Option D} {m : R (D × γ)} (ho : UnR X (unaryOp op) r) (hf : UnD X.K r f) (h : XV X W eE a en m φ) : XV X W eE (.UnaryOp op a pos) en (m.bnd2 fun q c => (R.of (f q)).bnd fun d => .ok (d, c)) φ := fun B σ G H S Q k => by
  refine pe_to (pe_un ho pe_w) (h B σ G H S _ (wp_mono (wp_bnd.mp k) (fun q hq v G1 H1 l1 S1 r1 => ?_) fun _ z => z))
  obtain ⟨d, e, hd⟩ := wp_of (wp_bnd.mp hq)
  exact hf G1 H1 v _ d S1.lk r1 e Q fun v G3 H3 w3 r3 => hd v G3 H3 (l1.trans w3.g) (S1.grow w3) r3
theorem xv_tup {j : Nat} {m : R (List D × γ)} (h : XAV X W eE es en m φ) : XV X W eE (.Tuple es j pos) en (m.bnd2 fun q c => (R.of ((fits q).map .tup)).bnd fun d => .ok (d, c)) φ := fun B σ G H S Q k => by
  refine pe_to (pe_tup pa_w) (h B σ G H S _ (wp_mono (wp_bnd.mp k) (fun q hq vs G1 H1 l1 S1 r1 => ?_) fun _ z => z))
  obtain ⟨d, e, hd⟩ := wp_of (wp_bnd.mp hq)
  obtain ⟨es', e', rfl⟩ := Option.map_eq_some_iff.mp e
  obtain ⟨rfl, hl⟩ := fits_some e'
  refine ⟨size_ok (by rw [r1.len]; exact hl), fun p hp => ?_⟩
  have w2 := Grow.new (o := .tup vs) S1.lk hp rfl
  exact hd _ _ _ (l1.trans w2.g) (S1.grow w2) (.tup (.inl (.inl upd_same)) (r1.up w2.g))
theorem xnv_lst {m : R (List D × γ)} (h : XAV X W eE es en m φ) : XNV X W eE (.List es pos) en (m.bnd2 fun q c => (R.of (fits q)).bnd fun d => .ok (d, c)) φ := fun B σ G H S Q k => by
  refine pe_to (pe_lst pa_w) (h B σ G H S _ (wp_mono (wp_bnd.mp k) (fun q hq vs G1 H1 l1 S1 r1 => ?_) fun _ z => z))
  obtain ⟨d, e, hd⟩ := wp_of (wp_bnd.mp hq)
  obtain ⟨rfl, hl⟩ := fits_some e
  refine ⟨size_ok (by rw [r1.len]; exact hl), fun p hp => ?_⟩
  have w2 := Grow.own (o := .lst vs) S1.lk hp
  exact hd p vs G1 _ l1 (S1.grow w2) (S1.h0 hp) (S1.noOwn hp) (S1.lk.kn p hp) upd_same r1
theorem xnv_xv {m : R (List D × γ)} (h : XNV X W eE a en m φ) : XV X W eE a en (m.bnd2 fun d c => .ok (.lst d, c)) φ := fun B σ G H S Q k => by
  refine h B σ G H S Q (wp_mono (wp_bnd.mp k) (fun r hr p vs G2 H2 l S2 hb no gp ep rr => ?_) fun _ z => z)
  obtain ⟨l3, S3, r3⟩ := S2.frzP hb no gp ep rr
  exact hr _ _ H2 (l.trans l3) S3 r3
theorem xnv_of {m : R (List D)} {cc : γ} (h : XN X W a en m) (hφ : φ cc = en := by rfl) (we : Wk0 eE en := by first | exact wk0_nil | exact wk0_refl | assumption | exact Wkn.wk0 (by repeat' first | exact Wkn.nil | apply Wkn.k | apply Wkn.d)) : XNV X W eE a en (m.bnd fun d => .ok (d, cc)) φ := fun B σ G H S Q k =>
  xn_run h S we (wp_mono (wp_bnd.mp k) (fun d hd p vs G2 H2 l S2 hp gp ep r => hd p vs G2 H2 l (by show St8 X.K B (φ cc) _ _ _; rw [hφ]; exact S2) (S.h0 hp) (by show NoOwn (φ cc) p; rw [hφ]; exact S.noOwn hp) gp ep r) fun _ z => z)
/-! built-ins, defs, with arguments that change what one owns -/
theorem xv_callB {x : Str} {id : String} {e : Expr} {r : List V → Hp → VK → Prop} {f : List D → Option D} {m : R (List D × γ)} {p : Pos} (hc : CallR X (.builtin id) r) (hf : CallD X.K r f) (hm : X.mg x = none) (hv : bootBuiltins x = some (.builtin id))
    (ha : XAV X W eE (e :: es) en m φ) (hg : Gl X x := by rfl) (hn : x ≠ "__name__" := by decide) (hdb : (x == ("__debug__" : Str)) = false := by decide) (h1 : starEach (e :: es) X.env = (false, eval e X.env) :: starEach es X.env := by rfl) (h2 : (backTo pos (starEach es X.env)).any (·.1) = false := by rfl) :
    XV X W eE (.Call (.Name x p) (e :: es) [] pos) en (m.bnd2 fun q c => (R.of (f q)).bnd fun d => .ok (d, c)) φ := fun B σ G H S Q k => by
  refine pe_to (pe_callB hc hg hm hv pa_w hn hdb h1 h2) (ha B σ G H S _ (wp_mono (wp_bnd.mp k) (fun q hq vs G1 H1 l1 S1 r1 => ?_) fun _ z => z))
  obtain ⟨d, e, hd⟩ := wp_of (wp_bnd.mp hq)
  exact hf G1 H1 vs _ d S1.lk r1 e Q fun v G3 H3 w3 r3 => hd v G3 H3 (l1.trans w3.g) (S1.grow w3) r3
theorem xv_callTy {x : Str} {id : String} {e : Expr} {r : List V → Hp → VK → Prop} {f : List D → Option D} {m : R (List D × γ)} {p : Pos} (hc : CallR X (.type id) r) (hf : CallD X.K r f) (hm : X.mg x = none) (hv : bootBuiltins x = some (.type id))
    (ha : XAV X W eE (e :: es) en m φ) (hg : Gl X x := by rfl) (hn : x ≠ "__name__" := by decide) (hdb : (x == ("__debug__" : Str)) = false := by decide) (h1 : starEach (e :: es) X.env = (false, eval e X.env) :: starEach es X.env := by rfl) (h2 : (backTo pos (starEach es X.env)).any (·.1) = false := by rfl) :
    XV X W eE (.Call (.Name x p) (e :: es) [] pos) en (m.bnd2 fun q c => (R.of (f q)).bnd fun d => .ok (d, c)) φ := fun B σ G H S Q k => by
  refine pe_to (pe_callTy hc hg hm hv pa_w hn hdb h1 h2) (ha B σ G H S _ (wp_mono (wp_bnd.mp k) (fun q hq vs G1 H1 l1 S1 r1 => ?_) fun _ z => z))
  obtain ⟨d, e, hd⟩ := wp_of (wp_bnd.mp hq)
  exact hf G1 H1 vs _ d S1.lk r1 e Q fun v G3 H3 w3 r3 => hd v G3 H3 (l1.trans w3.g) (S1.grow w3) r3
theorem xv_call {x : Str} {p : Pos} {e : Expr} {k n : Nat} {f : Addr} {fd : FuncData} {ps : List Str} {fm : List D → R D} {m : R (List D × γ)} (g : Go X ec W) (F : FnOk X.prog X.w X.K X.mg X.base (L2.CX X.prog X.w) k f fd ps (spR X.K ec (rP X.K) n fm)) (hr : Room k X.A) (hm : X.mg x = some (.ref f)) (hk : PySem.W.keepIn X.K (.ref f) = true) (hb : Binds X.K fd ps [])
    (ha : XAV X W eE (e :: es) en m φ) (hln : ∀ ds P E, wp (fm ds) P E → ds.length = n) (we : ∀ c, Wk0 eE (φ c) := by intro _; first | exact wk0_nil | exact wk0_refl | assumption | exact Wkn.wk0 (by repeat' first | exact Wkn.nil | apply Wkn.k | apply Wkn.d)) (hg : Gl X x := by rfl) (hdb : (x == ("__debug__" : Str)) = false := by decide) (h1 : starEach (e :: es) X.env = (false, eval e X.env) :: starEach es X.env := by rfl) (h2 : (backTo pos (starEach es X.env)).any (·.1) = false := by rfl) :
    XV X W eE (.Call (.Name x p) (e :: es) [] pos) en (m.bnd2 fun ds c => (fm ds).bnd fun d => .ok (d, c)) φ := fun B σ G H S Q h => by
  refine pe_to (pe_callS F hr hg hm hk hb (fun σ => passAt g.tk σ) pa_w hdb h1 h2) (ha B σ G H S _ ?_)
  have h' := wp_bnd.mp h
  cases em : m with
  | ok r =>
    rw [em] at h'
    exact fun vs G1 H1 l1 S1 r1 => ⟨G1, r.1, S1.lk, r1, hln _ _ _ (wp_bnd.mp h'), wp_mono (wp_bnd.mp h') (fun d hd v G2 H2 w2 r2 => hd v G2 H2 (l1.trans w2.g) (S1.grow w2) r2) fun c hc G2 H2 w2 => ⟨c, rfl, rfl, hc σ G2 H2 ((S1.grow w2).es.weak (we _))⟩⟩
  | err c => rw [em] at h'; exact h'
  | bad => rw [em] at h'; exact h'.elim
end
/-! ### defs that change a list of the asker's -/
section
variable {K : PySem.W.Frag}
/-- the first argument is a list of the asker's -/
def spIO (K : PySem.W.Frag) (ec : Nat → Addr) (n : Nat) (f : List D → List D → R (D × List D)) : Sp := fun vs H Q E => ∃ G p ws us c ds, Lk G H ∧ vs = .ref p :: ws ∧ G p = none ∧ H p = some (.lst us) ∧ RpAll K G us c ∧ RpAll K G ws ds ∧ ds.length = n ∧
  wp (f c ds) (fun r => ∀ v us' G2 H2, GrowX p G H G2 H2 → Rp K G2 v r.1 → H2 p = some (.lst us') → RpAll K G2 us' r.2 → Q v H2) (fun c => ∀ G2 H2, GrowX p G H G2 H2 → E (.ref (ec c)) none H2)
theorem Fr8.toGrowX {p : Addr} {G H G2 H2 : Hp} (f : Fr8 ⟨G, H, [p]⟩ G2 H2) : GrowX p G H G2 H2 := ⟨f.le0, f.up, fun a o n e => f.keep a o (by simpa using n) e, f.there, f.cl⟩
/-- what is handed back: data, and what the list holds -/
def rIL (K : PySem.W.Frag) (p : Addr) : Hp → D × List D → V → Hp → Hp → Prop := fun _ r v G H => Rp K G v r.1 ∧ ∃ us, H p = some (.lst us) ∧ RpAll K G us r.2
def en1 (N : List Str) (p : Addr) (c ds : List D) : En := some (.o true p (.l c)) :: (ds.map (fun d => some (.v d)) ++ List.replicate (N.length - (ds.length + 1)) none)
theorem st_start1 {G H : Hp} {p : Addr} {us ws : List V} {c ds : List D} {N : List Str} (l : Lk G H) (gp : G p = none) (hp : H p = some (.lst us)) (ru : RpAll K G us c) (r : RpAll K G ws ds) : St8 K ⟨G, H, [p]⟩ (en1 N p c ds) (L2.start N (.ref p :: ws)) G H := by
  have hl := r.len
  have only : ∀ (i : Nat) (dv : DV), (en1 N p c ds)[i]? = some (some dv) → (i = 0 ∧ dv = .o true p (.l c)) ∨ ∃ j d, i = j + 1 ∧ ds[j]? = some d ∧ dv = .v d := fun i dv e => by
    cases i with
    | zero => cases e; exact .inl ⟨rfl, rfl⟩
    | succ j =>
      right
      have e : (ds.map (fun d => some (DV.v d)) ++ List.replicate (N.length - (ds.length + 1)) none)[j]? = some (some dv) := e
      by_cases hi : j < ds.length
      · rw [List.getElem?_append_left (by simpa using hi), List.getElem?_map] at e
        cases z : ds[j]? with
        | none => rw [z] at e; cases e
        | some d => rw [z] at e; cases e; exact ⟨j, d, rfl, z, rfl⟩
      · rw [List.getElem?_append_right (by simpa using hi), List.getElem?_replicate] at e
        split at e <;> cases e
  refine ⟨⟨⟨l, Le.refl _, fun _ _ _ e => e, fun _ n => n, fun _ n _ => n⟩, fun i dv e => ?_, fun i j b b' q c c' e e' => ?_, fun i b q c e => ?_⟩, ?_⟩
  · rcases only i dv e with ⟨rfl, rfl⟩ | ⟨j, d, rfl, e1, rfl⟩
    · exact ⟨.ref p, rfl, rfl, gp, us, hp, ru⟩
    · obtain ⟨v, e2, r2⟩ := r.get e1
      refine ⟨v, ?_, r2⟩
      have hi : j < ws.length := (List.getElem?_eq_some_iff.mp e2).1
      show (ws.map some ++ _)[j]? = _
      rw [List.getElem?_append_left (by simpa using hi), List.getElem?_map, e2]
      rfl
  · rcases only i _ e with ⟨rfl, z⟩ | ⟨_, _, _, _, z⟩
    · rcases only j _ e' with ⟨rfl, z⟩ | ⟨_, _, _, _, z⟩
      · rfl
      · cases z
    · cases z
  · rcases only i _ e with ⟨rfl, z⟩ | ⟨_, _, _, _, z⟩
    · cases z; exact ⟨by simp, fun a z => by cases z⟩
    · cases z
  · unfold L2.start en1
    simp [hl]
variable {P : Program} {w : World} {mg : Str → Option Value} {base : Heap} {ec : Nat → Addr}
theorem fn_okIO {x qual : Str} {st : Stmt} {f : Addr} {fd : FuncData} {N ps : List Str} {k n : Nat} {fm : List D → List D → R (D × List D)} (F : Fun K x qual st f fd) (S : FnScope N ps (defScope st)) (hn : ps.length = n + 1)
    (body : ∀ (cdv : Value) (A : Around) (outer : List Env) (s : Shared) (H : Hp) (E : XK), Room k (A.deeper (envOfC qual (defScope st) s.heap.objs.size f cdv)) →
      Go (cxOf (L2.CX P w) P w K mg base N qual (defScope st) f cdv A outer s H E) ec (fun c _ H => E (.ref (ec c)) none H) → ∀ (p : Addr) (c ds : List D), ds.length = n →
      XB (cxOf (L2.CX P w) P w K mg base N qual (defScope st) f cdv A outer s H E) (fun c _ H => E (.ref (ec c)) none H) [] (defBody st) (en1 N p c ds) (fm c ds) (TR (rIL K p))) :
    FnOk P w K mg base (L2.CX P w) (k + 1) f fd ps (spIO K ec n fm) := by
  refine F.okX S (fun vs H Q E h => ?_) (fun cdv A outer s H vs Q E hr h => ?_)
  · obtain ⟨G, p, ws, us, c, ds, l, rfl, gp, hp, ru, r, e, _⟩ := h
    rw [List.length_cons, r.len, e, hn]
  · obtain ⟨G, p, ws, us, c, ds, l, rfl, gp, hp, ru, r, e, q⟩ := h
    have g : Go (cxOf (L2.CX P w) P w K mg base N qual (defScope st) f cdv A outer s H E) ec (fun c _ H => E (.ref (ec c)) none H) :=
      ⟨rfl, passes_of rfl, S.nd, (takes_of (E := E) rfl rfl rfl rfl).imp fun cls d σ H' ⟨c, e1, e2, e3⟩ => by rw [e1, e2]; exact e3⟩
    have b := body cdv A outer s H E hr g p c ds e
    exact ⟨_, pss_w, b ⟨G, H, [p]⟩ (L2.start N (.ref p :: ws)) G H (st_start1 l gp hp ru r) _ (wp_mono q (fun o ho v G2 H2 f8 ⟨rr, us', h1, h2⟩ => ho v us' G2 H2 f8.toGrowX rr h1 h2) fun c hc σ G2 H2 es => hc G2 H2 es.fr.toGrowX)⟩
end
section
variable {X : Cx} {W : WN} {eE : En} {en : En} {ec : Nat → Addr} {pos : Pos} {γ δ ω : Type} {φ : γ → En} {ψ : δ → En} {a b c : Expr} {es : List Expr} {T : Bs → ω → Ends → Prop} {rest : List Stmt}
/-- f(x, ..), x one's own list that f may change -/
theorem xv_callIO {i : Nat} {bb : Bool} {q : Addr} {c0 : OO} {x y : Str} {p py : Pos} {k n : Nat} {f : Addr} {fd : FuncData} {ps : List Str} {fm : List D → List D → R (D × List D)} {m : R (List D × γ)} (g : Go X ec W) (F : FnOk X.prog X.w X.K X.mg X.base (L2.CX X.prog X.w) k f fd ps (spIO X.K ec n fm)) (hr : Room k X.A) (hm : X.mg x = some (.ref f)) (hk : PySem.W.keepIn X.K (.ref f) = true) (hb : Binds X.K fd ps [])
    (cn : γ → List D) (χ : γ × List D → En) (ha : XAV X W [] es en m φ) (hln : ∀ c ds P E, wp (fm c ds) P E → ds.length = n) (hy : en[i]? = some (some (.o bb q c0)) := by rfl) (hc0 : c0.top q = q := by rfl) (he : ∀ c, (φ c)[i]? = some (some (.o bb q (.l (cn c)))) := by intro _; rfl) (hχ : ∀ c o, (φ c).set i (some (.o bb q (.l o))) = χ (c, o) := by intro _ _; rfl)
    (hN : X.N[i]? = some y := by rfl) (hv : Vis X.env.scope y := by first | exact Or.inl rfl | exact Or.inr (Or.inl rfl) | exact Or.inr (Or.inr rfl)) (hd : (y == ("__debug__" : Str)) = false := by decide) (hcd : (y == ("__classdict__" : Str)) = false := by decide)
    (hg : Gl X x := by rfl) (hdb : (x == ("__debug__" : Str)) = false := by decide) (h1 : starEach (.Name y py :: es) X.env = (false, eval (.Name y py) X.env) :: starEach es X.env := by rfl) (h2 : (backTo pos (starEach es X.env)).any (·.1) = false := by rfl) :
    XV X W [] (.Call (.Name x p) (.Name y py :: es) [] pos) en (m.bnd2 fun ds c => (fm (cn c) ds).bnd2 fun o l => .ok (o, (c, l))) χ := fun B σ G H S Q h => by
  obtain ⟨v0, e0, rfl, _⟩ := S.es.at_ i _ hy
  rw [hc0] at e0
  refine pe_to (pe_callS F hr hg hm hk hb (fun σ => passAt g.tk σ) (pa_cons (pe_var hN hv hd hcd) pa_w h1) hdb h1 h2) ⟨.ref q, e0, ha B σ G H S _ ?_⟩
  have h' := wp_bnd.mp h
  cases em : m with
  | ok r =>
    rw [em] at h'
    intro vs G1 H1 l1 S1 r1
    obtain ⟨_, gq, us, hq, ru⟩ := st_at S1 (he r.2)
    refine ⟨G1, q, vs, us, cn r.2, r.1, S1.lk, rfl, gq, hq, ru, r1, hln _ _ _ _ (wp_bnd.mp h'), wp_mono (wp_bnd.mp h') (fun o ho v us' G2 H2 w2 r2 h2 ru2 => ?_) fun c hc G2 H2 w2 => ⟨c, rfl, rfl, hc σ G2 H2 ?_⟩⟩
    · have S2 := S1.growX (he r.2) w2 h2 ru2
      rw [hχ] at S2
      exact ho v G2 H2 (l1.trans w2.g) S2 r2
    · have fr := S1.es.fr
      have hbq := (S1.es.own i bb q _ (he r.2)).1
      refine ⟨⟨w2.up, fr.le0.trans w2.g, fun a u n eu => ?_, fun a n => w2.there a (fr.there a n), fun a n mm => w2.cl a (fr.cl a n mm) (fr.there a mm)⟩, fun i dv e => by simp at e, fun i j b b' p c c' e => by simp at e, fun i b p c e => by simp at e⟩
      have na : a ≠ q := fun z => by
        subst z
        cases bb with
        | true => exact n hbq
        | false => rw [if_neg Bool.false_ne_true] at hbq; rw [hbq] at eu; cases eu
      exact w2.h a u na (fr.keep a u n eu)
  | err c => rw [em] at h'; exact h'
  | bad => rw [em] at h'; exact h'.elim
/-- the same, other arguments that change nothing -/
theorem xv_io {i : Nat} {bb : Bool} {q : Addr} {cn : List D} {x y : Str} {p py : Pos} {k n : Nat} {f : Addr} {fd : FuncData} {ps : List Str} {fm : List D → List D → R (D × List D)} {m : R (List D)} (g : Go X ec W) (F : FnOk X.prog X.w X.K X.mg X.base (L2.CX X.prog X.w) k f fd ps (spIO X.K ec n fm)) (hr : Room k X.A) (hm : X.mg x = some (.ref f)) (hk : PySem.W.keepIn X.K (.ref f) = true) (hb : Binds X.K fd ps [])
    (χ : List D → En) (ha : XA X W es en m) (hln : ∀ c ds P E, wp (fm c ds) P E → ds.length = n) (hy : en[i]? = some (some (.o bb q (.l cn))) := by rfl) (hχ : ∀ o, en.set i (some (.o bb q (.l o))) = χ o := by intro _; rfl)
    (hN : X.N[i]? = some y := by rfl) (hv : Vis X.env.scope y := by first | exact Or.inl rfl | exact Or.inr (Or.inl rfl) | exact Or.inr (Or.inr rfl)) (hd : (y == ("__debug__" : Str)) = false := by decide) (hcd : (y == ("__classdict__" : Str)) = false := by decide)
    (hg : Gl X x := by rfl) (hdb : (x == ("__debug__" : Str)) = false := by decide) (h1 : starEach (.Name y py :: es) X.env = (false, eval (.Name y py) X.env) :: starEach es X.env := by rfl) (h2 : (backTo pos (starEach es X.env)).any (·.1) = false := by rfl) :
    XV X W [] (.Call (.Name x p) (.Name y py :: es) [] pos) en (m.bnd fun r => fm cn r) χ := fun B σ G H S Q h => by
  refine xv_callIO (γ := Unit) (φ := fun _ => en) (i := i) g F hr hm hk hb (fun _ => cn) (fun z => en.set i (some (.o bb q (.l z.2)))) (xav_of (cc := ()) ha) hln hy rfl (fun _ => hy) (fun _ _ => rfl) hN hv hd hcd hg hdb h1 h2 B σ G H S Q ?_
  · cases em : m with
    | ok r' =>
      rw [em] at h
      have h : Post X W [] B (fm cn r') _ := h
      show Post X W [] B ((fm cn r').bnd2 fun o l => .ok (o, ((), l))) _
      refine wp_bnd.mpr (wp_mono h (fun o ho => ?_) fun _ z => z)
      intro v G2 H2 l S2 r2
      refine ho v G2 H2 l ?_ r2
      rw [← hχ]
      exact S2
    | err c => rw [em] at h; exact h
    | bad => rw [em] at h; exact h
/-! statements -/
theorem xb_letV {i : Nat} {x : Str} {p : Pos} {e : Expr} {m : R (D × γ)} {k : D → γ → R ω} (g : Go X ec W) (χ : D → γ → En) (h : XV X W eE e en m φ) (hk : ∀ d c, XB X W eE rest (χ d c) (k d c) T) (hi : X.N[i]? = some x := by rfl) (hφ : ∀ d c, (φ c).set i (some (.v d)) = χ d c := by intro _ _; rfl)
    (hx : Loc X.env.scope x := by first | exact Or.inl rfl | exact Or.inr rfl) (hs : swapsWith e (some (.Name x p)) pos.line X.env = pure false := by first | exact swaps_no rfl | exact swapsS_no rfl | rfl)
    (hf : X.fn x = true ∨ X.env.scope.names.lookup x = some .local := by first | exact .inl rfl | exact .inr rfl) : XB X W eE (.Assign [.Name x p] e pos :: rest) en (m.bnd2 k) T := fun B σ G H S D q => by
  refine pss_to (pss_cons (ps_set g.nd hi hx pe_w hs hf) pss_w) (h B σ G H S _ (wp_mono (wp_bnd.mp q) (fun d hd v G2 H2 l S2 r => ?_) fun _ z => z))
  exact hk d.1 d.2 B _ G2 H2 (by have := S2.set (i := i) r; rw [hφ] at this; exact this) D hd
theorem xb_letNV {i : Nat} {x : Str} {p : Pos} {e : Expr} {m : R (List D × γ)} {k : List D → γ → R ω} (g : Go X ec W) (χ : Addr → List D → γ → En) (h : XNV X W eE e en m φ) (hk : ∀ a d c, XB X W eE rest (χ a d c) (k d c) T) (hi : X.N[i]? = some x := by rfl) (hφ : ∀ a d c, (φ c).set i (some (.o false a (.l d))) = χ a d c := by intro _ _ _; rfl)
    (hx : Loc X.env.scope x := by first | exact Or.inl rfl | exact Or.inr rfl) (hs : swapsWith e (some (.Name x p)) pos.line X.env = pure false := by first | exact swaps_no rfl | exact swapsS_no rfl | rfl)
    (hf : X.fn x = true ∨ X.env.scope.names.lookup x = some .local := by first | exact .inl rfl | exact .inr rfl) : XB X W eE (.Assign [.Name x p] e pos :: rest) en (m.bnd2 k) T := fun B σ G H S D q => by
  refine pss_to (pss_cons (ps_set g.nd hi hx pe_w hs hf) pss_w) (h B σ G H S _ (wp_mono (wp_bnd.mp q) (fun d hd a vs G2 H2 l S2 hb no gp ep r => ?_) fun _ z => z))
  have := S2.setO (i := i) (p := a) (c := .l d.1) no hb gp ⟨vs, ep, r⟩
  rw [hφ] at this
  exact hk a d.1 d.2 B _ G2 H2 this D hd
/-- return e, the def's first argument a list that it may have changed -/
theorem xb_retIO {i : Nat} {q : Addr} {e : Expr} {m : R (D × γ)} (cn : γ → List D) (h : XV X W eE e en m φ) (he : ∀ c, (φ c)[i]? = some (some (.o true q (.l (cn c)))) := by intro _; rfl) : XB X W eE [.Return (some e) pos] en (m.bnd2 fun d c => .ok (d, cn c)) (TR (rIL X.K q)) := fun B σ G H S D k => by
  refine pss_to (pss_one (ps_ret pe_w)) (h B σ G H S _ (wp_mono (wp_bnd.mp k) (fun d hd v G2 H2 l S2 r => ?_) fun _ z => z))
  obtain ⟨_, _, us, hq, ru⟩ := st_at S2 (he d.2)
  exact hd v G2 H2 S2.es.fr ⟨r, us, hq, ru⟩
theorem xb_retIOP {i : Nat} {q : Addr} {e : Expr} {cn : List D} {m : R D} (h : XP X W e en m) (he : en[i]? = some (some (.o true q (.l cn))) := by rfl) (we : Wk0 eE en := by first | exact wk0_nil | exact wk0_refl | assumption | exact Wkn.wk0 (by repeat' first | exact Wkn.nil | apply Wkn.k | apply Wkn.d)) : XB X W eE [.Return (some e) pos] en (m.bnd fun d => .ok (d, cn)) (TR (rIL X.K q)) := fun B σ G H S D k => by
  refine pss_to (pss_one (ps_ret pe_w)) (xp_run h S we (wp_mono (wp_bnd.mp k) (fun d hd v G2 H2 l S2 r => ?_) fun _ z => z))
  obtain ⟨_, _, us, hq, ru⟩ := st_at S2 he
  exact hd v G2 H2 S2.es.fr ⟨r, us, hq, ru⟩
theorem xb_retV {e : Expr} {m : R (D × γ)} (h : XV X W eE e en m φ) : XB X W eE [.Return (some e) pos] en (m.bnd2 fun d _ => .ok d) (TR (rP X.K)) := fun B σ G H S D k =>
  pss_to (pss_one (ps_ret pe_w)) (h B σ G H S _ (wp_mono (wp_bnd.mp k) (fun d hd v G2 H2 l S2 r => hd v G2 H2 S2.es.fr r) fun _ z => z))
/-- if, its test a change -/
theorem xb_ifRV {β : Type} {Rr : Hp → β → V → Hp → Hp → Prop} {A : List Stmt} {mc : R (Bool × γ)} {ma mr : γ → R β} (hc : XTV X W eE c en mc φ) (ha : ∀ c, XB X W eE A (φ c) (ma c) (TR Rr)) (hr : ∀ c, XB X W eE rest (φ c) (mr c) (TR Rr)) :
    XB X W eE (.If c A [] pos :: rest) en (mc.bnd2 fun b c => if b = true then ma c else mr c) (TR Rr) := fun B σ G H S D q => by
  refine pss_to (pss_cons (ps_if pt_w pss_w pss_nil) pss_w) (hc B σ G H S _ (wp_mono (wp_bnd.mp q) (fun b hb' G2 H2 l S2 => ?_) fun _ z => z))
  obtain ⟨b, c⟩ := b
  cases b with
  | true => exact ha c B σ G2 H2 S2 _ (wp_mono hb' (fun _ z => z) fun _ z => z)
  | false => exact hr c B σ G2 H2 S2 D hb'
theorem xs_ifV {A C : List Stmt} {mc : R (Bool × γ)} {ma mb : γ → R ω} (hc : XTV X W eE c en mc φ) (ha : ∀ c, XB X W eE A (φ c) (ma c) T) (hb : ∀ c, XB X W eE C (φ c) (mb c) T) : XS X W eE (.If c A C pos) en (mc.bnd2 fun b c => if b = true then ma c else mb c) T := fun B σ G H S D q => by
  refine ps_to (ps_if pt_w pss_w pss_w) (hc B σ G H S _ (wp_mono (wp_bnd.mp q) (fun b hb' G2 H2 l S2 => ?_) fun _ z => z))
  obtain ⟨b, c⟩ := b
  cases b with
  | true => exact ha c B σ G2 H2 S2 D hb'
  | false => exact hb c B σ G2 H2 S2 D hb'
theorem xtv_val {m : R (D × γ)} (h : XV X W eE a en m φ) (he : ∀ whole, isTrue a X.env whole = (do let v ← whole; standAt a.pos; holding [v] (truthy v)) := by intro _; rfl) : XTV X W eE a en (m.bnd2 fun d c => (R.of (D.bool d)).bnd fun b => .ok (b, c)) φ := fun B σ G H S Q k => by
  refine pt_to (pt_val pe_w he) (h B σ G H S _ (wp_mono (wp_bnd.mp k) (fun x hx v G1 H1 l1 S1 r1 => ?_) fun _ z => z))
  obtain ⟨d, e, hd⟩ := wp_of (wp_bnd.mp hx)
  obtain ⟨x, c⟩ := x
  cases x <;> cases e
  cases r1
  exact ⟨_, rfl, hd G1 H1 l1 S1⟩
theorem xtv_not {m : R (Bool × γ)} (h : XTV X W eE a en m φ) : XTV X W eE (.UnaryOp .Not a pos) en (m.bnd2 fun b c => .ok (!b, c)) φ := fun B σ G H S Q k =>
  pt_to (pt_not pt_w) (h B σ G H S _ (wp_mono (wp_bnd.mp k) (fun x hx G1 H1 l1 S1 => hx G1 H1 l1 S1) fun _ z => z))
theorem xtv_w {m : R (Bool × γ)} (h : XWV X W eE a en m φ) : XTV X W eE a en m φ := fun B σ G H S Q k => pt_to (PW.pt pw_w) (h B σ G H S Q k)
theorem xwv_and1 {m : R (Bool × γ)} (h : XTV X W eE a en m φ) : XWV X W eE (.BoolOp .And [a] pos) en m φ := fun B σ G H S Q k => pw_to (pw_and1 pt_w) (h B σ G H S Q k)
theorem xwv_or1 {m : R (Bool × γ)} (h : XTV X W eE a en m φ) : XWV X W eE (.BoolOp .Or [a] pos) en m φ := fun B σ G H S Q k => pw_to (pw_or1 pt_w) (h B σ G H S Q k)
variable {rs : List Expr}
/-- a and b: a changes nothing -/
theorem xwv_andP {m : R Bool} {mb : R (Bool × γ)} {cc : γ} (h : XT X W a en m) (hb : XWV X W eE (.BoolOp .And (b :: rs) pos) en mb φ) (hφ : φ cc = en := by rfl) (we : Wk0 eE en := by first | exact wk0_nil | exact wk0_refl | assumption | exact Wkn.wk0 (by repeat' first | exact Wkn.nil | apply Wkn.k | apply Wkn.d)) : XWV X W eE (.BoolOp .And (a :: b :: rs) pos) en (m.bnd fun x => if x = true then mb else .ok (false, cc)) φ := fun B σ G H S Q k => by
  refine pw_to (pw_and pt_w pw_w) (xt_run h S we (wp_mono (wp_bnd.mp k) (fun x hx G1 H1 l1 S1 => ?_) fun _ z => z))
  cases x with
  | true => exact hb B σ G1 H1 S1 Q (wp_mono hx (fun y hy G2 H2 l2 S2 => hy G2 H2 (l1.trans l2) S2) fun _ z => z)
  | false => exact hx G1 H1 l1 (by show St8 X.K B (φ cc) _ _ _; rw [hφ]; exact S1)
theorem xwv_orP {m : R Bool} {mb : R (Bool × γ)} {cc : γ} (h : XT X W a en m) (hb : XWV X W eE (.BoolOp .Or (b :: rs) pos) en mb φ) (hφ : φ cc = en := by rfl) (we : Wk0 eE en := by first | exact wk0_nil | exact wk0_refl | assumption | exact Wkn.wk0 (by repeat' first | exact Wkn.nil | apply Wkn.k | apply Wkn.d)) : XWV X W eE (.BoolOp .Or (a :: b :: rs) pos) en (m.bnd fun x => if x = true then .ok (true, cc) else mb) φ := fun B σ G H S Q k => by
  refine pw_to (pw_or pt_w pw_w) (xt_run h S we (wp_mono (wp_bnd.mp k) (fun x hx G1 H1 l1 S1 => ?_) fun _ z => z))
  cases x with
  | false => exact hb B σ G1 H1 S1 Q (wp_mono hx (fun y hy G2 H2 l2 S2 => hy G2 H2 (l1.trans l2) S2) fun _ z => z)
  | true => exact hx G1 H1 l1 (by show St8 X.K B (φ cc) _ _ _; rw [hφ]; exact S1)
/-- a and b: a changes -/
theorem xwv_andV {m : R (Bool × γ)} {mb : γ → R Bool} (h : XTV X W eE a en m φ) (hb : ∀ c, XW X W (.BoolOp .And (b :: rs) pos) (φ c) (mb c)) (we : ∀ c, Wk0 eE (φ c) := by intro _; first | exact wk0_nil | exact wk0_refl | assumption | exact Wkn.wk0 (by repeat' first | exact Wkn.nil | apply Wkn.k | apply Wkn.d)) : XWV X W eE (.BoolOp .And (a :: b :: rs) pos) en (m.bnd2 fun b c => if b = true then (mb c).bnd fun y => .ok (y, c) else .ok (false, c)) φ := fun B σ G H S Q k => by
  refine pw_to (pw_and pt_w pw_w) (h B σ G H S _ (wp_mono (wp_bnd.mp k) (fun x hx G1 H1 l1 S1 => ?_) fun _ z => z))
  obtain ⟨x, c⟩ := x
  cases x with
  | true => exact hb c σ G1 H1 S1.sl Q (wp_mono (wp_bnd.mp hx) (fun y hy G2 H2 w2 => hy G2 H2 (l1.trans w2.g) (S1.grow w2)) fun _ z G2 H2 w2 => z σ G2 H2 ((S1.grow w2).es.weak (we c)))
  | false => exact hx G1 H1 l1 S1
theorem xwv_orV {m : R (Bool × γ)} {mb : γ → R Bool} (h : XTV X W eE a en m φ) (hb : ∀ c, XW X W (.BoolOp .Or (b :: rs) pos) (φ c) (mb c)) (we : ∀ c, Wk0 eE (φ c) := by intro _; first | exact wk0_nil | exact wk0_refl | assumption | exact Wkn.wk0 (by repeat' first | exact Wkn.nil | apply Wkn.k | apply Wkn.d)) : XWV X W eE (.BoolOp .Or (a :: b :: rs) pos) en (m.bnd2 fun b c => if b = true then .ok (true, c) else (mb c).bnd fun y => .ok (y, c)) φ := fun B σ G H S Q k => by
  refine pw_to (pw_or pt_w pw_w) (h B σ G H S _ (wp_mono (wp_bnd.mp k) (fun x hx G1 H1 l1 S1 => ?_) fun _ z => z))
  obtain ⟨x, c⟩ := x
  cases x with
  | false => exact hb c σ G1 H1 S1.sl Q (wp_mono (wp_bnd.mp hx) (fun y hy G2 H2 w2 => hy G2 H2 (l1.trans w2.g) (S1.grow w2)) fun _ z G2 H2 w2 => z σ G2 H2 ((S1.grow w2).es.weak (we c)))
  | true => exact hx G1 H1 l1 S1
/-- x.m(e), the argument a change -/
theorem xb_mutV {i : Nat} {bb : Bool} {p : Addr} {px pa pc : Pos} {x name : Str} {id : String} {m : R (D × γ)} {r : V → List V → Hp → VK → Prop} {f : List D → D → Option (List D)} {k : List D → γ → R ω} {l0 : List D} (slot : Slot "list" name id) (hty : typeOf (.builtin id) = pure (.type "method_descriptor")) (hm : MtR X id r) (hf : MutD X.K r f)
    (cn : γ → List D) (χ : List D → γ → En) (ha : XV X W eE a en m φ) (hk : ∀ ds c, XB X W eE rest (χ ds c) (k ds c) T) (hy : en[i]? = some (some (.o bb p (.l l0))) := by rfl) (he : ∀ c, (φ c)[i]? = some (some (.o bb p (.l (cn c)))) := by intro _; rfl) (hφ : ∀ ds c, (φ c).set i (some (.o bb p (.l ds))) = χ ds c := by intro _ _; rfl)
    (hN : X.N[i]? = some x := by rfl) (hv : Vis X.env.scope x := by first | exact Or.inl rfl | exact Or.inr (Or.inl rfl) | exact Or.inr (Or.inr rfl)) (hd : (x == ("__debug__" : Str)) = false := by decide) (hcd : (x == ("__classdict__" : Str)) = false := by decide)
    (hbase : attributeBase (.Name x px) name X.env (eval (.Name x px) X.env) = eval (.Name x px) X.env := by rfl)
    (hfew : ((backTo pc (starEach [a] X.env)).all (fun x => !x.1) && (backToKw pc (keywordEach [] X.env)).all (fun x => x.1.isSome)
      && decide (([a] : List Expr).length + ([] : List Keyword).length + (if ([] : List Keyword).isEmpty then 0 else 1) < 30)) = true := by rfl)
    (hline : (pa.endLine == pc.line) = true := by rfl) (hs : starEach [a] X.env = (false, eval a X.env) :: starEach [] X.env := by rfl) (hplain : (backTo pc (starEach [] X.env)).any (·.1) = false := by rfl)
    (hsw : swapsWith (.Call (.Attribute (.Name x px) name pa) [a] [] pc) none pos.line X.env = pure false := by first | exact swaps_no rfl | exact swapsS_no rfl | rfl) : XB X W eE (.Expr (.Call (.Attribute (.Name x px) name pa) [a] [] pc) pos :: rest) en (m.bnd2 fun d c => (R.of (f (cn c) d)).bnd fun ds => k ds c) T := fun B σ G H S D q => by
  obtain ⟨e1, g0, vs, hp, rr⟩ := st_at S hy
  refine pss_to (pss_cons (ps_expr (pe_bm PySem.F.plainAttrs_list slot hty hm (pe_var hN hv hd hcd) (pa_cons pe_w pa_nil hs) hbase hfew hline hs hplain) hsw) pss_w) ⟨.ref p, e1, .inl ⟨rfl, vs, .inl (.inl hp)⟩, ?_⟩
  refine ha B σ G H S _ (wp_mono (wp_bnd.mp q) (fun d hd' v G1 H1 l S1 r1 => ?_) fun _ z => z)
  obtain ⟨ds', e2, hd2⟩ := wp_of (wp_bnd.mp hd')
  obtain ⟨e3, g3, us, hp3, r3⟩ := st_at S1 (he d.2)
  refine hf G1 H1 p us _ v d.1 ds' S1.lk hp3 r3 r1 e2 _ fun us' r' => ?_
  have S2 := S1.mut (c' := .l ds') (o := .lst us') (he d.2) ⟨_, upd_same, r'⟩
  rw [hφ] at S2
  exact hk _ _ B σ G1 _ S2 D hd2
/-! a comprehension whose element changes what one owns -/
def noEV {α : Type} (m : R α) : R α := noE m
def lcV (f : γ → D → R (D × γ)) : γ → List D → R (List D × γ)
  | c, [] => .ok ([], c)
  | c, d :: ds => (noE (f c d)).bnd fun r => (lcV f r.2 ds).bnd fun s => .ok (r.1 :: s.1, s.2)
def lcVR (f : γ → D → R (D × γ)) (c : γ) (ds : List D) : R (List D × γ) := if ds.length ≤ 16000000 then lcV f c ds else .bad
def BV (X : Cx) (scope : Scope) (e : Expr) (en : En) {γ : Type} (m : R (D × γ)) (φ : γ → En) : Prop := ∀ (s : Shared) (H0 : Hp) (C : Addr) (cl : List (Str × Addr)) (fp : List Addr), XV (X.blk s H0 scope (compEnvC scope cl C X.env) fp) W0 [] e en m φ
theorem St8.wipe {K : PySem.W.Frag} {B : Bs} {σ : L2.St} {G H : Hp} {vs : List Nat} (s : St8 K B en σ G H) (h : clr en vs = true) : St8 K B en (L2.wipe σ vs) G H := by
  have z := s.sl.wipe h
  exact ⟨⟨s.es.fr, z.at_, s.es.one, s.es.own⟩, z.len⟩
theorem St8.unwipe {K : PySem.W.Frag} {B : Bs} {σ : L2.St} {G H : Hp} {vs : List Nat} (s : St8 K B en (L2.wipe σ vs) G H) : St8 K B en σ G H :=
  ⟨⟨s.es.fr, fun i dv e => by obtain ⟨v, a, b⟩ := s.es.at_ i dv e; exact ⟨v, (wipe_some a).1, b⟩, s.es.one, s.es.own⟩, by rw [← s.len, wipe_length]⟩
/-- one more object that must stay -/
def Bs.with_ (B : Bs) (G : Hp) (p : Addr) (o : HO) : Bs := ⟨G, upd B.H0 p o, B.io.filter fun a => decide (a ≠ p)⟩
theorem NoOwn.set {p : Addr} {i : Nat} {d : D} (h : NoOwn en p) : NoOwn (en.set i (some (.v d))) p := fun j b c e => by
  rcases get_set e with ⟨rfl, e1⟩ | ⟨n, f1⟩
  · cases e1
  · exact h j b c f1
theorem St8.with_ {K : PySem.W.Frag} {B : Bs} {σ : L2.St} {G H : Hp} {p : Addr} {o : HO} (s : St8 K B en σ G H) (hp : H p = some o) (gp : G p = none) (no : NoOwn en p) (hno : ∀ C dx fs, o ≠ .ins C dx fs := by intros; simp) : St8 K (B.with_ G p o) en σ G H := by
  refine ⟨⟨⟨s.es.fr.up, Le.refl _, fun a u n e => ?_, fun a n => ?_, fun a n m => n⟩, s.es.at_, s.es.one, fun i b q c e => ?_⟩, s.len⟩
  · by_cases ea : a = p
    · subst ea
      have e : upd B.H0 a o a = some u := e
      rw [upd_same] at e; rw [hp]; exact e
    · have e : upd B.H0 p o a = some u := e
      rw [upd_ne ea] at e
      exact s.es.fr.keep a u (fun z => n (List.mem_filter.mpr ⟨z, by simpa using ea⟩)) e
  · by_cases ea : a = p
    · subst ea; rw [hp]; intro z; cases z
    · have n : upd B.H0 p o a ≠ none := n
      rw [upd_ne ea] at n
      exact s.es.fr.there a n
  · have nq : q ≠ p := fun z => by subst z; exact no i b c e
    obtain ⟨h, h'⟩ := s.es.own i b q c e
    refine ⟨?_, fun a ha => ?_⟩
    · cases b with
      | true => exact List.mem_filter.mpr ⟨h, by simpa using nq⟩
      | false =>
        show upd B.H0 p o q = none
        rw [upd_ne nq]; exact h
    · have na : a ≠ p := fun z => by
        obtain ⟨u, x1, y1, y2, y3⟩ := s.es.at_ i _ e
        cases c with
        | l ds => cases ha
        | f a' C m pw ds =>
          cases ha
          obtain ⟨_, dx, vn, vp, vs', z1, _⟩ := y3
          rw [z, hp] at z1
          exact hno _ _ _ (Option.some.inj z1)
      rcases h' a ha with z | z
      · exact .inl (List.mem_filter.mpr ⟨z, by simpa using na⟩)
      · right
        show upd B.H0 p o a = none
        rw [upd_ne na]; exact z
theorem St8.unwith {K : PySem.W.Frag} {B : Bs} {σ : L2.St} {G G4 H H4 : Hp} {p : Addr} {o : HO} (f : Fr8 B G4 H4) (s : St8 K (B.with_ G4 p o) en σ G H) (hB : B.H0 p = none) : St8 K B en σ G H ∧ NoOwn en p ∧ H p = some o := by
  refine ⟨⟨⟨⟨s.es.fr.up, f.le0.trans s.es.fr.le0, fun a u n e => ?_, fun a n => ?_, fun a n m => ?_⟩, s.es.at_, s.es.one, fun i b q c e => ?_⟩, s.len⟩, fun i b c e => ?_, ?_⟩
  · have ea : a ≠ p := fun z => by rw [z, hB] at e; cases e
    exact s.es.fr.keep a u (fun z => n (List.mem_filter.mp z).1) (by show upd B.H0 p o a = _; rw [upd_ne ea]; exact e)
  · have ea : a ≠ p := fun z => by rw [z] at n; exact n hB
    exact s.es.fr.there a (by show upd B.H0 p o a ≠ _; rw [upd_ne ea]; exact n)
  · have ea : a ≠ p := fun z => by rw [z] at m; exact m hB
    exact s.es.fr.cl a (f.cl a n m) (by show upd B.H0 p o a ≠ _; rw [upd_ne ea]; exact m)
  · obtain ⟨h, h'⟩ := s.es.own i b q c e
    refine ⟨?_, fun a ha => ?_⟩
    · cases b with
      | true => exact (List.mem_filter.mp h).1
      | false =>
        have h : upd B.H0 p o q = none := h
        show B.H0 q = none
        by_cases eq : q = p
        · rw [eq]; exact hB
        · rw [upd_ne eq] at h; exact h
    · rcases h' a ha with z | z
      · exact .inl (List.mem_filter.mp z).1
      · have z : upd B.H0 p o a = none := z
        by_cases eq : a = p
        · rw [eq, upd_same] at z; cases z
        · rw [upd_ne eq] at z; exact .inr z
  · have h := (s.es.own i b p c e).1
    cases b with
    | true => exact absurd (List.mem_filter.mp h).2 (by simp)
    | false =>
      have h : upd B.H0 p o p = none := h
      rw [upd_same] at h; cases h
  · exact s.es.fr.keep p o (fun z => absurd (List.mem_filter.mp z).2 (by simp)) (by show upd B.H0 p o p = _; rw [upd_same])
theorem wipe_set_self {σ : L2.St} {i : Nat} {x : Option V} : wipe ((wipe σ [i]).set i x) [i] = wipe σ [i] := by
  rw [wipe_set (by simp)]
  exact wipe_wipe _ _ fun _ h => h
theorem St8.unset {K : PySem.W.Frag} {B : Bs} {σ : L2.St} {G H : Hp} {i : Nat} {d : D} (s : St8 K B (en.set i (some (.v d))) σ G H) (h : clr en [i] = true) : St8 K B en σ G H := by
  have hh : ∀ (j : Nat) (dv : DV), en[j]? = some (some dv) → (en.set i (some (.v d)))[j]? = some (some dv) := fun j dv e => by
    have nj : i ≠ j := fun z => by
      subst z
      rw [clr_at h (List.mem_singleton.mpr rfl)] at e; cases e
    rw [List.getElem?_set_ne nj]; exact e
  exact ⟨s.es.weak hh, by have := s.len; simpa using this⟩
theorem St8.mutD {K : PySem.W.Frag} {B : Bs} {σ : L2.St} {G H : Hp} {p : Addr} {o : HO} (s : St8 K B en σ G H) (hB : B.H0 p = none) (no : NoOwn en p) (gp : G p = none) (hnl : ∀ C dx fs, H p ≠ some (.ins C dx fs)) : St8 K B en σ G (upd H p o) := by
  refine ⟨⟨⟨⟨fun a u pu ru => ?_, fun a n => ?_⟩, s.es.fr.le0, fun a u n eu => ?_, fun a n => ?_, s.es.fr.cl⟩, fun j dv ej => ?_, s.es.one, s.es.own⟩, s.len⟩
  · have na : a ≠ p := fun z => by
      subst z
      rcases ru with z | ⟨_, z⟩ <;> (rw [gp] at z; cases z)
    rcases s.es.fr.up.le a u pu ru with z | ⟨x, z⟩
    · exact .inl (by rw [upd_ne na]; exact z)
    · exact .inr ⟨x, by rw [upd_ne na]; exact z⟩
  · by_cases z : a = p
    · rw [z]; exact gp
    · rw [upd_ne z] at n; exact s.es.fr.up.kn a n
  · have na : a ≠ p := fun z => by rw [z, hB] at eu; cases eu
    rw [upd_ne na]; exact s.es.fr.keep a u n eu
  · by_cases z : a = p
    · rw [z, upd_same]; intro y; cases y
    · rw [upd_ne z]; exact s.es.fr.there a n
  · obtain ⟨u, x, y⟩ := s.es.at_ j dv ej
    refine ⟨u, x, ?_⟩
    cases dv with
    | v d => exact y
    | o b2 q c2 =>
      obtain ⟨y1, y2, y3⟩ := y
      exact ⟨y1, y2, y3.other (fun z => by subst z; exact no j b2 c2 ej) hnl⟩
theorem xnv_lc {i : Nat} {x : Str} {p : Pos} {it elt : Expr} {scope : Scope} {mi : R (List D)} {c0 : γ} {me : γ → D → R (D × γ)} (g : Go X ec W) (hi : XI X W (.Name x p) it en mi) (he : ∀ c d, BV X scope elt ((φ c).set i (some (.v d))) (me c d) (fun c' => (φ c').set i (some (.v d)))) (h0 : φ c0 = en := by rfl) (hblk : BlkOk X.N X.env.scope scope [(x, i)]) (hc : ∀ c, clr (φ c) [i] = true := by intro _; rfl)
    (hN : X.N[i]? = some x := by rfl) (we : Wk0 eE en := by first | exact wk0_nil | exact wk0_refl | assumption | exact Wkn.wk0 (by repeat' first | exact Wkn.nil | apply Wkn.k | apply Wkn.d)) (hx : ∀ (s : Shared) (H0 : Hp) (C : Addr) (cl : List (Str × Addr)) (fp : List Addr), Loc (X.blk s H0 scope (compEnvC scope cl C X.env) fp).env.scope x := by intros; first | exact Or.inl rfl | exact Or.inr rfl)
    (hf : ∀ (s : Shared) (H0 : Hp) (C : Addr) (cl : List (Str × Addr)) (fp : List Addr), (X.blk s H0 scope (compEnvC scope cl C X.env) fp).fn x = true ∨ (X.blk s H0 scope (compEnvC scope cl C X.env) fp).env.scope.names.lookup x = some .local := by intros; first | exact .inl rfl | exact .inr rfl)
    (hs : ∀ x, foldedSetIterable it X.env x = pure x := by intro _; rfl) : XNV X W eE (.ListComp elt [⟨.Name x p, it, [], 0⟩] scope pos) en (mi.bnd fun ds => lcVR me c0 ds) φ := fun B σ G H S Q q => by
  refine pe_to (pe_lc (own := [(x, i)]) g.calm g.nd pi_w hblk (fun s H0 C cl fp => pg_name g.nd hN (hx s H0 C cl fp) (hf s H0 C cl fp)) (fun _ _ _ _ _ => pts_nil) pe_wb hs) ?_
  refine hi σ G H S.sl _ (wp_mono (wp_bnd.mp q) (fun ds hd J G1 H1 w1 wk => ?_) fun _ z G2 H2 w => z σ G2 H2 ((S.grow w).es.weak we))
  have S1 := S.grow w1
  unfold lcVR at hd
  by_cases hln : ds.length ≤ 16000000
  · rw [if_pos hln] at hd
    intro D hD
    have hB := S1.h0 hD
    have hno := S1.noOwn hD
    refine ⟨fun i' m H' => m = ds.length - i' ∧ i' ≤ ds.length ∧ ∃ G' acc dn c, Le G1 G' ∧ St8 X.K B (φ c) σ G' H' ∧ H' D = some (.lst acc) ∧ G' D = none ∧ NoOwn (φ c) D ∧ RpAll X.K G' acc dn ∧ acc.length ≤ i' ∧ Post X W eE B (lcV me c (ds.drop i')) (fun r => ∀ p vs G2 H2, Le G G2 → St8 X.K B (φ r.2) σ G2 H2 → B.H0 p = none → NoOwn (φ r.2) p → G2 p = none → H2 p = some (.lst vs) → RpAll X.K G2 vs (dn ++ r.1) → Q (.ref p) H2),
      ⟨_, rfl, Nat.zero_le _, G1, [], [], c0, Le.refl _, ?_, upd_same, S1.lk.kn D hD, ?_, .nil, Nat.le_refl _, hd⟩, ?_⟩
    · rw [h0]; exact S1.grow (Grow.own S1.lk hD)
    · rw [h0]; exact hno
    · rintro i' m H' ⟨rfl, hi', G', acc, dn, c, l1, S', hA, gA, no, rA, lA, p⟩
      by_cases hlt : i' < ds.length
      · rw [List.drop_eq_getElem_cons hlt] at p
        obtain ⟨go, yl⟩ := wk.go i' ds[i'] (List.getElem?_eq_getElem hlt) G' H' l1 S'.lk
        refine .inr ⟨go, fun H3 => ∃ G3 acc dn c, Le G1 G3 ∧ St8 X.K B (φ c) σ G3 H3 ∧ H3 D = some (.lst acc) ∧ G3 D = none ∧ NoOwn (φ c) D ∧ RpAll X.K G3 acc dn ∧ acc.length ≤ i' + 1 ∧ Post X W eE B (lcV me c (ds.drop (i' + 1))) (fun r => ∀ p vs G2 H2, Le G G2 → St8 X.K B (φ r.2) σ G2 H2 → B.H0 p = none → NoOwn (φ r.2) p → G2 p = none → H2 p = some (.lst vs) → RpAll X.K G2 vs (dn ++ r.1) → Q (.ref p) H2),
          fun H3 ⟨G3, acc, dn, c, h⟩ => ⟨ds.length - (i' + 1), by omega, rfl, hlt, G3, acc, dn, c, h⟩, fun xv H4 y => ?_⟩
        obtain ⟨G4, w4, r4⟩ := yl xv H4 y
        have hA4 : H4 D = some (.lst acc) := w4.h _ _ hA
        have gA4 : G4 D = none := w4.cl D gA (by rw [hA]; intro z; cases z)
        have S6 := ((S'.grow w4).wipe (hc c)).set (i := i) r4
        refine ⟨wipe_set_self, ?_⟩
        show wEb X scope elt _ H4 _
        intro s0 H0' C cl fp
        refine he c ds[i'] s0 H0' C cl fp (B.with_ G4 D (.lst acc)) _ G4 H4 (S6.with_ hA4 gA4 (NoOwn.set no)) _ (wp_mono (wp_noE (wp_bnd.mp p)) (fun r hr v G7 H7 l7 S7 r7 => ?_) fun _ z => z.elim)
        obtain ⟨S8, no8, hA7⟩ := S7.unwith (S'.es.fr.grow w4) hB
        have gA7 : G7 D = none := S7.es.fr.cl D gA4 (by show upd B.H0 D _ D ≠ none; rw [upd_same]; intro z; cases z)
        have S9 : St8 X.K B (φ r.2) σ G7 H7 := by
          have z := (S8.unset (hc r.2)).wipe (hc r.2)
          rw [wipe_set_self] at z
          exact z.unwipe
        have no9 : NoOwn (φ r.2) D := fun j b c e => by
          refine no8 j b c ?_
          have nj : i ≠ j := fun z => by
            subst z
            rw [clr_at (hc r.2) (List.mem_singleton.mpr rfl)] at e; cases e
          show ((φ r.2).set i (some (.v ds[i'])))[j]? = _
          rw [List.getElem?_set_ne nj]
          exact e
        refine ⟨acc, hA7, Nat.lt_of_le_of_lt lA (Nat.lt_of_lt_of_le hlt (size_ok hln)), G7, acc ++ [v], dn ++ [r.1], r.2, l1.trans (w4.g.trans l7), S9.mutD hB no9 gA7 (fun _ _ _ z => by rw [hA7] at z; cases z), upd_same, gA7, no9, (rA.up (w4.g.trans l7)).app (.cons r7 .nil), by rw [List.length_append]; show _ + 1 ≤ _; omega, ?_⟩
        refine wp_mono (wp_bnd.mp hr) (fun s hs p vs G2 H2 a1 a2 a3 a4 a5 a6 a7 => hs p vs G2 H2 a1 a2 a3 a4 a5 a6 ?_) fun _ z => z
        show RpAll X.K G2 vs (dn ++ (r.1 :: s.1))
        have e : dn ++ (r.1 :: s.1) = dn ++ [r.1] ++ s.1 := by simp
        rw [e]; exact a7
      · have ei : i' = ds.length := by omega
        subst ei
        rw [List.drop_length] at p
        have p : ∀ p vs G2 H2, Le G G2 → St8 X.K B (φ c) σ G2 H2 → B.H0 p = none → NoOwn (φ c) p → G2 p = none → H2 p = some (.lst vs) → RpAll X.K G2 vs (dn ++ []) → Q (.ref p) H2 := p
        exact .inl ⟨wk.stop G' H' l1 S'.lk, p D acc G' H' (w1.g.trans l1) S' hB no gA hA (by rw [List.append_nil]; exact rA)⟩
  · rw [if_neg hln] at hd
    exact hd.elim
end
end Wk
set_option maxHeartbeats 4000000
/-! Wk10: forms that a printer writes. -/
namespace Wk
open PySem PySem.Spec PyProof.Rows L2

/-- an error's class as the top has made it -/
structure ErrOk (K : PySem.W.Frag) (mg : Str → Option Value) (x : Str) (C : Addr) : Prop where
  gC : mg x = some (.ref C)
  q : PySem.W.excIn K C [.type "ValueError", .type "Exception", .type "BaseException", .type "object"] "ValueError.__new__" = true
  kC : PySem.W.keepIn K (.ref C) = true
  r1 : PySem.W.subIn K (.ref C) (.type "BaseException") = some true
  r2 : PySem.W.typeIn K (.ref C) = some (.type "type")
section
variable {X : Cx} {W : WN} {eE : En} {en : En} {ec : Nat → Addr} {pos : Pos} {ω : Type} {T : Bs → ω → Ends → Prop} {rest : List Stmt} {a b c : Expr} {ma mb mc : R D}
theorem xp_cI {x : Str} {i : Int} (h : ∃ u, X.mg x = some u ∧ RelV (.int i) u) (hg : Gl X x := by rfl) (hd : (x == ("__debug__" : Str)) = false := by decide) : XP X W (.Name x pos) en (.ok (.int i)) := by
  obtain ⟨u, h1, h2⟩ := h
  exact xp_globI hg h1 h2 hd
theorem xp_cS {x : Str} {i : Str} (h : ∃ u, X.mg x = some u ∧ RelV (.str i) u) (hg : Gl X x := by rfl) (hd : (x == ("__debug__" : Str)) = false := by decide) : XP X W (.Name x pos) en (.ok (.str i)) := by
  obtain ⟨u, h1, h2⟩ := h
  exact xp_globS hg h1 h2 hd
theorem xb_rse {n : Nat} {x m : Str} {j : Nat} {p p2 p3 : Pos} (g : Go X ec W) (h : ErrOk X.K X.mg x (ec n)) (hg : Gl X x := by rfl) (hdb : (x == ("__debug__" : Str)) = false := by decide) (we : Wk0 eE en := by first | exact wk0_nil | exact wk0_refl | assumption | exact Wkn.wk0 (by repeat' first | exact Wkn.nil | apply Wkn.k | apply Wkn.d)) :
    XB X W eE [.Raise (some (.Call (.Name x p) [.Constant (.str m) j p2] [] p3)) none pos] en (.err n : R ω) T := xb_raise g PySem.F.excBase_ValueError h.q h.gC h.kC (raises_own h.r1 h.r2) hg hdb we
/-! and, or as values -/
variable {rs : List Expr}
theorem xp_one {op : BoolOp} (h : XP X W a en ma) : XP X W (.BoolOp op [a] pos) en ma := fun σ G H S Q k => pe_to (pe_one pe_w) (h σ G H S Q k)
theorem xp_and (ha : XP X W a en ma) (hb : XP X W (.BoolOp .And (b :: rs) pos) en mb) : XP X W (.BoolOp .And (a :: b :: rs) pos) en (ma.bnd fun x => (R.of x.bool).bnd fun t => if t = true then mb else .ok (.bl false)) := fun σ G H S Q k => by
  refine pe_to (pe_and pe_w pe_w) (ha σ G H S _ (wp_mono (wp_bnd.mp k) (fun x hx v G1 H1 w1 r1 => ?_) fun _ z => z))
  obtain ⟨t, e, hd⟩ := wp_of (wp_bnd.mp hx)
  cases x <;> cases e
  cases r1
  refine ⟨_, rfl, ?_⟩
  cases t with
  | true => exact hb σ G1 H1 (S.grow w1) Q (wp_mono hd (fun y hy v G2 H2 w2 r2 => hy v G2 H2 (w1.trans w2) r2) fun _ z G2 H2 w => z G2 H2 (w1.trans w))
  | false => exact hd _ G1 H1 w1 (.bl false)
theorem xp_or (ha : XP X W a en ma) (hb : XP X W (.BoolOp .Or (b :: rs) pos) en mb) : XP X W (.BoolOp .Or (a :: b :: rs) pos) en (ma.bnd fun x => (R.of x.bool).bnd fun t => if t = true then .ok (.bl true) else mb) := fun σ G H S Q k => by
  refine pe_to (pe_or pe_w pe_w) (ha σ G H S _ (wp_mono (wp_bnd.mp k) (fun x hx v G1 H1 w1 r1 => ?_) fun _ z => z))
  obtain ⟨t, e, hd⟩ := wp_of (wp_bnd.mp hx)
  cases x <;> cases e
  cases r1
  refine ⟨_, rfl, ?_⟩
  cases t with
  | false => exact hb σ G1 H1 (S.grow w1) Q (wp_mono hd (fun y hy v G2 H2 w2 r2 => hy v G2 H2 (w1.trans w2) r2) fun _ z G2 H2 w => z G2 H2 (w1.trans w))
  | true => exact hd _ G1 H1 w1 (.bl true)
theorem xp_not (ha : XP X W a en ma) : XP X W (.UnaryOp .Not a pos) en (ma.bnd fun x => (R.of x.bool).bnd fun t => .ok (.bl (!t))) := fun σ G H S Q k => by
  refine pe_to (pe_not pe_w) (ha σ G H S _ (wp_mono (wp_bnd.mp k) (fun x hx v G1 H1 w1 r1 => ?_) fun _ z => z))
  obtain ⟨t, e, hd⟩ := wp_of (wp_bnd.mp hx)
  cases x <;> cases e
  cases r1
  exact ⟨_, rfl, hd _ G1 H1 w1 (.bl _)⟩
theorem xp_if {mt : R Bool} (hc : XT X W c en mt) (ha : XP X W a en ma) (hb : XP X W b en mb) : XP X W (.IfExp c a b pos) en (mt.bnd fun t => if t = true then ma else mb) := fun σ G H S Q k => by
  refine pe_to (pe_ifExp pt_w pe_w pe_w) (hc σ G H S _ (wp_mono (wp_bnd.mp k) (fun t ht G1 H1 w1 => ?_) fun _ z => z))
  cases t with
  | true => exact ha σ G1 H1 (S.grow w1) Q (wp_mono ht (fun y hy v G2 H2 w2 r2 => hy v G2 H2 (w1.trans w2) r2) fun _ z G2 H2 w => z G2 H2 (w1.trans w))
  | false => exact hb σ G1 H1 (S.grow w1) Q (wp_mono ht (fun y hy v G2 H2 w2 r2 => hy v G2 H2 (w1.trans w2) r2) fun _ z G2 H2 w => z G2 H2 (w1.trans w))
/-! isinstance -/
def D.ty : D → Option String
  | .non => some "NoneType"
  | .bl _ => some "bool"
  | .int _ => some "int"
  | .str _ => some "str"
  | .lst _ => some "list"
  | .tup _ => some "tuple"
  | .dK _ _ => some "dict"
  | .dT _ _ => none
  | .exc _ => none
  | .frl _ => none
  | .tux _ => some "tuple"
  | .ob _ _ _ _ => none
def D.isT (n : String) (d : D) : Option D := d.ty.bind fun t => (kitB t n).map .bl
theorem ty_rp {K : PySem.W.Frag} {G H : Hp} (l : Lk G H) {v : V} {d : D} {t : String} (h : d.ty = some t) (r : Rp K G v d) : TyX K H v (.type t) := by
  cases d <;> cases h
  · cases r; exact .base .non
  · cases r; exact .base (.bl _)
  · cases r; exact .base (.int _)
  · cases r; exact .base (.str _)
  · cases r with
    | lst h1 r1 =>
      rcases l.le _ _ rfl h1 with z | ⟨o, z⟩
      · exact .base (.lst z)
      · exact .base (.frz z)
  · cases r with
    | tup h1 r1 =>
      rcases h1 with h1 | ⟨o, its, n, e1, e2, e3⟩
      · rcases l.le _ _ rfl h1 with z | ⟨o, z⟩
        · exact .base (.tup z)
        · exact .fTuple z
      · exact .kTuple e1 e2
  · cases r with
    | dK h1 e1 e2 e3 r1 =>
      rcases l.le _ _ rfl h1 with z | ⟨o, z⟩
      · exact .base (.dK z)
      · exact .fDict z
  · cases r with
    | tux h1 r1 =>
      rcases l.le _ _ rfl h1.1 with z | ⟨o, z⟩
      · exact .base (.tup z)
      · exact .fTuple z
theorem xp_isT {p p2 : Pos} {n : String} {y : Str} (hm : X.mg "isinstance" = none) (hm2 : X.mg y = none) (hv : bootBuiltins y = some (.type n)) (ha : XP X W a en ma) (hg : Gl X "isinstance" := by rfl) (hg2 : Gl X y := by rfl) (hn : y ≠ "__name__" := by decide) (hd : (y == ("__debug__" : Str)) = false := by decide)
    (h1 : starEach [a, .Name y p2] X.env = (false, eval a X.env) :: starEach [.Name y p2] X.env := by rfl) (h2 : starEach [.Name y p2] X.env = (false, eval (.Name y p2) X.env) :: starEach [] X.env := by rfl) (h3 : (backTo pos (starEach [.Name y p2] X.env)).any (·.1) = false := by rfl) :
    XP X W (.Call (.Name "isinstance" p) [a, .Name y p2] [] pos) en (ma.bnd fun d => R.of (d.isT n)) := fun σ G H S Q k => by
  refine pe_to (pe_callB call_isi hg hm (by decide +kernel) (pa_cons pe_w (pa_cons (pe_bltn (v := .ty n) hg2 hm2 hv rfl hn hd) pa_nil h2) h1) (by decide) (by decide) h1 h3) (ha σ G H S _ (wp_mono (wp_bnd.mp k) (fun d hd v G1 H1 w1 r1 => ?_) fun _ z => z))
  obtain ⟨e, he, hd⟩ := wp_of hd
  unfold D.isT at he
  obtain ⟨t, e1, e2⟩ := Option.bind_eq_some_iff.mp he
  obtain ⟨b, e3, rfl⟩ := Option.map_eq_some_iff.mp e2
  exact ⟨v, .ty n, .type t, .type n, b, rfl, .ty n, ty_rp w1.up e1 r1, kit_ty e3, hd _ G1 H1 w1 (.bl b)⟩
/-! all, any, sum of lists -/
def bools : List D → Option (List Bool)
  | [] => some []
  | d :: ds => d.bool.bind fun b => (bools ds).map fun bs => b :: bs
def intsD : List D → Option (List Int)
  | [] => some []
  | d :: ds => d.toI.bind fun b => (intsD ds).map fun bs => b :: bs
theorem bools_rp {K : PySem.W.Frag} {G : Hp} : ∀ {ds : List D} {vs : List V} {bs : List Bool}, bools ds = some bs → RpAll K G vs ds → vs = bs.map V.bl
  | [], _, _, e, h => by cases e; cases h; rfl
  | d :: ds, _, _, e, h => by
    simp only [bools, Option.bind_eq_some_iff, Option.map_eq_some_iff] at e
    obtain ⟨b, e1, bs, e2, rfl⟩ := e
    cases h with
    | cons a c =>
      cases d <;> cases e1
      cases a
      rw [bools_rp e2 c]; rfl
theorem ints_rp {K : PySem.W.Frag} {G : Hp} : ∀ {ds : List D} {vs : List V} {bs : List Int}, intsD ds = some bs → RpAll K G vs ds → vs = bs.map V.int
  | [], _, _, e, h => by cases e; cases h; rfl
  | d :: ds, _, _, e, h => by
    simp only [intsD, Option.bind_eq_some_iff, Option.map_eq_some_iff] at e
    obtain ⟨b, e1, bs, e2, rfl⟩ := e
    cases h with
    | cons a c =>
      cases d <;> cases e1
      cases a
      rw [ints_rp e2 c]; rfl
def D.all_ : List D → Option D
  | [.lst xs] => (bools xs).map fun bs => .bl (bs.all id)
  | _ => none
def D.any_ : List D → Option D
  | [.lst xs] => (bools xs).map fun bs => .bl (bs.any id)
  | _ => none
def D.sum_ : List D → Option D
  | [.lst xs] => (intsD xs).map fun bs => .int bs.sum
  | _ => none
theorem d_all {K : PySem.W.Frag} : CallD K (rAll K) D.all_ := fun G H xs ds d l r e Q q => by
  unfold D.all_ at e
  split at e
  · obtain ⟨bs, e1, rfl⟩ := Option.map_eq_some_iff.mp e
    cases r with
    | cons a b =>
      cases b
      cases a with
      | lst h1 r1 =>
        have := bools_rp e1 r1
        subst this
        exact ⟨_, bs, rfl, .inl (l.le _ _ rfl h1), keepQ l q (.bl _)⟩
  · cases e
theorem d_any {K : PySem.W.Frag} : CallD K (rAny K) D.any_ := fun G H xs ds d l r e Q q => by
  unfold D.any_ at e
  split at e
  · obtain ⟨bs, e1, rfl⟩ := Option.map_eq_some_iff.mp e
    cases r with
    | cons a b =>
      cases b
      cases a with
      | lst h1 r1 =>
        have := bools_rp e1 r1
        subst this
        exact ⟨_, bs, rfl, .inl (l.le _ _ rfl h1), keepQ l q (.bl _)⟩
  · cases e
theorem d_sum {K : PySem.W.Frag} : CallD K (rSum K) D.sum_ := fun G H xs ds d l r e Q q => by
  unfold D.sum_ at e
  split at e
  · obtain ⟨bs, e1, rfl⟩ := Option.map_eq_some_iff.mp e
    cases r with
    | cons a b =>
      cases b
      cases a with
      | lst h1 r1 =>
        have := ints_rp e1 r1
        subst this
        exact ⟨_, bs, rfl, .inl (l.le _ _ rfl h1), keepQ l q (.int _)⟩
  · cases e
end
end Wk
set_option maxHeartbeats 4000000
/-! Wk11: the rest of the forms that the printer writes. -/
namespace Wk
open PySem PySem.Spec PyProof.Rows L2

section
variable {ω : Type}
theorem lnA1 {f : D → R ω} : ∀ ds P E, wp (ap1 f ds) P E → ds.length = 1
  | [_], _, _, _ => rfl
  | [], _, _, h => h.elim
  | _ :: _ :: _, _, _, h => h.elim
theorem lnA2 {f : D → D → R ω} : ∀ ds P E, wp (ap2 f ds) P E → ds.length = 2
  | [_, _], _, _, _ => rfl
  | [], _, _, h => h.elim
  | [_], _, _, h => h.elim
  | _ :: _ :: _ :: _, _, _, h => h.elim
theorem lnA3 {f : D → D → D → R ω} : ∀ ds P E, wp (ap3 f ds) P E → ds.length = 3
  | [_, _, _], _, _, _ => rfl
  | [], _, _, h => h.elim
  | [_], _, _, h => h.elim
  | [_, _], _, _, h => h.elim
  | _ :: _ :: _ :: _ :: _, _, _, h => h.elim
theorem lnA4 {f : D → D → D → D → R ω} : ∀ ds P E, wp (ap4 f ds) P E → ds.length = 4
  | [_, _, _, _], _, _, _ => rfl
  | [], _, _, h => h.elim
  | [_], _, _, h => h.elim
  | [_, _], _, _, h => h.elim
  | [_, _, _], _, _, h => h.elim
  | _ :: _ :: _ :: _ :: _ :: _, _, _, h => h.elim
def apI0 (f : List D → R ω) : List D → List D → R ω := fun c ds => ap0 (f c) ds
def apI1 (f : List D → D → R ω) : List D → List D → R ω := fun c ds => ap1 (f c) ds
def apI2 (f : List D → D → D → R ω) : List D → List D → R ω := fun c ds => ap2 (f c) ds
def apI3 (f : List D → D → D → D → R ω) : List D → List D → R ω := fun c ds => ap3 (f c) ds
def apI4 (f : List D → D → D → D → D → R ω) : List D → List D → R ω := fun c ds => ap4 (f c) ds
theorem lnI1 {f : List D → D → R ω} : ∀ c ds P E, wp (apI1 f c ds) P E → ds.length = 1 := fun c => lnA1
theorem lnI2 {f : List D → D → D → R ω} : ∀ c ds P E, wp (apI2 f c ds) P E → ds.length = 2 := fun c => lnA2
theorem lnI3 {f : List D → D → D → D → R ω} : ∀ c ds P E, wp (apI3 f c ds) P E → ds.length = 3 := fun c => lnA3
theorem lnI4 {f : List D → D → D → D → D → R ω} : ∀ c ds P E, wp (apI4 f c ds) P E → ds.length = 4 := fun c => lnA4
end
section
variable {K : PySem.W.Frag} {ec : Nat → Addr} {vs : List V} {H : Hp} {Q : VK} {E : XK}
theorem spR_imp {ω : Type} {Rr : Hp → ω → V → Hp → Hp → Prop} {n : Nat} {f f' : List D → R ω} (h : ∀ ds, f ds = f' ds) : ∀ vs H Q E, spR K ec Rr n f' vs H Q E → spR K ec Rr n f vs H Q E := fun vs H Q E s => by
  obtain ⟨G, ds, a, b, c, d⟩ := s
  exact ⟨G, ds, a, b, c, by rw [h]; exact d⟩
theorem spN_imp1 {f : D → R Unit} : ∀ vs H Q E, spR K ec (rP K) 1 (ap1 fun a => (f a).bnd fun _ => .ok .non) vs H Q E → spR K ec (rP K) 1 (fun ds => (ap1 f ds).bnd fun _ => .ok .non) vs H Q E :=
  spR_imp fun ds => by cases ds with | nil => rfl | cons a t => cases t <;> rfl
theorem spN_imp2 {f : D → D → R Unit} : ∀ vs H Q E, spR K ec (rP K) 2 (ap2 fun a b => (f a b).bnd fun _ => .ok .non) vs H Q E → spR K ec (rP K) 2 (fun ds => (ap2 f ds).bnd fun _ => .ok .non) vs H Q E :=
  spR_imp fun ds => by
    match ds with
    | [] => rfl
    | [_] => rfl
    | [_, _] => rfl
    | _ :: _ :: _ :: _ => rfl
theorem spN_imp3 {f : D → D → D → R Unit} : ∀ vs H Q E, spR K ec (rP K) 3 (ap3 fun a b c => (f a b c).bnd fun _ => .ok .non) vs H Q E → spR K ec (rP K) 3 (fun ds => (ap3 f ds).bnd fun _ => .ok .non) vs H Q E :=
  spR_imp fun ds => by
    match ds with
    | [] => rfl
    | [_] => rfl
    | [_, _] => rfl
    | [_, _, _] => rfl
    | _ :: _ :: _ :: _ :: _ => rfl
end
section
variable {X : Cx} {W : WN} {eE : En} {en : En} {ec : Nat → Addr} {pos : Pos} {γ δ ω : Type} {φ : γ → En} {ψ : δ → En} {a b c e : Expr} {es : List Expr} {T : Bs → ω → Ends → Prop} {rest : List Stmt}
/-- the contents, in another shape -/
theorem xv_gam {χ : γ → En} {ψ : δ → En} {m : R (D × δ)} (f : δ → γ) (h : XV X W eE e en m ψ) (hq : ∀ c, ψ c = χ (f c) := by intro _; rfl) : XV X W eE e en (m.bnd2 fun d c => .ok (d, f c)) χ := fun B σ G H S Q k =>
  h B σ G H S Q (wp_mono (wp_bnd.mp k) (fun r hr v G2 H2 l S2 rr => hr v G2 H2 l (by show St8 X.K B (χ (f r.2)) _ _ _; rw [← hq]; exact S2) rr) fun _ z => z)
theorem xb_drop {m : R D} {k : R ω} (h : XP X W e en m) (hk : XB X W eE rest en k T) (we : Wk0 eE en := by first | exact wk0_nil | exact wk0_refl | assumption | exact Wkn.wk0 (by repeat' first | exact Wkn.nil | apply Wkn.k | apply Wkn.d)) (hs : swapsWith e none pos.line X.env = pure false := by first | exact swaps_no rfl | exact swapsS_no rfl | rfl) : XB X W eE (.Expr e pos :: rest) en (m.bnd fun _ => k) T := fun B σ G H S D q =>
  pss_to (pss_cons (ps_expr pe_w hs) pss_w) (xp_run h S we (wp_mono (wp_bnd.mp q) (fun d hd v G2 H2 l S2 r => hk B σ G2 H2 S2 D hd) fun _ z => z))
theorem xb_dropV {m : R (D × γ)} {k : γ → R ω} (h : XV X W eE e en m φ) (hk : ∀ c, XB X W eE rest (φ c) (k c) T) (hs : swapsWith e none pos.line X.env = pure false := by first | exact swaps_no rfl | exact swapsS_no rfl | rfl) : XB X W eE (.Expr e pos :: rest) en (m.bnd2 fun _ c => k c) T := fun B σ G H S D q =>
  pss_to (pss_cons (ps_expr pe_w hs) pss_w) (h B σ G H S _ (wp_mono (wp_bnd.mp q) (fun d hd v G2 H2 l S2 r => hk d.2 B σ G2 H2 S2 D hd) fun _ z => z))
theorem GrowX.new {p : Addr} {G H G1 H1 G2 H2 : Hp} (a : Grow G H G1 H1) (h : H p = none) (b : GrowX p G1 H1 G2 H2) : Grow G H G2 H2 :=
  ⟨a.g.trans b.g, b.up, fun x o e => b.h x o (fun z => by rw [z, h] at e; cases e) (a.h x o e), fun x n m => b.cl x (a.cl x n m) (ne_of_ne a.h m)⟩
/-- f(e, ..), e a new list that f may change -/
theorem xp_ioT {x : Str} {p : Pos} {k n : Nat} {f : Addr} {fd : FuncData} {ps : List Str} {fm : List D → List D → R (D × List D)} {mn ms : R (List D)} (g : Go X ec W) (F : FnOk X.prog X.w X.K X.mg X.base (L2.CX X.prog X.w) k f fd ps (spIO X.K ec n fm)) (hr : Room k X.A) (hm : X.mg x = some (.ref f)) (hk : PySem.W.keepIn X.K (.ref f) = true) (hb : Binds X.K fd ps [])
    (hn : XN X W e en mn) (ha : XA X W es en ms) (hln : ∀ c ds P E, wp (fm c ds) P E → ds.length = n) (hg : Gl X x := by rfl) (hdb : (x == ("__debug__" : Str)) = false := by decide) (h1 : starEach (e :: es) X.env = (false, eval e X.env) :: starEach es X.env := by rfl) (h2 : (backTo pos (starEach es X.env)).any (·.1) = false := by rfl) :
    XP X W (.Call (.Name x p) (e :: es) [] pos) en (mn.bnd fun c => ms.bnd fun ds => (fm c ds).bnd2 fun o _ => .ok o) := fun σ G H S Q h => by
  refine pe_to (pe_callS F hr hg hm hk hb (fun σ => passAt g.tk σ) (pa_cons pe_w pa_w h1) hdb h1 h2) (hn σ G H S _ (wp_mono (wp_bnd.mp h) (fun c hc q us G1 H1 w1 hq gq eq r1 => ?_) fun _ z => z))
  refine ha σ G1 H1 (S.grow w1) _ ?_
  have h' := wp_bnd.mp hc
  cases em : ms with
  | ok ds =>
    rw [em] at h'
    refine fun vs G2 H2 w2 r2 => ⟨G2, q, vs, us, c, ds, w2.up, rfl, w2.cl q gq (by rw [eq]; intro z; cases z), w2.h q _ eq, r1.up w2.g, r2, hln _ _ _ _ (wp_bnd.mp h'), wp_mono (wp_bnd.mp h') (fun o ho v us' G3 H3 w3 r3 h3 ru3 => ?_) fun c hc G3 H3 w3 => ⟨c, rfl, rfl, hc G3 H3 (GrowX.new (w1.trans w2) hq w3)⟩⟩
    exact ho v G3 H3 (GrowX.new (w1.trans w2) hq w3) r3
  | err c => rw [em] at h'; exact fun G2 H2 w => h' G2 H2 (w1.trans w)
  | bad => rw [em] at h'; exact h'.elim
def two_ : List D → Option (D × D)
  | [x, y] => some (x, y)
  | _ => none
def bP2 {ω : Type} (ms : R (List D)) (k : D → D → R ω) : R ω := ms.bnd fun ds => (R.of (two_ ds)).bnd fun q => k q.1 q.2
theorem xb_par {i j : Nat} {x y : Str} {px py pt : Pos} {kt k2 : Nat} {pt2 : Pos} {ms : R (List D)} {k : D → D → R ω} (g : Go X ec W) (φ : D → D → En) (h : XA X W [a, b] en ms) (hk : ∀ d d', XB X W eE rest (φ d d') (k d d') T) (hi : X.N[i]? = some x := by rfl) (hj : X.N[j]? = some y := by rfl) (hij : i ≠ j := by decide) (hφ : ∀ d d', (en.set i (some (.v d))).set j (some (.v d')) = φ d d' := by intro _ _; rfl) (we : Wk0 eE en := by first | exact wk0_nil | exact wk0_refl | assumption | exact Wkn.wk0 (by repeat' first | exact Wkn.nil | apply Wkn.k | apply Wkn.d))
    (hp : ∀ ta, PA X [a, b] ta → PS X (.Assign [.Tuple [.Name x px, .Name y py] kt pt] (.Tuple [a, b] k2 pt2) pos) (tPar i j ta) := by intro _ hp; exact ps_par rfl (by assumption) rfl rfl (by decide) rfl rfl hp (by rfl)) : XB X W eE (.Assign [.Tuple [.Name x px, .Name y py] kt pt] (.Tuple [a, b] k2 pt2) pos :: rest) en (bP2 ms k) T := fun B σ G H S D q => by
  refine pss_to (pss_cons (hp _ pa_w) pss_w) (h σ G H S.sl _ (wp_mono (wp_bnd.mp q) (fun ds hd vs G2 H2 w r => ?_) fun c hc G2 H2 w => hc σ G2 H2 ((S.grow w).es.weak we)))
  obtain ⟨(z : Wk.D × Wk.D), e1, hd⟩ := wp_of (wp_bnd.mp hd)
  unfold two_ at e1
  split at e1
  · cases e1
    cases r with
    | cons r1 r =>
      cases r with
      | cons r2 r =>
        cases r
        refine ⟨_, _, rfl, ?_⟩
        have S2 := ((S.grow w).set (i := i) r1).set (i := j) r2
        rw [hφ] at S2
        exact hk _ _ B _ G2 H2 S2 D hd
  · cases e1
theorem xs_for2 {i j : Nat} {x y : Str} {p p' p2 : Pos} {k : Nat} {it : Expr} {body : List Stmt} {α : Type} {L : α → En → Prop} {step : α → D → D → R α} {mi : R (List D)} {a0 : α} {e0 : En} (g : Go X ec W) (hi : XI X W (.Tuple [.Name x p, .Name y p'] k p2) it en mi) (h0 : L a0 e0) (w0 : Wkn e0 en)
    (hb : ∀ a e d d', L a e → XB X W eE body ((e.set i (some (.v d))).set j (some (.v d'))) (step a d d') (TN X.K L)) (hN : X.N[i]? = some x := by rfl) (hN' : X.N[j]? = some y := by rfl) (hx : Loc X.env.scope x := by first | exact Or.inl rfl | exact Or.inr rfl) (hx' : Loc X.env.scope y := by first | exact Or.inl rfl | exact Or.inr rfl)
    (we : Wk0 eE en := by first | exact wk0_nil | exact wk0_refl | assumption | exact Wkn.wk0 (by repeat' first | exact Wkn.nil | apply Wkn.k | apply Wkn.d)) (hs : ∀ x, foldedSetIterable it X.env x = pure x := by intro _; rfl) (hf : X.fn x = true ∨ X.env.scope.names.lookup x = some .local := by first | exact .inl rfl | exact .inr rfl) (hf' : X.fn y = true ∨ X.env.scope.names.lookup y = some .local := by first | exact .inl rfl | exact .inr rfl)
    (hn : (assignEach [.Name x p, .Name y p'] X.env).length = 2 := by rfl) (hst : (assignEach [.Name x p, .Name y p'] X.env).findIdx? (·.1) = none := by rfl)
    (h1 : (assignEach [.Name x p, .Name y p'] X.env).map (·.2) = assign (.Name x p) X.env :: (assignEach [.Name y p'] X.env).map (·.2) := by rfl) (h2 : (assignEach [.Name y p'] X.env).map (·.2) = assign (.Name y p') X.env :: (assignEach [] X.env).map (·.2) := by rfl) :
    XS X W eE (.For (.Tuple [.Name x p, .Name y p'] k p2) it body [] pos) en (mi.bnd fun ds => foldR (fun a d => (R.of d.two).bnd fun q => step a q.1 q.2) a0 ds) (TN X.K L) := fun B σ G H S D q => by
  refine xs_for2O (β := Empty) (Rr := fun _ _ _ _ _ => False) (step := fun a d d' => (step a d d').bnd fun a' => .ok (.nx a')) g hi h0 w0 (fun a e d d' hL B σ G H S D q => hb a e d d' hL B σ G H S D (wp_mono (wp_bnd.mp q) (fun _ z => z) fun _ z => z)) hN hN' hx hx' we hs hf hf' hn hst h1 h2 B σ G H S D ?_
  refine wp_bnd.mpr (wp_mono (wp_bnd.mp q) (fun ds hd => ?_) fun _ z => z)
  have e := fold_loop (β := Empty) (step := fun a d => (R.of d.two).bnd fun q => step a q.1 q.2) ds a0
  simp only [bnd_assoc] at e
  rw [e]
  exact wp_bnd.mpr hd
end
end Wk
set_option maxHeartbeats 4000000
/-! Wk12: the law's own call. -/
namespace Wk
open PySem PySem.Spec PyProof.Rows L2
def spScript (K : PySem.W.Frag) : Sp := fun vs H Q _ => ∃ (a : Addr) (ns : List Int), vs = [.ref a] ∧ SqL K H a (ns.map V.int) ∧ ns.length ≤ 63 ∧ ∀ H', Q (.bl true) H'
theorem all_ints {K : PySem.W.Frag} {G : Hp} : ∀ ns : List Int, RpAll K G (ns.map V.int) (ns.map D.int)
  | [] => .nil
  | n :: ns => .cons (.int n) (all_ints ns)
theorem script_imp {K : PySem.W.Frag} {ec : Nat → Addr} {f : D → R D} (hf : ∀ ns : List Int, ns.length ≤ 63 → f (.frl (ns.map D.int)) = .ok (.bl true)) : ∀ vs H Q E, spScript K vs H Q E → spR K ec (rP K) 1 (ap1 f) vs H Q E := fun vs H Q E h => by
  obtain ⟨a, ns, rfl, hS, hl, q⟩ := h
  refine ⟨H, [.frl (ns.map D.int)], ⟨Le.refl _, fun _ h => h⟩, .cons (.frl hS (all_ints ns)) .nil, rfl, ?_⟩
  show wp (f _) _ _
  rw [hf ns hl]
  intro v G2 H2 _ r
  cases r
  exact q H2
end Wk
set_option maxHeartbeats 4000000
/-! Wk13: the mirrors' operations in plain words. -/
namespace Wk
open PySem PySem.Spec PyProof.Rows L2

mutual
/-- data without truth values, of so many layers -/
def D.nb : D → Nat → Bool
  | .int _, _ => true
  | .non, _ => true
  | .str x, _ => PyData.strOk x
  | .lst xs, n + 1 => D.nbs xs n
  | .tup xs, n + 1 => D.nbs xs n
  | _, _ => false
def D.nbs : List D → Nat → Bool
  | [], _ => true
  | x :: xs, n => D.nb x n && D.nbs xs n
end
mutual
theorem nb_py : ∀ (d : D) (n : Nat), d.nb n = true → ∃ p, d.py = some p ∧ p.canLay0 = true ∧ p.depth ≤ n
  | .int i, n, _ => ⟨.int i, rfl, rfl, Nat.zero_le _⟩
  | .non, n, _ => ⟨.none, rfl, rfl, Nat.zero_le _⟩
  | .str x, n, h => ⟨.str x, rfl, by simpa [PyData.canLay0, D.nb] using h, Nat.zero_le _⟩
  | .lst xs, 0, h => by simp [D.nb] at h
  | .lst xs, n + 1, h => by
    obtain ⟨ps, e, a, b⟩ := nbs_py xs n (by simpa [D.nb] using h)
    exact ⟨.list ps, by simp [D.py, e], by simpa [PyData.canLay0] using a, by simpa [PyData.depth] using b⟩
  | .tup xs, 0, h => by simp [D.nb] at h
  | .tup xs, n + 1, h => by
    obtain ⟨ps, e, a, b⟩ := nbs_py xs n (by simpa [D.nb] using h)
    exact ⟨.tuple ps, by simp [D.py, e], by simpa [PyData.canLay0] using a, by simpa [PyData.depth] using b⟩
  | .bl _, n, h => by simp [D.nb] at h
  | .dK _ _, n, h => by simp [D.nb] at h
  | .dT _ _, n, h => by simp [D.nb] at h
  | .exc _, n, h => by simp [D.nb] at h
  | .frl _, n, h => by simp [D.nb] at h
  | .tux _, n, h => by simp [D.nb] at h
  | .ob _ _ _ _, n, h => by simp [D.nb] at h
theorem nbs_py : ∀ (ds : List D) (n : Nat), D.nbs ds n = true → ∃ p, D.pys ds = some p ∧ PyData.canLayAll0 p = true ∧ PyData.depthAll p ≤ n
  | [], n, _ => ⟨[], rfl, rfl, Nat.zero_le _⟩
  | d :: ds, n, h => by
    simp only [D.nbs, Bool.and_eq_true] at h
    obtain ⟨p, e, a, b⟩ := nb_py d n h.1
    obtain ⟨ps, e', a', b'⟩ := nbs_py ds n h.2
    exact ⟨p :: ps, by simp [D.pys, e, e'], by simp [PyData.canLayAll0, a, a'], by simp only [PyData.depthAll]; omega⟩
end
theorem nb_lst {xs : List D} {m : Nat} (h : (D.lst xs).nb m = true) : ∃ k, m = k + 1 ∧ D.nbs xs k = true := by
  cases m with
  | zero => simp [D.nb] at h
  | succ k => exact ⟨k, rfl, by simpa [D.nb] using h⟩
theorem nb_tup {xs : List D} {m : Nat} (h : (D.tup xs).nb m = true) : ∃ k, m = k + 1 ∧ D.nbs xs k = true := by
  cases m with
  | zero => simp [D.nb] at h
  | succ k => exact ⟨k, rfl, by simpa [D.nb] using h⟩
theorem py_lst {xs : List D} {p : PyData} (h : (D.lst xs).py = some p) : ∃ ps, D.pys xs = some ps ∧ p = .list ps := by
  simp only [D.py, Option.map_eq_some_iff] at h
  obtain ⟨ps, a, rfl⟩ := h
  exact ⟨ps, a, rfl⟩
theorem py_tup {xs : List D} {p : PyData} (h : (D.tup xs).py = some p) : ∃ ps, D.pys xs = some ps ∧ p = .tuple ps := by
  simp only [D.py, Option.map_eq_some_iff] at h
  obtain ⟨ps, a, rfl⟩ := h
  exact ⟨ps, a, rfl⟩
theorem nb_hd {e : D} {m : Nat} {q : PyData} (k : e.nb m = true) (b : e.py = some q) : (e = .non ∧ q = .none) ∨ (∃ i, e = .int i ∧ q = .int i) ∨ (∃ x, e = .str x ∧ q = .str x) ∨ (∃ xs j qs, e = .lst xs ∧ D.nbs xs j = true ∧ D.pys xs = some qs ∧ q = .list qs) ∨ ∃ xs j qs, e = .tup xs ∧ D.nbs xs j = true ∧ D.pys xs = some qs ∧ q = .tuple qs := by
  cases e with
  | non => cases b; exact .inl ⟨rfl, rfl⟩
  | int i => cases b; exact .inr (.inl ⟨_, rfl, rfl⟩)
  | str x => cases b; exact .inr (.inr (.inl ⟨_, rfl, rfl⟩))
  | lst xs =>
    obtain ⟨j, _, h⟩ := nb_lst k
    obtain ⟨qs, h2, h3⟩ := py_lst b
    exact .inr (.inr (.inr (.inl ⟨_, j, qs, rfl, h, h2, h3⟩)))
  | tup xs =>
    obtain ⟨j, _, h⟩ := nb_tup k
    obtain ⟨qs, h2, h3⟩ := py_tup b
    exact .inr (.inr (.inr (.inr ⟨_, j, qs, rfl, h, h2, h3⟩)))
  | bl _ => simp [D.nb] at k
  | dK _ _ => simp [D.nb] at k
  | dT _ _ => simp [D.nb] at k
  | exc _ => simp [D.nb] at k
  | frl _ => simp [D.nb] at k
  | tux _ => simp [D.nb] at k
  | ob _ _ _ _ => simp [D.nb] at k
mutual
theorem nb_eqv : ∀ (d e : D) (n m : Nat) (p q : PyData), d.nb n = true → e.nb m = true → d.py = some p → e.py = some q → (PyData.eqv p q = true ↔ d = e)
  | .int i, e, n, m, p, q, h, k, a, b => by
    cases a
    rcases nb_hd k b with ⟨rfl, rfl⟩ | ⟨i, rfl, rfl⟩ | ⟨x, rfl, rfl⟩ | ⟨xs, j, qs, rfl, _, _, rfl⟩ | ⟨xs, j, qs, rfl, _, _, rfl⟩ <;> simp [PyData.eqv]
  | .non, e, n, m, p, q, h, k, a, b => by
    cases a
    rcases nb_hd k b with ⟨rfl, rfl⟩ | ⟨i, rfl, rfl⟩ | ⟨x, rfl, rfl⟩ | ⟨xs, j, qs, rfl, _, _, rfl⟩ | ⟨xs, j, qs, rfl, _, _, rfl⟩ <;> simp [PyData.eqv]
  | .str x, e, n, m, p, q, h, k, a, b => by
    cases a
    rcases nb_hd k b with ⟨rfl, rfl⟩ | ⟨i, rfl, rfl⟩ | ⟨x, rfl, rfl⟩ | ⟨xs, j, qs, rfl, _, _, rfl⟩ | ⟨xs, j, qs, rfl, _, _, rfl⟩ <;> simp [PyData.eqv]
  | .lst xs, e, n, m, p, q, h, k, a, b => by
    obtain ⟨n', _, h⟩ := nb_lst h
    obtain ⟨ps, a', rfl⟩ := py_lst a
    rcases nb_hd k b with ⟨rfl, rfl⟩ | ⟨i, rfl, rfl⟩ | ⟨x, rfl, rfl⟩ | ⟨ys, j, qs, rfl, k', b', rfl⟩ | ⟨ys, j, qs, rfl, _, _, rfl⟩
    · simp [PyData.eqv]
    · simp [PyData.eqv]
    · simp [PyData.eqv]
    · have := nbs_eqv xs ys n' j ps qs h k' a' b'
      simp only [PyData.eqv, D.lst.injEq]
      exact this
    · simp [PyData.eqv]
  | .tup xs, e, n, m, p, q, h, k, a, b => by
    obtain ⟨n', _, h⟩ := nb_tup h
    obtain ⟨ps, a', rfl⟩ := py_tup a
    rcases nb_hd k b with ⟨rfl, rfl⟩ | ⟨i, rfl, rfl⟩ | ⟨x, rfl, rfl⟩ | ⟨ys, j, qs, rfl, _, _, rfl⟩ | ⟨ys, j, qs, rfl, k', b', rfl⟩
    · simp [PyData.eqv]
    · simp [PyData.eqv]
    · simp [PyData.eqv]
    · simp [PyData.eqv]
    · have := nbs_eqv xs ys n' j ps qs h k' a' b'
      simp only [PyData.eqv, D.tup.injEq]
      exact this
  | .bl _, e, n, m, p, q, h, k, a, b => by simp [D.nb] at h
  | .dK _ _, e, n, m, p, q, h, k, a, b => by simp [D.nb] at h
  | .dT _ _, e, n, m, p, q, h, k, a, b => by simp [D.nb] at h
  | .exc _, e, n, m, p, q, h, k, a, b => by simp [D.nb] at h
  | .frl _, e, n, m, p, q, h, k, a, b => by simp [D.nb] at h
  | .tux _, e, n, m, p, q, h, k, a, b => by simp [D.nb] at h
  | .ob _ _ _ _, e, n, m, p, q, h, k, a, b => by simp [D.nb] at h
termination_by d => sizeOf d
theorem nbs_eqv : ∀ (ds es : List D) (n m : Nat) (p q : List PyData), D.nbs ds n = true → D.nbs es m = true → D.pys ds = some p → D.pys es = some q → (PyData.eqvAll p q = true ↔ ds = es)
  | [], [], n, m, p, q, h, k, a, b => by cases a; cases b; simp [PyData.eqvAll]
  | [], e :: es, n, m, p, q, h, k, a, b => by
    cases a
    simp only [D.pys, Option.bind_eq_some_iff, Option.map_eq_some_iff] at b
    obtain ⟨x, _, xs, _, rfl⟩ := b
    simp [PyData.eqvAll]
  | d :: ds, [], n, m, p, q, h, k, a, b => by
    cases b
    simp only [D.pys, Option.bind_eq_some_iff, Option.map_eq_some_iff] at a
    obtain ⟨x, _, xs, _, rfl⟩ := a
    simp [PyData.eqvAll]
  | d :: ds, e :: es, n, m, p, q, h, k, a, b => by
    simp only [D.pys, Option.bind_eq_some_iff, Option.map_eq_some_iff] at a b
    obtain ⟨x, a1, xs, a2, rfl⟩ := a
    obtain ⟨y, b1, ys, b2, rfl⟩ := b
    simp only [D.nbs, Bool.and_eq_true] at h k
    have h1 := nb_eqv d e n m x y h.1 k.1 a1 b1
    have h2 := nbs_eqv ds es n m xs ys h.2 k.2 a2 b2
    simp only [PyData.eqvAll, Bool.and_eq_true, List.cons.injEq, h1, h2]
termination_by ds => sizeOf ds
end
open Classical in
theorem eq_nb {a b : D} (n : Nat) (ha : a.nb n = true) (hb : b.nb n = true) (hn : n ≤ 64) (ht : ∃ xs, a = .tup xs ∨ a = .lst xs) : D.eq a b = some (decide (a = b)) := by
  obtain ⟨p, e1, c1, d1⟩ := nb_py a n ha
  obtain ⟨q, e2, c2, d2⟩ := nb_py b n hb
  have h := nb_eqv a b n n p q ha hb e1 e2
  have hs : SeqAt.shaped p = true := by simp only [SeqAt.shaped, c1, Bool.true_and, decide_eq_true_eq]; omega
  have hs' : SeqAt.shaped q = true := by simp only [SeqAt.shaped, c2, Bool.true_and, decide_eq_true_eq]; omega
  have hv : PyData.eqv p q = decide (a = b) := by
    by_cases c : a = b
    · rw [decide_eq_true c]; exact h.mpr c
    · rw [decide_eq_false c]
      cases z : PyData.eqv p q with
      | true => exact absurd (h.mp z) c
      | false => rfl
  obtain ⟨xs, rfl | rfl⟩ := ht <;>
  · unfold D.eq
    simp only [e1, e2, hs, hs', hv, Option.bind_some, and_self, if_true]
theorem eq_self {a : D} (n : Nat) (ha : a.nb n = true) (hn : n ≤ 64) (ht : ∃ xs, a = .tup xs ∨ a = .lst xs) : D.eq a a = some true := by
  classical
  rw [eq_nb n ha ha hn ht, decide_eq_true rfl]

/-! one behind the other -/
@[simp] theorem as_bb {α β γ : Type} (m : R α) (f : α → R β) (g : β → R γ) : (m.bnd f).bnd g = m.bnd fun x => (f x).bnd g := bnd_assoc m f g
@[simp] theorem as_2b {α β γ δ : Type} (m : R (α × β)) (f : α → β → R γ) (g : γ → R δ) : (m.bnd2 f).bnd g = m.bnd2 fun x y => (f x y).bnd g := bnd_assoc m _ g
@[simp] theorem as_b2 {α β γ δ : Type} (m : R α) (f : α → R (β × γ)) (g : β → γ → R δ) : (m.bnd f).bnd2 g = m.bnd fun x => (f x).bnd2 g := bnd_assoc m f _
@[simp] theorem as_22 {α β γ δ ε : Type} (m : R (α × β)) (f : α → β → R (γ × δ)) (g : γ → δ → R ε) : (m.bnd2 f).bnd2 g = m.bnd2 fun x y => (f x y).bnd2 g := bnd_assoc m _ _
/-! operations -/
@[simp] theorem s_add {i j : Int} : D.addI (.int i) (.int j) = some (.int (i + j)) := by exact id rfl
@[simp] theorem s_sub {i j : Int} : D.sub (.int i) (.int j) = some (.int (i - j)) := by exact id rfl
@[simp] theorem s_neg {i : Int} : D.neg (.int i) = some (.int (-i)) := by exact id rfl
@[simp] theorem s_lt {i j : Int} : D.lt (.int i) (.int j) = some (decide (i < j)) := by exact id rfl
@[simp] theorem s_le {i j : Int} : D.le (.int i) (.int j) = some (decide (i ≤ j)) := by exact id rfl
@[simp] theorem s_gt {i j : Int} : D.gt (.int i) (.int j) = some (decide (j < i)) := by exact id rfl
@[simp] theorem s_ge {i j : Int} : D.ge (.int i) (.int j) = some (decide (j ≤ i)) := by exact id rfl
@[simp] theorem s_eqI {i j : Int} : D.eq (.int i) (.int j) = some (decide (i = j)) := by exact id rfl
@[simp] theorem s_eqS {i j : Str} : D.eq (.str i) (.str j) = some (decide (i = j)) := by exact id rfl
@[simp] theorem s_neI {i j : Int} : D.ne (.int i) (.int j) = some (!decide (i = j)) := by exact id rfl
@[simp] theorem s_bool {b : Bool} : D.bool (.bl b) = some b := by exact id rfl
@[simp] theorem s_seqL {xs : List D} : D.seq (.lst xs) = some xs := by exact id rfl
@[simp] theorem s_seqT {xs : List D} : D.seq (.tup xs) = some xs := by exact id rfl
@[simp] theorem s_ixL {xs : List D} {i : Int} : D.ix (.lst xs) (.int i) = atI xs i := by exact id rfl
@[simp] theorem s_ixT {xs : List D} {i : Int} : D.ix (.tup xs) (.int i) = atI xs i := by exact id rfl
@[simp] theorem s_ixF {xs : List D} {i : Int} : D.ix (.frl xs) (.int i) = atI xs i := by exact id rfl
@[simp] theorem s_lenL {xs : List D} : D.len [.lst xs] = some (.int xs.length) := by exact id rfl
@[simp] theorem s_lenT {xs : List D} : D.len [.tup xs] = some (.int xs.length) := by exact id rfl
@[simp] theorem s_lenF {xs : List D} : D.len [.frl xs] = some (.int xs.length) := by exact id rfl
@[simp] theorem s_abs {i : Int} : D.abs [.int i] = some (.int (if i < 0 then -i else i)) := by exact id rfl
@[simp] theorem s_toIntI {i : Int} : D.toInt [.int i] = some (.int i) := by exact id rfl
@[simp] theorem s_toIntB {i : Bool} : D.toInt [.bl i] = some (.int (if i then 1 else 0)) := by exact id rfl
@[simp] theorem s_tupL {xs : List D} : D.toTup [.lst xs] = some (.tup xs) := by exact id rfl
@[simp] theorem s_tupT {xs : List D} : D.toTup [.tup xs] = some (.tup xs) := by exact id rfl
@[simp] theorem s_lstL {xs : List D} : D.toLst [.lst xs] = some xs := by exact id rfl
@[simp] theorem s_lstT {xs : List D} : D.toLst [.tup xs] = some xs := by exact id rfl
@[simp] theorem s_two {x y : D} : D.two (.tup [x, y]) = some (x, y) := by exact id rfl
@[simp] theorem s_three {x y z : D} : D.three (.tup [x, y, z]) = some (x, y, z) := by exact id rfl
@[simp] theorem s_ap1 {ω : Type} {f : D → R ω} {a : D} : ap1 f [a] = f a := by exact id rfl
@[simp] theorem s_ap2 {ω : Type} {f : D → D → R ω} {a b : D} : ap2 f [a, b] = f a b := by exact id rfl
@[simp] theorem s_ap3 {ω : Type} {f : D → D → D → R ω} {a b c : D} : ap3 f [a, b, c] = f a b c := by exact id rfl
@[simp] theorem s_ap4 {ω : Type} {f : D → D → D → D → R ω} {a b c d : D} : ap4 f [a, b, c, d] = f a b c d := by exact id rfl
@[simp] theorem s_apI1 {ω : Type} {f : List D → D → R ω} {s : List D} {a : D} : apI1 f s [a] = f s a := by exact id rfl
@[simp] theorem s_apI2 {ω : Type} {f : List D → D → D → R ω} {s : List D} {a b : D} : apI2 f s [a, b] = f s a b := by exact id rfl
@[simp] theorem s_apI3 {ω : Type} {f : List D → D → D → D → R ω} {s : List D} {a b c : D} : apI3 f s [a, b, c] = f s a b c := by exact id rfl
@[simp] theorem s_isTI {i : Int} : D.isT "int" (.int i) = some (.bl true) := by exact id rfl
@[simp] theorem s_isTB {i : Int} : D.isT "bool" (.int i) = some (.bl false) := by exact id rfl
@[simp] theorem s_isTT {xs : List D} : D.isT "tuple" (.tup xs) = some (.bl true) := by exact id rfl
@[simp] theorem s_isTL {xs : List D} : D.isT "list" (.lst xs) = some (.bl true) := by exact id rfl
@[simp] theorem s_isTTL {xs : List D} : D.isT "tuple" (.lst xs) = some (.bl false) := by exact id rfl
@[simp] theorem s_isTLT {xs : List D} : D.isT "list" (.tup xs) = some (.bl false) := by exact id rfl
theorem s_mul {i j : Int} (h : -(2 ^ 64) < i ∧ i < 2 ^ 64) : D.mul (.int i) (.int j) = some (.int (i * j)) := by
  show (if _ then _ else _) = _
  rw [if_pos (.inl h)]
theorem s_mulR {i j : Int} (h : -(2 ^ 64) < j ∧ j < 2 ^ 64) : D.mul (.int i) (.int j) = some (.int (i * j)) := by
  show (if _ then _ else _) = _
  rw [if_pos (.inr h)]
theorem s_mod {i j : Int} (h : 0 < j) : D.mod (.int i) (.int j) = some (.int (i % j)) := by
  show (if _ then _ else _) = _
  rw [if_pos h]
theorem s_div {i j : Int} (h : 0 < j) (h2 : j < 1000000000000) : D.div (.int i) (.int j) = some (.int (i / j)) := by
  show (if _ then _ else _) = _
  rw [if_pos]
  have : j.natAbs < 2 ^ 9000 := Nat.lt_of_lt_of_le (show j.natAbs < 2 ^ 40 by omega) (Nat.pow_le_pow_right (by decide) (by decide))
  exact ⟨by omega, (Nat.log2_lt (by omega)).mpr this⟩
theorem s_addT {xs ys : List D} (h : xs.length + ys.length ≤ 16000000) : D.addI (.tup xs) (.tup ys) = some (.tup (xs ++ ys)) := by
  show (if _ then _ else _) = _
  rw [if_pos h]
theorem s_fits {α : Type} {ds : List α} (h : ds.length ≤ 16000000) : fits ds = some ds := if_pos h
@[simp] theorem s_fits0 {α : Type} : fits ([] : List α) = some [] := by exact id rfl
@[simp] theorem s_fits1 {α : Type} {a : α} : fits [a] = some [a] := by exact id rfl
@[simp] theorem s_fits2 {α : Type} {a b : α} : fits [a, b] = some [a, b] := by exact id rfl
@[simp] theorem s_fits3 {α : Type} {a b c : α} : fits [a, b, c] = some [a, b, c] := by exact id rfl
@[simp] theorem s_fits5 {α : Type} {a b c d e : α} : fits [a, b, c, d, e] = some [a, b, c, d, e] := by exact id rfl
@[simp] theorem s_fits4 {α : Type} {a b c d : α} : fits [a, b, c, d] = some [a, b, c, d] := by exact id rfl
theorem s_app {xs : List D} {d : D} (h : xs.length < 16000000) : appD xs d = some (xs ++ [d]) := if_pos h
@[simp] theorem s_bU2 {ω : Type} {x y : D} {k : D → D → R ω} : R.bU2 (.ok (.tup [x, y])) k = k x y := by exact id rfl
@[simp] theorem s_bU3 {ω : Type} {x y z : D} {k : D → D → D → R ω} : R.bU3 (.ok (.tup [x, y, z])) k = k x y z := by exact id rfl
@[simp] theorem s_bP2 {ω : Type} {x y : D} {k : D → D → R ω} : bP2 (.ok [x, y]) k = k x y := by exact id rfl
theorem atI_map {α β : Type} {f : α → β} {xs : List α} {i : Int} : atI (xs.map f) i = (atI xs i).map f := by
  unfold atI
  rw [List.length_map]
  cases ixN xs.length i <;> simp
@[simp] theorem atI_0 {α : Type} {x : α} {xs : List α} : atI (x :: xs) 0 = some x := by
  unfold atI ixN
  have : (0 : Int) < ((x :: xs).length : Int) := by simp only [List.length_cons]; omega
  simp [this]
@[simp] theorem atI_1 {α : Type} {x y : α} {xs : List α} : atI (x :: y :: xs) 1 = some y := by
  unfold atI ixN
  have : (1 : Int) < ((x :: y :: xs).length : Int) := by simp only [List.length_cons]; omega
  rw [if_pos (by decide), if_pos this]
  rfl
theorem atI_k {α : Type} {xs : List α} {k : Nat} {x : α} (h : xs[k]? = some x) : atI xs (k : Int) = some x := by
  have hk : k < xs.length := (List.getElem?_eq_some_iff.mp h).1
  unfold atI ixN
  rw [if_pos (by omega), if_pos (by omega)]
  simpa using h
/-! walks over lists -/
theorem lcM_ok {α : Type} {f : D → R D} {g h : α → D} : ∀ (xs : List α), (∀ x ∈ xs, f (g x) = .ok (h x)) → lcM f (xs.map g) = .ok (xs.map h)
  | [], _ => rfl
  | x :: xs, e => by
    simp only [List.map_cons, lcM, e x (by simp), lcM_ok xs fun y hy => e y (by simp [hy])]
    try rfl
theorem lcR_ok {α : Type} {f : D → R D} {g h : α → D} (xs : List α) (hz : xs.length ≤ 16000000) (e : ∀ x ∈ xs, f (g x) = .ok (h x)) : lcR f (xs.map g) = .ok (xs.map h) := by
  unfold lcR
  rw [if_pos (by rw [List.length_map]; exact hz), lcM_ok xs e]
theorem lcR_id {f : D → R D} {h : D → D} (xs : List D) (hz : xs.length ≤ 16000000) (e : ∀ x ∈ xs, f x = .ok (h x)) : lcR f xs = .ok (xs.map h) := by
  have := lcR_ok (f := f) (g := id) (h := h) xs hz e
  simpa using this
theorem foldR_ok {α β : Type} {step : β → D → R β} {g : α → D} {t : β → α → β} : ∀ (xs : List α) (b : β), (∀ x ∈ xs, ∀ b, step b (g x) = .ok (t b x)) → foldR step b (xs.map g) = .ok (xs.foldl t b)
  | [], _, _ => rfl
  | x :: xs, b, e => by
    show (step b (g x)).bnd _ = _
    rw [e x (by simp), bnd_ok]
    exact foldR_ok xs _ fun y hy b => e y (by simp [hy]) b
/-- with what holds along the way -/
theorem foldR_inv {α β : Type} {step : β → D → R β} {g : α → D} (I : List α → β → Prop) : ∀ (done xs : List α) (b : β), I done b → (∀ done x rest b, I done b → (done ++ x :: rest = done ++ x :: rest) → x ∈ xs → ∃ b', step b (g x) = .ok b' ∧ I (done ++ [x]) b') → ∃ b', foldR step b (xs.map g) = .ok b' ∧ I (done ++ xs) b'
  | done, [], b, h, _ => ⟨b, rfl, by simpa using h⟩
  | done, x :: xs, b, h, e => by
    obtain ⟨b', e1, h1⟩ := e done x xs b h rfl (by simp)
    obtain ⟨b2, e2, h2⟩ := foldR_inv I (done ++ [x]) xs b' h1 fun d y r c hc _ hy => e d y r c hc rfl (by simp [hy])
    refine ⟨b2, ?_, by simpa using h2⟩
    show (step b (g x)).bnd _ = _
    rw [e1, bnd_ok, e2]
/-- comes to something that .. -/
def Is {α : Type} (m : R α) (P : α → Prop) : Prop := ∃ a, m = .ok a ∧ P a
theorem is_ok {α : Type} {a : α} {P : α → Prop} (h : P a) : Is (.ok a) P := ⟨a, rfl, h⟩
theorem is_of {α : Type} {o : Option α} {a : α} {P : α → Prop} (e : o = some a) (h : P a) : Is (R.of o) P := ⟨a, by rw [e]; rfl, h⟩
theorem is_eq {α : Type} {m : R α} {a : α} {P : α → Prop} (e : m = .ok a) (h : P a) : Is m P := ⟨a, e, h⟩
theorem Is.mono {α : Type} {m : R α} {P Q : α → Prop} (h : Is m P) (k : ∀ a, P a → Q a) : Is m Q := by
  obtain ⟨a, e, p⟩ := h
  exact ⟨a, e, k a p⟩
theorem is_bnd {α β : Type} {m : R α} {f : α → R β} {Q : α → Prop} {P : β → Prop} (h : Is m Q) (k : ∀ a, Q a → Is (f a) P) : Is (m.bnd f) P := by
  obtain ⟨a, e, q⟩ := h
  obtain ⟨b, e2, p⟩ := k a q
  exact ⟨b, by rw [e, bnd_ok, e2], p⟩
theorem is_bnd2 {α β γ : Type} {m : R (α × β)} {f : α → β → R γ} {Q : α × β → Prop} {P : γ → Prop} (h : Is m Q) (k : ∀ a b, Q (a, b) → Is (f a b) P) : Is (m.bnd2 f) P := by
  obtain ⟨⟨a, b⟩, e, q⟩ := h
  obtain ⟨c, e2, p⟩ := k a b q
  exact ⟨c, by rw [e, bnd2_ok, e2], p⟩
/-- a walk that makes a list and changes something, what is made told one by one -/
theorem is_lcV {γ : Type} {f : γ → D → R (D × γ)} {I : γ → Prop} {P : D → D → Prop} (hf : ∀ s d, I s → Is (f s d) fun r => P d r.1 ∧ I r.2) : ∀ (ds : List D) (s : γ), I s → Is (lcV f s ds) fun r => r.1.length = ds.length ∧ (∀ z ∈ ds.zip r.1, P z.1 z.2) ∧ I r.2
  | [], s, hs => is_ok ⟨rfl, by simp, hs⟩
  | d :: ds, s, hs => by
    obtain ⟨⟨x, s1⟩, e1, p1, h1⟩ := hf s d hs
    obtain ⟨⟨w, s2⟩, e2, l2, p2, h2⟩ := is_lcV hf ds s1 h1
    refine ⟨(x :: w, s2), by simp [lcV, e1, e2, noE], by simpa using l2, ?_, h2⟩
    intro z hz
    rcases List.mem_cons.mp hz with rfl | hz
    · exact p1
    · exact p2 z hz
theorem is_lcVR {γ : Type} {f : γ → D → R (D × γ)} {ds : List D} {s : γ} (I : γ → Prop) (P : D → D → Prop) (hs : I s) (hl : ds.length ≤ 16000000) (hf : ∀ s d, I s → Is (f s d) fun r => P d r.1 ∧ I r.2) : Is (lcVR f s ds) fun r => r.1.length = ds.length ∧ (∀ z ∈ ds.zip r.1, P z.1 z.2) ∧ I r.2 := by
  unfold lcVR
  rw [if_pos hl]
  exact is_lcV hf ds s hs
theorem of_is {α : Type} {m : R α} {v : α} (h : Is m fun a => a = v) : m = .ok v := by
  obtain ⟨a, e, rfl⟩ := h
  exact e
theorem is_fold {α β : Type} {step : β → D → R β} {g : α → D} (I : List α → β → Prop) {xs : List α} {b : β} (h0 : I [] b) (h : ∀ done x b, x ∈ xs → done.length < xs.length → I done b → Is (step b (g x)) (I (done ++ [x]))) : Is (foldR step b (xs.map g)) (I xs) := by
  have key : ∀ (done rest : List α) (b : β), (∀ x ∈ rest, x ∈ xs) → done.length + rest.length = xs.length → I done b → Is (foldR step b (rest.map g)) (I (done ++ rest)) := by
    intro done rest
    induction rest generalizing done with
    | nil => intro b _ _ h; exact is_ok (by simpa using h)
    | cons x rest ih =>
      intro b hm hl hb
      simp only [List.length_cons] at hl
      refine is_bnd (h done x b (hm x (by simp)) (by omega) hb) fun b' hb' => ?_
      have := ih (done ++ [x]) b' (fun y hy => hm y (by simp [hy])) (by simp; omega) hb'
      simpa using this
  simpa using key [] xs b (fun _ h => h) (by simp) h0
theorem are_ints : ∀ (ds : List D), (∀ d ∈ ds, ∃ i : Int, d = .int i) → ∃ w : List Int, ds = w.map D.int
  | [], _ => ⟨[], rfl⟩
  | d :: ds, h => by
    obtain ⟨i, rfl⟩ := h d (by simp)
    obtain ⟨w, rfl⟩ := are_ints ds fun x hx => h x (by simp [hx])
    exact ⟨i :: w, rfl⟩
theorem zip_all {P : D → Prop} : ∀ {ds es : List D}, es.length = ds.length → (∀ z ∈ ds.zip es, P z.2) → ∀ e ∈ es, P e
  | _, [], _, _, e, he => by simp at he
  | [], e :: es, h, _, _, _ => by simp at h
  | d :: ds, e :: es, h, k, x, hx => by
    rcases List.mem_cons.mp hx with rfl | hx
    · exact k (d, x) (by simp)
    · exact zip_all (by simpa using h) (fun z hz => k z (by simp [hz])) x hx
theorem is_lcVE {γ : Type} {f : γ → D → R (D × γ)} {ds : List D} {s : γ} (I : γ → Prop) (P : D → Prop) (hs : I s) (hl : ds.length ≤ 16000000) (hf : ∀ s, ∀ d ∈ ds, I s → Is (f s d) fun r => P r.1 ∧ I r.2) : Is (lcVR f s ds) fun r => r.1.length = ds.length ∧ (∀ z ∈ r.1, P z) ∧ I r.2 := by
  unfold lcVR
  rw [if_pos hl]
  clear hl
  induction ds generalizing s with
  | nil => exact is_ok ⟨rfl, by simp, hs⟩
  | cons d ds ih =>
    obtain ⟨⟨x, s1⟩, e1, p1, h1⟩ := hf s d (by simp) hs
    obtain ⟨⟨w, s2⟩, e2, l2, p2, h2⟩ := ih h1 (fun s d hd => hf s d (by simp [hd]))
    refine ⟨(x :: w, s2), by simp [lcV, e1, e2, noE], by simpa using l2, ?_, h2⟩
    intro z hz
    rcases List.mem_cons.mp hz with rfl | hz
    · exact p1
    · exact p2 z hz
theorem is_lcVI {γ : Type} {f : γ → D → R (D × γ)} {ds : List D} {s : γ} (I : γ → Prop) (P : Int → Prop) (hs : I s) (hl : ds.length ≤ 16000000) (hf : ∀ s, ∀ d ∈ ds, I s → Is (f s d) fun r => (∃ x : Int, r.1 = .int x ∧ P x) ∧ I r.2) : Is (lcVR f s ds) fun r => ∃ w : List Int, r.1 = w.map .int ∧ w.length = ds.length ∧ (∀ x ∈ w, P x) ∧ I r.2 := by
  refine (is_lcVE I (fun e => ∃ x : Int, e = .int x ∧ P x) hs hl hf).mono fun r ⟨h1, h2, h3⟩ => ?_
  obtain ⟨w, e⟩ := are_ints r.1 fun d hd => let ⟨i, e, _⟩ := h2 d hd; ⟨i, e⟩
  refine ⟨w, e, by rw [← h1, e, List.length_map], fun x hx => ?_, h3⟩
  obtain ⟨i, e2, p⟩ := h2 (.int x) (by rw [e]; exact List.mem_map.mpr ⟨x, hx, rfl⟩)
  cases e2
  exact p
theorem bools_map : ∀ bs : List Bool, bools (bs.map D.bl) = some bs
  | [] => rfl
  | b :: bs => by simp [bools, bools_map bs]
theorem ints_map : ∀ bs : List Int, intsD (bs.map D.int) = some bs
  | [] => rfl
  | b :: bs => by simp [intsD, D.toI, ints_map bs]
@[simp] theorem s_all {bs : List Bool} : D.all_ [.lst (bs.map D.bl)] = some (.bl (bs.all id)) := by simp [D.all_, bools_map]
@[simp] theorem s_any {bs : List Bool} : D.any_ [.lst (bs.map D.bl)] = some (.bl (bs.any id)) := by simp [D.any_, bools_map]
@[simp] theorem s_sum {bs : List Int} : D.sum_ [.lst (bs.map D.int)] = some (.int bs.sum) := by simp [D.sum_, ints_map]
@[simp] theorem s_allR {n : Nat} : D.all_ [.lst (List.replicate n (.bl true))] = some (.bl true) := by
  have := s_all (bs := List.replicate n true)
  simpa using this
theorem nbs_ints : ∀ (w : List Int) (n : Nat), D.nbs (w.map D.int) n = true
  | [], _ => rfl
  | x :: w, n => by simp [D.nbs, D.nb, nbs_ints w n]
theorem s_rg1 {j : Int} (h : 0 ≤ j) (h2 : j < 16000000) : rg1 (.int j) = some ((List.range j.toNat).map fun k => D.int (k : Nat)) := by
  show (if _ then _ else _) = _
  rw [if_pos ⟨by omega, by omega⟩]
  simp [upD]
theorem s_rg2 {i j : Int} (h : -1000000 < i ∧ i < 16000000) (h2 : -1000000 < j ∧ j < 16000000) : rg2 (.int i) (.int j) = some (upD i j) := by
  show (if _ then _ else _) = _
  rw [if_pos ⟨by omega, by omega, by omega, by omega⟩]
end Wk
set_option maxHeartbeats 4000000
/-! Wk14: x[::-1], list(range(..)), tuple(range(..)). -/
namespace Wk
open PySem PySem.Spec PyProof.Rows L2 HT
section
variable {prog : Program} {w : World} {A : Around} {E : Value → Shared → Prop} {s : Shared}
theorem applied_back {sl : Addr} {vl vu vs : Value} {n : Nat} {Q : Int × Int × Nat → Shared → Prop} (hs : s.heap.IsSliceOf sl vl vu vs) (pl : IsPart vl none) (pu : IsPart vu none) (ps : IsPart vs (some (-1)))
    (h : Q ((n : Int) - 1, -1, n) s) : wpAny (model prog w) A (Builtin.Slice.sliceApplied (.ref sl) (pure (n : Int))) Q E s := by
  obtain ⟨os, hos, hcs, hds⟩ := id hs
  unfold Builtin.Slice.sliceApplied Builtin.Slice.sliceFields
  refine wpAny_bind (wpAny_bind (wpAny_field hos hds (x := vl) rfl (wpAny_bind (wpAny_field hos hds (x := vu) rfl (wpAny_bind (wpAny_field hos hds (x := vs) rfl (wpAny_pure ?_)))))))
  refine wpAny_bind (slicePart_ ps ?_)
  show wpAny _ _ (if ((-1 : Int) == 0) = true then _ else _) _ _ s
  rw [if_neg (by decide)]
  refine wpAny_bind (slicePart_ pl (wpAny_bind (slicePart_ pu (wpAny_bind (wpAny_pure ?_)))))
  have e1 : Builtin.Slice.sliceAdjust none none (-1) (n : Int) = ((n : Int) - 1, -1) := by
    unfold Builtin.Slice.sliceAdjust
    simp
  have e2 : Builtin.Slice.slicePlaces ((n : Int) - 1) (-1) (-1) = n := by
    unfold Builtin.Slice.slicePlaces
    simp
    split <;> omega
  show wpAny _ _ (match Builtin.Slice.sliceAdjust none none (-1) (n : Int) with | (lo, hi) => pure (lo, (-1 : Int), Builtin.Slice.slicePlaces lo hi (-1))) _ _ s
  rw [e1]
  show wpAny _ _ (pure ((n : Int) - 1, (-1 : Int), Builtin.Slice.slicePlaces ((n : Int) - 1) (-1) (-1))) _ _ s
  rw [e2]
  exact wpAny_pure h
theorem pick_back (xs : Array Value) : ((List.range xs.size).filterMap fun (m : Nat) => xs[(((xs.size : Int) - 1) + (m : Int) * (-1)).toNat]?).toArray = xs.toList.reverse.toArray := by
  congr 1
  have e : (List.range xs.size).filterMap (fun (m : Nat) => xs[(((xs.size : Int) - 1) + (m : Int) * (-1)).toNat]?) = ((List.range xs.size).map fun k => xs.size - 1 - k).filterMap (xs[·]?) := by
    rw [List.filterMap_map]
    congr 1
    funext m
    show xs[_]? = xs[xs.size - 1 - m]?
    congr 1
    omega
  rw [e, PySem.W.krv_range, List.filterMap_reverse, PySem.W.krv_all]
theorem get_tup_back {t sl : Addr} {items : Array Value} {vl vu vs : Value} {Q : Value → Shared → Prop} (ht : IsTup s.heap t items) (hs : s.heap.IsSliceOf sl vl vu vs) (pl : IsPart vl none) (pu : IsPart vu none) (ps : IsPart vs (some (-1)))
    (h : Q (.ref s.heap.objs.size) { s with heap := s.heap.push { cls := .type "tuple", data := .seq items.toList.reverse.toArray } }) (hsz : items.size ≤ sizeLine) : wpAny (model prog w) A (getItem (.ref t) (.ref sl)) Q E s := by
  have hok : sizeOk (.seq items.toList.reverse.toArray) := by
    show items.toList.reverse.toArray.size ≤ sizeLine
    simpa using hsz
  obtain ⟨os, hos, hcs, hds⟩ := id hs
  have hTs : s.TypeIs (.ref sl) "slice" := ⟨os, hos, hcs⟩
  unfold getItem
  try with_reducible refine wpAny_holding ?_
  first | refine wpAny_bind (wpAny_pure ?_) | skip
  refine wpAny_bind (wpAny_sequenceKey ht.typeIs (by decide) (wpAny_bind (wpAny_callSpecial?_slot (name := Str.ofString "__getitem__") ht.typeIs PyProof.Rows.slot_tuple_getitem
    (wpAny_call_entry PyProof.Rows.slot_tuple_getitem ht.typeIs entry_tuple_getitem ?_ (args_tuple_getitem _ _)))))
  show wpAny _ _ (Builtin.Tuple.tupleItemsOf (.ref t) >>= _) _ _ s
  refine wpAny_bind (tupleItemsOf_ ht (wpAny_bind (wpAny_typeOf hTs ?_)))
  rw [if_pos (by decide)]
  refine wpAny_bind (applied_back hs pl pu ps ?_)
  show wpAny _ _ (if (((items.size : Int) - 1) == 0 && (-1 : Int) == 1 && items.size == items.size) = true then _ else _) _ _ s
  rw [if_neg (by simp), pick_back]
  first
    | exact wpAny_bind (m := Builtin.Tuple.tupleExact _) (wpAny_newObj_type (wpAny_pure ⟨_, rfl, wpAny_pure h⟩) hok)
    | exact wpAny_bind (m := Builtin.Tuple.tupleExact _) (wpAny_newObj_type (wpAny_bind (wpAny_pure (wpAny_pure ⟨_, rfl, wpAny_pure h⟩))) hok)
    | exact wpAny_bind (wpAny_bind (m := Builtin.Tuple.tupleExact _) (wpAny_newObj_type (wpAny_pure (wpAny_pure ⟨_, rfl, wpAny_pure h⟩)) hok))
    | exact wpAny_bind (wpAny_bind (m := Builtin.Tuple.tupleExact _) (wpAny_newObj_type (wpAny_pure ⟨_, rfl, wpAny_pure h⟩) hok))
end
section
variable {X : Cx} {W : WN} {eE : En} {en : En} {ec : Nat → Addr} {pos : Pos} {γ δ ω : Type} {φ : γ → En} {a b c e : Expr} {es : List Expr} {T : Bs → ω → Ends → Prop} {rest : List Stmt} {ma mb m : R D}
/-- t[::-1] -/
def tBackT (K : PySem.W.Frag) (te : TE) : TE := fun σ H Q => te σ H fun x H1 => ∃ a xs, x = .ref a ∧ SqT K H1 a xs ∧ ∀ p, H1 p = none → Q (.ref p) (upd H1 p (.tup xs.reverse))
theorem pe_backT {te : TE} {k : Nat} {p1 p2 p3 : Pos} (he : PE X e te) : PE X (.Subscript e (.Slice none none (some (.UnaryOp .USub (.Constant (.int 1) k p1) p2)) p3) pos) (tBackT X.K te) := by
  refine ⟨fun pins s σ H Q I h => Subscript_ (thn (he.run pins s σ H _ I h) fun v s1 ⟨x, H1, I1, r1, a, xs, ex, hx, q⟩ => ?_)⟩
  subst ex
  cases r1
  have hst : PO X (some (.UnaryOp .USub (.Constant (.int 1) k p1) p2)) (tPart (tUn (rU fun i => .int (-i)) (tC (.int 1)))) := po_some (pe_un un_neg pe_int)
  refine wpAny_Slice (thn (po_none.run pins s1 σ H1 (fun o H2 => o = none ∧ H2 = H1) I1 ⟨rfl, rfl⟩) fun vl s2 ⟨l, H2, I2, pl, el, e2⟩ => ?_)
  subst el e2
  refine thn (po_none.run pins s2 σ H2 (fun o H3 => o = none ∧ H3 = H2) I2 ⟨rfl, rfl⟩) fun vu s3 ⟨u, H3, I3, pu, eu, e3⟩ => ?_
  subst eu e3
  refine thn (hst.run pins s3 σ H3 (fun o H4 => o = some (-1) ∧ H4 = H3) I3 ⟨1, rfl, -1, rfl, rfl, rfl⟩) fun vs s4 ⟨o, H4, I4, ps, eo, e4⟩ => ?_
  subst eo e4
  have I5 : Inv X pins σ H4 { s4 with heap := s4.heap.push { cls := .type "slice", data := .fields #[vl, vu, vs] } } := I4.kept (t' := s4.toks) fun b ob q => Heap.get?_push_of_some _ q
  obtain ⟨its, r, ht, hz⟩ := I5.tuple hx
  have hlen := r.length
  show wpAny (model X.prog X.w) X.A (subscriptTail e (.Slice none none (some (.UnaryOp .USub (.Constant (.int 1) k p1) p2)) p3) (.ref a) (.ref s4.heap.objs.size)) (EP X pins σ Q) X.xe { s4 with heap := s4.heap.push { cls := .type "slice", data := .fields #[vl, vu, vs] } }
  refine tail_any (ops := [.ref a, .ref s4.heap.objs.size]) ht.typeIs (PyProof.Rows.slot_tuple_getitem.lookup) ?_ (by with_unfolding_all rfl)
  refine get_tup_back ht (Heap.IsSliceOf.new _ vl vu vs) pl pu ps ?_ (by rw [List.size_toArray]; omega)
  refine ⟨.ref _, _, I5.laid (t' := s4.toks) (o := .tup xs.reverse) (fun b ob q => Heap.get?_push_of_some _ q) (Nat.le_refl _) ?_, rfl, q _ (I5.hok.fresh (Nat.le_refl _))⟩
  exact ⟨by rw [List.length_reverse]; exact hz, _, r.reverse, IsTup.new _ _⟩
def D.back : D → Option D
  | .tup xs => some (.tup xs.reverse)
  | .tux xs => some (.tup xs.reverse)
  | _ => none
def D.backL : D → Option (List D)
  | .lst xs => some xs.reverse
  | _ => none
theorem xp_back {k : Nat} {p1 p2 p3 : Pos} (h : XP X W e en m) : XP X W (.Subscript e (.Slice none none (some (.UnaryOp .USub (.Constant (.int 1) k p1) p2)) p3) pos) en (m.bnd fun d => R.of d.back) := fun σ G H S Q q => by
  refine pe_to (pe_backT pe_w) (h σ G H S _ (wp_mono (wp_bnd.mp q) (fun d hd v G1 H1 w1 r1 => ?_) fun _ z => z))
  obtain ⟨d', e1, hd⟩ := wp_of hd
  unfold D.back at e1
  split at e1
  · cases e1
    cases r1 with
    | @tup _ vs _ h1 r =>
      refine ⟨_, _, rfl, w1.up.le.seqT h1, fun p hp => ?_⟩
      have w2 := Grow.new (o := .tup vs.reverse) w1.up hp rfl
      exact hd _ _ _ (w1.trans w2) (.tup (.inl (.inl upd_same)) (r.rev.up w2.g))
  · cases e1
    cases r1 with
    | @tux _ vs _ h1 r =>
      refine ⟨_, _, rfl, w1.up.le.seqT (.inl h1.1), fun p hp => ?_⟩
      have w2 := Grow.new (o := .tup vs.reverse) w1.up hp rfl
      exact hd _ _ _ (w1.trans w2) (.tup (.inl (.inl upd_same)) (r.rev.up w2.g))
  · cases e1
theorem newL_here {K : PySem.W.Frag} {G H G1 H1 : Hp} {ds : List D} {vs : List V} {Q : VK} (w : Grow G H G1 H1) (r : RpAll K G1 vs ds) (k : NewL K G H ds Q) : ∀ p, H1 p = none → Q (.ref p) (upd H1 p (.lst vs)) := fun p hp => by
  have w2 := Grow.own (o := .lst vs) w.up hp
  refine k p vs G1 _ (w.trans w2) ?_ (w.up.kn p hp) upd_same (r.up w2.g)
  cases z : H p with
  | none => rfl
  | some o => rw [w.h p o z] at hp; cases hp
theorem xn_back {k : Nat} {p1 p2 p3 : Pos} (h : XP X W e en m) : XN X W (.Subscript e (.Slice none none (some (.UnaryOp .USub (.Constant (.int 1) k p1) p2)) p3) pos) en (m.bnd fun d => R.of d.backL) := fun σ G H S Q q => by
  refine pe_to (pe_revL pe_w) (h σ G H S _ (wp_mono (wp_bnd.mp q) (fun d hd v G1 H1 w1 r1 => ?_) fun _ z => z))
  obtain ⟨d', e1, hd⟩ := wp_of hd
  unfold D.backL at e1
  split at e1
  · cases e1
    cases r1 with
    | lst h1 r => exact ⟨_, _, rfl, .inl (w1.up.le _ _ rfl h1), newL_here w1 r.rev hd⟩
  · cases e1
/-! ranges as arguments -/
def XR (X : Cx) (W : WN) (e : Expr) (en : En) (m : R (Int × Int)) : Prop := ∃ t, PRg X e t ∧ ∀ σ G H, Sl X.K en σ G H → ∀ Q : Int → Int → Hp → Prop, wp m (fun r => ∀ G2 H2, Grow G H G2 H2 → Q r.1 r.2 H2) (fun c => ∀ G2 H2, Grow G H G2 H2 → W c σ H2) → t σ H Q
theorem xr_1 {p : Pos} (hm : X.mg "range" = none) (ha : XP X W a en ma) (hg : Gl X "range" := by rfl) (na : starEach [a] X.env = (false, eval a X.env) :: starEach [] X.env := by rfl) : XR X W (.Call (.Name "range" p) [a] [] pos) en (ma.bnd fun x => (R.of x.toI).bnd fun i => .ok (0, i)) :=
  ⟨_, prg_1 hg hm pe_w na, fun σ G H S Q k => ha σ G H S _ (wp_mono (wp_bnd.mp k) (fun d hd v G1 H1 w1 r1 => by
    obtain ⟨i, e1, hd⟩ := wp_of (wp_bnd.mp hd)
    cases d <;> cases e1
    cases r1
    exact ⟨_, rfl, hd G1 H1 w1⟩) fun _ z => z)⟩
theorem xr_2 {p : Pos} (hm : X.mg "range" = none) (ha : XP X W a en ma) (hb : XP X W b en mb) (hg : Gl X "range" := by rfl) (na : starEach [a, b] X.env = (false, eval a X.env) :: starEach [b] X.env := by rfl)
    (nb : starEach [b] X.env = (false, eval b X.env) :: starEach [] X.env := by rfl) (hp : (backTo pos (starEach [b] X.env)).any (·.1) = false := by rfl) : XR X W (.Call (.Name "range" p) [a, b] [] pos) en (ma.bnd fun x => mb.bnd fun y => (R.of x.toI).bnd fun i => (R.of y.toI).bnd fun j => .ok (i, j)) :=
  ⟨_, prg_2 hg hm pe_w pe_w na nb hp, fun σ G H S Q k => ha σ G H S _ (wp_mono (wp_bnd.mp k) (fun d hd v G1 H1 w1 r1 => hb σ G1 H1 (S.grow w1) _ (wp_mono (wp_bnd.mp hd) (fun d2 hd2 v2 G2 H2 w2 r2 => by
    obtain ⟨i, e1, hd2⟩ := wp_of (wp_bnd.mp hd2)
    obtain ⟨j, e2, hd2⟩ := wp_of (wp_bnd.mp hd2)
    cases d <;> cases e1
    cases d2 <;> cases e2
    cases r1
    cases r2
    exact ⟨_, _, rfl, rfl, hd2 G2 H2 (w1.trans w2)⟩) fun _ z G2 H2 w => z G2 H2 (w1.trans w))) fun _ z => z)⟩
def rgL (i j : Int) : Option (List D) := if -1000000 < i ∧ i < 1000000 ∧ -1000000 < j ∧ j < 1000000 then some (upD i j) else none
theorem rp_upD {K : PySem.W.Frag} {G : Hp} (i j : Int) : RpAll K G (rgV i j) (upD i j) := by
  unfold rgV upD
  generalize List.range (j - i).toNat = l
  induction l with
  | nil => exact .nil
  | cons x l ih => exact .cons (.int _) ih
theorem rgL_some {i j : Int} {ds : List D} (h : rgL i j = some ds) : ds = upD i j ∧ RgOk i j := by
  unfold rgL at h
  split at h
  · rename_i z
    cases h
    exact ⟨rfl, by omega, by omega, by omega, by omega, by omega⟩
  · cases h
theorem xn_lrg {p : Pos} {mr : R (Int × Int)} (g : Go X ec W) (hm : X.mg "list" = none) (h : XR X W e en mr) (hg : Gl X "list" := by rfl) (na : starEach [e] X.env = (false, eval e X.env) :: starEach [] X.env := by rfl) : XN X W (.Call (.Name "list" p) [e] [] pos) en (mr.bnd2 fun i j => R.of (rgL i j)) := fun σ G H S Q q => by
  obtain ⟨t, ht, h⟩ := h
  refine pe_to (pe_listRg g.calm hg hm ht na) (h σ G H S _ (wp_mono (wp_bnd.mp q) (fun r hr G1 H1 w1 => ?_) fun _ z => z))
  obtain ⟨ds, e1, hd⟩ := wp_of hr
  obtain ⟨rfl, ok⟩ := rgL_some e1
  exact ⟨ok, newL_here w1 (rp_upD _ _) hd⟩
theorem xp_trg {p : Pos} {mr : R (Int × Int)} (g : Go X ec W) (hm : X.mg "tuple" = none) (h : XR X W e en mr) (hg : Gl X "tuple" := by rfl) (na : starEach [e] X.env = (false, eval e X.env) :: starEach [] X.env := by rfl) : XP X W (.Call (.Name "tuple" p) [e] [] pos) en (mr.bnd2 fun i j => (R.of (rgL i j)).bnd fun ds => .ok (.tup ds)) := fun σ G H S Q q => by
  obtain ⟨t, ht, h⟩ := h
  refine pe_to (pe_tupRg g.calm hg hm ht na) (h σ G H S _ (wp_mono (wp_bnd.mp q) (fun r hr G1 H1 w1 => ?_) fun _ z => z))
  obtain ⟨ds, e1, hd⟩ := wp_of (wp_bnd.mp hr)
  obtain ⟨rfl, ok⟩ := rgL_some e1
  refine ⟨ok, fun p hp => ?_⟩
  have w2 := Grow.new (o := .tup (rgV r.1 r.2)) w1.up hp rfl
  exact hd _ _ _ (w1.trans w2) (.tup (.inl (.inl upd_same)) (rp_upD _ _))
end
end Wk
set_option maxHeartbeats 4000000
/-! Wk15: tuple * int of any count, a dict written down and asked, two names from an expression that changes something. -/
namespace Wk
open PySem PySem.Spec PyProof.Rows L2
theorem mul_same (l : Addr) (items : Array Value) (n : Nat) (dd : Option Addr) (sl : Array (Option Value)) (x : Int) (u : Tok) (c0 : (decide (x < -(2 ^ 63)) || decide (x ≥ 2 ^ 63)) = false) (c1 : (items.isEmpty || x == 1) = true) :
    Meets (Builtin.«tuple.__mul__» ⟨[.ref l, .int x u], []⟩) (fun _ R s => s.heap.get? l = some { cls := .type "tuple", dict := dd, data := .seq items n, slots := sl } ∧ R (.ok (.ret (Value.ref l))) s) :=
  .of_wp fun prog w A R s h => by
    obtain ⟨hp, g, d, tk, os⟩ := s
    obtain ⟨hl, h⟩ := h
    have f1 := AutoSeq1.idx_int
    wp_walk using wpAny_loadPart' hl
    repeat (first
      | (refine wpAny_ite_false (decide_eq_false (by rw [c0]; exact Bool.false_ne_true)) ?_; wp_walk using wpAny_loadPart' hl)
      | (refine wpAny_ite_true (decide_eq_true c1) ?_; wp_walk using wpAny_loadPart' hl))
    exact ⟨_, rfl, h⟩
theorem mul_none (l : Addr) (items : Array Value) (n : Nat) (dd : Option Addr) (sl : Array (Option Value)) (x : Int) (u : Tok) (c0 : (decide (x < -(2 ^ 63)) || decide (x ≥ 2 ^ 63)) = false) (c1 : (items.isEmpty || x == 1) = false) (c2 : (decide (x ≤ 0) || items.isEmpty) = true) :
    Meets (Builtin.«tuple.__mul__» ⟨[.ref l, .int x u], []⟩) (fun _ R s => s.heap.get? l = some { cls := .type "tuple", dict := dd, data := .seq items n, slots := sl } ∧
      R (.ok (.ret (Value.ref s.heap.objs.size))) { s with heap := s.heap.push { cls := Value.type "tuple", data := Data.seq #[] }, toks := s.toks }) :=
  .of_wp fun prog w A R s h => by
    obtain ⟨hp, g, d, tk, os⟩ := s
    obtain ⟨hl, h⟩ := h
    have f1 := AutoSeq1.idx_int
    wp_walk using wpAny_loadPart' hl
    repeat (first
      | (refine wpAny_ite_false (decide_eq_false (by rw [c0]; exact Bool.false_ne_true)) ?_; wp_walk using wpAny_loadPart' hl)
      | (refine wpAny_ite_false (decide_eq_false (by rw [c1]; exact Bool.false_ne_true)) ?_; wp_walk using wpAny_loadPart' hl)
      | (refine wpAny_ite_true (decide_eq_true c2) ?_; wp_walk using wpAny_loadPart' hl))
    exact ⟨_, rfl, h⟩
section
variable {X : Cx} {K : PySem.W.Frag}
def rMulT (K : PySem.W.Frag) : R2 := fun x y H Q => ∃ l k xs, x = .ref l ∧ y = .int k ∧ SqT K H l xs ∧ -1000000 < k ∧ k ≤ 4000 ∧ xs.length ≤ 1000 ∧ ((xs = [] ∨ k = 1) → Q (.ref l) H) ∧ (¬ (xs = [] ∨ k = 1) → ∀ p, H p = none → Q (.ref p) (upd H p (.tup (List.replicate k.toNat xs).flatten)))
theorem op_mulT : OpR X (binaryOp .Mult) (rMulT X.K) := by
  intro pins s σ H x y v u Q I rx ry h
  obtain ⟨l, k, xs, rfl, rfl, hT, h1, h2, hz, q1, q2⟩ := h
  by_cases hk : 2 ≤ k ∧ xs ≠ []
  · obtain ⟨hk1, hk2⟩ := hk
    cases rx
    obtain ⟨t, rfl⟩ := ry
    obtain ⟨its, r, ⟨⟨cls, dd, data, sl⟩, ho, hc, n, hd⟩, hs⟩ := I.tuple hT
    simp only at hc hd
    subst hc hd
    have hle : its.length = xs.length := r.length.symm
    have c0 : (decide (k < -(2 ^ 63)) || decide (k ≥ 2 ^ 63)) = false := by
      rw [decide_eq_false (by omega), decide_eq_false (by omega)] <;> rfl
    have ie : its.toArray.isEmpty = false := by
      cases z : its.toArray.isEmpty with
      | false => rfl
      | true =>
        rw [List.isEmpty_toArray, List.isEmpty_iff] at z
        subst z
        exact absurd (List.length_eq_zero_iff.mp hle.symm) hk2
    have c1 : (its.toArray.isEmpty || k == 1) = false := by rw [ie, Bool.false_or]; exact beq_eq_false_iff_ne.mpr (by omega)
    have c2 : (decide (k ≤ 0) || its.toArray.isEmpty) = false := by rw [ie, decide_eq_false (by omega)]; rfl
    obtain ⟨m, rfl⟩ : ∃ m : Nat, k = m := ⟨k.toNat, by omega⟩
    have hb : its.toArray.size * m ≤ 4000000 := by
      rw [List.size_toArray, hle]
      exact Nat.le_trans (Nat.mul_le_mul hz (show m ≤ 4000 by omega)) (by decide)
    have c3 : ¬ ((its.toArray.size : Int) * (m : Int)) > (2 ^ 63 - 1) / 8 := by
      have : ((its.toArray.size : Int) * (m : Int)) ≤ 4000000 := by rw [← Int.natCast_mul]; exact Int.ofNat_le.mpr hb
      exact fun z => absurd (Int.lt_of_lt_of_le z this) (by decide)
    have c4 : Builtin.Tuple.tupleTooMany ((its.toArray.size : Int) * (m : Int)) = false := by
      have : ((its.toArray.size : Int) * (m : Int)) ≤ 4000000 := by rw [← Int.natCast_mul]; exact Int.ofNat_le.mpr hb
      have sl4 : (4000000 : Int) ≤ (sizeLine : Int) := Int.ofNat_le.mpr (show 4000000 ≤ sizeLine by decide)
      unfold Builtin.Tuple.tupleTooMany
      exact decide_eq_false (by omega)
    have f0 : ∀ m : Nat, List.foldl (fun x1 x2 => x1 ++ x2) #[] (List.replicate m its.toArray) = (List.replicate m its).flatten.toArray := fun m => by
      have := foldl_rep its m []
      rw [List.nil_append] at this
      exact this
    have hlen : (List.replicate m its).flatten.length ≤ 4000000 := by
      rw [PyProof.Rows.lm_len_rep_flat, Nat.mul_comm]
      rw [List.size_toArray] at hb
      exact hb
    have c5 : (List.foldl (fun x1 x2 => x1 ++ x2) #[] (List.replicate (m : Int).toNat its.toArray)).size ≤ sizeLine := by
      rw [Int.toNat_natCast, f0, List.size_toArray]
      exact Nat.le_trans hlen (by decide)
    refine wpAny_binaryOp_repeat_ref (T := "tuple") (U := "int") (by decide) ⟨_, ho, rfl⟩ (fun s' => typeIs_int s' (m : Int) t) noFill_tuple_mul F.fills_int_mul F.slot_int_rmul repeat_tuple F.slot_int_index.lookup
      (call_meets F.slot_int_rmul (typeIs_int s (m : Int) t) F.entry_int_rmul (F.args_int_rmul_2 _ _) (int_rmul_tuple (m : Int) t l its.toArray n dd sl)
        ⟨ho, rfl, ⟨_, ho, rfl⟩, call_meets F.slot_tuple_mul ⟨_, ho, rfl⟩ F.entry_tuple_mul (F.args_tuple_mul_2 _ _) (tuple_mulW l its.toArray n dd sl (m : Int) t c0 c1 c2 c3 c4 c5) ⟨ho, ?_⟩⟩)
    have q3 := q2 (fun z => z.elim hk2 (fun z => by omega)) s.heap.objs.size (I.hok.fresh (Nat.le_refl _))
    rw [Int.toNat_natCast] at q3 ⊢
    rw [f0]
    refine ⟨.ref s.heap.objs.size, _, I.laid (t' := s.toks) (o := .tup (List.replicate m xs).flatten) (fun b ob q => Heap.get?_push_of_some _ q) (Nat.le_refl _) ?_, rfl, q3⟩
    exact ⟨by rw [PyProof.Rows.lm_len_rep_flat, Nat.mul_comm, ← hle]; rw [List.size_toArray] at hb; exact Nat.le_trans hb (by decide), _, r.rep m, IsTup.new _ _⟩
  cases rx
  obtain ⟨t, rfl⟩ := ry
  obtain ⟨its, r, ⟨⟨cls, dd, data, sl⟩, ho, hc, n, hd⟩, hs⟩ := I.tuple hT
  simp only at hc hd
  subst hc hd
  have hle : its.length = xs.length := r.length.symm
  have c0 : (decide (k < -(2 ^ 63)) || decide (k ≥ 2 ^ 63)) = false := by
    rw [decide_eq_false (by omega), decide_eq_false (by omega)] <;> rfl
  have ie : its.toArray.isEmpty = true ↔ xs = [] := by
    rw [List.isEmpty_toArray, List.isEmpty_iff, ← List.length_eq_zero_iff, ← List.length_eq_zero_iff, hle]
  by_cases c : xs = [] ∨ k = 1
  · have c1 : (its.toArray.isEmpty || k == 1) = true := by
      rcases c with c | c
      · rw [ie.mpr c, Bool.true_or]
      · rw [c]; simp
    exact wpAny_binaryOp_repeat_ref (T := "tuple") (U := "int") (by decide) ⟨_, ho, rfl⟩ (fun s' => typeIs_int s' k t) noFill_tuple_mul F.fills_int_mul F.slot_int_rmul repeat_tuple F.slot_int_index.lookup
      (call_meets F.slot_int_rmul (typeIs_int s k t) F.entry_int_rmul (F.args_int_rmul_2 _ _) (int_rmul_tuple k t l its.toArray n dd sl)
        ⟨ho, rfl, ⟨_, ho, rfl⟩, call_meets F.slot_tuple_mul ⟨_, ho, rfl⟩ F.entry_tuple_mul (F.args_tuple_mul_2 _ _) (mul_same l its.toArray n dd sl k t c0 c1) ⟨ho, .ref l, H, I, rfl, q1 c⟩⟩)
  · have k0 : k ≤ 0 := by
      by_cases z : 2 ≤ k
      · exact absurd ⟨z, fun y => c (.inl y)⟩ hk
      · have : k ≠ 1 := fun y => c (.inr y)
        omega
    have c1 : (its.toArray.isEmpty || k == 1) = false := by
      cases z : its.toArray.isEmpty with
      | true => exact absurd (.inl (ie.mp z)) c
      | false => simp; omega
    have c2 : (decide (k ≤ 0) || its.toArray.isEmpty) = true := by rw [decide_eq_true k0, Bool.true_or]
    refine wpAny_binaryOp_repeat_ref (T := "tuple") (U := "int") (by decide) ⟨_, ho, rfl⟩ (fun s' => typeIs_int s' k t) noFill_tuple_mul F.fills_int_mul F.slot_int_rmul repeat_tuple F.slot_int_index.lookup
      (call_meets F.slot_int_rmul (typeIs_int s k t) F.entry_int_rmul (F.args_int_rmul_2 _ _) (int_rmul_tuple k t l its.toArray n dd sl)
        ⟨ho, rfl, ⟨_, ho, rfl⟩, call_meets F.slot_tuple_mul ⟨_, ho, rfl⟩ F.entry_tuple_mul (F.args_tuple_mul_2 _ _) (mul_none l its.toArray n dd sl k t c0 c1 c2) ⟨ho, ?_⟩⟩)
    have q3 := q2 c s.heap.objs.size (I.hok.fresh (Nat.le_refl _))
    rw [show k.toNat = 0 by omega] at q3
    refine ⟨.ref s.heap.objs.size, _, I.laid (t' := s.toks) (o := .tup (List.replicate 0 xs).flatten) (fun b ob q => Heap.get?_push_of_some _ q) (Nat.le_refl _) ?_, rfl, q3⟩
    exact ⟨Nat.zero_le _, _, .nil, IsTup.new _ _⟩
def D.mulT : D → D → Option D
  | .tup xs, .int k => if -1000000 < k ∧ k ≤ 4000 ∧ xs.length ≤ 1000 then some (.tup (List.replicate k.toNat xs).flatten) else none
  | _, _ => none
theorem RpAll.repT {G : Hp} {ds : List D} {vs : List V} (r : RpAll K G vs ds) : ∀ n, RpAll K G (List.replicate n vs).flatten (List.replicate n ds).flatten
  | 0 => .nil
  | n + 1 => by
    rw [List.replicate_succ, List.replicate_succ, List.flatten_cons, List.flatten_cons]
    exact r.app (RpAll.repT r n)
theorem d_mulT : OpD K (rMulT K) D.mulT := fun G H x y dx dy d l rx ry e Q q => by
  unfold D.mulT at e
  split at e
  · rename_i ds k
    split at e
    · rename_i z
      cases e
      cases ry
      cases rx with
      | @tup a vs _ h1 r =>
        refine ⟨a, k, vs, rfl, rfl, l.le.seqT h1, z.1, z.2.1, by rw [r.len]; exact z.2.2, fun c => ?_, fun c p hp => ?_⟩
        · refine q _ _ _ (Grow.refl l) ?_
          rcases c with c | c
          · subst c
            cases r
            have e2 : (List.replicate k.toNat ([] : List D)).flatten = [] := by simp
            rw [e2]
            exact .tup h1 .nil
          · subst c
            have e2 : (List.replicate (1 : Int).toNat ds).flatten = ds := by simp [show (1 : Int).toNat = 1 from rfl]
            rw [e2]
            exact .tup h1 r
        · have w := Grow.new (o := .tup (List.replicate k.toNat vs).flatten) l hp rfl
          exact q _ _ _ w (.tup (.inl (.inl upd_same)) ((r.repT k.toNat).up w.g))
    · cases e
  · cases e
end
section
variable {X : Cx} {W : WN} {eE : En} {en : En} {ec : Nat → Addr} {pos : Pos} {γ δ ω : Type} {φ : γ → En} {a b c e : Expr} {es : List Expr} {T : Bs → ω → Ends → Prop} {rest : List Stmt}
theorem Grow.put {p : Addr} {o : HO} {G H G2 H2 : Hp} (w : Grow G H G2 H2) (hp : H p = none) (gp : G2 p = none) : Grow G H G2 (upd H2 p o) := by
  refine ⟨w.g, ⟨fun a u pu ru => ?_, fun a n => ?_⟩, fun a u z => ?_, w.cl⟩
  · have na : a ≠ p := fun z => by
      subst z
      rcases ru with z | ⟨_, z⟩ <;> (rw [gp] at z; cases z)
    rcases w.up.le a u pu ru with z | ⟨x, z⟩
    · exact .inl (by rw [upd_ne na]; exact z)
    · exact .inr ⟨x, by rw [upd_ne na]; exact z⟩
  · by_cases na : a = p
    · subst na; exact gp
    · rw [upd_ne na] at n; exact w.up.kn a n
  · rw [upd_ne (fun y => by subst y; rw [hp] at z; cases z)]; exact w.h a u z
/-- {k1: v1, k2: v2}.get(k, d), the keys whole numbers -/
def D.get2 (a : Int) (x : D) (b : Int) (y : D) (k d : D) : Option D := match k with
  | .int k => some (if k = b then y else if k = a then x else d)
  | _ => none
theorem xp_get2 {e1 e2 e3 e4 e5 e6 : Expr} {m1 m2 m3 m4 m5 m6 : R D} {pd pa : Pos} (hu : X.A.units + 64 < cLine) (h1 : XP X W e1 en m1) (h2 : XP X W e2 en m2) (h3 : XP X W e3 en m3) (h4 : XP X W e4 en m4) (h5 : XP X W e5 en m5) (h6 : XP X W e6 en m6)
    (hm : M2 X (.Dict [some e1, some e3] [e2, e4] pd) "get" pa e5 e6 pos := by exact ⟨rfl, rfl, rfl, rfl⟩) :
    XP X W (.Call (.Attribute (.Dict [some e1, some e3] [e2, e4] pd) "get" pa) [e5, e6] [] pos) en (m1.bnd fun k1 => m2.bnd fun v1 => m3.bnd fun k2 => m4.bnd fun v2 => (R.of k1.toI).bnd fun a => (R.of k2.toI).bnd fun b => m5.bnd fun k => m6.bnd fun d => R.of (D.get2 a v1 b v2 k d)) := fun σ G H S Q q => by
  refine pe_to (pe_dget2 (by omega) (pe_disp (pps_cons pe_w pe_w (pps_cons pe_w pe_w pps_nil)) rfl rfl (by simp) (by show 2 ≤ 15; decide)) pe_w pe_w hm) (fun p hp => ?_)
  have w0 := Grow.own (o := .dK []) S.le hp
  have g0 : G p = none := S.le.kn p hp
  refine h1 σ G _ (S.grow w0) _ (wp_mono (wp_bnd.mp q) (fun d1 q v1 G1 H1 w1 r1 => ?_) fun _ z G2 H2 w => z G2 H2 (w0.trans w))
  refine h2 σ G1 H1 ((S.grow w0).grow w1) _ (wp_mono (wp_bnd.mp q) (fun d2 q v2 G2 H2 w2 r2 => ?_) fun _ z G2 H2 w => z G2 H2 ((w0.trans w1).trans w))
  refine h3 σ G2 H2 (((S.grow w0).grow w1).grow w2) _ (wp_mono (wp_bnd.mp q) (fun d3 q v3 G3 H3 w3 r3 => ?_) fun _ z G2 H2 w => z G2 H2 (((w0.trans w1).trans w2).trans w))
  refine h4 σ G3 H3 ((((S.grow w0).grow w1).grow w2).grow w3) _ (wp_mono (wp_bnd.mp q) (fun d4 q v4 G4 H4 w4 r4 => ?_) fun _ z G2 H2 w => z G2 H2 ((((w0.trans w1).trans w2).trans w3).trans w))
  obtain ⟨ka, ea, q⟩ := wp_of (wp_bnd.mp q)
  obtain ⟨kb, eb, q⟩ := wp_of (wp_bnd.mp q)
  cases d1 <;> cases ea
  cases d3 <;> cases eb
  cases r1
  cases r3
  have w' := ((w1.trans w2).trans w3).trans w4
  have hp4 : H4 p = some (.dK []) := w'.h _ _ upd_same
  have gp4 : G4 p = none := w'.cl p g0 (by rw [upd_same]; intro z; cases z)
  have w5 := Grow.put (o := .dK (mergeK [] [(.inl ka, v2), (.inl kb, v4)])) (w0.trans w') hp gp4
  refine ⟨hp4, [(.inl ka, v2), (.inl kb, v4)], rfl, by show 2 ≤ 15; decide, p, rfl, .inl ⟨_, .inl upd_same⟩, ?_⟩
  refine h5 σ G4 _ (S.grow w5) _ (wp_mono (wp_bnd.mp q) (fun d5 q v5 G5 H5 w6 r5 => ?_) fun _ z G2 H2 w => z G2 H2 (w5.trans w))
  refine h6 σ G5 H5 ((S.grow w5).grow w6) _ (wp_mono (wp_bnd.mp q) (fun d6 q v6 G6 H6 w7 r6 => ?_) fun _ z G2 H2 w => z G2 H2 ((w5.trans w6).trans w))
  obtain ⟨d, ed, q⟩ := wp_of q
  unfold D.get2 at ed
  split at ed
  · rename_i k _
    cases ed
    cases r5
    have hd : H6 p = some (.dK (mergeK [] [(.inl ka, v2), (.inl kb, v4)])) := (w6.trans w7).h _ _ upd_same
    refine ⟨_, .k (k := .inl k) hd, ?_⟩
    have hv : valV (mergeK [] [((.inl ka : Key), v2), (.inl kb, v4)]) (.inl k) = if k = kb then some v4 else if k = ka then some v2 else none := by
      show valV (putK (putK [] (Sum.inl ka : Key) v2) (Sum.inl kb) v4) (Sum.inl k) = _
      rw [valV_put, valV_put, valV_nil]
      simp only [Sum.inl.injEq]
    rw [hv]
    have u4 := (w6.trans w7).g
    by_cases c1 : k = kb
    · rw [if_pos c1] at q ⊢
      exact q _ _ _ ((w5.trans w6).trans w7) (r4.up u4)
    · rw [if_neg c1] at q ⊢
      by_cases c2 : k = ka
      · rw [if_pos c2] at q ⊢
        exact q _ _ _ ((w5.trans w6).trans w7) (r2.up ((w3.g.trans w4.g).trans u4))
      · rw [if_neg c2] at q ⊢
        exact q _ _ _ ((w5.trans w6).trans w7) r6
  · cases ed
def R.bU2V {ω : Type} (m : R (D × γ)) (k : D → D → γ → R ω) : R ω := m.bnd2 fun d c => (R.of d.two).bnd fun q => k q.1 q.2 c
theorem xb_twoV {i j : Nat} {x y : Str} {p p' p2 : Pos} {kk : Nat} {m : R (D × γ)} {k : D → D → γ → R ω} (g : Go X ec W) (χ : D → D → γ → En) (h : XV X W eE e en m φ) (hk : ∀ d d' c, XB X W eE rest (χ d d' c) (k d d' c) T) (hN : X.N[i]? = some x := by rfl) (hN' : X.N[j]? = some y := by rfl) (hφ : ∀ d d' c, ((φ c).set i (some (.v d))).set j (some (.v d')) = χ d d' c := by intro _ _ _; rfl)
    (hx : Loc X.env.scope x := by first | exact Or.inl rfl | exact Or.inr rfl) (hx' : Loc X.env.scope y := by first | exact Or.inl rfl | exact Or.inr rfl) (hf : X.fn x = true ∨ X.env.scope.names.lookup x = some .local := by first | exact .inl rfl | exact .inr rfl) (hf' : X.fn y = true ∨ X.env.scope.names.lookup y = some .local := by first | exact .inl rfl | exact .inr rfl)
    (hn : (assignEach [.Name x p, .Name y p'] X.env).length = 2 := by rfl) (hst : (assignEach [.Name x p, .Name y p'] X.env).findIdx? (·.1) = none := by rfl)
    (h1 : (assignEach [.Name x p, .Name y p'] X.env).map (·.2) = assign (.Name x p) X.env :: (assignEach [.Name y p'] X.env).map (·.2) := by rfl) (h2 : (assignEach [.Name y p'] X.env).map (·.2) = assign (.Name y p') X.env :: (assignEach [] X.env).map (·.2) := by rfl)
    (s1 : swapsWithSole [.Tuple [.Name x p, .Name y p'] kk p2] e pos.line X.env = pure false := by first | exact swaps_no rfl | exact swapsS_no rfl | rfl) (s2 : swappedStores [.Tuple [.Name x p, .Name y p'] kk p2] e X.env = pure none := by rfl) (s3 : (assignEach [.Tuple [.Name x p, .Name y p'] kk p2] X.env).map (·.2) = [assign (.Tuple [.Name x p, .Name y p'] kk p2) X.env] := by rfl) :
    XB X W eE (.Assign [.Tuple [.Name x p, .Name y p'] kk p2] e pos :: rest) en (R.bU2V m k) T := fun B σ G H S D q => by
  refine pss_to (pss_cons (ps_asg pe_w (pg_tup g.calm (pgs_cons (pg_name g.nd hN hx hf) (pgs_cons (pg_name g.nd hN' hx' hf') pgs_nil h2) h1) hn hst) s1 s2 s3) pss_w) ?_
  refine h B σ G H S _ (wp_mono (wp_bnd.mp q) (fun dc hd v G1 H1 l S1 r => ?_) fun _ z => z)
  obtain ⟨(z : Wk.D × Wk.D), e1, hd⟩ := wp_of (wp_bnd.mp hd)
  refine tg_two B _ σ G1 H1 S1 dc.1 v _ r (by show Option.map _ dc.1.two = _; rw [e1]; rfl) _ fun σ' S' => ?_
  dsimp only at S'
  rw [hφ] at S'
  exact hk _ _ _ B σ' G1 H1 S' D hd
@[simp] theorem s_bU2V {ω : Type} {x y : D} {c : γ} {k : D → D → γ → R ω} : R.bU2V (.ok (.tup [x, y], c)) k = k x y c := by exact id rfl
@[simp] theorem s_toI {i : Int} : D.toI (.int i) = some i := by exact id rfl
end
end Wk
set_option maxHeartbeats 4000000
/-! Wk16: more plain words. -/
namespace Wk
open PySem PySem.Spec PyProof.Rows L2
@[simp] theorem s_flatI {i : Int} : D.flat (.int i) = some (.int i) := by exact id rfl
@[simp] theorem s_flatB {i : Bool} : D.flat (.bl i) = some (.bl i) := by exact id rfl
@[simp] theorem s_back {xs : List D} : D.back (.tup xs) = some (.tup xs.reverse) := by exact id rfl
@[simp] theorem s_backL {xs : List D} : D.backL (.lst xs) = some xs.reverse := by exact id rfl
theorem s_pop {xs : List D} (h : xs ≠ []) : popD xs = some xs.dropLast := if_neg h
theorem nb_ltup (w : List Int) (n : Nat) : (D.tup (w.map .int)).nb (n + 1) = true := by simp [D.nb, nbs_ints]
theorem nb_llst (w : List Int) (n : Nat) : (D.lst (w.map .int)).nb (n + 1) = true := by simp [D.nb, nbs_ints]
theorem int_map_inj {v w : List Int} : v.map D.int = w.map D.int ↔ v = w := by
  constructor
  · intro h
    have := congrArg (List.map fun d => match d with | D.int i => i | _ => 0) h
    simpa [List.map_map, Function.comp_def] using this
  · rintro rfl; rfl
theorem s_eqT {v w : List Int} : D.eq (.tup (v.map .int)) (.tup (w.map .int)) = some (decide (v = w)) := by
  classical
  rw [eq_nb 1 (nb_ltup v 0) (nb_ltup w 0) (by decide) ⟨_, .inl rfl⟩]
  congr 1
  by_cases h : v = w
  · subst h; simp
  · simp [h, int_map_inj]
theorem s_eqL {v w : List Int} : D.eq (.lst (v.map .int)) (.lst (w.map .int)) = some (decide (v = w)) := by
  classical
  rw [eq_nb 1 (nb_llst v 0) (nb_llst w 0) (by decide) ⟨_, .inr rfl⟩]
  congr 1
  by_cases h : v = w
  · subst h; simp
  · simp [h, int_map_inj]
theorem s_neL0 {v : List Int} : D.ne (.lst (v.map .int)) (.lst []) = some (!decide (v = [])) := by
  have := s_eqL (v := v) (w := [])
  simp only [List.map_nil] at this
  simp [D.ne, this]
theorem s_eqT0 {v : List Int} : D.eq (.tup (v.map .int)) (.tup []) = some (decide (v = [])) := by
  have := s_eqT (v := v) (w := [])
  simpa only [List.map_nil] using this
theorem s_neT {v w : List Int} : D.ne (.tup (v.map .int)) (.tup (w.map .int)) = some (!decide (v = w)) := by simp [D.ne, s_eqT]
/-- a plait: so many strands, a word of its letters -/
def plD (n : Int) (w : List Int) : D := .tup [.int n, .tup (w.map .int)]
theorem nb_pl (n : Int) (w : List Int) : (plD n w).nb 2 = true := by simp [plD, D.nb, D.nbs, nbs_ints]
theorem s_eqP {n m : Int} {v w : List Int} : D.eq (plD n v) (plD m w) = some (decide (n = m ∧ v = w)) := by
  classical
  rw [eq_nb 2 (nb_pl n v) (nb_pl m w) (by decide) ⟨_, .inl rfl⟩]
  congr 1
  simp [plD, int_map_inj]
theorem s_neP {n m : Int} {v w : List Int} : D.ne (plD n v) (plD m w) = some (!decide (n = m ∧ v = w)) := by simp only [D.ne, s_eqP, Option.map_some]
theorem atI_last {w : List Int} {x : Int} : atI ((w ++ [x]).map D.int) (-1) = some (.int x) := by
  unfold atI ixN
  simp only [List.map_append, List.map_cons, List.map_nil, List.length_append, List.length_map, List.length_cons, List.length_nil]
  rw [if_neg (by decide), if_pos (by omega)]
  show (List.map D.int w ++ [D.int x])[_]? = _
  rw [show ((-1 : Int) + ((w.length + (0 + 1) : Nat) : Int)).toNat = w.length by omega]
  simp
theorem rgL_n {n : Nat} (h : n < 1000000) : rgL 0 (n : Int) = some ((List.range n).map fun k => D.int (k : Nat)) := by
  unfold rgL
  rw [if_pos (by omega)]
  simp [upD]
@[simp] theorem s_thrN {α β : Type} {a : α} {k : α → R β} : (R.ok (Out.nx a)).thr k = k a := by exact id rfl
@[simp] theorem s_thrR {α β : Type} {b : β} {k : α → R β} : (R.ok (Out.rt b)).thr k = .ok b := by exact id rfl
@[simp] theorem s_thoN {α β γ : Type} {a : α} {k : α → R (Out γ β)} : (R.ok (Out.nx a)).tho k = k a := by exact id rfl
@[simp] theorem s_thoR {α β γ : Type} {b : β} {k : α → R (Out γ β)} : (R.ok (Out.rt b)).tho k = .ok (.rt b) := by exact id rfl
theorem loopU_ok {α β : Type} {step : Unit → D → R (Out Unit β)} {g : α → D} : ∀ (xs : List α), (∀ x ∈ xs, step () (g x) = .ok (.nx ())) → loopR step () (xs.map g) = .ok (.nx ())
  | [], _ => rfl
  | x :: xs, e => by
    simp only [List.map_cons, loopR, e x (by simp), s_thoN]
    exact loopU_ok xs fun y hy => e y (by simp [hy])
/-- all is well in a list of truth values -/
theorem all_of {α : Type} {f : D → R D} {g : α → D} (xs : List α) (hz : xs.length ≤ 16000000) (e : ∀ x ∈ xs, f (g x) = .ok (.bl true)) : lcR f (xs.map g) = .ok (List.replicate xs.length (.bl true)) := by
  rw [lcR_ok (h := fun _ => D.bl true) xs hz e, List.map_const']
theorem s_ixP0 {n : Int} {w : List Int} : D.ix (plD n w) (.int 0) = some (.int n) := by simp [plD]
theorem s_ixP1 {n : Int} {w : List Int} : D.ix (plD n w) (.int 1) = some (.tup (w.map .int)) := by simp [plD]
theorem plD_mk {n : Int} {w : List Int} : D.tup [.int n, .tup (w.map .int)] = plD n w := by exact id rfl
theorem plD_mk0 {n : Int} : D.tup [.int n, .tup []] = plD n [] := by exact id rfl
theorem s_ext {xs ys : List D} (h : xs.length + ys.length ≤ 16000000) : extD xs (.tup ys) = some (xs ++ ys) := by
  show (if _ then _ else _) = _
  rw [if_pos h]
theorem s_extL {xs ys : List D} (h : xs.length + ys.length ≤ 16000000) : extD xs (.lst ys) = some (xs ++ ys) := by
  show (if _ then _ else _) = _
  rw [if_pos h]
theorem is_foldI {α β : Type} {step : β → D → R β} {g : α → D} (I : List α → β → Prop) {xs : List α} {b : β} (h0 : I [] b) (h : ∀ done x rest b, done ++ x :: rest = xs → I done b → Is (step b (g x)) (I (done ++ [x]))) : Is (foldR step b (xs.map g)) (I xs) := by
  have key : ∀ (rest done : List α) (b : β), done ++ rest = xs → I done b → Is (foldR step b (rest.map g)) (I (done ++ rest)) := by
    intro rest
    induction rest with
    | nil => intro done b _ h; exact is_ok (by simpa using h)
    | cons x rest ih =>
      intro done b e hb
      refine is_bnd (h done x rest b e hb) fun b' hb' => ?_
      have := ih (done ++ [x]) b' (by simpa using e) hb'
      simpa using this
  simpa using key xs [] b rfl h0
/-- over 0 .. n - 1 -/
theorem is_foldN {β : Type} {step : β → D → R β} {g : Nat → D} (I : Nat → β → Prop) {n : Nat} {b : β} (h0 : I 0 b) (h : ∀ k b, k < n → I k b → Is (step b (g k)) (I (k + 1))) : Is (foldR step b ((List.range n).map g)) (I n) := by
  have := is_foldI (g := g) (step := step) (xs := List.range n) (b := b) (fun done b => done = List.range done.length ∧ done.length ≤ n ∧ I done.length b) ⟨rfl, by simp, h0⟩ fun done x rest b e ⟨e1, h1, hI⟩ => by
    have hx : (List.range n)[done.length]? = some x := by rw [← e]; simp
    have hl : done.length < n := by
      have := (List.getElem?_eq_some_iff.mp hx).1
      simpa using this
    have hx' : x = done.length := by
      rw [List.getElem?_range hl] at hx
      exact (Option.some.inj hx).symm
    subst hx'
    refine (h done.length b hl hI).mono fun b' hb' => ⟨?_, by simp; omega, by simpa using hb'⟩
    rw [List.length_append, List.length_singleton, List.range_succ, ← e1]
  refine this.mono fun b' hb' => ?_
  simpa using hb'.2.2
end Wk
set_option maxHeartbeats 4000000
/-! Wk17: walks over what changes something while it is made. -/
namespace Wk
open PySem PySem.Spec PyProof.Rows L2
section
variable {X : Cx} {W : WN} {eE : En} {en : En} {ec : Nat → Addr} {pos : Pos} {α β γ δ ω : Type} {φ : γ → En} {a b c e : Expr} {es : List Expr} {T : Bs → ω → Ends → Prop} {rest : List Stmt}
def XIV (X : Cx) (W : WN) (eE : En) (tg e : Expr) (en : En) {γ : Type} (m : R (List D × γ)) (φ : γ → En) : Prop := ∀ B σ G H, St8 X.K B en σ G H → ∀ Q : It → Hp → Prop, Post X W eE B m (fun r => ∀ J G2 H2, Le G G2 → St8 X.K B (φ r.2) σ G2 H2 → Wlk X.K J G2 r.1 → Q J H2) → wI X tg e σ H Q
def rgA : List D → Option (List D)
  | [x] => rg1 x
  | _ => none
theorem xiv_range1 {tg : Expr} {p : Pos} {m : R (List D × γ)} (hm : X.mg "range" = none) (h : XAV X W eE [a] en m φ) (hg : Gl X "range" := by rfl) (hs : starEach [a] X.env = [(false, eval a X.env)] := by rfl) : XIV X W eE tg (.Call (.Name "range" p) [a] [] pos) en (m.bnd2 fun ds c => (R.of (rgA ds)).bnd fun l => .ok (l, c)) φ := fun B σ G H S Q k => by
  refine pi_to (pi_range1 hg hm pa_w hs) (h B σ G H S _ (wp_mono (wp_bnd.mp k) (fun r hd vs G1 H1 l1 S1 r1 => ?_) fun _ z => z))
  obtain ⟨ds, e, hd⟩ := wp_of (wp_bnd.mp hd)
  unfold rgA at e
  split at e
  · rename_i x hx
    rw [hx] at r1
    unfold rg1 at e
    split at e
    · split at e
      · rename_i j hz
        cases e
        cases r1 with
        | cons r1 r2 =>
          cases r1; cases r2
          have := hd (Itr 0 j.toNat) G1 H1 l1 S1 (by have := wlk_R (K := X.K) (G := G1) (i := 0) (j := j); rw [Int.sub_zero] at this; exact this)
          exact ⟨j, rfl, hz.1, hz.2, this⟩
      · cases e
    · cases e
  · cases e
theorem xiv_seq {tg : Expr} {m : R (D × γ)} (h : XV X W eE a en m φ) : XIV X W eE tg a en (m.bnd2 fun d c => (R.of d.seq).bnd fun l => .ok (l, c)) φ := fun B σ G H S Q k => by
  refine pi_to (pi_any pe_w) (h B σ G H S _ (wp_mono (wp_bnd.mp k) (fun r hd v G1 H1 l1 S1 r1 => ?_) fun _ z => z))
  obtain ⟨ds, e, hd⟩ := wp_of (wp_bnd.mp hd)
  unfold D.seq at e
  split at e
  · rename_i hx
    rw [hx] at r1
    cases e
    cases r1 with
    | lst h1 r1 => exact ⟨_, rfl, .inl ⟨⟨_, .inl (S1.es.fr.up.le _ _ rfl h1)⟩, hd _ G1 H1 l1 S1 (wlk_L h1 r1)⟩⟩
  · rename_i hx
    rw [hx] at r1
    cases e
    cases r1 with
    | tup h1 r1 => exact ⟨_, rfl, .inr ⟨⟨_, S1.es.fr.up.le.seqT h1⟩, hd _ G1 H1 l1 S1 (wlk_T h1 r1)⟩⟩
  · rename_i hx
    rw [hx] at r1
    cases e
    cases r1 with
    | tux h1 r1 => exact ⟨_, rfl, .inr ⟨⟨_, S1.es.fr.up.le.seqT (.inl h1.1)⟩, hd _ G1 H1 l1 S1 (wlk_T (.inl h1.1) r1)⟩⟩
  · cases e
theorem for_coreV {tg it : Expr} {body : List Stmt} {g : TG} {f : En → D → Option En} {L : α → En → Prop} {Rr : Hp → β → V → Hp → Hp → Prop} {step : α → D → R (Out α β)} {mi : R (List D × γ)} {a0 : γ → α} {e0 : γ → En} (Gx : Go X ec W) (hg : PG X tg g) (ht : TgD X.K g f) (hi : XIV X W eE tg it en mi φ)
    (h0 : ∀ c, L (a0 c) (e0 c)) (w0 : ∀ c, Wkn (e0 c) (φ c)) (hb : ∀ a e d (P : Out α β → Prop) (E : Nat → Prop), L a e → wp (step a d) P E → ∃ e', f e d = some e' ∧ XB X W eE body e' (step a d) (TO X.K L Rr))
    (hs : ∀ x, foldedSetIterable it X.env x = pure x) : XS X W eE (.For tg it body [] pos) en (mi.bnd2 fun ds c => loopR step (a0 c) ds) (TO X.K L Rr) := fun B σ G H S D q => by
  refine ps_to (ps_for Gx.po Gx.calm pi_w hg pss_w hs) (hi B σ G H S _ (wp_mono (wp_bnd.mp q) (fun dc hd J G2 H2 _ S2 wk => ?_) fun _ z => z))
  obtain ⟨ds, c⟩ := dc
  refine ⟨fun i m σ' H' => m = ds.length - i ∧ ∃ a e G', L a e ∧ St8 X.K B e σ' G' H' ∧ Le G2 G' ∧ i ≤ ds.length ∧ Post X W eE B (loopR step a (ds.drop i)) (fun o => TO X.K L Rr B o D), ⟨_, rfl, a0 c, e0 c, G2, h0 c, S2.weak (w0 c), Le.refl _, Nat.zero_le _, hd⟩, ?_⟩
  rintro i m σ' H' ⟨rfl, a, e, G', hL', S', l', hi', p⟩
  by_cases hlt : i < ds.length
  · rw [List.drop_eq_getElem_cons hlt] at p
    obtain ⟨go, yl⟩ := wk.go i ds[i] (List.getElem?_eq_getElem hlt) G' H' l' S'.es.fr.up
    refine .inr ⟨go, fun σ3 H3 => ∃ a e G3, L a e ∧ St8 X.K B e σ3 G3 H3 ∧ Le G2 G3 ∧ Post X W eE B (loopR step a (ds.drop (i + 1))) (fun o => TO X.K L Rr B o D), fun σ3 H3 ⟨a3, e3, G3, h1, h2, h3, h4⟩ => ⟨ds.length - (i + 1), by omega, rfl, a3, e3, G3, h1, h2, h3, hlt, h4⟩, fun x H4 y => ?_⟩
    obtain ⟨G4, w4, r4⟩ := yl x H4 y
    have p' := wp_bnd.mp p
    obtain ⟨e', ef, xb⟩ := hb a e ds[i] _ _ hL' p'
    refine ht B e σ' G4 H4 (S'.grow w4) ds[i] x e' r4 ef _ fun σ5 S5 => ?_
    refine xb (B.at_ G') σ5 G4 H4 (S5.to S'.es.fr w4) _ (wp_mono p' (fun o ho => ?_) fun _ z σ6 G6 H6 s6 => z σ6 G6 H6 (s6.of S'.es.fr))
    cases o with
    | nx a6 => exact fun e6 σ6 G6 H6 hL6 S6 => ⟨a6, e6, G6, hL6, S6.of S'.es.fr, l'.trans S6.es.fr.le0, ho⟩
    | rt b => exact fun v6 G6 H6 f6 r6 => ho v6 G6 H6 (S'.es.fr.of f6) r6
  · have ei : i = ds.length := by omega
    subst ei
    rw [List.drop_length] at p
    exact .inl ⟨wk.stop G' H' l' S'.es.fr.up, p e σ' G' H' hL' S'⟩
theorem xs_forOV {i : Nat} {x : Str} {p : Pos} {it : Expr} {body : List Stmt} {L : α → En → Prop} {Rr : Hp → β → V → Hp → Hp → Prop} {step : α → D → R (Out α β)} {mi : R (List D × γ)} {a0 : γ → α} {e0 : γ → En} (g : Go X ec W) (hi : XIV X W eE (.Name x p) it en mi φ) (h0 : ∀ c, L (a0 c) (e0 c)) (w0 : ∀ c, Wkn (e0 c) (φ c))
    (hb : ∀ a e d, L a e → XB X W eE body (e.set i (some (.v d))) (step a d) (TO X.K L Rr)) (hN : X.N[i]? = some x := by rfl) (hx : Loc X.env.scope x := by first | exact Or.inl rfl | exact Or.inr rfl)
    (hs : ∀ x, foldedSetIterable it X.env x = pure x := by intro _; rfl) (hf : X.fn x = true ∨ X.env.scope.names.lookup x = some .local := by first | exact .inl rfl | exact .inr rfl) : XS X W eE (.For (.Name x p) it body [] pos) en (mi.bnd2 fun ds c => loopR step (a0 c) ds) (TO X.K L Rr) :=
  for_coreV g (pg_name g.nd hN hx hf) tg_name hi h0 w0 (fun a e d P E hL _ => ⟨_, rfl, hb a e d hL⟩) hs
theorem xs_forV {i : Nat} {x : Str} {p : Pos} {it : Expr} {body : List Stmt} {L : α → En → Prop} {step : α → D → R α} {mi : R (List D × γ)} {a0 : γ → α} {e0 : γ → En} (g : Go X ec W) (hi : XIV X W eE (.Name x p) it en mi φ) (h0 : ∀ c, L (a0 c) (e0 c)) (w0 : ∀ c, Wkn (e0 c) (φ c))
    (hb : ∀ a e d, L a e → XB X W eE body (e.set i (some (.v d))) (step a d) (TN X.K L)) (hN : X.N[i]? = some x := by rfl) (hx : Loc X.env.scope x := by first | exact Or.inl rfl | exact Or.inr rfl)
    (hs : ∀ x, foldedSetIterable it X.env x = pure x := by intro _; rfl) (hf : X.fn x = true ∨ X.env.scope.names.lookup x = some .local := by first | exact .inl rfl | exact .inr rfl) : XS X W eE (.For (.Name x p) it body [] pos) en (mi.bnd2 fun ds c => foldR step (a0 c) ds) (TN X.K L) := fun B σ G H S D q => by
  refine xs_forOV (β := Empty) (Rr := fun _ _ _ _ _ => False) (step := fun a d => (step a d).bnd fun a' => .ok (.nx a')) g hi h0 w0 (fun a e d hL B σ G H S D q => hb a e d hL B σ G H S D (wp_mono (wp_bnd.mp q) (fun _ z => z) fun _ z => z)) hN hx hs hf B σ G H S D ?_
  refine wp_bnd.mpr (wp_mono (wp_bnd.mp q) (fun ds hd => ?_) fun _ z => z)
  dsimp only at hd ⊢
  rw [fold_loop]
  exact wp_bnd.mpr hd
/-! while -/
def whileO (test : α → R Bool) (step : α → R (Out α β)) : Nat → α → R (Out α β)
  | 0, _ => .bad
  | n + 1, a => (test a).bnd fun b => if b = true then (step a).tho fun a' => whileO test step n a' else .ok (.nx a)
def whileN (test : α → R Bool) (step : α → R α) : Nat → α → R α
  | 0, _ => .bad
  | n + 1, a => (test a).bnd fun b => if b = true then (step a).bnd fun a' => whileN test step n a' else .ok a
theorem while_NO {test : α → R Bool} {step : α → R α} : ∀ (n : Nat) (a : α), whileO (β := β) test (fun a => (step a).bnd fun a' => .ok (.nx a')) n a = (whileN test step n a).bnd fun a' => .ok (.nx a')
  | 0, a => rfl
  | n + 1, a => by
    show (test a).bnd _ = ((test a).bnd _).bnd _
    cases test a with
    | ok b =>
      cases b with
      | true =>
        show ((step a).bnd _).tho _ = ((step a).bnd _).bnd _
        cases step a with
        | ok a' => exact while_NO n a'
        | err c => rfl
        | bad => rfl
      | false => rfl
    | err c => rfl
    | bad => rfl
theorem xs_whileO {c : Expr} {body : List Stmt} {L : α → En → Prop} {Rr : Hp → β → V → Hp → Hp → Prop} {test : α → R Bool} {step : α → R (Out α β)} {a0 : α} {e0 : En} {N : Nat} (g : Go X ec W) (h0 : L a0 e0) (w0 : Wkn e0 en) (ht : ∀ a e, L a e → XT X W c e (test a)) (hb : ∀ a e, L a e → XB X W eE body e (step a) (TO X.K L Rr))
    (we : ∀ a e, L a e → Wk0 eE e := by intros; exact wk0_nil) : XS X W eE (.While c body [] pos) en (whileO test step N a0) (TO X.K L Rr) := fun B σ G H S D q => by
  refine ps_to (ps_while g.po pt_w pss_w) ⟨fun m σ' H' => ∃ a e G', L a e ∧ St8 X.K B e σ' G' H' ∧ Post X W eE B (whileO test step m a) (fun o => TO X.K L Rr B o D), ⟨N, a0, e0, G, h0, S.weak w0, q⟩, ?_⟩
  rintro m σ' H' ⟨a, e, G', hL, S', p⟩
  cases m with
  | zero => exact p.elim
  | succ m =>
    refine ht a e hL σ' G' H' S'.sl _ (wp_mono (wp_bnd.mp p) (fun b hb' G1 H1 w1 => ?_) fun c hc G1 H1 w1 => hc σ' G1 H1 ((S'.grow w1).es.weak (we a e hL)))
    cases b with
    | false => exact hb' e σ' G1 H1 hL (S'.grow w1)
    | true =>
      refine ⟨fun σ3 H3 => ∃ a e G3, L a e ∧ St8 X.K B e σ3 G3 H3 ∧ Post X W eE B (whileO test step m a) (fun o => TO X.K L Rr B o D), fun σ3 H3 z => ⟨m, Nat.lt_succ_self m, z⟩, ?_⟩
      have p' := wp_bnd.mp hb'
      refine hb a e hL B σ' G1 H1 (S'.grow w1) _ (wp_mono p' (fun o ho => ?_) fun _ z => z)
      cases o with
      | nx a6 => exact fun e6 σ6 G6 H6 hL6 S6 => ⟨a6, e6, G6, hL6, S6, ho⟩
      | rt b => exact fun v6 G6 H6 f6 r6 => ho v6 G6 H6 f6 r6
theorem xs_while {c : Expr} {body : List Stmt} {L : α → En → Prop} {test : α → R Bool} {step : α → R α} {a0 : α} {e0 : En} {N : Nat} (g : Go X ec W) (h0 : L a0 e0) (w0 : Wkn e0 en) (ht : ∀ a e, L a e → XT X W c e (test a)) (hb : ∀ a e, L a e → XB X W eE body e (step a) (TN X.K L))
    (we : ∀ a e, L a e → Wk0 eE e := by intros; exact wk0_nil) : XS X W eE (.While c body [] pos) en (whileN test step N a0) (TN X.K L) := fun B σ G H S D q => by
  refine xs_whileO (β := Empty) (Rr := fun _ _ _ _ _ => False) (step := fun a => (step a).bnd fun a' => .ok (.nx a')) (N := N) g h0 w0 ht (fun a e hL B σ G H S D q => hb a e hL B σ G H S D (wp_mono (wp_bnd.mp q) (fun _ z => z) fun _ z => z)) we B σ G H S D ?_
  rw [while_NO]
  exact wp_bnd.mpr q
theorem lnI0 {f : List D → R ω} : ∀ c ds P E, wp (apI0 f c ds) P E → ds.length = 0 := fun c ds P E h => by
  cases ds with
  | nil => rfl
  | cons a t => exact h.elim
end
@[simp] theorem s_apI0 {ω : Type} {f : List D → R ω} {s : List D} : apI0 f s [] = f s := by exact id rfl
@[simp] theorem s_rgA {x : D} : rgA [x] = rg1 x := by exact id rfl
end Wk
set_option maxHeartbeats 4000000
/-! Wk18: plain words of slices, of loops that hand back. -/
namespace Wk
open PySem PySem.Spec PyProof.Rows L2
theorem cutD_map {α : Type} {f : α → D} {w : List α} {lo hi : Option Int} : cutD (w.map f) lo hi = ((w.drop (HT.sIx w.length 0 lo)).take (HT.sIx w.length w.length hi - HT.sIx w.length 0 lo)).map f := by
  unfold cutD
  rw [List.length_map, List.map_take, List.map_drop]
theorem cut_from {α : Type} {f : α → D} {w : List α} {k : Nat} (h : k ≤ w.length) : D.cut (.tup (w.map f)) (some (k : Int)) none = some (.tup ((w.drop k).map f)) := by
  show some (D.tup (cutD _ _ _)) = _
  rw [cutD_map, HT.sIx_none, HT.sIx_nat, Nat.min_eq_left h, List.take_of_length_le (by rw [List.length_drop]; exact Nat.le_refl _)]
theorem cut_to {α : Type} {f : α → D} {w : List α} {k : Nat} : D.cut (.tup (w.map f)) none (some (k : Int)) = some (.tup ((w.take k).map f)) := by
  show some (D.tup (cutD _ _ _)) = _
  rw [cutD_map, HT.sIx_none, HT.sIx_nat]
  rw [Nat.min_def, Nat.sub_zero, List.drop_zero]
  split
  · rfl
  · rw [List.take_of_length_le (Nat.le_refl _), List.take_of_length_le (by omega)]
end Wk
set_option maxHeartbeats 4000000
/-! Wk19: enumerate of a list. -/
namespace Wk
open PySem PySem.Spec PyProof.Rows L2
section
variable {X : Cx} {W : WN} {en : En} {pos : Pos} {a : Expr} {ma : R D}
def enumD (xs : List D) : List D := xs.mapIdx fun i x => .tup [.int (i : Nat), x]
theorem wlk_E {K : PySem.W.Frag} {G : Hp} {p : Addr} {vs : List V} {ds : List D} (h : Rd G p (.lst vs)) (r : RpAll K G vs ds) : Wlk K (Ite K p) G (enumD ds) := by
  refine ⟨fun G' H' l k => ⟨vs, .inl (k.le _ _ rfl (l _ _ rfl h)), ?_⟩, fun i d e G' H' l k => ?_⟩
  · rw [r.len]; unfold enumD; simp
  · unfold enumD at e
    rw [List.getElem?_mapIdx] at e
    obtain ⟨d0, e0, rfl⟩ := Option.map_eq_some_iff.mp e
    obtain ⟨u, hu, ru⟩ := r.at_ (i := i) (by show atI ds (i : Int) = some d0; unfold atI ixN; rw [if_pos (by omega), if_pos (by have := (List.getElem?_eq_some_iff.mp e0).1; omega)]; simpa using e0)
    have hv : vs[i]? = some u := by
      unfold atI ixN at hu
      rw [if_pos (by omega)] at hu
      split at hu
      · simpa using hu
      · simp at hu
    refine ⟨⟨vs, u, .inl (k.le _ _ rfl (l _ _ rfl h)), hv⟩, fun x H'' y => ?_⟩
    obtain ⟨T, x', rfl, hT, rfl, hx⟩ := y
    have e2 : some u = some x' := hv.symm.trans (hx vs (.inl (k.le _ _ rfl (l _ _ rfl h))))
    cases e2
    have w := Grow.new (o := .tup [.int (i : Nat), u]) k hT rfl
    exact ⟨_, w, .tup (.inl (.inl upd_same)) (.cons (.int _) (.cons (ru.up (l.trans w.g)) .nil))⟩
def D.enum : D → Option (List D)
  | .lst xs => some (enumD xs)
  | _ => none
theorem xi_enum {p tpos : Pos} {elts : List Expr} {kk : Nat} (hm : X.mg "enumerate" = none) (h : XP X W a en ma) (hg : Gl X "enumerate" := by rfl) (hs : starEach [a] X.env = [(false, eval a X.env)] := by rfl) : XI X W (.Tuple elts kk tpos) (.Call (.Name "enumerate" p) [a] [] pos) en (ma.bnd fun x => R.of x.enum) := fun σ G H S Q k => by
  refine pi_to (pi_enum hg hm pa_w hs) (xa_1 h hs σ G H S _ (wp_bnd.mpr (wp_mono (wp_bnd.mp k) (fun d hd vs G1 H1 w1 r1 => ?_) fun _ z => z)))
  obtain ⟨ds, e, hd⟩ := wp_of hd
  unfold D.enum at e
  split at e
  · cases e
    cases r1 with
    | cons r1 r2 =>
      cases r2
      cases r1 with
      | lst h1 r => exact ⟨_, _, rfl, .inl (w1.up.le _ _ rfl h1), hd _ G1 H1 w1 (wlk_E h1 r)⟩
  · cases e
end
@[simp] theorem s_enum {xs : List D} : D.enum (.lst xs) = some (enumD xs) := by exact id rfl
end Wk
set_option maxHeartbeats 4000000
/-! Wk20: stores of what changes something, chains of comparisons as values. -/
namespace Wk
open PySem PySem.Spec PyProof.Rows L2
section
variable {X : Cx} {W : WN} {eE : En} {en : En} {ec : Nat → Addr} {pos : Pos} {γ δ ω : Type} {φ : γ → En} {a b c e : Expr} {es : List Expr} {T : Bs → ω → Ends → Prop} {rest : List Stmt}
/-- x[a] = e, x one's own, e may change something -/
theorem xb_putV {i : Nat} {bb : Bool} {p : Addr} {px ps' : Pos} {cn : γ → List D} {x : Str} {ma : γ → R D} {me : R (D × γ)} {k : List D → γ → R ω} (χ : List D → γ → En) (h : XV X W eE e en me φ) (ha : ∀ c, XP X W a (φ c) (ma c)) (hk : ∀ ds c, XB X W eE rest (χ ds c) (k ds c) T) (he : ∀ c, (φ c)[i]? = some (some (.o bb p (.l (cn c)))) := by intro _; rfl) (hφ : ∀ ds c, (φ c).set i (some (.o bb p (.l ds))) = χ ds c := by intro _ _; rfl) (we : ∀ c, Wk0 eE (φ c) := by intro _; exact wk0_nil)
    (hN : X.N[i]? = some x := by rfl) (hv : Vis X.env.scope x := by first | exact Or.inl rfl | exact Or.inr (Or.inl rfl) | exact Or.inr (Or.inr rfl)) (hd : (x == ("__debug__" : Str)) = false := by decide) (hcd : (x == ("__classdict__" : Str)) = false := by decide)
    (h0 : ∀ v, assign (.Subscript (.Name x px) a ps') X.env v = (do
      let ov ← holding [v] (eval (.Name x px) X.env)
      let iv ← holding [v, ov] (eval a X.env)
      standAt ps'
      holding [v, ov, iv] (setItem ov iv v)
      release [v, ov, iv] []) := by intro _; rfl)
    (h1 : swapsWithSole [.Subscript (.Name x px) a ps'] e pos.line X.env = pure false := by first | exact swaps_no rfl | exact swapsS_no rfl | rfl) (h2 : swappedStores [.Subscript (.Name x px) a ps'] e X.env = pure none := by rfl) (h3 : (assignEach [.Subscript (.Name x px) a ps'] X.env).map (·.2) = [assign (.Subscript (.Name x px) a ps') X.env] := by rfl) :
    XB X W eE (.Assign [.Subscript (.Name x px) a ps'] e pos :: rest) en (me.bnd2 fun d c => (ma c).bnd fun j => (R.of (setD (cn c) j d)).bnd fun l => k l c) T := fun B σ G H S D q => by
  refine pss_to (pss_cons (ps_asg pe_w (pg_sub (pe_var hN hv hd hcd) pe_w set_list h0) h1 h2 h3) pss_w) ?_
  refine h B σ G H S _ (wp_mono (wp_bnd.mp q) (fun r hd' v G1 H1 l1 S1 r1 => ?_) fun _ z => z)
  obtain ⟨d, c⟩ := r
  obtain ⟨e1, _, _, _, _⟩ := st_at S1 (he c)
  refine ⟨.ref p, e1, ?_⟩
  refine xp_run (ha c) S1 (we c) (wp_mono (wp_bnd.mp hd') (fun j hj u G2 H2 l2 S2 r2 => ?_) fun _ z => z)
  obtain ⟨ds', e2, hd2⟩ := wp_of (wp_bnd.mp hj)
  unfold setD at e2
  split at e2
  · rename_i j'
    obtain ⟨n, e3, rfl⟩ := Option.map_eq_some_iff.mp e2
    cases r2
    obtain ⟨_, _, us, hp3, r3⟩ := st_at S2 (he c)
    refine ⟨p, us, _, n, rfl, rfl, hp3, by rw [r3.len]; exact e3, ?_⟩
    have S3 := S2.mut (c' := .l ((cn c).set n d)) (o := .lst (us.set n v)) (he c) ⟨_, upd_same, r3.set (r1.up l2) n⟩
    rw [hφ] at S3
    exact hk _ c B σ G2 _ S3 D hd2
  · cases e2
/-- a chain as a value -/
theorem xp_chain {op op' : CmpOp} {r r' : R2} {f f' : D → D → Option Bool} {a b c : Expr} {ma mb mc : R D} (ho : OpR X (compareOp op) r) (ho' : OpR X (compareOp op') r') (hf : OpD X.K r (fun x y => (f x y).map .bl)) (hf' : OpD X.K r' (fun x y => (f' x y).map .bl)) (ha : XP X W a en ma) (hb : XP X W b en mb) (hc : XP X W c en mc)
    (hr : PE X (.Compare a [op, op'] [b, c] pos) (tChain r r' (wE X a) (wE X b) (wE X c))) :
    XP X W (.Compare a [op, op'] [b, c] pos) en (ma.bnd fun x => mb.bnd fun y => (R.of (f x y)).bnd fun t => if t = true then mc.bnd fun z => (R.of (f' y z)).bnd fun t' => .ok (.bl t') else .ok (.bl false)) := fun σ G H S Q h => by
  refine pe_to hr (ha σ G H S _ (wp_mono (wp_bnd.mp h) (fun x hx v G1 H1 w1 r1 => ?_) fun _ z => z))
  refine hb σ G1 H1 (S.grow w1) _ (wp_mono (wp_bnd.mp hx) (fun y hy u G2 H2 w2 r2 => ?_) fun _ z G2 H2 w => z G2 H2 (w1.trans w))
  obtain ⟨t, e, hd⟩ := wp_of (wp_bnd.mp hy)
  refine hf G2 H2 v u x y (.bl t) w2.up (r1.up w2.g) r2 (by show (f x y).map _ = _; rw [e]; rfl) _ fun v3 G3 H3 w3 r3 => ?_
  cases r3
  refine ⟨t, rfl, ?_⟩
  cases t with
  | false => exact hd _ G3 H3 ((w1.trans w2).trans w3) (.bl _)
  | true =>
    refine hc σ G3 H3 (((S.grow w1).grow w2).grow w3) _ (wp_mono (wp_bnd.mp hd) (fun z hz u4 G4 H4 w4 r4 => ?_) fun _ z G2 H2 w => z G2 H2 (((w1.trans w2).trans w3).trans w))
    obtain ⟨t', e', hd'⟩ := wp_of (wp_bnd.mp hz)
    exact hf' G4 H4 u u4 y z (.bl t') w4.up (r2.up (w3.g.trans w4.g)) r4 (by show (f' y z).map _ = _; rw [e']; rfl) Q fun v5 G5 H5 w5 r5 => hd' v5 G5 H5 ((((w1.trans w2).trans w3).trans w4).trans w5) r5
end
end Wk
set_option maxHeartbeats 4000000
/-! Wk21: enumerate(zip(a, b), start). A zip whose last pair may still be out, or gone, or none made yet. -/
namespace Wk
open PySem PySem.Spec PyProof.Rows L2
abbrev Zp (h : Heap) (z TI TO : Addr) (f0 : Value) (f : Bool) : Prop :=
  h.get? z = some { cls := .type "zip", dict := none, data := .fields #[f0, .bool f, .bool false, .ref TI, .ref TO], slots := #[] }
def Zok (f0 : Value) : Prop := f0 = .none ∨ ∃ T : Addr, f0 = rawInt T
section
variable {prog : Program} {w : World} {A : Around} {E : Value → Shared → Prop} {s : Shared}
theorem dead_load {a : Addr} {Q : Option Obj → Shared → Prop} (h : Q (s.heap.get? a) s) : wpAny (model prog w) A (loadIfAlive a) Q E s := fun _ _ _ => h
theorem freeOr {z TI TO : Addr} {f0 : Value} {f : Bool} {Q : Bool → Shared → Prop} (hz : Zp s.heap z TI TO f0 f) (h0 : Zok f0) (hT : Q true s)
    (hF : ∀ h', Zp h' z TI TO f0 true → Heap.SameBut z s.heap h' → Q false { s with heap := h' }) : wpAny (model prog w) A (Builtin.SmallTypes.ownedTupleIsFree (.ref z)) Q E s := by
  unfold Builtin.SmallTypes.ownedTupleIsFree
  rcases h0 with rfl | ⟨T, rfl⟩
  · exact wpAny_bind (wpAny_field hz rfl (x := .none) rfl (wpAny_pure hT))
  · refine wpAny_bind (wpAny_field hz rfl (x := rawInt T) rfl ?_)
    show wpAny _ _ (loadIfAlive ((T : Int).toNat) >>= _) _ _ _
    rw [Int.toNat_natCast]
    refine wpAny_bind (dead_load ?_)
    cases s.heap.get? T with
    | none =>
      simp only [Option.isNone_none, if_true]
      exact wpAny_pure hT
    | some oT =>
      simp only [Option.isNone_some, Bool.false_eq_true, if_false]
      refine wpAny_bind (wpAny_field hz rfl (x := .bool f) rfl ?_)
      cases f with
      | true =>
        rw [if_neg (show ¬ ((Value.bool true != Value.bool true) = true) from Bool.false_ne_true)]
        exact wpAny_pure (hF s.heap hz (Heap.SameBut.refl _ _))
      | false =>
        rw [if_pos (show (Value.bool false != Value.bool true) = true from rfl)]
        exact wpAny_bind (wpAny_setField_rec hz (by simp) fun h₁ hz₁ hs₁ => wpAny_pure (hF h₁ hz₁ hs₁))
theorem zipN_item {z TI TO i1 i2 l1 l2 : Addr} {f0 : Value} {f : Bool} {k1 k2 : Nat} {xs ys : Array Value} {x y a b : Value} {Q : Value → Shared → Prop} (D : ZipApart z TI TO i1 i2 l1 l2)
    (hz : Zp s.heap z TI TO f0 f) (h0 : Zok f0) (hTI : IsPair s.heap TI (.ref i1) (.ref i2)) (hTO : IsPair s.heap TO a b)
    (h1 : s.heap.IsListIter i1 l1 k1) (h2 : s.heap.IsListIter i2 l2 k2) (hl1 : s.heap.IsList l1 xs) (hl2 : s.heap.IsList l2 ys) (hx : xs[k1]? = some x) (hy : ys[k2]? = some y)
    (hQ : ∀ h' f1 g, Zp h' z TI TO f1 g → Zok f1 → (∃ a b, IsPair h' TO a b) → h'.IsListIter i1 l1 (k1 + 1) → h'.IsListIter i2 l2 (k2 + 1) → IsPair h' s.heap.objs.size x y → h'.objs.size = s.heap.objs.size + 1 →
      (∀ c o, c ≠ z → c ≠ TO → c ≠ i1 → c ≠ i2 → s.heap.get? c = some o → h'.get? c = some o) → Q (.ref s.heap.objs.size) { s with heap := h' }) :
    wpAny (model prog w) A (Builtin.«zip.__next__» ⟨[.ref z], []⟩) (fun fin s' => ∃ v, fin = .done (.ret v) ∧ Q v s') E s := by
  show wpAny _ _ (field (.ref z) 2 >>= _) _ _ _
  refine wpAny_bind (wpAny_field hz rfl (x := .bool false) rfl ?_)
  show wpAny _ _ (field (.ref z) 3 >>= _) _ _ _
  refine wpAny_bind (wpAny_field hz rfl (x := .ref TI) rfl (wpAny_bind (wpAny_seqItems hTI rfl ?_)))
  show wpAny _ _ (Builtin.SmallTypes.ownedTupleIsFree (.ref z) >>= _) _ _ _
  refine wpAny_bind (freeOr hz h0 ?_ fun h₁ hz₁ hs₁ => ?_)
  · simp only [if_true]
    refine wpAny_bind (wpAny_rule (wpAny_bind (wpAny_field hz rfl (x := .ref TO) rfl (wpAny_bind (wpAny_setField_rec hz (by simp) fun h₁ hz₁ hs₁ => ?_)))))
    replace hz₁ : Zp h₁ z TI TO .ellipsis f := hz₁
    refine wpAny_bind ?_
    simp only [List.zipIdx_cons, List.zipIdx_nil, List.forIn_cons, List.forIn_nil]
    refine wpAny_bind (wpAny_bind (wpAny_onRaise ?_))
    show wpAny _ _ (Builtin.SmallTypes.nextOf (.ref i1) >>= _) _ _ _
    refine wpAny_bind (wpAny_nextOf_list_item (h1.extBut hs₁.extBut D.i1z) (hl1.extBut hs₁.extBut D.l1z) hx fun h₂ h1₂ hs₂ => wpAny_pure ?_)
    have hTO₂ : IsPair h₂ TO a b := hs₂.extBut _ _ D.TOi1 (hs₁.extBut _ _ D.TOz hTO)
    refine wpAny_bind (wpAny_seqItems hTO₂ rfl (wpAny_bind (wpAny_updateSeq_pair hTO₂ fun h₃ hTO₃ hs₃ => ?_)))
    replace hTO₃ : IsPair h₃ TO x b := hTO₃
    refine wpAny_bind (wpAny_letGo (wpAny_pure (wpAny_bind (wpAny_bind (wpAny_onRaise ?_)))))
    show wpAny _ _ (Builtin.SmallTypes.nextOf (.ref i2) >>= _) _ _ _
    refine wpAny_bind (wpAny_nextOf_list_item (((h2.extBut hs₁.extBut D.i2z).extBut hs₂.extBut D.i12.symm).extBut hs₃.extBut D.TOi2.symm)
      (((hl2.extBut hs₁.extBut D.l2z).extBut hs₂.extBut D.l2i1).extBut hs₃.extBut D.l2TO) hy fun h₄ h2₄ hs₄ => wpAny_pure ?_)
    have hTO₄ : IsPair h₄ TO x b := hs₄.extBut _ _ D.TOi2 hTO₃
    refine wpAny_bind (wpAny_seqItems hTO₄ rfl (wpAny_bind (wpAny_updateSeq_pair hTO₄ fun h₅ hTO₅ hs₅ => ?_)))
    replace hTO₅ : IsPair h₅ TO x y := hTO₅
    refine wpAny_bind (wpAny_letGo (wpAny_pure (wpAny_pure (wpAny_bind (wpAny_seqItems hTO₅ rfl (wpAny_bind (wpAny_newTuple ?_)))))))
    have hsz : h₅.objs.size = s.heap.objs.size := by rw [hs₅.1, hs₄.1, hs₃.1, hs₂.1, hs₁.1]
    have hz₅ : Zp h₅ z TI TO .ellipsis f := hs₅.extBut _ _ D.TOz.symm (hs₄.extBut _ _ D.i2z.symm (hs₃.extBut _ _ D.TOz.symm (hs₂.extBut _ _ D.i1z.symm hz₁)))
    have hk₅ : ∀ c o, c ≠ z → c ≠ TO → c ≠ i1 → c ≠ i2 → s.heap.get? c = some o → h₅.get? c = some o := fun c o c1 c2 c3 c4 e =>
      hs₅.extBut _ _ c2 (hs₄.extBut _ _ c4 (hs₃.extBut _ _ c2 (hs₂.extBut _ _ c3 (hs₁.extBut _ _ c1 e))))
    have h1₅ : h₅.IsListIter i1 l1 (k1 + 1) := ((h1₂.extBut hs₃.extBut D.TOi1.symm).extBut hs₄.extBut D.i12).extBut hs₅.extBut D.TOi1.symm
    have h2₅ : h₅.IsListIter i2 l2 (k2 + 1) := h2₄.extBut hs₅.extBut D.TOi2.symm
    have hzlt : z < h₅.objs.size := Heap.lt_size hz₅
    show wpAny _ _ (Builtin.SmallTypes.ownedTupleHandOut (.ref z) (.ref h₅.objs.size) >>= _) _ _ _
    refine wpAny_bind ?_
    unfold Builtin.SmallTypes.ownedTupleHandOut
    have hz₆ : Zp (h₅.push { cls := .type "tuple", data := .seq #[x, y] }) z TI TO .ellipsis f := Heap.get?_push_of_some _ hz₅
    refine wpAny_bind (wpAny_setField_rec hz₆ (by simp) fun h₇ hz₇ hs₇ => ?_)
    replace hz₇ : Zp h₇ z TI TO (rawInt h₅.objs.size) f := hz₇
    refine wpAny_setField_rec hz₇ (by simp) fun h₈ hz₈ hs₈ => ?_
    replace hz₈ : Zp h₈ z TI TO (rawInt h₅.objs.size) false := hz₈
    have up : ∀ c o, c ≠ z → h₅.get? c = some o → h₈.get? c = some o := fun c o c1 e => hs₈.extBut _ _ c1 (hs₇.extBut _ _ c1 (Heap.get?_push_of_some _ e))
    have hT₈ : IsPair h₈ h₅.objs.size x y := hs₈.extBut _ _ (Nat.ne_of_gt hzlt) (hs₇.extBut _ _ (Nat.ne_of_gt hzlt) (Heap.get?_push_size _ rfl))
    have hz8 : h₈.objs.size = h₅.objs.size + 1 := by rw [hs₈.1, hs₇.1, Heap.size_push]
    rw [hsz] at hz₈ hT₈ hz8
    refine wpAny_pure ⟨_, rfl, ?_⟩
    show Q (.ref h₅.objs.size) _
    rw [hsz]
    exact hQ h₈ _ _ hz₈ (.inr ⟨_, rfl⟩) ⟨_, _, up _ _ D.TOz hTO₅⟩ (h1₅.at fun o e => up _ o D.i1z e) (h2₅.at fun o e => up _ o D.i2z e) hT₈ hz8 fun c o c1 c2 c3 c4 e => up c o c1 (hk₅ c o c1 c2 c3 c4 e)
  · simp only [Bool.false_eq_true, if_false]
    refine wpAny_bind ?_
    rw [← Array.forIn_toList]
    simp only [List.forIn_cons, List.forIn_nil]
    refine wpAny_bind (wpAny_bind (wpAny_holding ?_))
    show wpAny _ _ (Builtin.SmallTypes.nextOf (.ref i1) >>= _) _ _ _
    refine wpAny_bind (wpAny_nextOf_list_item (s := { s with heap := h₁ }) (h1.extBut hs₁.extBut D.i1z) (hl1.extBut hs₁.extBut D.l1z) hx fun h₂ h1₂ hs₂ => wpAny_pure (wpAny_pure ?_))
    refine wpAny_bind (wpAny_bind (wpAny_holding ?_))
    show wpAny _ _ (Builtin.SmallTypes.nextOf (.ref i2) >>= _) _ _ _
    refine wpAny_bind (wpAny_nextOf_list_item (s := { s with heap := h₂ }) ((h2.extBut hs₁.extBut D.i2z).extBut hs₂.extBut D.i12.symm) ((hl2.extBut hs₁.extBut D.l2z).extBut hs₂.extBut D.l2i1) hy fun h₃ h2₃ hs₃ => wpAny_pure (wpAny_pure (wpAny_pure ?_)))
    show wpAny _ _ (newTuple [x, y] >>= _) _ _ _
    refine wpAny_bind (wpAny_newTuple ?_)
    have hsz : h₃.objs.size = s.heap.objs.size := by rw [hs₃.1, hs₂.1, hs₁.1]
    have hz₃ : Zp h₃ z TI TO f0 true := hs₃.extBut _ _ D.i2z.symm (hs₂.extBut _ _ D.i1z.symm hz₁)
    have hk : ∀ c o, c ≠ z → c ≠ i1 → c ≠ i2 → s.heap.get? c = some o → h₃.get? c = some o := fun c o c1 c2 c3 e => hs₃.extBut _ _ c3 (hs₂.extBut _ _ c2 (hs₁.extBut _ _ c1 e))
    have h1₃ : h₃.IsListIter i1 l1 (k1 + 1) := h1₂.extBut hs₃.extBut D.i12
    refine wpAny_pure ⟨_, rfl, ?_⟩
    show Q (.ref h₃.objs.size) _
    have hp : IsPair (h₃.push { cls := .type "tuple", data := .seq #[x, y] }) h₃.objs.size x y := Heap.get?_push_size _ rfl
    have hz4 : (h₃.push { cls := .type "tuple", data := .seq #[x, y] }).objs.size = h₃.objs.size + 1 := Heap.size_push ..
    rw [hsz] at hp hz4 ⊢
    exact hQ _ _ _ (Heap.get?_push_of_some _ hz₃) h0 ⟨a, b, Heap.get?_push_of_some _ (hk _ _ D.TOz D.TOi1 D.TOi2 hTO)⟩ (h1₃.at fun o e => Heap.get?_push_of_some _ e) (h2₃.at fun o e => Heap.get?_push_of_some _ e) hp hz4 fun c o c1 _ c2 c3 e => Heap.get?_push_of_some _ (hk c o c1 c2 c3 e)
theorem zipN_end {z TI TO i1 i2 l1 l2 : Addr} {f0 : Value} {f : Bool} {k1 k2 : Nat} {xs ys : Array Value} {a b : Value} {Q : Fin → Shared → Prop} (hh : A.handled = none) (D : ZipApart z TI TO i1 i2 l1 l2)
    (hz : Zp s.heap z TI TO f0 f) (h0 : Zok f0) (hTI : IsPair s.heap TI (.ref i1) (.ref i2)) (hTO : IsPair s.heap TO a b)
    (h1 : s.heap.IsListIter i1 l1 k1) (h2 : s.heap.IsListIter i2 l2 k2) (hl1 : s.heap.IsList l1 xs) (hl2 : s.heap.IsList l2 ys) (hend : xs[k1]? = none ∨ ys[k2]? = none)
    (hE : ∀ h' e, (∀ c o, c ≠ z → c ≠ TO → c ≠ i1 → c ≠ i2 → s.heap.get? c = some o → h'.get? c = some o) → (∃ o, h'.get? e = some o ∧ o.cls = .type "StopIteration") → E (.ref e) { s with heap := h' }) :
    wpAny (model prog w) A (Builtin.«zip.__next__» ⟨[.ref z], []⟩) Q E s := by
  show wpAny _ _ (field (.ref z) 2 >>= _) _ _ _
  refine wpAny_bind (wpAny_field hz rfl (x := .bool false) rfl ?_)
  show wpAny _ _ (field (.ref z) 3 >>= _) _ _ _
  refine wpAny_bind (wpAny_field hz rfl (x := .ref TI) rfl (wpAny_bind (wpAny_seqItems hTI rfl ?_)))
  show wpAny _ _ (Builtin.SmallTypes.ownedTupleIsFree (.ref z) >>= _) _ _ _
  refine wpAny_bind (freeOr hz h0 ?_ fun h₁ hz₁ hs₁ => ?_)
  · simp only [if_true]
    refine wpAny_bind (wpAny_rule (wpAny_bind (wpAny_field hz rfl (x := .ref TO) rfl (wpAny_bind (wpAny_setField_rec hz (by simp) fun h₁ hz₁ hs₁ => ?_)))))
    replace hz₁ : Zp h₁ z TI TO .ellipsis f := hz₁
    refine wpAny_bind ?_
    simp only [List.zipIdx_cons, List.zipIdx_nil, List.forIn_cons, List.forIn_nil]
    refine wpAny_bind (wpAny_bind (wpAny_onRaise ?_))
    show wpAny _ _ (Builtin.SmallTypes.nextOf (.ref i1) >>= _) _ _ _
    cases hx : xs[k1]? with
    | none =>
      refine wpAny_bind (wpAny_nextOf_list_end hh (h1.extBut hs₁.extBut D.i1z) (hl1.extBut hs₁.extBut D.l1z) hx fun h₂ e hs₂ he => ?_)
      obtain ⟨oe, hoe, hce⟩ := he
      have hz₂ : Zp h₂ z TI TO .ellipsis f := hs₂ _ _ D.i1z.symm hz₁
      have hez : e ≠ z := fun x => by subst x; rw [hz₂] at hoe; cases hoe; simp at hce
      refine wpAny_setField_rec hz₂ (by simp) fun h₃ _ hs₃ => hE h₃ e (fun c o c1 _ c3 _ x => hs₃.extBut _ _ c1 (hs₂ _ _ c3 (hs₁.extBut _ _ c1 x))) ⟨oe, hs₃.extBut _ _ hez hoe, hce⟩
    | some x =>
      have hy : ys[k2]? = none := by rcases hend with h | h; rw [hx] at h; cases h; exact h
      refine wpAny_bind (wpAny_nextOf_list_item (h1.extBut hs₁.extBut D.i1z) (hl1.extBut hs₁.extBut D.l1z) hx fun h₂ h1₂ hs₂ => wpAny_pure ?_)
      have hTO₂ : IsPair h₂ TO a b := hs₂.extBut _ _ D.TOi1 (hs₁.extBut _ _ D.TOz hTO)
      refine wpAny_bind (wpAny_seqItems hTO₂ rfl (wpAny_bind (wpAny_updateSeq_pair hTO₂ fun h₃ hTO₃ hs₃ => wpAny_bind (wpAny_letGo (wpAny_pure (wpAny_bind (wpAny_bind (wpAny_onRaise ?_))))))))
      show wpAny _ _ (Builtin.SmallTypes.nextOf (.ref i2) >>= _) _ _ _
      refine wpAny_bind (wpAny_nextOf_list_end hh (((h2.extBut hs₁.extBut D.i2z).extBut hs₂.extBut D.i12.symm).extBut hs₃.extBut D.TOi2.symm)
        (((hl2.extBut hs₁.extBut D.l2z).extBut hs₂.extBut D.l2i1).extBut hs₃.extBut D.l2TO) hy fun h₄ e hs₄ he => ?_)
      obtain ⟨oe, hoe, hce⟩ := he
      have hz₄ : Zp h₄ z TI TO .ellipsis f := hs₄ _ _ D.i2z.symm (hs₃.extBut _ _ D.TOz.symm (hs₂.extBut _ _ D.i1z.symm hz₁))
      have hez : e ≠ z := fun x => by subst x; rw [hz₄] at hoe; cases hoe; simp at hce
      refine wpAny_setField_rec hz₄ (by simp) fun h₅ _ hs₅ => hE h₅ e (fun c o c1 c2 c3 c4 x => hs₅.extBut _ _ c1 (hs₄ _ _ c4 (hs₃.extBut _ _ c2 (hs₂.extBut _ _ c3 (hs₁.extBut _ _ c1 x))))) ⟨oe, hs₅.extBut _ _ hez hoe, hce⟩
  · simp only [Bool.false_eq_true, if_false]
    refine wpAny_bind ?_
    rw [← Array.forIn_toList]
    simp only [List.forIn_cons, List.forIn_nil]
    refine wpAny_bind (wpAny_bind (wpAny_holding ?_))
    show wpAny _ _ (Builtin.SmallTypes.nextOf (.ref i1) >>= _) _ _ _
    cases hx : xs[k1]? with
    | none =>
      refine wpAny_bind (wpAny_nextOf_list_end (s := { s with heap := h₁ }) hh (h1.extBut hs₁.extBut D.i1z) (hl1.extBut hs₁.extBut D.l1z) hx fun h₂ e hs₂ he => ?_)
      exact hE h₂ e (fun c o c1 _ c2 _ x => hs₂ _ _ c2 (hs₁.extBut _ _ c1 x)) he
    | some x =>
      have hy : ys[k2]? = none := by rcases hend with h | h; rw [hx] at h; cases h; exact h
      refine wpAny_bind (wpAny_nextOf_list_item (s := { s with heap := h₁ }) (h1.extBut hs₁.extBut D.i1z) (hl1.extBut hs₁.extBut D.l1z) hx fun h₂ h1₂ hs₂ => wpAny_pure (wpAny_pure ?_))
      refine wpAny_bind (wpAny_bind (wpAny_holding ?_))
      show wpAny _ _ (Builtin.SmallTypes.nextOf (.ref i2) >>= _) _ _ _
      refine wpAny_bind (wpAny_nextOf_list_end (s := { s with heap := h₂ }) hh ((h2.extBut hs₁.extBut D.i2z).extBut hs₂.extBut D.i12.symm) ((hl2.extBut hs₁.extBut D.l2z).extBut hs₂.extBut D.l2i1) hy fun h₃ e hs₃ he => ?_)
      exact hE h₃ e (fun c o c1 _ c2 c3 x => hs₃ _ _ c3 (hs₂.extBut _ _ c2 (hs₁.extBut _ _ c1 x))) he
theorem nextZ_item {z TI TO i1 i2 l1 l2 : Addr} {f0 : Value} {f : Bool} {k1 k2 : Nat} {xs ys : Array Value} {x y a b : Value} {Q : Value → Shared → Prop} (D : ZipApart z TI TO i1 i2 l1 l2)
    (hz : Zp s.heap z TI TO f0 f) (h0 : Zok f0) (hTI : IsPair s.heap TI (.ref i1) (.ref i2)) (hTO : IsPair s.heap TO a b)
    (h1 : s.heap.IsListIter i1 l1 k1) (h2 : s.heap.IsListIter i2 l2 k2) (hl1 : s.heap.IsList l1 xs) (hl2 : s.heap.IsList l2 ys) (hx : xs[k1]? = some x) (hy : ys[k2]? = some y)
    (hQ : ∀ h' f1 g, Zp h' z TI TO f1 g → Zok f1 → (∃ a b, IsPair h' TO a b) → h'.IsListIter i1 l1 (k1 + 1) → h'.IsListIter i2 l2 (k2 + 1) → IsPair h' s.heap.objs.size x y → h'.objs.size = s.heap.objs.size + 1 →
      (∀ c o, c ≠ z → c ≠ TO → c ≠ i1 → c ≠ i2 → s.heap.get? c = some o → h'.get? c = some o) → Q (.ref s.heap.objs.size) { s with heap := h' }) :
    wpAny (model prog w) A (Builtin.SmallTypes.nextOf (.ref z)) Q E s := by
  have hTy : s.TypeIs (.ref z) "zip" := ⟨_, hz, rfl⟩
  unfold Builtin.SmallTypes.nextOf
  exact wpAny_bind (wpAny_callSpecial?_slot (name := Str.ofString "__next__") hTy F.slot_zip_next (wpAny_call_entry F.slot_zip_next hTy F.entry_zip_next
    (zipN_item D hz h0 hTI hTO h1 h2 hl1 hl2 hx hy fun h' f1 g a1 a2 a3 a4 a5 a6 a7 a8 => wpAny_pure (hQ h' f1 g a1 a2 a3 a4 a5 a6 a7 a8)) (F.args_zip_next_1 _)))
theorem nextZ_end {z TI TO i1 i2 l1 l2 : Addr} {f0 : Value} {f : Bool} {k1 k2 : Nat} {xs ys : Array Value} {a b : Value} {Q : Value → Shared → Prop} (hh : A.handled = none) (D : ZipApart z TI TO i1 i2 l1 l2)
    (hz : Zp s.heap z TI TO f0 f) (h0 : Zok f0) (hTI : IsPair s.heap TI (.ref i1) (.ref i2)) (hTO : IsPair s.heap TO a b)
    (h1 : s.heap.IsListIter i1 l1 k1) (h2 : s.heap.IsListIter i2 l2 k2) (hl1 : s.heap.IsList l1 xs) (hl2 : s.heap.IsList l2 ys) (hend : xs[k1]? = none ∨ ys[k2]? = none)
    (hE : ∀ h' e, (∀ c o, c ≠ z → c ≠ TO → c ≠ i1 → c ≠ i2 → s.heap.get? c = some o → h'.get? c = some o) → (∃ o, h'.get? e = some o ∧ o.cls = .type "StopIteration") → E (.ref e) { s with heap := h' }) :
    wpAny (model prog w) A (Builtin.SmallTypes.nextOf (.ref z)) Q E s := by
  have hTy : s.TypeIs (.ref z) "zip" := ⟨_, hz, rfl⟩
  unfold Builtin.SmallTypes.nextOf
  exact wpAny_bind (wpAny_callSpecial?_slot (name := Str.ofString "__next__") hTy F.slot_zip_next (wpAny_call_entry F.slot_zip_next hTy F.entry_zip_next
    (zipN_end hh D hz h0 hTI hTO h1 h2 hl1 hl2 hend hE) (F.args_zip_next_1 _)))
end
end Wk
set_option maxHeartbeats 4000000
/-! Wk22: enumerate's next over a zip. -/
namespace Wk
open PySem PySem.Spec PyProof.Rows L2
section
variable {prog : Program} {w : World} {A : Around} {E : Value → Shared → Prop} {s : Shared}
theorem enumZ_item {e z TI TO i1 i2 l1 l2 : Addr} {c : Int} {old f0 : Value} {f : Bool} {k1 k2 : Nat} {xs ys : Array Value} {x y a b : Value} {Q : Value → Shared → Prop} (D : ZipApart z TI TO i1 i2 l1 l2)
    (he : IsEnum s.heap e z c old) (n0 : e ≠ z) (n1 : e ≠ TI) (n2 : e ≠ TO) (n3 : e ≠ i1) (n4 : e ≠ i2)
    (hz : Zp s.heap z TI TO f0 f) (h0 : Zok f0) (hTI : IsPair s.heap TI (.ref i1) (.ref i2)) (hTO : IsPair s.heap TO a b)
    (h1 : s.heap.IsListIter i1 l1 k1) (h2 : s.heap.IsListIter i2 l2 k2) (hl1 : s.heap.IsList l1 xs) (hl2 : s.heap.IsList l2 ys) (hx : xs[k1]? = some x) (hy : ys[k2]? = some y)
    (hQ : ∀ h' tk f1 g, IsEnumOut h' e z (c + 1) (.ref s.heap.objs.size) (s.heap.objs.size + 1) → Zp h' z TI TO f1 g → Zok f1 → (∃ a b, IsPair h' TO a b) → h'.IsListIter i1 l1 (k1 + 1) → h'.IsListIter i2 l2 (k2 + 1) →
      IsPair h' s.heap.objs.size x y → h'.get? (s.heap.objs.size + 1) = some { cls := .type "tuple", data := .seq #[.int c tk, .ref s.heap.objs.size] } → h'.objs.size = s.heap.objs.size + 2 →
      (∀ b o, b ≠ e → b ≠ z → b ≠ TO → b ≠ i1 → b ≠ i2 → s.heap.get? b = some o → h'.get? b = some o) → Q (.ref (s.heap.objs.size + 1)) { s with heap := h', toks := tk + 1 }) :
    wpAny (model prog w) A (Builtin.«enumerate.__next__» ⟨[.ref e], []⟩) (fun fin s' => ∃ v, fin = .done (.ret v) ∧ Q v s') E s := by
  obtain ⟨hp, g, d, tk, os⟩ := s
  show wpAny _ _ (field (.ref e) 2 >>= _) _ _ _
  refine wpAny_bind (wpAny_field he rfl (x := .ref z) rfl ?_)
  refine wpAny_bind (nextZ_item D hz h0 hTI hTO h1 h2 hl1 hl2 hx hy fun h₁ f1 gg a1 a2 a3 a4 a5 a6 a7 a8 => ?_)
  have hel : e < hp.objs.size := Heap.lt_size he
  have he₁ : IsEnum h₁ e z c old := a8 e _ n0 n2 n3 n4 he
  show wpAny _ _ (field (.ref e) 3 >>= _) _ _ ⟨h₁, g, d, tk, os⟩
  refine wpAny_bind (wpAny_field he₁ rfl (x := rawInt c) rfl ?_)
  show wpAny _ _ (field (.ref e) 4 >>= _) _ _ ⟨h₁, g, d, tk, os⟩
  refine wpAny_bind (wpAny_field he₁ rfl (x := .none) rfl ?_)
  show wpAny _ _ (mkInt c >>= _) _ _ ⟨h₁, g, d, tk, os⟩
  refine wpAny_bind (wpAny_mkInt ?_)
  show wpAny _ _ (setField (.ref e) 3 (rawInt (c + 1)) >>= _) _ _ ⟨h₁, g, d, tk + 1, os⟩
  refine wpAny_bind (wpAny_setField_rec he₁ (by simp) fun h₂ he₂ hs₂ => ?_)
  replace hs₂ : Heap.SameBut e h₁ h₂ := hs₂
  replace he₂ : IsEnum h₂ e z (c + 1) old := he₂
  show wpAny _ _ (setField (.ref e) 4 .none >>= _) _ _ ⟨h₂, g, d, tk + 1, os⟩
  refine wpAny_bind (wpAny_setField_rec he₂ (by simp) fun h₃ he₃ hs₃ => ?_)
  replace hs₃ : Heap.SameBut e h₂ h₃ := hs₃
  replace he₃ : IsEnum h₃ e z (c + 1) old := he₃
  show wpAny _ _ (newTuple [.int c tk, .ref hp.objs.size] >>= _) _ _ ⟨h₃, g, d, tk + 1, os⟩
  refine wpAny_bind (wpAny_newTuple ?_)
  have he₄ : IsEnum (h₃.push { cls := .type "tuple", data := .seq #[.int c tk, .ref hp.objs.size] }) e z (c + 1) old := Heap.get?_push_of_some _ he₃
  generalize hh₄ : h₃.push { cls := .type "tuple", data := .seq #[.int c tk, .ref hp.objs.size] } = h₄ at he₄
  have hsz : h₃.objs.size = hp.objs.size + 1 := by rw [hs₃.1, hs₂.1]; exact a7
  have ht₄ : h₄.get? (hp.objs.size + 1) = some { cls := .type "tuple", data := .seq #[.int c tk, .ref hp.objs.size] } := by rw [← hh₄, ← hsz]; exact Heap.get?_push_size _ rfl
  have hz₄ : h₄.objs.size = hp.objs.size + 2 := by rw [← hh₄, Heap.size_push, hsz]
  have up₄ : ∀ b o, b ≠ e → h₁.get? b = some o → h₄.get? b = some o := fun b o hbe hb => by
    rw [← hh₄]; exact Heap.get?_push_of_some _ (hs₃.extBut b o hbe (hs₂.extBut b o hbe hb))
  show wpAny _ _ (Builtin.SmallTypes.ownedTupleIsFree (.ref e) >>= _) _ _ ⟨h₄, g, d, tk + 1, os⟩
  rw [hsz]
  refine wpAny_bind ?_
  unfold Builtin.SmallTypes.ownedTupleIsFree
  refine wpAny_bind (wpAny_field he₄ rfl (x := .none) rfl (wpAny_pure ?_))
  simp only [if_true]
  refine wpAny_bind (wpAny_rule (wpAny_bind (wpAny_field he₄ rfl (x := old) rfl (wpAny_bind (wpAny_setField_rec he₄ (by simp) fun h₅ he₅ hs₅ => ?_)))))
  replace hs₅ : Heap.SameBut e h₄ h₅ := hs₅
  replace he₅ : IsEnum h₅ e z (c + 1) (.ref hp.objs.size) := he₅
  show wpAny _ _ (Builtin.SmallTypes.ownedTupleHandOut (.ref e) (.ref (hp.objs.size + 1)) >>= _) _ _ ⟨h₅, g, d, tk + 1, os⟩
  refine wpAny_bind ?_
  unfold Builtin.SmallTypes.ownedTupleHandOut
  refine wpAny_bind (wpAny_setField_rec he₅ (by simp) fun h₆ he₆ hs₆ => ?_)
  replace hs₆ : Heap.SameBut e h₅ h₆ := hs₆
  replace he₆ : IsEnumOut h₆ e z (c + 1) (.ref hp.objs.size) (hp.objs.size + 1) := he₆
  refine wpAny_setField_rec he₆ (by simp) fun h₇ he₇ hs₇ => ?_
  replace hs₇ : Heap.SameBut e h₆ h₇ := hs₇
  replace he₇ : IsEnumOut h₇ e z (c + 1) (.ref hp.objs.size) (hp.objs.size + 1) := he₇
  have up : ∀ b o, b ≠ e → h₁.get? b = some o → h₇.get? b = some o := fun b o hbe hb => hs₇.extBut b o hbe (hs₆.extBut b o hbe (hs₅.extBut b o hbe (up₄ b o hbe hb)))
  have tup₇ := hs₇.extBut _ _ (Nat.ne_of_gt (Nat.lt_succ_of_lt hel)) (hs₆.extBut _ _ (Nat.ne_of_gt (Nat.lt_succ_of_lt hel)) (hs₅.extBut _ _ (Nat.ne_of_gt (Nat.lt_succ_of_lt hel)) ht₄))
  obtain ⟨a', b', a3⟩ := a3
  exact wpAny_bind (wpAny_letGo (wpAny_pure ⟨_, rfl, hQ h₇ tk f1 gg he₇ (up _ _ (Ne.symm n0) a1) a2 ⟨_, _, up _ _ (Ne.symm n2) a3⟩ (a4.at fun o q => up _ o (Ne.symm n3) q) (a5.at fun o q => up _ o (Ne.symm n4) q)
    (up _ _ (Nat.ne_of_gt hel) a6) tup₇ (by rw [hs₇.1, hs₆.1, hs₅.1, hz₄]) fun b o c0 c1 c2 c3 c4 q => up b o c0 (a8 b o c1 c2 c3 c4 q)⟩))
theorem pyEnumZ_item {e z TI TO i1 i2 l1 l2 : Addr} {c : Int} {old f0 : Value} {f : Bool} {k1 k2 : Nat} {xs ys : Array Value} {x y a b : Value} {Q : Option Value → Shared → Prop} (D : ZipApart z TI TO i1 i2 l1 l2)
    (he : IsEnum s.heap e z c old) (n0 : e ≠ z) (n1 : e ≠ TI) (n2 : e ≠ TO) (n3 : e ≠ i1) (n4 : e ≠ i2)
    (hz : Zp s.heap z TI TO f0 f) (h0 : Zok f0) (hTI : IsPair s.heap TI (.ref i1) (.ref i2)) (hTO : IsPair s.heap TO a b)
    (h1 : s.heap.IsListIter i1 l1 k1) (h2 : s.heap.IsListIter i2 l2 k2) (hl1 : s.heap.IsList l1 xs) (hl2 : s.heap.IsList l2 ys) (hx : xs[k1]? = some x) (hy : ys[k2]? = some y)
    (hQ : ∀ h' tk f1 g, IsEnumOut h' e z (c + 1) (.ref s.heap.objs.size) (s.heap.objs.size + 1) → Zp h' z TI TO f1 g → Zok f1 → (∃ a b, IsPair h' TO a b) → h'.IsListIter i1 l1 (k1 + 1) → h'.IsListIter i2 l2 (k2 + 1) →
      IsPair h' s.heap.objs.size x y → h'.get? (s.heap.objs.size + 1) = some { cls := .type "tuple", data := .seq #[.int c tk, .ref s.heap.objs.size] } → h'.objs.size = s.heap.objs.size + 2 →
      (∀ b o, b ≠ e → b ≠ z → b ≠ TO → b ≠ i1 → b ≠ i2 → s.heap.get? b = some o → h'.get? b = some o) → Q (some (.ref (s.heap.objs.size + 1))) { s with heap := h', toks := tk + 1 }) :
    wpAny (model prog w) A (pyNext (.ref e)) Q E s := by
  have hTy : s.TypeIs (.ref e) "enumerate" := ⟨_, he, rfl⟩
  unfold pyNext
  exact wpAny_bind (wpAny_attempt (wpAny_callSpecial?_slot (name := Str.ofString "__next__") hTy F.slot_enumerate_next (wpAny_call_entry F.slot_enumerate_next hTy F.entry_enumerate_next
    (enumZ_item D he n0 n1 n2 n3 n4 hz h0 hTI hTO h1 h2 hl1 hl2 hx hy fun h' tk f1 g a1 a2 a3 a4 a5 a6 a7 a8 a9 b1 => wpAny_pure (hQ h' tk f1 g a1 a2 a3 a4 a5 a6 a7 a8 a9 b1)) (F.args_enumerate_next_1 _))))
theorem pyEnumZ_end {e z TI TO i1 i2 l1 l2 : Addr} {c : Int} {old f0 : Value} {f : Bool} {k1 k2 : Nat} {xs ys : Array Value} {a b : Value} {Q : Option Value → Shared → Prop} (hh : A.handled = none) (D : ZipApart z TI TO i1 i2 l1 l2)
    (he : IsEnum s.heap e z c old) (hz : Zp s.heap z TI TO f0 f) (h0 : Zok f0) (hTI : IsPair s.heap TI (.ref i1) (.ref i2)) (hTO : IsPair s.heap TO a b)
    (h1 : s.heap.IsListIter i1 l1 k1) (h2 : s.heap.IsListIter i2 l2 k2) (hl1 : s.heap.IsList l1 xs) (hl2 : s.heap.IsList l2 ys) (hend : xs[k1]? = none ∨ ys[k2]? = none)
    (hQ : ∀ h', (∀ c o, c ≠ z → c ≠ TO → c ≠ i1 → c ≠ i2 → s.heap.get? c = some o → h'.get? c = some o) → Q none { s with heap := h' }) : wpAny (model prog w) A (pyNext (.ref e)) Q E s := by
  have hTy : s.TypeIs (.ref e) "enumerate" := ⟨_, he, rfl⟩
  unfold pyNext
  refine wpAny_bind (wpAny_attempt (wpAny_callSpecial?_slot (name := Str.ofString "__next__") hTy F.slot_enumerate_next (wpAny_call_entry F.slot_enumerate_next hTy F.entry_enumerate_next ?_ (F.args_enumerate_next_1 _))))
  show wpAny _ _ (field (.ref e) 2 >>= _) _ _ _
  refine wpAny_bind (wpAny_field he rfl (x := .ref z) rfl (wpAny_bind (nextZ_end hh D hz h0 hTI hTO h1 h2 hl1 hl2 hend fun h' x hk hx' => ?_)))
  obtain ⟨o, ho, hc⟩ := hx'
  exact wpAny_bind (wpAny_isInstance (T := "StopIteration") (b := true) ⟨o, ho, hc⟩ isSubtype_stop (wpAny_pure (hQ _ hk)))
end
end Wk
set_option maxHeartbeats 4000000
/-! Wk23: try, and defs that ask of which class an error is. -/
namespace Wk
open PySem PySem.Spec PyProof.Rows L2

/-- a refusal is caught, by its number -/
def R.hand {α : Type} (ct : List Bool) (m : R α) (h : Nat → R α) : R α := match m with
  | .ok a => .ok a
  | .bad => .bad
  | .err c => match ct[c]? with
    | some true => h c
    | some false => .err c
    | none => .bad
@[simp] theorem hand_ok {α : Type} {ct : List Bool} {a : α} {h : Nat → R α} : (R.ok a).hand ct h = .ok a := by exact id rfl
theorem hand_err {α : Type} {ct : List Bool} {c : Nat} {h : Nat → R α} (e : ct[c]? = some true) : (R.err c : R α).hand ct h = h c := by unfold R.hand; simp only [e]
theorem hand_pass {α : Type} {ct : List Bool} {c : Nat} {h : Nat → R α} (e : ct[c]? = some false) : (R.err c : R α).hand ct h = .err c := by unfold R.hand; simp only [e]

/-! ### a def that is handed the error that is caught -/
section
variable (P : Program) (w : World) (K : PySem.W.Frag) (mg : Str → Option Value) (base : Heap)
structure FnX (k : Nat) (f : Addr) (fd : FuncData) (ps : List Str) (sp : Addr × Obj → Sp) : Prop where
  len : ∀ p vs H Q E, sp p vs H Q E → vs.length = ps.length
  run : ∀ (A : Around) (out : List Env) (s : Shared) (H : Hp) (as : Args) (us : List Value) (vs : List V) (Q : VK) (E : XK) (p : Addr × Obj), L2H.RoomH k A → L2H.PinOk out H s p → Env0 P w K mg base A out s H →
    BindsTo s fd as (ps.zip us) → Vals vs us → sp p vs H Q E → codeAny (model P w) A (.call (.ref f) as) (CR (L2.CX P w) out P w H s Q E) s
end
section
variable {P : Program} {w : World} {K : PySem.W.Frag} {mg : Str → Option Value} {base : Heap}
theorem fnx_of {x qual : Str} {st : Stmt} {f : Addr} {fd : FuncData} {N ps : List Str} {k : Nat} {sp : Addr × Obj → Sp} (F : Fun K x qual st f fd) (S : FnScope N ps (defScope st)) (len : ∀ p vs H Q E, sp p vs H Q E → vs.length = ps.length)
    (body : ∀ (cdv : Value) (A : Around) (out : List Env) (s : Shared) (H : Hp) (vs : List V) (Q : VK) (E : XK) (p : Addr × Obj), sp p vs H Q E →
      wB (L2H.cxH (L2.CX P w) P w K mg base N qual (defScope st) f cdv A out s H E p) (defBody st) { nx := fun _ H' => Q .non H', rt := Q } (L2.start N vs) H) : FnX P w K mg base (k + 1) f fd ps sp := by
  obtain ⟨oc, od, kV, doc, pm, an, cdv, ct, osl, rfl, lk, hcd⟩ := F.ex
  refine ⟨len, ?_⟩
  intro A out s H as us vs Q E p room pin en0 bi rel want
  have kin := en0.mod.kin.keeps fun b o e => (en0.bs b o e).1
  have nol := en0.mod.nolimit.keeps fun b o e => (en0.bs b o e).1
  have kinds : ∀ y ∈ ps.zip us, (defScope st).names.lookup y.1 = some .local ∨ ((defScope st).names.lookup y.1 = some .cell ∧ ((cellsFrom (s.heap.objs.size + 1) (defScope st).names []).lookup y.1).isSome = true) := by
    rintro ⟨n, v⟩ hy
    cases S.par n (List.of_mem_zip hy).1 with
    | inl q => exact .inl q
    | inr q => exact .inr ⟨q, PySem.W.cellsFrom_some _ _ _ (.inl q)⟩
  refine codeAny_call_function room.depth (kin _ _ lk) rfl S.co S.gen rfl (PySem.W.codeRec_of kin hcd) (bi _ _ _ _ (wpAny_newFunctionEnv_cells S.kind kinds ?_))
  rintro env rfl s1 x
  refine ⟨nol.keeps x.toInCall.keep, codeAny_func ?_⟩
  have I := L2H.inv_startH (CX := L2.CX P w) (E := E) S pin en0 (len _ _ _ _ _ want) rel x
  refine wpAny_mono (body cdv A out s H vs Q E p want [] s1 I) (fun fl s' hs => ?_) fun e s' hs => hs
  cases fl with
  | ret u => obtain ⟨v, σ', H', J, rv, q⟩ := hs; exact ⟨v, H', J.os, J.bare, J.base, J.hok, rv, q⟩
  | next => obtain ⟨σ', H', J, q⟩ := hs; exact ⟨V.non, H', J.os, J.bare, J.base, J.hok, rfl, q⟩
  | brk => obtain ⟨_, _, _, q⟩ := hs; exact q.elim
  | cont => obtain ⟨_, _, _, q⟩ := hs; exact q.elim
end
section
variable {X : Cx} {k : Nat} {f : Addr} {fd : FuncData} {ps : List Str} {sp : Addr × Obj → Sp} {x : Str} {q pos : Pos} {e : Expr} {es : List Expr}
/-- its call, where the error is at hand -/
theorem pe_callX {p : Addr × Obj} (F : FnX X.prog X.w X.K X.mg X.base k f fd ps sp) (hr : L2H.RoomH k X.A) (hp : p ∈ X.pn) (hg : Gl X x) (hm : X.mg x = some (.ref f)) (hk : PySem.W.keepIn X.K (.ref f) = true) (hb : Binds X.K fd ps [])
    {t : TA} (ha : PA X (e :: es) t) (hdb : (x == ("__debug__" : Str)) = false := by decide) (he : starEach (e :: es) X.env = (false, eval e X.env) :: starEach es X.env := by rfl) (hpl : (backTo pos (starEach es X.env)).any (·.1) = false := by rfl) :
    PE X (.Call (.Name x q) (e :: es) [] pos) (fun σ H Q => t σ H fun vs H1 => sp p vs H1 Q fun _ _ _ => False) := by
  constructor
  intro pins s σ H Q I h
  refine wpAny_Call_Name_kw (ld_glob I hg hm ?_ hdb)
  refine PySem.W.callWith_K (h₀ := X.base) I.ok.mod.kin hk (thn (ha.run pos pins s σ H _ I h) fun us s1 ⟨vs, H1, J, r, w⟩ => ⟨J.kIn, ?_⟩) he hpl
  have hl : us.length = ps.length := by rw [← r.length]; exact F.len _ _ _ _ _ w
  have b := hb s1 us J.kIn (by rw [List.append_nil]; exact hl)
  rw [List.append_nil] at b
  obtain ⟨p1, p2, p3, p4, p5⟩ := J.pin p (List.mem_append_left _ hp)
  have pin : L2H.PinOk X.stack H1 s1 p := ⟨p1, p2, fun hm => (List.mem_cons.mp (J.stkSub p.1 hm)).elim p3 p4, p5⟩
  refine wpAny_call (codeAny_mono (F.run X.A X.stack s1 H1 ⟨us, []⟩ us vs Q _ p hr pin J.env0 b r w) fun res s' hq => ?_)
  cases res with
  | error e => obtain ⟨_, _, _, _, _, _, _, _, _, _, _, _, z⟩ := hq; exact z.elim
  | ok fl =>
    cases fl with
    | ret u => exact J.after hq
    | next => exact False.elim hq
    | brk => exact False.elim hq
    | cont => exact False.elim hq
end
/-! ### isinstance(e, C), e the error at hand -/
section
variable {X : Cx}
def IsA (X : Cx) (a : Addr) (es : List Expr) (bs : List Bool) : Prop := ∀ (σ : L2.St) (H : Hp) (Q : List V → Hp → Prop), σ[0]? = some (some (.ref a)) → Q (bs.map V.bl) H → wA X es σ H Q
theorem isa_nil {a : Addr} : IsA X a [] [] := fun σ H Q _ h => pa_to pa_nil h
theorem call_isX {p : Addr × Obj} {C : Addr} (hp : p ∈ X.pn) (h : ExcC X.K C) (hz : Zc (.ref C) none p.2) (hf : ∃ vs, p.2.data = .fields vs) : CallR X (.builtin "isinstance") (rIsE X.K C p.1) := by
  rintro pins s σ H xs us Q I r ⟨c, cv, b, rfl, hcv, e, q⟩
  cases r with
  | cons r1 r2 =>
    cases r2 with
    | cons r3 r4 =>
      cases r4
      cases r1
      have e3 := hcv _ r3
      subst e3
      have hget := (I.pin p (List.mem_append_left _ hp)).1
      have inst : PySem.W.InstAt s.heap p.1 p.2 C none := by
        obtain ⟨vs, hv⟩ := hf
        obtain ⟨a, o1, o2, o3, o4⟩ := p
        obtain ⟨z1, z2⟩ := hz
        dsimp only at z1 z2 hv
        subst z1 z2 hv
        exact ⟨hget, rfl, rfl, trivial⟩
      exact PySem.W.kia_one (PySem.W.handS_kitx_exc h.hg h.hk h.hs h.hd h.ha h.hn h.ht h.hm) I.kIn inst e (fun z => nomatch z) fun tk => ⟨.bl b, H, I.kept (t' := tk) fun _ _ z => z, rfl, q⟩
theorem isa_own {p : Addr × Obj} {C D : Addr} {x n : Str} {p1 p2 p3 : Pos} {pos : Pos} {es : List Expr} {b : Bool} {bs : List Bool} (hp : p ∈ X.pn) (hc : ExcC X.K C) (hz : Zc (.ref C) none p.2) (hf : ∃ vs, p.2.data = .fields vs) (hi : X.mg "isinstance" = none) (hm : X.mg x = some (.ref D)) (hk : PySem.W.kitOne X.K (.ref C) (.ref D) = some b) (r : IsA X p.1 es bs)
    (hN : X.N[0]? = some n := by rfl) (hv : Vis X.env.scope n := by first | exact Or.inl rfl | exact Or.inr (Or.inl rfl) | exact Or.inr (Or.inr rfl)) (hd : (n == ("__debug__" : Str)) = false := by decide) (hcd : (n == ("__classdict__" : Str)) = false := by decide) (hg : Gl X "isinstance" := by rfl) (hgx : Gl X x := by rfl) (hdx : (x == ("__debug__" : Str)) = false := by decide)
    (h1 : starEach [.Name n p2, .Name x p3] X.env = (false, eval (.Name n p2) X.env) :: starEach [.Name x p3] X.env := by rfl) (h2 : starEach [.Name x p3] X.env = (false, eval (.Name x p3) X.env) :: starEach [] X.env := by rfl) (h3 : (backTo pos (starEach [.Name x p3] X.env)).any (·.1) = false := by rfl)
    (he : starEach (.Call (.Name "isinstance" p1) [.Name n p2, .Name x p3] [] pos :: es) X.env = (false, eval (.Call (.Name "isinstance" p1) [.Name n p2, .Name x p3] [] pos) X.env) :: starEach es X.env := by rfl) :
    IsA X p.1 (.Call (.Name "isinstance" p1) [.Name n p2, .Name x p3] [] pos :: es) (b :: bs) := fun σ H Q h0 h => by
  refine pa_to (pa_cons (pe_callB (call_isX hp hc hz hf) hg hi (by decide +kernel) (pa_cons (pe_var hN hv hd hcd) (pa_cons (pe_glob (v := .ref D) hgx hm rfl hdx) pa_nil h2) h1) (by decide) (by decide) h1 h3) pa_w he) ?_
  exact ⟨_, h0, .ref D, .ref D, b, rfl, fun u r => r, hk, r σ H _ h0 h⟩
theorem isa_blt {p : Addr × Obj} {C : Addr} {x n : Str} {T : String} {p1 p2 p3 : Pos} {pos : Pos} {es : List Expr} {b : Bool} {bs : List Bool} (hp : p ∈ X.pn) (hc : ExcC X.K C) (hz : Zc (.ref C) none p.2) (hf : ∃ vs, p.2.data = .fields vs) (hi : X.mg "isinstance" = none) (hm : X.mg x = none) (hT : bootBuiltins x = some (.type T)) (hk : PySem.W.kitOne X.K (.ref C) (.type T) = some b) (r : IsA X p.1 es bs)
    (hN : X.N[0]? = some n := by rfl) (hv : Vis X.env.scope n := by first | exact Or.inl rfl | exact Or.inr (Or.inl rfl) | exact Or.inr (Or.inr rfl)) (hd : (n == ("__debug__" : Str)) = false := by decide) (hcd : (n == ("__classdict__" : Str)) = false := by decide) (hg : Gl X "isinstance" := by rfl) (hgx : Gl X x := by rfl) (hdx : (x == ("__debug__" : Str)) = false := by decide) (hn : x ≠ "__name__" := by decide)
    (h1 : starEach [.Name n p2, .Name x p3] X.env = (false, eval (.Name n p2) X.env) :: starEach [.Name x p3] X.env := by rfl) (h2 : starEach [.Name x p3] X.env = (false, eval (.Name x p3) X.env) :: starEach [] X.env := by rfl) (h3 : (backTo pos (starEach [.Name x p3] X.env)).any (·.1) = false := by rfl)
    (he : starEach (.Call (.Name "isinstance" p1) [.Name n p2, .Name x p3] [] pos :: es) X.env = (false, eval (.Call (.Name "isinstance" p1) [.Name n p2, .Name x p3] [] pos) X.env) :: starEach es X.env := by rfl) :
    IsA X p.1 (.Call (.Name "isinstance" p1) [.Name n p2, .Name x p3] [] pos :: es) (b :: bs) := fun σ H Q h0 h => by
  refine pa_to (pa_cons (pe_callB (call_isX hp hc hz hf) hg hi (by decide +kernel) (pa_cons (pe_var hN hv hd hcd) (pa_cons (pe_bltn (v := .ty T) hgx hm hT rfl hn hdx) pa_nil h2) h1) (by decide) (by decide) h1 h3) pa_w he) ?_
  exact ⟨_, h0, .ty T, .type T, b, rfl, fun u r => r, hk, r σ H _ h0 h⟩
end
/-- what such a def promises: data, by the error's number -/
def spX (K : PySem.W.Frag) (ec : Nat → Addr) (n : Nat) (fl : Nat → D) : Addr × Obj → Sp := fun p vs H Q _ => ∃ G c, Lk G H ∧ c < n ∧ vs = [.ref p.1] ∧ Zc (.ref (ec c)) none p.2 ∧ (∃ fs, p.2.data = .fields fs) ∧
  ∀ v G2 H2, Grow G H G2 H2 → Rp K G2 v (fl c) → Q v H2
theorem bls_rp {K : PySem.W.Frag} {G : Hp} : ∀ bs : List Bool, RpAll K G (bs.map V.bl) (bs.map D.bl)
  | [] => .nil
  | b :: bs => .cons (.bl b) (bls_rp bs)
theorem Grow.noneH {G H G2 H2 : Hp} (w : Grow G H G2 H2) {p : Addr} (h : H2 p = none) : H p = none := Option.eq_none_iff_forall_ne_some.mpr fun o z => by rw [w.h p o z] at h; cases h
/-- marks = [..]; return marks + [..] -/
theorem marks_run {X : Cx} {a : Addr} {m : Str} {es fs : List Expr} {bs cs : List Bool} {pm pm2 pl pl2 pb pa pr : Pos} {σ : L2.St} {G H : Hp} {D0 : Ends} (nd : X.N.Nodup) (h1 : IsA X a es bs) (h2 : IsA X a fs cs) (hl : bs.length + cs.length ≤ 1000) (l : Lk G H) (h0 : σ[0]? = some (some (.ref a))) (hln : 1 < σ.length)
    (q : ∀ v G2 H2, Grow G H G2 H2 → Rp X.K G2 v (.lst ((bs ++ cs).map D.bl)) → D0.rt v H2) (hi : X.N[1]? = some m := by rfl) (hx : Loc X.env.scope m := by first | exact Or.inl rfl | exact Or.inr rfl) (hs : swapsWith (.List es pl) (some (.Name m pm)) pa.line X.env = pure false := by first | exact swaps_no rfl | exact swapsS_no rfl | rfl)
    (hf : X.fn m = true ∨ X.env.scope.names.lookup m = some .local := by first | exact .inl rfl | exact .inr rfl) (hv : Vis X.env.scope m := by first | exact Or.inl rfl | exact Or.inr (Or.inl rfl) | exact Or.inr (Or.inr rfl)) (hd : (m == ("__debug__" : Str)) = false := by decide) (hcd : (m == ("__classdict__" : Str)) = false := by decide) :
    wB X [.Assign [.Name m pm] (.List es pl) pa, .Return (some (.BinOp (.Name m pm2) .Add (.List fs pl2) pb)) pr] D0 σ H := by
  refine pss_to (pss_cons (ps_set (i := 1) nd hi hx pe_w hs hf) pss_w) ?_
  refine pe_to (pe_lst pa_w) (h1 σ H _ h0 ⟨?_, fun p hp => ?_⟩)
  · rw [List.length_map]; exact size_ok (by omega)
  have w1 := Grow.own (o := .lst (bs.map V.bl)) l hp
  refine pss_to (pss_one (ps_ret (pe_op op_catR (pe_var hi hv hd hcd) pe_w))) ⟨.ref p, List.getElem?_set_self hln, ?_⟩
  refine pe_to (pe_lst pa_w) (h2 _ _ _ (by rw [List.getElem?_set_ne (by decide)]; exact h0) ⟨?_, fun p2 hp2 => ?_⟩)
  · rw [List.length_map]; exact size_ok (by omega)
  have w2 := Grow.own (o := .lst (cs.map V.bl)) w1.up hp2
  have ne : p ≠ p2 := fun z => by subst z; rw [upd_same] at hp2; cases hp2
  refine ⟨p, p2, bs.map V.bl, cs.map V.bl, rfl, rfl, .inl (by rw [upd_ne ne]; exact upd_same), .inl upd_same, by rw [List.length_map, List.length_map]; exact size_ok (by omega), fun p3 hp3 => ?_⟩
  have w := w1.trans w2
  refine newL (K := X.K) w.up hp3 (ds := (bs ++ cs).map D.bl) (by rw [← List.map_append]; exact bls_rp _) ?_
  exact NewL.frz fun v G2 H2 w3 r => q v G2 H2 (w.trans w3) r

/-! ### try -/
section
variable {K : PySem.W.Frag} {B : Bs} {en : En} {σ : L2.St} {G H : Hp}
/-- a slot of which nothing is known -/
theorem St8.unsetO {i : Nat} {o : Option V} (s : St8 K B en σ G H) (h : en[i]? = some none) : St8 K B en (σ.set i o) G H := by
  refine ⟨⟨s.es.fr, fun j dv e => ?_, s.es.one, s.es.own⟩, by rw [List.length_set]; exact s.len⟩
  obtain ⟨v, a, b⟩ := s.es.at_ j dv e
  have ne : i ≠ j := fun z => by subst z; rw [h] at e; cases e
  exact ⟨v, by rw [List.getElem?_set_ne ne]; exact a, b⟩
end
section
variable {X : Cx} {W : WN} {eE eT : En} {en : En} {ec : Nat → Addr} {pos pos' np : Pos} {ω : Type} {T : Bs → ω → Ends → Prop} {body suite : List Stmt} {b₀ : Stmt} {m : R ω} {h : Nat → R ω} {ct : List Bool} {xC : Str} {cv : Value}
/-- except C: suite -/
theorem xs_try (g : Go X ec W) (hs : X.stack = X.env :: X.outer) (hf : X.env.frame = some X.env.locals) (hc : Names X xC cv) (hx : ∀ c b, ct[c]? = some b → PySem.W.exmOne X.K (.ref (ec c)) cv = some b)
    (hb : ∀ (W' : WN) pn xe, Go (X.tr pn xe) ec W' → XB (X.tr pn xe) W' eT body en m T)
    (hh : ∀ a oe pn c, XB (X.suite a ((a, oe) :: pn)) W eE (b₀ :: suite) eT (h c) T) (hl : eT.length = X.N.length := by rfl) (we : Wk0 eE eT := by first | exact wk0_nil | exact wk0_refl | assumption | exact Wkn.wk0 (by repeat' first | exact Wkn.nil | apply Wkn.k | apply Wkn.d)) :
    XS X W eE (.Try body [.ExceptHandler (some (.Name xC np)) none (b₀ :: suite) pos'] [] [] pos) en (m.hand ct h) T := fun B σ G H S D0 q => by
  refine ps_to (ps_try_only (ts := fun a cls d D σ H => ∀ oe pn, Zc cls d oe → (∃ vs, oe.data = .fields vs) → σ.length = X.N.length → wB (X.suite a ((a, oe) :: pn)) (b₀ :: suite) D σ H)
    (tb := fun WW D σ H => ∀ pn xe, Takes (X.tr pn xe) WW → PassesOwn (model X.prog X.w) X.A X.env xe → wB (X.tr pn xe) body D σ H) hs hf hc g.tk
    (fun WW pn xe tk po => ⟨fun pins s σ H D I k => k pn xe tk po pins s I⟩)
    (fun a oe cls d pn hz hv => ⟨fun pins s σ H D I k => k oe pn hz hv I.len pins s I⟩)) fun pn xe tk po => ?_
  refine hb (fun c σ' H' => wOnly X.K cv (fun a cls d D σ H => ∀ oe pn, Zc cls d oe → (∃ vs, oe.data = .fields vs) → σ.length = X.N.length → wB (X.suite a ((a, oe) :: pn)) (b₀ :: suite) D σ H) (wx ec W) D0 (.ref (ec c)) none σ' H') pn xe
    ⟨g.calm, po, g.nd, tk.imp fun cls d σ' H' ⟨c, e1, e2, e3⟩ => by rw [e1, e2]; exact e3⟩ B σ G H S D0 ?_
  cases m with
  | ok a => exact q
  | bad => exact q.elim
  | err c =>
    intro σ' G' H' E'
    have q : Post X W eE B ((R.err c : R ω).hand ct h) (fun o => T B o D0) := q
    cases e : ct[c]? with
    | none => unfold R.hand at q; simp only [e] at q; exact q.elim
    | some b =>
      cases b with
      | true =>
        rw [hand_err e] at q
        exact ⟨true, hx c true e, fun _ a _ oe pn hz hv hln => hh a oe pn c B σ' G' H' ⟨E', hln.trans hl.symm⟩ D0 q, fun z => nomatch z⟩
      | false =>
        rw [hand_pass e] at q
        exact ⟨false, hx c false e, (fun z => nomatch z), fun _ => ⟨c, rfl, rfl, q σ' G' H' (E'.weak we)⟩⟩
/-- except C as n: v = f(n) -/
theorem xs_tryF {i j : Nat} {n v x : Str} {p1 p2 p3 p4 p5 : Pos} {k N : Nat} {f : Addr} {fd : FuncData} {ps : List Str} {fl : Nat → D} {α : Type} {L : α → En → Prop} {m : R α} {hv : D → α} (g : Go X ec W) (hs : X.stack = X.env :: X.outer) (hf : X.env.frame = some X.env.locals) (hc : Names X xC cv) (hx : ∀ c b, ct[c]? = some b → PySem.W.exmOne X.K (.ref (ec c)) cv = some b)
    (hb : ∀ (W' : WN) pn xe, Go (X.tr pn xe) ec W' → XB (X.tr pn xe) W' eT body en m (TN X.K L))
    (F : FnX X.prog X.w X.K X.mg X.base k f fd ps (spX X.K ec N fl)) (hr : Room k X.A) (hm : X.mg x = some (.ref f)) (hk : PySem.W.keepIn X.K (.ref f) = true) (hbi : Binds X.K fd ps [])
    (hL : ∀ d, ∃ e', L (hv d) e' ∧ Wkn e' (eT.set j (some (.v d)))) (hti : eT[i]? = some none := by rfl) (hij : i ≠ j := by decide) (hi : X.N[i]? = some n := by rfl) (hj : X.N[j]? = some v := by rfl) (hln : X.env.kindOf n = some .local := by rfl)
    (hxv : Loc X.env.scope v := by first | exact Or.inl rfl | exact Or.inr rfl) (hsw : swapsWith (.Call (.Name x p1) [.Name n p2] [] p3) (some (.Name v p4)) p5.line X.env = pure false := by first | exact swaps_no rfl | exact swapsS_no rfl | rfl) (hfv : X.fn v = true ∨ X.env.scope.names.lookup v = some .local := by first | exact .inl rfl | exact .inr rfl)
    (hvn : Vis X.env.scope n := by first | exact Or.inl rfl | exact Or.inr (Or.inl rfl) | exact Or.inr (Or.inr rfl)) (hd : (n == ("__debug__" : Str)) = false := by decide) (hcd : (n == ("__classdict__" : Str)) = false := by decide) (hgx : Gl X x := by rfl) (hdb : (x == ("__debug__" : Str)) = false := by decide)
    (h1 : starEach [.Name n p2] X.env = (false, eval (.Name n p2) X.env) :: starEach [] X.env := by rfl) (h2 : (backTo p3 (starEach [] X.env)).any (·.1) = false := by rfl)
    (hl : eT.length = X.N.length := by rfl) (we : Wk0 eE eT := by first | exact wk0_nil | exact wk0_refl | assumption | exact Wkn.wk0 (by repeat' first | exact Wkn.nil | apply Wkn.k | apply Wkn.d)) :
    XS X W eE (.Try body [.ExceptHandler (some (.Name xC np)) (some n) [.Assign [.Name v p4] (.Call (.Name x p1) [.Name n p2] [] p3) p5] pos'] [] [] pos) en (m.hand ct fun c => if c < N then .ok (hv (fl c)) else .bad) (TN X.K L) := fun B σ G H S D0 q => by
  refine ps_to (ps_try_as (ts := fun a cls d D σ H => ∀ oe pn, Zc cls d oe → (∃ vs, oe.data = .fields vs) → σ.length = X.N.length → wB (X.suite a ((a, oe) :: pn)) [.Assign [.Name v p4] (.Call (.Name x p1) [.Name n p2] [] p3) p5] D σ H)
    (tb := fun WW D σ H => ∀ pn xe, Takes (X.tr pn xe) WW → PassesOwn (model X.prog X.w) X.A X.env xe → wB (X.tr pn xe) body D σ H) hs hf g.nd hi hln hc g.tk
    (fun WW pn xe tk po => ⟨fun pins s σ H D I k => k pn xe tk po pins s I⟩)
    (fun a oe cls d pn hz hv => ⟨fun pins s σ H D I k => k oe pn hz hv I.len pins s I⟩)) fun pn xe tk po => ?_
  refine hb (fun c σ' H' => wAs X.K cv i (fun a cls d D σ H => ∀ oe pn, Zc cls d oe → (∃ vs, oe.data = .fields vs) → σ.length = X.N.length → wB (X.suite a ((a, oe) :: pn)) [.Assign [.Name v p4] (.Call (.Name x p1) [.Name n p2] [] p3) p5] D σ H) (wx ec W) D0 (.ref (ec c)) none σ' H') pn xe
    ⟨g.calm, po, g.nd, tk.imp fun cls d σ' H' ⟨c, e1, e2, e3⟩ => by rw [e1, e2]; exact e3⟩ B σ G H S D0 ?_
  cases m with
  | ok a => exact q
  | bad => exact q.elim
  | err c =>
    intro σ' G' H' E'
    have q : Post X W eE B ((R.err c : R α).hand ct fun c => if c < N then .ok (hv (fl c)) else .bad) (fun o => TN X.K L B o D0) := q
    cases e : ct[c]? with
    | none => unfold R.hand at q; simp only [e] at q; exact q.elim
    | some b =>
      cases b with
      | true =>
        rw [hand_err e] at q
        by_cases hcN : c < N
        · rw [if_pos hcN] at q
          refine ⟨true, hx c true e, fun _ a _ oe pn hz hfs hlen => ?_, fun z => nomatch z⟩
          have S1 : St8 X.K B eT σ' G' H' := ⟨E', by rw [List.length_set] at hlen; exact hlen.trans hl.symm⟩
          have hi' : i < σ'.length := by rw [List.length_set] at hlen; rw [hlen]; exact (List.getElem?_eq_some_iff.mp hi).1
          refine pss_to (pss_one (ps_set (X := X.suite a ((a, oe) :: pn)) (i := j) g.nd hj hxv (pe_callX (X := X.suite a ((a, oe) :: pn)) (p := (a, oe)) F ⟨hr.dp, hr.un⟩ List.mem_cons_self hgx hm hk hbi (pa_cons (pe_var hi hvn hd hcd) pa_nil h1) hdb h1 h2) hsw hfv)) ?_
          refine ⟨.ref a, List.getElem?_set_self hi', G', c, S1.lk, hcN, rfl, hz, hfs, fun v G2 H2 w r => ?_⟩
          obtain ⟨e', hLe, wk⟩ := hL (fl c)
          have S2 := ((S1.grow w).set (i := j) r).unsetO (i := i) (o := none) (by rw [List.getElem?_set_ne (Ne.symm hij)]; exact hti)
          have es : ((σ'.set i (some (V.ref a))).set j (some v)).set i none = (σ'.set j (some v)).set i none := by
            rw [List.set_comm _ _ hij, List.set_set]
          show D0.nx (((σ'.set i (some (V.ref a))).set j (some v)).set i none) H2
          rw [es]
          exact q e' _ G2 H2 hLe (S2.weak wk)
        · rw [if_neg hcN] at q; exact q.elim
      | false =>
        rw [hand_pass e] at q
        exact ⟨false, hx c false e, (fun z => nomatch z), fun _ => ⟨c, rfl, rfl, q σ' G' H' (E'.weak we)⟩⟩
end
end Wk
set_option maxHeartbeats 4000000
/-! Wk24: what stands in an except suite; for j, p in enumerate(zip(a, b), start=k). -/
namespace Wk
open PySem PySem.Spec PyProof.Rows L2
section
variable {X : Cx} {W : WN} {eE : En} {en : En} {ec : Nat → Addr} {pos : Pos} {α β ω : Type} {T : Bs → ω → Ends → Prop} {rest body : List Stmt} {e : Expr}
/-- what hands back, in a block that may also go on -/
theorem xb_RO {L : α → En → Prop} {Rr : Hp → β → V → Hp → Hp → Prop} {m : R β} (h : XB X W eE body en m (TR Rr)) : XB X W eE body en (m.bnd fun d => .ok (.rt d)) (TO X.K L Rr) := fun B σ G H S D q =>
  h B σ G H S D (wp_mono (wp_bnd.mp q) (fun _ z => z) fun _ z => z)
theorem xb_letS {i : Nat} {x : Str} {p : Pos} {m : R D} {k : D → R ω} (nd : X.N.Nodup) (φ : D → En) (h : XP X W e en m) (hk : ∀ d, XB X W eE rest (φ d) (k d) T) (hi : X.N[i]? = some x := by rfl) (hφ : ∀ d, en.set i (some (.v d)) = φ d := by intro _; rfl)
    (hx : Loc X.env.scope x := by first | exact Or.inl rfl | exact Or.inr rfl) (we : Wk0 eE en := by first | exact wk0_nil | exact wk0_refl | assumption | exact Wkn.wk0 (by repeat' first | exact Wkn.nil | apply Wkn.k | apply Wkn.d)) (hs : swapsWith e (some (.Name x p)) pos.line X.env = pure false := by first | exact swaps_no rfl | exact swapsS_no rfl | rfl)
    (hf : X.fn x = true ∨ X.env.scope.names.lookup x = some .local := by first | exact .inl rfl | exact .inr rfl) : XB X W eE (.Assign [.Name x p] e pos :: rest) en (m.bnd k) T := fun B σ G H S D q => by
  refine pss_to (pss_cons (ps_set nd hi hx pe_w hs hf) pss_w) (xp_run h S we (wp_mono (wp_bnd.mp q) (fun d hd v G2 H2 l S2 r => ?_) fun _ z => z))
  exact hk d B _ G2 H2 (by have := S2.set (i := i) r; rw [hφ] at this; exact this) D hd
end
/-! ### two new things at once -/
section
variable {X : Cx} {pins : List (Addr × Obj)} {σ : L2.St} {H : Hp} {s : Shared} {h' : Heap}
theorem Inv.turnedTwo {t' : Nat} {ch : List Addr} {T1 T2 : Addr} {o1 o2 : HO} (I : Inv X pins σ H s) (k : ∀ b o, b ∉ ch → s.heap.get? b = some o → h'.get? b = some o) (hf : ∀ b ∈ ch, FpOk X pins H b) (h1 : s.heap.objs.size ≤ T1) (h2 : s.heap.objs.size ≤ T2)
    (n1 : ObjOk X.prog X.w (upd (upd H T1 o1) T2 o2) h' T1 o1) (n2 : ObjOk X.prog X.w (upd (upd H T1 o1) T2 o2) h' T2 o2) (ne : T1 ≠ T2) : Inv X pins σ (upd (upd H T1 o1) T2 o2) { s with heap := h', toks := t' } := by
  have e1 : H T1 = none := I.hok.fresh h1
  have e2 : H T2 = none := I.hok.fresh h2
  have up : ∀ b u, H b = some u → upd (upd H T1 o1) T2 o2 b = some u := fun b u e => by
    rw [upd_ne (ne_of_none e e2), upd_ne (ne_of_none e e1)]; exact e
  have free : ∀ b u, H b = some u → b ∉ ch := fun b u e z => by rw [(hf b z).1] at e; cases e
  refine I.step (g' := s.gens) (d' := s.drawn) (ch := ch) (fun b hb => let ⟨_, q2, q3, q4, q5, q6⟩ := hf b hb; ⟨q4, q2, q5, q6⟩) (fun b o _ _ hc e _ => k b o hc e) (fun b o _ _ hc e _ => ⟨o.slots, k b o hc e⟩)
    (fun b o _ e n => ?_) (fun b o hc e => ⟨o, k b o hc e⟩) (fun b xs e => up b _ e) (fun b o u e => up b _ e) (fun b ps e => ⟨#[], by rw [up b _ e]; simp⟩) (fun m hm => ?_) (fun b u e => ?_) I.bare
  · have lt := Heap.lt_size e
    rw [upd_ne (Nat.ne_of_lt (Nat.lt_of_lt_of_le lt h2)), upd_ne (Nat.ne_of_lt (Nat.lt_of_lt_of_le lt h1))]; exact n
  · obtain ⟨o, es, ep, ho, r⟩ := hm
    exact ⟨o, es, ep, k _ o (fun z => (hf _ z).2.1 rfl) ho, r⟩
  · by_cases q2 : b = T2
    · subst q2; rw [upd_same] at e; cases e; exact n2
    · by_cases q1 : b = T1
      · subst q1; rw [upd_ne q2, upd_same] at e; cases e; exact n1
      · rw [upd_ne q2, upd_ne q1] at e
        refine (I.hok b u e).stay (fun c v hc q => k c v ?_ q) (fun c q => up c _ q) fun c xs q => up c _ q
        rcases hc with z | z
        · rw [z]; exact free b u e
        · exact free c _ z
end
/-! ### the walk -/
/-- the lists at a and b as they stand at each turn: a number and a pair of items -/
def Itez (K : PySem.W.Frag) (k : Int) (a b : Addr) : It :=
  ⟨fun i H => ∃ (xs ys : List V) (x y : V), SqL K H a xs ∧ SqL K H b ys ∧ xs[i]? = some x ∧ ys[i]? = some y,
    fun i H v H' => ∃ T1 T2 x y, v = .ref T2 ∧ H T1 = none ∧ H T2 = none ∧ T1 ≠ T2 ∧ H' = upd (upd H T1 (.tup [x, y])) T2 (.tup [.int (k + (i : Nat)), .ref T1]) ∧ (∀ xs, SqL K H a xs → xs[i]? = some x) ∧ ∀ ys, SqL K H b ys → ys[i]? = some y,
    fun i H => ∃ xs ys : List V, SqL K H a xs ∧ SqL K H b ys ∧ (xs.length ≤ i ∨ ys.length ≤ i)⟩
theorem turn_ez {P : Program} {w : World} {K : PySem.W.Frag} {elts : List Expr} {kk : Nat} {tpos : Pos} (k : Int) {a b e z TI TO i1 i2 : Addr} (D : ZipApart z TI TO i1 i2 a b) (n0 : e ≠ z) (n1 : e ≠ TI) (n2 : e ≠ TO) (n3 : e ≠ i1) (n4 : e ≠ i2) :
    Turn P w K (.Tuple elts kk tpos) (Itez K k a b) [e, z, TI, TO, i1, i2] e (fun i h => (∃ old, IsEnum h e z (k + (i : Nat)) old) ∧ (∃ f0 f, Zp h z TI TO f0 f ∧ Zok f0) ∧ IsPair h TI (.ref i1) (.ref i2) ∧ (∃ x y, IsPair h TO x y) ∧ h.IsListIter i1 a i ∧ h.IsListIter i2 b i) where
  mem := by simp
  obj := fun i h st c hc => by
    obtain ⟨⟨old, he⟩, ⟨f0, f, hz, _⟩, hTI, ⟨x, y, hTO⟩, ⟨o1, e1, _, d1⟩, ⟨o2, e2, _, d2⟩⟩ := st
    simp only [List.mem_cons, List.mem_nil_iff, or_false] at hc
    rcases hc with q | q | q | q | q | q
    · rw [q]; exact ⟨_, he, fun v q => nomatch q⟩
    · rw [q]; exact ⟨_, hz, fun v q => nomatch q⟩
    · rw [q]; exact ⟨_, hTI, fun v q => nomatch q⟩
    · rw [q]; exact ⟨_, hTO, fun v q => nomatch q⟩
    · rw [q]; exact ⟨o1, e1, fun v q => by rw [d1] at q; cases q⟩
    · rw [q]; exact ⟨o2, e2, fun v q => by rw [d2] at q; cases q⟩
  keep := fun i h h' st k => by
    obtain ⟨⟨old, he⟩, ⟨f0, f, hz, h0⟩, hTI, ⟨x, y, hTO⟩, h1, h2⟩ := st
    exact ⟨⟨old, k e (by simp) _ he⟩, ⟨f0, f, k z (by simp) _ hz, h0⟩, k TI (by simp) _ hTI, ⟨x, y, k TO (by simp) _ hTO⟩, h1.at fun o q => k i1 (by simp) o q, h2.at fun o q => k i2 (by simp) o q⟩
  item := by
    intro X hP hw hK hc i pins s σ H E I hf st hg
    subst hP hw hK
    obtain ⟨⟨old, he⟩, ⟨f0, f, hz, h0⟩, hTI, ⟨x0, y0, hTO⟩, h1, h2⟩ := st
    obtain ⟨xs, ys, x, y, hqx, hqy, hx, hy⟩ := hg
    obtain ⟨its, rv, p, _⟩ := I.list hqx
    obtain ⟨its2, rv2, p2, _⟩ := I.list hqy
    obtain ⟨u, hu, ru⟩ := rv.get hx
    obtain ⟨u2, hu2, ru2⟩ := rv2.get hy
    have hel : e < s.heap.objs.size := Heap.lt_size he
    refine pyEnumZ_item D he n0 n1 n2 n3 n4 hz h0 hTI hTO h1 h2 p.isList p2.isList (x := u) (y := u2) (by simpa using hu) (by simpa using hu2) fun h' tk f1 g a1 a2 a3 a4 a5 a6 a7 a8 a9 b1 => ?_
    refine ⟨_, rfl, wpAny_letOwnedTupleGo_enum (s := { s with heap := h', toks := tk + 1 }) a1 fun h'' he'' sb => ?_⟩
    have q1 : h''.get? s.heap.objs.size = some { cls := .type "tuple", data := .seq #[u, u2] } := (sb.2 _ (Nat.ne_of_gt hel)).trans a7
    have q2 : h''.get? (s.heap.objs.size + 1) = some { cls := .type "tuple", data := .seq #[.int (k + (i : Nat)) tk, .ref s.heap.objs.size] } := (sb.2 _ (Nat.ne_of_gt (Nat.lt_succ_of_lt hel))).trans a8
    have I1 : Inv X pins σ (upd (upd H s.heap.objs.size (.tup [x, y])) (s.heap.objs.size + 1) (.tup [.int (k + (i : Nat)), .ref s.heap.objs.size])) { s with heap := h'', toks := tk + 1 } :=
      Inv.turnedTwo (ch := [e, z, TI, TO, i1, i2]) I (fun c o hb q => (sb.2 c (fun z => hb (by simp [z]))).trans (b1 c o (fun z => hb (by simp [z])) (fun z => hb (by simp [z])) (fun z => hb (by simp [z])) (fun z => hb (by simp [z])) (fun z => hb (by simp [z])) q)) hf (Nat.le_refl _) (Nat.le_succ _)
        ⟨by show 2 ≤ sizeLine; decide, [u, u2], .cons ru (.cons ru2 .nil), ⟨_, q1, rfl, _, rfl⟩⟩ ⟨by show 2 ≤ sizeLine; decide, [.int (k + (i : Nat)) tk, .ref s.heap.objs.size], .cons ⟨_, rfl⟩ (.cons rfl .nil), ⟨_, q2, rfl, _, rfl⟩⟩ (Nat.ne_of_lt (Nat.lt_succ_self _))
    refine ⟨.ref (s.heap.objs.size + 1), _, I1, rfl, ⟨_, _, x, y, rfl, I.hok.fresh (Nat.le_refl _), I.hok.fresh (Nat.le_succ _), Nat.ne_of_lt (Nat.lt_succ_self _), rfl, fun l hl => by rw [I.list_inj hl hqx]; exact hx, fun l hl => by rw [I.list_inj hl hqy]; exact hy⟩, ⟨⟨.ref s.heap.objs.size, ?_⟩, ⟨f1, g, (sb.2 _ (Ne.symm n0)).trans a2, a3⟩, ?_, ?_, ?_, ?_⟩, fun c hcm => ?_⟩
    · have e1 : k + ((i + 1 : Nat) : Int) = k + (i : Nat) + 1 := by omega
      rw [e1]; exact he''
    · exact (sb.2 _ (Ne.symm n1)).trans (b1 _ _ (Ne.symm n1) D.TIz D.TITO D.TIi1 D.TIi2 hTI)
    · obtain ⟨a', b', a4⟩ := a4
      exact ⟨a', b', (sb.2 _ (Ne.symm n2)).trans a4⟩
    · exact a5.at fun o q => (sb.2 _ (Ne.symm n3)).trans q
    · exact a6.at fun o q => (sb.2 _ (Ne.symm n4)).trans q
    · have hlt : c < s.heap.objs.size := by
        simp only [List.mem_cons, List.mem_nil_iff, or_false] at hcm
        rcases hcm with q | q | q | q | q | q
        · rw [q]; exact hel
        · rw [q]; exact Heap.lt_size hz
        · rw [q]; exact Heap.lt_size hTI
        · rw [q]; exact Heap.lt_size hTO
        · rw [q]; obtain ⟨_, e1, _⟩ := h1; exact Heap.lt_size e1
        · rw [q]; obtain ⟨_, e2, _⟩ := h2; exact Heap.lt_size e2
      rw [upd_ne (Nat.ne_of_lt (Nat.lt_succ_of_lt hlt)), upd_ne (Nat.ne_of_lt hlt)]
      exact (hf c hcm).1
  done := by
    intro X hP hw hK hc i pins s σ H E I hf st hg
    subst hP hw hK
    obtain ⟨⟨old, he⟩, ⟨f0, f, hz, h0⟩, hTI, ⟨x0, y0, hTO⟩, h1, h2⟩ := st
    obtain ⟨xs, ys, hqx, hqy, hend⟩ := hg
    obtain ⟨its, rv, p, _⟩ := I.list hqx
    obtain ⟨its2, rv2, p2, _⟩ := I.list hqy
    have l1 := rv.length
    have l2 := rv2.length
    have hn : its.toArray[i]? = none ∨ its2.toArray[i]? = none := by
      rcases hend with q | q
      · exact .inl (by simp; omega)
      · exact .inr (by simp; omega)
    exact pyEnumZ_end (I.ok.hd hc) D he hz h0 hTI hTO h1 h2 p.isList p2.isList hn fun h' hk => ⟨rfl, I.turnedL (t' := s.toks) (ch := [e, z, TI, TO, i1, i2]) (fun c o hb q =>
      hk c o (fun z => hb (by simp [z])) (fun z => hb (by simp [z])) (fun z => hb (by simp [z])) (fun z => hb (by simp [z])) q) hf⟩
  self := fun A i s Q E st h => let ⟨⟨_, he⟩, _⟩ := st; wpAny_pyIter_enum he h
/-! ### the call -/
section
variable {prog : Program} {w : World} {A : Around} {E : Value → Shared → Prop} {s : Shared}
set_option maxHeartbeats 8000000 in
theorem meets_enumZ (z TI TO : Addr) (k : Int) (t : Tok) (fit : Builtin.SmallTypes.fitsIndex k = true) :
    Meets (Builtin.«enumerate.__new__» ⟨[.type "enumerate", .ref z], [(Str.ofString "start", .int k t)]⟩) (fun _ R s => IsZip s.heap z TI TO .none ∧
      R (.ok (.ret (.ref s.heap.objs.size))) { s with heap := s.heap.push { cls := .type "enumerate", data := .fields #[.none, .bool false, .ref z, rawInt k, .none, .none] } }) :=
  .of_wp fun prog w A R s hh => by
    obtain ⟨hp, g, d, tk, os⟩ := s; obtain ⟨hz, goal⟩ := hh
    have under := sub_enumerate
    have nofit : (!Builtin.SmallTypes.fitsIndex k) = false := by rw [fit]; rfl
    have it0 : ∀ {A' : Around} {E : Value → Shared → Prop} {Q : Value → Shared → Prop}, Q (.ref z) ⟨hp, g, d, tk, os⟩ → wpAny (model prog w) A' (pyIter (.ref z)) Q E ⟨hp, g, d, tk, os⟩ := fun q => wpAny_pyIter_zip hz q
    have w1 : (Str.ofString "start" == ("start" : Str)) = true := by decide
    have w2 : (Str.ofString "start" != ("start" : Str)) = false := by decide
    have w3 : (Str.ofString "start" != ("iterable" : Str)) = true := by decide
    have w4 : (("start" : Str) == Str.ofString "start") = true := by decide
    have w5 : (("iterable" : Str) == Str.ofString "start") = false := by decide
    wp_walk using it0
    refine wpAny_stack_any fun st => wpAny_pure ?_
    split
    · rename_i c _ _ _ _ _
      cases (c == Value.type "enumerate") <;> (wp_walk using it0; exact ⟨_, rfl, goal⟩)
    · wp_walk using it0
      exact ⟨_, rfl, goal⟩
theorem call_enumZ {z TI TO : Addr} {k : Int} {t : Tok} {Q : Value → Shared → Prop} (hz : IsZip s.heap z TI TO .none) (k0 : -(2 ^ 63) ≤ k) (k1 : k < 2 ^ 63)
    (h : ∀ h', IsEnum h' s.heap.objs.size z k .none → (∀ b o, s.heap.get? b = some o → h'.get? b = some o) → Q (.ref s.heap.objs.size) { s with heap := h' }) :
    wpAny (model prog w) A (call (.type "enumerate") [.ref z] [(Str.ofString "start", .int k t)]) Q E s := by
  refine callType_newKw F.called_enumerate (by decide) (F.typeCall_enumerate_start _ _) (F.newCall_enumerate_start _ _) (fun obj => F.args_object_init_start obj _ _) F.entry_enumerate_new (meets_enumZ z TI TO k t (fits_start k0 k1)) ⟨hz, ?_⟩
  have e : IsEnum (s.heap.push { cls := .type "enumerate", data := .fields #[.none, .bool false, .ref z, rawInt k, .none, .none] }) s.heap.objs.size z k .none := Heap.get?_push_size _ rfl
  exact ⟨⟨_, e, rfl⟩, h _ e fun b o x => Heap.get?_push_of_some _ x⟩
theorem callWith_tyKw {pos : Pos} {T : String} {e : Expr} {rest : List Expr} {kws : List Keyword} {env : Env} {Q : Value → Shared → Prop}
    (h : wpAny (model prog w) A (spliced (backTo pos (starEach (e :: rest) env))) (fun vs s1 => wpAny (model prog w) A (evalAll ((backToKw pos (keywordEach kws env)).map (·.2)))
      (fun ks s2 => wpAny (model prog w) A (call (.type T) vs (((backToKw pos (keywordEach kws env)).filterMap (·.1)).zip ks)) Q E s2) E s1) E s)
    (h1 : backTo pos (starEach (e :: rest) env) = (false, eval e env) :: backTo pos (starEach rest env)) (h2 : (backTo pos (starEach (e :: rest) env)).any (·.1) = false)
    (h3 : (backToKw pos (keywordEach kws env)).all (·.1.isSome) = true) (h4 : (backToKw pos (keywordEach kws env)).any (·.1.isNone) = false) :
    wpAny (model prog w) A (callWith pos (.type T) [] (backTo pos (starEach (e :: rest) env)) (backToKw pos (keywordEach kws env))) Q E s := by
  have hh : wpAny (model prog w) A (evalArgs (.type T) true (backTo pos (starEach (e :: rest) env)) (backToKw pos (keywordEach kws env))) (fun a s1 => wpAny (model prog w) A (call (.type T) a.pos a.kw) Q E s1) E s := by
    rw [h1] at h ⊢
    exact evalArgs_kwB h3 h
  unfold callWith
  refine wpAny_bind (wpAny_holding (wpAny_mono hh (fun a s1 ha => wpAny_bind (wpAny_standAt ?_)) fun _ _ z => z))
  simp only [h2, h4, Bool.or_false]
  refine wpAny_bind (wpAny_pure (wpAny_bind (wpAny_mono ?_ (fun r s2 hr => wpAny_bind (wpAny_holding (wpAny_point (wpAny_pure hr)))) fun _ _ z => z)))
  exact ha
end
def iEnZ (K : PySem.W.Frag) (k : Int) (ta : TA) : TI := fun σ H R => ta σ H fun vs H1 => ∃ a b xs ys, vs = [.ref a, .ref b] ∧ SqL K H1 a xs ∧ SqL K H1 b ys ∧ R (Itez K k a b) H1
theorem pi_enumZ {X : Cx} {a b : Expr} {ta : TA} {p p2 p3 pos zpos tpos kp : Pos} {elts : List Expr} {kk j : Nat} {k : Int} (hg : Gl X "zip") (hm : X.mg "zip" = none) (hge : Gl X "enumerate") (hme : X.mg "enumerate" = none) (k0 : -(2 ^ 63) ≤ k) (k1 : k < 2 ^ 63) (ha : PA X [a, b] ta)
    (hs : starEach [a, b] X.env = (false, eval a X.env) :: starEach [b] X.env := by rfl) (hpl : (backTo zpos (starEach [b] X.env)).any (·.1) = false := by rfl)
    (h1 : backTo pos (starEach [.Call (.Name "zip" p2) [a, b] [] zpos] X.env) = (false, eval (.Call (.Name "zip" p2) [a, b] [] zpos) X.env) :: backTo pos (starEach [] X.env) := by rfl) (h2 : (backTo pos (starEach [.Call (.Name "zip" p2) [a, b] [] zpos] X.env)).any (·.1) = false := by rfl)
    (h3 : (backToKw pos (keywordEach [⟨some (Str.ofString "start"), .Constant (.int k) j p3, kp⟩] X.env)).all (·.1.isSome) = true := by rfl) (h4 : (backToKw pos (keywordEach [⟨some (Str.ofString "start"), .Constant (.int k) j p3, kp⟩] X.env)).any (·.1.isNone) = false := by rfl)
    (h5 : (backToKw pos (keywordEach [⟨some (Str.ofString "start"), .Constant (.int k) j p3, kp⟩] X.env)).filterMap (·.1) = [Str.ofString "start"] := by rfl) :
    PI X (.Tuple elts kk tpos) (.Call (.Name "enumerate" p) [.Call (.Name "zip" p2) [a, b] [] zpos] [⟨some (Str.ofString "start"), .Constant (.int k) j p3, kp⟩] pos) (iEnZ X.K k ta) := by
  refine ⟨fun pins s σ H R I h => ?_⟩
  refine wpAny_Call_Name_kw (ld_blt I hge hme boot_enumerate ?_ (by decide) (by decide))
  refine callWith_tyKw ?_ h1 h2 h3 h4
  show wpAny _ _ (spliced ((false, eval (.Call (.Name "zip" p2) [a, b] [] zpos) X.env) :: backTo pos (starEach [] X.env))) _ _ _
  refine Calls.spliced_cons (Call_ (ld_blt I hg hm PyProof.Rows.boot_zip (PyProof.Rows.callWith_type1 (thn (ha.run zpos pins s σ H _ I h) fun us s1 ⟨vs, H1, I1, r1, q1⟩ => ?_) hs hpl)))
  obtain ⟨a', b', xs, ys, rfl, hqx, hqy, q⟩ := q1
  cases r1 with
  | cons r r2 =>
    cases r2 with
    | cons r' r3 =>
      cases r3
      cases r
      cases r'
      obtain ⟨its, rv, q1, _⟩ := I1.list hqx
      obtain ⟨its2, rv2, q2, _⟩ := I1.list hqy
      have la : a' < s1.heap.objs.size := q1.lt
      have lb : b' < s1.heap.objs.size := q2.lt
      refine call_zip_2 q1.isList q2.isList fun h' hz hTI hTO i1 i2 hsz hk => ?_
      have I2 : Inv X pins σ H1 { s1 with heap := h' } := I1.kept (t' := s1.toks) hk
      refine Calls.spliced_nil (PyProof.Rows.kws_cons ?_)
      refine wpAny_Constant_int (PyProof.Rows.kws_nil ?_)
      rw [h5]
      refine call_enumZ (s := { s1 with heap := h', toks := s1.toks + 1 }) hz k0 k1 fun h'' he keep => ?_
      have sz : s1.heap.objs.size + 4 < h'.objs.size := Heap.lt_size hz
      have I3 : Inv X pins σ H1 { s1 with heap := h'', toks := s1.toks + 1 } := I2.kept (t' := s1.toks + 1) keep
      refine wpAny_pyIter_enum he ?_
      refine ⟨h'.objs.size, [h'.objs.size, s1.heap.objs.size + 4, s1.heap.objs.size + 2, s1.heap.objs.size + 3, s1.heap.objs.size, s1.heap.objs.size + 1], _, Itez X.K k a' b', H1, rfl, I3,
        turn_ez k (PySem.W.ktu_apart s1.heap.objs.size a' b' la lb) (Nat.ne_of_gt sz) (Nat.ne_of_gt (by omega)) (Nat.ne_of_gt (by omega)) (Nat.ne_of_gt (by omega)) (Nat.ne_of_gt (by omega)), ?_, fun c hcm => ?_, q⟩
      · refine ⟨⟨.none, by rw [show k + ((0 : Nat) : Int) = k by omega]; exact he⟩, ⟨.none, _, keep _ _ hz, .inl rfl⟩, keep _ _ hTI, ⟨_, _, keep _ _ hTO⟩, i1.at fun o z => keep _ o z, i2.at fun o z => keep _ o z⟩
      · have hle : s1.heap.objs.size ≤ c := by
          simp only [List.mem_cons, List.mem_nil_iff, or_false] at hcm
          rcases hcm with z | z | z | z | z | z <;> (rw [z]; omega)
        exact I1.fpOk hle (I1.hok.fresh hle)
/-- what is walked -/
def ezL (k : Int) (xs ys : List D) : List D := (List.range (min xs.length ys.length)).map fun i => .tup [.int (k + (i : Nat)), .tup [xs.getD i .non, ys.getD i .non]]
def D.enumZ (k : Int) : List D → Option (List D)
  | [.lst xs, .lst ys] => some (ezL k xs ys)
  | _ => none
theorem wlk_EZ {K : PySem.W.Frag} {G : Hp} {k : Int} {a b : Addr} {xs ys : List V} {ds es : List D} (h1 : Rd G a (.lst xs)) (h2 : Rd G b (.lst ys)) (r1 : RpAll K G xs ds) (r2 : RpAll K G ys es) : Wlk K (Itez K k a b) G (ezL k ds es) := by
  have ll : (ezL k ds es).length = min ds.length es.length := by unfold ezL; simp
  refine ⟨fun G' H' l lk => ⟨xs, ys, .inl (lk.le _ _ rfl (l _ _ rfl h1)), .inl (lk.le _ _ rfl (l _ _ rfl h2)), by rw [ll, r1.len, r2.len]; omega⟩, fun i d e G' H' l lk => ?_⟩
  have hi : i < min ds.length es.length := by rw [← ll]; exact (List.getElem?_eq_some_iff.mp e).1
  have i1 : i < ds.length := by omega
  have i2 : i < es.length := by omega
  have ed : d = .tup [.int (k + (i : Nat)), .tup [ds[i], es[i]]] := by
    unfold ezL at e
    rw [List.getElem?_map, List.getElem?_range hi] at e
    simp only [Option.map_some, Option.some.injEq] at e
    rw [← e, List.getD_eq_getElem?_getD, List.getD_eq_getElem?_getD, List.getElem?_eq_getElem i1, List.getElem?_eq_getElem i2]
    rfl
  subst ed
  obtain ⟨x, ex, rx⟩ := (r1.up l).get (List.getElem?_eq_getElem i1)
  obtain ⟨y, ey, ry⟩ := (r2.up l).get (List.getElem?_eq_getElem i2)
  have q1 : SqL K H' a xs := .inl (lk.le _ _ rfl (l _ _ rfl h1))
  have q2 : SqL K H' b ys := .inl (lk.le _ _ rfl (l _ _ rfl h2))
  refine ⟨⟨xs, ys, x, y, q1, q2, ex, ey⟩, ?_⟩
  rintro v H'' ⟨T1, T2, x', y', rfl, n1, n2, ne, rfl, f1, f2⟩
  have ex' := (f1 _ q1).symm.trans ex
  have ey' := (f2 _ q2).symm.trans ey
  have e1 : x' = x := Option.some.inj ex'
  have e2 : y' = y := Option.some.inj ey'
  subst e1; subst e2
  have w1 := Grow.new (o := .tup [x', y']) lk n1 rfl
  have n2' : upd H' T1 (.tup [x', y']) T2 = none := by rw [upd_ne (Ne.symm ne)]; exact n2
  have w2 := Grow.new (o := .tup [.int (k + (i : Nat)), .ref T1]) w1.up n2' rfl
  exact ⟨_, w1.trans w2, .tup (.inl (.inl upd_same)) (.cons (.int _) (.cons (Rp.up w2.g (.tup (.inl (.inl upd_same)) (.cons (rx.up w1.g) (.cons (ry.up w1.g) .nil)))) .nil))⟩
section
variable {X : Cx} {W : WN} {en : En} {a b : Expr} {ms : R (List D)} {pos : Pos}
theorem xi_enumZ {p p2 p3 zpos tpos kp : Pos} {elts : List Expr} {kk j : Nat} {k : Int} (hm : X.mg "zip" = none) (hme : X.mg "enumerate" = none) (ha : XA X W [a, b] en ms) (k0 : -(2 ^ 63) ≤ k := by decide) (k1 : k < 2 ^ 63 := by decide) (hg : Gl X "zip" := by rfl) (hge : Gl X "enumerate" := by rfl)
    (hs : starEach [a, b] X.env = (false, eval a X.env) :: starEach [b] X.env := by rfl) (hpl : (backTo zpos (starEach [b] X.env)).any (·.1) = false := by rfl)
    (h1 : backTo pos (starEach [.Call (.Name "zip" p2) [a, b] [] zpos] X.env) = (false, eval (.Call (.Name "zip" p2) [a, b] [] zpos) X.env) :: backTo pos (starEach [] X.env) := by rfl) (h2 : (backTo pos (starEach [.Call (.Name "zip" p2) [a, b] [] zpos] X.env)).any (·.1) = false := by rfl)
    (h3 : (backToKw pos (keywordEach [⟨some (Str.ofString "start"), .Constant (.int k) j p3, kp⟩] X.env)).all (·.1.isSome) = true := by rfl) (h4 : (backToKw pos (keywordEach [⟨some (Str.ofString "start"), .Constant (.int k) j p3, kp⟩] X.env)).any (·.1.isNone) = false := by rfl)
    (h5 : (backToKw pos (keywordEach [⟨some (Str.ofString "start"), .Constant (.int k) j p3, kp⟩] X.env)).filterMap (·.1) = [Str.ofString "start"] := by rfl) :
    XI X W (.Tuple elts kk tpos) (.Call (.Name "enumerate" p) [.Call (.Name "zip" p2) [a, b] [] zpos] [⟨some (Str.ofString "start"), .Constant (.int k) j p3, kp⟩] pos) en (ms.bnd fun ds => R.of (D.enumZ k ds)) := fun σ G H S Q h => by
  refine pi_to (pi_enumZ hg hm hge hme k0 k1 pa_w hs hpl h1 h2 h3 h4 h5) (ha σ G H S _ (wp_mono (wp_bnd.mp h) (fun ds hd vs G1 H1 w1 r1 => ?_) fun _ z => z))
  obtain ⟨l, e, hd⟩ := wp_of hd
  unfold D.enumZ at e
  split at e
  · cases e
    cases r1 with
    | cons r1 r2 =>
      cases r2 with
      | cons r2 r3 =>
        cases r3
        cases r1 with
        | lst a1 b1 =>
          cases r2 with
          | lst a2 b2 => exact ⟨_, _, _, _, rfl, .inl (w1.up.le _ _ rfl a1), .inl (w1.up.le _ _ rfl a2), hd _ G1 H1 w1 (wlk_EZ a1 a2 b1 b2)⟩
  · cases e
end
end Wk
set_option maxHeartbeats 4000000
/-! Wk25: comprehensions of all forms; in; slices stored; ranges that go down; lists taken apart. -/
namespace Wk
open PySem PySem.Spec PyProof.Rows L2
section
variable {X : Cx} {W : WN} {eE : En} {en : En} {ec : Nat → Addr} {pos : Pos} {ω : Type} {T : Bs → ω → Ends → Prop} {rest : List Stmt}
/-- what a comprehension's target and tests must say -/
structure LcB (X : Cx) (scope : Scope) (en : En) (tg elt : Expr) (ifs : List Expr) (own : List (Str × Nat)) (g : TG) (tt : TT) (mt : D → R Bool) (me : D → R D) : Prop where
  pg : ∀ (s : Shared) (H0 : Hp) (C : Addr) (cl : List (Str × Addr)) (fp : List Addr), PG (X.blk s H0 scope (compEnvC scope cl C X.env) fp) tg g
  pt : ∀ (s : Shared) (H0 : Hp) (C : Addr) (cl : List (Str × Addr)) (fp : List Addr), PTs (X.blk s H0 scope (compEnvC scope cl C X.env) fp) ifs tt
  tl : ∃ f, TgL X.K g (own.map (·.2)) f ∧ ∀ d (P : Bool → Prop) (E : Nat → Prop), wp (mt d) P E → ∃ e', f en d = some e' ∧ (∀ σ G H, Sl X.K e' σ G H → ∀ Q : Bool → Hp → Prop, wp (mt d) (fun b => ∀ G2 H2, Grow G H G2 H2 → Q b H2) (fun _ => False) → tt σ H Q) ∧ BP X scope elt e' (me d)
  cl : clr en (own.map (·.2)) = true
theorem xn_lcG {tg it elt : Expr} {ifs : List Expr} {scope : Scope} {own : List (Str × Nat)} {gg : TG} {tt : TT} {mi : R (List D)} {mt : D → R Bool} {me : D → R D} (g : Go X ec W) (hi : XI X W tg it en mi) (b : LcB X scope en tg elt ifs own gg tt mt me) (hblk : BlkOk X.N X.env.scope scope own)
    (hs : ∀ x, foldedSetIterable it X.env x = pure x := by intro _; rfl) : XN X W (.ListComp elt [⟨tg, it, ifs, 0⟩] scope pos) en (mi.bnd fun ds => lcIR mt me ds) := fun σ G H S Q q => by
  refine pe_to (pe_lc g.calm g.nd pi_w hblk b.pg b.pt pe_wb hs) ?_
  obtain ⟨f, h1, h2⟩ := b.tl
  exact lc_run hi h1 b.cl h2 σ G H S Q q
theorem xb_letLcG {j : Nat} {y : Str} {py : Pos} {tg it elt : Expr} {ifs : List Expr} {scope : Scope} {posc : Pos} {own : List (Str × Nat)} {gg : TG} {tt : TT} {mi : R (List D)} {mt : D → R Bool} {me : D → R D} {k : List D → R ω} (g : Go X ec W) (φ : Addr → List D → En) (hi : XI X W tg it en mi) (b : LcB X scope en tg elt ifs own gg tt mt me)
    (hk : ∀ a ds, XB X W eE rest (φ a ds) (k ds) T) (hblk : BlkOk X.N X.env.scope scope own) (hNy : X.N[j]? = some y := by rfl) (hφ : ∀ a ds, en.set j (some (.o false a (.l ds))) = φ a ds := by intro _ _; rfl) (we : Wk0 eE en := by first | exact wk0_nil | exact wk0_refl | assumption | exact Wkn.wk0 (by repeat' first | exact Wkn.nil | apply Wkn.k | apply Wkn.d))
    (hyl : X.env.scope.names.lookup y = some .local := by rfl) (hsw : swapsWith (.ListComp elt [⟨tg, it, ifs, 0⟩] scope posc) (some (.Name y py)) pos.line X.env = pure true := by exact sw_true rfl rfl rfl (by decide +kernel))
    (hs : ∀ x, foldedSetIterable it X.env x = pure x := by intro _; rfl) : XB X W eE (.Assign [.Name y py] (.ListComp elt [⟨tg, it, ifs, 0⟩] scope posc) pos :: rest) en ((mi.bnd fun ds => lcIR mt me ds).bnd k) T := fun B σ G H S D q => by
  refine pss_to (pss_cons (ps_setLc g.calm g.nd hNy hyl hsw pi_w hblk b.pg b.pt pe_wb hs) pss_w) ?_
  unfold tSeq tAsg
  obtain ⟨f, h1, h2⟩ := b.tl
  refine lc_run hi h1 b.cl h2 σ G H S.sl _ ?_
  refine wp_mono (wp_bnd.mp q) (fun ds hd a vs G2 H2 w hp gp ep r => ?_) fun c hc G2 H2 w => hc σ G2 H2 ((S.grow w).es.weak we)
  have hB := S.h0 hp
  have := (S.grow w).setO (i := j) (p := a) (c := .l ds) (fun jj b c' ej => ?_) hB gp ⟨vs, ep, r⟩
  · rw [hφ] at this
    exact hk a ds B _ G2 H2 this D hd
  · obtain ⟨u, x1, y1, y2, y3⟩ := S.es.at_ jj _ ej
    exact y3.there hp
theorem lcb1 {i0 : Nat} {x0 : Str} {p0 : Pos} {elt : Expr} {scope : Scope} {me : D → R D} (g : Go X ec W) (he : ∀ d0, BP X scope elt (en.set i0 (some (.v d0))) (me d0)) (hc : clr en [i0] = true := by rfl)
    (hN0 : X.N[i0]? = some x0 := by rfl)
    (hx0 : ∀ (s : Shared) (H0 : Hp) (C : Addr) (cl : List (Str × Addr)) (fp : List Addr), Loc (X.blk s H0 scope (compEnvC scope cl C X.env) fp).env.scope x0 := by intros; first | exact Or.inl rfl | exact Or.inr rfl) (hf0 : ∀ (s : Shared) (H0 : Hp) (C : Addr) (cl : List (Str × Addr)) (fp : List Addr), (X.blk s H0 scope (compEnvC scope cl C X.env) fp).fn x0 = true ∨ (X.blk s H0 scope (compEnvC scope cl C X.env) fp).env.scope.names.lookup x0 = some .local := by intros; first | exact .inl rfl | exact .inr rfl)
    : LcB X scope en (.Name x0 p0) elt [] [(x0, i0)] (gName i0) tYes (fun _ => .ok true) (me) where
  pg := fun s H0 C cl fp => pg_name g.nd hN0 (hx0 s H0 C cl fp) (hf0 s H0 C cl fp)
  pt := fun _ _ _ _ _ => pts_nil
  cl := hc
  tl := ⟨_, tl_name, fun d P E hw => by
    exact ⟨_, rfl, fun σ G H S Q k => k G H (Grow.refl S.le), he d⟩⟩
theorem lcb1I {i0 : Nat} {x0 : Str} {p0 : Pos} {elt c : Expr} {scope : Scope} {me : D → R D} {mt : D → R Bool} (g : Go X ec W) (ht : ∀ d0, BT X scope c (en.set i0 (some (.v d0))) (mt d0)) (he : ∀ d0, BP X scope elt (en.set i0 (some (.v d0))) (me d0)) (hc : clr en [i0] = true := by rfl)
    (hN0 : X.N[i0]? = some x0 := by rfl)
    (hx0 : ∀ (s : Shared) (H0 : Hp) (C : Addr) (cl : List (Str × Addr)) (fp : List Addr), Loc (X.blk s H0 scope (compEnvC scope cl C X.env) fp).env.scope x0 := by intros; first | exact Or.inl rfl | exact Or.inr rfl) (hf0 : ∀ (s : Shared) (H0 : Hp) (C : Addr) (cl : List (Str × Addr)) (fp : List Addr), (X.blk s H0 scope (compEnvC scope cl C X.env) fp).fn x0 = true ∨ (X.blk s H0 scope (compEnvC scope cl C X.env) fp).env.scope.names.lookup x0 = some .local := by intros; first | exact .inl rfl | exact .inr rfl)
    : LcB X scope en (.Name x0 p0) elt [c] [(x0, i0)] (gName i0) (wTb X scope c) (mt) (me) where
  pg := fun s H0 C cl fp => pg_name g.nd hN0 (hx0 s H0 C cl fp) (hf0 s H0 C cl fp)
  pt := fun s H0 C cl fp => pts_one (pt_wb s H0 C cl fp)
  cl := hc
  tl := ⟨_, tl_name, fun d P E hw => by
    exact ⟨_, rfl, fun σ G H S Q k s0 H0 C cl fp => ht d s0 H0 C cl fp σ G H S Q (wp_mono k (fun _ z => z) fun _ z => z.elim), he d⟩⟩
theorem lcb2 {i0 i1 : Nat} {x0 x1 : Str} {p0 p1 p9 : Pos} {kk : Nat} {elt : Expr} {scope : Scope} {me : D → D → R D} (g : Go X ec W) (he : ∀ d0 d1, BP X scope elt ((en.set i0 (some (.v d0))).set i1 (some (.v d1))) (me d0 d1)) (hc : clr en [i0, i1] = true := by rfl)
    (hN0 : X.N[i0]? = some x0 := by rfl) (hN1 : X.N[i1]? = some x1 := by rfl)
    (hx0 : ∀ (s : Shared) (H0 : Hp) (C : Addr) (cl : List (Str × Addr)) (fp : List Addr), Loc (X.blk s H0 scope (compEnvC scope cl C X.env) fp).env.scope x0 := by intros; first | exact Or.inl rfl | exact Or.inr rfl) (hf0 : ∀ (s : Shared) (H0 : Hp) (C : Addr) (cl : List (Str × Addr)) (fp : List Addr), (X.blk s H0 scope (compEnvC scope cl C X.env) fp).fn x0 = true ∨ (X.blk s H0 scope (compEnvC scope cl C X.env) fp).env.scope.names.lookup x0 = some .local := by intros; first | exact .inl rfl | exact .inr rfl)
    (hx1 : ∀ (s : Shared) (H0 : Hp) (C : Addr) (cl : List (Str × Addr)) (fp : List Addr), Loc (X.blk s H0 scope (compEnvC scope cl C X.env) fp).env.scope x1 := by intros; first | exact Or.inl rfl | exact Or.inr rfl) (hf1 : ∀ (s : Shared) (H0 : Hp) (C : Addr) (cl : List (Str × Addr)) (fp : List Addr), (X.blk s H0 scope (compEnvC scope cl C X.env) fp).fn x1 = true ∨ (X.blk s H0 scope (compEnvC scope cl C X.env) fp).env.scope.names.lookup x1 = some .local := by intros; first | exact .inl rfl | exact .inr rfl)
    (hn : ∀ env, (assignEach [.Name x0 p0, .Name x1 p1] env).length = 2 := by intro _; rfl) (hst : ∀ env, (assignEach [.Name x0 p0, .Name x1 p1] env).findIdx? (·.1) = none := by intro _; rfl)
    (hm0 : ∀ env, (assignEach [.Name x0 p0, .Name x1 p1] env).map (·.2) = assign (.Name x0 p0) env :: (assignEach [.Name x1 p1] env).map (·.2) := by intro _; rfl)
    (hm1 : ∀ env, (assignEach [.Name x1 p1] env).map (·.2) = assign (.Name x1 p1) env :: (assignEach [] env).map (·.2) := by intro _; rfl)
    : LcB X scope en (.Tuple [.Name x0 p0, .Name x1 p1] kk p9) elt [] [(x0, i0), (x1, i1)] (gTup X.K 2 (gCons (gName i0) (gCons (gName i1) gNil))) tYes (fun d => (R.of d.two).bnd fun q => .ok true) (fun d => (R.of d.two).bnd fun q => (me q.1 q.2)) where
  pg := fun s H0 C cl fp => pg_tup g.calm (pgs_cons (pg_name g.nd hN0 (hx0 s H0 C cl fp) (hf0 s H0 C cl fp)) (pgs_cons (pg_name g.nd hN1 (hx1 s H0 C cl fp) (hf1 s H0 C cl fp)) pgs_nil (hm1 _)) (hm0 _)) (hn _) (hst _)
  pt := fun _ _ _ _ _ => pts_nil
  cl := hc
  tl := ⟨_, tl_two, fun d P E hw => by
    obtain ⟨(q : D × D), e1, e2⟩ := wp_of (wp_bnd.mp hw)
    rw [e1]
    exact ⟨_, by rfl, fun σ G H S Q k => k G H (Grow.refl S.le), he q.1 q.2⟩⟩
theorem lcb2I {i0 i1 : Nat} {x0 x1 : Str} {p0 p1 p9 : Pos} {kk : Nat} {elt c : Expr} {scope : Scope} {me : D → D → R D} {mt : D → D → R Bool} (g : Go X ec W) (ht : ∀ d0 d1, BT X scope c ((en.set i0 (some (.v d0))).set i1 (some (.v d1))) (mt d0 d1)) (he : ∀ d0 d1, BP X scope elt ((en.set i0 (some (.v d0))).set i1 (some (.v d1))) (me d0 d1)) (hc : clr en [i0, i1] = true := by rfl)
    (hN0 : X.N[i0]? = some x0 := by rfl) (hN1 : X.N[i1]? = some x1 := by rfl)
    (hx0 : ∀ (s : Shared) (H0 : Hp) (C : Addr) (cl : List (Str × Addr)) (fp : List Addr), Loc (X.blk s H0 scope (compEnvC scope cl C X.env) fp).env.scope x0 := by intros; first | exact Or.inl rfl | exact Or.inr rfl) (hf0 : ∀ (s : Shared) (H0 : Hp) (C : Addr) (cl : List (Str × Addr)) (fp : List Addr), (X.blk s H0 scope (compEnvC scope cl C X.env) fp).fn x0 = true ∨ (X.blk s H0 scope (compEnvC scope cl C X.env) fp).env.scope.names.lookup x0 = some .local := by intros; first | exact .inl rfl | exact .inr rfl)
    (hx1 : ∀ (s : Shared) (H0 : Hp) (C : Addr) (cl : List (Str × Addr)) (fp : List Addr), Loc (X.blk s H0 scope (compEnvC scope cl C X.env) fp).env.scope x1 := by intros; first | exact Or.inl rfl | exact Or.inr rfl) (hf1 : ∀ (s : Shared) (H0 : Hp) (C : Addr) (cl : List (Str × Addr)) (fp : List Addr), (X.blk s H0 scope (compEnvC scope cl C X.env) fp).fn x1 = true ∨ (X.blk s H0 scope (compEnvC scope cl C X.env) fp).env.scope.names.lookup x1 = some .local := by intros; first | exact .inl rfl | exact .inr rfl)
    (hn : ∀ env, (assignEach [.Name x0 p0, .Name x1 p1] env).length = 2 := by intro _; rfl) (hst : ∀ env, (assignEach [.Name x0 p0, .Name x1 p1] env).findIdx? (·.1) = none := by intro _; rfl)
    (hm0 : ∀ env, (assignEach [.Name x0 p0, .Name x1 p1] env).map (·.2) = assign (.Name x0 p0) env :: (assignEach [.Name x1 p1] env).map (·.2) := by intro _; rfl)
    (hm1 : ∀ env, (assignEach [.Name x1 p1] env).map (·.2) = assign (.Name x1 p1) env :: (assignEach [] env).map (·.2) := by intro _; rfl)
    : LcB X scope en (.Tuple [.Name x0 p0, .Name x1 p1] kk p9) elt [c] [(x0, i0), (x1, i1)] (gTup X.K 2 (gCons (gName i0) (gCons (gName i1) gNil))) (wTb X scope c) (fun d => (R.of d.two).bnd fun q => (mt q.1 q.2)) (fun d => (R.of d.two).bnd fun q => (me q.1 q.2)) where
  pg := fun s H0 C cl fp => pg_tup g.calm (pgs_cons (pg_name g.nd hN0 (hx0 s H0 C cl fp) (hf0 s H0 C cl fp)) (pgs_cons (pg_name g.nd hN1 (hx1 s H0 C cl fp) (hf1 s H0 C cl fp)) pgs_nil (hm1 _)) (hm0 _)) (hn _) (hst _)
  pt := fun s H0 C cl fp => pts_one (pt_wb s H0 C cl fp)
  cl := hc
  tl := ⟨_, tl_two, fun d P E hw => by
    obtain ⟨(q : D × D), e1, e2⟩ := wp_of (wp_bnd.mp hw)
    rw [e1]
    exact ⟨_, by rfl, fun σ G H S Q k s0 H0 C cl fp => ht q.1 q.2 s0 H0 C cl fp σ G H S Q (wp_mono k (fun _ z => z) fun _ z => z.elim), he q.1 q.2⟩⟩
theorem lcb3 {i0 i1 i2 : Nat} {x0 x1 x2 : Str} {p0 p1 p2 p9 : Pos} {kk : Nat} {elt : Expr} {scope : Scope} {me : D → D → D → R D} (g : Go X ec W) (he : ∀ d0 d1 d2, BP X scope elt (((en.set i0 (some (.v d0))).set i1 (some (.v d1))).set i2 (some (.v d2))) (me d0 d1 d2)) (hc : clr en [i0, i1, i2] = true := by rfl)
    (hN0 : X.N[i0]? = some x0 := by rfl) (hN1 : X.N[i1]? = some x1 := by rfl) (hN2 : X.N[i2]? = some x2 := by rfl)
    (hx0 : ∀ (s : Shared) (H0 : Hp) (C : Addr) (cl : List (Str × Addr)) (fp : List Addr), Loc (X.blk s H0 scope (compEnvC scope cl C X.env) fp).env.scope x0 := by intros; first | exact Or.inl rfl | exact Or.inr rfl) (hf0 : ∀ (s : Shared) (H0 : Hp) (C : Addr) (cl : List (Str × Addr)) (fp : List Addr), (X.blk s H0 scope (compEnvC scope cl C X.env) fp).fn x0 = true ∨ (X.blk s H0 scope (compEnvC scope cl C X.env) fp).env.scope.names.lookup x0 = some .local := by intros; first | exact .inl rfl | exact .inr rfl)
    (hx1 : ∀ (s : Shared) (H0 : Hp) (C : Addr) (cl : List (Str × Addr)) (fp : List Addr), Loc (X.blk s H0 scope (compEnvC scope cl C X.env) fp).env.scope x1 := by intros; first | exact Or.inl rfl | exact Or.inr rfl) (hf1 : ∀ (s : Shared) (H0 : Hp) (C : Addr) (cl : List (Str × Addr)) (fp : List Addr), (X.blk s H0 scope (compEnvC scope cl C X.env) fp).fn x1 = true ∨ (X.blk s H0 scope (compEnvC scope cl C X.env) fp).env.scope.names.lookup x1 = some .local := by intros; first | exact .inl rfl | exact .inr rfl)
    (hx2 : ∀ (s : Shared) (H0 : Hp) (C : Addr) (cl : List (Str × Addr)) (fp : List Addr), Loc (X.blk s H0 scope (compEnvC scope cl C X.env) fp).env.scope x2 := by intros; first | exact Or.inl rfl | exact Or.inr rfl) (hf2 : ∀ (s : Shared) (H0 : Hp) (C : Addr) (cl : List (Str × Addr)) (fp : List Addr), (X.blk s H0 scope (compEnvC scope cl C X.env) fp).fn x2 = true ∨ (X.blk s H0 scope (compEnvC scope cl C X.env) fp).env.scope.names.lookup x2 = some .local := by intros; first | exact .inl rfl | exact .inr rfl)
    (hn : ∀ env, (assignEach [.Name x0 p0, .Name x1 p1, .Name x2 p2] env).length = 3 := by intro _; rfl) (hst : ∀ env, (assignEach [.Name x0 p0, .Name x1 p1, .Name x2 p2] env).findIdx? (·.1) = none := by intro _; rfl)
    (hm0 : ∀ env, (assignEach [.Name x0 p0, .Name x1 p1, .Name x2 p2] env).map (·.2) = assign (.Name x0 p0) env :: (assignEach [.Name x1 p1, .Name x2 p2] env).map (·.2) := by intro _; rfl)
    (hm1 : ∀ env, (assignEach [.Name x1 p1, .Name x2 p2] env).map (·.2) = assign (.Name x1 p1) env :: (assignEach [.Name x2 p2] env).map (·.2) := by intro _; rfl)
    (hm2 : ∀ env, (assignEach [.Name x2 p2] env).map (·.2) = assign (.Name x2 p2) env :: (assignEach [] env).map (·.2) := by intro _; rfl)
    : LcB X scope en (.Tuple [.Name x0 p0, .Name x1 p1, .Name x2 p2] kk p9) elt [] [(x0, i0), (x1, i1), (x2, i2)] (gTup X.K 3 (gCons (gName i0) (gCons (gName i1) (gCons (gName i2) gNil)))) tYes (fun d => (R.of d.three).bnd fun q => .ok true) (fun d => (R.of d.three).bnd fun q => (me q.1 q.2.1 q.2.2)) where
  pg := fun s H0 C cl fp => pg_tup g.calm (pgs_cons (pg_name g.nd hN0 (hx0 s H0 C cl fp) (hf0 s H0 C cl fp)) (pgs_cons (pg_name g.nd hN1 (hx1 s H0 C cl fp) (hf1 s H0 C cl fp)) (pgs_cons (pg_name g.nd hN2 (hx2 s H0 C cl fp) (hf2 s H0 C cl fp)) pgs_nil (hm2 _)) (hm1 _)) (hm0 _)) (hn _) (hst _)
  pt := fun _ _ _ _ _ => pts_nil
  cl := hc
  tl := ⟨_, tl_three, fun d P E hw => by
    obtain ⟨(q : D × D × D), e1, e2⟩ := wp_of (wp_bnd.mp hw)
    rw [e1]
    exact ⟨_, by rfl, fun σ G H S Q k => k G H (Grow.refl S.le), he q.1 q.2.1 q.2.2⟩⟩
theorem lcb3I {i0 i1 i2 : Nat} {x0 x1 x2 : Str} {p0 p1 p2 p9 : Pos} {kk : Nat} {elt c : Expr} {scope : Scope} {me : D → D → D → R D} {mt : D → D → D → R Bool} (g : Go X ec W) (ht : ∀ d0 d1 d2, BT X scope c (((en.set i0 (some (.v d0))).set i1 (some (.v d1))).set i2 (some (.v d2))) (mt d0 d1 d2)) (he : ∀ d0 d1 d2, BP X scope elt (((en.set i0 (some (.v d0))).set i1 (some (.v d1))).set i2 (some (.v d2))) (me d0 d1 d2)) (hc : clr en [i0, i1, i2] = true := by rfl)
    (hN0 : X.N[i0]? = some x0 := by rfl) (hN1 : X.N[i1]? = some x1 := by rfl) (hN2 : X.N[i2]? = some x2 := by rfl)
    (hx0 : ∀ (s : Shared) (H0 : Hp) (C : Addr) (cl : List (Str × Addr)) (fp : List Addr), Loc (X.blk s H0 scope (compEnvC scope cl C X.env) fp).env.scope x0 := by intros; first | exact Or.inl rfl | exact Or.inr rfl) (hf0 : ∀ (s : Shared) (H0 : Hp) (C : Addr) (cl : List (Str × Addr)) (fp : List Addr), (X.blk s H0 scope (compEnvC scope cl C X.env) fp).fn x0 = true ∨ (X.blk s H0 scope (compEnvC scope cl C X.env) fp).env.scope.names.lookup x0 = some .local := by intros; first | exact .inl rfl | exact .inr rfl)
    (hx1 : ∀ (s : Shared) (H0 : Hp) (C : Addr) (cl : List (Str × Addr)) (fp : List Addr), Loc (X.blk s H0 scope (compEnvC scope cl C X.env) fp).env.scope x1 := by intros; first | exact Or.inl rfl | exact Or.inr rfl) (hf1 : ∀ (s : Shared) (H0 : Hp) (C : Addr) (cl : List (Str × Addr)) (fp : List Addr), (X.blk s H0 scope (compEnvC scope cl C X.env) fp).fn x1 = true ∨ (X.blk s H0 scope (compEnvC scope cl C X.env) fp).env.scope.names.lookup x1 = some .local := by intros; first | exact .inl rfl | exact .inr rfl)
    (hx2 : ∀ (s : Shared) (H0 : Hp) (C : Addr) (cl : List (Str × Addr)) (fp : List Addr), Loc (X.blk s H0 scope (compEnvC scope cl C X.env) fp).env.scope x2 := by intros; first | exact Or.inl rfl | exact Or.inr rfl) (hf2 : ∀ (s : Shared) (H0 : Hp) (C : Addr) (cl : List (Str × Addr)) (fp : List Addr), (X.blk s H0 scope (compEnvC scope cl C X.env) fp).fn x2 = true ∨ (X.blk s H0 scope (compEnvC scope cl C X.env) fp).env.scope.names.lookup x2 = some .local := by intros; first | exact .inl rfl | exact .inr rfl)
    (hn : ∀ env, (assignEach [.Name x0 p0, .Name x1 p1, .Name x2 p2] env).length = 3 := by intro _; rfl) (hst : ∀ env, (assignEach [.Name x0 p0, .Name x1 p1, .Name x2 p2] env).findIdx? (·.1) = none := by intro _; rfl)
    (hm0 : ∀ env, (assignEach [.Name x0 p0, .Name x1 p1, .Name x2 p2] env).map (·.2) = assign (.Name x0 p0) env :: (assignEach [.Name x1 p1, .Name x2 p2] env).map (·.2) := by intro _; rfl)
    (hm1 : ∀ env, (assignEach [.Name x1 p1, .Name x2 p2] env).map (·.2) = assign (.Name x1 p1) env :: (assignEach [.Name x2 p2] env).map (·.2) := by intro _; rfl)
    (hm2 : ∀ env, (assignEach [.Name x2 p2] env).map (·.2) = assign (.Name x2 p2) env :: (assignEach [] env).map (·.2) := by intro _; rfl)
    : LcB X scope en (.Tuple [.Name x0 p0, .Name x1 p1, .Name x2 p2] kk p9) elt [c] [(x0, i0), (x1, i1), (x2, i2)] (gTup X.K 3 (gCons (gName i0) (gCons (gName i1) (gCons (gName i2) gNil)))) (wTb X scope c) (fun d => (R.of d.three).bnd fun q => (mt q.1 q.2.1 q.2.2)) (fun d => (R.of d.three).bnd fun q => (me q.1 q.2.1 q.2.2)) where
  pg := fun s H0 C cl fp => pg_tup g.calm (pgs_cons (pg_name g.nd hN0 (hx0 s H0 C cl fp) (hf0 s H0 C cl fp)) (pgs_cons (pg_name g.nd hN1 (hx1 s H0 C cl fp) (hf1 s H0 C cl fp)) (pgs_cons (pg_name g.nd hN2 (hx2 s H0 C cl fp) (hf2 s H0 C cl fp)) pgs_nil (hm2 _)) (hm1 _)) (hm0 _)) (hn _) (hst _)
  pt := fun s H0 C cl fp => pts_one (pt_wb s H0 C cl fp)
  cl := hc
  tl := ⟨_, tl_three, fun d P E hw => by
    obtain ⟨(q : D × D × D), e1, e2⟩ := wp_of (wp_bnd.mp hw)
    rw [e1]
    exact ⟨_, by rfl, fun σ G H S Q k s0 H0 C cl fp => ht q.1 q.2.1 q.2.2 s0 H0 C cl fp σ G H S Q (wp_mono k (fun _ z => z) fun _ z => z.elim), he q.1 q.2.1 q.2.2⟩⟩
end

section
variable {X : Cx} {W : WN} {eE : En} {en : En} {ec : Nat → Addr} {pos : Pos} {γ ω : Type} {φ : γ → En} {T : Bs → ω → Ends → Prop} {rest : List Stmt} {a b c e : Expr} {ma mb mc : R D}
def R.bU3V {ω : Type} (m : R (D × γ)) (k : D → D → D → γ → R ω) : R ω := m.bnd2 fun d c => (R.of d.three).bnd fun q => k q.1 q.2.1 q.2.2 c
@[simp] theorem s_bU3V {ω : Type} {x y z : D} {c : γ} {k : D → D → D → γ → R ω} : R.bU3V (.ok (.tup [x, y, z], c)) k = k x y z c := by exact id rfl
theorem xb_threeV {i j l : Nat} {x y w : Str} {p p' p'' p2 : Pos} {kk : Nat} {m : R (D × γ)} {k : D → D → D → γ → R ω} (g : Go X ec W) (χ : D → D → D → γ → En) (h : XV X W eE e en m φ) (hk : ∀ d d' d'' c, XB X W eE rest (χ d d' d'' c) (k d d' d'' c) T) (hN : X.N[i]? = some x := by rfl) (hN' : X.N[j]? = some y := by rfl) (hN'' : X.N[l]? = some w := by rfl)
    (hφ : ∀ d d' d'' c, (((φ c).set i (some (.v d))).set j (some (.v d'))).set l (some (.v d'')) = χ d d' d'' c := by intro _ _ _ _; rfl)
    (hx : Loc X.env.scope x := by first | exact Or.inl rfl | exact Or.inr rfl) (hx' : Loc X.env.scope y := by first | exact Or.inl rfl | exact Or.inr rfl) (hx'' : Loc X.env.scope w := by first | exact Or.inl rfl | exact Or.inr rfl) (hf : X.fn x = true ∨ X.env.scope.names.lookup x = some .local := by first | exact .inl rfl | exact .inr rfl) (hf' : X.fn y = true ∨ X.env.scope.names.lookup y = some .local := by first | exact .inl rfl | exact .inr rfl) (hf'' : X.fn w = true ∨ X.env.scope.names.lookup w = some .local := by first | exact .inl rfl | exact .inr rfl)
    (hn : (assignEach [.Name x p, .Name y p', .Name w p''] X.env).length = 3 := by rfl) (hst : (assignEach [.Name x p, .Name y p', .Name w p''] X.env).findIdx? (·.1) = none := by rfl)
    (h1 : (assignEach [.Name x p, .Name y p', .Name w p''] X.env).map (·.2) = assign (.Name x p) X.env :: (assignEach [.Name y p', .Name w p''] X.env).map (·.2) := by rfl) (h2 : (assignEach [.Name y p', .Name w p''] X.env).map (·.2) = assign (.Name y p') X.env :: (assignEach [.Name w p''] X.env).map (·.2) := by rfl) (h3 : (assignEach [.Name w p''] X.env).map (·.2) = assign (.Name w p'') X.env :: (assignEach [] X.env).map (·.2) := by rfl)
    (s1 : swapsWithSole [.Tuple [.Name x p, .Name y p', .Name w p''] kk p2] e pos.line X.env = pure false := by first | exact swaps_no rfl | exact swapsS_no rfl | rfl) (s2 : swappedStores [.Tuple [.Name x p, .Name y p', .Name w p''] kk p2] e X.env = pure none := by rfl) (s3 : (assignEach [.Tuple [.Name x p, .Name y p', .Name w p''] kk p2] X.env).map (·.2) = [assign (.Tuple [.Name x p, .Name y p', .Name w p''] kk p2) X.env] := by rfl) :
    XB X W eE (.Assign [.Tuple [.Name x p, .Name y p', .Name w p''] kk p2] e pos :: rest) en (R.bU3V m k) T := fun B σ G H S D q => by
  refine pss_to (pss_cons (ps_asg pe_w (pg_tup g.calm (pgs_cons (pg_name g.nd hN hx hf) (pgs_cons (pg_name g.nd hN' hx' hf') (pgs_cons (pg_name g.nd hN'' hx'' hf'') pgs_nil h3) h2) h1) hn hst) s1 s2 s3) pss_w) ?_
  refine h B σ G H S _ (wp_mono (wp_bnd.mp q) (fun dc hd v G1 H1 l S1 r => ?_) fun _ z => z)
  obtain ⟨(z : Wk.D × Wk.D × Wk.D), e1, hd⟩ := wp_of (wp_bnd.mp hd)
  refine tg_three B _ σ G1 H1 S1 dc.1 v _ r (by show Option.map _ dc.1.three = _; rw [e1]; rfl) _ fun σ' S' => ?_
  dsimp only at S'
  rw [hφ] at S'
  exact hk _ _ _ _ B σ' G1 H1 S' D hd
/-! in -/
def strsD : List D → Option (List Str)
  | [] => some []
  | .str x :: ds => (strsD ds).map fun l => x :: l
  | _ => none
theorem strs_rp {K : PySem.W.Frag} {G : Hp} : ∀ {ds : List D} {vs : List V} {l : List Str}, strsD ds = some l → RpAll K G vs ds → vs = l.map V.str
  | [], _, _, e, h => by cases e; cases h; rfl
  | d :: ds, _, _, e, h => by
    cases d <;> simp only [strsD] at e
    all_goals first | (cases e; done) | skip
    obtain ⟨l, e1, rfl⟩ := Option.map_eq_some_iff.mp e
    cases h with
    | cons a c => cases a; rw [strs_rp e1 c]; rfl
def D.in_ (x y : D) : Option Bool := match x, y with
  | .int i, .lst xs => (intsD xs).map fun l => l.contains i
  | .int i, .tup xs => (intsD xs).map fun l => l.contains i
  | .str i, .lst xs => (strsD xs).map fun l => l.contains i
  | .str i, .tup xs => (strsD xs).map fun l => l.contains i
  | _, _ => none
def D.notin (x y : D) : Option Bool := (D.in_ x y).map fun b => !b
theorem o_in : OpR X (compareOp .In) (rIn X.K false) := op_in_seq
theorem o_notin : OpR X (compareOp .NotIn) (rIn X.K true) := op_notIn_seq
theorem inV_int {i : Int} : ∀ l : List Int, inV (.int i) (l.map V.int) = l.contains i
  | [] => rfl
  | j :: l => by
    have h := inV_int (i := i) l
    unfold inV at h ⊢
    rw [List.map_cons, List.any_cons, h, List.contains_cons]
    show (j == i || _) = (i == j || _)
    rw [show (j == i) = (i == j) from BEq.comm]
theorem inV_str {i : Str} : ∀ l : List Str, inV (.str i) (l.map V.str) = l.contains i
  | [] => rfl
  | j :: l => by
    have h := inV_str (i := i) l
    unfold inV at h ⊢
    rw [List.map_cons, List.any_cons, h, List.contains_cons]
    show (j == i || _) = (i == j || _)
    rw [show (j == i) = (i == j) from BEq.comm]
theorem flat_int (l : List Int) : (l.map V.int).all flatV = true := by simp [flatV]
theorem flat_str (l : List Str) : (l.map V.str).all flatV = true := by simp [flatV]
theorem d_inG {K : PySem.W.Frag} {neg : Bool} : OpD K (rIn K neg) (fun x y => ((D.in_ x y).map fun b => if neg then !b else b).map .bl) := fun G H x y dx dy d l rx ry e Q q => by
  obtain ⟨b0, e0, rfl⟩ := Option.map_eq_some_iff.mp e
  obtain ⟨b, e1, rfl⟩ := Option.map_eq_some_iff.mp e0
  unfold D.in_ at e1
  split at e1
  · obtain ⟨ns, e2, rfl⟩ := Option.map_eq_some_iff.mp e1
    cases rx
    cases ry with
    | lst h1 r1 =>
      have ev := ints_rp e2 r1
      subst ev
      exact ⟨_, _, rfl, .inl (.inl (l.le _ _ rfl h1)), rfl, flat_int _, by rw [inV_int]; exact keepQ l q (.bl _)⟩
  · obtain ⟨ns, e2, rfl⟩ := Option.map_eq_some_iff.mp e1
    cases rx
    cases ry with
    | tup h1 r1 =>
      have ev := ints_rp e2 r1
      subst ev
      exact ⟨_, _, rfl, .inr (l.le.seqT h1), rfl, flat_int _, by rw [inV_int]; exact keepQ l q (.bl _)⟩
  · obtain ⟨ns, e2, rfl⟩ := Option.map_eq_some_iff.mp e1
    cases rx
    cases ry with
    | lst h1 r1 =>
      have ev := strs_rp e2 r1
      subst ev
      exact ⟨_, _, rfl, .inl (.inl (l.le _ _ rfl h1)), rfl, flat_str _, by rw [inV_str]; exact keepQ l q (.bl _)⟩
  · obtain ⟨ns, e2, rfl⟩ := Option.map_eq_some_iff.mp e1
    cases rx
    cases ry with
    | tup h1 r1 =>
      have ev := strs_rp e2 r1
      subst ev
      exact ⟨_, _, rfl, .inr (l.le.seqT h1), rfl, flat_str _, by rw [inV_str]; exact keepQ l q (.bl _)⟩
  · cases e1
theorem d_in {K : PySem.W.Frag} : OpD K (rIn K false) (fun x y => (D.in_ x y).map .bl) := fun G H x y dx dy d l rx ry e Q q => d_inG G H x y dx dy d l rx ry (by dsimp only at e ⊢; rw [← e]; cases D.in_ dx dy <;> rfl) Q q
theorem d_notin {K : PySem.W.Frag} : OpD K (rIn K true) (fun x y => (D.notin x y).map .bl) := fun G H x y dx dy d l rx ry e Q q => d_inG G H x y dx dy d l rx ry (by dsimp only at e ⊢; rw [← e]; unfold D.notin; cases D.in_ dx dy <;> rfl) Q q
/-! ranges that go down -/
def downD (i j : Int) : List D := (List.range (i - j).toNat).map fun k => .int (i - (k : Nat))
def rg3 : List D → Option (List D)
  | [.int i, .int j, .int c] => if c = -1 ∧ -(2 ^ 62) ≤ i ∧ i < 2 ^ 62 ∧ -(2 ^ 62) ≤ j ∧ j < 2 ^ 62 then some (downD i j) else none
  | _ => none
theorem wlk_Rc {K : PySem.W.Frag} {G : Hp} {i j : Int} : Wlk K (Itc i (-1) (i - j).toNat) G (downD i j) :=
  ⟨fun G' H' l k => by show _ ≤ _; unfold downD; simp, fun n d e G' H' l k => by
    have hn : n < (i - j).toNat := by
      have := (List.getElem?_eq_some_iff.mp e).1
      unfold downD at this
      simpa using this
    unfold downD at e
    rw [List.getElem?_map, List.getElem?_range hn] at e
    cases e
    refine ⟨hn, fun x H'' y => ?_⟩
    obtain ⟨rfl, rfl⟩ := y
    refine ⟨G', Grow.refl k, ?_⟩
    have : i + (n : Int) * (-1) = i - n := by omega
    rw [this]
    exact .int _⟩
theorem xi_range3 {tg : Expr} {p : Pos} {ms : R (List D)} (hm : X.mg "range" = none) (h : XA X W [a, b, c] en ms) (hg : Gl X "range" := by rfl) (hs : starEach [a, b, c] X.env = (false, eval a X.env) :: starEach [b, c] X.env := by rfl) (hpl : (backTo pos (starEach [b, c] X.env)).any (·.1) = false := by rfl) : XI X W tg (.Call (.Name "range" p) [a, b, c] [] pos) en (ms.bnd fun ds => R.of (rg3 ds)) := fun σ G H S Q k => by
  refine pi_to (pi_range3 hg hm pa_w hs hpl) (h σ G H S _ (wp_mono (wp_bnd.mp k) (fun ds hd vs G1 H1 w1 r1 => ?_) fun _ z => z))
  obtain ⟨l, e, hd⟩ := wp_of hd
  unfold rg3 at e
  split at e
  · split at e
    · rename_i i j c' hz
      obtain ⟨rfl, z1, z2, z3, z4⟩ := hz
      cases e
      cases r1 with
      | cons r1 r2 =>
        cases r2 with
        | cons r2 r3 =>
          cases r3 with
          | cons r3 r4 =>
            cases r1; cases r2; cases r3; cases r4
            exact ⟨i, j, -1, (i - j).toNat, rfl, RgC.neg z1 z2 z3 z4, hd _ G1 H1 w1 wlk_Rc⟩
    · cases e
  · cases e
/-! a slice of a list of one's own; what is taken apart; a slice stored -/
theorem xn_cutO {i : Nat} {bb : Bool} {p : Addr} {px p2 : Pos} {ds : List D} {x : Str} {lo hi : Option Expr} {ml mh : R (Option Int)} (hl : XO X W lo en ml) (hh : XO X W hi en mh) (he : en[i]? = some (some (.o bb p (.l ds))) := by rfl) (hN : X.N[i]? = some x := by rfl) (hv : Vis X.env.scope x := by first | exact Or.inl rfl | exact Or.inr (Or.inl rfl) | exact Or.inr (Or.inr rfl)) (hd : (x == ("__debug__" : Str)) = false := by decide) (hcd : (x == ("__classdict__" : Str)) = false := by decide) :
    XN X W (.Subscript (.Name x px) (.Slice lo hi none p2) pos) en (ml.bnd fun l => mh.bnd fun h => .ok (cutD ds l h)) := fun σ G H S Q k => by
  obtain ⟨e1, vs, hp, r⟩ := own_var S he
  refine pe_to (pe_slice sl_list (pe_var hN hv hd hcd) po_w po_w) ⟨.ref p, e1, ?_⟩
  refine hl σ G H S _ (wp_mono (wp_bnd.mp k) (fun l hl' G2 H2 w2 => ?_) fun _ z => z)
  refine hh σ G2 H2 (S.grow w2) _ (wp_mono (wp_bnd.mp hl') (fun h hh' G3 H3 w3 => ?_) fun _ z G3 H3 w => z G3 H3 (w2.trans w))
  have w := w2.trans w3
  exact ⟨p, vs, rfl, .inl (.inl (w.h _ _ hp)), fun q hq => newL w.up hq ((r.up w.g).cut l h) (NewL.up w hh')⟩
def two? : List D → Option (D × D)
  | [x, y] => some (x, y)
  | _ => none
def R.bL2 {ω : Type} (m : R (List D)) (k : D → D → R ω) : R ω := m.bnd fun d => (R.of (two? d)).bnd fun q => k q.1 q.2
@[simp] theorem s_bL2 {ω : Type} {x y : D} {k : D → D → R ω} : R.bL2 (.ok [x, y]) k = k x y := by exact id rfl
theorem xb_twoL {i j : Nat} {x y : Str} {p p' p2 : Pos} {kk : Nat} {m : R (List D)} {k : D → D → R ω} (g : Go X ec W) (χ : D → D → En) (h : XN X W e en m) (hk : ∀ d d', XB X W eE rest (χ d d') (k d d') T) (hN : X.N[i]? = some x := by rfl) (hN' : X.N[j]? = some y := by rfl) (hφ : ∀ d d', (en.set i (some (.v d))).set j (some (.v d')) = χ d d' := by intro _ _; rfl)
    (hx : Loc X.env.scope x := by first | exact Or.inl rfl | exact Or.inr rfl) (hx' : Loc X.env.scope y := by first | exact Or.inl rfl | exact Or.inr rfl) (we : Wk0 eE en := by first | exact wk0_nil | exact wk0_refl | assumption | exact Wkn.wk0 (by repeat' first | exact Wkn.nil | apply Wkn.k | apply Wkn.d)) (hf : X.fn x = true ∨ X.env.scope.names.lookup x = some .local := by first | exact .inl rfl | exact .inr rfl) (hf' : X.fn y = true ∨ X.env.scope.names.lookup y = some .local := by first | exact .inl rfl | exact .inr rfl)
    (hn : (assignEach [.Name x p, .Name y p'] X.env).length = 2 := by rfl) (hst : (assignEach [.Name x p, .Name y p'] X.env).findIdx? (·.1) = none := by rfl)
    (h1 : (assignEach [.Name x p, .Name y p'] X.env).map (·.2) = assign (.Name x p) X.env :: (assignEach [.Name y p'] X.env).map (·.2) := by rfl) (h2 : (assignEach [.Name y p'] X.env).map (·.2) = assign (.Name y p') X.env :: (assignEach [] X.env).map (·.2) := by rfl)
    (s1 : swapsWithSole [.Tuple [.Name x p, .Name y p'] kk p2] e pos.line X.env = pure false := by first | exact swaps_no rfl | exact swapsS_no rfl | rfl) (s2 : swappedStores [.Tuple [.Name x p, .Name y p'] kk p2] e X.env = pure none := by rfl) (s3 : (assignEach [.Tuple [.Name x p, .Name y p'] kk p2] X.env).map (·.2) = [assign (.Tuple [.Name x p, .Name y p'] kk p2) X.env] := by rfl) :
    XB X W eE (.Assign [.Tuple [.Name x p, .Name y p'] kk p2] e pos :: rest) en (R.bL2 m k) T := fun B σ G H S D q => by
  refine pss_to (pss_cons (ps_asg pe_w (pg_lst g.calm (pgs_cons (pg_name g.nd hN hx hf) (pgs_cons (pg_name g.nd hN' hx' hf') pgs_nil h2) h1) hn hst) s1 s2 s3) pss_w) ?_
  refine xn_run h S we (wp_mono (wp_bnd.mp q) (fun d hd a vs G1 H1 l S1 hp gp ep r => ?_) fun _ z => z)
  obtain ⟨z, e1, hd⟩ := wp_of (wp_bnd.mp hd)
  unfold two? at e1
  split at e1
  · cases e1
    cases r with
    | cons r1 r2 =>
      cases r2 with
      | cons r2 r3 =>
        cases r3
        refine ⟨a, _, rfl, .inl (.inl ep), rfl, _, _, rfl, _, _, rfl, rfl, ?_⟩
        have S' := (S1.set (i := i) r1).set (i := j) r2
        rw [hφ] at S'
        exact hk _ _ B _ G1 H1 S' D hd
  · cases e1
end
section
variable {X : Cx} {pos p2 : Pos} {o : Expr} {lo hi : Option Expr} {to : TE} {tl th : L2.TO}
/-- xs[lo:hi] = ys -/
def gSlc (to : TE) (tl th : L2.TO) : TG := fun v σ H Q => to σ H fun x H1 => tl σ H1 fun l H2 => th σ H2 fun u H3 => ∃ p b xs ys i j, x = .ref p ∧ v = .ref b ∧ l = some i ∧ u = some j ∧ H3 p = some (.lst xs) ∧ H3 b = some (.lst ys) ∧ p ≠ b ∧
  0 ≤ i ∧ i ≤ j ∧ j ≤ xs.length ∧ xs.length + ys.length ≤ sizeLine ∧ Q σ (upd H3 p (.lst (xs.take i.toNat ++ ys ++ xs.drop j.toNat)))
theorem pg_slc (ho : PE X o to) (hl : PO X lo tl) (hh : PO X hi th) (ha : ∀ v, assign (.Subscript o (.Slice lo hi none p2) pos) X.env v = (do
      let ov ← holding [v] (eval o X.env)
      let iv ← holding [v, ov] (eval (.Slice lo hi none p2) X.env)
      standAt pos
      holding [v, ov, iv] (setItem ov iv v)
      release [iv, v, ov] []) := by intro _; rfl) : PG X (.Subscript o (.Slice lo hi none p2) pos) (gSlc to tl th) := by
  constructor
  intro pins s σ H v u Q I r h
  rw [ha]
  refine wpAny_bind (wpAny_holding (thn (ho.run pins s σ H _ I h) fun ov s1 ⟨x, H1, I1, r1, q1⟩ => ?_))
  refine wpAny_bind (wpAny_holding ?_)
  refine wpAny_Slice (thn (hl.run pins s1 σ H1 _ I1 q1) fun vl s2 ⟨l, H2, I2, pl, q2⟩ => thn (hh.run pins s2 σ H2 _ I2 q2) fun vu s3 ⟨w, H3, I3, pu, q3⟩ => ?_)
  rw [evalPart_none]
  refine wpAny_pure ?_
  obtain ⟨p, b, xs, ys, i, j, rfl, rfl, rfl, rfl, hp, hb, ne, z1, z2, z3, z4, q⟩ := q3
  have I4 : Inv X pins σ H3 { s3 with heap := s3.heap.push { cls := .type "slice", data := .fields #[vl, vu, .none] } } := I3.kept (t' := s3.toks) fun _ _ z => Heap.get?_push_of_some _ z
  cases r
  cases r1
  refine wpAny_bind (wpAny_standAt (wpAny_bind (wpAny_holding ?_)))
  refine set_slice (s := { s3 with heap := s3.heap.push { cls := .type "slice", data := .fields #[vl, vu, .none] } }) I4 hp hb ne (Heap.IsSliceOf.new ..) ?_ ?_ z1 z2 z3 z4 fun s' I5 => wpAny_release ⟨σ, _, I5, q⟩
  · cases pl with
    | int i t => exact ⟨_, rfl⟩
  · cases pu with
    | int i t => exact ⟨_, rfl⟩
end
section
variable {X : Cx} {W : WN} {eE : En} {en : En} {ec : Nat → Addr} {pos : Pos} {ω : Type} {T : Bs → ω → Ends → Prop} {rest : List Stmt} {e : Expr}
def setS (ds : List D) (l h : Option Int) (es : List D) : Option (List D) := match l, h with
  | some i, some j => if 0 ≤ i ∧ i ≤ j ∧ j ≤ ds.length ∧ ds.length + es.length ≤ 16000000 then some (ds.take i.toNat ++ es ++ ds.drop j.toNat) else none
  | _, _ => none
theorem xb_slc {i : Nat} {bb : Bool} {p : Addr} {px p2 ps : Pos} {ds : List D} {x : Str} {lo hi : Option Expr} {ml mh : R (Option Int)} {me : R (List D)} {k : List D → R ω} (χ : List D → En) (h : XN X W e en me) (hl : XO X W lo en ml) (hh : XO X W hi en mh) (hk : ∀ ds, XB X W eE rest (χ ds) (k ds) T) (he : en[i]? = some (some (.o bb p (.l ds))) := by rfl) (hφ : ∀ ds, en.set i (some (.o bb p (.l ds))) = χ ds := by intro _; rfl)
    (we : Wk0 eE en := by first | exact wk0_nil | exact wk0_refl | assumption | exact Wkn.wk0 (by repeat' first | exact Wkn.nil | apply Wkn.k | apply Wkn.d)) (hN : X.N[i]? = some x := by rfl) (hv : Vis X.env.scope x := by first | exact Or.inl rfl | exact Or.inr (Or.inl rfl) | exact Or.inr (Or.inr rfl)) (hd : (x == ("__debug__" : Str)) = false := by decide) (hcd : (x == ("__classdict__" : Str)) = false := by decide)
    (h0 : ∀ v, assign (.Subscript (.Name x px) (.Slice lo hi none p2) ps) X.env v = (do
      let ov ← holding [v] (eval (.Name x px) X.env)
      let iv ← holding [v, ov] (eval (.Slice lo hi none p2) X.env)
      standAt ps
      holding [v, ov, iv] (setItem ov iv v)
      release [iv, v, ov] []) := by intro _; rfl)
    (s1 : swapsWithSole [.Subscript (.Name x px) (.Slice lo hi none p2) ps] e pos.line X.env = pure false := by first | exact swaps_no rfl | exact swapsS_no rfl | rfl) (s2 : swappedStores [.Subscript (.Name x px) (.Slice lo hi none p2) ps] e X.env = pure none := by rfl) (s3 : (assignEach [.Subscript (.Name x px) (.Slice lo hi none p2) ps] X.env).map (·.2) = [assign (.Subscript (.Name x px) (.Slice lo hi none p2) ps) X.env] := by rfl) :
    XB X W eE (.Assign [.Subscript (.Name x px) (.Slice lo hi none p2) ps] e pos :: rest) en (me.bnd fun es => ml.bnd fun l => mh.bnd fun h => (R.of (setS ds l h es)).bnd k) T := fun B σ G H S D q => by
  refine pss_to (pss_cons (ps_asg pe_w (pg_slc (pe_var hN hv hd hcd) po_w po_w h0) s1 s2 s3) pss_w) ?_
  refine xn_run h S we (wp_mono (wp_bnd.mp q) (fun es hd' b vs G1 H1 l1 S1 hb0 gb hb1 rb => ?_) fun _ z => z)
  obtain ⟨e1, _, us0, hp0, _⟩ := st_at S1 he
  have nb : p ≠ b := fun z => by
    obtain ⟨_, _, us, hp, _⟩ := st_at S he
    rw [← z, hp] at hb0; cases hb0
  refine ⟨.ref p, e1, ?_⟩
  refine hl σ G1 H1 S1.sl _ (wp_mono (wp_bnd.mp hd') (fun lo' hlo G2 H2 w2 => ?_) fun c hc G2 H2 w => hc σ G2 H2 ((S1.grow w).es.weak we))
  have S2 := S1.grow w2
  refine hh σ G2 H2 S2.sl _ (wp_mono (wp_bnd.mp hlo) (fun hi' hhi G3 H3 w3 => ?_) fun c hc G3 H3 w => hc σ G3 H3 ((S2.grow w).es.weak we))
  have S3 := S2.grow w3
  have w := w2.trans w3
  obtain ⟨ds', e2, hd2⟩ := wp_of (wp_bnd.mp hhi)
  unfold setS at e2
  split at e2
  · rename_i i' j'
    split at e2
    · rename_i hz
      cases e2
      obtain ⟨_, _, us, hp3, r3⟩ := st_at S3 he
      have hb3 := w.h _ _ hb1
      have rb3 := rb.up w.g
      refine ⟨p, b, us, vs, i', j', rfl, rfl, rfl, rfl, hp3, hb3, nb, hz.1, hz.2.1, by rw [r3.len]; exact hz.2.2.1, by rw [r3.len, rb3.len]; exact size_ok hz.2.2.2, ?_⟩
      have S4 := S3.mut (c' := .l (ds.take i'.toNat ++ es ++ ds.drop j'.toNat)) (o := .lst (us.take i'.toNat ++ vs ++ us.drop j'.toNat)) he ⟨_, upd_same, ((r3.take _).app rb3).app (r3.drop _)⟩
      rw [hφ] at S4
      exact hk _ B σ G3 _ S4 D hd2
    · cases e2
  · cases e2
end

end Wk
set_option maxHeartbeats 4000000
/-! Wk26: longer argument lists; is True, is False. -/
namespace Wk
open PySem PySem.Spec PyProof.Rows L2
/-- a statement that the elaborator does not look into -/
structure Bx (p : Prop) : Prop where
  of : p
section
variable {X : Cx} {W : WN} {en : En} {a1 a2 a3 a4 a5 a6 a7 a8 : Expr} {m1 m2 m3 m4 m5 m6 m7 m8 : R D}
theorem xa_5 (h1 : XP X W a1 en m1) (h2 : XP X W a2 en m2) (h3 : XP X W a3 en m3) (h4 : XP X W a4 en m4) (h5 : XP X W a5 en m5) (e1 : starEach [a1, a2, a3, a4, a5] X.env = (false, eval a1 X.env) :: starEach [a2, a3, a4, a5] X.env := by rfl) (e2 : starEach [a2, a3, a4, a5] X.env = (false, eval a2 X.env) :: starEach [a3, a4, a5] X.env := by rfl) (e3 : starEach [a3, a4, a5] X.env = (false, eval a3 X.env) :: starEach [a4, a5] X.env := by rfl) (e4 : starEach [a4, a5] X.env = (false, eval a4 X.env) :: starEach [a5] X.env := by rfl) (e5 : starEach [a5] X.env = (false, eval a5 X.env) :: starEach [] X.env := by rfl) : XA X W [a1, a2, a3, a4, a5] en (m1.bnd fun x1 => m2.bnd fun x2 => m3.bnd fun x3 => m4.bnd fun x4 => m5.bnd fun x5 => .ok [x1, x2, x3, x4, x5]) := by
  have h := xa_cons h1 (xa_4 h2 h3 h4 h5 e2 e3 e4 e5) e1
  simpa only [bnd_assoc, bnd_ok] using h
theorem xa_5b (h1 : XP X W a1 en m1) (h2 : XP X W a2 en m2) (h3 : XP X W a3 en m3) (h4 : XP X W a4 en m4) (h5 : XP X W a5 en m5) (e1 : starEach [a1, a2, a3, a4, a5] X.env = (false, eval a1 X.env) :: starEach [a2, a3, a4, a5] X.env := by rfl) (e2 : starEach [a2, a3, a4, a5] X.env = (false, eval a2 X.env) :: starEach [a3, a4, a5] X.env := by rfl) (e3 : starEach [a3, a4, a5] X.env = (false, eval a3 X.env) :: starEach [a4, a5] X.env := by rfl) (e4 : starEach [a4, a5] X.env = (false, eval a4 X.env) :: starEach [a5] X.env := by rfl) (e5 : starEach [a5] X.env = (false, eval a5 X.env) :: starEach [] X.env := by rfl) : Bx (XA X W [a1, a2, a3, a4, a5] en (m1.bnd fun x1 => m2.bnd fun x2 => m3.bnd fun x3 => m4.bnd fun x4 => m5.bnd fun x5 => .ok [x1, x2, x3, x4, x5])) := ⟨xa_5 h1 h2 h3 h4 h5 e1 e2 e3 e4 e5⟩
theorem xa_6 (h1 : XP X W a1 en m1) (h2 : XP X W a2 en m2) (h3 : XP X W a3 en m3) (h4 : XP X W a4 en m4) (h5 : XP X W a5 en m5) (h6 : XP X W a6 en m6) (e1 : starEach [a1, a2, a3, a4, a5, a6] X.env = (false, eval a1 X.env) :: starEach [a2, a3, a4, a5, a6] X.env := by rfl) (e2 : starEach [a2, a3, a4, a5, a6] X.env = (false, eval a2 X.env) :: starEach [a3, a4, a5, a6] X.env := by rfl) (e3 : starEach [a3, a4, a5, a6] X.env = (false, eval a3 X.env) :: starEach [a4, a5, a6] X.env := by rfl) (e4 : starEach [a4, a5, a6] X.env = (false, eval a4 X.env) :: starEach [a5, a6] X.env := by rfl) (e5 : starEach [a5, a6] X.env = (false, eval a5 X.env) :: starEach [a6] X.env := by rfl) (e6 : starEach [a6] X.env = (false, eval a6 X.env) :: starEach [] X.env := by rfl) : XA X W [a1, a2, a3, a4, a5, a6] en (m1.bnd fun x1 => m2.bnd fun x2 => m3.bnd fun x3 => m4.bnd fun x4 => m5.bnd fun x5 => m6.bnd fun x6 => .ok [x1, x2, x3, x4, x5, x6]) := by
  have h := xa_cons h1 (xa_5 h2 h3 h4 h5 h6 e2 e3 e4 e5 e6) e1
  simpa only [bnd_assoc, bnd_ok] using h
theorem xa_6b (h1 : XP X W a1 en m1) (h2 : XP X W a2 en m2) (h3 : XP X W a3 en m3) (h4 : XP X W a4 en m4) (h5 : XP X W a5 en m5) (h6 : XP X W a6 en m6) (e1 : starEach [a1, a2, a3, a4, a5, a6] X.env = (false, eval a1 X.env) :: starEach [a2, a3, a4, a5, a6] X.env := by rfl) (e2 : starEach [a2, a3, a4, a5, a6] X.env = (false, eval a2 X.env) :: starEach [a3, a4, a5, a6] X.env := by rfl) (e3 : starEach [a3, a4, a5, a6] X.env = (false, eval a3 X.env) :: starEach [a4, a5, a6] X.env := by rfl) (e4 : starEach [a4, a5, a6] X.env = (false, eval a4 X.env) :: starEach [a5, a6] X.env := by rfl) (e5 : starEach [a5, a6] X.env = (false, eval a5 X.env) :: starEach [a6] X.env := by rfl) (e6 : starEach [a6] X.env = (false, eval a6 X.env) :: starEach [] X.env := by rfl) : Bx (XA X W [a1, a2, a3, a4, a5, a6] en (m1.bnd fun x1 => m2.bnd fun x2 => m3.bnd fun x3 => m4.bnd fun x4 => m5.bnd fun x5 => m6.bnd fun x6 => .ok [x1, x2, x3, x4, x5, x6])) := ⟨xa_6 h1 h2 h3 h4 h5 h6 e1 e2 e3 e4 e5 e6⟩
theorem xa_7 (h1 : XP X W a1 en m1) (h2 : XP X W a2 en m2) (h3 : XP X W a3 en m3) (h4 : XP X W a4 en m4) (h5 : XP X W a5 en m5) (h6 : XP X W a6 en m6) (h7 : XP X W a7 en m7) (e1 : starEach [a1, a2, a3, a4, a5, a6, a7] X.env = (false, eval a1 X.env) :: starEach [a2, a3, a4, a5, a6, a7] X.env := by rfl) (e2 : starEach [a2, a3, a4, a5, a6, a7] X.env = (false, eval a2 X.env) :: starEach [a3, a4, a5, a6, a7] X.env := by rfl) (e3 : starEach [a3, a4, a5, a6, a7] X.env = (false, eval a3 X.env) :: starEach [a4, a5, a6, a7] X.env := by rfl) (e4 : starEach [a4, a5, a6, a7] X.env = (false, eval a4 X.env) :: starEach [a5, a6, a7] X.env := by rfl) (e5 : starEach [a5, a6, a7] X.env = (false, eval a5 X.env) :: starEach [a6, a7] X.env := by rfl) (e6 : starEach [a6, a7] X.env = (false, eval a6 X.env) :: starEach [a7] X.env := by rfl) (e7 : starEach [a7] X.env = (false, eval a7 X.env) :: starEach [] X.env := by rfl) : XA X W [a1, a2, a3, a4, a5, a6, a7] en (m1.bnd fun x1 => m2.bnd fun x2 => m3.bnd fun x3 => m4.bnd fun x4 => m5.bnd fun x5 => m6.bnd fun x6 => m7.bnd fun x7 => .ok [x1, x2, x3, x4, x5, x6, x7]) := by
  have h := xa_cons h1 (xa_6 h2 h3 h4 h5 h6 h7 e2 e3 e4 e5 e6 e7) e1
  simpa only [bnd_assoc, bnd_ok] using h
theorem xa_7b (h1 : XP X W a1 en m1) (h2 : XP X W a2 en m2) (h3 : XP X W a3 en m3) (h4 : XP X W a4 en m4) (h5 : XP X W a5 en m5) (h6 : XP X W a6 en m6) (h7 : XP X W a7 en m7) (e1 : starEach [a1, a2, a3, a4, a5, a6, a7] X.env = (false, eval a1 X.env) :: starEach [a2, a3, a4, a5, a6, a7] X.env := by rfl) (e2 : starEach [a2, a3, a4, a5, a6, a7] X.env = (false, eval a2 X.env) :: starEach [a3, a4, a5, a6, a7] X.env := by rfl) (e3 : starEach [a3, a4, a5, a6, a7] X.env = (false, eval a3 X.env) :: starEach [a4, a5, a6, a7] X.env := by rfl) (e4 : starEach [a4, a5, a6, a7] X.env = (false, eval a4 X.env) :: starEach [a5, a6, a7] X.env := by rfl) (e5 : starEach [a5, a6, a7] X.env = (false, eval a5 X.env) :: starEach [a6, a7] X.env := by rfl) (e6 : starEach [a6, a7] X.env = (false, eval a6 X.env) :: starEach [a7] X.env := by rfl) (e7 : starEach [a7] X.env = (false, eval a7 X.env) :: starEach [] X.env := by rfl) : Bx (XA X W [a1, a2, a3, a4, a5, a6, a7] en (m1.bnd fun x1 => m2.bnd fun x2 => m3.bnd fun x3 => m4.bnd fun x4 => m5.bnd fun x5 => m6.bnd fun x6 => m7.bnd fun x7 => .ok [x1, x2, x3, x4, x5, x6, x7])) := ⟨xa_7 h1 h2 h3 h4 h5 h6 h7 e1 e2 e3 e4 e5 e6 e7⟩
theorem xa_8 (h1 : XP X W a1 en m1) (h2 : XP X W a2 en m2) (h3 : XP X W a3 en m3) (h4 : XP X W a4 en m4) (h5 : XP X W a5 en m5) (h6 : XP X W a6 en m6) (h7 : XP X W a7 en m7) (h8 : XP X W a8 en m8) (e1 : starEach [a1, a2, a3, a4, a5, a6, a7, a8] X.env = (false, eval a1 X.env) :: starEach [a2, a3, a4, a5, a6, a7, a8] X.env := by rfl) (e2 : starEach [a2, a3, a4, a5, a6, a7, a8] X.env = (false, eval a2 X.env) :: starEach [a3, a4, a5, a6, a7, a8] X.env := by rfl) (e3 : starEach [a3, a4, a5, a6, a7, a8] X.env = (false, eval a3 X.env) :: starEach [a4, a5, a6, a7, a8] X.env := by rfl) (e4 : starEach [a4, a5, a6, a7, a8] X.env = (false, eval a4 X.env) :: starEach [a5, a6, a7, a8] X.env := by rfl) (e5 : starEach [a5, a6, a7, a8] X.env = (false, eval a5 X.env) :: starEach [a6, a7, a8] X.env := by rfl) (e6 : starEach [a6, a7, a8] X.env = (false, eval a6 X.env) :: starEach [a7, a8] X.env := by rfl) (e7 : starEach [a7, a8] X.env = (false, eval a7 X.env) :: starEach [a8] X.env := by rfl) (e8 : starEach [a8] X.env = (false, eval a8 X.env) :: starEach [] X.env := by rfl) : XA X W [a1, a2, a3, a4, a5, a6, a7, a8] en (m1.bnd fun x1 => m2.bnd fun x2 => m3.bnd fun x3 => m4.bnd fun x4 => m5.bnd fun x5 => m6.bnd fun x6 => m7.bnd fun x7 => m8.bnd fun x8 => .ok [x1, x2, x3, x4, x5, x6, x7, x8]) := by
  have h := xa_cons h1 (xa_7 h2 h3 h4 h5 h6 h7 h8 e2 e3 e4 e5 e6 e7 e8) e1
  simpa only [bnd_assoc, bnd_ok] using h
theorem xa_8b (h1 : XP X W a1 en m1) (h2 : XP X W a2 en m2) (h3 : XP X W a3 en m3) (h4 : XP X W a4 en m4) (h5 : XP X W a5 en m5) (h6 : XP X W a6 en m6) (h7 : XP X W a7 en m7) (h8 : XP X W a8 en m8) (e1 : starEach [a1, a2, a3, a4, a5, a6, a7, a8] X.env = (false, eval a1 X.env) :: starEach [a2, a3, a4, a5, a6, a7, a8] X.env := by rfl) (e2 : starEach [a2, a3, a4, a5, a6, a7, a8] X.env = (false, eval a2 X.env) :: starEach [a3, a4, a5, a6, a7, a8] X.env := by rfl) (e3 : starEach [a3, a4, a5, a6, a7, a8] X.env = (false, eval a3 X.env) :: starEach [a4, a5, a6, a7, a8] X.env := by rfl) (e4 : starEach [a4, a5, a6, a7, a8] X.env = (false, eval a4 X.env) :: starEach [a5, a6, a7, a8] X.env := by rfl) (e5 : starEach [a5, a6, a7, a8] X.env = (false, eval a5 X.env) :: starEach [a6, a7, a8] X.env := by rfl) (e6 : starEach [a6, a7, a8] X.env = (false, eval a6 X.env) :: starEach [a7, a8] X.env := by rfl) (e7 : starEach [a7, a8] X.env = (false, eval a7 X.env) :: starEach [a8] X.env := by rfl) (e8 : starEach [a8] X.env = (false, eval a8 X.env) :: starEach [] X.env := by rfl) : Bx (XA X W [a1, a2, a3, a4, a5, a6, a7, a8] en (m1.bnd fun x1 => m2.bnd fun x2 => m3.bnd fun x3 => m4.bnd fun x4 => m5.bnd fun x5 => m6.bnd fun x6 => m7.bnd fun x7 => m8.bnd fun x8 => .ok [x1, x2, x3, x4, x5, x6, x7, x8])) := ⟨xa_8 h1 h2 h3 h4 h5 h6 h7 h8 e1 e2 e3 e4 e5 e6 e7 e8⟩
end
def D.isB : D → D → Option Bool
  | .bl a, .bl b => some (decide (a = b))
  | _, _ => none
def D.nisB (x y : D) : Option Bool := (D.isB x y).map fun b => !b
@[simp] theorem s_isB {a b : Bool} : D.isB (.bl a) (.bl b) = some (decide (a = b)) := by exact id rfl
@[simp] theorem s_nisB {a b : Bool} : D.nisB (.bl a) (.bl b) = some (!decide (a = b)) := by exact id rfl
section
variable {X : Cx} {K : PySem.W.Frag}
theorem o_isB : OpR X (compareOp .Is) rIsB := op_isBl
theorem o_nisB : OpR X (compareOp .IsNot) rNotB := op_notBl
theorem d_isB : OpD K rIsB (fun x y => (D.isB x y).map .bl) := fun G H x y dx dy d l rx ry e Q q => by
  obtain ⟨b, e1, rfl⟩ := Option.map_eq_some_iff.mp e
  unfold D.isB at e1
  split at e1
  · cases e1; cases rx; cases ry; exact ⟨_, _, rfl, rfl, keepQ l q (.bl _)⟩
  · cases e1
theorem d_nisB : OpD K rNotB (fun x y => (D.nisB x y).map .bl) := fun G H x y dx dy d l rx ry e Q q => by
  obtain ⟨b0, e0, rfl⟩ := Option.map_eq_some_iff.mp e
  obtain ⟨b, e1, rfl⟩ := Option.map_eq_some_iff.mp e0
  unfold D.isB at e1
  split at e1
  · cases e1; cases rx; cases ry; exact ⟨_, _, rfl, rfl, keepQ l q (.bl _)⟩
  · cases e1
end
section
variable {K : PySem.W.Frag} {ec : Nat → Addr}
theorem spN_imp4 {f : D → D → D → D → R Unit} : ∀ vs H Q E, spR K ec (rP K) 4 (ap4 fun a b c d => (f a b c d).bnd fun _ => .ok .non) vs H Q E → spR K ec (rP K) 4 (fun ds => (ap4 f ds).bnd fun _ => .ok .non) vs H Q E :=
  spR_imp fun ds => by
    match ds with
    | [] => rfl
    | [_] => rfl
    | [_, _] => rfl
    | [_, _, _] => rfl
    | [_, _, _, _] => rfl
    | _ :: _ :: _ :: _ :: _ :: _ => rfl
end
section
variable {X : Cx} {W : WN} {en : En}
theorem xn_lstB {es : List Expr} {pos : Pos} {ms : R (List D)} (h : Bx (XA X W es en ms)) : Bx (XN X W (.List es pos) en (ms.bnd fun ds => R.of (fits ds))) := ⟨xn_lst h.of⟩
theorem xn_xpB {e : Expr} {m : R (List D)} (h : Bx (XN X W e en m)) : Bx (XP X W e en (m.bnd fun ds => .ok (.lst ds))) := ⟨xn_xp h.of⟩
theorem xb_letB {ω : Type} {ec : Nat → Addr} {eE : En} {T : Bs → ω → Ends → Prop} {rest : List Stmt} {e : Expr} {pos : Pos} {i : Nat} {x : Str} {p : Pos} {m : R D} {k : D → R ω} (g : Go X ec W) (φ : D → En) (h : Bx (XP X W e en m)) (hk : ∀ d, XB X W eE rest (φ d) (k d) T) (hi : X.N[i]? = some x := by rfl) (hφ : ∀ d, en.set i (some (.v d)) = φ d := by intro _; rfl)
    (hx : Loc X.env.scope x := by first | exact Or.inl rfl | exact Or.inr rfl) (we : Wk0 eE en := by first | exact wk0_nil | exact wk0_refl | assumption | exact Wkn.wk0 (by repeat' first | exact Wkn.nil | apply Wkn.k | apply Wkn.d)) (hs : swapsWith e (some (.Name x p)) pos.line X.env = pure false := by first | exact swaps_no rfl | exact swapsS_no rfl | rfl)
    (hf : X.fn x = true ∨ X.env.scope.names.lookup x = some .local := by first | exact .inl rfl | exact .inr rfl) : Bx (XB X W eE (.Assign [.Name x p] e pos :: rest) en (m.bnd k) T) := ⟨xb_let g φ h.of hk hi hφ hx we hs hf⟩
theorem xb_twoB {ω : Type} {ec : Nat → Addr} {eE : En} {T : Bs → ω → Ends → Prop} {rest : List Stmt} {pos : Pos} {i j : Nat} {x y : Str} {p p' p2 : Pos} {kk : Nat} {e : Expr} {m : R D} {k : D → D → R ω} (g : Go X ec W) (φ : D → D → En) (h : XP X W e en m) (hk : ∀ d d', Bx (XB X W eE rest (φ d d') (k d d') T)) (hN : X.N[i]? = some x := by rfl) (hN' : X.N[j]? = some y := by rfl) (hφ : ∀ d d', (en.set i (some (.v d))).set j (some (.v d')) = φ d d' := by intro _ _; rfl)
    (hx : Loc X.env.scope x := by first | exact Or.inl rfl | exact Or.inr rfl) (hx' : Loc X.env.scope y := by first | exact Or.inl rfl | exact Or.inr rfl) (we : Wk0 eE en := by first | exact wk0_nil | exact wk0_refl | assumption | exact Wkn.wk0 (by repeat' first | exact Wkn.nil | apply Wkn.k | apply Wkn.d)) (hf : X.fn x = true ∨ X.env.scope.names.lookup x = some .local := by first | exact .inl rfl | exact .inr rfl) (hf' : X.fn y = true ∨ X.env.scope.names.lookup y = some .local := by first | exact .inl rfl | exact .inr rfl)
    (hn : (assignEach [.Name x p, .Name y p'] X.env).length = 2 := by rfl) (hst : (assignEach [.Name x p, .Name y p'] X.env).findIdx? (·.1) = none := by rfl)
    (h1 : (assignEach [.Name x p, .Name y p'] X.env).map (·.2) = assign (.Name x p) X.env :: (assignEach [.Name y p'] X.env).map (·.2) := by rfl) (h2 : (assignEach [.Name y p'] X.env).map (·.2) = assign (.Name y p') X.env :: (assignEach [] X.env).map (·.2) := by rfl)
    (s1 : swapsWithSole [.Tuple [.Name x p, .Name y p'] kk p2] e pos.line X.env = pure false := by first | exact swaps_no rfl | exact swapsS_no rfl | rfl) (s2 : swappedStores [.Tuple [.Name x p, .Name y p'] kk p2] e X.env = pure none := by rfl) (s3 : (assignEach [.Tuple [.Name x p, .Name y p'] kk p2] X.env).map (·.2) = [assign (.Tuple [.Name x p, .Name y p'] kk p2) X.env] := by rfl) :
    XB X W eE (.Assign [.Tuple [.Name x p, .Name y p'] kk p2] e pos :: rest) en (R.bU2 m k) T := xb_two g φ h (fun d d' => (hk d d').of) hN hN' hφ hx hx' we hf hf' hn hst h1 h2 s1 s2 s3
end

end Wk
set_option maxHeartbeats 4000000
/-! Wk27: two places of a list at once. -/
namespace Wk
open PySem PySem.Spec PyProof.Rows L2
section
variable {X : Cx} {W : WN} {eE : En} {ec : Nat → Addr} {en : En} {pos : Pos} {rest : List Stmt} {ω : Type} {T : Bs → ω → Ends → Prop}
theorem xb_twoPut {i : Nat} {b : Bool} {p : Addr} {px px' ps1 ps2 p2 : Pos} {kk : Nat} {ds : List D} {x : Str} {a1 a2 e : Expr} {ma mb me : R D} {k : List D → R ω} (g : Go X ec W) (φ : List D → En) (h : XP X W e en me) (ha : XP X W a1 en ma) (hb : ∀ ds, XP X W a2 (φ ds) mb) (hk : ∀ ds, XB X W eE rest (φ ds) (k ds) T)
    (he : en[i]? = some (some (.o b p (.l ds))) := by rfl) (he2 : ∀ ds, (φ ds)[i]? = some (some (.o b p (.l ds))) := by intro _; rfl) (hφ : ∀ ds, en.set i (some (.o b p (.l ds))) = φ ds := by intro _; rfl) (hφ2 : ∀ ds ds', (φ ds).set i (some (.o b p (.l ds'))) = φ ds' := by intro _ _; rfl)
    (we : Wk0 eE en := by first | exact wk0_nil | exact wk0_refl | assumption | exact Wkn.wk0 (by repeat' first | exact Wkn.nil | apply Wkn.k | apply Wkn.d)) (we2 : ∀ ds, Wk0 eE (φ ds) := by intro _; first | exact wk0_nil | exact wk0_refl | assumption | exact Wkn.wk0 (by repeat' first | exact Wkn.nil | apply Wkn.k | apply Wkn.d))
    (hN : X.N[i]? = some x := by rfl) (hv : Vis X.env.scope x := by first | exact Or.inl rfl | exact Or.inr (Or.inl rfl) | exact Or.inr (Or.inr rfl)) (hd : (x == ("__debug__" : Str)) = false := by decide) (hcd : (x == ("__classdict__" : Str)) = false := by decide)
    (h0 : ∀ v, assign (.Subscript (.Name x px) a1 ps1) X.env v = (do
      let ov ← holding [v] (eval (.Name x px) X.env)
      let iv ← holding [v, ov] (eval a1 X.env)
      standAt ps1
      holding [v, ov, iv] (setItem ov iv v)
      release [v, ov, iv] []) := by intro _; rfl)
    (h0' : ∀ v, assign (.Subscript (.Name x px') a2 ps2) X.env v = (do
      let ov ← holding [v] (eval (.Name x px') X.env)
      let iv ← holding [v, ov] (eval a2 X.env)
      standAt ps2
      holding [v, ov, iv] (setItem ov iv v)
      release [v, ov, iv] []) := by intro _; rfl)
    (hn : (assignEach [.Subscript (.Name x px) a1 ps1, .Subscript (.Name x px') a2 ps2] X.env).length = 2 := by rfl) (hst : (assignEach [.Subscript (.Name x px) a1 ps1, .Subscript (.Name x px') a2 ps2] X.env).findIdx? (·.1) = none := by rfl)
    (h1 : (assignEach [.Subscript (.Name x px) a1 ps1, .Subscript (.Name x px') a2 ps2] X.env).map (·.2) = assign (.Subscript (.Name x px) a1 ps1) X.env :: (assignEach [.Subscript (.Name x px') a2 ps2] X.env).map (·.2) := by rfl)
    (h2 : (assignEach [.Subscript (.Name x px') a2 ps2] X.env).map (·.2) = assign (.Subscript (.Name x px') a2 ps2) X.env :: (assignEach [] X.env).map (·.2) := by rfl)
    (s1 : swapsWithSole [.Tuple [.Subscript (.Name x px) a1 ps1, .Subscript (.Name x px') a2 ps2] kk p2] e pos.line X.env = pure false := by first | exact swaps_no rfl | exact swapsS_no rfl | rfl) (s2 : swappedStores [.Tuple [.Subscript (.Name x px) a1 ps1, .Subscript (.Name x px') a2 ps2] kk p2] e X.env = pure none := by rfl)
    (s3 : (assignEach [.Tuple [.Subscript (.Name x px) a1 ps1, .Subscript (.Name x px') a2 ps2] kk p2] X.env).map (·.2) = [assign (.Tuple [.Subscript (.Name x px) a1 ps1, .Subscript (.Name x px') a2 ps2] kk p2) X.env] := by rfl) :
    XB X W eE (.Assign [.Tuple [.Subscript (.Name x px) a1 ps1, .Subscript (.Name x px') a2 ps2] kk p2] e pos :: rest) en (me.bnd fun d => (R.of d.two).bnd fun q => ma.bnd fun j => (R.of (setD ds j q.1)).bnd fun l => mb.bnd fun j' => (R.of (setD l j' q.2)).bnd k) T := fun B σ G H S D q => by
  refine pss_to (pss_cons (ps_asg pe_w (pg_tup g.calm (pgs_cons (pg_sub (pe_var hN hv hd hcd) pe_w set_list h0) (pgs_cons (pg_sub (pe_var hN hv hd hcd) pe_w set_list h0') pgs_nil h2) h1) hn hst) s1 s2 s3) pss_w) ?_
  refine xp_run h S we (wp_mono (wp_bnd.mp q) (fun d hd' v G1 H1 l1 S1 r1 => ?_) fun _ z => z)
  obtain ⟨(z : Wk.D × Wk.D), e1, hz⟩ := wp_of (wp_bnd.mp hd')
  unfold Wk.D.two at e1
  split at e1
  · cases e1
    cases r1 with
    | tup hs hall =>
      cases hall with
      | cons ra h2 =>
        cases h2 with
        | cons rb h3 =>
          cases h3
          refine ⟨_, _, rfl, S1.es.fr.up.le.seqT hs, rfl, _, _, rfl, ?_⟩
          obtain ⟨e1, _, _, _, _⟩ := st_at S1 he
          refine ⟨.ref p, e1, ?_⟩
          refine xp_run ha S1 we (wp_mono (wp_bnd.mp hz) (fun j hj u G2 H2 l2 S2 r2 => ?_) fun _ z => z)
          obtain ⟨ds', e2, hd2⟩ := wp_of (wp_bnd.mp hj)
          unfold setD at e2
          split at e2
          · rename_i j'
            obtain ⟨n, e3, rfl⟩ := Option.map_eq_some_iff.mp e2
            cases r2
            obtain ⟨_, _, us, hp3, r3⟩ := st_at S2 he
            refine ⟨p, us, _, n, rfl, rfl, hp3, by rw [r3.len]; exact e3, ?_⟩
            have S3 := S2.mut (c' := .l (ds.set n _)) (o := .lst (us.set n _)) he ⟨_, upd_same, r3.set (ra.up l2) n⟩
            rw [hφ] at S3
            refine ⟨_, _, rfl, ?_⟩
            obtain ⟨e4, _, _, _, _⟩ := st_at S3 (he2 _)
            refine ⟨.ref p, e4, ?_⟩
            refine xp_run (hb _) S3 (we2 _) (wp_mono (wp_bnd.mp hd2) (fun j2 hj2 u2 G4 H4 l4 S4 r4 => ?_) fun _ z => z)
            obtain ⟨ds2, e5, hd5⟩ := wp_of (wp_bnd.mp hj2)
            unfold setD at e5
            split at e5
            · rename_i j3
              obtain ⟨n2, e6, rfl⟩ := Option.map_eq_some_iff.mp e5
              cases r4
              obtain ⟨_, _, us2, hp4, r5⟩ := st_at S4 (he2 _)
              refine ⟨p, us2, _, n2, rfl, rfl, hp4, by rw [r5.len]; exact e6, ?_⟩
              have S5 := S4.mut (c' := .l _) (o := .lst (us2.set n2 _)) (he2 _) ⟨_, upd_same, r5.set ((rb.up l2).up l4) n2⟩
              rw [hφ2] at S5
              exact ⟨rfl, hk _ B σ G4 _ S5 D hd5⟩
            · cases e5
          · cases e2
  · cases e1
end
end Wk
set_option maxHeartbeats 4000000
/-! Wk28: slices and lists of changes, methods of lists and texts. -/
namespace Wk
open PySem PySem.Spec PyProof.Rows L2
section
variable {X : Cx} {W : WN} {eE : En} {en : En} {ec : Nat → Addr} {pos : Pos} {γ δ ω : Type} {φ : γ → En} {ψ : δ → En} {a b c : Expr} {es : List Expr} {T : Bs → ω → Ends → Prop} {rest : List Stmt}
/-- e[:b], b changing what one owns -/
theorem xv_cutTo {ma : R D} {mb : R (D × γ)} {p2 : Pos} (ha : XP X W a en ma) (hb : XV X W eE b en mb φ) (we : Wk0 eE en := by first | exact wk0_nil | exact wk0_refl | assumption | exact Wkn.wk0 (by repeat' first | exact Wkn.nil | apply Wkn.k | apply Wkn.d)) :
    XV X W eE (.Subscript a (.Slice none (some b) none p2) pos) en (ma.bnd fun x => mb.bnd2 fun y c => (R.of y.toI).bnd fun i => (R.of (x.cut none (some i))).bnd fun d => .ok (d, c)) φ := fun B σ G H S Q k => by
  refine pe_to (pe_slice sl_tupA pe_w po_none (po_some pe_w)) (xp_run ha S we (wp_mono (wp_bnd.mp k) (fun x hx v G1 H1 l1 S1 r1 => ?_) fun _ z => z))
  refine hb B σ G1 H1 S1 _ (wp_mono (wp_bnd.mp hx) (fun y hy u G2 H2 l2 S2 r2 => ?_) fun _ z => z)
  obtain ⟨i, e1, hy⟩ := wp_of (wp_bnd.mp hy)
  obtain ⟨d, e, hd⟩ := wp_of (wp_bnd.mp hy)
  have e1' : y.1 = .int i := by
    cases hq : y.1 <;> rw [hq] at e1 <;> cases e1
    rfl
  rw [e1'] at r2
  cases r2
  refine ⟨i, rfl, ?_⟩
  unfold D.cut at e
  cases x with
  | tup xs =>
    cases e
    cases r1 with
    | @tup p vs _ h1 r1 =>
      have r3 := r1.up l2
      refine ⟨p, vs, rfl, (S2.lk.le.seqT (l2.seqT h1)), fun z => ?_, fun _ q hq => ?_⟩
      · refine hd _ _ _ (l1.trans l2) S2 ?_
        have e1 : cutD xs none (some i) = xs := by
          unfold cutD
          rw [← r1.len, z.1, z.2, Nat.sub_zero, List.drop_zero, r1.len, List.take_length]
        rw [e1]
        exact .tup (l2.seqT h1) r3
      · have w4 := Grow.new (o := .tup (cutV vs none (some i))) S2.lk hq rfl
        exact hd _ _ _ ((l1.trans l2).trans w4.g) (S2.grow w4) (.tup (.inl (.inl upd_same)) ((r3.cut none (some i)).up w4.g))
  | _ => cases e
/-- list(..) of what changes -/
theorem xnv_callTy {x : Str} {id : String} {e : Expr} {r : List V → Hp → VK → Prop} {f : List D → Option (List D)} {m : R (List D × γ)} {p : Pos} (hc : CallR X (.type id) r) (hf : CallN X.K r f) (hm : X.mg x = none) (hv : bootBuiltins x = some (.type id))
    (ha : XAV X W eE (e :: es) en m φ) (hg : Gl X x := by rfl) (hn : x ≠ "__name__" := by decide) (hdb : (x == ("__debug__" : Str)) = false := by decide) (h1 : starEach (e :: es) X.env = (false, eval e X.env) :: starEach es X.env := by rfl) (h2 : (backTo pos (starEach es X.env)).any (·.1) = false := by rfl) :
    XNV X W eE (.Call (.Name x p) (e :: es) [] pos) en (m.bnd2 fun q c => (R.of (f q)).bnd fun d => .ok (d, c)) φ := fun B σ G H S Q k => by
  refine pe_to (pe_callTy hc hg hm hv pa_w hn hdb h1 h2) (ha B σ G H S _ (wp_mono (wp_bnd.mp k) (fun q hq vs G1 H1 l1 S1 r1 => ?_) fun _ z => z))
  obtain ⟨d, e, hd⟩ := wp_of (wp_bnd.mp hq)
  exact hf G1 H1 vs _ d S1.lk r1 e Q fun p vs G3 H3 w3 hp gp e3 r3 => hd p vs G3 H3 (l1.trans w3.g) (S1.grow w3) (S1.h0 hp) (S1.noOwn hp) gp e3 r3
/-- two lists joined, or one so many times, of what changes -/
theorem xnv_two {f : D → D → Option (List D)} {r : R2} {e : Expr} {m : R ((D × D) × γ)} (hf : OpN X.K r f) (h : X2V X W eE a b en m φ) (hr : PE X e (tOp r (wE X a) (wE X b))) : XNV X W eE e en (m.bnd2 fun q c => (R.of (f q.1 q.2)).bnd fun d => .ok (d, c)) φ := fun B σ G H S Q k => by
  refine pe_to hr (h B σ G H S _ (wp_mono (wp_bnd.mp k) (fun q hq v u G1 H1 l1 S1 r1 r2 => ?_) fun _ z => z))
  obtain ⟨d, e, hd⟩ := wp_of (wp_bnd.mp hq)
  exact hf G1 H1 v u _ _ d S1.lk r1 r2 e Q fun p vs G3 H3 w3 hp gp e3 r3 => hd p vs G3 H3 (l1.trans w3.g) (S1.grow w3) (S1.h0 hp) (S1.noOwn hp) gp e3 r3
/-! x.pop(a), x one's own list -/
def popAtD (ds : List D) : D → Option (D × List D)
  | .int i => if -1000000 < i ∧ i < 16000000 then (seqIndex? i ds.length).bind fun k => ds[k]?.map fun d => (d, ds.eraseIdx k) else none
  | _ => none
theorem RpAll.erase {K : PySem.W.Frag} {G : Hp} : ∀ {ds : List D} {vs : List V} (n : Nat), RpAll K G vs ds → RpAll K G (vs.eraseIdx n) (ds.eraseIdx n)
  | [], _, _, h => by cases h; exact .nil
  | d :: ds, _, n, h => by
    cases h with
    | cons a b =>
      cases n with
      | zero => exact b
      | succ n => exact .cons a (RpAll.erase n b)
theorem xv_popI {i : Nat} {bb : Bool} {q : Addr} {x : Str} {px pa pc : Pos} {m : R (D × γ)} {c0 : OO} (cn : γ → List D) (χ : γ × List D → En) (h : XV X W eE a en m φ) (hy : en[i]? = some (some (.o bb q c0)) := by rfl) (he : ∀ c, (φ c)[i]? = some (some (.o bb q (.l (cn c)))) := by intro _; rfl) (hχ : ∀ c o, (φ c).set i (some (.o bb q (.l o))) = χ (c, o) := by intro _ _; rfl)
    (hl : ∃ l0, c0 = .l l0 := by exact ⟨_, rfl⟩)
    (hN : X.N[i]? = some x := by rfl) (hv : Vis X.env.scope x := by first | exact Or.inl rfl | exact Or.inr (Or.inl rfl) | exact Or.inr (Or.inr rfl)) (hd : (x == ("__debug__" : Str)) = false := by decide) (hcd : (x == ("__classdict__" : Str)) = false := by decide)
    (hbase : attributeBase (.Name x px) "pop" X.env (eval (.Name x px) X.env) = eval (.Name x px) X.env := by rfl)
    (hfew : ((backTo pc (starEach [a] X.env)).all (fun x => !x.1) && (backToKw pc (keywordEach [] X.env)).all (fun x => x.1.isSome)
      && decide (([a] : List Expr).length + ([] : List Keyword).length + (if ([] : List Keyword).isEmpty then 0 else 1) < 30)) = true := by rfl)
    (hline : (pa.endLine == pc.line) = true := by rfl) (hs : starEach [a] X.env = (false, eval a X.env) :: starEach [] X.env := by rfl) (hplain : (backTo pc (starEach [] X.env)).any (·.1) = false := by rfl) :
    XV X W eE (.Call (.Attribute (.Name x px) "pop" pa) [a] [] pc) en (m.bnd2 fun d c => (R.of (popAtD (cn c) d)).bnd fun r => .ok (r.1, (c, r.2))) χ := fun B σ G H S Q k => by
  obtain ⟨l0, rfl⟩ := hl
  obtain ⟨e1, g0, vs, hp, rr⟩ := st_at S hy
  refine pe_to (pe_bm PySem.F.plainAttrs_list PySem.F.slot_list_pop PySem.F.type_list_pop mt_popAt (pe_var hN hv hd hcd) (pa_cons pe_w pa_nil hs) hbase hfew hline hs hplain) ⟨.ref q, e1, .inl ⟨rfl, vs, .inl (.inl hp)⟩, ?_⟩
  refine h B σ G H S _ (wp_mono (wp_bnd.mp k) (fun y hq v G1 H1 l1 S1 r1 => ?_) fun _ z => z)
  obtain ⟨r, e2, hr⟩ := wp_of (wp_bnd.mp hq)
  obtain ⟨_, g3, us, hp3, r3⟩ := st_at S1 (he y.2)
  unfold popAtD at e2
  split at e2
  · rename_i j hj
    split at e2
    · rename_i hb
      obtain ⟨k', e3, e4⟩ := Option.bind_eq_some_iff.mp e2
      obtain ⟨d, e5, rfl⟩ := Option.map_eq_some_iff.mp e4
      rw [hj] at r1
      cases r1
      obtain ⟨w, e6, rw_⟩ := r3.get e5
      refine ⟨q, us, j, k', w, rfl, rfl, hp3, by omega, by omega, by rw [r3.len]; exact e3, e6, ?_⟩
      have S2 := S1.mut (c' := .l ((cn y.2).eraseIdx k')) (o := .lst (us.eraseIdx k')) (he y.2) ⟨_, upd_same, r3.erase k'⟩
      rw [hχ] at S2
      exact hr _ _ _ l1 S2 rw_
    · cases e2
  · cases e2
theorem xv_popP {i : Nat} {bb : Bool} {q : Addr} {x : Str} {px pa pc : Pos} {m : R D} {l0 : List D} (χ : List D → En) (h : XP X W a en m) (hy : en[i]? = some (some (.o bb q (.l l0))) := by rfl) (hχ : ∀ o, en.set i (some (.o bb q (.l o))) = χ o := by intro _; rfl)
    (hN : X.N[i]? = some x := by rfl) (hv : Vis X.env.scope x := by first | exact Or.inl rfl | exact Or.inr (Or.inl rfl) | exact Or.inr (Or.inr rfl)) (hd : (x == ("__debug__" : Str)) = false := by decide) (hcd : (x == ("__classdict__" : Str)) = false := by decide)
    (hbase : attributeBase (.Name x px) "pop" X.env (eval (.Name x px) X.env) = eval (.Name x px) X.env := by rfl)
    (hfew : ((backTo pc (starEach [a] X.env)).all (fun x => !x.1) && (backToKw pc (keywordEach [] X.env)).all (fun x => x.1.isSome)
      && decide (([a] : List Expr).length + ([] : List Keyword).length + (if ([] : List Keyword).isEmpty then 0 else 1) < 30)) = true := by rfl)
    (hline : (pa.endLine == pc.line) = true := by rfl) (hs : starEach [a] X.env = (false, eval a X.env) :: starEach [] X.env := by rfl) (hplain : (backTo pc (starEach [] X.env)).any (·.1) = false := by rfl)
    (we : Wk0 eE en := by first | exact wk0_nil | exact wk0_refl | assumption | exact Wkn.wk0 (by repeat' first | exact Wkn.nil | apply Wkn.k | apply Wkn.d)) :
    XV X W eE (.Call (.Attribute (.Name x px) "pop" pa) [a] [] pc) en (m.bnd fun d => R.of (popAtD l0 d)) χ := fun B σ G H S Q k => by
  refine xv_popI (γ := Unit) (φ := fun _ => en) (i := i) (fun _ => l0) (fun z => en.set i (some (.o bb q (.l z.2)))) (xv_of (cc := ()) h rfl we) hy (fun _ => hy) (fun _ _ => rfl) ⟨_, rfl⟩ hN hv hd hcd hbase hfew hline hs hplain B σ G H S Q ?_
  cases em : m with
  | ok r' =>
    rw [em] at k
    have k : Post X W eE B (R.of (popAtD l0 r')) _ := k
    show Post X W eE B ((R.of (popAtD l0 r')).bnd fun r => .ok (r.1, ((), r.2))) _
    refine wp_bnd.mpr (wp_mono k (fun o ho => ?_) fun _ z => z)
    intro v G2 H2 l S2 r2
    refine ho v G2 H2 l ?_ r2
    rw [← hχ]
    exact S2
  | err c => rw [em] at k; exact k
  | bad => rw [em] at k; exact k
/-! xs.index(y) of whole numbers -/
def idxI : List Int → Int → Option Nat
  | [], _ => none
  | x :: xs, y => if x = y then some 0 else (idxI xs y).map (· + 1)
theorem idxI_some : ∀ {xs : List Int} {y : Int} {j : Nat}, idxI xs y = some j → xs[j]? = some y ∧ ∀ m z, m < j → xs[m]? = some z → z ≠ y
  | [], y, j, h => by cases h
  | x :: xs, y, j, h => by
    unfold idxI at h
    split at h
    · rename_i e; cases h; exact ⟨by simp [e], fun m z hm => by omega⟩
    · rename_i e
      obtain ⟨k, e1, rfl⟩ := Option.map_eq_some_iff.mp h
      obtain ⟨h1, h2⟩ := idxI_some e1
      refine ⟨by simpa using h1, fun m z hm hz => ?_⟩
      cases m with
      | zero => simp at hz; rw [← hz]; exact e
      | succ m => exact h2 m z (by omega) (by simpa using hz)
def D.lsl : D → Option (List D)
  | .lst xs => some xs
  | _ => none
def idxD (xs : List D) : D → Option D
  | .int y => (intsD xs).bind fun ns => (idxI ns y).map fun j => .int (j : Nat)
  | _ => none
theorem xp_index {ma mb : R D} {pa pc : Pos} (ha : XP X W a en ma) (hb : XP X W b en mb)
    (hbase : attributeBase a "index" X.env (eval a X.env) = eval a X.env := by rfl)
    (hfew : ((backTo pc (starEach [b] X.env)).all (fun x => !x.1) && (backToKw pc (keywordEach [] X.env)).all (fun x => x.1.isSome)
      && decide (([b] : List Expr).length + ([] : List Keyword).length + (if ([] : List Keyword).isEmpty then 0 else 1) < 30)) = true := by rfl)
    (hline : (pa.endLine == pc.line) = true := by rfl) (hs : starEach [b] X.env = (false, eval b X.env) :: starEach [] X.env := by rfl) (hplain : (backTo pc (starEach [] X.env)).any (·.1) = false := by rfl) :
    XP X W (.Call (.Attribute a "index" pa) [b] [] pc) en (ma.bnd fun x => (R.of x.lsl).bnd fun xs => mb.bnd fun y => R.of (idxD xs y)) := fun σ G H S Q k => by
  refine pe_to (pe_bm PySem.F.plainAttrs_list PySem.F.slot_list_index PySem.F.type_list_index mt_index pe_w (pa_cons pe_w pa_nil hs) hbase hfew hline hs hplain) (ha σ G H S _ (wp_mono (wp_bnd.mp k) (fun x hx v G1 H1 w1 r1 => ?_) fun _ z => z))
  obtain ⟨xs, ex, hx⟩ := wp_of (wp_bnd.mp hx)
  cases x <;> cases ex
  cases r1 with
  | @lst p vs _ h1 r1 =>
    refine ⟨.inl ⟨rfl, vs, .inl (w1.up.le _ _ rfl h1)⟩, ?_⟩
    refine hb σ G1 H1 (S.grow w1) _ (wp_mono (wp_bnd.mp hx) (fun y hy u G2 H2 w2 r2 => ?_) fun _ z G2 H2 w => z G2 H2 (w1.trans w))
    obtain ⟨d, e, hd⟩ := wp_of hy
    unfold idxD at e
    split at e
    · rename_i y'
      obtain ⟨ns, e1, e2⟩ := Option.bind_eq_some_iff.mp e
      obtain ⟨j, e3, rfl⟩ := Option.map_eq_some_iff.mp e2
      cases r2
      have ev := ints_rp e1 r1
      subst ev
      obtain ⟨h2, h3⟩ := idxI_some e3
      refine ⟨p, ns.map V.int, .int y', j, .int y', rfl, rfl, .inl (w2.up.le _ _ rfl (w2.g _ _ rfl h1)), rfl, ?_, by rw [List.getElem?_map, h2]; rfl, by simp [eqV], fun m z hm hz => ?_, hd _ G2 H2 (w1.trans w2) (.int _)⟩
      · rw [List.all_eq_true]; intro z hz; obtain ⟨n, _, rfl⟩ := List.mem_map.mp hz; rfl
      · rw [List.getElem?_map] at hz
        obtain ⟨n, e4, rfl⟩ := Option.map_eq_some_iff.mp hz
        have := h3 m n hm e4
        simp [eqV, this]
    · cases e
/-! for x in y, y one's own list that stays as it is -/
theorem xs_forOwnO {α β : Type} {i i0 : Nat} {b0 : Bool} {q : Addr} {ds : List D} {x y : Str} {p py : Pos} {body : List Stmt} {L : α → En → Prop} {Rr : Hp → β → V → Hp → Hp → Prop} {step : α → D → R (Out α β)} {a0 : α} {e0 : En} (Gx : Go X ec W) (h0 : L a0 e0) (w0 : Wkn e0 en)
    (hb : ∀ a e d, L a e → XB X W eE body (e.set i (some (.v d))) (step a d) (TO X.K L Rr)) (hy : en[i0]? = some (some (.o b0 q (.l ds))) := by rfl) (hL : ∀ a e, L a e → e[i0]? = some (some (.o b0 q (.l ds))) := by rintro _ _ rfl; rfl)
    (hN : X.N[i]? = some x := by rfl) (hNy : X.N[i0]? = some y := by rfl) (hv : Vis X.env.scope y := by first | exact Or.inl rfl | exact Or.inr (Or.inl rfl) | exact Or.inr (Or.inr rfl)) (hd : (y == ("__debug__" : Str)) = false := by decide) (hcd : (y == ("__classdict__" : Str)) = false := by decide)
    (hx : Loc X.env.scope x := by first | exact Or.inl rfl | exact Or.inr rfl)
    (hs : ∀ x, foldedSetIterable (.Name y py) X.env x = pure x := by intro _; rfl) (hf : X.fn x = true ∨ X.env.scope.names.lookup x = some .local := by first | exact .inl rfl | exact .inr rfl) : XS X W eE (.For (.Name x p) (.Name y py) body [] pos) en ((R.ok ds).bnd fun ds => loopR step a0 ds) (TO X.K L Rr) := fun B σ G H S D q => by
  obtain ⟨e1, g0, vs, hp, rr⟩ := st_at S hy
  refine ps_to (ps_for Gx.po Gx.calm (pi_any (pe_var hNy hv hd hcd)) (pg_name Gx.nd hN hx hf) pss_w hs) ⟨.ref _, e1, _, rfl, .inl ⟨⟨vs, .inl (.inl hp)⟩, ?_⟩⟩
  refine ⟨fun i m σ' H' => m = ds.length - i ∧ ∃ a e G', L a e ∧ St8 X.K B e σ' G' H' ∧ Le G G' ∧ i ≤ ds.length ∧ Post X W eE B (loopR step a (ds.drop i)) (fun o => TO X.K L Rr B o D), ⟨_, rfl, a0, e0, G, h0, S.weak w0, Le.refl _, Nat.zero_le _, q⟩, ?_⟩
  rintro i m σ' H' ⟨rfl, a, e, G', hL', S', l', hi', p⟩
  obtain ⟨_, g1, us, hp1, r1⟩ := st_at S' (hL a e hL')
  by_cases hlt : i < ds.length
  · rw [List.drop_eq_getElem_cons hlt] at p
    obtain ⟨v, e2, r2⟩ := r1.get (List.getElem?_eq_getElem hlt)
    refine .inr ⟨⟨us, v, .inl (.inl hp1), e2⟩, fun σ3 H3 => ∃ a e G3, L a e ∧ St8 X.K B e σ3 G3 H3 ∧ Le G G3 ∧ Post X W eE B (loopR step a (ds.drop (i + 1))) (fun o => TO X.K L Rr B o D), fun σ3 H3 ⟨a3, e3, G3, h1, h2, h3, h4⟩ => ⟨ds.length - (i + 1), by omega, rfl, a3, e3, G3, h1, h2, h3, hlt, h4⟩, fun x H4 y => ?_⟩
    obtain ⟨rfl, y⟩ := y
    have := y us (.inl (.inl hp1))
    rw [e2] at this; cases this
    have p' := wp_bnd.mp p
    refine tg_name B e σ' G' H4 S' ds[i] v _ r2 rfl _ fun σ5 S5 => ?_
    refine hb a e ds[i] hL' (B.at_ G') σ5 G' H4 (S5.to S'.es.fr (Grow.refl S'.es.fr.up)) _ (wp_mono p' (fun o ho => ?_) fun _ z σ6 G6 H6 s6 => z σ6 G6 H6 (s6.of S'.es.fr))
    cases o with
    | nx a6 => exact fun e6 σ6 G6 H6 hL6 S6 => ⟨a6, e6, G6, hL6, S6.of S'.es.fr, l'.trans S6.es.fr.le0, ho⟩
    | rt b => exact fun v6 G6 H6 f6 r6 => ho v6 G6 H6 (S'.es.fr.of f6) r6
  · have ei : i = ds.length := by omega
    subst ei
    rw [List.drop_length] at p
    exact .inl ⟨⟨us, .inl (.inl hp1), Nat.le_of_eq r1.len⟩, p e σ' G' H' hL' S'⟩
theorem xs_forOwn {α : Type} {i i0 : Nat} {b0 : Bool} {q : Addr} {ds : List D} {x y : Str} {p py : Pos} {body : List Stmt} {L : α → En → Prop} {step : α → D → R α} {a0 : α} {e0 : En} (Gx : Go X ec W) (h0 : L a0 e0) (w0 : Wkn e0 en)
    (hb : ∀ a e d, L a e → XB X W eE body (e.set i (some (.v d))) (step a d) (TN X.K L)) (hy : en[i0]? = some (some (.o b0 q (.l ds))) := by rfl) (hL : ∀ a e, L a e → e[i0]? = some (some (.o b0 q (.l ds))) := by rintro _ _ rfl; rfl)
    (hN : X.N[i]? = some x := by rfl) (hNy : X.N[i0]? = some y := by rfl) (hv : Vis X.env.scope y := by first | exact Or.inl rfl | exact Or.inr (Or.inl rfl) | exact Or.inr (Or.inr rfl)) (hd : (y == ("__debug__" : Str)) = false := by decide) (hcd : (y == ("__classdict__" : Str)) = false := by decide)
    (hx : Loc X.env.scope x := by first | exact Or.inl rfl | exact Or.inr rfl)
    (hs : ∀ x, foldedSetIterable (.Name y py) X.env x = pure x := by intro _; rfl) (hf : X.fn x = true ∨ X.env.scope.names.lookup x = some .local := by first | exact .inl rfl | exact .inr rfl) : XS X W eE (.For (.Name x p) (.Name y py) body [] pos) en ((R.ok ds).bnd fun ds => foldR step a0 ds) (TN X.K L) := fun B σ G H S D k => by
  refine xs_forOwnO (β := Empty) (Rr := fun _ _ _ _ _ => False) (step := fun a d => (step a d).bnd fun a' => .ok (.nx a')) Gx h0 w0 (fun a e d hL B σ G H S D q => hb a e d hL B σ G H S D (wp_mono (wp_bnd.mp q) (fun _ z => z) fun _ z => z)) hy hL hN hNy hv hd hcd hx hs hf B σ G H S D ?_
  have k : Post X W eE B (foldR step a0 ds) _ := k
  show Post X W eE B (loopR _ a0 ds) _
  rw [fold_loop]
  exact wp_bnd.mpr (wp_mono k (fun _ z => z) fun _ z => z)
end
end Wk
set_option maxHeartbeats 4000000
/-! Wk29: least, greatest, sorted. -/
namespace Wk
open PySem PySem.Spec PyProof.Rows L2
def D.max2 : List D → Option D
  | [.int i, .int j] => some (.int (if j > i then j else i))
  | _ => none
def D.min2 : List D → Option D
  | [.int i, .int j] => some (.int (if j < i then j else i))
  | _ => none
def maxI : List Int → Int
  | [] => 0
  | [x] => x
  | x :: xs => if maxI xs > x then maxI xs else x
def minI : List Int → Int
  | [] => 0
  | [x] => x
  | x :: xs => if minI xs < x then minI xs else x
theorem maxI_is : ∀ {ns : List Int}, ns ≠ [] → maxI ns ∈ ns ∧ ∀ y ∈ ns, y ≤ maxI ns
  | [], h => absurd rfl h
  | [x], _ => by simp [maxI]
  | x :: y :: ns, _ => by
    obtain ⟨h1, h2⟩ := maxI_is (ns := y :: ns) (by simp)
    show (if maxI (y :: ns) > x then maxI (y :: ns) else x) ∈ _ ∧ ∀ z ∈ x :: y :: ns, z ≤ (if maxI (y :: ns) > x then maxI (y :: ns) else x)
    split
    · rename_i hx
      refine ⟨List.mem_cons_of_mem _ h1, fun z hz => ?_⟩
      rcases List.mem_cons.mp hz with rfl | hz
      · omega
      · exact h2 z hz
    · rename_i hx
      refine ⟨List.mem_cons_self, fun z hz => ?_⟩
      rcases List.mem_cons.mp hz with rfl | hz
      · omega
      · have := h2 z hz; omega
theorem minI_is : ∀ {ns : List Int}, ns ≠ [] → minI ns ∈ ns ∧ ∀ y ∈ ns, minI ns ≤ y
  | [], h => absurd rfl h
  | [x], _ => by simp [minI]
  | x :: y :: ns, _ => by
    obtain ⟨h1, h2⟩ := minI_is (ns := y :: ns) (by simp)
    show (if minI (y :: ns) < x then minI (y :: ns) else x) ∈ _ ∧ ∀ z ∈ x :: y :: ns, (if minI (y :: ns) < x then minI (y :: ns) else x) ≤ z
    split
    · rename_i hx
      refine ⟨List.mem_cons_of_mem _ h1, fun z hz => ?_⟩
      rcases List.mem_cons.mp hz with rfl | hz
      · omega
      · exact h2 z hz
    · rename_i hx
      refine ⟨List.mem_cons_self, fun z hz => ?_⟩
      rcases List.mem_cons.mp hz with rfl | hz
      · omega
      · have := h2 z hz; omega
def D.max1 : List D → Option D
  | [.lst xs] => (intsD xs).bind fun ns => if ns = [] then none else some (.int (maxI ns))
  | _ => none
def D.min1 : List D → Option D
  | [.lst xs] => (intsD xs).bind fun ns => if ns = [] then none else some (.int (minI ns))
  | _ => none
def insI (x : Int) : List Int → List Int
  | [] => [x]
  | y :: ys => if x ≤ y then x :: y :: ys else y :: insI x ys
def sortI : List Int → List Int
  | [] => []
  | x :: xs => insI x (sortI xs)
theorem insI_perm (x : Int) : ∀ ys, (insI x ys).Perm (x :: ys)
  | [] => .refl _
  | y :: ys => by
    unfold insI
    split
    · exact .refl _
    · exact ((insI_perm x ys).cons y).trans (.swap x y ys)
theorem insI_srt (x : Int) : ∀ {ys : List Int}, ys.Pairwise (· ≤ ·) → (insI x ys).Pairwise (· ≤ ·)
  | [], _ => by simp [insI]
  | y :: ys, h => by
    unfold insI
    obtain ⟨h1, h2⟩ := List.pairwise_cons.mp h
    split
    · rename_i hx
      refine List.pairwise_cons.mpr ⟨fun z hz => ?_, h⟩
      rcases List.mem_cons.mp hz with rfl | hz
      · exact hx
      · exact Int.le_trans hx (h1 z hz)
    · rename_i hx
      refine List.pairwise_cons.mpr ⟨fun z hz => ?_, insI_srt x h2⟩
      rcases List.mem_cons.mp ((insI_perm x ys).mem_iff.mp hz) with rfl | hz
      · omega
      · exact h1 z hz
theorem sortI_perm : ∀ xs, (sortI xs).Perm xs
  | [] => .refl _
  | x :: xs => (insI_perm x _).trans ((sortI_perm xs).cons x)
theorem sortI_srt : ∀ xs, (sortI xs).Pairwise (· ≤ ·)
  | [] => .nil
  | x :: xs => insI_srt x (sortI_srt xs)
theorem srt_eq : ∀ {xs ys : List Int}, xs.Perm ys → xs.Pairwise (· ≤ ·) → ys.Pairwise (· ≤ ·) → xs = ys
  | [], ys, p, _, _ => by rw [List.nil_perm.mp p]
  | x :: xs, [], p, _, _ => absurd p.length_eq (by simp)
  | x :: xs, y :: ys, p, h1, h2 => by
    obtain ⟨a1, a2⟩ := List.pairwise_cons.mp h1
    obtain ⟨b1, b2⟩ := List.pairwise_cons.mp h2
    have e : x = y := by
      have hx : x ∈ y :: ys := p.mem_iff.mp List.mem_cons_self
      have hy : y ∈ x :: xs := p.mem_iff.mpr List.mem_cons_self
      rcases List.mem_cons.mp hx with e | hx
      · exact e
      · rcases List.mem_cons.mp hy with e | hy
        · exact e.symm
        · have := a1 y hy; have := b1 x hx; omega
    subst e
    rw [srt_eq (p.cons_inv) a2 b2]
def D.sorted : List D → Option (List D)
  | [.lst xs] => (intsD xs).map fun ns => (sortI ns).map .int
  | _ => none
section
variable {K : PySem.W.Frag}
theorem d_max2 : CallD K (fun xs H Q => ∃ i j, xs = [.int i, .int j] ∧ Q (.int (if j > i then j else i)) H) D.max2 := fun G H xs ds d l r e Q q => by
  unfold D.max2 at e
  split at e
  · cases e
    cases r with
    | cons a b =>
      cases b with
      | cons b c =>
        cases c; cases a; cases b
        exact ⟨_, _, rfl, keepQ l q (.int _)⟩
  · cases e
theorem d_min2 : CallD K (fun xs H Q => ∃ i j, xs = [.int i, .int j] ∧ Q (.int (if j < i then j else i)) H) D.min2 := fun G H xs ds d l r e Q q => by
  unfold D.min2 at e
  split at e
  · cases e
    cases r with
    | cons a b =>
      cases b with
      | cons b c =>
        cases c; cases a; cases b
        exact ⟨_, _, rfl, keepQ l q (.int _)⟩
  · cases e
theorem d_max1 : CallD K (rMax K) D.max1 := fun G H xs ds d l r e Q q => by
  unfold D.max1 at e
  split at e
  · obtain ⟨ns, e1, e2⟩ := Option.bind_eq_some_iff.mp e
    split at e2
    · cases e2
    · rename_i hn
      cases e2
      cases r with
      | cons a b =>
        cases b
        cases a with
        | lst h1 r1 =>
          have := ints_rp e1 r1
          subst this
          refine ⟨_, ns, rfl, .inl (l.le _ _ rfl h1), List.length_pos_iff.mpr hn, fun m hm hy => ?_⟩
          obtain ⟨z1, z2⟩ := maxI_is hn
          have e : m = maxI ns := Int.le_antisymm (z2 m hm) (hy _ z1)
          rw [e]
          exact keepQ l q (.int _)
  · cases e
theorem d_min1 : CallD K (rMin K) D.min1 := fun G H xs ds d l r e Q q => by
  unfold D.min1 at e
  split at e
  · obtain ⟨ns, e1, e2⟩ := Option.bind_eq_some_iff.mp e
    split at e2
    · cases e2
    · rename_i hn
      cases e2
      cases r with
      | cons a b =>
        cases b
        cases a with
        | lst h1 r1 =>
          have := ints_rp e1 r1
          subst this
          refine ⟨_, ns, rfl, .inl (l.le _ _ rfl h1), List.length_pos_iff.mpr hn, fun m hm hy => ?_⟩
          obtain ⟨z1, z2⟩ := minI_is hn
          have e : m = minI ns := Int.le_antisymm (hy _ z1) (z2 m hm)
          rw [e]
          exact keepQ l q (.int _)
  · cases e
theorem d_sorted : CallN K (rSortedI K) D.sorted := fun G H xs ds d l r e Q q => by
  unfold D.sorted at e
  split at e
  · obtain ⟨ns, e1, rfl⟩ := Option.map_eq_some_iff.mp e
    cases r with
    | cons a b =>
      cases b
      cases a with
      | lst h1 r1 =>
        have := ints_rp e1 r1
        subst this
        refine ⟨_, ns, rfl, .inl (l.le _ _ rfl h1), fun ns' p hp hs hn => ?_⟩
        have e : ns' = sortI ns := srt_eq (hp.trans (sortI_perm ns).symm) hs (sortI_srt ns)
        rw [e]
        exact newL l hn (all_ints _) q
  · cases e
end
end Wk
set_option maxHeartbeats 4000000
/-! Wk30: comprehensions in comprehensions; texts. -/
namespace Wk
open PySem PySem.Spec PyProof.Rows L2
def relK (env : Env) (p : Str × NameKind) : Str × NameKind := match p with
  | (n, k) => if (k == NameKind.free && env.scope.kind == ScopeKind.function && env.kindOf n == some NameKind.cell) = true then (n, NameKind.cell) else (n, k)
theorem rel_look {env : Env} : ∀ {ns : List (Str × NameKind)} {x : Str}, (List.lookup x ns = some .cell ∨ List.lookup x ns = some .free) → List.lookup x (ns.map (relK env)) = some .cell ∨ List.lookup x (ns.map (relK env)) = some .free
  | [], x, h => by simp at h
  | (n, k) :: ns, x, h => by
    have key : relK env (n, k) = (n, NameKind.cell) ∨ relK env (n, k) = (n, k) := by
      show (if _ then _ else _) = _ ∨ (if _ then _ else _) = _
      by_cases c : (k == NameKind.free && env.scope.kind == ScopeKind.function && env.kindOf n == some NameKind.cell) = true
      · exact .inl (if_pos c)
      · exact .inr (if_neg c)
    rw [List.map_cons]
    rw [List.lookup_cons] at h
    rcases key with e | e
    · rw [e, List.lookup_cons]
      cases e2 : x == n with
      | true => simp
      | false => rw [e2] at h; exact rel_look h
    · rw [e, List.lookup_cons]
      cases e2 : x == n with
      | true => rw [e2] at h; exact h
      | false => rw [e2] at h; exact rel_look h
theorem blk_rel {N : List Str} {sc scope : Scope} {own : List (Str × Nat)} {env : Env} (h : BlkOk N sc scope own) : BlkOk N (relabel sc env) scope own :=
  ⟨h.kind, h.uniq, h.ix, fun y hy hf => rel_look (h.free y hy hf), h.own⟩
end Wk
set_option maxHeartbeats 4000000
/-! Wk31: texts. -/
namespace Wk
open PySem PySem.Spec PyProof.Rows L2
def D.toStr : List D → Option D
  | [.int i] => if i.natAbs.log2 < 1920 then some (.str (Str.ofString (toString i))) else none
  | _ => none
def D.strInt : List D → Option D
  | [.str a] => if a.length ≤ 640 then (PySem.intText? a).map .int else none
  | _ => none
/-- one sign in a text -/
def D.inS : D → D → Option Bool
  | .str a, .str z => match a.cps.toList with
    | [c] => some (decide (c ∈ z.cps.toList))
    | _ => none
  | _, _ => none
def D.notinS (x y : D) : Option Bool := (D.inS x y).map fun b => !b
def D.join : D → D → Option D
  | .str a, .lst xs => (strsD xs).bind fun ys => if (ys.map (·.length)).sum + ys.length * a.length ≤ 16777216 then some (.str (Txt.join a ys)) else none
  | _, _ => none
def D.splitD : D → D → Option (List D)
  | .str a, .str b => if (b.length == 0) = false ∧ a.length ≤ 16000000 then some ((Txt.split a b).map .str) else none
  | _, _ => none
def D.cutT : D → Option Int → Option Int → Option D
  | .str z, lo, hi => if z.length ≤ 16000000 then some (.str (cutS z lo hi)) else none
  | _, _, _ => none
section
variable {X : Cx} {W : WN} {eE : En} {en : En} {ec : Nat → Addr} {pos : Pos} {a b c : Expr} {ma mb mc : R D} {K : PySem.W.Frag}
theorem d_str : CallD K (fun xs H Q => ∃ i : Int, xs = [V.int i] ∧ i.natAbs.log2 < 1920 ∧ Q (V.str (Str.ofString (toString i))) H) D.toStr := fun G H xs ds d l r e Q q => by
  unfold D.toStr at e
  split at e
  · split at e
    · rename_i h
      cases e
      cases r with
      | cons a b => cases b; cases a; exact ⟨_, rfl, h, keepQ l q (.str _)⟩
    · cases e
  · cases e
theorem d_strInt : CallD K (fun xs H Q => ∃ a n, xs = [V.str a] ∧ intText? a = some n ∧ a.length ≤ 640 ∧ Q (V.int n) H) D.strInt := fun G H xs ds d l r e Q q => by
  unfold D.strInt at e
  split at e
  · split at e
    · rename_i h
      obtain ⟨n, e1, rfl⟩ := Option.map_eq_some_iff.mp e
      cases r with
      | cons a b => cases b; cases a; exact ⟨_, n, rfl, e1, h, keepQ l q (.int _)⟩
    · cases e
  · cases e
theorem str_one {a : Str} {c : Nat} (h : a.cps.toList = [c]) : a = ⟨#[c]⟩ := by
  obtain ⟨⟨l⟩⟩ := a
  simp at h
  rw [h]
theorem d_inS : OpD K (fun x y H Q => ∃ (c : Nat) (z : Str), x = .str ⟨#[c]⟩ ∧ y = .str z ∧ Q (.bl (decide (c ∈ z.cps.toList))) H) (fun x y => (D.inS x y).map .bl) := fun G H x y dx dy d l rx ry e Q q => by
  obtain ⟨b, e1, rfl⟩ := Option.map_eq_some_iff.mp e
  unfold D.inS at e1
  split at e1
  · split at e1
    · rename_i c hc
      cases e1
      cases rx; cases ry
      rw [str_one hc]
      exact ⟨c, _, rfl, rfl, keepQ l q (.bl _)⟩
    · cases e1
  · cases e1
theorem d_notinS : OpD K (fun x y H Q => ∃ (c : Nat) (z : Str), x = .str ⟨#[c]⟩ ∧ y = .str z ∧ Q (.bl (!decide (c ∈ z.cps.toList))) H) (fun x y => (D.notinS x y).map .bl) := fun G H x y dx dy d l rx ry e Q q => by
  obtain ⟨b, e1, rfl⟩ := Option.map_eq_some_iff.mp e
  unfold D.notinS D.inS at e1
  split at e1
  · split at e1
    · rename_i c hc
      cases e1
      cases rx; cases ry
      rw [str_one hc]
      exact ⟨c, _, rfl, rfl, keepQ l q (.bl _)⟩
    · cases e1
  · cases e1
theorem xp_join {pa : Pos} (ha : XP X W a en ma) (hb : XP X W b en mb) (hs : starEach [b] X.env = [(false, eval b X.env)] := by rfl) (hbase : attributeBase a "join" X.env (eval a X.env) = eval a X.env := by rfl) (hline : (pa.endLine == pos.line) = true := by rfl) :
    XP X W (.Call (.Attribute a "join" pa) [b] [] pos) en (ma.bnd fun x => (R.of (match x with | .str s => some s | _ => none)).bnd fun s => mb.bnd fun y => R.of (D.join (.str s) y)) := fun σ G H S Q k => by
  refine pe_to (pe_join pe_w pe_w hs hbase hline) (ha σ G H S _ (wp_mono (wp_bnd.mp k) (fun x hx v G1 H1 w1 r1 => ?_) fun _ z => z))
  obtain ⟨s, e1, hx⟩ := wp_of (wp_bnd.mp hx)
  split at e1
  · cases e1
    cases r1
    refine ⟨⟨_, rfl⟩, hb σ G1 H1 (S.grow w1) _ (wp_mono (wp_bnd.mp hx) (fun y hy u G2 H2 w2 r2 => ?_) fun _ z G2 H2 w => z G2 H2 (w1.trans w))⟩
    obtain ⟨d, e, hd⟩ := wp_of hy
    unfold D.join at e
    split at e
    · rename_i xs hxs
      cases hxs
      obtain ⟨ys, e2, e3⟩ := Option.bind_eq_some_iff.mp e
      split at e3
      · rename_i hl
        cases e3
        cases r2 with
        | @lst p vs _ h1 r2 =>
          have := strs_rp e2 r2
          subst this
          exact ⟨_, p, ys, rfl, rfl, .inl (.inl (w2.up.le _ _ rfl h1)), hl, hd _ G2 H2 (w1.trans w2) (.str _)⟩
      · cases e3
    · cases e
  · cases e1
theorem strs_all {G : Hp} : ∀ ys : List Str, RpAll K G (ys.map V.str) (ys.map D.str)
  | [] => .nil
  | y :: ys => .cons (.str y) (strs_all ys)
theorem xn_split {pa : Pos} (ha : XP X W a en ma) (hb : XP X W b en mb) (hs : starEach [b] X.env = [(false, eval b X.env)] := by rfl) (hbase : attributeBase a "split" X.env (eval a X.env) = eval a X.env := by rfl) (hline : (pa.endLine == pos.line) = true := by rfl) :
    XN X W (.Call (.Attribute a "split" pa) [b] [] pos) en (ma.bnd fun x => (R.of (match x with | .str s => some s | _ => none)).bnd fun s => mb.bnd fun y => R.of (D.splitD (.str s) y)) := fun σ G H S Q k => by
  refine pe_to (pe_split pe_w pe_w hs hbase hline) (ha σ G H S _ (wp_mono (wp_bnd.mp k) (fun x hx v G1 H1 w1 r1 => ?_) fun _ z => z))
  obtain ⟨s, e1, hx⟩ := wp_of (wp_bnd.mp hx)
  split at e1
  · cases e1
    cases r1
    refine ⟨⟨_, rfl⟩, hb σ G1 H1 (S.grow w1) _ (wp_mono (wp_bnd.mp hx) (fun y hy u G2 H2 w2 r2 => ?_) fun _ z G2 H2 w => z G2 H2 (w1.trans w))⟩
    obtain ⟨d, e, hd⟩ := wp_of hy
    unfold D.splitD at e
    split at e
    · rename_i s' b' hs'
      cases hs'
      split at e
      · rename_i hl
        cases e
        cases r2
        refine ⟨_, _, rfl, rfl, hl.1, ?_, fun p hp => ?_⟩
        · have : 16000002 ≤ sizeLine := by decide
          have := hl.2
          omega
        · exact newL w2.up hp (strs_all _) (NewL.up (w1.trans w2) hd)
      · cases e
    · cases e
  · cases e1
theorem xp_cutT {lo hi : Option Expr} {ml mh : R (Option Int)} {p2 : Pos} (ha : XP X W a en ma) (hl : XO X W lo en ml) (hh : XO X W hi en mh) : XP X W (.Subscript a (.Slice lo hi none p2) pos) en (ma.bnd fun x => ml.bnd fun l => mh.bnd fun h => R.of (x.cutT l h)) := fun σ G H S Q k => by
  refine pe_to (pe_slice sl_str pe_w po_w po_w) (ha σ G H S _ (wp_mono (wp_bnd.mp k) (fun x hx v G1 H1 w1 r1 => ?_) fun _ z => z))
  refine hl σ G1 H1 (S.grow w1) _ (wp_mono (wp_bnd.mp hx) (fun l hl' G2 H2 w2 => ?_) fun _ z G2 H2 w => z G2 H2 (w1.trans w))
  refine hh σ G2 H2 ((S.grow w1).grow w2) _ (wp_mono (wp_bnd.mp hl') (fun h hh' G3 H3 w3 => ?_) fun _ z G3 H3 w => z G3 H3 ((w1.trans w2).trans w))
  obtain ⟨d, e, hd⟩ := wp_of hh'
  unfold D.cutT at e
  split at e
  · split at e
    · rename_i hz
      cases e
      cases r1
      exact ⟨_, rfl, size_ok hz, hd _ _ _ ((w1.trans w2).trans w3) (.str _)⟩
    · cases e
  · cases e
end
end Wk
set_option maxHeartbeats 4000000
/-! Wk32: defs of two arguments that change the second one. -/
namespace Wk
open PySem PySem.Spec PyProof.Rows L2
section
variable {K : PySem.W.Frag}
/-- the second of two arguments is a list of the asker's -/
def spIOb (K : PySem.W.Frag) (ec : Nat → Addr) (f : D → List D → R (D × List D)) : Sp := fun vs H Q E => ∃ G p u us c d, Lk G H ∧ vs = [u, .ref p] ∧ G p = none ∧ H p = some (.lst us) ∧ RpAll K G us c ∧ Rp K G u d ∧
  wp (f d c) (fun r => ∀ v us' G2 H2, GrowX p G H G2 H2 → Rp K G2 v r.1 → H2 p = some (.lst us') → RpAll K G2 us' r.2 → Q v H2) (fun c => ∀ G2 H2, GrowX p G H G2 H2 → E (.ref (ec c)) none H2)
def enB (N : List Str) (p : Addr) (c : List D) (d : D) : En := some (.v d) :: some (.o true p (.l c)) :: List.replicate (N.length - 2) none
theorem st_startB {G H : Hp} {p : Addr} {us : List V} {u : V} {c : List D} {d : D} {N : List Str} (l : Lk G H) (gp : G p = none) (hp : H p = some (.lst us)) (ru : RpAll K G us c) (r : Rp K G u d) : St8 K ⟨G, H, [p]⟩ (enB N p c d) (L2.start N [u, .ref p]) G H := by
  have only : ∀ (i : Nat) (dv : DV), (enB N p c d)[i]? = some (some dv) → (i = 0 ∧ dv = .v d) ∨ (i = 1 ∧ dv = .o true p (.l c)) := fun i dv e => by
    match i, e with
    | 0, e => cases e; exact .inl ⟨rfl, rfl⟩
    | 1, e => cases e; exact .inr ⟨rfl, rfl⟩
    | j + 2, e =>
      have e : (List.replicate (N.length - 2) (none : Option DV))[j]? = some (some dv) := e
      rw [List.getElem?_replicate] at e
      split at e <;> cases e
  refine ⟨⟨⟨l, Le.refl _, fun _ _ _ e => e, fun _ n => n, fun _ n _ => n⟩, fun i dv e => ?_, fun i j b b' q c c' e e' => ?_, fun i b q c e => ?_⟩, ?_⟩
  · rcases only i dv e with ⟨rfl, rfl⟩ | ⟨rfl, rfl⟩
    · exact ⟨u, rfl, r⟩
    · exact ⟨.ref p, rfl, rfl, gp, us, hp, ru⟩
  · rcases only i _ e with ⟨rfl, z⟩ | ⟨rfl, z⟩
    · cases z
    · rcases only j _ e' with ⟨rfl, z⟩ | ⟨rfl, z⟩
      · cases z
      · rfl
  · rcases only i _ e with ⟨rfl, z⟩ | ⟨rfl, z⟩
    · cases z
    · cases z; exact ⟨by simp, fun a z => by cases z⟩
  · unfold L2.start enB
    simp
variable {P : Program} {w : World} {mg : Str → Option Value} {base : Heap} {ec : Nat → Addr}
theorem fn_okIOb {x qual : Str} {st : Stmt} {f : Addr} {fd : FuncData} {N ps : List Str} {k : Nat} {fm : D → List D → R (D × List D)} (F : Fun K x qual st f fd) (S : FnScope N ps (defScope st)) (hn : ps.length = 2)
    (body : ∀ (cdv : Value) (A : Around) (outer : List Env) (s : Shared) (H : Hp) (E : XK), Room k (A.deeper (envOfC qual (defScope st) s.heap.objs.size f cdv)) →
      Go (cxOf (L2.CX P w) P w K mg base N qual (defScope st) f cdv A outer s H E) ec (fun c _ H => E (.ref (ec c)) none H) → ∀ (p : Addr) (c : List D) (d : D),
      XB (cxOf (L2.CX P w) P w K mg base N qual (defScope st) f cdv A outer s H E) (fun c _ H => E (.ref (ec c)) none H) [] (defBody st) (enB N p c d) (fm d c) (TR (rIL K p))) :
    FnOk P w K mg base (L2.CX P w) (k + 1) f fd ps (spIOb K ec fm) := by
  refine F.okX S (fun vs H Q E h => ?_) (fun cdv A outer s H vs Q E hr h => ?_)
  · obtain ⟨G, p, u, us, c, d, l, rfl, _⟩ := h
    rw [hn]; rfl
  · obtain ⟨G, p, u, us, c, d, l, rfl, gp, hp, ru, r, q⟩ := h
    have g : Go (cxOf (L2.CX P w) P w K mg base N qual (defScope st) f cdv A outer s H E) ec (fun c _ H => E (.ref (ec c)) none H) :=
      ⟨rfl, passes_of rfl, S.nd, (takes_of (E := E) rfl rfl rfl rfl).imp fun cls d σ H' ⟨c, e1, e2, e3⟩ => by rw [e1, e2]; exact e3⟩
    have b := body cdv A outer s H E hr g p c d
    exact ⟨_, pss_w, b ⟨G, H, [p]⟩ (L2.start N [u, .ref p]) G H (st_startB l gp hp ru r) _ (wp_mono q (fun o ho v G2 H2 f8 ⟨rr, us', h1, h2⟩ => ho v us' G2 H2 f8.toGrowX rr h1 h2) fun c hc σ G2 H2 es => hc G2 H2 es.fr.toGrowX)⟩
end
section
variable {X : Cx} {W : WN} {en : En} {ec : Nat → Addr} {pos : Pos} {a : Expr}
/-- f(a, x), x one's own list that f may change -/
theorem xv_ioB {i : Nat} {bb : Bool} {q : Addr} {cn : List D} {x y : Str} {p py : Pos} {k : Nat} {f : Addr} {fd : FuncData} {ps : List Str} {fm : D → List D → R (D × List D)} {m : R D} (g : Go X ec W) (F : FnOk X.prog X.w X.K X.mg X.base (L2.CX X.prog X.w) k f fd ps (spIOb X.K ec fm)) (hr : Room k X.A) (hm : X.mg x = some (.ref f)) (hk : PySem.W.keepIn X.K (.ref f) = true) (hb : Binds X.K fd ps [])
    (χ : List D → En) (ha : XP X W a en m) (hy : en[i]? = some (some (.o bb q (.l cn))) := by rfl) (hχ : ∀ o, en.set i (some (.o bb q (.l o))) = χ o := by intro _; rfl)
    (hN : X.N[i]? = some y := by rfl) (hv : Vis X.env.scope y := by first | exact Or.inl rfl | exact Or.inr (Or.inl rfl) | exact Or.inr (Or.inr rfl)) (hd : (y == ("__debug__" : Str)) = false := by decide) (hcd : (y == ("__classdict__" : Str)) = false := by decide)
    (hg : Gl X x := by rfl) (hdb : (x == ("__debug__" : Str)) = false := by decide) (h0 : starEach [a, .Name y py] X.env = (false, eval a X.env) :: starEach [.Name y py] X.env := by rfl) (h1 : starEach [.Name y py] X.env = (false, eval (.Name y py) X.env) :: starEach [] X.env := by rfl) (h2 : (backTo pos (starEach [.Name y py] X.env)).any (·.1) = false := by rfl) :
    XV X W [] (.Call (.Name x p) [a, .Name y py] [] pos) en (m.bnd fun d => fm d cn) χ := fun B σ G H S Q h => by
  refine pe_to (pe_callS F hr hg hm hk hb (fun σ => passAt g.tk σ) (pa_cons pe_w (pa_cons (pe_var hN hv hd hcd) pa_nil h1) h0) hdb h0 h2) ?_
  refine xp_run ha S wk0_nil (wp_mono (wp_bnd.mp h) (fun d hd u G1 H1 l1 S1 r1 => ?_) fun _ z => z)
  obtain ⟨e1, gq, us, hq, ru⟩ := st_at S1 hy
  refine ⟨.ref q, e1, G1, q, u, us, cn, d, S1.lk, rfl, gq, hq, ru, r1, wp_mono hd (fun o ho v us' G2 H2 w2 r2 h2 ru2 => ?_) fun c hc G2 H2 w2 => ⟨c, rfl, rfl, hc σ G2 H2 ?_⟩⟩
  · have S2 := S1.growX hy w2 h2 ru2
    rw [hχ] at S2
    exact ho v G2 H2 (l1.trans w2.g) S2 r2
  · have fr := S1.es.fr
    have hbq := (S1.es.own i bb q _ hy).1
    refine ⟨⟨w2.up, fr.le0.trans w2.g, fun a u n eu => ?_, fun a n => w2.there a (fr.there a n), fun a n mm => w2.cl a (fr.cl a n mm) (fr.there a mm)⟩, fun i dv e => by simp at e, fun i j b b' p c c' e => by simp at e, fun i b p c e => by simp at e⟩
    have na : a ≠ q := fun z => by
      subst z
      cases bb with
      | true => exact n hbq
      | false => rw [if_neg Bool.false_ne_true] at hbq; rw [hbq] at eu; cases eu
    exact w2.h a u na (fr.keep a u n eu)
end
end Wk
set_option maxHeartbeats 4000000
/-! Wk33: big literals behind Bx. -/
namespace Wk
open PySem PySem.Spec PyProof.Rows L2
section
variable {X : Cx} {W : WN} {en : En} {pos : Pos}
theorem xp_intB {i : Int} {j : Nat} : Bx (XP X W (.Constant (.int i) j pos) en (.ok (.int i))) := ⟨xp_int⟩
theorem xp_strB {i : Str} {j : Nat} : Bx (XP X W (.Constant (.str i) j pos) en (.ok (.str i))) := ⟨xp_str⟩
theorem xp_isB {e : Expr} {m m' : R D} (h : Bx (XP X W e en m)) (q : m = m') : XP X W e en m' := q ▸ h.of
theorem xa_nilB : Bx (XA X W [] en (.ok [])) := ⟨xa_nil⟩
theorem xp_tupB {es : List Expr} {j : Nat} {ms : R (List D)} (h : Bx (XA X W es en ms)) : Bx (XP X W (.Tuple es j pos) en (ms.bnd fun ds => R.of ((fits ds).map .tup))) := ⟨xp_tup h.of⟩
theorem xa_1B {a1 : Expr} {m1 : R D} (h1 : Bx (XP X W a1 en m1)) (e1 : starEach [a1] X.env = (false, eval a1 X.env) :: starEach [] X.env := by rfl) : Bx (XA X W [a1] en (m1.bnd fun x => .ok [x])) := ⟨xa_1 h1.of e1⟩
theorem xa_2B {a1 a2 : Expr} {m1 m2 : R D} (h1 : Bx (XP X W a1 en m1)) (h2 : Bx (XP X W a2 en m2)) (e1 : starEach [a1, a2] X.env = (false, eval a1 X.env) :: starEach [a2] X.env := by rfl) (e2 : starEach [a2] X.env = (false, eval a2 X.env) :: starEach [] X.env := by rfl) : Bx (XA X W [a1, a2] en (m1.bnd fun x => m2.bnd fun y => .ok [x, y])) := ⟨xa_2 h1.of h2.of e1 e2⟩
theorem xa_3B {a1 a2 a3 : Expr} {m1 m2 m3 : R D} (h1 : Bx (XP X W a1 en m1)) (h2 : Bx (XP X W a2 en m2)) (h3 : Bx (XP X W a3 en m3)) (e1 : starEach [a1, a2, a3] X.env = (false, eval a1 X.env) :: starEach [a2, a3] X.env := by rfl) (e2 : starEach [a2, a3] X.env = (false, eval a2 X.env) :: starEach [a3] X.env := by rfl) (e3 : starEach [a3] X.env = (false, eval a3 X.env) :: starEach [] X.env := by rfl) : Bx (XA X W [a1, a2, a3] en (m1.bnd fun x => m2.bnd fun y => m3.bnd fun z => .ok [x, y, z])) := ⟨xa_3 h1.of h2.of h3.of e1 e2 e3⟩
theorem xa_4B {a1 a2 a3 a4 : Expr} {m1 m2 m3 m4 : R D} (h1 : Bx (XP X W a1 en m1)) (h2 : Bx (XP X W a2 en m2)) (h3 : Bx (XP X W a3 en m3)) (h4 : Bx (XP X W a4 en m4)) (e1 : starEach [a1, a2, a3, a4] X.env = (false, eval a1 X.env) :: starEach [a2, a3, a4] X.env := by rfl) (e2 : starEach [a2, a3, a4] X.env = (false, eval a2 X.env) :: starEach [a3, a4] X.env := by rfl) (e3 : starEach [a3, a4] X.env = (false, eval a3 X.env) :: starEach [a4] X.env := by rfl) (e4 : starEach [a4] X.env = (false, eval a4 X.env) :: starEach [] X.env := by rfl) : Bx (XA X W [a1, a2, a3, a4] en (m1.bnd fun x => m2.bnd fun y => m3.bnd fun z => m4.bnd fun t => .ok [x, y, z, t])) := ⟨xa_4 h1.of h2.of h3.of h4.of e1 e2 e3 e4⟩
theorem xa_5B {a1 a2 a3 a4 a5 : Expr} {m1 m2 m3 m4 m5 : R D} (h1 : Bx (XP X W a1 en m1)) (h2 : Bx (XP X W a2 en m2)) (h3 : Bx (XP X W a3 en m3)) (h4 : Bx (XP X W a4 en m4)) (h5 : Bx (XP X W a5 en m5)) (e1 : starEach [a1, a2, a3, a4, a5] X.env = (false, eval a1 X.env) :: starEach [a2, a3, a4, a5] X.env := by rfl) (e2 : starEach [a2, a3, a4, a5] X.env = (false, eval a2 X.env) :: starEach [a3, a4, a5] X.env := by rfl) (e3 : starEach [a3, a4, a5] X.env = (false, eval a3 X.env) :: starEach [a4, a5] X.env := by rfl) (e4 : starEach [a4, a5] X.env = (false, eval a4 X.env) :: starEach [a5] X.env := by rfl) (e5 : starEach [a5] X.env = (false, eval a5 X.env) :: starEach [] X.env := by rfl) : Bx (XA X W [a1, a2, a3, a4, a5] en (m1.bnd fun x1 => m2.bnd fun x2 => m3.bnd fun x3 => m4.bnd fun x4 => m5.bnd fun x5 => .ok [x1, x2, x3, x4, x5])) := ⟨xa_5 h1.of h2.of h3.of h4.of h5.of e1 e2 e3 e4 e5⟩
theorem xa_6B {a1 a2 a3 a4 a5 a6 : Expr} {m1 m2 m3 m4 m5 m6 : R D} (h1 : Bx (XP X W a1 en m1)) (h2 : Bx (XP X W a2 en m2)) (h3 : Bx (XP X W a3 en m3)) (h4 : Bx (XP X W a4 en m4)) (h5 : Bx (XP X W a5 en m5)) (h6 : Bx (XP X W a6 en m6)) (e1 : starEach [a1, a2, a3, a4, a5, a6] X.env = (false, eval a1 X.env) :: starEach [a2, a3, a4, a5, a6] X.env := by rfl) (e2 : starEach [a2, a3, a4, a5, a6] X.env = (false, eval a2 X.env) :: starEach [a3, a4, a5, a6] X.env := by rfl) (e3 : starEach [a3, a4, a5, a6] X.env = (false, eval a3 X.env) :: starEach [a4, a5, a6] X.env := by rfl) (e4 : starEach [a4, a5, a6] X.env = (false, eval a4 X.env) :: starEach [a5, a6] X.env := by rfl) (e5 : starEach [a5, a6] X.env = (false, eval a5 X.env) :: starEach [a6] X.env := by rfl) (e6 : starEach [a6] X.env = (false, eval a6 X.env) :: starEach [] X.env := by rfl) : Bx (XA X W [a1, a2, a3, a4, a5, a6] en (m1.bnd fun x1 => m2.bnd fun x2 => m3.bnd fun x3 => m4.bnd fun x4 => m5.bnd fun x5 => m6.bnd fun x6 => .ok [x1, x2, x3, x4, x5, x6])) := ⟨xa_6 h1.of h2.of h3.of h4.of h5.of h6.of e1 e2 e3 e4 e5 e6⟩
theorem xa_7B {a1 a2 a3 a4 a5 a6 a7 : Expr} {m1 m2 m3 m4 m5 m6 m7 : R D} (h1 : Bx (XP X W a1 en m1)) (h2 : Bx (XP X W a2 en m2)) (h3 : Bx (XP X W a3 en m3)) (h4 : Bx (XP X W a4 en m4)) (h5 : Bx (XP X W a5 en m5)) (h6 : Bx (XP X W a6 en m6)) (h7 : Bx (XP X W a7 en m7)) (e1 : starEach [a1, a2, a3, a4, a5, a6, a7] X.env = (false, eval a1 X.env) :: starEach [a2, a3, a4, a5, a6, a7] X.env := by rfl) (e2 : starEach [a2, a3, a4, a5, a6, a7] X.env = (false, eval a2 X.env) :: starEach [a3, a4, a5, a6, a7] X.env := by rfl) (e3 : starEach [a3, a4, a5, a6, a7] X.env = (false, eval a3 X.env) :: starEach [a4, a5, a6, a7] X.env := by rfl) (e4 : starEach [a4, a5, a6, a7] X.env = (false, eval a4 X.env) :: starEach [a5, a6, a7] X.env := by rfl) (e5 : starEach [a5, a6, a7] X.env = (false, eval a5 X.env) :: starEach [a6, a7] X.env := by rfl) (e6 : starEach [a6, a7] X.env = (false, eval a6 X.env) :: starEach [a7] X.env := by rfl) (e7 : starEach [a7] X.env = (false, eval a7 X.env) :: starEach [] X.env := by rfl) : Bx (XA X W [a1, a2, a3, a4, a5, a6, a7] en (m1.bnd fun x1 => m2.bnd fun x2 => m3.bnd fun x3 => m4.bnd fun x4 => m5.bnd fun x5 => m6.bnd fun x6 => m7.bnd fun x7 => .ok [x1, x2, x3, x4, x5, x6, x7])) := ⟨xa_7 h1.of h2.of h3.of h4.of h5.of h6.of h7.of e1 e2 e3 e4 e5 e6 e7⟩
theorem xa_8B {a1 a2 a3 a4 a5 a6 a7 a8 : Expr} {m1 m2 m3 m4 m5 m6 m7 m8 : R D} (h1 : Bx (XP X W a1 en m1)) (h2 : Bx (XP X W a2 en m2)) (h3 : Bx (XP X W a3 en m3)) (h4 : Bx (XP X W a4 en m4)) (h5 : Bx (XP X W a5 en m5)) (h6 : Bx (XP X W a6 en m6)) (h7 : Bx (XP X W a7 en m7)) (h8 : Bx (XP X W a8 en m8)) (e1 : starEach [a1, a2, a3, a4, a5, a6, a7, a8] X.env = (false, eval a1 X.env) :: starEach [a2, a3, a4, a5, a6, a7, a8] X.env := by rfl) (e2 : starEach [a2, a3, a4, a5, a6, a7, a8] X.env = (false, eval a2 X.env) :: starEach [a3, a4, a5, a6, a7, a8] X.env := by rfl) (e3 : starEach [a3, a4, a5, a6, a7, a8] X.env = (false, eval a3 X.env) :: starEach [a4, a5, a6, a7, a8] X.env := by rfl) (e4 : starEach [a4, a5, a6, a7, a8] X.env = (false, eval a4 X.env) :: starEach [a5, a6, a7, a8] X.env := by rfl) (e5 : starEach [a5, a6, a7, a8] X.env = (false, eval a5 X.env) :: starEach [a6, a7, a8] X.env := by rfl) (e6 : starEach [a6, a7, a8] X.env = (false, eval a6 X.env) :: starEach [a7, a8] X.env := by rfl) (e7 : starEach [a7, a8] X.env = (false, eval a7 X.env) :: starEach [a8] X.env := by rfl) (e8 : starEach [a8] X.env = (false, eval a8 X.env) :: starEach [] X.env := by rfl) : Bx (XA X W [a1, a2, a3, a4, a5, a6, a7, a8] en (m1.bnd fun x1 => m2.bnd fun x2 => m3.bnd fun x3 => m4.bnd fun x4 => m5.bnd fun x5 => m6.bnd fun x6 => m7.bnd fun x7 => m8.bnd fun x8 => .ok [x1, x2, x3, x4, x5, x6, x7, x8])) := ⟨xa_8 h1.of h2.of h3.of h4.of h5.of h6.of h7.of h8.of e1 e2 e3 e4 e5 e6 e7 e8⟩
end
end Wk
set_option maxHeartbeats 4000000
/-! Wk34: comprehensions over what changes. -/
namespace Wk
open PySem PySem.Spec PyProof.Rows L2
section
variable {X : Cx} {W : WN} {eE : En} {en : En} {ec : Nat → Addr} {pos : Pos} {γ δ : Type} {φ : γ → En} {ψ : δ → En}
theorem xnv_lcV {i : Nat} {x : Str} {p : Pos} {it elt : Expr} {scope : Scope} {mi : R (List D × δ)} {me : γ → D → R (D × γ)} (g : Go X ec W) (hi : XIV X W eE (.Name x p) it en mi ψ) (f0 : δ → γ) (he : ∀ c d, BV X scope elt ((φ c).set i (some (.v d))) (me c d) (fun c' => (φ c').set i (some (.v d)))) (h0 : ∀ c, ψ c = φ (f0 c) := by intro _; rfl) (hblk : BlkOk X.N X.env.scope scope [(x, i)]) (hc : ∀ c, clr (φ c) [i] = true := by intro _; rfl)
    (hN : X.N[i]? = some x := by rfl) (hx : ∀ (s : Shared) (H0 : Hp) (C : Addr) (cl : List (Str × Addr)) (fp : List Addr), Loc (X.blk s H0 scope (compEnvC scope cl C X.env) fp).env.scope x := by intros; first | exact Or.inl rfl | exact Or.inr rfl)
    (hf : ∀ (s : Shared) (H0 : Hp) (C : Addr) (cl : List (Str × Addr)) (fp : List Addr), (X.blk s H0 scope (compEnvC scope cl C X.env) fp).fn x = true ∨ (X.blk s H0 scope (compEnvC scope cl C X.env) fp).env.scope.names.lookup x = some .local := by intros; first | exact .inl rfl | exact .inr rfl)
    (hs : ∀ x, foldedSetIterable it X.env x = pure x := by intro _; rfl) : XNV X W eE (.ListComp elt [⟨.Name x p, it, [], 0⟩] scope pos) en (mi.bnd2 fun ds c => lcVR me (f0 c) ds) φ := fun B σ G H S Q q => by
  refine pe_to (pe_lc (own := [(x, i)]) g.calm g.nd pi_w hblk (fun s H0 C cl fp => pg_name g.nd hN (hx s H0 C cl fp) (hf s H0 C cl fp)) (fun _ _ _ _ _ => pts_nil) pe_wb hs) ?_
  refine hi B σ G H S _ (wp_mono (wp_bnd.mp q) (fun r0 hd J G1 H1 l0 S1 wk => ?_) fun _ z => z)
  obtain ⟨ds, cc⟩ := r0
  have hd : Post X W eE B (lcVR me (f0 cc) ds) _ := hd
  rw [h0] at S1
  generalize f0 cc = c0 at *
  unfold lcVR at hd
  by_cases hln : ds.length ≤ 16000000
  · rw [if_pos hln] at hd
    intro D hD
    have hB := S1.h0 hD
    have hno := S1.noOwn hD
    refine ⟨fun i' m H' => m = ds.length - i' ∧ i' ≤ ds.length ∧ ∃ G' acc dn c, Le G1 G' ∧ St8 X.K B (φ c) σ G' H' ∧ H' D = some (.lst acc) ∧ G' D = none ∧ NoOwn (φ c) D ∧ RpAll X.K G' acc dn ∧ acc.length ≤ i' ∧ Post X W eE B (lcV me c (ds.drop i')) (fun r => ∀ p vs G2 H2, Le G G2 → St8 X.K B (φ r.2) σ G2 H2 → B.H0 p = none → NoOwn (φ r.2) p → G2 p = none → H2 p = some (.lst vs) → RpAll X.K G2 vs (dn ++ r.1) → Q (.ref p) H2),
      ⟨_, rfl, Nat.zero_le _, G1, [], [], c0, Le.refl _, ?_, upd_same, S1.lk.kn D hD, ?_, .nil, Nat.le_refl _, hd⟩, ?_⟩
    · exact S1.grow (Grow.own S1.lk hD)
    · exact hno
    · rintro i' m H' ⟨rfl, hi', G', acc, dn, c, l1, S', hA, gA, no, rA, lA, p⟩
      by_cases hlt : i' < ds.length
      · rw [List.drop_eq_getElem_cons hlt] at p
        obtain ⟨go, yl⟩ := wk.go i' ds[i'] (List.getElem?_eq_getElem hlt) G' H' l1 S'.lk
        refine .inr ⟨go, fun H3 => ∃ G3 acc dn c, Le G1 G3 ∧ St8 X.K B (φ c) σ G3 H3 ∧ H3 D = some (.lst acc) ∧ G3 D = none ∧ NoOwn (φ c) D ∧ RpAll X.K G3 acc dn ∧ acc.length ≤ i' + 1 ∧ Post X W eE B (lcV me c (ds.drop (i' + 1))) (fun r => ∀ p vs G2 H2, Le G G2 → St8 X.K B (φ r.2) σ G2 H2 → B.H0 p = none → NoOwn (φ r.2) p → G2 p = none → H2 p = some (.lst vs) → RpAll X.K G2 vs (dn ++ r.1) → Q (.ref p) H2),
          fun H3 ⟨G3, acc, dn, c, h⟩ => ⟨ds.length - (i' + 1), by omega, rfl, hlt, G3, acc, dn, c, h⟩, fun xv H4 y => ?_⟩
        obtain ⟨G4, w4, r4⟩ := yl xv H4 y
        have hA4 : H4 D = some (.lst acc) := w4.h _ _ hA
        have gA4 : G4 D = none := w4.cl D gA (by rw [hA]; intro z; cases z)
        have S6 := ((S'.grow w4).wipe (hc c)).set (i := i) r4
        refine ⟨wipe_set_self, ?_⟩
        show wEb X scope elt _ H4 _
        intro s0 H0' C cl fp
        refine he c ds[i'] s0 H0' C cl fp (B.with_ G4 D (.lst acc)) _ G4 H4 (S6.with_ hA4 gA4 (NoOwn.set no)) _ (wp_mono (wp_noE (wp_bnd.mp p)) (fun r hr v G7 H7 l7 S7 r7 => ?_) fun _ z => z.elim)
        obtain ⟨S8, no8, hA7⟩ := S7.unwith (S'.es.fr.grow w4) hB
        have gA7 : G7 D = none := S7.es.fr.cl D gA4 (by show upd B.H0 D _ D ≠ none; rw [upd_same]; intro z; cases z)
        have S9 : St8 X.K B (φ r.2) σ G7 H7 := by
          have z := (S8.unset (hc r.2)).wipe (hc r.2)
          rw [wipe_set_self] at z
          exact z.unwipe
        have no9 : NoOwn (φ r.2) D := fun j b c e => by
          refine no8 j b c ?_
          have nj : i ≠ j := fun z => by
            subst z
            rw [clr_at (hc r.2) (List.mem_singleton.mpr rfl)] at e; cases e
          show ((φ r.2).set i (some (.v ds[i'])))[j]? = _
          rw [List.getElem?_set_ne nj]
          exact e
        refine ⟨acc, hA7, Nat.lt_of_le_of_lt lA (Nat.lt_of_lt_of_le hlt (size_ok hln)), G7, acc ++ [v], dn ++ [r.1], r.2, l1.trans (w4.g.trans l7), S9.mutD hB no9 gA7 (fun _ _ _ z => by rw [hA7] at z; cases z), upd_same, gA7, no9, (rA.up (w4.g.trans l7)).app (.cons r7 .nil), by rw [List.length_append]; show _ + 1 ≤ _; omega, ?_⟩
        refine wp_mono (wp_bnd.mp hr) (fun s hs p vs G2 H2 a1 a2 a3 a4 a5 a6 a7 => hs p vs G2 H2 a1 a2 a3 a4 a5 a6 ?_) fun _ z => z
        show RpAll X.K G2 vs (dn ++ (r.1 :: s.1))
        have e : dn ++ (r.1 :: s.1) = dn ++ [r.1] ++ s.1 := by simp
        rw [e]; exact a7
      · have ei : i' = ds.length := by omega
        subst ei
        rw [List.drop_length] at p
        have p : ∀ p vs G2 H2, Le G G2 → St8 X.K B (φ c) σ G2 H2 → B.H0 p = none → NoOwn (φ c) p → G2 p = none → H2 p = some (.lst vs) → RpAll X.K G2 vs (dn ++ []) → Q (.ref p) H2 := p
        exact .inl ⟨wk.stop G' H' l1 S'.lk, p D acc G' H' (l0.trans l1) S' hB no gA hA (by rw [List.append_nil]; exact rA)⟩
  · rw [if_neg hln] at hd
    exact hd.elim
end
end Wk
set_option maxHeartbeats 4000000
/-! Wk35: how many unlike ints a list holds, len(set(xs)). -/
namespace Wk
open PySem PySem.Spec PyProof.Rows L2
/-- how many unlike ones -/
def cntI (ns : List Int) : Nat := (firstMet (fun i => ns.getD i 0) ns.length).length
def D.lenSet : D → Option D
  | .lst xs => (intsD xs).bind fun ns => if ns.length ≤ 4000 then some (.int (cntI ns : Nat)) else none
  | _ => none
def rLenSet (K : PySem.W.Frag) (x : V) (H : Hp) (Q : VK) : Prop := ∃ (l : Addr) (ns : List Int), x = .ref l ∧ SqL K H l (ns.map V.int) ∧ ns.length ≤ 4000 ∧ Q (.int (cntI ns : Nat)) H
theorem cntI_le (ns : List Int) : cntI ns ≤ ns.length := by
  have key : ∀ i, (firstMet (fun i => ns.getD i 0) i).length ≤ i := fun i => by
    induction i with
    | zero => exact Nat.le_refl _
    | succ i ih =>
      rw [firstMet_succ]
      unfold step_dedup
      split
      · omega
      · rw [List.length_append, List.length_singleton]; omega
  exact key _
section
variable {X : Cx} {W : WN} {eE : En} {en : En} {ec : Nat → Addr}
theorem pe_lenSet {a : Expr} {ta : TE} {p p2 q pos : Pos} (hc : X.calm = true) (hg : Gl X "len") (hm : X.mg "len" = none) (hg2 : Gl X "set") (hm2 : X.mg "set" = none) (ha : PE X a ta)
    (na : starEach [a] X.env = (false, eval a X.env) :: starEach [] X.env := by rfl) : PE X (.Call (.Name "len" p) [.Call (.Name "set" p2) [a] [] q] [] pos) (fun σ H Q => ta σ H fun x H1 => rLenSet X.K x H1 Q) := by
  refine ⟨fun pins s σ H Q I h => ?_⟩
  refine Call_ (ld_blt I hg hm PySem.boot_len ?_)
  refine PyProof.Rows.callWith_builtin1 (PyProof.Rows.args_cons ?_ rfl) rfl rfl
  refine Call_ (ld_blt I hg2 hm2 PyProof.Rows.boot_set ?_)
  refine PyProof.Rows.callWith_type1 (PyProof.Rows.args_cons (thn (ha.run pins s σ H _ I h) fun v s1 ⟨x, H1, I1, r1, q1⟩ => PyProof.Rows.args_nil ?_) na) na rfl
  obtain ⟨l, ns, rfl, hq, hl, q1⟩ := q1
  cases r1
  obtain ⟨its, r, pl, hz⟩ := I1.list hq
  have hlen : its.toArray.size = ns.length := by rw [List.size_toArray, ← r.length, List.length_map]
  refine call_set_list (I1.ok.hd hc) pl.isList (ns := ns) (by simpa using RZ.intsAre_vals r) (by rw [hlen]; unfold scanBound; omega) fun h' tk hS hk => ?_
  refine PyProof.Rows.args_nil ?_
  rw [hlen] at hS
  have hb := cntI_le ns
  unfold cntI at hb q1
  generalize firstMet (fun i => ns.getD i 0) ns.length = fm at hS hb q1
  obtain ⟨o, es, ep, t, ho, hex, hd, _, _, _, hf, hn⟩ := hS
  have I2 : Inv X pins σ H1 { s1 with heap := h', toks := tk } := I1.kept fun b o e => hk b o (Heap.lt_size e) e
  exact call_len_set ho hex hd hf (by rw [hn] <;> omega) ⟨.int (fm.length : Nat), H1, I2.tok _, ⟨_, by rw [hn]⟩, q1⟩
theorem xp_lenSet {a : Expr} {m : R D} {p p2 q pos : Pos} (g : Go X ec W) (h : XP X W a en m) (hm : X.mg "len" = none) (hm2 : X.mg "set" = none) (hg : Gl X "len" := by rfl) (hg2 : Gl X "set" := by rfl) (na : starEach [a] X.env = (false, eval a X.env) :: starEach [] X.env := by rfl) :
    XP X W (.Call (.Name "len" p) [.Call (.Name "set" p2) [a] [] q] [] pos) en (m.bnd fun d => R.of (D.lenSet d)) := fun σ G H S Q k => by
  refine pe_to (pe_lenSet g.calm hg hm hg2 hm2 pe_w na) (h σ G H S _ (wp_mono (wp_bnd.mp k) (fun d hd v G1 H1 w1 r1 => ?_) fun _ z => z))
  obtain ⟨d', e, hd⟩ := wp_of hd
  cases d with
  | lst xs =>
    obtain ⟨ns, e1, e2⟩ := Option.bind_eq_some_iff.mp (show (intsD xs).bind _ = some d' from e)
    split at e2
    · rename_i hl
      cases e2
      cases r1 with
      | lst h1 r1 =>
        have := ints_rp e1 r1
        subst this
        exact ⟨_, ns, rfl, .inl (w1.up.le _ _ rfl h1), hl, keepQ w1.up (fun v G3 H3 w3 r3 => hd v G3 H3 (w1.trans w3) r3) (.int _)⟩
    · cases e2
  | _ => cases e
end
theorem cnt_ge {ns : List Int} : ∀ i, i ≤ ns.length → ((firstMet (fun i => ns.getD i 0) i).length = i ↔ (ns.take i).Nodup) ∧ ∀ x, x ∈ firstMet (fun i => ns.getD i 0) i ↔ x ∈ ns.take i := fun i => by
  induction i with
  | zero => intro _; exact ⟨⟨fun _ => List.nodup_nil, fun _ => rfl⟩, fun x => by rw [List.take_zero]; exact Iff.rfl⟩
  | succ i ih =>
    intro hi
    obtain ⟨h1, h2⟩ := ih (by omega)
    have hl : (firstMet (fun i => ns.getD i 0) i).length ≤ i := by
      have key : ∀ i, (firstMet (fun i => ns.getD i 0) i).length ≤ i := fun i => by
        induction i with
        | zero => exact Nat.le_refl _
        | succ i ih =>
          rw [firstMet_succ]
          unfold step_dedup
          split
          · omega
          · rw [List.length_append, List.length_singleton]; omega
      exact key i
    have et : ns.take (i + 1) = ns.take i ++ [ns.getD i 0] := by
      rw [List.take_add_one, List.getElem?_eq_getElem (by omega), List.getD_eq_getElem?_getD, List.getElem?_eq_getElem (by omega)]
      rfl
    rw [firstMet_succ, et]
    unfold step_dedup
    by_cases c : (firstMet (fun i => ns.getD i 0) i).any (· == ns.getD i 0) = true
    · rw [if_pos c]
      have hm : ns.getD i 0 ∈ ns.take i := by
        obtain ⟨y, hy, e⟩ := List.any_eq_true.mp c
        have : y = ns.getD i 0 := eq_of_beq e
        rw [← this]
        exact (h2 y).mp hy
      refine ⟨⟨fun e => by omega, fun nd => ?_⟩, fun x => ?_⟩
      · have := (List.nodup_append.mp nd).2.2 _ hm _ (List.mem_singleton.mpr rfl)
        exact absurd rfl this
      · rw [h2, List.mem_append, List.mem_singleton]
        exact ⟨.inl, fun h => h.elim id fun e => e ▸ hm⟩
    · rw [if_neg c]
      have hm : ns.getD i 0 ∉ ns.take i := fun h => c (List.any_eq_true.mpr ⟨_, (h2 _).mpr h, beq_self_eq_true _⟩)
      refine ⟨?_, fun x => ?_⟩
      · rw [List.length_append, List.nodup_append]
        constructor
        · intro e
          refine ⟨h1.mp (by simpa using e), by simp, fun a ha b hb => ?_⟩
          rw [List.mem_singleton] at hb
          subst hb
          exact fun e => hm (e ▸ ha)
        · intro nd
          have := h1.mpr nd.1
          simpa using this
      · rw [List.mem_append, h2, List.mem_append]
/-- as many unlike ones as there are: none is there twice -/
theorem cntI_nodup (ns : List Int) : cntI ns = ns.length ↔ ns.Nodup := by
  have := (cnt_ge (ns := ns) ns.length (Nat.le_refl _)).1
  rwa [List.take_length] at this
end Wk
set_option maxHeartbeats 4000000
/-! Wk36: the least and the greatest of a row of ints, list or tuple. -/
namespace Wk
open PySem PySem.Spec PyProof.Rows L2
def minF : List Int → Int
  | [] => 0
  | n :: ns => ns.foldl min n
def maxF : List Int → Int
  | [] => 0
  | n :: ns => ns.foldl max n
theorem minF_is : ∀ {ns : List Int}, ns ≠ [] → minF ns ∈ ns ∧ ∀ y ∈ ns, minF ns ≤ y
  | [], h => absurd rfl h
  | n :: ns, _ => by
    have key : ∀ (ns : List Int) (n : Int), (ns.foldl min n = n ∨ ns.foldl min n ∈ ns) ∧ ns.foldl min n ≤ n ∧ ∀ y ∈ ns, ns.foldl min n ≤ y := fun ns => by
      induction ns with
      | nil => intro n; exact ⟨.inl rfl, Int.le_refl _, fun y hy => by cases hy⟩
      | cons x ns ih =>
        intro n
        obtain ⟨h1, h2, h3⟩ := ih (min n x)
        rw [List.foldl_cons]
        refine ⟨?_, by omega, fun y hy => ?_⟩
        · rcases h1 with h1 | h1
          · rw [h1]
            rcases (show min n x = n ∨ min n x = x by omega) with e | e
            · exact .inl e
            · rw [e]; exact .inr List.mem_cons_self
          · exact .inr (List.mem_cons_of_mem _ h1)
        · rcases List.mem_cons.mp hy with rfl | hy
          · omega
          · exact h3 y hy
    obtain ⟨h1, h2, h3⟩ := key ns n
    refine ⟨?_, fun y hy => ?_⟩
    · rcases h1 with h1 | h1
      · show ns.foldl min n ∈ _; rw [h1]; exact List.mem_cons_self
      · exact List.mem_cons_of_mem _ h1
    · rcases List.mem_cons.mp hy with rfl | hy
      · exact h2
      · exact h3 y hy
theorem maxF_is : ∀ {ns : List Int}, ns ≠ [] → maxF ns ∈ ns ∧ ∀ y ∈ ns, y ≤ maxF ns
  | [], h => absurd rfl h
  | n :: ns, _ => by
    have key : ∀ (ns : List Int) (n : Int), (ns.foldl max n = n ∨ ns.foldl max n ∈ ns) ∧ n ≤ ns.foldl max n ∧ ∀ y ∈ ns, y ≤ ns.foldl max n := fun ns => by
      induction ns with
      | nil => intro n; exact ⟨.inl rfl, Int.le_refl _, fun y hy => by cases hy⟩
      | cons x ns ih =>
        intro n
        obtain ⟨h1, h2, h3⟩ := ih (max n x)
        rw [List.foldl_cons]
        refine ⟨?_, by omega, fun y hy => ?_⟩
        · rcases h1 with h1 | h1
          · rw [h1]
            rcases (show max n x = n ∨ max n x = x by omega) with e | e
            · exact .inl e
            · rw [e]; exact .inr List.mem_cons_self
          · exact .inr (List.mem_cons_of_mem _ h1)
        · rcases List.mem_cons.mp hy with rfl | hy
          · omega
          · exact h3 y hy
    obtain ⟨h1, h2, h3⟩ := key ns n
    refine ⟨?_, fun y hy => ?_⟩
    · rcases h1 with h1 | h1
      · show ns.foldl max n ∈ _; rw [h1]; exact List.mem_cons_self
      · exact List.mem_cons_of_mem _ h1
    · rcases List.mem_cons.mp hy with rfl | hy
      · exact h2
      · exact h3 y hy
def D.minT : List D → Option D
  | [.tup xs] => (intsD xs).bind fun ns => if ns = [] then none else some (.int (minF ns))
  | _ => none
def D.maxT : List D → Option D
  | [.tup xs] => (intsD xs).bind fun ns => if ns = [] then none else some (.int (maxF ns))
  | _ => none
def rMinT (K : PySem.W.Frag) : List V → Hp → VK → Prop := fun vs H Q => ∃ (a : Addr) (n : Int) (ns : List Int), vs = [.ref a] ∧ SqT K H a ((n :: ns).map V.int) ∧ Q (.int (ns.foldl min n)) H
def rMaxT (K : PySem.W.Frag) : List V → Hp → VK → Prop := fun vs H Q => ∃ (a : Addr) (n : Int) (ns : List Int), vs = [.ref a] ∧ SqT K H a ((n :: ns).map V.int) ∧ Q (.int (ns.foldl max n)) H
theorem rd_ints (h : Heap) : ∀ {vs : List Value} {xs : List Int}, IntsAre vs xs → ReadsAll h vs (xs.map PyData.int) []
  | _, _, .nil => .nil
  | _, _, .cons n t r => .cons (as := []) (bs := []) (.int n t) (rd_ints h r)
theorem alike_ints (xs : List Int) : PySem.W.AlikeAll (xs.map PyData.int) := by
  refine ⟨fun x hx y hy => ?_, fun x hx => ?_⟩
  · obtain ⟨a, _, rfl⟩ := List.mem_map.mp hx
    obtain ⟨b, _, rfl⟩ := List.mem_map.mp hy
    rfl
  · obtain ⟨a, _, rfl⟩ := List.mem_map.mp hx
    intro e; cases e
theorem depth_ints : ∀ xs : List Int, PyData.depthAll (xs.map PyData.int) ≤ 1
  | [] => by simp [PyData.depthAll]
  | x :: xs => by
    have := depth_ints xs
    simp only [List.map_cons, PyData.depthAll, PyData.depth]
    omega
section
variable {X : Cx}
theorem call_minT (hc : X.calm = true) (hu : X.A.units + 64 < cLine) : CallR X (.builtin "min") (rMinT X.K) := by
  intro pins s σ H vs us Q I r h
  obtain ⟨a, n, ns, rfl, hs, q⟩ := h
  obtain ⟨its, rv, hl, _⟩ := I.tuple hs
  rw [Vals.ref1 r]
  have hi := rd_ints s.heap rv.ints
  have hd := depth_ints (n :: ns)
  refine PySem.W.min_tuple_data (I.ok.hd hc) hl (x := .int n) (xs := ns.map .int) (as := []) (by simpa using hi) (alike_ints (n :: ns)) (by rw [List.map_cons] at hd; omega) fun i v h' tk bs hv rd hk => ?_
  rw [PySem.W.minD_ints] at rd
  cases rd
  exact ⟨.int _, H, I.kept hk, ⟨_, rfl⟩, q⟩
theorem call_maxT (hc : X.calm = true) (hu : X.A.units + 64 < cLine) : CallR X (.builtin "max") (rMaxT X.K) := by
  intro pins s σ H vs us Q I r h
  obtain ⟨a, n, ns, rfl, hs, q⟩ := h
  obtain ⟨its, rv, hl, _⟩ := I.tuple hs
  rw [Vals.ref1 r]
  have hi := rd_ints s.heap rv.ints
  have hd := depth_ints (n :: ns)
  refine PySem.W.max_tuple_data (I.ok.hd hc) hl (x := .int n) (xs := ns.map .int) (as := []) (by simpa using hi) (alike_ints (n :: ns)) (by rw [List.map_cons] at hd; omega) fun i v h' tk bs hv rd hk => ?_
  rw [PySem.W.maxD_ints] at rd
  cases rd
  exact ⟨.int _, H, I.kept hk, ⟨_, rfl⟩, q⟩
end
theorem d_minT {K : PySem.W.Frag} : CallD K (rMinT K) D.minT := fun G H xs ds d l r e Q q => by
  unfold D.minT at e
  split at e
  · obtain ⟨ns, e1, e2⟩ := Option.bind_eq_some_iff.mp e
    split at e2
    · cases e2
    · rename_i hn
      cases e2
      cases r with
      | cons a b =>
        cases b
        cases a with
        | tup h1 r1 =>
          have := ints_rp e1 r1
          subst this
          cases ns with
          | nil => exact absurd rfl hn
          | cons n ns => exact ⟨_, n, ns, rfl, l.le.seqT h1, keepQ l q (.int _)⟩
  · cases e
theorem d_maxT {K : PySem.W.Frag} : CallD K (rMaxT K) D.maxT := fun G H xs ds d l r e Q q => by
  unfold D.maxT at e
  split at e
  · obtain ⟨ns, e1, e2⟩ := Option.bind_eq_some_iff.mp e
    split at e2
    · cases e2
    · rename_i hn
      cases e2
      cases r with
      | cons a b =>
        cases b
        cases a with
        | tup h1 r1 =>
          have := ints_rp e1 r1
          subst this
          cases ns with
          | nil => exact absurd rfl hn
          | cons n ns => exact ⟨_, n, ns, rfl, l.le.seqT h1, keepQ l q (.int _)⟩
  · cases e
end Wk
set_option maxHeartbeats 4000000
/-! Wk37: tuple(reversed(range(..))). -/
namespace Wk
open PySem PySem.Spec PyProof.Rows L2
theorem nolen_rit : typeLookup (.type "range_iterator") "__len__" = pure none := by rw [typeLookup_type, builtinLookup_eq_fast]; kernel_rfl
theorem hint_rit : typeLookup (.type "range_iterator") "__length_hint__" = pure (some (.builtin "range_iterator.__length_hint__")) := by rw [typeLookup_type, builtinLookup_eq_fast]; kernel_rfl
theorem slot_rit_hint : Slot "range_iterator" "__length_hint__" "range_iterator.__length_hint__" :=
  .of (owner := "range_iterator") (n := "__length_hint__") (by rw [typeLookup_type, builtinLookup_eq_fast]; kernel_rfl) (by decide +kernel) (by decide +kernel) (by decide +kernel)
    (by first | exact .inl (by decide +kernel) | exact .inr (by decide +kernel)) (by rw [isSubtype_type]; kernel_rfl)
theorem entry_rit_hint : entryFor table "range_iterator.__length_hint__" = some Builtin.«range_iterator.__length_hint__» := entryFor_of_tree (by kernel_rfl)
section
variable {prog : Program} {w : World} {A : Around} {E : Value → Shared → Prop} {s : Shared}
theorem call_rit_hint {it : Addr} {x left step : Int} {Q : Value → Shared → Prop} (hit : IsRangeIter s.heap it x left step) (h : Q (.int left s.toks) { s with toks := s.toks + 1 }) :
    wpAny (model prog w) A (call (.builtin "range_iterator.__length_hint__") [.ref it]) Q E s := by
  have hT : s.TypeIs (.ref it) "range_iterator" := ⟨_, hit, rfl⟩
  refine wpAny_call_entry slot_rit_hint hT entry_rit_hint ?_ (F.args_range_iterator_length_hint_1 _)
  unfold Builtin.«range_iterator.__length_hint__»
  refine wpAny_bind (wpAny_of_eq (a := Value.ref it) (by rfl) ?_)
  refine wpAny_bind (wpAny_field hit rfl (i := 1) rfl ?_)
  show wpAny _ _ (mkInt left >>= fun v => ret v) _ _ s
  exact wpAny_bind (wpAny_mkInt (wpAny_pure ⟨_, rfl, h⟩))
theorem collect_rit {it : Addr} {a c : Int} {n : Nat} {Q : List Value → Shared → Prop} (hh : A.handled = none) (hit : IsRangeIter s.heap it a n c) (hn : n ≤ sizeLine)
    (hQ : ∀ (h' : Heap) (tk : Nat) (acc : Array Value), (∀ b o, b ≠ it → s.heap.get? b = some o → h'.get? b = some o) → ItemsOf (fun i v => ∃ t, v = .int (a + i * c) t) acc n → Q acc.toList { s with heap := h', toks := tk }) :
    wpAny (model prog w) A (collect (.ref it)) Q E s := by
  have W := (Walks.range (prog := prog) (w := w) (A := A.in1) hh it a c n).toS
  have hSi : s.heap.objs.size ≠ it := Nat.ne_of_gt (Heap.lt_size hit)
  have hSf : s.heap.objs.size ∉ [it] := by simp only [List.mem_cons, List.not_mem_nil, or_false]; exact hSi
  unfold collect
  refine wpAny_bind (wpAny_runValue (codeAny_builtin F.entry_proto_collect ?_))
  rw [Around.under_plainId F.plain_proto_collect _]
  show wpAny _ A.in1 (newList [] >>= fun l' => again (.builtin "list.__iadd__" ⟨[l', .ref it], []⟩)) _ _ s
  refine wpAny_bind (wpAny_newObj_type ?_)
  refine wpAny_pure ⟨plainId_quiet F.plain_list_iadd _, codeAny_builtin F.entry_list_iadd ?_⟩
  rw [Around.under_plainId F.plain_list_iadd _]
  have hS₁ : (s.heap.push { cls := .type "list", data := .seq ([] : List Value).toArray }).get? s.heap.objs.size = some { cls := .type "list", data := .seq ([] : List Value).toArray } := Heap.get?_push_size _ rfl
  have hit1 : IsRangeIter (s.heap.push { cls := .type "list", data := .seq ([] : List Value).toArray }) it a n c := Heap.get?_push_of_some _ hit
  have hT : ({ s with heap := s.heap.push { cls := .type "list", data := .seq ([] : List Value).toArray } } : Shared).TypeIs (.ref it) "range_iterator" := ⟨_, hit1, rfl⟩
  have h1 : Builtin.List.listSameRef (.ref s.heap.objs.size) (.ref it) = false := by simp [Builtin.List.listSameRef, hSi]
  show wpAny _ A.in1 (Builtin.List.listExtendWith (.ref s.heap.objs.size) (.ref it) (.ref s.heap.objs.size)) _ _ _
  unfold Builtin.List.listExtendWith
  refine wpAny_bind (wpAny_typeOf hT ?_)
  rw [if_neg (by rw [h1]; decide)]
  refine wpAny_bind (wpAny_pyIter_rangeiter (s := { s with heap := s.heap.push { cls := .type "list", data := .seq ([] : List Value).toArray } }) hit1 ?_)
  refine wpAny_bind (wpAny_holding ?_)
  unfold Builtin.List.listLengthHint
  refine wpAny_bind (wpAny_specialOf hT nolen_rit ?_)
  show wpAny _ A.in1 (specialOf (Value.ref it) (Str.ofString "__length_hint__") >>= _) _ _ _
  refine wpAny_bind (wpAny_specialOf hT hint_rit ?_)
  generalize hid : ("range_iterator.__length_hint__" : String) = id0
  wp_delta
  rw [show splitId id0 = some ("range_iterator", "__length_hint__") from by subst hid; decide +kernel]
  subst hid
  refine wpAny_bind (wpAny_isInstance (b := true) hT (by rw [isSubtype_type]; kernel_rfl) ?_)
  show wpAny _ A.in1 (call (.builtin "range_iterator.__length_hint__") [.ref it] >>= _) _ _ _
  refine wpAny_bind (call_rit_hint hit1 ?_)
  refine wpAny_bind (wpAny_of_eq (a := some (n : Int)) (by rfl) ?_)
  have tl : Builtin.List.listTooLong (n : Int).toNat = false := by
    unfold Builtin.List.listTooLong
    rw [Int.toNat_natCast]
    exact decide_eq_false (by omega)
  dsimp only
  rw [tl, if_neg (by decide)]
  refine wpAny_pure ?_
  rw [if_neg (by decide)]
  have e0 : ((n : Nat) : Int) - ((0 : Nat) : Int) = (n : Int) := by omega
  have e9 : a + ((0 : Nat) : Int) * c = a := by simp
  have hst : IsRangeIter (s.heap.push { cls := .type "list", data := .seq ([] : List Value).toArray }) it (a + ((0 : Nat) : Int) * c) (((n : Nat) : Int) - ((0 : Nat) : Int)) c := by rw [e0, e9]; exact hit1
  refine wpAny_pure ⟨plainId_quiet F.plain_extend_loop _, codeAny_extend_loopS W hn _ hSf _ n 0 _ _ _ rfl (Nat.zero_le _) hst hS₁ (ItemsOf.nil _) fun s' acc' c' hm hS' hacc => ?_⟩
  show wpAny _ A (load s.heap.objs.size >>= _) _ _ s'
  refine wpAny_bind (wpAny_load hS' ?_)
  refine wpAny_pure ?_
  rw [Moved.eq_with hm]
  refine hQ s'.heap s'.toks acc' (fun b o hb e => hm.heap b o (fun hmem => ?_) (Heap.get?_push_of_some _ e)) hacc
  rcases List.mem_cons.mp hmem with e' | hmem
  · exact absurd (Heap.lt_size e) (by rw [e']; exact Nat.lt_irrefl _)
  · exact hb (List.mem_singleton.mp hmem)
theorem code_tuple_new_rit {it : Addr} {a c : Int} {n : Nat} {Q₁ : Value → Shared → Prop} (hh : A.handled = none) (hit : IsRangeIter s.heap it a n c) (hn : n ≤ sizeLine)
    (h : ∀ (h' : Heap) (tk : Nat) (acc : Array Value), (∀ b o, b ≠ it → s.heap.get? b = some o → h'.get? b = some o) → ItemsOf (fun i v => ∃ t, v = .int (a + i * c) t) acc n →
      Q₁ (.ref h'.objs.size) { s with heap := h'.push { cls := .type "tuple", data := .seq acc }, toks := tk }) :
    codeAny (model prog w) A (.call (.builtin "tuple.__new__") ⟨[.type "tuple", .ref it], []⟩) (wants Q₁ E) s := by
  refine codeAny_of_tree ?_
  show wpAny _ A.in1 (do checkBuiltinCall "tuple.__new__" ⟨[.type "tuple", .ref it], []⟩; again (.builtin "tuple.__new__" ⟨[.type "tuple", .ref it], []⟩)) _ _ s
  refine wpAny_bind (wpAny_of_eq (F.newCall_tuple_1 _) (wpAny_pure ⟨plainId_quiet F.plain_tuple_new _, codeAny_builtin F.entry_tuple_new ?_⟩))
  rw [Around.under_plainId F.plain_tuple_new _]
  have hsub := sub_tuple_self
  have hinit := init_tuple_lookup
  have hmh := madeHere_tuple
  have hTI : s.TypeIs (.ref it) "range_iterator" := ⟨_, hit, rfl⟩
  have hh1 : A.in1.handled = none := hh
  wp_walk using wpAny_typeOf hTI, collect_rit (A := A.in1) hh1 hit hn
  intro h' tk acc hk hacc
  show wpAny _ _ (Builtin.Tuple.tupleExact acc.toList.toArray >>= fun v => ret v) _ _ _
  unfold Builtin.Tuple.tupleExact
  refine wpAny_bind (wpAny_newObj_type ?_ (by show acc.toList.toArray.size ≤ sizeLine; simp only [Array.toArray_toList]; rw [hacc.1]; exact hn))
  refine wpAny_pure ?_
  have e : acc.toList.toArray = acc := by simp
  rw [e]
  exact h h' tk acc hk hacc
theorem call_tuple_rit {it : Addr} {a c : Int} {n : Nat} {Q : Value → Shared → Prop} (hh : A.handled = none) (hit : IsRangeIter s.heap it a n c) (hn : n ≤ sizeLine)
    (hQ : ∀ (h' : Heap) (tk : Nat) (acc : Array Value), (∀ b o, b ≠ it → s.heap.get? b = some o → h'.get? b = some o) → ItemsOf (fun i v => ∃ t, v = .int (a + i * c) t) acc n →
      Q (.ref h'.objs.size) { s with heap := h'.push { cls := .type "tuple", data := .seq acc }, toks := tk }) :
    wpAny (model prog w) A (call (.type "tuple") [.ref it]) Q E s := by
  refine callType_codes (Q₁ := fun obj s₁ => s₁.TypeIs obj "tuple" ∧ Q obj s₁) F.called_tuple (F.typeCall_tuple_1 _) F.entry_object_init
    (code_tuple_new_rit (A := A.in1) hh hit hn fun h' tk acc hk hacc => ⟨⟨_, Heap.get?_push_size _ rfl, rfl⟩, hQ h' tk acc hk hacc⟩) fun obj s₁ h₁ => ?_
  exact ⟨h₁.1, F.args_object_init_2 obj _, object_init_meets F.called_tuple.init.lookup F.called_tuple.made (by decide) prog w A.in1 _ s₁ ⟨h₁.1, rfl, h₁.2⟩⟩
end
/-- a .. b - 1 from its end -/
def rgW (a b : Int) : List V := (List.range (b - a).toNat).map fun i => V.int (b - 1 - (i : Nat))
def upW (a b : Int) : List D := (List.range (b - a).toNat).map fun i => D.int (b - 1 - (i : Nat))
def rgLW (i j : Int) : Option (List D) := if -1000000 < i ∧ i < 1000000 ∧ -1000000 < j ∧ j < 1000000 then some (upW i j) else none
theorem rgW_length (a b : Int) : (rgW a b).length = (b - a).toNat := by unfold rgW; rw [List.length_map, List.length_range]
theorem vals_rgW {a b x : Int} {acc : Array Value} (hx : 0 < (b - a).toNat → x = b - 1) (h : ItemsOf (fun i v => ∃ t, v = .int (x + i * (-1)) t) acc (b - a).toNat) : Vals (rgW a b) acc.toList := by
  have e : acc.toList.length = (b - a).toNat := by rw [Array.length_toList]; exact h.1
  unfold rgW
  rw [← e]
  refine vals_of_get acc.toList _ fun j u hj => ?_
  obtain ⟨t, rfl⟩ := h.2 j u (by rw [← hj, Array.getElem?_toList])
  have hl : j < acc.toList.length := (List.getElem?_eq_some_iff.mp hj).1
  refine ⟨t, ?_⟩
  rw [hx (by omega)]
  congr 1
  omega
theorem rp_upW {K : PySem.W.Frag} {G : Hp} (i j : Int) : RpAll K G (rgW i j) (upW i j) := by
  unfold rgW upW
  generalize List.range (j - i).toNat = l
  induction l with
  | nil => exact .nil
  | cons x l ih => exact .cons (.int _) ih
theorem rgLW_some {i j : Int} {ds : List D} (h : rgLW i j = some ds) : ds = upW i j ∧ RgOk i j := by
  unfold rgLW at h
  split at h
  · rename_i z
    cases h
    exact ⟨rfl, by omega, by omega, by omega, by omega, by omega⟩
  · cases h
section
variable {X : Cx} {W : WN} {en : En} {ec : Nat → Addr}
theorem pe_tupRevRg {e : Expr} {te : L2.St → Hp → (Int → Int → Hp → Prop) → Prop} {p p2 pos pos2 : Pos} (hc : X.calm = true) (hg : Gl X "tuple") (hm : X.mg "tuple" = none) (hg2 : Gl X "reversed") (hm2 : X.mg "reversed" = none) (he : PRg X e te)
    (hs : starEach [e] X.env = (false, eval e X.env) :: starEach [] X.env := by rfl)
    (hs2 : starEach [.Call (.Name "reversed" p2) [e] [] pos2] X.env = (false, eval (.Call (.Name "reversed" p2) [e] [] pos2) X.env) :: starEach [] X.env := by rfl) :
    PE X (.Call (.Name "tuple" p) [.Call (.Name "reversed" p2) [e] [] pos2] [] pos) (fun σ H Q => te σ H fun a b H1 => RgOk a b ∧ ∀ q, H1 q = none → Q (.ref q) (upd H1 q (.tup (rgW a b)))) := by
  refine ⟨fun pins s σ H Q I h => ?_⟩
  refine Call_ (ld_blt I hg hm boot_tuple (PyProof.Rows.callWith_type1 (args_cons (Call_ (ld_blt I hg2 hm2 PyProof.Rows.boot_reversed (PyProof.Rows.callWith_type1 (args_cons (thn (he pins s σ H _ I h) fun x s1 ⟨r, a, b, t, u, v, H1, ex, hr, I1, ok, q⟩ => args_nil ?_) hs) hs rfl))) hs2) hs2 rfl))
  subst ex
  obtain ⟨b1, b2, b3, b4, b5⟩ := ok
  have hn : Builtin.Range.rangeSize a b 1 = (((b - a).toNat : Nat) : Int) := rangeSize_nat a b
  refine call_reversed_range hr (smallRev_one b1 b2 b3 b4) (args_nil ?_)
  have k0 : ∀ c o, s1.heap.get? c = some o → (s1.heap.push (rngRevObj a b 1)).get? c = some o := fun c o e => Heap.get?_push_of_some _ e
  have I2 : Inv X pins σ H1 { s1 with heap := s1.heap.push (rngRevObj a b 1) } := I1.kept (t' := s1.toks) k0
  obtain ⟨f0, f1, f2, f3, f4, f5⟩ := I1.fpOk (H' := H1) (b := s1.heap.objs.size) (Nat.le_refl _) (I1.hok.fresh (Nat.le_refl _))
  have hz : (b - a).toNat ≤ sizeLine := by rw [sizeLine_eq]; omega
  have hit : IsRangeIter (s1.heap.push (rngRevObj a b 1)) s1.heap.objs.size (a + (((b - a).toNat : Nat) : Int) - 1) (((b - a).toNat : Nat) : Int) (-1) := by
    have e1 : a + (((b - a).toNat : Nat) : Int) - 1 = a + (Builtin.Range.rangeSize a b 1 - 1) * 1 := by rw [hn]; omega
    rw [e1, ← hn]
    exact Heap.get?_push_size _ rfl
  refine call_tuple_rit (s := { s1 with heap := s1.heap.push (rngRevObj a b 1) }) (I1.ok.hd hc) hit hz fun h' tk acc hk hi => ?_
  have I3 : Inv X pins σ H1 { s1 with heap := h', toks := tk } := I2.turned (t' := tk) (fun b o hb e => hk b o hb e) f0 f1 f3 f4 f5
  refine ⟨.ref h'.objs.size, upd H1 h'.objs.size (.tup (rgW a b)), I3.laid (t' := tk) (fun c o e => Heap.get?_push_of_some _ e) (Nat.le_refl _) (show ObjOk X.prog X.w _ _ _ (.tup (rgW a b)) from ⟨?_, acc.toList, vals_rgW (fun _ => by omega) hi, ?_⟩), rfl, q _ (I3.hok.fresh (Nat.le_refl _))⟩
  · rw [rgW_length]; exact hz
  · rw [Array.toArray_toList]; exact IsTup.new _ _
theorem xp_trgW {e : Expr} {p p2 pos pos2 : Pos} {mr : R (Int × Int)} (g : Go X ec W) (hm : X.mg "tuple" = none) (hm2 : X.mg "reversed" = none) (h : XR X W e en mr) (hg : Gl X "tuple" := by rfl) (hg2 : Gl X "reversed" := by rfl)
    (hs : starEach [e] X.env = (false, eval e X.env) :: starEach [] X.env := by rfl)
    (hs2 : starEach [.Call (.Name "reversed" p2) [e] [] pos2] X.env = (false, eval (.Call (.Name "reversed" p2) [e] [] pos2) X.env) :: starEach [] X.env := by rfl) :
    XP X W (.Call (.Name "tuple" p) [.Call (.Name "reversed" p2) [e] [] pos2] [] pos) en (mr.bnd2 fun i j => (R.of (rgLW i j)).bnd fun ds => .ok (.tup ds)) := fun σ G H S Q q => by
  obtain ⟨t, ht, h⟩ := h
  refine pe_to (pe_tupRevRg g.calm hg hm hg2 hm2 ht hs hs2) (h σ G H S _ (wp_mono (wp_bnd.mp q) (fun r hr G1 H1 w1 => ?_) fun _ z => z))
  obtain ⟨ds, e1, hd⟩ := wp_of (wp_bnd.mp hr)
  obtain ⟨rfl, ok⟩ := rgLW_some e1
  refine ⟨ok, fun p hp => ?_⟩
  have w2 := Grow.new (o := .tup (rgW r.1 r.2)) w1.up hp rfl
  exact hd _ _ _ (w1.trans w2) (.tup (.inl (.inl upd_same)) (rp_upW _ _))
end
end Wk
set_option maxHeartbeats 4000000
/-! Wk38: zip of two lists or of two tuples, walked by two names. -/
namespace Wk
open PySem PySem.Spec PyProof.Rows L2
def zL (xs ys : List D) : List D := (List.range (min xs.length ys.length)).map fun i => .tup [xs.getD i .non, ys.getD i .non]
def D.zipD : List D → Option (List D)
  | [.lst xs, .lst ys] => some (zL xs ys)
  | [.tup xs, .tup ys] => some (zL xs ys)
  | _ => none
theorem zL_at {xs ys : List D} {i : Nat} {d : D} (e : (zL xs ys)[i]? = some d) : ∃ (i1 : i < xs.length) (i2 : i < ys.length), d = .tup [xs[i], ys[i]] := by
  have ll : (zL xs ys).length = min xs.length ys.length := by unfold zL; simp
  have hi : i < min xs.length ys.length := by rw [← ll]; exact (List.getElem?_eq_some_iff.mp e).1
  have i1 : i < xs.length := by omega
  have i2 : i < ys.length := by omega
  refine ⟨i1, i2, ?_⟩
  unfold zL at e
  rw [List.getElem?_map, List.getElem?_range hi] at e
  simp only [Option.map_some, Option.some.injEq] at e
  rw [← e, List.getD_eq_getElem?_getD, List.getD_eq_getElem?_getD, List.getElem?_eq_getElem i1, List.getElem?_eq_getElem i2]
  rfl
theorem wlk_Z {K : PySem.W.Frag} {G : Hp} {a b : Addr} {xs ys : List V} {ds es : List D} (h1 : Rd G a (.lst xs)) (h2 : Rd G b (.lst ys)) (r1 : RpAll K G xs ds) (r2 : RpAll K G ys es) : Wlk K (Itz K a b) G (zL ds es) := by
  have ll : (zL ds es).length = min ds.length es.length := by unfold zL; simp
  refine ⟨fun G' H' l lk => ⟨xs, ys, .inl (lk.le _ _ rfl (l _ _ rfl h1)), .inl (lk.le _ _ rfl (l _ _ rfl h2)), by rw [ll, r1.len, r2.len]; omega⟩, fun i d e G' H' l lk => ?_⟩
  obtain ⟨i1, i2, rfl⟩ := zL_at e
  obtain ⟨x, ex, rx⟩ := (r1.up l).get (List.getElem?_eq_getElem i1)
  obtain ⟨y, ey, ry⟩ := (r2.up l).get (List.getElem?_eq_getElem i2)
  have q1 : SqL K H' a xs := .inl (lk.le _ _ rfl (l _ _ rfl h1))
  have q2 : SqL K H' b ys := .inl (lk.le _ _ rfl (l _ _ rfl h2))
  refine ⟨⟨xs, ys, x, y, q1, q2, ex, ey⟩, ?_⟩
  rintro v H'' ⟨T1, x', y', rfl, n1, rfl, f1, f2⟩
  have e1 : x' = x := Option.some.inj ((f1 _ q1).symm.trans ex)
  have e2 : y' = y := Option.some.inj ((f2 _ q2).symm.trans ey)
  subst e1; subst e2
  have w1 := Grow.new (o := .tup [x', y']) lk n1 rfl
  exact ⟨_, w1, .tup (.inl (.inl upd_same)) (.cons (rx.up w1.g) (.cons (ry.up w1.g) .nil))⟩
theorem wlk_ZT {K : PySem.W.Frag} {G : Hp} {a b : Addr} {xs ys : List V} {ds es : List D} (h1 : SqT K G a xs) (h2 : SqT K G b ys) (r1 : RpAll K G xs ds) (r2 : RpAll K G ys es) : Wlk K (RZ.ItzT K a b) G (zL ds es) := by
  have ll : (zL ds es).length = min ds.length es.length := by unfold zL; simp
  refine ⟨fun G' H' l lk => ⟨xs, ys, lk.le.seqT (l.seqT h1), lk.le.seqT (l.seqT h2), by rw [ll, r1.len, r2.len]; omega⟩, fun i d e G' H' l lk => ?_⟩
  obtain ⟨i1, i2, rfl⟩ := zL_at e
  obtain ⟨x, ex, rx⟩ := (r1.up l).get (List.getElem?_eq_getElem i1)
  obtain ⟨y, ey, ry⟩ := (r2.up l).get (List.getElem?_eq_getElem i2)
  have q1 : SqT K H' a xs := lk.le.seqT (l.seqT h1)
  have q2 : SqT K H' b ys := lk.le.seqT (l.seqT h2)
  refine ⟨⟨xs, ys, x, y, q1, q2, ex, ey⟩, ?_⟩
  rintro v H'' ⟨T1, x', y', rfl, n1, rfl, f1, f2⟩
  have e1 : x' = x := Option.some.inj ((f1 _ q1).symm.trans ex)
  have e2 : y' = y := Option.some.inj ((f2 _ q2).symm.trans ey)
  subst e1; subst e2
  have w1 := Grow.new (o := .tup [x', y']) lk n1 rfl
  exact ⟨_, w1, .tup (.inl (.inl upd_same)) (.cons (rx.up w1.g) (.cons (ry.up w1.g) .nil))⟩
section
variable {X : Cx} {W : WN} {en : En} {a b : Expr} {ms : R (List D)} {pos : Pos}
theorem xi_zip {p tpos : Pos} {elts : List Expr} {kk : Nat} (hm : X.mg "zip" = none) (ha : XA X W [a, b] en ms) (hg : Gl X "zip" := by rfl)
    (hs : starEach [a, b] X.env = (false, eval a X.env) :: starEach [b] X.env := by rfl) (hpl : (backTo pos (starEach [b] X.env)).any (·.1) = false := by rfl) :
    XI X W (.Tuple elts kk tpos) (.Call (.Name "zip" p) [a, b] [] pos) en (ms.bnd fun ds => R.of (D.zipD ds)) := fun σ G H S Q h => by
  refine pi_to (RZ.pi_zipA hg hm pa_w hs hpl) (ha σ G H S _ (wp_mono (wp_bnd.mp h) (fun ds hd vs G1 H1 w1 r1 => ?_) fun _ z => z))
  obtain ⟨l, e, hd⟩ := wp_of hd
  unfold D.zipD at e
  split at e
  · cases e
    cases r1 with
    | cons r1 r2 =>
      cases r2 with
      | cons r2 r3 =>
        cases r3
        cases r1 with
        | lst a1 b1 =>
          cases r2 with
          | lst a2 b2 => exact ⟨_, _, _, _, rfl, .inl ⟨.inl (w1.up.le _ _ rfl a1), .inl (w1.up.le _ _ rfl a2), hd _ G1 H1 w1 (wlk_Z a1 a2 b1 b2)⟩⟩
  · cases e
    cases r1 with
    | cons r1 r2 =>
      cases r2 with
      | cons r2 r3 =>
        cases r3
        cases r1 with
        | tup a1 b1 =>
          cases r2 with
          | tup a2 b2 => exact ⟨_, _, _, _, rfl, .inr ⟨w1.up.le.seqT a1, w1.up.le.seqT a2, hd _ G1 H1 w1 (wlk_ZT a1 a2 b1 b2)⟩⟩
  · cases e
end
end Wk
set_option maxHeartbeats 4000000
/-! Wk39: a comprehension that changes something, given to a name. -/
namespace Wk
open PySem PySem.Spec PyProof.Rows L2
section
variable {X : Cx} {W : WN} {eE : En} {en : En} {ec : Nat → Addr} {pos : Pos} {γ δ : Type} {φ : γ → En} {ψ : δ → En}
theorem lcV_run {i : Nat} {x : Str} {p : Pos} {it elt : Expr} {scope : Scope} {mi : R (List D × δ)} {me : γ → D → R (D × γ)} (g : Go X ec W) (hi : XIV X W eE (.Name x p) it en mi ψ) (f0 : δ → γ) (he : ∀ c d, BV X scope elt ((φ c).set i (some (.v d))) (me c d) (fun c' => (φ c').set i (some (.v d)))) (h0 : ∀ c, ψ c = φ (f0 c) := by intro _; rfl) (hblk : BlkOk X.N X.env.scope scope [(x, i)]) (hc : ∀ c, clr (φ c) [i] = true := by intro _; rfl)
    (hN : X.N[i]? = some x := by rfl) (hx : ∀ (s : Shared) (H0 : Hp) (C : Addr) (cl : List (Str × Addr)) (fp : List Addr), Loc (X.blk s H0 scope (compEnvC scope cl C X.env) fp).env.scope x := by intros; first | exact Or.inl rfl | exact Or.inr rfl)
    (hf : ∀ (s : Shared) (H0 : Hp) (C : Addr) (cl : List (Str × Addr)) (fp : List Addr), (X.blk s H0 scope (compEnvC scope cl C X.env) fp).fn x = true ∨ (X.blk s H0 scope (compEnvC scope cl C X.env) fp).env.scope.names.lookup x = some .local := by intros; first | exact .inl rfl | exact .inr rfl)
    (hs : ∀ x, foldedSetIterable it X.env x = pure x := by intro _; rfl) : ∀ B σ G H, St8 X.K B en σ G H → ∀ Q : VK, Post X W eE B (mi.bnd2 fun ds c => lcVR me (f0 c) ds) (fun r => ∀ p vs G2 H2, Le G G2 → St8 X.K B (φ r.2) σ G2 H2 → B.H0 p = none → NoOwn (φ r.2) p → G2 p = none → H2 p = some (.lst vs) → RpAll X.K G2 vs r.1 → Q (.ref p) H2) → tLc (wI X (.Name x p) it) (gName i) tYes (wEb X scope elt) (List.map (fun x => x.2) [(x, i)]) σ H Q := fun B σ G H S Q q => by
  refine hi B σ G H S _ (wp_mono (wp_bnd.mp q) (fun r0 hd J G1 H1 l0 S1 wk => ?_) fun _ z => z)
  obtain ⟨ds, cc⟩ := r0
  have hd : Post X W eE B (lcVR me (f0 cc) ds) _ := hd
  rw [h0] at S1
  generalize f0 cc = c0 at *
  unfold lcVR at hd
  by_cases hln : ds.length ≤ 16000000
  · rw [if_pos hln] at hd
    intro D hD
    have hB := S1.h0 hD
    have hno := S1.noOwn hD
    refine ⟨fun i' m H' => m = ds.length - i' ∧ i' ≤ ds.length ∧ ∃ G' acc dn c, Le G1 G' ∧ St8 X.K B (φ c) σ G' H' ∧ H' D = some (.lst acc) ∧ G' D = none ∧ NoOwn (φ c) D ∧ RpAll X.K G' acc dn ∧ acc.length ≤ i' ∧ Post X W eE B (lcV me c (ds.drop i')) (fun r => ∀ p vs G2 H2, Le G G2 → St8 X.K B (φ r.2) σ G2 H2 → B.H0 p = none → NoOwn (φ r.2) p → G2 p = none → H2 p = some (.lst vs) → RpAll X.K G2 vs (dn ++ r.1) → Q (.ref p) H2),
      ⟨_, rfl, Nat.zero_le _, G1, [], [], c0, Le.refl _, ?_, upd_same, S1.lk.kn D hD, ?_, .nil, Nat.le_refl _, hd⟩, ?_⟩
    · exact S1.grow (Grow.own S1.lk hD)
    · exact hno
    · rintro i' m H' ⟨rfl, hi', G', acc, dn, c, l1, S', hA, gA, no, rA, lA, p⟩
      by_cases hlt : i' < ds.length
      · rw [List.drop_eq_getElem_cons hlt] at p
        obtain ⟨go, yl⟩ := wk.go i' ds[i'] (List.getElem?_eq_getElem hlt) G' H' l1 S'.lk
        refine .inr ⟨go, fun H3 => ∃ G3 acc dn c, Le G1 G3 ∧ St8 X.K B (φ c) σ G3 H3 ∧ H3 D = some (.lst acc) ∧ G3 D = none ∧ NoOwn (φ c) D ∧ RpAll X.K G3 acc dn ∧ acc.length ≤ i' + 1 ∧ Post X W eE B (lcV me c (ds.drop (i' + 1))) (fun r => ∀ p vs G2 H2, Le G G2 → St8 X.K B (φ r.2) σ G2 H2 → B.H0 p = none → NoOwn (φ r.2) p → G2 p = none → H2 p = some (.lst vs) → RpAll X.K G2 vs (dn ++ r.1) → Q (.ref p) H2),
          fun H3 ⟨G3, acc, dn, c, h⟩ => ⟨ds.length - (i' + 1), by omega, rfl, hlt, G3, acc, dn, c, h⟩, fun xv H4 y => ?_⟩
        obtain ⟨G4, w4, r4⟩ := yl xv H4 y
        have hA4 : H4 D = some (.lst acc) := w4.h _ _ hA
        have gA4 : G4 D = none := w4.cl D gA (by rw [hA]; intro z; cases z)
        have S6 := ((S'.grow w4).wipe (hc c)).set (i := i) r4
        refine ⟨wipe_set_self, ?_⟩
        show wEb X scope elt _ H4 _
        intro s0 H0' C cl fp
        refine he c ds[i'] s0 H0' C cl fp (B.with_ G4 D (.lst acc)) _ G4 H4 (S6.with_ hA4 gA4 (NoOwn.set no)) _ (wp_mono (wp_noE (wp_bnd.mp p)) (fun r hr v G7 H7 l7 S7 r7 => ?_) fun _ z => z.elim)
        obtain ⟨S8, no8, hA7⟩ := S7.unwith (S'.es.fr.grow w4) hB
        have gA7 : G7 D = none := S7.es.fr.cl D gA4 (by show upd B.H0 D _ D ≠ none; rw [upd_same]; intro z; cases z)
        have S9 : St8 X.K B (φ r.2) σ G7 H7 := by
          have z := (S8.unset (hc r.2)).wipe (hc r.2)
          rw [wipe_set_self] at z
          exact z.unwipe
        have no9 : NoOwn (φ r.2) D := fun j b c e => by
          refine no8 j b c ?_
          have nj : i ≠ j := fun z => by
            subst z
            rw [clr_at (hc r.2) (List.mem_singleton.mpr rfl)] at e; cases e
          show ((φ r.2).set i (some (.v ds[i'])))[j]? = _
          rw [List.getElem?_set_ne nj]
          exact e
        refine ⟨acc, hA7, Nat.lt_of_le_of_lt lA (Nat.lt_of_lt_of_le hlt (size_ok hln)), G7, acc ++ [v], dn ++ [r.1], r.2, l1.trans (w4.g.trans l7), S9.mutD hB no9 gA7 (fun _ _ _ z => by rw [hA7] at z; cases z), upd_same, gA7, no9, (rA.up (w4.g.trans l7)).app (.cons r7 .nil), by rw [List.length_append]; show _ + 1 ≤ _; omega, ?_⟩
        refine wp_mono (wp_bnd.mp hr) (fun s hs p vs G2 H2 a1 a2 a3 a4 a5 a6 a7 => hs p vs G2 H2 a1 a2 a3 a4 a5 a6 ?_) fun _ z => z
        show RpAll X.K G2 vs (dn ++ (r.1 :: s.1))
        have e : dn ++ (r.1 :: s.1) = dn ++ [r.1] ++ s.1 := by simp
        rw [e]; exact a7
      · have ei : i' = ds.length := by omega
        subst ei
        rw [List.drop_length] at p
        have p : ∀ p vs G2 H2, Le G G2 → St8 X.K B (φ c) σ G2 H2 → B.H0 p = none → NoOwn (φ c) p → G2 p = none → H2 p = some (.lst vs) → RpAll X.K G2 vs (dn ++ []) → Q (.ref p) H2 := p
        exact .inl ⟨wk.stop G' H' l1 S'.lk, p D acc G' H' (l0.trans l1) S' hB no gA hA (by rw [List.append_nil]; exact rA)⟩
  · rw [if_neg hln] at hd
    exact hd.elim
theorem xb_letLcV {i j : Nat} {x y : Str} {p py posc : Pos} {it elt : Expr} {scope : Scope} {mi : R (List D × δ)} {me : γ → D → R (D × γ)} {ω : Type} {rest : List Stmt} {T : Bs → ω → Ends → Prop} {k : List D → γ → R ω} (g : Go X ec W) (χ : Addr → List D → γ → En) (hi : XIV X W eE (.Name x p) it en mi ψ) (f0 : δ → γ) (he : ∀ c d, BV X scope elt ((φ c).set i (some (.v d))) (me c d) (fun c' => (φ c').set i (some (.v d)))) (hk : ∀ a d c, XB X W eE rest (χ a d c) (k d c) T) (h0 : ∀ c, ψ c = φ (f0 c) := by intro _; rfl) (hblk : BlkOk X.N X.env.scope scope [(x, i)]) (hc : ∀ c, clr (φ c) [i] = true := by intro _; rfl)
    (hNy : X.N[j]? = some y := by rfl) (hφ : ∀ a d c, (φ c).set j (some (.o false a (.l d))) = χ a d c := by intro _ _ _; rfl)
    (hyl : X.env.scope.names.lookup y = some .local := by rfl) (hsw : swapsWith (.ListComp elt [⟨.Name x p, it, [], 0⟩] scope posc) (some (.Name y py)) pos.line X.env = pure true := by exact sw_true rfl rfl rfl (by decide +kernel))
    (hN : X.N[i]? = some x := by rfl) (hx : ∀ (s : Shared) (H0 : Hp) (C : Addr) (cl : List (Str × Addr)) (fp : List Addr), Loc (X.blk s H0 scope (compEnvC scope cl C X.env) fp).env.scope x := by intros; first | exact Or.inl rfl | exact Or.inr rfl)
    (hf : ∀ (s : Shared) (H0 : Hp) (C : Addr) (cl : List (Str × Addr)) (fp : List Addr), (X.blk s H0 scope (compEnvC scope cl C X.env) fp).fn x = true ∨ (X.blk s H0 scope (compEnvC scope cl C X.env) fp).env.scope.names.lookup x = some .local := by intros; first | exact .inl rfl | exact .inr rfl)
    (hs : ∀ x, foldedSetIterable it X.env x = pure x := by intro _; rfl) : XB X W eE (.Assign [.Name y py] (.ListComp elt [⟨.Name x p, it, [], 0⟩] scope posc) pos :: rest) en ((mi.bnd2 fun ds c => lcVR me (f0 c) ds).bnd2 k) T := fun B σ G H S D q => by
  refine pss_to (pss_cons (ps_setLc (own := [(x, i)]) g.calm g.nd hNy hyl hsw pi_w hblk (fun s H0 C cl fp => pg_name g.nd hN (hx s H0 C cl fp) (hf s H0 C cl fp)) (fun _ _ _ _ _ => pts_nil) pe_wb hs) pss_w) ?_
  unfold tSeq tAsg
  refine lcV_run g hi f0 he h0 hblk hc hN hx hf hs B σ G H S _ (wp_mono (wp_bnd.mp q) (fun d hd a vs G2 H2 l S2 hb no gp ep r => ?_) fun _ z => z)
  have := S2.setO (i := j) (p := a) (c := .l d.1) no hb gp ⟨vs, ep, r⟩
  rw [hφ] at this
  exact hk a d.1 d.2 B _ G2 H2 this D hd
end
end Wk
set_option maxHeartbeats 4000000
/-! Wk40: a def that changes its list and hands it back; a comprehension with a test over what such a def hands back. -/
namespace Wk
open PySem PySem.Spec PyProof.Rows L2
/-- the argument is a list of the asker's, which is handed back -/
def spIOS (K : PySem.W.Frag) (ec : Nat → Addr) (f : List D → R (List D)) : Sp := fun vs H Q E => ∃ G p us c, Lk G H ∧ vs = [.ref p] ∧ G p = none ∧ H p = some (.lst us) ∧ RpAll K G us c ∧
  wp (f c) (fun r => ∀ us' G2 H2, GrowX p G H G2 H2 → H2 p = some (.lst us') → RpAll K G2 us' r → Q (.ref p) H2) (fun c => ∀ G2 H2, GrowX p G H G2 H2 → E (.ref (ec c)) none H2)
def rIS (K : PySem.W.Frag) (p : Addr) : Hp → List D → V → Hp → Hp → Prop := fun _ r v G H => v = .ref p ∧ ∃ us, H p = some (.lst us) ∧ RpAll K G us r
section
variable {P : Program} {w : World} {K : PySem.W.Frag} {mg : Str → Option Value} {base : Heap} {ec : Nat → Addr}
theorem fn_okIOS {x qual : Str} {st : Stmt} {f : Addr} {fd : FuncData} {N ps : List Str} {k : Nat} {fm : List D → R (List D)} (F : Fun K x qual st f fd) (S : FnScope N ps (defScope st)) (hn : ps.length = 1)
    (body : ∀ (cdv : Value) (A : Around) (outer : List Env) (s : Shared) (H : Hp) (E : XK), Room k (A.deeper (envOfC qual (defScope st) s.heap.objs.size f cdv)) →
      Go (cxOf (L2.CX P w) P w K mg base N qual (defScope st) f cdv A outer s H E) ec (fun c _ H => E (.ref (ec c)) none H) → ∀ (p : Addr) (c : List D),
      XB (cxOf (L2.CX P w) P w K mg base N qual (defScope st) f cdv A outer s H E) (fun c _ H => E (.ref (ec c)) none H) [] (defBody st) (en1 N p c []) (fm c) (TR (rIS K p))) :
    FnOk P w K mg base (L2.CX P w) (k + 1) f fd ps (spIOS K ec fm) := by
  refine F.okX S (fun vs H Q E h => ?_) (fun cdv A outer s H vs Q E hr h => ?_)
  · obtain ⟨G, p, us, c, l, rfl, _⟩ := h
    rw [hn]; rfl
  · obtain ⟨G, p, us, c, l, rfl, gp, hp, ru, q⟩ := h
    have g : Go (cxOf (L2.CX P w) P w K mg base N qual (defScope st) f cdv A outer s H E) ec (fun c _ H => E (.ref (ec c)) none H) :=
      ⟨rfl, passes_of rfl, S.nd, (takes_of (E := E) rfl rfl rfl rfl).imp fun cls d σ H' ⟨c, e1, e2, e3⟩ => by rw [e1, e2]; exact e3⟩
    have b := body cdv A outer s H E hr g p c
    exact ⟨_, pss_w, b ⟨G, H, [p]⟩ (L2.start N (.ref p :: [])) G H (st_start1 l gp hp ru .nil) _ (wp_mono q (fun o ho v G2 H2 f8 ⟨rr, us', h1, h2⟩ => by rw [rr]; exact ho us' G2 H2 f8.toGrowX h1 h2) fun c hc σ G2 H2 es => hc G2 H2 es.fr.toGrowX)⟩
end
section
variable {X : Cx} {W : WN} {eE : En} {en : En} {ec : Nat → Addr} {pos : Pos} {γ δ ω : Type} {φ : γ → En} {ψ : δ → En} {T : Bs → ω → Ends → Prop} {rest : List Stmt}
/-- the argument's list is handed back -/
theorem xb_retIOS {i : Nat} {x : Str} {q : Addr} {px : Pos} {ds : List D} (he : en[i]? = some (some (.o true q (.l ds)))) (hN : X.N[i]? = some x := by rfl) (hv : Vis X.env.scope x := by first | exact Or.inl rfl | exact Or.inr (Or.inl rfl) | exact Or.inr (Or.inr rfl))
    (hd : (x == ("__debug__" : Str)) = false := by decide) (hcd : (x == ("__classdict__" : Str)) = false := by decide) : XB X W eE [.Return (some (.Name x px)) pos] en (.ok ds) (TR (rIS X.K q)) := fun B σ G H S D k => by
  obtain ⟨v, e1, rfl, gp, vs, hp, r⟩ := S.es.at_ i _ he
  exact pss_to (pss_one (ps_ret (pe_var hN hv hd hcd))) ⟨_, e1, k _ G H S.es.fr ⟨rfl, vs, hp, r⟩⟩
/-- f(x), x one's own list that f may change and hands back: data from now on -/
theorem xv_ios {i : Nat} {q : Addr} {cn : List D} {x y : Str} {p py : Pos} {k : Nat} {f : Addr} {fd : FuncData} {ps : List Str} {fm : List D → R (List D)} (g : Go X ec W) (F : FnOk X.prog X.w X.K X.mg X.base (L2.CX X.prog X.w) k f fd ps (spIOS X.K ec fm)) (hr : Room k X.A) (hm : X.mg x = some (.ref f)) (hk : PySem.W.keepIn X.K (.ref f) = true) (hb : Binds X.K fd ps [])
    (χ : List D → En) (hy : en[i]? = some (some (.o false q (.l cn))) := by rfl) (hχ : ∀ o, en.set i (some (.v (.lst o))) = χ o := by intro _; rfl)
    (hN : X.N[i]? = some y := by rfl) (hv : Vis X.env.scope y := by first | exact Or.inl rfl | exact Or.inr (Or.inl rfl) | exact Or.inr (Or.inr rfl)) (hd : (y == ("__debug__" : Str)) = false := by decide) (hcd : (y == ("__classdict__" : Str)) = false := by decide)
    (hg : Gl X x := by rfl) (hdb : (x == ("__debug__" : Str)) = false := by decide) (h1 : starEach [.Name y py] X.env = (false, eval (.Name y py) X.env) :: starEach [] X.env := by rfl) (h2 : (backTo pos (starEach [] X.env)).any (·.1) = false := by rfl) :
    XV X W [] (.Call (.Name x p) [.Name y py] [] pos) en ((fm cn).bnd fun l => .ok (.lst l, l)) χ := fun B σ G H S Q h => by
  obtain ⟨v0, e0, rfl, _⟩ := S.es.at_ i _ hy
  refine pe_to (pe_callS F hr hg hm hk hb (fun σ => passAt g.tk σ) (pa_cons (pe_var hN hv hd hcd) pa_w h1) hdb h1 h2) ⟨.ref q, e0, ?_⟩
  refine (xa_nil (X := X) (W := W)) σ G H S.sl _ ?_
  intro vs G1 H1 w1 r1
  cases r1
  have S1 := S.grow w1
  obtain ⟨_, gq, us, hq, ru⟩ := st_at S1 hy
  refine ⟨G1, q, us, cn, S1.lk, rfl, gq, hq, ru, wp_mono (wp_bnd.mp h) (fun o ho us' G2 H2 w2 h2 ru2 => ?_) fun c hc G2 H2 w2 => ⟨c, rfl, rfl, hc σ G2 H2 ?_⟩⟩
  · have S2 := S1.growX hy w2 h2 ru2
    have hi : i < en.length := (List.getElem?_eq_some_iff.mp hy).1
    obtain ⟨G3, l3, S3⟩ := S2.frz (i := i) (p := q) (ds := o) (by rw [List.getElem?_set_self hi])
    rw [List.set_set] at S3
    obtain ⟨v, e1, r⟩ := S3.es.at_ i (.v (.lst o)) (by rw [List.getElem?_set_self hi])
    rw [e0] at e1
    cases e1
    rw [hχ] at S3
    exact ho _ G3 H2 ((w1.g.trans w2.g).trans l3) S3 r
  · have fr := S1.es.fr
    have hbq := (S1.es.own i false q _ hy).1
    refine ⟨⟨w2.up, fr.le0.trans w2.g, fun a u n eu => ?_, fun a n => w2.there a (fr.there a n), fun a n mm => w2.cl a (fr.cl a n mm) (fr.there a mm)⟩, fun i dv e => by simp at e, fun i j b b' p c c' e => by simp at e, fun i b p c e => by simp at e⟩
    have na : a ≠ q := fun z => by
      subst z
      rw [if_neg Bool.false_ne_true] at hbq; rw [hbq] at eu; cases eu
    exact w2.h a u na (fr.keep a u n eu)
/-- a comprehension's run, its walk given -/
theorem lc_core {elt : Expr} {scope : Scope} {g : TG} {tt : TT} {vs : List Nat} {f : En → D → Option En} {mt : D → R Bool} {me : D → R D} (ht : TgL X.K g vs f) (hc : clr en vs = true)
    (hb : ∀ d (P : Bool → Prop) (E : Nat → Prop), wp (mt d) P E → ∃ e', f en d = some e' ∧ (∀ σ G H, Sl X.K e' σ G H → ∀ Q : Bool → Hp → Prop, wp (mt d) (fun b => ∀ G2 H2, Grow G H G2 H2 → Q b H2) (fun _ => False) → tt σ H Q) ∧ BP X scope elt e' (me d))
    (σ : L2.St) (G H : Hp) (S : Sl X.K en σ G H) (J : It) (ds : List D) (wk : Wlk X.K J G ds) (Q : VK) (E : Nat → Prop) (hd : wp (lcIR mt me ds) (fun ys => NewL X.K G H ys Q) E) : tLc (fun _ _ K => K J H) g tt (wEb X scope elt) vs σ H Q := by
  unfold lcIR at hd
  by_cases hln : ds.length ≤ 16000000
  · rw [if_pos hln] at hd
    intro D hD
    have hpD : H D = none := hD
    refine ⟨fun i m H' => m = ds.length - i ∧ i ≤ ds.length ∧ ∃ G' acc dn, Grow G H G' H' ∧ H' D = some (.lst acc) ∧ G' D = none ∧ RpAll X.K G' acc dn ∧ acc.length ≤ i ∧ wp (lcI mt me (ds.drop i)) (fun ys => NewL X.K G H (dn ++ ys) Q) E,
      ⟨_, rfl, Nat.zero_le _, G, [], [], Grow.own S.le hD, upd_same, S.le.kn D hD, .nil, Nat.le_refl _, hd⟩, ?_⟩
    rintro i m H' ⟨rfl, hi', G', acc, dn, w', hA, gA, rA, lA, p⟩
    by_cases hlt : i < ds.length
    · rw [List.drop_eq_getElem_cons hlt] at p
      obtain ⟨go, yl⟩ := wk.go i ds[i] (List.getElem?_eq_getElem hlt) G' H' w'.g w'.up
      refine .inr ⟨go, fun H3 => ∃ G3 acc dn, Grow G H G3 H3 ∧ H3 D = some (.lst acc) ∧ G3 D = none ∧ RpAll X.K G3 acc dn ∧ acc.length ≤ i + 1 ∧ wp (lcI mt me (ds.drop (i + 1))) (fun ys => NewL X.K G H (dn ++ ys) Q) E,
        fun H3 ⟨G3, acc, dn, h⟩ => ⟨ds.length - (i + 1), by omega, rfl, hlt, G3, acc, dn, h⟩, fun x H4 y => ?_⟩
      obtain ⟨G4, w4, r4⟩ := yl x H4 y
      have p1 := wp_bnd.mp p
      have p2 := wp_noE p1
      obtain ⟨e', ef, ht', hp'⟩ := hb ds[i] _ _ p2
      have wA := w'.trans w4
      have S4 : Sl X.K en (wipe σ vs) G4 H4 := (S.grow wA).wipe hc
      refine ht en (wipe σ vs) G4 H4 S4 ds[i] x e' r4 ef _ fun σ5 S5 hw => ⟨?_, ?_⟩
      · rw [hw]; exact wipe_wipe _ _ fun _ h => h
      · refine ht' σ5 G4 H4 S5 _ (wp_mono p2 (fun b hb G5 H5 w5 => ?_) fun _ z => z)
        have nD4 : ∀ {G5 H5 : Hp}, Grow G4 H4 G5 H5 → H5 D = some (.lst acc) ∧ G5 D = none := fun {G5 H5} w5 =>
          ⟨w5.h _ _ (w4.h _ _ hA), w5.cl D (w4.cl D gA (by rw [hA]; intro z; cases z)) (by rw [w4.h _ _ hA]; intro z; cases z)⟩
        cases b with
        | false =>
          show ∃ G3 acc dn, _
          exact ⟨G5, acc, dn, wA.trans w5, (nD4 w5).1, (nD4 w5).2, rA.up (w4.g.trans w5.g), by omega, hb⟩
        | true =>
          show wEb X scope elt σ5 H5 _
          intro s0 H0 C cl fp
          refine hp' s0 H0 C cl fp σ5 G5 H5 (S5.grow w5) _ (wp_mono (wp_noE (wp_bnd.mp hb)) (fun d hd v G6 H6 w6 r6 => ?_) fun _ z => z.elim)
          have n6 := nD4 (w5.trans w6)
          refine ⟨acc, n6.1, Nat.lt_of_le_of_lt lA (Nat.lt_of_lt_of_le hlt (size_ok hln)), G6, acc ++ [v], dn ++ [d], ((wA.trans w5).trans w6).mutD hD n6.2, upd_same, n6.2, (rA.up (w4.g.trans (w5.g.trans w6.g))).app (.cons r6 .nil), by rw [List.length_append]; show _ + 1 ≤ _; omega, ?_⟩
          refine wp_mono (wp_bnd.mp hd) (fun ys hy => ?_) fun _ z => z
          show NewL X.K G H (dn ++ [d] ++ ys) Q
          rw [List.append_assoc]
          exact hy
    · have ei : i = ds.length := by omega
      subst ei
      rw [List.drop_length] at p
      have p : NewL X.K G H (dn ++ []) Q := p
      rw [List.append_nil] at p
      exact .inl ⟨wk.stop G' H' w'.g w'.up, p D acc G' H' w' hpD gA hA rA⟩
  · rw [if_neg hln] at hd
    exact hd.elim
/-- a comprehension with tests over what changes something while it is made, given to a name -/
theorem xb_letLcGV [Inhabited γ] {j : Nat} {y : Str} {py : Pos} {tg it elt : Expr} {ifs : List Expr} {scope : Scope} {posc : Pos} {own : List (Str × Nat)} {gg : TG} {tt : TT} {mi : R (List D × γ)} {mt : γ → D → R Bool} {me : γ → D → R D} {k : List D → γ → R ω} (g : Go X ec W) (χ : Addr → List D → γ → En) (hi : XIV X W eE tg it en mi φ) (b : ∀ c, LcB X scope (φ c) tg elt ifs own gg tt (mt c) (me c))
    (hk : ∀ a ds c, XB X W eE rest (χ a ds c) (k ds c) T) (hblk : BlkOk X.N X.env.scope scope own) (hNy : X.N[j]? = some y := by rfl) (hφ : ∀ a ds c, (φ c).set j (some (.o false a (.l ds))) = χ a ds c := by intro _ _ _; rfl)
    (hyl : X.env.scope.names.lookup y = some .local := by rfl) (hsw : swapsWith (.ListComp elt [⟨tg, it, ifs, 0⟩] scope posc) (some (.Name y py)) pos.line X.env = pure true := by exact sw_true rfl rfl rfl (by decide +kernel))
    (hs : ∀ x, foldedSetIterable it X.env x = pure x := by intro _; rfl) : XB X W eE (.Assign [.Name y py] (.ListComp elt [⟨tg, it, ifs, 0⟩] scope posc) pos :: rest) en (mi.bnd2 fun ds c => (lcIR (mt c) (me c) ds).bnd fun l => k l c) T := fun B σ G H S D q => by
  refine pss_to (pss_cons (ps_setLc g.calm g.nd hNy hyl hsw pi_w hblk (b default).pg (b default).pt pe_wb hs) pss_w) ?_
  unfold tSeq tAsg
  refine hi B σ G H S _ (wp_mono (wp_bnd.mp q) (fun r0 hd J G1 H1 l0 S1 wk => ?_) fun _ z => z)
  obtain ⟨ds, c⟩ := r0
  obtain ⟨f, h1, h2⟩ := (b c).tl
  refine lc_core h1 (b c).cl h2 σ G1 H1 S1.sl J ds wk (fun x H1 => gName j x σ H1 { nx := wB X rest D, rt := D.rt, bk := D.bk, ct := D.ct : Ends }.nx) _ (wp_mono (wp_bnd.mp hd) (fun l hl a vs G2 H2 w hp gp ep r => ?_) fun _ z => z)
  have := (S1.grow w).setO (i := j) (p := a) (c := .l l) (S1.noOwn hp) (S1.h0 hp) gp ⟨vs, ep, r⟩
  rw [hφ] at this
  exact hk a l c B _ G2 H2 this D hl
end
end Wk
set_option maxHeartbeats 4000000
/-! Wk41: sorted of a tuple of ints. -/
namespace SrtO
open PySem PyProof.Rows Srt
section
variable {prog : Program} {w : World} {A : Around} {E : Value → Shared → Prop} {s : Shared}
theorem collect_tupW {l : Addr} {vs : List Value} {Q : List Value → Shared → Prop} (hl : IsTup s.heap l vs.toArray)
    (h : Q vs { s with heap := (s.heap.push (seqObj "list" #[] 0)).update s.heap.objs.size (Obj.mapSeq (· ++ vs.toArray)) }) (hsz : vs.length ≤ sizeLine := by size_fits) :
    wpAny (model prog w) A (collect (.ref l)) Q E s := by
  obtain ⟨o, ho, hc, n, hd⟩ := id hl
  unfold collect
  refine wpAny_bind (wpAny_runValue (codeAny_builtin entry_proto_collect' ?_))
  show wpAny _ _ (do again (.builtin "list.__iadd__" ⟨[← newList [], .ref l], []⟩)) _ _ s
  refine wpAny_bind (wpAny_newList (wpAny_pure ⟨Code.quiet_builtin _ (by decide +kernel), codeAny_builtin entry_list_iadd' ?_⟩))
  show wpAny _ _ (Builtin.List.listExtendWith (.ref s.heap.objs.size) (.ref l) (.ref s.heap.objs.size)) _ _ { s with heap := s.heap.push (seqObj "list" #[] 0) }
  unfold Builtin.List.listExtendWith
  have ho' : (s.heap.push (seqObj "list" #[] 0)).get? l = some o := Heap.get?_push_of_some _ ho
  refine wpAny_bind (wpAny_typeOf (T := "tuple") ⟨o, ho', hc⟩ ?_)
  have ht : (Value.type "tuple" == Value.type "tuple") = true := by rfl
  rw [if_pos (by rw [ht]; simp)]
  refine wpAny_bind (listItems_at ho' hd ?_)
  refine wpAny_bind (listItems_at (xs := #[]) (n := 0) (Heap.get?_push_size _ rfl) rfl ?_)
  rw [if_neg (by simp)]
  refine wpAny_bind (listUpdate_at (xs := #[]) (n := 0) (Heap.get?_push_size _ rfl) rfl ?_ (Nat.zero_le _) (by show (#[] ++ vs.toArray).size ≤ sizeLine + 1; simp only [Array.size_append, List.size_toArray, List.length_nil]; omega))
  refine wpAny_pure ?_
  show wpAny (model prog w) A (do
      let o ← load s.heap.objs.size
      match o.data with
      | .seq xs _ => pure xs.toList
      | _ => unsupported "internal:collect") Q E { s with heap := (s.heap.push (seqObj "list" #[] 0)).update s.heap.objs.size (Obj.mapSeq (· ++ vs.toArray)) }
  refine wpAny_bind (wpAny_load (get?_update_seq (Heap.get?_push_size _ rfl) _) ?_)
  show wpAny _ _ (pure ((#[] : Array Value) ++ vs.toArray).toList) Q E _
  rw [show ((#[] : Array Value) ++ vs.toArray).toList = vs by simp]
  exact wpAny_pure h
theorem sorted_ordW {l : Addr} {vs : List Value} {ltv : Value → Value → Bool} {Q : Value → Shared → Prop} (O : Swo ltv) (hl : IsTup s.heap l vs.toArray) (hz : vs.length ≤ sizeLine)
    (hS : 2 ≤ vs.length → ∀ (h₁ : Heap) (a : Addr), h₁.get? a = some (seqObj "list" vs.toArray 0) → (∀ b o, s.heap.get? b = some o → b ≠ a ∧ h₁.get? b = some o) → SortableO prog w A.in1.in1 { s with heap := h₁ } a vs ltv)
    (h : ∀ out : List Value, Srtd ltv out → Stb ltv out vs → Q (.ref (s.heap.objs.size + 1)) { s with heap := sortedAll s.heap vs out.toArray }) :
    wpAny (model prog w) A (call (.builtin "sorted") [.ref l]) Q E s := by
  refine Calls.call_function_entry kind_sorted plain_sorted entry_sorted (args_sorted1 _) ?_
  unfold Builtin.«sorted»
  refine wpAny_bind (m := checkCount "sorted" 1 1 _) (wpAny_pure ?_)
  refine wpAny_bind (collect_tupW hl ?_ hz)
  refine wpAny_bind (wpAny_newList ?_ hz)
  have hsz : ((s.heap.push (seqObj "list" #[] 0)).update s.heap.objs.size (Obj.mapSeq (· ++ vs.toArray))).objs.size = s.heap.objs.size + 1 := by
    rw [Heap.size_update, size_push']
  have hoL : (((s.heap.push (seqObj "list" #[] 0)).update s.heap.objs.size (Obj.mapSeq (· ++ vs.toArray))).push (seqObj "list" vs.toArray 0)).get? (s.heap.objs.size + 1) = some (seqObj "list" vs.toArray 0) := by
    rw [← hsz]; exact Heap.get?_push_size _ rfl
  have keep : ∀ b o, s.heap.get? b = some o → b ≠ s.heap.objs.size + 1 ∧ (((s.heap.push (seqObj "list" #[] 0)).update s.heap.objs.size (Obj.mapSeq (· ++ vs.toArray))).push (seqObj "list" vs.toArray 0)).get? b = some o := fun b o q => by
    have hlt : b < s.heap.objs.size := Heap.lt_size q
    refine ⟨Nat.ne_of_lt (Nat.lt_succ_of_lt hlt), Heap.get?_push_of_some _ ?_⟩
    rw [Heap.get?_update_ne _ _ _ _ (Nat.ne_of_lt hlt)]
    exact Heap.get?_push_of_some _ q
  show wpAny _ _ _ _ _ { s with heap := ((s.heap.push (seqObj "list" #[] 0)).update s.heap.objs.size (Obj.mapSeq (· ++ vs.toArray))).push (seqObj "list" vs.toArray 0) }
  rw [hsz]
  refine wpAny_bind (wpAny_holding (wpAny_call_entry slot_list_sort ⟨_, hoL, rfl⟩ entry_list_sort (list_sort_ord O hoL hz (fun h2 => hS h2 _ _ hoL keep) fun out hs hb => ⟨_, rfl, ?_⟩) (args_list_sort _)))
  exact wpAny_pure ⟨_, rfl, h out hs hb⟩
end
end SrtO
namespace Wk
open PySem PySem.Spec PyProof.Rows L2
/-- sorted(xs), xs a tuple of ints -/
def rSortedW (K : PySem.W.Frag) : List V → Hp → VK → Prop := fun vs H Q => ∃ (a : Addr) (ns : List Int), vs = [V.ref a] ∧ SqT K H a (ns.map V.int) ∧
  ∀ (ns' : List Int) (p : Addr), ns'.Perm ns → ns'.Pairwise (· ≤ ·) → H p = none → Q (.ref p) (upd H p (.lst (ns'.map V.int)))
def D.sortedW : List D → Option (List D)
  | [.tup xs] => (intsD xs).map fun ns => (sortI ns).map .int
  | [.tux xs] => (intsD xs).map fun ns => (sortI ns).map .int
  | _ => none
section
variable {X : Cx} {K : PySem.W.Frag}
theorem cr_sortedW : CallR X (.builtin "sorted") (rSortedW X.K) := by
  intro pins s σ H vs us Q I r h
  obtain ⟨a, ns, rfl, hs, q⟩ := h
  obtain ⟨its, rv, hl, hz⟩ := I.tuple hs
  rw [Vals.ref1 r]
  have hi := rv.ints
  refine SrtO.sorted_ordW SrtO.swo_int hl (by rw [← rv.length]; exact hz) (fun h2 h₁ a' _ _ => SrtO.ints_sortable hi h2) fun out h1 h2 => ?_
  obtain ⟨k1, k2, k3⟩ := SrtO.ints_out hi h1 h2
  obtain ⟨ep, he'⟩ := PyProof.Rows.sortedAll_at s.heap its out.toArray
  have hlen : ((out.map SrtO.iv).map V.int).length ≤ sizeLine := by
    rw [List.length_map, k2.length_eq]
    rw [List.length_map] at hz
    exact hz
  exact ⟨.ref _, upd H (s.heap.objs.size + 1) (.lst ((out.map SrtO.iv).map V.int)), I.laid (t' := s.toks) (fun _ _ => PyProof.Rows.sortedAll_old) (Nat.le_succ _) ⟨hlen, out, ep, vals_of_ints k1, he'⟩, rfl, q _ _ k2 k3 (I.hok.fresh (Nat.le_succ _))⟩
theorem d_sortedW : CallN K (rSortedW K) D.sortedW := fun G H xs ds d l r e Q q => by
  unfold D.sortedW at e
  split at e
  · obtain ⟨ns, e1, rfl⟩ := Option.map_eq_some_iff.mp e
    cases r with
    | cons a b =>
      cases b
      cases a with
      | tup h1 r1 =>
        have := ints_rp e1 r1
        subst this
        refine ⟨_, ns, rfl, l.le.seqT h1, fun ns' p hp hs hn => ?_⟩
        have e : ns' = sortI ns := srt_eq (hp.trans (sortI_perm ns).symm) hs (sortI_srt ns)
        rw [e]
        exact newL l hn (all_ints _) q
  · obtain ⟨ns, e1, rfl⟩ := Option.map_eq_some_iff.mp e
    cases r with
    | cons a b =>
      cases b
      cases a with
      | tux h1 r1 =>
        have := ints_rp e1 r1
        subst this
        refine ⟨_, ns, rfl, l.le.seqT (.inl h1.1), fun ns' p hp hs hn => ?_⟩
        have e : ns' = sortI ns := srt_eq (hp.trans (sortI_perm ns).symm) hs (sortI_srt ns)
        rw [e]
        exact newL l hn (all_ints _) q
  · cases e
end
end Wk
set_option maxHeartbeats 4000000
/-! Wk42: in a tuple of tuples; index in a tuple of ints; enumerate of a tuple. -/
namespace Wk
open PySem PySem.Spec PyProof.Rows L2
section
variable {X : Cx} {K : PySem.W.Frag}
/-- x in y, y a tuple of data of any depth -/
def rInDT (K : PySem.W.Frag) : R2 := fun x y H Q => ∃ d ds, Dp K H x d ∧ Dp K H y (.tuple ds) ∧ SeqAt.shaped d = true ∧ SeqAt.shaped (.tuple ds) = true ∧ d.depth ≤ 62 ∧ Q (.bl (ds.any fun z => PyData.eqv z d)) H
def rNotInDT (K : PySem.W.Frag) : R2 := fun x y H Q => ∃ d ds, Dp K H x d ∧ Dp K H y (.tuple ds) ∧ SeqAt.shaped d = true ∧ SeqAt.shaped (.tuple ds) = true ∧ d.depth ≤ 62 ∧ Q (.bl (!ds.any fun z => PyData.eqv z d)) H
theorem o_inT (hu : X.A.units + 64 < cLine) : OpR X (compareOp .In) (rInDT X.K) := by
  intro pins s σ H x y v u Q I rx ry h
  obtain ⟨d, ds, hd, he, sd, se, dd, q⟩ := h
  obtain ⟨as, r1⟩ := Dp.reads I d x v hd rx
  obtain ⟨bs, r2⟩ := Dp.reads I (.tuple ds) y u he ry
  exact SeqAt.in_tuple_reads r2 r1 (SeqAt.canLay_of_shaped se) (SeqAt.canLay_of_shaped sd) (by have := Nat.min_le_right (PyData.depthAll ds) d.depth; omega) ⟨.bl _, H, I, rfl, q⟩
theorem o_notinT (hu : X.A.units + 64 < cLine) : OpR X (compareOp .NotIn) (rNotInDT X.K) := by
  intro pins s σ H x y v u Q I rx ry h
  obtain ⟨d, ds, hd, he, sd, se, dd, q⟩ := h
  obtain ⟨as, r1⟩ := Dp.reads I d x v hd rx
  obtain ⟨bs, r2⟩ := Dp.reads I (.tuple ds) y u he ry
  exact SeqAt.notIn_tuple_reads r2 r1 (SeqAt.canLay_of_shaped se) (SeqAt.canLay_of_shaped sd) (by have := Nat.min_le_right (PyData.depthAll ds) d.depth; omega) ⟨.bl _, H, I, rfl, q⟩
def D.inT (x y : D) : Option Bool := match y with
  | .tup ys => (D.py x).bind fun a => (D.pys ys).bind fun b => if SeqAt.shaped a = true ∧ SeqAt.shaped (.tuple b) = true ∧ a.depth ≤ 62 then some (b.any fun z => PyData.eqv z a) else none
  | _ => none
def D.notinT (x y : D) : Option Bool := (D.inT x y).map fun b => !b
theorem d_inT : OpD K (rInDT K) (fun x y => (D.inT x y).map .bl) := fun G H x y dx dy d l rx ry e Q q => by
  obtain ⟨b, e1, rfl⟩ := Option.map_eq_some_iff.mp e
  unfold D.inT at e1
  split at e1
  · simp only [Option.bind_eq_some_iff] at e1
    obtain ⟨a, ea, c, ec, e1⟩ := e1
    split at e1
    · rename_i hs
      cases e1
      exact ⟨a, c, Rp.dp l rx ea, Rp.dp l ry (by simp only [D.py, ec]; rfl), hs.1, hs.2.1, hs.2.2, keepQ l q (.bl _)⟩
    · cases e1
  · cases e1
theorem d_notinT : OpD K (rNotInDT K) (fun x y => (D.notinT x y).map .bl) := fun G H x y dx dy d l rx ry e Q q => by
  obtain ⟨b0, e0, rfl⟩ := Option.map_eq_some_iff.mp e
  obtain ⟨b, e1, rfl⟩ := Option.map_eq_some_iff.mp e0
  obtain ⟨a, c, h1, h2, h3, h4, h7, b', h5, h6⟩ := d_inT (K := K) G H x y dx dy (.bl b) l rx ry (by show Option.map D.bl _ = _; rw [e1]; rfl) (fun v H2 => ∃ b', v = .bl b' ∧ Q (.bl (!b')) H2) (fun v G2 H2 w r => by cases r; exact ⟨_, rfl, q _ G2 H2 w (.bl _)⟩)
  cases h5; exact ⟨a, c, h1, h2, h3, h4, h7, h6⟩
/-- t.index(x), ints -/
theorem mt_tup_indexI : MtR X "tuple.index" (fun x xs H Q => ∃ p, ∃ ys : List Int, ∃ z j, x = .ref p ∧ xs = [.int z] ∧ SqT X.K H p (ys.map V.int) ∧ ys[j]? = some z ∧ (∀ m, m < j → ys[m]? ≠ some z) ∧ Q (.int (j : Nat)) H) := by
  intro pins s σ H x xs v us Q I rx rs h
  obtain ⟨p, ys, z, j, rfl, rfl, hq, hy, hno, q⟩ := h
  cases rx
  have fl : (ys.map V.int).all flatV = true := by
    rw [List.all_map]; exact List.all_eq_true.mpr fun _ _ => rfl
  obtain ⟨u, rfl, t, rfl⟩ := vals1 rs
  obtain ⟨its, r, pl, hz⟩ := I.tuple hq
  obtain ⟨⟨cls, dd, dt, sl⟩, ho, hc, n, hd⟩ := pl
  simp only at hc hd
  subst hc
  subst hd
  have hl : its.toArray.size = ys.length := by rw [List.size_toArray, ← r.length, List.length_map]
  have hj : j < its.toArray.size := by rw [hl]; exact (List.getElem?_eq_some_iff.mp hy).1
  have at' : ∀ (m : Nat) (hm : m < its.toArray.size), ∃ y t', ys[m]? = some y ∧ its.toArray[m] = Value.int y t' := fun m hm => by
    have hm' : m < ys.length := by rw [← hl]; exact hm
    obtain ⟨w, hw, t', hw'⟩ := r.get (i := m) (x := .int ys[m]) (by simp [hm'])
    refine ⟨ys[m], t', List.getElem?_eq_getElem hm', ?_⟩
    have e := (List.getElem?_eq_some_iff.mp hw).2
    rw [← hw', ← e]
    simp
  refine call_meets PySem.F.slot_tuple_index ⟨_, ho, rfl⟩ PySem.F.entry_tuple_index (PySem.F.args_tuple_index_2 _ _) (TI.tuple_indexAt p its.toArray n dd sl (.int z t) (eqU (.int z)) j hj ?_ ?_)
    ⟨ho, fun w hw => mem_eqAt (x := .int z) ⟨t, rfl⟩ rfl r fl w (by simpa using hw), ⟨.int (j : Nat), H, I.tok _, ⟨_, rfl⟩, q⟩⟩
  · obtain ⟨y, t', h1, h2⟩ := at' j hj
    rw [hy] at h1
    cases h1
    rw [h2]
    show (z == z) = true
    exact beq_self_eq_true z
  · intro m hm hmj
    obtain ⟨y, t', h1, h2⟩ := at' m hm
    rw [h2]
    show (y == z) = false
    exact beq_eq_false_iff_ne.mpr fun e => hno m hmj (by rw [h1, e])
end
def D.tpl : D → Option (List D)
  | .tux xs => some xs
  | _ => none
section
variable {X : Cx} {W : WN} {eE : En} {en : En} {ec : Nat → Addr} {pos : Pos} {a b : Expr}
def tTix (r : V → List V → Hp → VK → Prop) (to : TE) (t : TA) : TE := fun σ H Q => to σ H fun x H1 => (∃ p xs, x = .ref p ∧ XTu H1 p xs) ∧ t σ H1 fun vs H2 => r x vs H2 Q
theorem pe_tix {o : Expr} {e : Expr} {es : List Expr} {apos cpos : Pos} {r : V → List V → Hp → VK → Prop} {to : TE} {t : TA} (hm : MtR X "tuple.index" r) (ho : PE X o to) (ha : PA X (e :: es) t)
    (hbase : attributeBase o "index" X.env (eval o X.env) = eval o X.env := by rfl)
    (hfew : ((backTo cpos (starEach (e :: es) X.env)).all (fun x => !x.1) && (backToKw cpos (keywordEach [] X.env)).all (fun x => x.1.isSome)
      && decide ((e :: es).length + ([] : List Keyword).length + (if ([] : List Keyword).isEmpty then 0 else 1) < 30)) = true := by rfl)
    (hline : (apos.endLine == cpos.line) = true := by rfl) (hs : starEach (e :: es) X.env = (false, eval e X.env) :: starEach es X.env := by rfl) (hplain : (backTo cpos (starEach es X.env)).any (·.1) = false := by rfl) :
    PE X (.Call (.Attribute o "index" apos) (e :: es) [] cpos) (tTix r to t) := by
  refine ⟨fun pins s σ H Q I h => ?_⟩
  refine wpAny_Call_method_late hbase hfew hline rfl (thn (ho.run pins s σ H _ I h) fun v s1 ⟨x, H1, I1, r1, ty, q1⟩ => ?_)
  obtain ⟨p, xs, rfl, _, ob, h1, h2, h3⟩ := ty
  obtain rfl : v = .ref p := by cases r1; rfl
  have hg : s1.heap.get? p = some ob := by
    rcases h1 with z | ⟨u, z⟩
    · exact (I1.hok p _ z).1
    · exact (I1.hok p _ z).2.1
  refine ⟨"tuple", "tuple.index", PySem.F.plainAttrs_tuple, PySem.F.slot_tuple_index, PySem.F.type_tuple_index, ⟨ob, hg, h2⟩, fun a e => ?_, ?_⟩
  · cases e; exact ⟨ob, hg, h3⟩
  have hA := ha.run cpos pins s1 σ H1 _ I1 q1
  rw [hs] at hA ⊢
  refine Calls.callWith_builtin (by show (false || (backTo cpos (starEach es X.env)).any (·.1)) = false; rw [hplain] <;> rfl) (Calls.evalArgs_plain ?_)
  exact thn hA fun us s2 ⟨vs, H2, I2, r2, q2⟩ => hm pins s2 σ H2 _ vs _ us Q I2 r1 r2 q2
theorem xp_indexT {ma mb : R D} {pa pc : Pos} (ha : XP X W a en ma) (hb : XP X W b en mb)
    (hbase : attributeBase a "index" X.env (eval a X.env) = eval a X.env := by rfl)
    (hfew : ((backTo pc (starEach [b] X.env)).all (fun x => !x.1) && (backToKw pc (keywordEach [] X.env)).all (fun x => x.1.isSome)
      && decide (([b] : List Expr).length + ([] : List Keyword).length + (if ([] : List Keyword).isEmpty then 0 else 1) < 30)) = true := by rfl)
    (hline : (pa.endLine == pc.line) = true := by rfl) (hs : starEach [b] X.env = (false, eval b X.env) :: starEach [] X.env := by rfl) (hplain : (backTo pc (starEach [] X.env)).any (·.1) = false := by rfl) :
    XP X W (.Call (.Attribute a "index" pa) [b] [] pc) en (ma.bnd fun x => (R.of x.tpl).bnd fun xs => mb.bnd fun y => R.of (idxD xs y)) := fun σ G H S Q k => by
  refine pe_to (pe_tix mt_tup_indexI pe_w (pa_cons pe_w pa_nil hs) hbase hfew hline hs hplain) (ha σ G H S _ (wp_mono (wp_bnd.mp k) (fun x hx v G1 H1 w1 r1 => ?_) fun _ z => z))
  obtain ⟨xs, ex, hx⟩ := wp_of (wp_bnd.mp hx)
  cases x <;> cases ex
  cases r1 with
  | @tux p vs _ h1 r1 =>
    refine ⟨⟨p, vs, rfl, h1.up w1.up.le⟩, ?_⟩
    refine hb σ G1 H1 (S.grow w1) _ (wp_mono (wp_bnd.mp hx) (fun y hy u G2 H2 w2 r2 => ?_) fun _ z G2 H2 w => z G2 H2 (w1.trans w))
    obtain ⟨d, e, hd⟩ := wp_of hy
    unfold idxD at e
    split at e
    · rename_i y'
      obtain ⟨ns, e1, e2⟩ := Option.bind_eq_some_iff.mp e
      obtain ⟨j, e3, rfl⟩ := Option.map_eq_some_iff.mp e2
      cases r2
      have ev := ints_rp e1 r1
      subst ev
      obtain ⟨h2, h3⟩ := idxI_some e3
      refine ⟨p, ns, y', j, rfl, rfl, .inl (w2.up.le _ _ rfl (w2.g _ _ rfl h1.1)), h2, fun m hm z => ?_, hd _ G2 H2 (w1.trans w2) (.int _)⟩
      exact h3 m y' hm z rfl
    · cases e
end
end Wk
set_option maxHeartbeats 4000000
/-! Wk43: enumerate of a tuple. -/
namespace PySem
open Sem (wp)
open AutoSeq1 (wpAny_loadPart')
theorem meets_enumerate_newW (l : Addr) (items : Array Value) (n : Nat) (dct : Option Addr) (sl : Array (Option Value)) :
    Meets (Builtin.«enumerate.__new__» ⟨[.type "enumerate", .ref l], []⟩) (fun _ R s => s.heap.get? l = some { cls := .type "tuple", dict := dct, data := .seq items n, slots := sl } ∧
      R (.ok (.ret (.ref (s.heap.push { cls := .type "tuple_iterator", data := .fields #[.ref l, .int 0 0] }).objs.size)))
        { s with heap := (s.heap.push { cls := .type "tuple_iterator", data := .fields #[.ref l, .int 0 0] }).push { cls := .type "enumerate", data := .fields #[.none, .bool false, .ref s.heap.objs.size, rawInt 0, .none, .none] } }) :=
  .of_wp fun prog w A R s h => by
    obtain ⟨hp, g, d, tk, os⟩ := s; obtain ⟨hl, h⟩ := h
    have hsub := sub_enumerate
    have hL : Heap.IsTuple (Shared.heap ⟨hp, g, d, tk, os⟩) l items := ⟨_, hl, rfl, n, rfl⟩
    wp_walk using wpAny_loadPart' hl
    refine wpAny_stack_any fun st => wpAny_pure ?_
    split
    · rename_i c _ _ _ _ _
      cases (c == Value.type "enumerate")
      · wp_walk using wpAny_loadPart' hl, wpAny_pyIter_tuple hL
        exact ⟨_, rfl, h⟩
      · wp_walk using wpAny_loadPart' hl, wpAny_pyIter_tuple hL
        exact ⟨_, rfl, h⟩
    · wp_walk using wpAny_loadPart' hl, wpAny_pyIter_tuple hL
      exact ⟨_, rfl, h⟩
section
variable {prog : Program} {w : World} {A : Around} {E : Value → Shared → Prop} {s : Shared}
theorem call_enumerate_tupW {l : Addr} {items : Array Value} {Q : Value → Shared → Prop} (hL : s.heap.IsTuple l items)
    (h : ∀ h', IsEnum h' (s.heap.objs.size + 1) s.heap.objs.size 0 .none → h'.IsTupleIter s.heap.objs.size l 0 → h'.objs.size = s.heap.objs.size + 2 →
      (∀ b o, s.heap.get? b = some o → h'.get? b = some o) → Q (.ref (s.heap.objs.size + 1)) { s with heap := h' }) :
    wpAny (model prog w) A (call (.type "enumerate") [.ref l]) Q E s := by
  obtain ⟨⟨c, dct, dt, sl⟩, hl, hc, n, hd⟩ := hL
  replace hc : c = .type "tuple" := hc
  replace hd : dt = .seq items n := hd
  subst hc hd
  refine callType_new F.called_enumerate (by decide) (F.typeCall_enumerate_1 _) (F.newCall_enumerate_1 _) (fun obj => F.args_object_init_2 obj _) F.entry_enumerate_new
    (meets_enumerate_newW l items n dct sl) ⟨hl, ?_⟩
  have hz : (s.heap.push { cls := .type "tuple_iterator", data := .fields #[.ref l, .int 0 0] }).objs.size = s.heap.objs.size + 1 := Heap.size_push ..
  show _ ∧ _
  rw [hz]
  have he : IsEnum ((s.heap.push { cls := .type "tuple_iterator", data := .fields #[.ref l, .int 0 0] }).push
      { cls := .type "enumerate", data := .fields #[.none, .bool false, .ref s.heap.objs.size, rawInt 0, .none, .none] }) (s.heap.objs.size + 1) s.heap.objs.size 0 .none := by
    have := Heap.get?_push_size (s.heap.push { cls := .type "tuple_iterator", data := .fields #[.ref l, .int 0 0] })
      (o := { cls := .type "enumerate", data := .fields #[.none, .bool false, .ref s.heap.objs.size, rawInt 0, .none, .none] }) rfl
    rw [hz] at this; exact this
  refine ⟨⟨_, he, rfl⟩, h _ he ⟨_, Heap.get?_push_of_some _ (Heap.get?_push_size _ rfl), rfl, rfl⟩ (by rw [Heap.size_push, hz]) fun b o x => Heap.get?_push_of_some _ (Heap.get?_push_of_some _ x)⟩
theorem wpAny_pyNext_enum_endW {e it l : Addr} {i : Nat} {items : Array Value} {old : Value} {Q : Option Value → Shared → Prop} (hh : A.handled = none)
    (he : IsEnum s.heap e it i old) (hit : s.heap.IsTupleIter it l i) (hl : s.heap.IsTuple l items) (hx : items[i]? = none)
    (hQ : ∀ h', Heap.ExtBut it s.heap h' → Q none { s with heap := h' }) : wpAny (model prog w) A (pyNext (.ref e)) Q E s := by
  have hT : s.TypeIs (.ref e) "enumerate" := ⟨_, he, rfl⟩
  unfold pyNext
  refine wpAny_bind (wpAny_attempt (wpAny_callSpecial?_slot (name := Str.ofString "__next__") hT F.slot_enumerate_next
    (wpAny_call_entry F.slot_enumerate_next hT F.entry_enumerate_next ?_ (F.args_enumerate_next_1 _))))
  show wpAny _ _ (field (.ref e) 2 >>= _) _ _ _
  refine wpAny_bind (wpAny_field he rfl (x := .ref it) rfl ?_)
  refine wpAny_bind (wpAny_nextOf_tuple_end hh hit hl hx fun h' x he' hx' => ?_)
  obtain ⟨o, ho, hc⟩ := hx'
  refine wpAny_bind (wpAny_isInstance (T := "StopIteration") (b := true) ⟨o, ho, hc⟩ isSubtype_stop ?_)
  exact wpAny_pure (hQ _ he')
end
end PySem
namespace L2
open PySem PySem.Spec PyProof.Rows
/-- the tuple at a, each item in a new pair -/
def IteW (K : PySem.W.Frag) (a : Addr) : It :=
  ⟨fun i H => ∃ (xs : List V) (x : V), SqT K H a xs ∧ xs[i]? = some x, fun i H v H' => ∃ T x, v = .ref T ∧ H T = none ∧ H' = upd H T (.tup [.int (i : Nat), x]) ∧ ∀ xs, SqT K H a xs → xs[i]? = some x, fun i H => ∃ xs : List V, SqT K H a xs ∧ xs.length ≤ i⟩
theorem turn_enumW {P : Program} {w : World} {K : PySem.W.Frag} {elts : List Expr} {kk : Nat} {tpos : Pos} (a e it : Addr) :
    Turn P w K (.Tuple elts kk tpos) (IteW K a) [e, it] e (fun i h => (∃ old, IsEnum h e it ((i : Nat) : Int) old) ∧ h.IsTupleIter it a i ∧ e ≠ it) where
  mem := by simp
  obj := fun i h st b hb => by
    obtain ⟨⟨old, he⟩, ⟨o, ho, hc, hd⟩, _⟩ := st
    have e' : b = e ∨ b = it := by simpa using hb
    rcases e' with z | z
    · rw [z]; exact ⟨_, he, fun v q => nomatch q⟩
    · rw [z]; exact ⟨o, ho, fun v q => by rw [hd] at q; cases q⟩
  keep := fun i h h' st k => let ⟨⟨old, he⟩, hi, hne⟩ := st; ⟨⟨old, k e (by simp) _ he⟩, hi.at fun o q => k it (by simp) o q, hne⟩
  item := by
    intro X hP hw hK hc i pins s σ H E I hf st hg
    subst hP hw hK
    obtain ⟨⟨old, he⟩, hit, hne⟩ := st
    obtain ⟨xs, x, hq, hx⟩ := hg
    obtain ⟨its, rv, p, hz⟩ := I.tuple hq
    obtain ⟨u, hu, ru⟩ := rv.get hx
    have hel : e < s.heap.objs.size := Heap.lt_size he
    have hil : it < s.heap.objs.size := by obtain ⟨_, q, _⟩ := hit; exact Heap.lt_size q
    have hta : a ≠ it := fun z => by
      subst z
      obtain ⟨o, q, c, _⟩ := hit
      obtain ⟨o', q', c', _⟩ := p
      rw [q] at q'; cases q'; rw [c] at c'; injection c' with c'; exact absurd c' (by decide)
    have hea : e ≠ a := fun z => by
      subst z
      obtain ⟨o', q', c', _⟩ := p
      rw [he] at q'; cases q'; injection c' with c'; exact absurd c' (by decide)
    have hil2 : i < its.toArray.size := by
      have := (List.getElem?_eq_some_iff.mp hu).1
      simpa using this
    refine wpAny_pyNext_enum_itemD (Draws.tuple (A := X.A.in1) (I.ok.hd hc) it a hta its.toArray) he ⟨hit, p⟩ hil2 hne (by simp [hne, hea]) fun u' h' tk hu' ho hit' hT hsz hk => ?_
    obtain ⟨hit', _⟩ := hit'
    have eu : u' = u := by
      have : its[i]? = some u' := by simpa using hu'
      rw [hu] at this; cases this; rfl
    subst eu
    refine ⟨_, rfl, wpAny_letOwnedTupleGo_enum (s := { s with heap := h', toks := tk + 1 }) ho fun h'' he' sb => ?_⟩
    have hT2 : h''.get? s.heap.objs.size = some { cls := .type "tuple", data := .seq #[.int i tk, u'] } := (sb.2 _ (Nat.ne_of_gt hel)).trans hT
    have new : ObjOk X.prog X.w (upd H s.heap.objs.size (.tup [.int (i : Nat), x])) h'' s.heap.objs.size (.tup [.int (i : Nat), x]) :=
      ⟨by show 2 ≤ sizeLine; decide, [.int i tk, u'], .cons ⟨_, rfl⟩ (.cons ru .nil), ⟨_, hT2, rfl, _, rfl⟩⟩
    have I1 : Inv X pins σ (upd H s.heap.objs.size (.tup [.int (i : Nat), x])) { s with heap := h'', toks := tk + 1 } :=
      I.turnedNew (ch := [e, it]) (fun b ob hb q => (sb.2 b (fun z => hb (by simp [z]))).trans (hk b ob (fun z => hb (by simp [z])) (fun z => hb (by simp [z])) q)) hf (Nat.le_refl _) new
    refine ⟨.ref s.heap.objs.size, _, I1, rfl, ⟨_, x, rfl, I.hok.fresh (Nat.le_refl _), rfl, fun ys hy => by rw [I.tuple_inj hy hq]; exact hx⟩, ⟨⟨u', ?_⟩, hit'.at fun o q => (sb.2 it (Ne.symm hne)).trans q, hne⟩, fun b hb => ?_⟩
    · have e1 : ((i + 1 : Nat) : Int) = (i : Int) + 1 := by omega
      rw [e1]; exact he'
    · have hb' : b < s.heap.objs.size := by
        have e' : b = e ∨ b = it := by simpa using hb
        rcases e' with z | z
        · rw [z]; exact hel
        · rw [z]; exact hil
      rw [upd_ne (Nat.ne_of_lt hb')]
      exact (hf b hb).1
  done := by
    intro X hP hw hK hc i pins s σ H E I hf st hg
    subst hP hw hK
    obtain ⟨⟨old, he⟩, hit, hne⟩ := st
    obtain ⟨xs, hq, hx⟩ := hg
    obtain ⟨its, rv, p, hz⟩ := I.tuple hq
    obtain ⟨f0, f1, f2, f3, f4, f5⟩ := hf it (by simp)
    have hl := rv.length
    exact wpAny_pyNext_enum_endW (I.ok.hd hc) he hit p (by simp; omega) fun h' eb => ⟨rfl, I.turned (t' := s.toks) (fun b o hb q => eb b o hb q) f0 f1 f3 f4 f5⟩
  self := fun A i s Q E st h => let ⟨⟨_, he⟩, _⟩ := st; wpAny_pyIter_enum he h
def iEnumW (K : PySem.W.Frag) (ta : TA) : TI := fun σ H R => ta σ H fun vs H1 => ∃ a xs, vs = [.ref a] ∧ SqT K H1 a xs ∧ R (IteW K a) H1
theorem pi_enumW {X : Cx} {e : Expr} {ta : TA} {p pos tpos : Pos} {elts : List Expr} {kk : Nat} (hg : Gl X "enumerate") (hm : X.mg "enumerate" = none) (ha : PA X [e] ta) (hs : starEach [e] X.env = [(false, eval e X.env)] := by rfl) :
    PI X (.Tuple elts kk tpos) (.Call (.Name "enumerate" p) [e] [] pos) (iEnumW X.K ta) := by
  refine ⟨fun pins s σ H R I h => ?_⟩
  refine Call_ (ld_blt I hg hm boot_enumerate (PyProof.Rows.callWith_type1 (thn (ha.run pos pins s σ H _ I h) fun us s1 ⟨vs, H1, I1, r1, q1⟩ => ?_) hs rfl))
  obtain ⟨a, xs, ex, hq, q⟩ := q1
  subst ex
  cases r1 with
  | cons r rr =>
    cases rr
    cases r
    obtain ⟨its, rv, p', hz⟩ := I1.tuple hq
    refine call_enumerate_tupW p' fun h' he hit hsz hk => wpAny_pyIter_enum he ?_
    have I2 : Inv X pins σ H1 { s1 with heap := h' } := I1.kept (t' := s1.toks) hk
    refine ⟨s1.heap.objs.size + 1, [s1.heap.objs.size + 1, s1.heap.objs.size], _, _, H1, rfl, I2, turn_enumW a (s1.heap.objs.size + 1) s1.heap.objs.size, ⟨⟨.none, he⟩, hit, Nat.succ_ne_self _⟩, fun b hb => ?_, q⟩
    have e' : b = s1.heap.objs.size + 1 ∨ b = s1.heap.objs.size := by simpa using hb
    have hle : s1.heap.objs.size ≤ b := by
      rcases e' with z | z
      · rw [z]; exact Nat.le_add_right _ _
      · rw [z]; exact Nat.le_refl _
    exact I1.fpOk hle (I1.hok.fresh hle)
end L2
namespace Wk
open PySem PySem.Spec PyProof.Rows L2
theorem wlk_EW {K : PySem.W.Frag} {G : Hp} {p : Addr} {vs : List V} {ds : List D} (h : SqT K G p vs) (r : RpAll K G vs ds) : Wlk K (IteW K p) G (enumD ds) := by
  refine ⟨fun G' H' l k => ⟨vs, k.le.seqT (l.seqT h), ?_⟩, fun i d e G' H' l k => ?_⟩
  · rw [r.len]; unfold enumD; simp
  · unfold enumD at e
    rw [List.getElem?_mapIdx] at e
    obtain ⟨d0, e0, rfl⟩ := Option.map_eq_some_iff.mp e
    obtain ⟨u, hu, ru⟩ := r.get e0
    have hq : SqT K H' p vs := k.le.seqT (l.seqT h)
    refine ⟨⟨vs, u, hq, hu⟩, fun x H'' y => ?_⟩
    obtain ⟨T, x', rfl, hT, rfl, y⟩ := y
    have := y vs hq
    rw [hu] at this; cases this
    have w := Grow.new (o := .tup [.int (i : Nat), u]) k hT rfl
    exact ⟨_, w, .tup (.inl (.inl upd_same)) (.cons (.int _) (.cons ((ru.up l).up w.g) .nil))⟩
def D.enumT : D → Option (List D)
  | .tup xs => some (enumD xs)
  | .tux xs => some (enumD xs)
  | _ => none
section
variable {X : Cx} {W : WN} {eE : En} {en : En} {ec : Nat → Addr} {pos : Pos} {a b : Expr} {ma : R D}
theorem xi_enumT {p tpos : Pos} {elts : List Expr} {kk : Nat} (hm : X.mg "enumerate" = none) (h : XP X W a en ma) (hg : Gl X "enumerate" := by rfl) (hs : starEach [a] X.env = [(false, eval a X.env)] := by rfl) : XI X W (.Tuple elts kk tpos) (.Call (.Name "enumerate" p) [a] [] pos) en (ma.bnd fun x => R.of x.enumT) := fun σ G H S Q k => by
  refine pi_to (pi_enumW hg hm pa_w hs) (xa_1 h hs σ G H S _ (wp_bnd.mpr (wp_mono (wp_bnd.mp k) (fun d hd vs G1 H1 w1 r1 => ?_) fun _ z => z)))
  obtain ⟨ds, e, hd⟩ := wp_of hd
  unfold D.enumT at e
  split at e
  · cases e
    cases r1 with
    | cons r1 r2 =>
      cases r2
      cases r1 with
      | tup h1 r => exact ⟨_, _, rfl, w1.up.le.seqT h1, hd _ G1 H1 w1 (wlk_EW h1 r)⟩
  · cases e
    cases r1 with
    | cons r1 r2 =>
      cases r2
      cases r1 with
      | tux h1 r => exact ⟨_, _, rfl, w1.up.le.seqT (.inl h1.1), hd _ G1 H1 w1 (wlk_EW (.inl h1.1) r)⟩
  · cases e
end
@[simp] theorem s_enumT {xs : List D} : D.enumT (.tup xs) = some (enumD xs) := by exact id rfl
@[simp] theorem s_enumX {xs : List D} : D.enumT (.tux xs) = some (enumD xs) := by exact id rfl
end Wk
set_option maxHeartbeats 4000000
/-! Wk44: tuples that are known to have no dict of their own (so that a method of theirs can be called). -/
namespace Wk
open PySem PySem.Spec PyProof.Rows L2 HT
/-- a new tuple, its object known -/
def NewX (xs : List V) (H : Hp) (Q : VK) : Prop := ∀ p (ob : Obj), H p = none → ob.cls = .type "tuple" → ob.dict = none → Q (.ref p) (upd H p (.frz ob (.tup xs)))
theorem newX {K : PySem.W.Frag} {G H : Hp} {vs : List V} {ds : List D} {Q : VK} (l : Lk G H) (r : RpAll K G vs ds) (q : ∀ v G2 H2, Grow G H G2 H2 → Rp K G2 v (.tux ds) → Q v H2) : NewX vs H Q := fun p ob hp hc hd => by
  have w := Grow.new (o := .frz ob (.tup vs)) l hp rfl
  exact q _ _ _ w (.tux ⟨.inr ⟨ob, upd_same⟩, ob, .inl upd_same, hc, hd⟩ (r.up w.g))
section
variable {X : Cx}
def tTupX (t : TA) : TE := fun σ H Q => t σ H fun xs H1 => xs.length ≤ sizeLine ∧ NewX xs H1 Q
theorem pe_tupX {es : List Expr} {x1 : Nat} {pos : Pos} {t : TA} (h : PA X es t) : PE X (.Tuple es x1 pos) (tTupX t) := by
  refine ⟨fun pins s σ H Q I hq => ?_⟩
  refine wpAny_Tuple_spliced (thn (h.run pos pins s σ H _ I hq) fun us s1 ⟨xs, H1, I1, r, z, q⟩ => ⟨by rw [← r.length]; exact z, ?_⟩)
  have hf : H1 s1.heap.objs.size = none := I1.hok.fresh (Nat.le_refl _)
  refine ⟨.ref s1.heap.objs.size, upd H1 s1.heap.objs.size (.frz { cls := .type "tuple", data := .seq us.toArray } (.tup xs)), I1.laid (t' := s1.toks) (fun b u e => Heap.get?_push_of_some _ e) (Nat.le_refl _) ?_, rfl, q _ _ hf rfl rfl⟩
  exact ⟨Heap.get?_push_size _ rfl, z, us, r, ⟨_, Heap.get?_push_size _ rfl, rfl, _, rfl⟩⟩
def rTupLX (K : PySem.W.Frag) : List V → Hp → VK → Prop := fun xs H Q => ∃ p ys, xs = [.ref p] ∧ SqL K H p ys ∧ NewX ys H Q
theorem call_tuple_ofX : CallR X (.type "tuple") (rTupLX X.K) := by
  intro pins s σ H xs us Q I r h
  obtain ⟨p, ys, rfl, hq, q⟩ := h
  obtain ⟨u, rfl, rx⟩ := vals1 r
  cases rx
  obtain ⟨its, r', pl, hz⟩ := I.list hq
  have hlen := r'.length
  refine call_tuple_list pl.isList (fun h' kp => ?_) (by simp only [List.size_toArray] <;> omega)
  have I1 : Inv X pins σ H { s with heap := h' } := I.kept (t' := s.toks) kp
  have I2 : Inv X pins σ (upd H h'.objs.size (.frz { cls := .type "tuple", data := .seq its.toArray } (.tup ys))) { s with heap := h'.push { cls := .type "tuple", data := .seq its.toArray } } :=
    I1.laid (t' := s.toks) (fun b o e => Heap.get?_push_of_some _ e) (Nat.le_refl _) (show ObjOk X.prog X.w _ _ _ (.frz _ (.tup ys)) from ⟨Heap.get?_push_size _ rfl, hz, its, r', IsTup.new _ _⟩)
  exact ⟨.ref h'.objs.size, _, I2, rfl, q _ _ (I1.hok.fresh (Nat.le_refl _)) rfl rfl⟩
def rCatX (K : PySem.W.Frag) : R2 := fun x y H Q => ∃ a b xs ys, x = .ref a ∧ y = .ref b ∧ SqT K H a xs ∧ SqT K H b ys ∧ xs.length + ys.length ≤ sizeLine ∧
  (xs = [] → Q (.ref b) H) ∧ (xs ≠ [] → ys = [] → Q (.ref a) H) ∧ (xs ≠ [] → ys ≠ [] → NewX (xs ++ ys) H Q)
theorem op_catX : OpR X (binaryOp .Add) (rCatX X.K) := by
  intro pins s σ H x y v u Q I rx ry h
  obtain ⟨a, b, xs, ys, rfl, rfl, ha, hb, hz, q0, q1, q2⟩ := h
  cases rx
  cases ry
  obtain ⟨its, r1, p1, _⟩ := I.tuple ha
  obtain ⟨its2, r2, p2, _⟩ := I.tuple hb
  by_cases hx : xs = []
  · subst hx
    cases r1
    exact cat_tup0 p1 p2 ⟨.ref b, H, I, rfl, q0 rfl⟩
  · refine HT.cat_tup p1 p2 (fun z => hx (r1.nil_iff.mp z)) (fun z => ⟨.ref a, H, I, rfl, q1 hx (r2.nil_iff.mp z)⟩) (fun z => ?_) (by rw [← r1.length, ← r2.length]; exact hz)
    refine ⟨.ref s.heap.objs.size, _, I.laid (t' := s.toks) (o := .frz { cls := .type "tuple", data := .seq (its ++ its2).toArray } (.tup (xs ++ ys))) (fun b ob q => Heap.get?_push_of_some _ q) (Nat.le_refl _) ?_, rfl, q2 hx (fun w => z (r2.nil_iff.mpr w)) _ _ (I.hok.fresh (Nat.le_refl _)) rfl rfl⟩
    exact ⟨Heap.get?_push_size _ rfl, by rw [List.length_append]; exact hz, _, r1.append r2, IsTup.new _ _⟩
def rSlX (K : PySem.W.Frag) : V → Option Int → Option Int → Hp → VK → Prop := fun x lo hi H Q => ∃ a xs, x = .ref a ∧ SqT K H a xs ∧
  (HT.sIx xs.length 0 lo = 0 ∧ HT.sIx xs.length xs.length hi = xs.length → Q (.ref a) H) ∧ (¬ (HT.sIx xs.length 0 lo = 0 ∧ HT.sIx xs.length xs.length hi = xs.length) → NewX (cutV xs lo hi) H Q)
theorem sl_tupX : SlR X (rSlX X.K) := by
  intro pins s σ H x v vl vu lo hi sl Q I rx hs pl pu h
  obtain ⟨a, xs, rfl, hx, q1, q2⟩ := h
  cases rx
  obtain ⟨its, r, ht, hz⟩ := I.tuple hx
  have hlen : its.toArray.size = xs.length := by rw [List.size_toArray]; exact r.length.symm
  refine ⟨"tuple", _, PyProof.Rows.slot_tuple_getitem.lookup, ht.typeIs, ?_⟩
  by_cases hw : HT.sIx xs.length 0 lo = 0 ∧ HT.sIx xs.length xs.length hi = xs.length
  · exact getItem_tuple_whole ht hs pl pu (by rw [hlen]; exact hw) ⟨.ref a, H, I, rfl, q1 hw⟩
  · refine HT.getItem_tuple_cut ht hs pl pu (by rw [hlen]; exact hw) ?_ (by rw [hlen]; exact hz)
    rw [hlen]
    refine ⟨.ref s.heap.objs.size, _, I.laid (t' := s.toks) (o := .frz { cls := .type "tuple", data := .seq ((its.toArray.toList.drop (sIx xs.length 0 lo)).take (sIx xs.length xs.length hi - sIx xs.length 0 lo)).toArray } (.tup (cutV xs lo hi))) (fun b ob q => Heap.get?_push_of_some _ q) (Nat.le_refl _) ?_, rfl, q2 hw _ _ (I.hok.fresh (Nat.le_refl _)) rfl rfl⟩
    exact ⟨Heap.get?_push_size _ rfl, Nat.le_trans (cutV_length xs lo hi) hz, _, (r.drop (HT.sIx xs.length 0 lo)).take (HT.sIx xs.length xs.length hi - HT.sIx xs.length 0 lo), IsTup.new _ _⟩
def tTupRgX (te : L2.St → Hp → (Int → Int → Hp → Prop) → Prop) : TE := fun σ H Q => te σ H fun a b H1 => RgOk a b ∧ NewX (rgV a b) H1 Q
theorem pe_tupRgX {e : Expr} {te : L2.St → Hp → (Int → Int → Hp → Prop) → Prop} {p pos : Pos} (hc : X.calm = true) (hg : Gl X "tuple") (hm : X.mg "tuple" = none) (he : PRg X e te) (na : starEach [e] X.env = (false, eval e X.env) :: starEach [] X.env := by rfl) : PE X (.Call (.Name "tuple" p) [e] [] pos) (tTupRgX te) := by
  refine ⟨fun pins s σ H Q I h => ?_⟩
  refine Call_ (ld_blt I hg hm boot_tuple (PyProof.Rows.callWith_type1 (args_cons (thn (he pins s σ H _ I h) fun x s1 ⟨r, a, b, t, u, v, H1, ex, hr, I1, ok, q⟩ => args_nil ?_) na) na))
  subst ex
  obtain ⟨b1, b2, b3, b4, b5⟩ := ok
  refine call_tuple_range (n := (b - a).toNat) (I1.ok.hd hc) hr (small_one b1 b2 b3 b4) (rangeSize_nat a b) b5 fun h' tk acc hk hi => ?_
  have I2 : Inv X pins σ H1 { s1 with heap := h', toks := tk } := I1.kept hk
  refine ⟨.ref h'.objs.size, upd H1 h'.objs.size (.frz { cls := .type "tuple", data := .seq acc } (.tup (rgV a b))), I2.laid (t' := tk) (fun c o e => Heap.get?_push_of_some _ e) (Nat.le_refl _) (show ObjOk X.prog X.w _ _ _ (.frz _ (.tup (rgV a b))) from ⟨Heap.get?_push_size _ rfl, ?_, acc.toList, vals_rg hi, ?_⟩), rfl, q _ _ (I2.hok.fresh (Nat.le_refl _)) rfl rfl⟩
  · rw [rgV_length, sizeLine_eq]; omega
  · rw [Array.toArray_toList]; exact IsTup.new _ _
def tBackX (K : PySem.W.Frag) (te : TE) : TE := fun σ H Q => te σ H fun x H1 => ∃ a xs, x = .ref a ∧ SqT K H1 a xs ∧ NewX xs.reverse H1 Q
theorem pe_backX {e : Expr} {pos : Pos} {te : TE} {k : Nat} {p1 p2 p3 : Pos} (he : PE X e te) : PE X (.Subscript e (.Slice none none (some (.UnaryOp .USub (.Constant (.int 1) k p1) p2)) p3) pos) (tBackX X.K te) := by
  refine ⟨fun pins s σ H Q I h => Subscript_ (thn (he.run pins s σ H _ I h) fun v s1 ⟨x, H1, I1, r1, a, xs, ex, hx, q⟩ => ?_)⟩
  subst ex
  cases r1
  have hst : PO X (some (.UnaryOp .USub (.Constant (.int 1) k p1) p2)) (tPart (tUn (rU fun i => .int (-i)) (tC (.int 1)))) := po_some (pe_un un_neg pe_int)
  refine wpAny_Slice (thn (po_none.run pins s1 σ H1 (fun o H2 => o = none ∧ H2 = H1) I1 ⟨rfl, rfl⟩) fun vl s2 ⟨l, H2, I2, pl, el, e2⟩ => ?_)
  subst el e2
  refine thn (po_none.run pins s2 σ H2 (fun o H3 => o = none ∧ H3 = H2) I2 ⟨rfl, rfl⟩) fun vu s3 ⟨u, H3, I3, pu, eu, e3⟩ => ?_
  subst eu e3
  refine thn (hst.run pins s3 σ H3 (fun o H4 => o = some (-1) ∧ H4 = H3) I3 ⟨1, rfl, -1, rfl, rfl, rfl⟩) fun vs s4 ⟨o, H4, I4, ps, eo, e4⟩ => ?_
  subst eo e4
  have I5 : Inv X pins σ H4 { s4 with heap := s4.heap.push { cls := .type "slice", data := .fields #[vl, vu, vs] } } := I4.kept (t' := s4.toks) fun b ob q => Heap.get?_push_of_some _ q
  obtain ⟨its, r, ht, hz⟩ := I5.tuple hx
  have hlen := r.length
  show wpAny (model X.prog X.w) X.A (subscriptTail e (.Slice none none (some (.UnaryOp .USub (.Constant (.int 1) k p1) p2)) p3) (.ref a) (.ref s4.heap.objs.size)) (EP X pins σ Q) X.xe { s4 with heap := s4.heap.push { cls := .type "slice", data := .fields #[vl, vu, vs] } }
  refine tail_any (ops := [.ref a, .ref s4.heap.objs.size]) ht.typeIs (PyProof.Rows.slot_tuple_getitem.lookup) ?_ (by with_unfolding_all rfl)
  refine get_tup_back ht (Heap.IsSliceOf.new _ vl vu vs) pl pu ps ?_ (by rw [List.size_toArray]; omega)
  exact ⟨.ref _, _, I5.laid (t' := s4.toks) (o := .frz { cls := .type "tuple", data := .seq its.toArray.toList.reverse.toArray } (.tup xs.reverse)) (fun b ob q => Heap.get?_push_of_some _ q) (Nat.le_refl _) ⟨Heap.get?_push_size _ rfl, by rw [List.length_reverse]; exact hz, _, r.reverse, IsTup.new _ _⟩, rfl, q _ _ (I5.hok.fresh (Nat.le_refl _)) rfl rfl⟩
end
/-! data -/
def D.toTux : List D → Option D
  | [.lst xs] => some (.tux xs)
  | _ => none
def D.addX : D → D → Option D
  | .tux xs, .tux ys => if xs.length + ys.length ≤ 16000000 then some (.tux (xs ++ ys)) else none
  | _, _ => none
def D.cutX : D → Option Int → Option Int → Option D
  | .tux xs, lo, hi => some (.tux (cutD xs lo hi))
  | _, _, _ => none
def D.backX : D → Option D
  | .tux xs => some (.tux xs.reverse)
  | _ => none
section
variable {K : PySem.W.Frag}
theorem d_tux : CallD K (rTupLX K) D.toTux := fun G H xs ds d l r e Q q => by
  unfold D.toTux at e
  split at e
  · cases e
    cases r with
    | cons a b =>
      cases b
      cases a with
      | lst h1 r1 => exact ⟨_, _, rfl, .inl (l.le _ _ rfl h1), newX l r1 q⟩
  · cases e
theorem d_addX : OpD K (rCatX K) D.addX := fun G H x y dx dy d l rx ry e Q q => by
  unfold D.addX at e
  split at e
  · split at e
    · rename_i xs ys hz
      cases e
      cases rx with
      | @tux a vs _ h1 r1 =>
        cases ry with
        | @tux b us _ h2 r2 =>
          refine ⟨_, _, _, _, rfl, rfl, l.le.seqT (.inl h1.1), l.le.seqT (.inl h2.1), size_ok (by rw [r1.len, r2.len]; exact hz), fun z => ?_, fun z1 z2 => ?_, fun z1 z2 => newX l (r1.app r2) q⟩
          · subst z
            cases r1
            exact keepQ l q (.tux h2 r2)
          · subst z2
            cases r2
            rw [List.append_nil] at q
            exact keepQ l q (.tux h1 r1)
    · cases e
  · cases e
end
section
variable {X : Cx} {W : WN} {eE : En} {en : En} {ec : Nat → Addr} {pos : Pos} {a b e : Expr} {ma mb : R D}
theorem xp_tupX {es : List Expr} {j : Nat} {ms : R (List D)} (ha : XA X W es en ms) : XP X W (.Tuple es j pos) en (ms.bnd fun ds => R.of ((fits ds).map .tux)) := fun σ G H S Q h => by
  refine pe_to (pe_tupX pa_w) (ha σ G H S _ (wp_mono (wp_bnd.mp h) (fun ds hd vs G1 H1 w1 r1 => ?_) fun _ z => z))
  obtain ⟨es, e, hd'⟩ := wp_of hd
  obtain ⟨es', e', rfl⟩ := Option.map_eq_some_iff.mp e
  obtain ⟨rfl, hl⟩ := fits_some e'
  exact ⟨size_ok (by rw [r1.len]; exact hl), newX w1.up r1 fun v G2 H2 w2 r2 => hd' v G2 H2 (w1.trans w2) r2⟩
theorem xp_tupOX {i : Nat} {b : Bool} {p : Addr} {px pc : Pos} {ds : List D} {x : Str} (hm : X.mg "tuple" = none) (he : en[i]? = some (some (.o b p (.l ds))) := by rfl) (hg : Gl X "tuple" := by rfl) (hN : X.N[i]? = some x := by rfl) (hv : Vis X.env.scope x := by first | exact Or.inl rfl | exact Or.inr (Or.inl rfl) | exact Or.inr (Or.inr rfl))
    (hd : (x == ("__debug__" : Str)) = false := by decide) (hcd : (x == ("__classdict__" : Str)) = false := by decide) (hs : starEach [.Name x px] X.env = (false, eval (.Name x px) X.env) :: starEach [] X.env := by rfl) (hp2 : (backTo pos (starEach [] X.env)).any (·.1) = false := by rfl) : XP X W (.Call (.Name "tuple" pc) [.Name x px] [] pos) en (.ok (.tux ds)) := fun σ G H S Q k => by
  obtain ⟨e1, vs, hp, r⟩ := own_var S he
  exact pe_to (pe_callTy call_tuple_ofX hg hm (by decide +kernel) (pa_cons (pe_var hN hv hd hcd) pa_nil hs) (by decide) (by decide) hs hp2) ⟨.ref p, e1, p, vs, rfl, .inl (.inl hp), newX S.le r k⟩
variable {lo hi : Option Expr} {ml mh : R (Option Int)} {p2 : Pos}
theorem xp_cutX (ha : XP X W a en ma) (hl : XO X W lo en ml) (hh : XO X W hi en mh) : XP X W (.Subscript a (.Slice lo hi none p2) pos) en (ma.bnd fun x => ml.bnd fun l => mh.bnd fun h => R.of (x.cutX l h)) := fun σ G H S Q k => by
  refine pe_to (pe_slice sl_tupX pe_w po_w po_w) (ha σ G H S _ (wp_mono (wp_bnd.mp k) (fun x hx v G1 H1 w1 r1 => ?_) fun _ z => z))
  refine hl σ G1 H1 (S.grow w1) _ (wp_mono (wp_bnd.mp hx) (fun l hl' G2 H2 w2 => ?_) fun _ z G2 H2 w => z G2 H2 (w1.trans w))
  refine hh σ G2 H2 ((S.grow w1).grow w2) _ (wp_mono (wp_bnd.mp hl') (fun h hh' G3 H3 w3 => ?_) fun _ z G3 H3 w => z G3 H3 ((w1.trans w2).trans w))
  obtain ⟨d, e, hd⟩ := wp_of hh'
  unfold D.cutX at e
  split at e
  · rename_i xs
    cases e
    have w := (w1.trans w2).trans w3
    cases r1 with
    | @tux a vs _ h1 r1 =>
      have r3 := r1.up (w2.g.trans w3.g)
      refine ⟨a, vs, rfl, (w3.up.le.seqT ((w2.g.trans w3.g).seqT (.inl h1.1))), fun z => ?_, fun _ => newX w3.up (r3.cut l h) fun v G4 H4 w4 r4 => hd v G4 H4 (w.trans w4) r4⟩
      refine hd _ _ _ w ?_
      have e1 : cutD xs l h = xs := by
        unfold cutD
        rw [← r1.len, z.1, z.2, Nat.sub_zero, List.drop_zero, r1.len, List.take_length]
      rw [e1]
      exact .tux (h1.up (w2.g.trans w3.g)) r3
  · cases e
theorem xp_trgX {p : Pos} {mr : R (Int × Int)} (g : Go X ec W) (hm : X.mg "tuple" = none) (h : XR X W e en mr) (hg : Gl X "tuple" := by rfl) (na : starEach [e] X.env = (false, eval e X.env) :: starEach [] X.env := by rfl) : XP X W (.Call (.Name "tuple" p) [e] [] pos) en (mr.bnd2 fun i j => (R.of (rgL i j)).bnd fun ds => .ok (.tux ds)) := fun σ G H S Q q => by
  obtain ⟨t, ht, h⟩ := h
  refine pe_to (pe_tupRgX g.calm hg hm ht na) (h σ G H S _ (wp_mono (wp_bnd.mp q) (fun r hr G1 H1 w1 => ?_) fun _ z => z))
  obtain ⟨ds, e1, hd⟩ := wp_of (wp_bnd.mp hr)
  obtain ⟨rfl, ok⟩ := rgL_some e1
  exact ⟨ok, newX w1.up (rp_upD _ _) fun v G2 H2 w2 r2 => hd v G2 H2 (w1.trans w2) r2⟩
theorem xp_backX {m : R D} {k : Nat} {p1 p2 p3 : Pos} (h : XP X W e en m) : XP X W (.Subscript e (.Slice none none (some (.UnaryOp .USub (.Constant (.int 1) k p1) p2)) p3) pos) en (m.bnd fun d => R.of d.backX) := fun σ G H S Q q => by
  refine pe_to (pe_backX pe_w) (h σ G H S _ (wp_mono (wp_bnd.mp q) (fun d hd v G1 H1 w1 r1 => ?_) fun _ z => z))
  obtain ⟨d', e1, hd⟩ := wp_of hd
  unfold D.backX at e1
  split at e1
  · cases e1
    cases r1 with
    | @tux _ vs _ h1 r => exact ⟨_, _, rfl, w1.up.le.seqT (.inl h1.1), newX w1.up r.rev fun v G2 H2 w2 r2 => hd v G2 H2 (w1.trans w2) r2⟩
  · cases e1
end
end Wk
set_option maxHeartbeats 4000000
/-! Wk45: an object of one's own: three fields, the last a list that may change. -/
namespace Wk
open PySem PySem.Spec PyProof.Rows L2
/-! fields -/
theorem fF_n (n pw : V) (q : Addr) : (fF n pw q).lookup ("strands" : Str) = some n := by
  unfold fF
  rw [lookup_putF, if_neg (by decide +kernel), lookup_putF, if_neg (by decide +kernel), lookup_putF, if_pos rfl]
theorem fF_p (n pw : V) (q : Addr) : (fF n pw q).lookup ("power" : Str) = some pw := by
  unfold fF
  rw [lookup_putF, if_neg (by decide +kernel), lookup_putF, if_pos rfl]
theorem fF_r (n pw : V) (q : Addr) : (fF n pw q).lookup ("rows" : Str) = some (.ref q) := by
  unfold fF
  rw [lookup_putF, if_pos rfl]
theorem fF_no (n pw : V) (q : Addr) {m : Str} (h1 : ¬ m = "strands") (h2 : ¬ m = "power") (h3 : ¬ m = "rows") : (fF n pw q).lookup m = none := by
  unfold fF
  rw [lookup_putF, if_neg h3, lookup_putF, if_neg h2, lookup_putF, if_neg h1]
  all_goals rfl
theorem fs_np : ¬ (("strands" : Str) = "power") := by decide +kernel
theorem fs_nr : ¬ (("strands" : Str) = "rows") := by decide +kernel
theorem fs_pr : ¬ (("power" : Str) = "rows") := by decide +kernel
theorem fs_rp : ¬ (("rows" : Str) = "power") := by decide +kernel
theorem fF_eq (n pw : V) (q : Addr) : fF n pw q = ([("strands", n), ("power", pw), ("rows", .ref q)] : List (Str × V)) := by
  show putF ("rows" : Str) (.ref q) (if ("strands" : Str) = "power" then _ else (("strands" : Str), n) :: [(("power" : Str), pw)]) = _
  rw [if_neg fs_np]
  show (if ("strands" : Str) = "rows" then _ else (("strands" : Str), n) :: (if ("power" : Str) = "rows" then _ else (("power" : Str), pw) :: [(("rows" : Str), .ref q)])) = _
  rw [if_neg fs_nr, if_neg fs_pr]
theorem fF_putP (n pw pw' : V) (q : Addr) : putF "power" pw' (fF n pw q) = fF n pw' q := by
  rw [fF_eq, fF_eq]
  show (if ("strands" : Str) = "power" then _ else (("strands" : Str), n) :: (if ("power" : Str) = "power" then (("power" : Str), pw') :: [(("rows" : Str), .ref q)] else _)) = _
  rw [if_neg fs_np, if_pos rfl]
theorem fF_putR (n pw : V) (q q' : Addr) : putF "rows" (.ref q') (fF n pw q) = fF n pw q' := by
  rw [fF_eq, fF_eq]
  show (if ("strands" : Str) = "rows" then _ else (("strands" : Str), n) :: (if ("power" : Str) = "rows" then _ else (("power" : Str), pw) :: (if ("rows" : Str) = "rows" then [(("rows" : Str), .ref q')] else _))) = _
  rw [if_neg fs_nr, if_neg fs_pr, if_pos rfl]
theorem fF_len (n pw : V) (q : Addr) : (fF n pw q).length < 1000 := by rw [fF_eq]; show 3 < 1000; decide
/-- what of the class is wanted -/
structure FC (K : PySem.W.Frag) (C : Addr) : Prop where
  cl : Cls K C
  nN : NoAttr K C "strands"
  nP : NoAttr K C "power"
  nR : NoAttr K C "rows"
/-! data that holds no lists -/
mutual
def D.flT : D → Bool
  | .non => true
  | .bl _ => true
  | .int _ => true
  | .str _ => true
  | .tup xs => D.flTs xs
  | .tux xs => D.flTs xs
  | _ => false
def D.flTs : List D → Bool
  | [] => true
  | x :: xs => D.flT x && D.flTs xs
end
def D.fl (d : D) : Option D := if d.flT = true then some d else none
def flsD (ds : List D) : Option (List D) := if D.flTs ds = true then some ds else none
def hid2 (G : Hp) (p q : Addr) : Hp := fun a => if a = p ∨ a = q then none else G a
section
variable {K : PySem.W.Frag}
/-- p and q hold no tuple -/
def NoTup (G : Hp) (p : Addr) : Prop := ∀ xs, ¬ Rd G p (.tup xs)
theorem hid2_rd {G : Hp} {p q a : Addr} {o : HO} (h : Rd G a o) (np : a ≠ p) (nq : a ≠ q) : Rd (hid2 G p q) a o := by
  have e : hid2 G p q a = G a := by unfold hid2; rw [if_neg (by rintro (z | z); exact np z; exact nq z)]
  rcases h with z | ⟨u, z⟩
  · exact .inl (by rw [e]; exact z)
  · exact .inr ⟨u, by rw [e]; exact z⟩
mutual
theorem Rp.hid {G : Hp} {p q : Addr} (hp : NoTup G p) (hq : NoTup G q) : ∀ {d : D} {v : V}, d.flT = true → Rp K G v d → Rp K (hid2 G p q) v d
  | .non, _, _, h => by cases h; exact .non
  | .bl b, _, _, h => by cases h; exact .bl b
  | .int i, _, _, h => by cases h; exact .int i
  | .str x, _, _, h => by cases h; exact .str x
  | .tup ds, _, f, h => by
    cases h with
    | @tup a xs _ h1 r =>
      refine .tup ?_ (RpAll.hid hp hq (by simpa [D.flT] using f) r)
      rcases h1 with z | z
      · exact .inl (hid2_rd z (fun e => hp xs (by rw [← e]; exact z)) fun e => hq xs (by rw [← e]; exact z))
      · exact .inr z
  | .tux ds, _, f, h => by
    cases h with
    | @tux a xs _ h1 r =>
      have np : a ≠ p := fun e => hp xs (by rw [← e]; exact h1.1)
      have nq : a ≠ q := fun e => hq xs (by rw [← e]; exact h1.1)
      obtain ⟨o, z1, z2⟩ := h1.2
      exact .tux ⟨hid2_rd h1.1 np nq, o, hid2_rd z1 np nq, z2⟩ (RpAll.hid hp hq (by simpa [D.flT] using f) r)
  | .lst _, _, f, _ => by simp [D.flT] at f
  | .dK _ _, _, f, _ => by simp [D.flT] at f
  | .dT _ _, _, f, _ => by simp [D.flT] at f
  | .exc _, _, f, _ => by simp [D.flT] at f
  | .frl _, _, f, _ => by simp [D.flT] at f
  | .ob _ _ _ _, _, f, _ => by simp [D.flT] at f
theorem RpAll.hid {G : Hp} {p q : Addr} (hp : NoTup G p) (hq : NoTup G q) : ∀ {ds : List D} {vs : List V}, D.flTs ds = true → RpAll K G vs ds → RpAll K (hid2 G p q) vs ds
  | [], _, _, h => by cases h; exact .nil
  | d :: ds, _, f, h => by
    simp only [D.flTs, Bool.and_eq_true] at f
    cases h with
    | cons a b => exact .cons (Rp.hid hp hq f.1 a) (RpAll.hid hp hq f.2 b)
end
end
/-! the object as data, for a while -/
theorem borrowF {K : PySem.W.Frag} {en : En} {σ : L2.St} {G H : Hp} {i : Nat} {b : Bool} {p q C : Addr} {n pw : D} {ds : List D} (S : Sl K en σ G H) (he : en[i]? = some (some (.o b q (.f p C n pw ds)))) :
    ∃ G', Sl K (en.set i (some (.v (.ob C n pw ds)))) σ G' H ∧ ∀ G2 H2, Grow G' H G2 H2 → Grow G H (hid2 G2 p q) H2 ∧ NoTup G2 p ∧ NoTup G2 q := by
  obtain ⟨v0, e0, ev, gq, gp, dx, vn, vp, vs, hp, hq, r1, r2, r3⟩ := S.at_ i _ he
  subst ev
  have hpq : p ≠ q := fun z => by rw [z, hq] at hp; cases hp
  have l1 : Le G (upd G q (.lst vs)) := Le.upd gq
  have gp' : upd G q (.lst vs) p = none := by rw [upd_ne hpq]; exact gp
  have l2 : Le (upd G q (.lst vs)) (upd (upd G q (.lst vs)) p (.ins C dx (fF vn vp q))) := Le.upd gp'
  have l := l1.trans l2
  have rdp : Rd (upd (upd G q (.lst vs)) p (.ins C dx (fF vn vp q))) p (.ins C dx (fF vn vp q)) := .inl upd_same
  have rdq : Rd (upd (upd G q (.lst vs)) p (.ins C dx (fF vn vp q))) q (.lst vs) := .inl (by rw [upd_ne hpq.symm]; exact upd_same)
  refine ⟨upd (upd G q (.lst vs)) p (.ins C dx (fF vn vp q)), ⟨⟨fun a u pu ru => ?_, fun a n => ?_⟩, by simp [S.len], fun j dv ej => ?_, fun j k b b' q c c' ej ek => ?_⟩, fun G2 H2 w => ⟨⟨fun a u pu ru => ?_, ⟨fun a u pu ru => ?_, fun a n => ?_⟩, w.h, fun a n m => ?_⟩, fun xs z => ?_, fun xs z => ?_⟩⟩
  · by_cases na : a = p
    · subst na
      rcases ru with z | ⟨_, z⟩
      · rw [upd_same] at z; cases z; exact .inl hp
      · rw [upd_same] at z; cases z
    · by_cases nb : a = q
      · subst nb
        rcases ru with z | ⟨_, z⟩
        · rw [upd_ne na, upd_same] at z; cases z; exact .inl hq
        · rw [upd_ne na, upd_same] at z; cases z
      · refine S.le.le a u pu ?_
        rcases ru with z | ⟨x, z⟩
        · rw [upd_ne na, upd_ne nb] at z; exact .inl z
        · rw [upd_ne na, upd_ne nb] at z; exact .inr ⟨x, z⟩
  · have na : a ≠ p := fun z => by rw [z, hp] at n; cases n
    have nb : a ≠ q := fun z => by rw [z, hq] at n; cases n
    rw [upd_ne na, upd_ne nb]; exact S.le.kn a n
  · rcases get_set ej with ⟨rfl, e1⟩ | ⟨nj, fj⟩
    · cases e1
      exact ⟨_, e0, .ob rdp rdq (r1.up l) (r2.up l) (r3.up l)⟩
    · obtain ⟨u, x, y⟩ := S.at_ j dv fj
      refine ⟨u, x, ?_⟩
      cases dv with
      | v d => exact Rp.up l y
      | o b2 q' c2 =>
        obtain ⟨y1, y2, y3⟩ := y
        have nq : q' ≠ q := fun z => nj (by subst z; exact S.one j i _ _ _ _ _ fj he)
        obtain ⟨vs0, hl0⟩ := y3.lst
        have np : q' ≠ p := fun z => by rw [z, hp] at hl0; cases hl0
        refine ⟨y1, by rw [upd_ne np, upd_ne nq]; exact y2, ?_⟩
        cases c2 with
        | l ds => obtain ⟨vs, e, r⟩ := y3; exact ⟨vs, e, r.up l⟩
        | f a C' m pw' ds' =>
          obtain ⟨z0, dx', vn', vp', vs', z1, z2, s1, s2, s3⟩ := y3
          have na : a ≠ q := fun z => by rw [z, hq] at z1; cases z1
          by_cases nb : a = p
          · subst nb
            rw [hp] at z1
            have z1 := Option.some.inj z1
            injection z1 with _ _ z1
            have := congrArg (fun l => l.lookup ("rows" : Str)) z1
            simp only [fF_r] at this
            have := Option.some.inj this
            injection this with this
            exact absurd this.symm nq
          · exact ⟨by rw [upd_ne nb, upd_ne na]; exact z0, dx', vn', vp', vs', z1, z2, s1.up l, s2.up l, s3.up l⟩
  · rcases get_set ej with ⟨rfl, e1⟩ | ⟨n, fj⟩
    · cases e1
    · rcases get_set ek with ⟨rfl, e1⟩ | ⟨n', fk⟩
      · cases e1
      · exact S.one j k _ _ q _ _ fj fk
  · have np : a ≠ p := fun z => by
      subst z
      rcases ru with z | ⟨_, z⟩ <;> (rw [gp] at z; cases z)
    have nq : a ≠ q := fun z => by
      subst z
      rcases ru with z | ⟨_, z⟩ <;> (rw [gq] at z; cases z)
    exact hid2_rd (w.g a u pu (l a u pu ru)) np nq
  · refine w.up.le a u pu ?_
    unfold hid2 at ru
    rcases ru with z | ⟨x, z⟩
    · by_cases na : a = p ∨ a = q
      · simp only [na, if_true] at z; cases z
      · simp only [na, if_false] at z; exact .inl z
    · by_cases na : a = p ∨ a = q
      · simp only [na, if_true] at z; cases z
      · simp only [na, if_false] at z; exact .inr ⟨x, z⟩
  · unfold hid2
    by_cases na : a = p ∨ a = q
    · rw [if_pos na]
    · rw [if_neg na]; exact w.up.kn a n
  · unfold hid2
    by_cases na : a = p ∨ a = q
    · rw [if_pos na]
    · rw [if_neg na]
      have n1 : a ≠ p := fun z => na (.inl z)
      have n2 : a ≠ q := fun z => na (.inr z)
      exact w.cl a (by rw [upd_ne n1, upd_ne n2]; exact n) m
  · have := w.g _ _ rfl rdp
    rcases this with y | ⟨u, y⟩ <;> rcases z with z | ⟨u', z⟩ <;> rw [y] at z <;> cases z
  · have := w.g _ _ rfl rdq
    rcases this with y | ⟨u, y⟩ <;> rcases z with z | ⟨u', z⟩ <;> rw [y] at z <;> cases z
section
variable {X : Cx} {W : WN} {eE : En} {en : En} {ec : Nat → Addr} {pos : Pos} {ω : Type} {T : Bs → ω → Ends → Prop} {rest : List Stmt}
variable {i : Nat} {b : Bool} {p q C : Addr} {n pw : D} {ds : List D} {a e : Expr}
theorem xp_borF {m : R D} (φ : En) (h : XP X W e φ m) (he : en[i]? = some (some (.o b q (.f p C n pw ds))) := by rfl) (hφ : en.set i (some (.v (.ob C n pw ds))) = φ := by rfl) : XP X W e en (m.bnd fun d => R.of d.fl) := fun σ G H S Q k => by
  obtain ⟨G', S', w'⟩ := borrowF S he
  rw [hφ] at S'
  refine h σ G' H S' Q (wp_mono (wp_bnd.mp k) (fun d hd v G2 H2 w r => ?_) fun c hc G2 H2 w => hc _ H2 (w' G2 H2 w).1)
  obtain ⟨d', e', hd3⟩ := wp_of hd
  unfold D.fl at e'
  split at e'
  · rename_i hf
    cases e'
    obtain ⟨w1, w2, w3⟩ := w' G2 H2 w
    exact hd3 v _ H2 w1 (r.hid w2 w3 hf)
  · cases e'
theorem xt_borF {m : R Bool} (φ : En) (h : XT X W e φ m) (he : en[i]? = some (some (.o b q (.f p C n pw ds))) := by rfl) (hφ : en.set i (some (.v (.ob C n pw ds))) = φ := by rfl) : XT X W e en m := fun σ G H S Q k => by
  obtain ⟨G', S', w'⟩ := borrowF S he
  rw [hφ] at S'
  exact h σ G' H S' Q (wp_mono k (fun b hb G2 H2 w => hb _ H2 (w' G2 H2 w).1) fun c hc G2 H2 w => hc _ H2 (w' G2 H2 w).1)
theorem xn_borF {m : R (List D)} (φ : En) (h : XN X W e φ m) (he : en[i]? = some (some (.o b q (.f p C n pw ds))) := by rfl) (hφ : en.set i (some (.v (.ob C n pw ds))) = φ := by rfl) : XN X W e en (m.bnd fun d => R.of (flsD d)) := fun σ G H S Q k => by
  obtain ⟨G', S', w'⟩ := borrowF S he
  rw [hφ] at S'
  refine h σ G' H S' Q (wp_mono (wp_bnd.mp k) (fun d hd p2 vs G2 H2 w hp2 gp2 ep2 r => ?_) fun c hc G2 H2 w => hc _ H2 (w' G2 H2 w).1)
  obtain ⟨d', e', hd3⟩ := wp_of hd
  unfold flsD at e'
  split at e'
  · rename_i hf
    cases e'
    obtain ⟨w1, w2, w3⟩ := w' G2 H2 w
    exact hd3 p2 vs _ H2 w1 hp2 (by unfold hid2; split <;> first | rfl | exact gp2) ep2 (r.hid w2 w3 hf)
  · cases e'
/-! fields of an object that is data -/
def D.fN (C : Addr) : D → Option D
  | .ob C' n _ _ => if C' = C then some n else none
  | _ => none
def D.fP (C : Addr) : D → Option D
  | .ob C' _ pw _ => if C' = C then some pw else none
  | _ => none
def D.fR (C : Addr) : D → Option D
  | .ob C' _ _ ds => if C' = C then some (.lst ds) else none
  | _ => none
def tFldX (K : PySem.W.Frag) (ta : TE) (f : Str) : TE := fun σ H Q => ta σ H fun x H1 => ∃ a C dx fs v, x = .ref a ∧ Rd H1 a (.ins C dx fs) ∧ Cls K C ∧ NoAttr K C f ∧ fs.lookup f = some v ∧ Q v H1
theorem getattr_okX {pins : List (Addr × Obj)} {σ : L2.St} {H : Hp} {s : Shared} {a C dx : Addr} {fs : List (Str × V)} {f : Str} {v : V} {A : Around} {E : Value → Shared → Prop} {b : Bool} {Q : Value → Shared → Prop} (I : Inv X pins σ H s) (e : Rd H a (.ins C dx fs)) (c : Cls X.K C) (n : NoAttr X.K C f) (l : fs.lookup f = some v)
    (h : ∀ u s', Inv X pins σ H s' → RelV v u → Q u s') : wpAny (model X.prog X.w) A (getAttr (.ref a) f b) Q E s := by
  have ok : ObjOk X.prog X.w H s.heap a (.ins C dx fs) := by
    rcases e with e | ⟨u, e⟩
    · exact I.hok a _ e
    · exact (I.hok a _ e).2
  obtain ⟨d, z, ne, ob, mA, nn, r, q⟩ := ok
  obtain ⟨u, hu, ru⟩ := RelO.some_of (v := v) (o := mA f) (by rw [← l]; exact r f)
  exact get_map I.kIn ⟨ob, nn, ne⟩ (c.get f) c.hd n hu (handed_of ru) (h u _ (I.tok _) ru)
theorem pe_fldX {f : Str} {ta : TE} (he : PE X e ta) (hb : attributeBase e f X.env (eval e X.env) = eval e X.env) : PE X (.Attribute e f pos) (tFldX X.K ta f) := by
  refine ⟨fun pins s σ H Q I h => ?_⟩
  refine attr_of hb (thn (he.run pins s σ H _ I h) fun u s1 ⟨x, H1, I1, rx, a, C, dx, fs, v, ex, ea, c, n, l, q⟩ => ?_)
  subst ex
  obtain rfl : u = Value.ref a := rx
  exact getattr_okX I1 ea c n l fun u' s2 I2 ru => ⟨v, H1, I2, ru, q⟩
theorem xp_fN {m : R D} {C0 : Addr} (c : FC X.K C0) (h : XP X W e en m) (hb : attributeBase e "strands" X.env (eval e X.env) = eval e X.env := by rfl) : XP X W (.Attribute e "strands" pos) en (m.bnd fun d => R.of (D.fN C0 d)) := fun σ G H S Q k => by
  refine pe_to (pe_fldX pe_w hb) (h σ G H S _ (wp_mono (wp_bnd.mp k) (fun d hd v G1 H1 w1 r1 => ?_) fun _ z => z))
  obtain ⟨d', e1, hd3⟩ := wp_of hd
  clear hd
  unfold D.fN at e1
  split at e1
  · split at e1
    · rename_i hc
      cases e1
      subst hc
      cases r1 with
      | ob a b c' d' e' => exact ⟨_, _, _, _, _, rfl, w1.up.le _ _ rfl a, c.cl, c.nN, fF_n _ _ _, hd3 _ G1 H1 w1 c'⟩
    · cases e1
  · cases e1
theorem xp_fP {m : R D} {C0 : Addr} (c : FC X.K C0) (h : XP X W e en m) (hb : attributeBase e "power" X.env (eval e X.env) = eval e X.env := by rfl) : XP X W (.Attribute e "power" pos) en (m.bnd fun d => R.of (D.fP C0 d)) := fun σ G H S Q k => by
  refine pe_to (pe_fldX pe_w hb) (h σ G H S _ (wp_mono (wp_bnd.mp k) (fun d hd v G1 H1 w1 r1 => ?_) fun _ z => z))
  obtain ⟨d', e1, hd3⟩ := wp_of hd
  clear hd
  unfold D.fP at e1
  split at e1
  · split at e1
    · rename_i hc
      cases e1
      subst hc
      cases r1 with
      | ob a b c' d' e' => exact ⟨_, _, _, _, _, rfl, w1.up.le _ _ rfl a, c.cl, c.nP, fF_p _ _ _, hd3 _ G1 H1 w1 d'⟩
    · cases e1
  · cases e1
theorem xp_fR {m : R D} {C0 : Addr} (c : FC X.K C0) (h : XP X W e en m) (hb : attributeBase e "rows" X.env (eval e X.env) = eval e X.env := by rfl) : XP X W (.Attribute e "rows" pos) en (m.bnd fun d => R.of (D.fR C0 d)) := fun σ G H S Q k => by
  refine pe_to (pe_fldX pe_w hb) (h σ G H S _ (wp_mono (wp_bnd.mp k) (fun d hd v G1 H1 w1 r1 => ?_) fun _ z => z))
  obtain ⟨d', e1, hd3⟩ := wp_of hd
  clear hd
  unfold D.fR at e1
  split at e1
  · split at e1
    · rename_i hc
      cases e1
      subst hc
      cases r1 with
      | ob a b c' d' e' => exact ⟨_, _, _, _, _, rfl, w1.up.le _ _ rfl a, c.cl, c.nR, fF_r _ _ _, hd3 _ G1 H1 w1 (.lst b e')⟩
    · cases e1
  · cases e1
/-! the object changes -/
theorem st_obj {B : Bs} {σ : L2.St} {G H : Hp} (S : St8 X.K B en σ G H) (he : en[i]? = some (some (.o b q (.f p C n pw ds)))) : σ[i]? = some (some (.ref p)) ∧ G q = none ∧ G p = none ∧ ∃ dx vn vp vs, H p = some (.ins C dx (fF vn vp q)) ∧ H q = some (.lst vs) ∧ Rp X.K G vn n ∧ Rp X.K G vp pw ∧ RpAll X.K G vs ds := by
  obtain ⟨v, e1, rfl, gq, gp, h⟩ := S.es.at_ i _ he
  exact ⟨e1, gq, gp, h⟩
/-- the list of the object is changed -/
theorem St8.mutR {B : Bs} {σ : L2.St} {G H : Hp} {ds' : List D} {vs' : List V} (S : St8 X.K B en σ G H) (he : en[i]? = some (some (.o b q (.f p C n pw ds)))) (r : RpAll X.K G vs' ds') : St8 X.K B (en.set i (some (.o b q (.f p C n pw ds')))) σ G (upd H q (.lst vs')) := by
  obtain ⟨_, gq, gp, dx, vn, vp, vs, hp, hq, r1, r2, r3⟩ := st_obj S he
  have hpq : p ≠ q := fun z => by rw [z, hq] at hp; cases hp
  exact S.mut (c' := .f p C n pw ds') he ⟨gp, dx, vn, vp, vs', by rw [upd_ne hpq]; exact hp, upd_same, r1, r2, r⟩
/-- x.rows.append(e) -/
theorem xb_appF {px pr pa pc : Pos} {x : Str} {ma : R D} {k : List D → R ω} (c : FC X.K C) (φ : List D → En) (ha : XP X W a en ma) (hk : ∀ ds, XB X W eE rest (φ ds) (k ds) T) (he : en[i]? = some (some (.o b q (.f p C n pw ds))) := by rfl) (hφ : ∀ ds, en.set i (some (.o b q (.f p C n pw ds))) = φ ds := by intro _; rfl) (we : Wk0 eE en := by first | exact wk0_nil | exact wk0_refl | assumption | exact Wkn.wk0 (by repeat' first | exact Wkn.nil | apply Wkn.k | apply Wkn.d))
    (hN : X.N[i]? = some x := by rfl) (hv : Vis X.env.scope x := by first | exact Or.inl rfl | exact Or.inr (Or.inl rfl) | exact Or.inr (Or.inr rfl)) (hd : (x == ("__debug__" : Str)) = false := by decide) (hcd : (x == ("__classdict__" : Str)) = false := by decide)
    (hb0 : attributeBase (.Name x px) "rows" X.env (eval (.Name x px) X.env) = eval (.Name x px) X.env := by rfl)
    (hbase : attributeBase (.Attribute (.Name x px) "rows" pr) "append" X.env (eval (.Attribute (.Name x px) "rows" pr) X.env) = eval (.Attribute (.Name x px) "rows" pr) X.env := by rfl)
    (hfew : ((backTo pc (starEach [a] X.env)).all (fun x => !x.1) && (backToKw pc (keywordEach [] X.env)).all (fun x => x.1.isSome)
      && decide (([a] : List Expr).length + ([] : List Keyword).length + (if ([] : List Keyword).isEmpty then 0 else 1) < 30)) = true := by rfl)
    (hline : (pa.endLine == pc.line) = true := by rfl) (hs : starEach [a] X.env = (false, eval a X.env) :: starEach [] X.env := by rfl) (hplain : (backTo pc (starEach [] X.env)).any (·.1) = false := by rfl)
    (hsw : swapsWith (.Call (.Attribute (.Attribute (.Name x px) "rows" pr) "append" pa) [a] [] pc) none pos.line X.env = pure false := by first | exact swaps_no rfl | exact swapsS_no rfl | rfl) : XB X W eE (.Expr (.Call (.Attribute (.Attribute (.Name x px) "rows" pr) "append" pa) [a] [] pc) pos :: rest) en (ma.bnd fun d => (R.of (appD ds d)).bnd k) T := fun B σ G H S D q' => by
  obtain ⟨e1, gq, gp, dx, vn, vp, vs, hp, hq, r1, r2, r3⟩ := st_obj S he
  refine pss_to (pss_cons (ps_expr (pe_bm PySem.F.plainAttrs_list PySem.F.slot_list_append PySem.F.type_list_append mt_append (pe_fld (pe_var hN hv hd hcd) hb0) (pa_cons pe_w pa_nil hs) hbase hfew hline hs hplain) hsw) pss_w) ⟨_, e1, p, C, dx, _, _, rfl, hp, c.cl, c.nR, fF_r _ _ _, .inl ⟨rfl, vs, .inl (.inl hq)⟩, ?_⟩
  refine xp_run ha S we (wp_mono (wp_bnd.mp q') (fun d hd' v G1 H1 l S1 s1 => ?_) fun _ z => z)
  obtain ⟨ds', e2, hd2⟩ := wp_of (wp_bnd.mp hd')
  obtain ⟨_, _, _, _, _, _, us, _, hq1, _, _, r4⟩ := st_obj S1 he
  show rAppend (V.ref q) [v] H1 (fun x H1 => { nx := wB X rest D, rt := D.rt, bk := D.bk, ct := D.ct : Ends }.nx σ H1)
  refine m_app (K := X.K) G1 H1 q us ds v d ds' S1.es.fr.up hq1 r4 s1 e2 _ fun us' r' => ?_
  have S2 := S1.mutR (ds' := ds') (vs' := us') he r'
  rw [hφ] at S2
  exact hk _ B σ G1 _ S2 D hd2
/-- x.rows.pop() -/
theorem xb_popF {px pr pa pc : Pos} {x : Str} {k : List D → R ω} (c : FC X.K C) (φ : List D → En) (hk : ∀ ds, XB X W eE rest (φ ds) (k ds) T) (he : en[i]? = some (some (.o b q (.f p C n pw ds))) := by rfl) (hφ : ∀ ds, en.set i (some (.o b q (.f p C n pw ds))) = φ ds := by intro _; rfl)
    (hN : X.N[i]? = some x := by rfl) (hv : Vis X.env.scope x := by first | exact Or.inl rfl | exact Or.inr (Or.inl rfl) | exact Or.inr (Or.inr rfl)) (hd : (x == ("__debug__" : Str)) = false := by decide) (hcd : (x == ("__classdict__" : Str)) = false := by decide)
    (hb0 : attributeBase (.Name x px) "rows" X.env (eval (.Name x px) X.env) = eval (.Name x px) X.env := by rfl)
    (hbase : attributeBase (.Attribute (.Name x px) "rows" pr) "pop" X.env (eval (.Attribute (.Name x px) "rows" pr) X.env) = eval (.Attribute (.Name x px) "rows" pr) X.env := by rfl) (hline : (pa.endLine == pc.line) = true := by rfl)
    (hsw : swapsWith (.Call (.Attribute (.Attribute (.Name x px) "rows" pr) "pop" pa) [] [] pc) none pos.line X.env = pure false := by first | exact swaps_no rfl | exact swapsS_no rfl | rfl) : XB X W eE (.Expr (.Call (.Attribute (.Attribute (.Name x px) "rows" pr) "pop" pa) [] [] pc) pos :: rest) en ((R.of (popD ds)).bnd k) T := fun B σ G H S D q' => by
  obtain ⟨e1, gq, gp, dx, vn, vp, vs, hp, hq, r1, r2, r3⟩ := st_obj S he
  obtain ⟨ds', e2, hd2⟩ := wp_of (wp_bnd.mp q')
  unfold popD at e2
  split at e2
  · cases e2
  · rename_i hne
    cases e2
    have hlen : 0 < vs.length := by
      rw [r3.len]
      exact List.length_pos_iff.mpr hne
    refine pss_to (pss_cons (ps_expr (pe_bm0 PySem.F.plainAttrs_list PySem.F.slot_list_pop PySem.F.type_list_pop mt_pop (pe_fld (pe_var hN hv hd hcd) hb0) hbase hline) hsw) pss_w) ⟨_, e1, p, C, dx, _, _, rfl, hp, c.cl, c.nR, fF_r _ _ _, .inl ⟨rfl, vs, .inl (.inl hq)⟩, q, vs, vs[vs.length - 1]'(by omega), rfl, rfl, hq, List.getElem?_eq_getElem (by omega), ?_⟩
    have S2 := S.mutR (ds' := ds.dropLast) (vs' := vs.dropLast) he r3.last
    rw [hφ] at S2
    exact hk _ B σ G _ S2 D hd2
/-- x.rows.pop(e), what is taken being dropped -/
theorem xb_popAtF {px pr pa pc : Pos} {x : Str} {ma : R D} {k : List D → R ω} (c : FC X.K C) (φ : List D → En) (ha : XP X W a en ma) (hk : ∀ ds, XB X W eE rest (φ ds) (k ds) T) (he : en[i]? = some (some (.o b q (.f p C n pw ds))) := by rfl) (hφ : ∀ ds, en.set i (some (.o b q (.f p C n pw ds))) = φ ds := by intro _; rfl) (we : Wk0 eE en := by first | exact wk0_nil | exact wk0_refl | assumption | exact Wkn.wk0 (by repeat' first | exact Wkn.nil | apply Wkn.k | apply Wkn.d))
    (hN : X.N[i]? = some x := by rfl) (hv : Vis X.env.scope x := by first | exact Or.inl rfl | exact Or.inr (Or.inl rfl) | exact Or.inr (Or.inr rfl)) (hd : (x == ("__debug__" : Str)) = false := by decide) (hcd : (x == ("__classdict__" : Str)) = false := by decide)
    (hb0 : attributeBase (.Name x px) "rows" X.env (eval (.Name x px) X.env) = eval (.Name x px) X.env := by rfl)
    (hbase : attributeBase (.Attribute (.Name x px) "rows" pr) "pop" X.env (eval (.Attribute (.Name x px) "rows" pr) X.env) = eval (.Attribute (.Name x px) "rows" pr) X.env := by rfl)
    (hfew : ((backTo pc (starEach [a] X.env)).all (fun x => !x.1) && (backToKw pc (keywordEach [] X.env)).all (fun x => x.1.isSome)
      && decide (([a] : List Expr).length + ([] : List Keyword).length + (if ([] : List Keyword).isEmpty then 0 else 1) < 30)) = true := by rfl)
    (hline : (pa.endLine == pc.line) = true := by rfl) (hs : starEach [a] X.env = (false, eval a X.env) :: starEach [] X.env := by rfl) (hplain : (backTo pc (starEach [] X.env)).any (·.1) = false := by rfl)
    (hsw : swapsWith (.Call (.Attribute (.Attribute (.Name x px) "rows" pr) "pop" pa) [a] [] pc) none pos.line X.env = pure false := by first | exact swaps_no rfl | exact swapsS_no rfl | rfl) : XB X W eE (.Expr (.Call (.Attribute (.Attribute (.Name x px) "rows" pr) "pop" pa) [a] [] pc) pos :: rest) en (ma.bnd fun d => (R.of (popAtD ds d)).bnd fun r => k r.2) T := fun B σ G H S D q' => by
  obtain ⟨e1, gq, gp, dx, vn, vp, vs, hp, hq, r1, r2, r3⟩ := st_obj S he
  refine pss_to (pss_cons (ps_expr (pe_bm PySem.F.plainAttrs_list PySem.F.slot_list_pop PySem.F.type_list_pop mt_popAt (pe_fld (pe_var hN hv hd hcd) hb0) (pa_cons pe_w pa_nil hs) hbase hfew hline hs hplain) hsw) pss_w) ⟨_, e1, p, C, dx, _, _, rfl, hp, c.cl, c.nR, fF_r _ _ _, .inl ⟨rfl, vs, .inl (.inl hq)⟩, ?_⟩
  refine xp_run ha S we (wp_mono (wp_bnd.mp q') (fun y hd' v G1 H1 l S1 s1 => ?_) fun _ z => z)
  obtain ⟨r, e2, hr⟩ := wp_of (wp_bnd.mp hd')
  obtain ⟨_, _, _, _, _, _, us, _, hq1, _, _, r4⟩ := st_obj S1 he
  unfold popAtD at e2
  split at e2
  · rename_i j
    split at e2
    · rename_i hb
      obtain ⟨k', e3, e4⟩ := Option.bind_eq_some_iff.mp e2
      obtain ⟨d, e5, rfl⟩ := Option.map_eq_some_iff.mp e4
      cases s1
      obtain ⟨w, e6, rw_⟩ := r4.get e5
      refine ⟨q, us, j, k', w, rfl, rfl, hq1, by omega, by omega, by rw [r4.len]; exact e3, e6, ?_⟩
      have S2 := S1.mutR (ds' := ds.eraseIdx k') (vs' := us.eraseIdx k') he (r4.erase k')
      rw [hφ] at S2
      exact hk _ B σ G1 _ S2 D hr
    · cases e2
  · cases e2
/-- x.rows[a] = e -/
theorem xb_putF {px pr ps' : Pos} {x : Str} {ma me : R D} {k : List D → R ω} (c : FC X.K C) (φ : List D → En) (h : XP X W e en me) (ha : XP X W a en ma) (hk : ∀ ds, XB X W eE rest (φ ds) (k ds) T) (he : en[i]? = some (some (.o b q (.f p C n pw ds))) := by rfl) (hφ : ∀ ds, en.set i (some (.o b q (.f p C n pw ds))) = φ ds := by intro _; rfl) (we : Wk0 eE en := by first | exact wk0_nil | exact wk0_refl | assumption | exact Wkn.wk0 (by repeat' first | exact Wkn.nil | apply Wkn.k | apply Wkn.d))
    (hN : X.N[i]? = some x := by rfl) (hv : Vis X.env.scope x := by first | exact Or.inl rfl | exact Or.inr (Or.inl rfl) | exact Or.inr (Or.inr rfl)) (hd : (x == ("__debug__" : Str)) = false := by decide) (hcd : (x == ("__classdict__" : Str)) = false := by decide)
    (hb0 : attributeBase (.Name x px) "rows" X.env (eval (.Name x px) X.env) = eval (.Name x px) X.env := by rfl)
    (h0 : ∀ v, assign (.Subscript (.Attribute (.Name x px) "rows" pr) a ps') X.env v = (do
      let ov ← holding [v] (eval (.Attribute (.Name x px) "rows" pr) X.env)
      let iv ← holding [v, ov] (eval a X.env)
      standAt ps'
      holding [v, ov, iv] (setItem ov iv v)
      release [v, ov, iv] []) := by intro _; rfl)
    (h1 : swapsWithSole [.Subscript (.Attribute (.Name x px) "rows" pr) a ps'] e pos.line X.env = pure false := by first | exact swaps_no rfl | exact swapsS_no rfl | rfl) (h2 : swappedStores [.Subscript (.Attribute (.Name x px) "rows" pr) a ps'] e X.env = pure none := by rfl) (h3 : (assignEach [.Subscript (.Attribute (.Name x px) "rows" pr) a ps'] X.env).map (·.2) = [assign (.Subscript (.Attribute (.Name x px) "rows" pr) a ps') X.env] := by rfl) :
    XB X W eE (.Assign [.Subscript (.Attribute (.Name x px) "rows" pr) a ps'] e pos :: rest) en (me.bnd fun d => ma.bnd fun j => (R.of (setD ds j d)).bnd k) T := fun B σ G H S D q' => by
  refine pss_to (pss_cons (ps_asg pe_w (pg_sub (pe_fld (pe_var hN hv hd hcd) hb0) pe_w set_list h0) h1 h2 h3) pss_w) ?_
  refine xp_run h S we (wp_mono (wp_bnd.mp q') (fun d hd' v G1 H1 l1 S1 s1 => ?_) fun _ z => z)
  obtain ⟨e1, gq, gp, dx, vn, vp, vs, hp, hq, r1, r2, r3⟩ := st_obj S1 he
  refine ⟨_, e1, p, C, dx, _, _, rfl, hp, c.cl, c.nR, fF_r _ _ _, ?_⟩
  refine xp_run ha S1 we (wp_mono (wp_bnd.mp hd') (fun j hj u G2 H2 l2 S2 s2 => ?_) fun _ z => z)
  obtain ⟨ds', e2, hd2⟩ := wp_of (wp_bnd.mp hj)
  unfold setD at e2
  split at e2
  · rename_i j'
    obtain ⟨n', e3, rfl⟩ := Option.map_eq_some_iff.mp e2
    cases s2
    obtain ⟨_, _, _, _, _, _, us, _, hq2, _, _, r4⟩ := st_obj S2 he
    refine ⟨q, us, _, n', rfl, rfl, hq2, by rw [r4.len]; exact e3, ?_⟩
    have S3 := S2.mutR (ds' := ds.set n' d) (vs' := us.set n' v) he (r4.set (s1.up l2) n')
    rw [hφ] at S3
    exact hk _ B σ G2 _ S3 D hd2
  · cases e2
end
end Wk
set_option maxHeartbeats 4000000
/-! Wk46: methods of an object of one's own. -/
namespace L2
open PySem PySem.Spec PyProof.Rows
section
variable {X : Cx} {CX : CXT} {k : Nat} {f C : Addr} {fd : FuncData} {ps : List Str} {sp : Sp} {E : St → XK} {x m : Str} {p pos apos : Pos} {e o : Expr} {es : List Expr} {ta : TE} {t : TA}
theorem getmeth_okX {pins : List (Addr × Obj)} {σ : St} {H : Hp} {s : Shared} {a dx : Addr} {fs : List (Str × V)} {A : Around} {E : Value → Shared → Prop} {m : Str} {g : Addr} {pl : Sem Bool} {Q : Value × List Value → Shared → Prop} (I : Inv X pins σ H s) (e : Rd H a (.ins C dx fs)) (c : Cls X.K C) (k : Meth X.K C m g) (l : fs.lookup m = none)
    (h : Q (.ref g, [.ref a]) s) : wpAny (model X.prog X.w) A (getMethod (.ref a) m pl) Q E s := by
  have ok : ObjOk X.prog X.w H s.heap a (.ins C dx fs) := by
    rcases e with e | ⟨u, e⟩
    · exact I.hok a _ e
    · exact (I.hok a _ e).2
  obtain ⟨d, z, ne, ob, mA, nn, r, q⟩ := ok
  have hn : mA m = none := RelO.none_of (by rw [← l]; exact r m)
  exact get_meth I.kIn ⟨ob, nn, ne⟩ (c.get m) k.at_ k.fn hn h
def tMethX (C : Addr) (m : Str) (sp : Sp) (E : St → XK) (ta : TE) (t : TA) : TE := fun σ H Q => ta σ H fun x H1 => ∃ a dx fs, x = .ref a ∧ Rd H1 a (.ins C dx fs) ∧ fs.lookup m = none ∧ t σ H1 fun vs H2 => sp (x :: vs) H2 Q (E σ)
theorem pe_methX {pl : Sem Bool} (he : PE X o ta) (c : Cls X.K C) (hm : Meth X.K C m f) (F : FnOk X.prog X.w X.K X.mg X.base CX k f fd ps sp) (hr : Room k X.A) (hb : Binds X.K fd ps []) (hx : ∀ σ, PassesAt CX X σ (E σ)) (ha : PA X (e :: es) t)
    (hst : starEach (e :: es) X.env = (false, eval e X.env) :: starEach es X.env := by rfl) (hpl : (backTo pos (starEach es X.env)).any (·.1) = false := by rfl)
    (ht : eval (.Call (.Attribute o m apos) (e :: es) [] pos) X.env = (do
      let ov ← eval o X.env
      standAt apos.atName
      let (f, first) ← holding [ov] (getMethod ov m pl)
      callWith pos f first (backTo pos (starEach (e :: es) X.env)) (backToKw pos (keywordEach [] X.env))) := by rfl) :
    PE X (.Call (.Attribute o m apos) (e :: es) [] pos) (tMethX C m sp E ta t) := by
  refine ⟨fun pins s σ H Q I h => ?_⟩
  refine PySem.W.methodCall_KW (pl := pl) (thn (he.run pins s σ H _ I h) fun u s1 ⟨x, H1, I1, rx, a, dx, fs, ex, ea, l, q⟩ => ?_) ht
  subst ex
  obtain rfl : u = Value.ref a := rx
  refine getmeth_okX I1 ea c hm l ?_
  refine PySem.W.callWith_K (first := [.ref a]) (h₀ := X.base) I.ok.mod.kin hm.kp (thn (ha.run pos pins s1 σ H1 _ I1 q) fun us s2 ⟨vs, H2, I2, r, q2⟩ => ⟨I2.kIn, ?_⟩) hst hpl
  exact run_fnS (us := .ref a :: us) (vs := .ref a :: vs) F hr hb (hx σ) I2 (.cons rfl r) q2
theorem pe_methX0 {pl : Sem Bool} (he : PE X o ta) (c : Cls X.K C) (hm : Meth X.K C m f) (F : FnOk X.prog X.w X.K X.mg X.base CX k f fd ps sp) (hr : Room k X.A) (hb : Binds X.K fd ps []) (hx : ∀ σ, PassesAt CX X σ (E σ))
    (ht : eval (.Call (.Attribute o m apos) [] [] pos) X.env = (do
      let ov ← eval o X.env
      standAt apos.atName
      let (f, first) ← holding [ov] (getMethod ov m pl)
      callWith pos f first (backTo pos (starEach [] X.env)) (backToKw pos (keywordEach [] X.env))) := by rfl) :
    PE X (.Call (.Attribute o m apos) [] [] pos) (tMethX C m sp E ta tNil) := by
  refine ⟨fun pins s σ H Q I h => ?_⟩
  refine PySem.W.methodCall_KW (pl := pl) (thn (he.run pins s σ H _ I h) fun u s1 ⟨x, H1, I1, rx, a, dx, fs, ex, ea, l, q⟩ => ?_) ht
  subst ex
  obtain rfl : u = Value.ref a := rx
  refine getmeth_okX I1 ea c hm l ?_
  exact PySem.W.callWith_K0 (first := [.ref a]) I1.kIn hm.kp (run_fnS (us := [.ref a]) (vs := [.ref a]) F hr hb (hx σ) I1 (.cons rfl .nil) q)
def tMakeS (C : Addr) (sp : Sp) (E : St → XK) (t : TA) : TE := fun σ H Q => t σ H fun vs H1 => ∀ x dx, H1 x = none → H1 dx = none → dx ≠ x →
  sp (.ref x :: vs) (upd (upd H1 dx (.own x)) x (.ins C dx [])) (fun v H2 => v = .non ∧ Q (.ref x) H2) (E σ)
end
end L2
namespace Wk
open PySem PySem.Spec PyProof.Rows L2
abbrev FT := D × D × List D
structure GrowF (p q : Addr) (G H G2 H2 : Hp) : Prop where
  g : Le G G2
  up : Lk G2 H2
  h : ∀ a o, a ≠ p → a ≠ q → H a = some o → H2 a = some o
  there : ∀ a, H a ≠ none → H2 a ≠ none
  cl : ∀ a, G a = none → H a ≠ none → G2 a = none
def OF (C p : Addr) (S : FT) : OO := .f p C S.1 S.2.1 S.2.2
/-- a method that may change its object and hands back nothing -/
def spF (K : PySem.W.Frag) (ec : Nat → Addr) (C : Addr) (n : Nat) (fm : FT → List D → R FT) : Sp := fun vs H Q E => ∃ G p q ws S ds, Lk G H ∧ vs = .ref p :: ws ∧ G q = none ∧ OwnRp K G H q (OF C p S) ∧ RpAll K G ws ds ∧ ds.length = n ∧
  wp (fm S ds) (fun r => ∀ q2 G2 H2, GrowF p q G H G2 H2 → (q2 = q ∨ H q2 = none) → G2 q2 = none → OwnRp K G2 H2 q2 (OF C p r) → Q .non H2) (fun c => ∀ G2 H2, GrowF p q G H G2 H2 → E (.ref (ec c)) none H2)
theorem Fr8.toGrowF {p q : Addr} {G H G2 H2 : Hp} (f : Fr8 ⟨G, H, [q, p]⟩ G2 H2) : GrowF p q G H G2 H2 := ⟨f.le0, f.up, fun a o n m e => f.keep a o (by simp [n, m]) e, f.there, f.cl⟩
def en1F (N : List Str) (C p q : Addr) (S : FT) (ds : List D) : En := some (.o true q (OF C p S)) :: (ds.map (fun d => some (.v d)) ++ List.replicate (N.length - (ds.length + 1)) none)
section
variable {K : PySem.W.Frag}
theorem st_startF {G H : Hp} {C p q : Addr} {S : FT} {ws : List V} {ds : List D} {N : List Str} (l : Lk G H) (gq : G q = none) (o : OwnRp K G H q (OF C p S)) (r : RpAll K G ws ds) : St8 K ⟨G, H, [q, p]⟩ (en1F N C p q S ds) (L2.start N (.ref p :: ws)) G H := by
  have hl := r.len
  have only : ∀ (i : Nat) (dv : DV), (en1F N C p q S ds)[i]? = some (some dv) → (i = 0 ∧ dv = .o true q (OF C p S)) ∨ ∃ j d, i = j + 1 ∧ ds[j]? = some d ∧ dv = .v d := fun i dv e => by
    cases i with
    | zero => cases e; exact .inl ⟨rfl, rfl⟩
    | succ j =>
      right
      have e : (ds.map (fun d => some (DV.v d)) ++ List.replicate (N.length - (ds.length + 1)) none)[j]? = some (some dv) := e
      by_cases hi : j < ds.length
      · rw [List.getElem?_append_left (by simpa using hi), List.getElem?_map] at e
        cases z : ds[j]? with
        | none => rw [z] at e; cases e
        | some d => rw [z] at e; cases e; exact ⟨j, d, rfl, z, rfl⟩
      · rw [List.getElem?_append_right (by simpa using hi), List.getElem?_replicate] at e
        split at e <;> cases e
  refine ⟨⟨⟨l, Le.refl _, fun _ _ _ e => e, fun _ n => n, fun _ n _ => n⟩, fun i dv e => ?_, fun i j b b' q c c' e e' => ?_, fun i b q c e => ?_⟩, ?_⟩
  · rcases only i dv e with ⟨rfl, rfl⟩ | ⟨j, d, rfl, e1, rfl⟩
    · exact ⟨.ref p, rfl, rfl, gq, o⟩
    · obtain ⟨v, e2, r2⟩ := r.get e1
      refine ⟨v, ?_, r2⟩
      have hi : j < ws.length := (List.getElem?_eq_some_iff.mp e2).1
      show (ws.map some ++ _)[j]? = _
      rw [List.getElem?_append_left (by simpa using hi), List.getElem?_map, e2]
      rfl
  · rcases only i _ e with ⟨rfl, z⟩ | ⟨_, _, _, _, z⟩
    · rcases only j _ e' with ⟨rfl, z⟩ | ⟨_, _, _, _, z⟩
      · rfl
      · cases z
    · cases z
  · rcases only i _ e with ⟨rfl, z⟩ | ⟨_, _, _, _, z⟩
    · cases z
      refine ⟨by simp, fun a z => ?_⟩
      cases z
      left; simp
    · cases z
  · unfold L2.start en1F
    simp [hl]
/-- how a method ends -/
def LF (C p : Addr) : FT → En → Prop := fun r e => ∃ b q2, e[0]? = some (some (.o b q2 (OF C p r)))
theorem end_F {G H G2 H2 : Hp} {C p q q2 : Addr} {b : Bool} {S : FT} {i : Nat} {e : En} {σ : L2.St} (s : St8 K ⟨G, H, [q, p]⟩ e σ G2 H2) (he : e[i]? = some (some (.o b q2 (OF C p S)))) : (q2 = q ∨ H q2 = none) ∧ G2 q2 = none ∧ OwnRp K G2 H2 q2 (OF C p S) := by
  obtain ⟨v, e1, ev, gq, o⟩ := s.es.at_ i _ he
  have ow := (s.es.own i b q2 _ he).1
  refine ⟨?_, gq, o⟩
  cases b with
  | true =>
    have ow : q2 ∈ [q, p] := ow
    simp at ow
    rcases ow with z | z
    · exact .inl z
    · obtain ⟨gp, dx, vn, vp, vs, h1, h2, _⟩ := o
      rw [z, h1] at h2; cases h2
  | false => exact .inr ow
variable {P : Program} {w : World} {mg : Str → Option Value} {base : Heap} {ec : Nat → Addr}
theorem fn_okF {x qual : Str} {st : Stmt} {f C : Addr} {fd : FuncData} {N ps : List Str} {k n : Nat} {fm : FT → List D → R FT} (F : Fun K x qual st f fd) (S : FnScope N ps (defScope st)) (hn : ps.length = n + 1)
    (body : ∀ (cdv : Value) (A : Around) (outer : List Env) (s : Shared) (H : Hp) (E : XK), Room k (A.deeper (envOfC qual (defScope st) s.heap.objs.size f cdv)) →
      Go (cxOf (L2.CX P w) P w K mg base N qual (defScope st) f cdv A outer s H E) ec (fun c _ H => E (.ref (ec c)) none H) → ∀ (p q : Addr) (S : FT) (ds : List D), ds.length = n →
      XB (cxOf (L2.CX P w) P w K mg base N qual (defScope st) f cdv A outer s H E) (fun c _ H => E (.ref (ec c)) none H) [] (defBody st) (en1F N C p q S ds) (fm S ds) (TN K (LF C p))) :
    FnOk P w K mg base (L2.CX P w) (k + 1) f fd ps (spF K ec C n fm) := by
  refine F.okX S (fun vs H Q E h => ?_) (fun cdv A outer s H vs Q E hr h => ?_)
  · obtain ⟨G, p, q, ws, S0, ds, l, rfl, gq, o, r, e, _⟩ := h
    rw [List.length_cons, r.len, e, hn]
  · obtain ⟨G, p, q, ws, S0, ds, l, rfl, gq, o, r, e, q'⟩ := h
    have g : Go (cxOf (L2.CX P w) P w K mg base N qual (defScope st) f cdv A outer s H E) ec (fun c _ H => E (.ref (ec c)) none H) :=
      ⟨rfl, passes_of rfl, S.nd, (takes_of (E := E) rfl rfl rfl rfl).imp fun cls d σ H' ⟨c, e1, e2, e3⟩ => by rw [e1, e2]; exact e3⟩
    have b := body cdv A outer s H E hr g p q S0 ds e
    refine ⟨_, pss_w, b ⟨G, H, [q, p]⟩ (L2.start N (.ref p :: ws)) G H (st_startF l gq o r) _ (wp_mono q' (fun r1 hr1 e1 σ2 G2 H2 ⟨b1, q2, he⟩ S2 => ?_) fun c hc σ G2 H2 es => hc G2 H2 es.fr.toGrowF)⟩
    obtain ⟨z1, z2, z3⟩ := end_F S2 he
    exact hr1 q2 G2 H2 S2.es.fr.toGrowF z1 z2 z3
theorem St8.frF {B : Bs} {en : En} {σ : L2.St} {G H G2 H2 : Hp} {i : Nat} {b : Bool} {C p q : Addr} {S : FT} (s : St8 K B en σ G H) (e : en[i]? = some (some (.o b q (OF C p S)))) (w : GrowF p q G H G2 H2) : Fr8 B G2 H2 := by
  have hb := (s.es.own i b q _ e).1
  have hb2 := (s.es.own i b q _ e).2 p rfl
  refine ⟨w.up, s.es.fr.le0.trans w.g, fun a u n eu => ?_, fun a n => w.there a (s.es.fr.there a n), fun a n m => w.cl a (s.es.fr.cl a n m) (s.es.fr.there a m)⟩
  have na : a ≠ q := fun z => by
    subst z
    cases b with
    | true => exact n hb
    | false => rw [if_neg Bool.false_ne_true] at hb; rw [hb] at eu; cases eu
  have nb : a ≠ p := fun z => by
    subst z
    rcases hb2 with z | z
    · exact n z
    · rw [z] at eu; cases eu
  exact w.h a u nb na (s.es.fr.keep a u n eu)
/-- behind a method's run -/
theorem St8.growF {B : Bs} {en : En} {σ : L2.St} {G H G2 H2 : Hp} {i : Nat} {b : Bool} {C p q q2 : Addr} {S S' : FT} (s : St8 K B en σ G H) (e : en[i]? = some (some (.o b q (OF C p S)))) (w : GrowF p q G H G2 H2) (hq : q2 = q ∨ H q2 = none) (g2 : G2 q2 = none) (o2 : OwnRp K G2 H2 q2 (OF C p S')) : ∃ b', St8 K B (en.set i (some (.o b' q2 (OF C p S')))) σ G2 H2 := by
  obtain ⟨v0, e0, ev0, g0, r0⟩ := s.es.at_ i _ e
  have hb := (s.es.own i b q _ e).1
  have hb2 := (s.es.own i b q _ e).2 p rfl
  have r0' := r0
  obtain ⟨gp, dx, vn, vp, vs, hp, hl, _⟩ := r0'
  refine ⟨if q2 = q then b else false, ⟨⟨⟨w.up, s.es.fr.le0.trans w.g, fun a u n eu => ?_, fun a n => w.there a (s.es.fr.there a n), fun a n m => w.cl a (s.es.fr.cl a n m) (s.es.fr.there a m)⟩, fun j dv ej => ?_, fun j k b b' q c c' ej ek => ?_, fun j b q c ej => ?_⟩, by simp [s.len]⟩⟩
  · have na : a ≠ q := fun z => by
      subst z
      cases b with
      | true => exact n hb
      | false => rw [if_neg Bool.false_ne_true] at hb; rw [hb] at eu; cases eu
    have nb : a ≠ p := fun z => by
      subst z
      rcases hb2 with z | z
      · exact n z
      · rw [z] at eu; cases eu
    exact w.h a u nb na (s.es.fr.keep a u n eu)
  · rcases get_set ej with ⟨rfl, e1⟩ | ⟨nj, fj⟩
    · cases e1; exact ⟨v0, e0, ev0, g2, o2⟩
    · obtain ⟨u, x, y⟩ := s.es.at_ j dv fj
      refine ⟨u, x, ?_⟩
      cases dv with
      | v d => exact Rp.up w.g y
      | o b2 q' c2 =>
        obtain ⟨y1, y2, y3⟩ := y
        have nq : q' ≠ q := fun z => nj (by subst z; exact s.es.one j i _ _ _ _ _ fj e)
        obtain ⟨vs0, hl0⟩ := y3.lst
        have np : q' ≠ p := fun z => by rw [z, hp] at hl0; cases hl0
        refine ⟨y1, w.cl q' y2 y3.there, ?_⟩
        cases c2 with
        | l ds => obtain ⟨vs, e, r⟩ := y3; exact ⟨vs, w.h _ _ np nq e, r.up w.g⟩
        | f a C' m pw' ds' =>
          obtain ⟨z0, dx', vn', vp', vs', z1, z2, s1, s2, s3⟩ := y3
          have na : a ≠ q := fun z => by rw [z, hl] at z1; cases z1
          by_cases nb : a = p
          · subst nb
            rw [hp] at z1
            have z1 := Option.some.inj z1
            injection z1 with _ _ z1
            have := congrArg (fun l => l.lookup ("rows" : Str)) z1
            simp only [fF_r] at this
            have := Option.some.inj this
            injection this with this
            exact absurd this.symm nq
          · exact ⟨w.cl a z0 (by rw [z1]; intro z; cases z), dx', vn', vp', vs', w.h _ _ nb na z1, w.h _ _ np nq z2, s1.up w.g, s2.up w.g, s3.up w.g⟩
  · have other : ∀ j b' q' c', j ≠ i → en[j]? = some (some (.o b' q' c')) → q' ≠ q2 := fun j b' q' c' nj fj z => by
      rcases hq with h | h
      · exact nj (s.es.one j i _ _ _ _ _ (by rw [z, h] at fj; exact fj) e)
      · obtain ⟨u, x, y1, y2, y3⟩ := s.es.at_ j _ fj
        exact y3.there (by rw [z]; exact h)
    rcases get_set ej with ⟨rfl, e1⟩ | ⟨nj, fj⟩
    · cases e1
      rcases get_set ek with ⟨rfl, e2⟩ | ⟨nk, fk⟩
      · rfl
      · exact absurd rfl (other _ _ _ _ nk fk)
    · rcases get_set ek with ⟨rfl, e2⟩ | ⟨nk, fk⟩
      · cases e2; exact absurd rfl (other _ _ _ _ nj fj)
      · exact s.es.one j k _ _ q _ _ fj fk
  · rcases get_set ej with ⟨rfl, e1⟩ | ⟨nj, fj⟩
    · cases e1
      refine ⟨?_, fun a z => by cases z; exact hb2⟩
      by_cases c : q2 = q
      · subst c; simp only [if_true]; exact hb
      · rw [if_neg c]
        rcases hq with h | h
        · exact absurd h c
        · show B.H0 q2 = none
          exact s.h0 h
    · exact s.es.own j _ q _ fj
end
section
variable {X : Cx} {W : WN} {eE : En} {en : En} {ec : Nat → Addr} {pos : Pos} {ω : Type} {T : Bs → ω → Ends → Prop} {rest : List Stmt}
variable {i : Nat} {b : Bool} {p q C : Addr} {S : FT} {a e : Expr} {es : List Expr}
/-- x.m(a, ..), what the method changes -/
theorem xb_callF {x m : Str} {px pa pc : Pos} {k n : Nat} {f : Addr} {fd : FuncData} {ps : List Str} {fm : FT → List D → R FT} {ma : R (List D)} {kk : FT → R ω} {pl : Sem Bool} (g : Go X ec W) (c : FC X.K C) (hm : Meth X.K C m f) (F : FnOk X.prog X.w X.K X.mg X.base (L2.CX X.prog X.w) k f fd ps (spF X.K ec C n fm)) (hr : Room k X.A) (hb : Binds X.K fd ps [])
    (χ : Bool → Addr → FT → En) (ha : XA X W (a :: es) en ma) (hk : ∀ b' q' S', XB X W [] rest (χ b' q' S') (kk S') T) (hln : ∀ c ds P E, wp (fm c ds) P E → ds.length = n) (he : en[i]? = some (some (.o b q (OF C p S))) := by rfl) (hχ : ∀ b' q' S', en.set i (some (.o b' q' (OF C p S'))) = χ b' q' S' := by intro _ _ _; rfl)
    (h1 : ¬ m = "strands" := by decide +kernel) (h2 : ¬ m = "power" := by decide +kernel) (h3 : ¬ m = "rows" := by decide +kernel)
    (hN : X.N[i]? = some x := by rfl) (hv : Vis X.env.scope x := by first | exact Or.inl rfl | exact Or.inr (Or.inl rfl) | exact Or.inr (Or.inr rfl)) (hd : (x == ("__debug__" : Str)) = false := by decide) (hcd : (x == ("__classdict__" : Str)) = false := by decide)
    (hst : starEach (a :: es) X.env = (false, eval a X.env) :: starEach es X.env := by rfl) (hpl : (backTo pc (starEach es X.env)).any (·.1) = false := by rfl)
    (ht : eval (.Call (.Attribute (.Name x px) m pa) (a :: es) [] pc) X.env = (do
      let ov ← eval (.Name x px) X.env
      standAt pa.atName
      let (f, first) ← holding [ov] (getMethod ov m pl)
      callWith pc f first (backTo pc (starEach (a :: es) X.env)) (backToKw pc (keywordEach [] X.env))) := by rfl)
    (hsw : swapsWith (.Call (.Attribute (.Name x px) m pa) (a :: es) [] pc) none pos.line X.env = pure false := by first | exact swaps_no rfl | exact swapsS_no rfl | rfl) :
    XB X W [] (.Expr (.Call (.Attribute (.Name x px) m pa) (a :: es) [] pc) pos :: rest) en (ma.bnd fun ds => (fm S ds).bnd kk) T := fun B σ G H St D q' => by
  obtain ⟨e1, gq, gp, dx, vn, vp, vs, hp, hq, r1, r2, r3⟩ := st_obj St he
  refine pss_to (pss_cons (ps_expr (pe_methX (pe_var hN hv hd hcd) c.cl hm F hr hb (fun σ => passAt g.tk σ) pa_w hst hpl ht) hsw) pss_w) ⟨_, e1, p, dx, _, rfl, .inl hp, fF_no _ _ _ h1 h2 h3, ?_⟩
  refine ha σ G H St.sl _ ?_
  have h' := wp_bnd.mp q'
  cases em : ma with
  | ok ds =>
    rw [em] at h'
    intro ws G1 H1 w1 rr
    have S1 := St.grow w1
    obtain ⟨_, gq1, gp1, o1⟩ := st_obj S1 he
    refine ⟨G1, p, q, ws, S, ds, S1.lk, rfl, gq1, ⟨gp1, o1⟩, rr, hln _ _ _ _ (wp_bnd.mp h'), wp_mono (wp_bnd.mp h') (fun r hr1 q2 G2 H2 w2 z1 z2 z3 => ?_) fun c hc G2 H2 w2 => ⟨c, rfl, rfl, hc σ G2 H2 ?_⟩⟩
    · obtain ⟨b', S2⟩ := S1.growF he w2 z1 z2 z3
      rw [hχ] at S2
      exact hk b' q2 r B σ G2 H2 S2 D hr1
    · exact ⟨S1.frF he w2, fun i dv e => by simp at e, fun i j b b' p c c' e => by simp at e, fun i b p c e => by simp at e⟩
  | err c => rw [em] at h'; exact fun G2 H2 w => h' σ G2 H2 ((St.grow w).es.weak wk0_nil)
  | bad => rw [em] at h'; exact h'.elim
/-- x.m() -/
theorem xb_callF0 {x m : Str} {px pa pc : Pos} {k : Nat} {f : Addr} {fd : FuncData} {ps : List Str} {fm : FT → List D → R FT} {kk : FT → R ω} {pl : Sem Bool} (g : Go X ec W) (c : FC X.K C) (hm : Meth X.K C m f) (F : FnOk X.prog X.w X.K X.mg X.base (L2.CX X.prog X.w) k f fd ps (spF X.K ec C 0 fm)) (hr : Room k X.A) (hb : Binds X.K fd ps [])
    (χ : Bool → Addr → FT → En) (hk : ∀ b' q' S', XB X W [] rest (χ b' q' S') (kk S') T) (he : en[i]? = some (some (.o b q (OF C p S))) := by rfl) (hχ : ∀ b' q' S', en.set i (some (.o b' q' (OF C p S'))) = χ b' q' S' := by intro _ _ _; rfl)
    (h1 : ¬ m = "strands" := by decide +kernel) (h2 : ¬ m = "power" := by decide +kernel) (h3 : ¬ m = "rows" := by decide +kernel)
    (hN : X.N[i]? = some x := by rfl) (hv : Vis X.env.scope x := by first | exact Or.inl rfl | exact Or.inr (Or.inl rfl) | exact Or.inr (Or.inr rfl)) (hd : (x == ("__debug__" : Str)) = false := by decide) (hcd : (x == ("__classdict__" : Str)) = false := by decide)
    (ht : eval (.Call (.Attribute (.Name x px) m pa) [] [] pc) X.env = (do
      let ov ← eval (.Name x px) X.env
      standAt pa.atName
      let (f, first) ← holding [ov] (getMethod ov m pl)
      callWith pc f first (backTo pc (starEach [] X.env)) (backToKw pc (keywordEach [] X.env))) := by rfl)
    (hsw : swapsWith (.Call (.Attribute (.Name x px) m pa) [] [] pc) none pos.line X.env = pure false := by first | exact swaps_no rfl | exact swapsS_no rfl | rfl) :
    XB X W [] (.Expr (.Call (.Attribute (.Name x px) m pa) [] [] pc) pos :: rest) en ((fm S []).bnd kk) T := fun B σ G H St D q' => by
  obtain ⟨e1, gq, gp, dx, vn, vp, vs, hp, hq, r1, r2, r3⟩ := st_obj St he
  refine pss_to (pss_cons (ps_expr (pe_methX0 (pe_var hN hv hd hcd) c.cl hm F hr hb (fun σ => passAt g.tk σ) ht) hsw) pss_w) ⟨_, e1, p, dx, _, rfl, .inl hp, fF_no _ _ _ h1 h2 h3, ?_⟩
  have h' := wp_bnd.mp q'
  refine ⟨G, p, q, [], S, [], St.lk, rfl, gq, ⟨gp, dx, vn, vp, vs, hp, hq, r1, r2, r3⟩, .nil, rfl, wp_mono h' (fun r hr1 q2 G2 H2 w2 z1 z2 z3 => ?_) fun c hc G2 H2 w2 => ⟨c, rfl, rfl, hc σ G2 H2 ?_⟩⟩
  · obtain ⟨b', S2⟩ := St.growF he w2 z1 z2 z3
    rw [hχ] at S2
    exact hk b' q2 r B σ G2 H2 S2 D hr1
  · exact ⟨St.frF he w2, fun i dv e => by simp at e, fun i j b b' p c c' e => by simp at e, fun i b p c e => by simp at e⟩
/-- one field is changed -/
theorem St8.mutP {B : Bs} {σ : L2.St} {G H : Hp} {dx : Addr} {vn vp : V} {pw' : D} (St : St8 X.K B en σ G H) (he : en[i]? = some (some (.o b q (OF C p S)))) (hp : H p = some (.ins C dx (fF vn vp q))) (rn : Rp X.K G vn S.1) {vp' : V} (r : Rp X.K G vp' pw') : St8 X.K B (en.set i (some (.o b q (OF C p (S.1, pw', S.2.2))))) σ G (upd H p (.ins C dx (fF vn vp' q))) := by
  obtain ⟨e1, gq, gp, dx', vn', vp0, vs, hp', hq, r1, r2, r3⟩ := st_obj St he
  have hb2 := (St.es.own i b q _ he).2 p rfl
  have hb := (St.es.own i b q _ he).1
  have hpq : p ≠ q := fun z => by rw [z, hq] at hp; cases hp
  refine ⟨⟨⟨⟨fun a u pu ru => ?_, fun a n => ?_⟩, St.es.fr.le0, fun a u n eu => ?_, fun a n => ?_, St.es.fr.cl⟩, fun j dv ej => ?_, fun j k b b' q c c' ej ek => ?_, fun j b q c ej => ?_⟩, by simp [St.len]⟩
  · have na : a ≠ p := fun z => by
      subst z
      rcases ru with z | ⟨_, z⟩ <;> (rw [gp] at z; cases z)
    rcases St.es.fr.up.le a u pu ru with z | ⟨x, z⟩
    · exact .inl (by rw [upd_ne na]; exact z)
    · exact .inr ⟨x, by rw [upd_ne na]; exact z⟩
  · by_cases z : a = p
    · rw [z]; exact gp
    · rw [upd_ne z] at n; exact St.es.fr.up.kn a n
  · have na : a ≠ p := fun z => by
      subst z
      rcases hb2 with z | z
      · exact n z
      · rw [z] at eu; cases eu
    rw [upd_ne na]; exact St.es.fr.keep a u n eu
  · by_cases z : a = p
    · rw [z, upd_same]; intro y; cases y
    · rw [upd_ne z]; exact St.es.fr.there a n
  · rcases get_set ej with ⟨rfl, e2⟩ | ⟨nj, fj⟩
    · cases e2
      exact ⟨_, e1, rfl, gq, gp, dx, vn, vp', vs, upd_same, by rw [upd_ne hpq.symm]; exact hq, rn, r, r3⟩
    · obtain ⟨u, x, y⟩ := St.es.at_ j dv fj
      refine ⟨u, x, ?_⟩
      cases dv with
      | v d => exact y
      | o b2 q' c2 =>
        obtain ⟨y1, y2, y3⟩ := y
        have nq : q' ≠ q := fun z => nj (by subst z; exact St.es.one j i _ _ _ _ _ fj he)
        obtain ⟨vs0, hl0⟩ := y3.lst
        have np : q' ≠ p := fun z => by rw [z, hp] at hl0; cases hl0
        refine ⟨y1, y2, ?_⟩
        cases c2 with
        | l ds => obtain ⟨vs, e, r⟩ := y3; exact ⟨vs, by rw [upd_ne np]; exact e, r⟩
        | f a C' m pw' ds' =>
          obtain ⟨z0, dx', vn', vp', vs', z1, z2, s1, s2, s3⟩ := y3
          by_cases nb : a = p
          · subst nb
            rw [hp] at z1
            have z1 := Option.some.inj z1
            injection z1 with _ _ z1
            have := congrArg (fun l => l.lookup ("rows" : Str)) z1
            simp only [fF_r] at this
            have := Option.some.inj this
            injection this with this
            exact absurd this.symm nq
          · exact ⟨z0, dx', vn', vp', vs', by rw [upd_ne nb]; exact z1, by rw [upd_ne np]; exact z2, s1, s2, s3⟩
  · rcases get_set ej with ⟨rfl, e2⟩ | ⟨n, fj⟩
    · cases e2
      rcases get_set ek with ⟨rfl, e2⟩ | ⟨n', fk⟩
      · rfl
      · exact St.es.one _ _ _ _ _ _ _ he fk
    · rcases get_set ek with ⟨rfl, e2⟩ | ⟨n', fk⟩
      · cases e2; exact St.es.one _ _ _ _ _ _ _ fj he
      · exact St.es.one j k _ _ q _ _ fj fk
  · rcases get_set ej with ⟨rfl, e2⟩ | ⟨n, fj⟩
    · cases e2; exact ⟨hb, fun a z => by cases z; exact hb2⟩
    · exact St.es.own j _ q _ fj
/-- x.power = e -/
theorem xb_fldP {x : Str} {px pa : Pos} {me : R D} {k : D → R ω} (c : FC X.K C) (φ : D → En) (h : XP X W e en me) (hk : ∀ d, XB X W eE rest (φ d) (k d) T) (he : en[i]? = some (some (.o b q (OF C p S))) := by rfl) (hφ : ∀ d, en.set i (some (.o b q (OF C p (S.1, d, S.2.2)))) = φ d := by intro _; rfl) (we : Wk0 eE en := by first | exact wk0_nil | exact wk0_refl | assumption | exact Wkn.wk0 (by repeat' first | exact Wkn.nil | apply Wkn.k | apply Wkn.d))
    (hN : X.N[i]? = some x := by rfl) (hv : Vis X.env.scope x := by first | exact Or.inl rfl | exact Or.inr (Or.inl rfl) | exact Or.inr (Or.inr rfl)) (hd : (x == ("__debug__" : Str)) = false := by decide) (hcd : (x == ("__classdict__" : Str)) = false := by decide)
    (hs : swapsWith e (some (.Attribute (.Name x px) "power" pa)) pos.line X.env = pure false := by first | exact swaps_no rfl | exact swapsS_no rfl | rfl) :
    XB X W eE (.Assign [.Attribute (.Name x px) "power" pa] e pos :: rest) en (me.bnd k) T := fun B σ G H St D q' => by
  refine pss_to (pss_cons (ps_fld (pe_var hN hv hd hcd) pe_w hs) pss_w) ?_
  refine xp_run h St we (wp_mono (wp_bnd.mp q') (fun d hd' v G1 H1 l1 S1 s1 => ?_) fun _ z => z)
  obtain ⟨e1, gq, gp, dx, vn, vp, vs, hp, hq, r1, r2, r3⟩ := st_obj S1 he
  refine ⟨_, e1, p, C, dx, _, rfl, hp, c.cl, c.nP, fF_len _ _ _, ?_⟩
  rw [fF_putP]
  have S2 := S1.mutP he hp r1 s1
  rw [hφ] at S2
  exact hk d B σ G1 _ S2 D hd'
/-- x.rows = a new list -/
theorem xb_fldR {x : Str} {px pa : Pos} {me : R (List D)} {k : List D → R ω} (c : FC X.K C) (φ : Addr → List D → En) (h : XN X W e en me) (hk : ∀ a ds, XB X W eE rest (φ a ds) (k ds) T) (he : en[i]? = some (some (.o b q (OF C p S))) := by rfl) (hφ : ∀ a ds, en.set i (some (.o false a (OF C p (S.1, S.2.1, ds)))) = φ a ds := by intro _ _; rfl) (we : Wk0 eE en := by first | exact wk0_nil | exact wk0_refl | assumption | exact Wkn.wk0 (by repeat' first | exact Wkn.nil | apply Wkn.k | apply Wkn.d))
    (hN : X.N[i]? = some x := by rfl) (hv : Vis X.env.scope x := by first | exact Or.inl rfl | exact Or.inr (Or.inl rfl) | exact Or.inr (Or.inr rfl)) (hd : (x == ("__debug__" : Str)) = false := by decide) (hcd : (x == ("__classdict__" : Str)) = false := by decide)
    (hs : swapsWith e (some (.Attribute (.Name x px) "rows" pa)) pos.line X.env = pure false := by first | exact swaps_no rfl | exact swapsS_no rfl | rfl) :
    XB X W eE (.Assign [.Attribute (.Name x px) "rows" pa] e pos :: rest) en (me.bnd k) T := fun B σ G H St D q' => by
  refine pss_to (pss_cons (ps_fld (pe_var hN hv hd hcd) pe_w hs) pss_w) ?_
  refine xn_run h St we (wp_mono (wp_bnd.mp q') (fun d hd' a vs1 G1 H1 l1 S1 hp0 gp0 ep0 s1 => ?_) fun _ z => z)
  obtain ⟨e1, gq, gp, dx, vn, vp, vs, hp, hq, r1, r2, r3⟩ := st_obj S1 he
  refine ⟨_, e1, p, C, dx, _, rfl, hp, c.cl, c.nR, fF_len _ _ _, ?_⟩
  rw [fF_putR]
  have hB := St.h0 hp0
  have hno : ∀ (j : Nat) (b' : Bool) (c' : OO), en[j]? ≠ some (some (DV.o b' a c')) := fun j b' c' ej => by
    obtain ⟨u, x1, y1, y2, y3⟩ := St.es.at_ j _ ej
    exact y3.there hp0
  have hap : a ≠ p := fun z => by rw [z, hp] at ep0; cases ep0
  have hb2 := (S1.es.own i b q _ he).2 p rfl
  have S2 : St8 X.K B (en.set i (some (.o false a (OF C p (S.1, S.2.1, d))))) σ G1 (upd H1 p (.ins C dx (fF vn vp a))) := by
    refine ⟨⟨⟨⟨fun a u pu ru => ?_, fun a n => ?_⟩, S1.es.fr.le0, fun a u n eu => ?_, fun a n => ?_, S1.es.fr.cl⟩, fun j dv ej => ?_, fun j k b b' q c c' ej ek => ?_, fun j b q c ej => ?_⟩, by simp [S1.len]⟩
    · have na : a ≠ p := fun z => by
        subst z
        rcases ru with z | ⟨_, z⟩ <;> (rw [gp] at z; cases z)
      rcases S1.es.fr.up.le a u pu ru with z | ⟨x, z⟩
      · exact .inl (by rw [upd_ne na]; exact z)
      · exact .inr ⟨x, by rw [upd_ne na]; exact z⟩
    · by_cases z : a = p
      · rw [z]; exact gp
      · rw [upd_ne z] at n; exact S1.es.fr.up.kn a n
    · have na : a ≠ p := fun z => by
        subst z
        rcases hb2 with z | z
        · exact n z
        · rw [z] at eu; cases eu
      rw [upd_ne na]; exact S1.es.fr.keep a u n eu
    · by_cases z : a = p
      · rw [z, upd_same]; intro y; cases y
      · rw [upd_ne z]; exact S1.es.fr.there a n
    · rcases get_set ej with ⟨rfl, e2⟩ | ⟨nj, fj⟩
      · cases e2
        exact ⟨_, e1, rfl, gp0, gp, dx, vn, vp, vs1, upd_same, by rw [upd_ne hap]; exact ep0, r1, r2, s1⟩
      · obtain ⟨u, x, y⟩ := S1.es.at_ j dv fj
        refine ⟨u, x, ?_⟩
        cases dv with
        | v d => exact y
        | o b2 q' c2 =>
          obtain ⟨y1, y2, y3⟩ := y
          have nq : q' ≠ q := fun z => nj (by subst z; exact S1.es.one j i _ _ _ _ _ fj he)
          obtain ⟨vs0, hl0⟩ := y3.lst
          have np : q' ≠ p := fun z => by rw [z, hp] at hl0; cases hl0
          refine ⟨y1, y2, ?_⟩
          cases c2 with
          | l ds => obtain ⟨vs, e, r⟩ := y3; exact ⟨vs, by rw [upd_ne np]; exact e, r⟩
          | f a C' m pw' ds' =>
            obtain ⟨z0, dx', vn', vp', vs', z1, z2, s1, s2, s3⟩ := y3
            by_cases nb : a = p
            · subst nb
              rw [hp] at z1
              have z1 := Option.some.inj z1
              injection z1 with _ _ z1
              have := congrArg (fun l => l.lookup ("rows" : Str)) z1
              simp only [fF_r] at this
              have := Option.some.inj this
              injection this with this
              exact absurd this.symm nq
            · exact ⟨z0, dx', vn', vp', vs', by rw [upd_ne nb]; exact z1, by rw [upd_ne np]; exact z2, s1, s2, s3⟩
    · rcases get_set ej with ⟨rfl, e2⟩ | ⟨n, fj⟩
      · cases e2
        rcases get_set ek with ⟨rfl, e2⟩ | ⟨n', fk⟩
        · rfl
        · exact absurd fk (hno _ _ _)
      · rcases get_set ek with ⟨rfl, e2⟩ | ⟨n', fk⟩
        · cases e2; exact absurd fj (hno _ _ _)
        · exact S1.es.one j k _ _ q _ _ fj fk
    · rcases get_set ej with ⟨rfl, e2⟩ | ⟨n, fj⟩
      · cases e2; exact ⟨hB, fun a z => by cases z; exact hb2⟩
      · exact S1.es.own j _ q _ fj
  rw [hφ] at S2
  exact hk a d B σ G1 _ S2 D hd'
def D.isO (C : Addr) (d : D) : Option D := match d with
  | .ob C' _ _ _ => if C' = C then some d else none
  | _ => none
/-- o.m(), o an object that is data -/
theorem xp_methO {m : Str} {pa pc : Pos} {k : Nat} {f C0 : Addr} {fd : FuncData} {ps : List Str} {fm : List D → R D} {ma : R D} {pl : Sem Bool} (g : Go X ec W) (c : FC X.K C0) (hm : Meth X.K C0 m f) (F : FnOk X.prog X.w X.K X.mg X.base (L2.CX X.prog X.w) k f fd ps (spR X.K ec (rP X.K) 1 fm)) (hr : Room k X.A) (hb : Binds X.K fd ps [])
    (ha : XP X W a en ma) (h1 : ¬ m = "strands" := by decide +kernel) (h2 : ¬ m = "power" := by decide +kernel) (h3 : ¬ m = "rows" := by decide +kernel)
    (ht : eval (.Call (.Attribute a m pa) [] [] pc) X.env = (do
      let ov ← eval a X.env
      standAt pa.atName
      let (f, first) ← holding [ov] (getMethod ov m pl)
      callWith pc f first (backTo pc (starEach [] X.env)) (backToKw pc (keywordEach [] X.env))) := by rfl) :
    XP X W (.Call (.Attribute a m pa) [] [] pc) en (ma.bnd fun d => (R.of (D.isO C0 d)).bnd fun d => fm [d]) := fun σ G H S Q q' => by
  refine pe_to (pe_methX0 pe_w c.cl hm F hr hb (fun σ => passAt g.tk σ) ht) (ha σ G H S _ (wp_mono (wp_bnd.mp q') (fun d hd v G1 H1 w1 r1 => ?_) fun _ z => z))
  obtain ⟨d', e1, hd3⟩ := wp_of (wp_bnd.mp hd)
  clear hd
  unfold D.isO at e1
  split at e1
  · split at e1
    · rename_i hc
      cases e1
      subst hc
      have r1' := r1
      cases r1 with
      | ob z1 z2 z3 z4 z5 =>
        exact ⟨_, _, _, rfl, w1.up.le _ _ rfl z1, fF_no _ _ _ h1 h2 h3, G1, [_], w1.up, .cons r1' .nil, rfl, wp_mono hd3 (fun d hd v G2 H2 w2 r2 => hd v G2 H2 (w1.trans w2) r2) fun c hc G2 H2 w2 => ⟨c, rfl, rfl, hc G2 H2 (w1.trans w2)⟩⟩
    · cases e1
  · cases e1
end
end Wk
set_option maxHeartbeats 4000000
/-! Wk47: an object is made. -/
namespace Wk
open PySem PySem.Spec PyProof.Rows L2
/-- where the class of the objects lies -/
class FormC where
  c : Addr
/-- what __init__ does -/
def spI (C : Addr) : Sp := fun vs H Q _ => ∃ p dx v, vs = [.ref p, v] ∧ H p = some (.ins C dx []) ∧ ∀ q, H q = none → Q .non (upd (upd H q (.lst [])) p (.ins C dx (fF v (.int 0) q)))
section
variable {P : Program} {w : World} {K : PySem.W.Frag} {mg : Str → Option Value} {base : Heap}
theorem ok_initF {qual : Str} {st : Stmt} {f C : Addr} {fd : FuncData} {p1 p2 p3 p4 p5 p6 p7 p8 p9 p10 p11 p12 : Pos} {j : Nat} (F : Fun K "__init__" qual st f fd) (S : FnScope ["self", "strands"] ["self", "strands"] (defScope st)) (c : FC K C) (hv0 : (defScope st).names.lookup ("self" : Str) = some .local) (hv1 : (defScope st).names.lookup ("strands" : Str) = some .local)
    (hb : defBody st = [.Assign [.Attribute (.Name "self" p1) "strands" p2] (.Name "strands" p3) p4, .Assign [.Attribute (.Name "self" p5) "power" p6] (.Constant (.int 0) j p7) p8, .Assign [.Attribute (.Name "self" p9) "rows" p10] (.List [] p11) p12]) :
    FnOk P w K mg base (L2.CX P w) 1 f fd ["self", "strands"] (spI C) := by
  refine F.okX S (fun vs H Q E h => ?_) (fun cdv A outer s H vs Q E hr h => ?_)
  · obtain ⟨p, dx, v, rfl, _⟩ := h
    rfl
  · obtain ⟨p, dx, v, rfl, hp, k⟩ := h
    rw [hb]
    refine ⟨_, pss_cons (ps_fld (pv 0 (hv := Or.inl hv0)) (pv 1 (hv := Or.inl hv1)) rfl) (pss_cons (ps_fld (pv 0 (hv := Or.inl hv0)) pe_int rfl) (pss_one (ps_fld (pv 0 (hv := Or.inl hv0)) (pe_lst pa_nil) rfl))), ?_⟩
    refine ⟨_, rfl, _, rfl, p, C, dx, [], rfl, hp, c.cl, c.nN, by show 0 < 1000; decide, ?_⟩
    refine ⟨_, rfl, p, C, dx, _, rfl, upd_same, c.cl, c.nP, by show 1 < 1000; decide, ?_⟩
    refine ⟨Nat.zero_le _, fun q hq => ?_⟩
    have hqp : q ≠ p := fun z => by rw [z, upd_same] at hq; cases hq
    have hq0 : H q = none := by rw [upd_ne hqp, upd_ne hqp] at hq; exact hq
    refine ⟨_, rfl, p, C, dx, _, rfl, by rw [upd_ne hqp.symm, upd_same], c.cl, c.nR, ?_, ?_⟩
    · have := length_putF ("power" : Str) (V.int 0) (putF ("strands" : Str) v [])
      have := length_putF ("strands" : Str) v []
      simp at *
      omega
    · have e : upd (upd (upd (upd H p (.ins C dx (putF "strands" v []))) p (.ins C dx (putF "power" (.int 0) (putF "strands" v [])))) q (.lst [])) p (.ins C dx (putF "rows" (.ref q) (putF "power" (.int 0) (putF "strands" v [])))) = upd (upd H q (.lst [])) p (.ins C dx (fF v (.int 0) q)) := by
        funext a
        by_cases h1 : a = p
        · subst h1; rw [upd_same, upd_same]; rfl
        · rw [upd_ne h1, upd_ne h1]
          by_cases h2 : a = q
          · subst h2; rw [upd_same, upd_same]
          · rw [upd_ne h2, upd_ne h1, upd_ne h1, upd_ne h2]
      show Q .non _
      rw [e]
      exact k q hq0
end
section
variable {X : Cx} {W : WN} {eE : En} {en : En} {ec : Nat → Addr} {pos : Pos} {ω : Type} {T : Bs → ω → Ends → Prop} {rest : List Stmt}
variable {i : Nat} {C : Addr} {a : Expr}
theorem St8.setF {B : Bs} {σ : L2.St} {G H : Hp} {p q : Addr} {S : FT} (s : St8 X.K B en σ G H) (hn : NoOwn en q) (hB : B.H0 q = none) (hBp : B.H0 p = none) (gq : G q = none) (r : OwnRp X.K G H q (OF C p S)) : St8 X.K B (en.set i (some (.o false q (OF C p S)))) (σ.set i (some (.ref p))) G H := by
  refine ⟨⟨s.es.fr, fun j dv e => ?_, fun j k b b' q c c' e e' => ?_, fun j b q c e => ?_⟩, by simp [s.len]⟩
  · rcases get_set e with ⟨rfl, e1⟩ | ⟨n, f1⟩
    · cases e1
      have hj : j < σ.length := by
        rw [s.len]
        have := (List.getElem?_eq_some_iff.mp e).1
        simpa using this
      exact ⟨.ref p, List.getElem?_set_self hj, rfl, gq, r⟩
    · obtain ⟨u, a, b⟩ := s.es.at_ j dv f1
      exact ⟨u, by rw [List.getElem?_set_ne (Ne.symm n)]; exact a, b⟩
  · rcases get_set e with ⟨rfl, e1⟩ | ⟨n, f1⟩
    · cases e1
      rcases get_set e' with ⟨rfl, e1⟩ | ⟨n', f2⟩
      · rfl
      · exact absurd f2 (hn k b' c')
    · rcases get_set e' with ⟨rfl, e1⟩ | ⟨n', f2⟩
      · cases e1; exact absurd f1 (hn j b c)
      · exact s.es.one j k b b' q c c' f1 f2
  · rcases get_set e with ⟨rfl, e1⟩ | ⟨n, f1⟩
    · cases e1; exact ⟨hB, fun a z => by cases z; exact .inr hBp⟩
    · exact s.es.own j b q c f1
/-- x = C(a) -/
theorem xb_makeF {x y : Str} {px pc : Pos} {k : Nat} {f : Addr} {fd : FuncData} {ps : List Str} {ma : R D} {kk : D → R ω} (g : Go X ec W) (M : Mk X.K C f) (F : FnOk X.prog X.w X.K X.mg X.base (L2.CX X.prog X.w) k f fd ps (spI C)) (hr : Room (k + 1) X.A) (hm : X.mg y = some (.ref C)) (hb : Binds X.K fd ps [])
    (χ : Addr → Addr → D → En) (ha : XP X W a en ma) (hk : ∀ p q d, XB X W eE rest (χ p q d) (kk d) T) (hχ : ∀ p q d, en.set i (some (.o false q (OF C p (d, .int 0, [])))) = χ p q d := by intro _ _ _; rfl) (we : Wk0 eE en := by first | exact wk0_nil | exact wk0_refl | assumption | exact Wkn.wk0 (by repeat' first | exact Wkn.nil | apply Wkn.k | apply Wkn.d))
    (hN : X.N[i]? = some x := by rfl) (hx : Loc X.env.scope x := by first | exact Or.inl rfl | exact Or.inr rfl) (hf : X.fn x = true ∨ X.env.scope.names.lookup x = some .local := by first | exact .inl rfl | exact .inr rfl)
    (hg : Gl X y := by rfl) (hdb : (y == ("__debug__" : Str)) = false := by decide) (h1 : starEach [a] X.env = (false, eval a X.env) :: starEach [] X.env := by rfl) (h2 : (backTo pc (starEach [] X.env)).any (·.1) = false := by rfl)
    {pc2 : Pos} (hs2 : swapsWith (.Call (.Name y pc2) [a] [] pc) (some (.Name x px)) pos.line X.env = pure false := by first | exact swaps_no rfl | exact swapsS_no rfl | rfl) :
    XB X W eE (.Assign [.Name x px] (.Call (.Name y pc2) [a] [] pc) pos :: rest) en (ma.bnd kk) T := fun B σ G H St D q' => by
  refine pss_to (pss_cons (ps_set g.nd hN hx (pe_make (E := fun _ _ _ => False) (dvs := []) M F hr hg hm hb .nil (fun pins σ H s e s' I c => g.tk e s' (XE.of_call I (fun _ _ _ h => h.elim) c)) (pa_cons pe_w pa_nil h1) hdb h1 h2) hs2 hf) pss_w) ?_
  refine xp_run ha St we (wp_mono (wp_bnd.mp q') (fun d hd v G1 H1 l1 S1 r1 => ?_) fun _ z => z)
  intro p dx np ndx nex
  refine ⟨p, dx, v, rfl, upd_same, fun q hq => ⟨rfl, ?_⟩⟩
  have hqp : q ≠ p := fun z => by rw [z, upd_same] at hq; cases hq
  have hqd : q ≠ dx := fun z => by rw [z, upd_ne nex, upd_same] at hq; cases hq
  have hq1 : H1 q = none := by rw [upd_ne hqp, upd_ne hqd] at hq; exact hq
  have e : upd (upd (upd (upd H1 dx (.own p)) p (.ins C dx [])) q (.lst [])) p (.ins C dx (fF v (.int 0) q)) = upd (upd (upd H1 dx (.own p)) q (.lst [])) p (.ins C dx (fF v (.int 0) q)) := by
    funext a
    by_cases h1 : a = p
    · subst h1; rw [upd_same, upd_same]
    · rw [upd_ne h1, upd_ne h1]
      by_cases h2 : a = q
      · subst h2; rw [upd_same, upd_same]
      · rw [upd_ne h2, upd_ne h1, upd_ne h2]
  rw [e]
  have w1 := Grow.own (o := .own p) S1.lk ndx
  have w2 := Grow.own (o := .lst []) w1.up (show upd H1 dx (.own p) q = none by rw [upd_ne hqd]; exact hq1)
  have w3 := Grow.own (o := .ins C dx (fF v (.int 0) q)) w2.up (show upd (upd H1 dx (.own p)) q (.lst []) p = none by rw [upd_ne hqp.symm, upd_ne nex.symm]; exact np)
  have S3 := ((S1.grow w1).grow w2).grow w3
  have S4 := S3.setF (i := i) (C := C) (p := p) (q := q) (S := (d, .int 0, [])) (S1.noOwn hq1) (S1.h0 hq1) (S1.h0 np) (S1.lk.kn q hq1) ⟨S1.lk.kn p np, dx, v, .int 0, [], upd_same, by rw [upd_ne hqp, upd_same], r1, .int 0, .nil⟩
  rw [hχ] at S4
  exact hk p q d B _ G1 _ S4 D hd
end
/-! methods' arguments -/
def apF0 (f : FT → R FT) (S : FT) : List D → R FT
  | [] => f S
  | _ => .bad
def apF1 (f : FT → D → R FT) (S : FT) : List D → R FT
  | [a] => f S a
  | _ => .bad
theorem lnF1 {f : FT → D → R FT} : ∀ (c : FT) ds P E, wp (apF1 f c ds) P E → ds.length = 1
  | _, [_], _, _, _ => rfl
  | _, [], _, _, h => h.elim
  | _, _ :: _ :: _, _, _, h => h.elim
@[simp] theorem s_apF0 {f : FT → R FT} {S : FT} : apF0 f S [] = f S := by exact id rfl
@[simp] theorem s_apF1 {f : FT → D → R FT} {S : FT} {a : D} : apF1 f S [a] = f S a := by exact id rfl
end Wk
set_option maxHeartbeats 4000000
namespace Lw
open PySem PySem.Spec PyProof.Rows L2 Wk
variable [FormC]
def topS (i : Nat) : Stmt := PySem.Challenge.pw_loopwright_k34_whole_half_twists_and_for.main.body.getD i (.Pass ⟨0, 0, 0, 0⟩)
structure Ad where
  a_is_letter : Addr
  fd_is_letter : FuncData
  a_looked : Addr
  fd_looked : FuncData
  a_looked_both : Addr
  fd_looked_both : FuncData
  a_behind : Addr
  fd_behind : FuncData
  a_flipped_letter : Addr
  fd_flipped_letter : FuncData
  a_flipped : Addr
  fd_flipped : FuncData
  a_exchanged : Addr
  fd_exchanged : FuncData
  a_half_twist : Addr
  fd_half_twist : FuncData
  a_plain_order : Addr
  fd_plain_order : FuncData
  a_letter_order : Addr
  fd_letter_order : FuncData
  a_undone_order : Addr
  fd_undone_order : FuncData
  a_falls : Addr
  fd_falls : FuncData
  a_begin_letters : Addr
  fd_begin_letters : FuncData
  a_end_letters : Addr
  fd_end_letters : FuncData
  a_with_end : Addr
  fd_with_end : FuncData
  a_without_begin : Addr
  fd_without_begin : FuncData
  a_flipped_order : Addr
  fd_flipped_order : FuncData
  a_movable_letters : Addr
  fd_movable_letters : FuncData
  a_settled_pair : Addr
  fd_settled_pair : FuncData
  a_Form___init__ : Addr
  fd_Form___init__ : FuncData
  a_Form_settle : Addr
  fd_Form_settle : FuncData
  a_Form_put_order : Addr
  fd_Form_put_order : FuncData
  a_Form_put : Addr
  fd_Form_put : FuncData
  a_Form_told : Addr
  fd_Form_told : FuncData
  a_form_by : Addr
  fd_form_by : FuncData
  a_form_of : Addr
  fd_form_of : FuncData
  a__law_cell_at : Addr
  fd__law_cell_at : FuncData
  a__law_state : Addr
  fd__law_state : FuncData
  a__law_choice : Addr
  fd__law_choice : FuncData
  a__law_word : Addr
  fd__law_word : FuncData
  a__law_plait : Addr
  fd__law_plait : FuncData
  a__law_flip : Addr
  fd__law_flip : FuncData
  a_law : Addr
  fd_law : FuncData
  ec : Nat → Addr
abbrev s_is_letter : Stmt := topS 8
abbrev s_looked : Stmt := topS 9
abbrev s_looked_both : Stmt := topS 10
abbrev s_behind : Stmt := topS 11
abbrev s_flipped_letter : Stmt := topS 12
abbrev s_flipped : Stmt := topS 13
abbrev s_exchanged : Stmt := topS 14
abbrev s_half_twist : Stmt := topS 17
abbrev s_plain_order : Stmt := topS 18
abbrev s_letter_order : Stmt := topS 19
abbrev s_undone_order : Stmt := topS 20
abbrev s_falls : Stmt := topS 21
abbrev s_begin_letters : Stmt := topS 22
abbrev s_end_letters : Stmt := topS 23
abbrev s_with_end : Stmt := topS 24
abbrev s_without_begin : Stmt := topS 25
abbrev s_flipped_order : Stmt := topS 26
abbrev s_movable_letters : Stmt := topS 27
abbrev s_settled_pair : Stmt := topS 28
abbrev s_Form___init__ : Stmt := inClass (topS 29) 0
abbrev s_Form_settle : Stmt := inClass (topS 29) 1
abbrev s_Form_put_order : Stmt := inClass (topS 29) 2
abbrev s_Form_put : Stmt := inClass (topS 29) 3
abbrev s_Form_told : Stmt := inClass (topS 29) 4
abbrev s_form_by : Stmt := topS 30
abbrev s_form_of : Stmt := topS 31
abbrev s__law_cell_at : Stmt := topS 33
abbrev s__law_state : Stmt := topS 34
abbrev s__law_choice : Stmt := topS 35
abbrev s__law_word : Stmt := topS 36
abbrev s__law_plait : Stmt := topS 37
abbrev s__law_flip : Stmt := topS 38
abbrev s_law : Stmt := topS 39
structure Txt (K : PySem.W.Frag) (mg : Str → Option Value) (A : Ad) : Prop where
  F_is_letter : Fun K "is_letter" "is_letter" s_is_letter A.a_is_letter A.fd_is_letter
  m_is_letter : mg "is_letter" = some (.ref A.a_is_letter)
  b_is_letter : Binds K A.fd_is_letter ["letter", "strands"] []
  F_looked : Fun K "looked" "looked" s_looked A.a_looked A.fd_looked
  m_looked : mg "looked" = some (.ref A.a_looked)
  b_looked : Binds K A.fd_looked ["plait"] []
  F_looked_both : Fun K "looked_both" "looked_both" s_looked_both A.a_looked_both A.fd_looked_both
  m_looked_both : mg "looked_both" = some (.ref A.a_looked_both)
  b_looked_both : Binds K A.fd_looked_both ["one", "other"] []
  F_behind : Fun K "behind" "behind" s_behind A.a_behind A.fd_behind
  m_behind : mg "behind" = some (.ref A.a_behind)
  b_behind : Binds K A.fd_behind ["one", "other"] []
  F_flipped_letter : Fun K "flipped_letter" "flipped_letter" s_flipped_letter A.a_flipped_letter A.fd_flipped_letter
  m_flipped_letter : mg "flipped_letter" = some (.ref A.a_flipped_letter)
  b_flipped_letter : Binds K A.fd_flipped_letter ["letter", "strands"] []
  F_flipped : Fun K "flipped" "flipped" s_flipped A.a_flipped A.fd_flipped
  m_flipped : mg "flipped" = some (.ref A.a_flipped)
  b_flipped : Binds K A.fd_flipped ["plait"] []
  F_exchanged : Fun K "exchanged" "exchanged" s_exchanged A.a_exchanged A.fd_exchanged
  m_exchanged : mg "exchanged" = some (.ref A.a_exchanged)
  b_exchanged : Binds K A.fd_exchanged ["places", "at"] []
  F_half_twist : Fun K "half_twist" "half_twist" s_half_twist A.a_half_twist A.fd_half_twist
  m_half_twist : mg "half_twist" = some (.ref A.a_half_twist)
  b_half_twist : Binds K A.fd_half_twist ["strands"] []
  F_plain_order : Fun K "plain_order" "plain_order" s_plain_order A.a_plain_order A.fd_plain_order
  m_plain_order : mg "plain_order" = some (.ref A.a_plain_order)
  b_plain_order : Binds K A.fd_plain_order ["strands"] []
  F_letter_order : Fun K "letter_order" "letter_order" s_letter_order A.a_letter_order A.fd_letter_order
  m_letter_order : mg "letter_order" = some (.ref A.a_letter_order)
  b_letter_order : Binds K A.fd_letter_order ["strands", "letter"] []
  F_undone_order : Fun K "undone_order" "undone_order" s_undone_order A.a_undone_order A.fd_undone_order
  m_undone_order : mg "undone_order" = some (.ref A.a_undone_order)
  b_undone_order : Binds K A.fd_undone_order ["row"] []
  F_falls : Fun K "falls" "falls" s_falls A.a_falls A.fd_falls
  m_falls : mg "falls" = some (.ref A.a_falls)
  b_falls : Binds K A.fd_falls ["row"] []
  F_begin_letters : Fun K "begin_letters" "begin_letters" s_begin_letters A.a_begin_letters A.fd_begin_letters
  m_begin_letters : mg "begin_letters" = some (.ref A.a_begin_letters)
  b_begin_letters : Binds K A.fd_begin_letters ["row"] []
  F_end_letters : Fun K "end_letters" "end_letters" s_end_letters A.a_end_letters A.fd_end_letters
  m_end_letters : mg "end_letters" = some (.ref A.a_end_letters)
  b_end_letters : Binds K A.fd_end_letters ["row"] []
  F_with_end : Fun K "with_end" "with_end" s_with_end A.a_with_end A.fd_with_end
  m_with_end : mg "with_end" = some (.ref A.a_with_end)
  b_with_end : Binds K A.fd_with_end ["row", "letter"] []
  F_without_begin : Fun K "without_begin" "without_begin" s_without_begin A.a_without_begin A.fd_without_begin
  m_without_begin : mg "without_begin" = some (.ref A.a_without_begin)
  b_without_begin : Binds K A.fd_without_begin ["row", "letter"] []
  F_flipped_order : Fun K "flipped_order" "flipped_order" s_flipped_order A.a_flipped_order A.fd_flipped_order
  m_flipped_order : mg "flipped_order" = some (.ref A.a_flipped_order)
  b_flipped_order : Binds K A.fd_flipped_order ["row"] []
  F_movable_letters : Fun K "movable_letters" "movable_letters" s_movable_letters A.a_movable_letters A.fd_movable_letters
  m_movable_letters : mg "movable_letters" = some (.ref A.a_movable_letters)
  b_movable_letters : Binds K A.fd_movable_letters ["one", "other"] []
  F_settled_pair : Fun K "settled_pair" "settled_pair" s_settled_pair A.a_settled_pair A.fd_settled_pair
  m_settled_pair : mg "settled_pair" = some (.ref A.a_settled_pair)
  b_settled_pair : Binds K A.fd_settled_pair ["one", "other"] []
  F_Form___init__ : Fun K "__init__" "Form.__init__" s_Form___init__ A.a_Form___init__ A.fd_Form___init__
  me_Form___init__ : Meth K FormC.c "__init__" A.a_Form___init__
  b_Form___init__ : Binds K A.fd_Form___init__ ["self", "strands"] []
  F_Form_settle : Fun K "settle" "Form.settle" s_Form_settle A.a_Form_settle A.fd_Form_settle
  me_Form_settle : Meth K FormC.c "settle" A.a_Form_settle
  b_Form_settle : Binds K A.fd_Form_settle ["self"] []
  F_Form_put_order : Fun K "put_order" "Form.put_order" s_Form_put_order A.a_Form_put_order A.fd_Form_put_order
  me_Form_put_order : Meth K FormC.c "put_order" A.a_Form_put_order
  b_Form_put_order : Binds K A.fd_Form_put_order ["self", "row"] []
  F_Form_put : Fun K "put" "Form.put" s_Form_put A.a_Form_put A.fd_Form_put
  me_Form_put : Meth K FormC.c "put" A.a_Form_put
  b_Form_put : Binds K A.fd_Form_put ["self", "letter"] []
  F_Form_told : Fun K "told" "Form.told" s_Form_told A.a_Form_told A.fd_Form_told
  me_Form_told : Meth K FormC.c "told" A.a_Form_told
  b_Form_told : Binds K A.fd_Form_told ["self"] []
  F_form_by : Fun K "form_by" "form_by" s_form_by A.a_form_by A.fd_form_by
  m_form_by : mg "form_by" = some (.ref A.a_form_by)
  b_form_by : Binds K A.fd_form_by ["strands", "word"] []
  F_form_of : Fun K "form_of" "form_of" s_form_of A.a_form_of A.fd_form_of
  m_form_of : mg "form_of" = some (.ref A.a_form_of)
  b_form_of : Binds K A.fd_form_of ["plait"] []
  F__law_cell_at : Fun K "_law_cell_at" "_law_cell_at" s__law_cell_at A.a__law_cell_at A.fd__law_cell_at
  m__law_cell_at : mg "_law_cell_at" = some (.ref A.a__law_cell_at)
  b__law_cell_at : Binds K A.fd__law_cell_at ["script", "k"] []
  F__law_state : Fun K "_law_state" "_law_state" s__law_state A.a__law_state A.fd__law_state
  m__law_state : mg "_law_state" = some (.ref A.a__law_state)
  b__law_state : Binds K A.fd__law_state ["script", "k"] []
  F__law_choice : Fun K "_law_choice" "_law_choice" s__law_choice A.a__law_choice A.fd__law_choice
  m__law_choice : mg "_law_choice" = some (.ref A.a__law_choice)
  b__law_choice : Binds K A.fd__law_choice ["state", "many"] []
  F__law_word : Fun K "_law_word" "_law_word" s__law_word A.a__law_word A.fd__law_word
  m__law_word : mg "_law_word" = some (.ref A.a__law_word)
  b__law_word : Binds K A.fd__law_word ["state", "strands", "count"] []
  F__law_plait : Fun K "_law_plait" "_law_plait" s__law_plait A.a__law_plait A.fd__law_plait
  m__law_plait : mg "_law_plait" = some (.ref A.a__law_plait)
  b__law_plait : Binds K A.fd__law_plait ["state", "least", "most", "letters"] []
  F__law_flip : Fun K "_law_flip" "_law_flip" s__law_flip A.a__law_flip A.fd__law_flip
  m__law_flip : mg "_law_flip" = some (.ref A.a__law_flip)
  b__law_flip : Binds K A.fd__law_flip ["row"] []
  F_law : Fun K "law" "law" s_law A.a_law A.fd_law
  m_law : mg "law" = some (.ref A.a_law)
  b_law : Binds K A.fd_law ["script"] []
  fc : FC K FormC.c
  mkk : Mk K FormC.c A.a_Form___init__
  mgC : mg "Form" = some (.ref FormC.c)
  n_abs : mg "abs" = none
  n_len : mg "len" = none
  n_tuple : mg "tuple" = none
  n_range : mg "range" = none
  n_reversed : mg "reversed" = none
  n_list : mg "list" = none
  n_enumerate : mg "enumerate" = none
  n_max : mg "max" = none
  c_MOST_STRANDS : ∃ u, mg "MOST_STRANDS" = some u ∧ RelV (.int (6)) u
  c_MOST_LETTERS : ∃ u, mg "MOST_LETTERS" = some u ∧ RelV (.int (16)) u
  c_MOST_WORD : ∃ u, mg "MOST_WORD" = some u ∧ RelV (.int (500)) u
  e_NoPlait : ErrOk K mg "NoPlait" (A.ec 0)
  e_NoRoom : ErrOk K mg "NoRoom" (A.ec 1)
  e_NoStep : ErrOk K mg "NoStep" (A.ec 2)
section
variable {P : Program} {w : World} {K : PySem.W.Frag} {mg : Str → Option Value} {base : Heap} {A : Ad}
theorem sc_is_letter : FnScope ["letter", "strands"] ["letter", "strands"] (defScope s_is_letter) := ⟨rfl, rfl, rfl, by decide +kernel, rfl, by decide +kernel, by decide +kernel⟩
@[irreducible] def f_is_letter (x_letter : D) (x_strands : D) : R D := ((R.ok x_letter).bnd fun x => (R.ok (D.int 0)).bnd fun y => R.of ((fun x y => (D.ne x y).map D.bl) x y)).bnd fun x => (R.of (D.bool x)).bnd fun t => if t = true then ((((R.ok x_letter).bnd fun x => .ok [x]).bnd fun ds => R.of (D.abs ds)).bnd fun x => (R.ok x_strands).bnd fun y => R.of ((fun x y => (D.lt x y).map D.bl) x y)) else .ok (D.bl false)
theorem ok_is_letter (T : Txt K mg A) : FnOk P w K mg base (L2.CX P w) 1 A.a_is_letter A.fd_is_letter ["letter", "strands"] (spR K A.ec (rP K) 2 (ap2 f_is_letter)) := by
  refine fn_ok T.F_is_letter sc_is_letter rfl fun cdv A' outer s H E hr g ds hd => ?_
  match ds, hd with
  | [x_letter, x_strands], _ => show XB _ _ [] _ [some (.v x_letter), some (.v x_strands)] (f_is_letter x_letter x_strands) _; unfold f_is_letter; exact (xb_ret (xp_and (xp_cmp (o_ne hr.units) d_ne (nomark _) (xp_var (i := 0) rfl) xp_int) (xp_one (xp_cmp op_lt d_lt (nomark _) (xp_callB call_abs d_abs (by rfl) T.n_abs (by decide +kernel) (xa_1 (xp_var (i := 0) rfl))) (xp_var (i := 1) rfl)))))
theorem sc_looked : FnScope ["plait", "strands", "word", "letter"] ["plait"] (defScope s_looked) := ⟨rfl, rfl, rfl, by decide +kernel, rfl, by decide +kernel, by decide +kernel⟩
@[irreducible] def f_looked (x_plait : D) : R D := R.bU2 (R.ok x_plait) fun x_strands_1 x_word_2 => ((((R.ok (D.int 1)).bnd fun x => (R.ok x_strands_1).bnd fun y => (R.of (D.le x y)).bnd fun t => if t = true then (R.ok (D.int (6))).bnd fun z => R.of (D.le y z) else .ok false).bnd fun x => .ok (!x)).bnd fun x => if x = true then .ok true else (((R.ok x_word_2).bnd fun x => .ok [x]).bnd fun ds => R.of (D.len ds)).bnd fun x => (R.ok (D.int (16))).bnd fun y => R.of (D.gt x y)).bnd fun b => if b = true then .err 0 else (((R.ok x_word_2).bnd fun d => R.of (D.seq d)).bnd fun ds => foldR (fun (a4 : Unit) d5 => (((((R.ok d5).bnd fun x => (R.ok x_strands_1).bnd fun y => .ok [x, y]).bnd (ap2 f_is_letter)).bnd fun d => R.of (D.bool d)).bnd fun x => .ok (!x)).bnd fun b => if b = true then .err 0 else .ok ()) () ds).bnd fun a6 => ((R.ok x_word_2).bnd fun x => .ok [x]).bnd fun ds => R.of (D.len ds)
theorem ok_looked (T : Txt K mg A) : FnOk P w K mg base (L2.CX P w) 2 A.a_looked A.fd_looked ["plait"] (spR K A.ec (rP K) 1 (ap1 f_looked)) := by
  refine fn_ok T.F_looked sc_looked rfl fun cdv A' outer s H E hr g ds hd => ?_
  match ds, hd with
  | [x_plait], _ => show XB _ _ [] _ [some (.v x_plait), none, none, none] (f_looked x_plait) _; unfold f_looked; exact (xb_two (i := 1) (j := 2) g (fun x_strands_1 x_word_2 => [some (.v x_plait), some (.v x_strands_1), some (.v x_word_2), none]) (xp_var (i := 0) rfl) fun x_strands_1 x_word_2 => (xb_ifE (xt_w (xw_or (xt_not (xt_chain op_le op_le d_le d_le xp_int (xp_var (i := 1) rfl) (xp_cI T.c_MOST_STRANDS) (pt_chain op_le op_le pe_w pe_w pe_w))) (xw_or1 (xt_cmp op_gt d_gt (nomark _) (xp_callB c_len d_len (by rfl) T.n_len (by decide +kernel) (xa_1 (xp_var (i := 2) rfl))) (xp_cI T.c_MOST_LETTERS))))) (xb_rse g T.e_NoPlait) (xb_seq (L := (fun (a4 : Unit) (e : En) => e = [some (.v x_plait), some (.v x_strands_1), some (.v x_word_2), none])) (xs_for (i := 3) (L := (fun (a4 : Unit) (e : En) => e = [some (.v x_plait), some (.v x_strands_1), some (.v x_word_2), none])) (a0 := ()) (e0 := [some (.v x_plait), some (.v x_strands_1), some (.v x_word_2), none]) (step := fun (a4 : Unit) d5 => (((((R.ok d5).bnd fun x => (R.ok x_strands_1).bnd fun y => .ok [x, y]).bnd (ap2 f_is_letter)).bnd fun d => R.of (D.bool d)).bnd fun x => .ok (!x)).bnd fun b => if b = true then .err 0 else .ok ()) g (xi_seq (xp_var (i := 2) rfl)) rfl (.k (.k (.k (.k .nil)))) (by rintro a4 _ d5 rfl; exact (xb_ifE (xt_not (xt_val (xp_call g (ok_is_letter T) (hr.mono (by decide)) T.m_is_letter T.F_is_letter.kp T.b_is_letter (xa_2 (xp_var (i := 3) rfl) (xp_var (i := 1) rfl)) lnA2))) (xb_rse g T.e_NoPlait) (xb_end rfl (.k (.k (.k (.d .nil)))))))) (by rintro a6 _ rfl; exact (xb_ret (xp_callB c_len d_len (by rfl) T.n_len (by decide +kernel) (xa_1 (xp_var (i := 2) rfl))))))))
theorem sc_looked_both : FnScope ["one", "other", "found"] ["one", "other"] (defScope s_looked_both) := ⟨rfl, rfl, rfl, by decide +kernel, rfl, by decide +kernel, by decide +kernel⟩
@[irreducible] def f_looked_both (x_one : D) (x_other : D) : R D := ((((R.ok x_one).bnd fun x => .ok [x]).bnd (ap1 f_looked)).bnd fun x => (((R.ok x_other).bnd fun x => .ok [x]).bnd (ap1 f_looked)).bnd fun y => R.of (D.addI x y)).bnd fun x_found_1 => (((R.ok x_one).bnd fun x => (R.ok (D.int 0)).bnd fun y => R.of (D.ix x y)).bnd fun x => ((R.ok x_other).bnd fun x => (R.ok (D.int 0)).bnd fun y => R.of (D.ix x y)).bnd fun y => R.of (D.ne x y)).bnd fun b => if b = true then .err 2 else R.ok x_found_1
theorem ok_looked_both (T : Txt K mg A) : FnOk P w K mg base (L2.CX P w) 3 A.a_looked_both A.fd_looked_both ["one", "other"] (spR K A.ec (rP K) 2 (ap2 f_looked_both)) := by
  refine fn_ok T.F_looked_both sc_looked_both rfl fun cdv A' outer s H E hr g ds hd => ?_
  match ds, hd with
  | [x_one, x_other], _ => show XB _ _ [] _ [some (.v x_one), some (.v x_other), none] (f_looked_both x_one x_other) _; unfold f_looked_both; exact (xb_let (i := 2) g (fun x_found_1 => [some (.v x_one), some (.v x_other), some (.v x_found_1)]) (xp_op o_add d_add (xp_call g (ok_looked T) (hr.mono (by decide)) T.m_looked T.F_looked.kp T.b_looked (xa_1 (xp_var (i := 0) rfl)) lnA1) (xp_call g (ok_looked T) (hr.mono (by decide)) T.m_looked T.F_looked.kp T.b_looked (xa_1 (xp_var (i := 1) rfl)) lnA1)) fun x_found_1 => (xb_ifE (xt_cmp (o_ne hr.units) d_ne (nomark _) (xp_ix o_ix d_ix (fun _ _ => rfl) (xp_var (i := 0) rfl) xp_int) (xp_ix o_ix d_ix (fun _ _ => rfl) (xp_var (i := 1) rfl) xp_int)) (xb_rse g T.e_NoStep) (xb_ret (xp_var (i := 2) rfl))))
theorem sc_behind : FnScope ["one", "other"] ["one", "other"] (defScope s_behind) := ⟨rfl, rfl, rfl, by decide +kernel, rfl, by decide +kernel, by decide +kernel⟩
@[irreducible] def f_behind (x_one : D) (x_other : D) : R D := ((((R.ok x_one).bnd fun x => (R.ok x_other).bnd fun y => .ok [x, y]).bnd (ap2 f_looked_both)).bnd fun x => (R.ok (D.int (16))).bnd fun y => R.of (D.gt x y)).bnd fun b => if b = true then .err 1 else (((R.ok x_one).bnd fun x => (R.ok (D.int 0)).bnd fun y => R.of (D.ix x y)).bnd fun x => (((R.ok x_one).bnd fun x => (R.ok (D.int 1)).bnd fun y => R.of (D.ix x y)).bnd fun x => ((R.ok x_other).bnd fun x => (R.ok (D.int 1)).bnd fun y => R.of (D.ix x y)).bnd fun y => R.of (D.addI x y)).bnd fun y => .ok [x, y]).bnd fun ds => R.of ((fits ds).map D.tup)
theorem ok_behind (T : Txt K mg A) : FnOk P w K mg base (L2.CX P w) 4 A.a_behind A.fd_behind ["one", "other"] (spR K A.ec (rP K) 2 (ap2 f_behind)) := by
  refine fn_ok T.F_behind sc_behind rfl fun cdv A' outer s H E hr g ds hd => ?_
  match ds, hd with
  | [x_one, x_other], _ => show XB _ _ [] _ [some (.v x_one), some (.v x_other)] (f_behind x_one x_other) _; unfold f_behind; exact (xb_ifE (xt_cmp op_gt d_gt (nomark _) (xp_call g (ok_looked_both T) (hr.mono (by decide)) T.m_looked_both T.F_looked_both.kp T.b_looked_both (xa_2 (xp_var (i := 0) rfl) (xp_var (i := 1) rfl)) lnA2) (xp_cI T.c_MOST_LETTERS)) (xb_rse g T.e_NoRoom) (xb_ret (xp_tup (xa_2 (xp_ix o_ix d_ix (fun _ _ => rfl) (xp_var (i := 0) rfl) xp_int) (xp_op o_add d_add (xp_ix o_ix d_ix (fun _ _ => rfl) (xp_var (i := 0) rfl) xp_int) (xp_ix o_ix d_ix (fun _ _ => rfl) (xp_var (i := 1) rfl) xp_int))))))
theorem sc_flipped_letter : FnScope ["letter", "strands"] ["letter", "strands"] (defScope s_flipped_letter) := ⟨rfl, rfl, rfl, by decide +kernel, rfl, by decide +kernel, by decide +kernel⟩
@[irreducible] def f_flipped_letter (x_letter : D) (x_strands : D) : R D := ((R.ok x_letter).bnd fun x => (R.ok (D.int 0)).bnd fun y => R.of (D.gt x y)).bnd fun b => if b = true then (R.ok x_strands).bnd fun x => (R.ok x_letter).bnd fun y => R.of (D.sub x y) else ((R.ok (D.int 0)).bnd fun x => (R.ok x_strands).bnd fun y => R.of (D.sub x y)).bnd fun x => (R.ok x_letter).bnd fun y => R.of (D.sub x y)
theorem ok_flipped_letter (T : Txt K mg A) : FnOk P w K mg base (L2.CX P w) 1 A.a_flipped_letter A.fd_flipped_letter ["letter", "strands"] (spR K A.ec (rP K) 2 (ap2 f_flipped_letter)) := by
  refine fn_ok T.F_flipped_letter sc_flipped_letter rfl fun cdv A' outer s H E hr g ds hd => ?_
  match ds, hd with
  | [x_letter, x_strands], _ => show XB _ _ [] _ [some (.v x_letter), some (.v x_strands)] (f_flipped_letter x_letter x_strands) _; unfold f_flipped_letter; exact (xb_ifR (xt_cmp op_gt d_gt (nomark _) (xp_var (i := 0) rfl) xp_int) (xb_ret (xp_op op_sub d_sub (xp_var (i := 1) rfl) (xp_var (i := 0) rfl))) (xb_ret (xp_op op_sub d_sub (xp_op op_sub d_sub xp_int (xp_var (i := 1) rfl)) (xp_var (i := 0) rfl))))
theorem sc_flipped : FnScope ["plait", "letter"] ["plait"] (defScope s_flipped) := ⟨rfl, rfl, rfl, by decide +kernel, rfl, by decide +kernel, by decide +kernel⟩
@[irreducible] def f_flipped (x_plait : D) : R D := (((R.ok x_plait).bnd fun x => .ok [x]).bnd (ap1 f_looked)).bnd fun _ => (((R.ok x_plait).bnd fun x => (R.ok (D.int 0)).bnd fun y => R.of (D.ix x y)).bnd fun x => (((((((R.ok x_plait).bnd fun x => (R.ok (D.int 1)).bnd fun y => R.of (D.ix x y)).bnd fun d => R.of (D.seq d)).bnd fun ds => lcR (fun d1 => ((R.ok d1).bnd fun x => ((R.ok x_plait).bnd fun x => (R.ok (D.int 0)).bnd fun y => R.of (D.ix x y)).bnd fun y => .ok [x, y]).bnd (ap2 f_flipped_letter)) ds).bnd fun z => .ok (D.lst z)).bnd fun x => .ok [x]).bnd fun ds => R.of (D.toTup ds)).bnd fun y => .ok [x, y]).bnd fun ds => R.of ((fits ds).map D.tup)
theorem ok_flipped (T : Txt K mg A) : FnOk P w K mg base (L2.CX P w) 3 A.a_flipped A.fd_flipped ["plait"] (spR K A.ec (rP K) 1 (ap1 f_flipped)) := by
  refine fn_ok T.F_flipped sc_flipped rfl fun cdv A' outer s H E hr g ds hd => ?_
  match ds, hd with
  | [x_plait], _ => show XB _ _ [] _ [some (.v x_plait), none] (f_flipped x_plait) _; unfold f_flipped; exact (xb_drop (xp_call g (ok_looked T) (hr.mono (by decide)) T.m_looked T.F_looked.kp T.b_looked (xa_1 (xp_var (i := 0) rfl)) lnA1) (xb_ret (xp_tup (xa_2 (xp_ix o_ix d_ix (fun _ _ => rfl) (xp_var (i := 0) rfl) xp_int) (xp_callTy call_tuple_of d_tup (by rfl) T.n_tuple (by decide +kernel) (xa_1 (xn_xp (xn_lc (i := 1) (hblk := (blkOk_by (N := ["plait", "letter"]) (sc := defScope s_flipped) (by decide +kernel))) g (xi_seq (xp_ix o_ix d_ix (fun _ _ => rfl) (xp_var (i := 0) rfl) xp_int)) (fun d1 => fun s0 H0 C0 cl0 fp0 => (xp_call (g.blk s0 H0 C0 cl0 fp0) (ok_flipped_letter T) (hr.mono (by decide)) T.m_flipped_letter T.F_flipped_letter.kp T.b_flipped_letter (xa_2 (xp_var (i := 1) rfl) (xp_ix o_ix d_ix (fun _ _ => rfl) (xp_var (i := 0) rfl) xp_int)) lnA2))))))))))
theorem sc_exchanged : FnScope ["places", "at", "place"] ["places", "at"] (defScope s_exchanged) := ⟨rfl, rfl, rfl, by decide +kernel, rfl, by decide +kernel, by decide +kernel⟩
@[irreducible] def f_exchanged (x_places : D) (x_at : D) : R D := (((R.ok x_places).bnd fun d => R.of (D.seq d)).bnd fun ds => lcR (fun d1 => (R.ok x_at).bnd fun k1 => ((R.ok x_at).bnd fun x => (R.ok (D.int 1)).bnd fun y => R.of (D.addI x y)).bnd fun v1 => ((R.ok x_at).bnd fun x => (R.ok (D.int 1)).bnd fun y => R.of (D.addI x y)).bnd fun k2 => (R.ok x_at).bnd fun v2 => (R.of (D.toI k1)).bnd fun a => (R.of (D.toI k2)).bnd fun b => (R.ok d1).bnd fun k => (R.ok d1).bnd fun d => R.of (D.get2 a v1 b v2 k d)) ds).bnd fun z => .ok (D.lst z)
theorem ok_exchanged (T : Txt K mg A) : FnOk P w K mg base (L2.CX P w) 1 A.a_exchanged A.fd_exchanged ["places", "at"] (spR K A.ec (rP K) 2 (ap2 f_exchanged)) := by
  refine fn_ok T.F_exchanged sc_exchanged rfl fun cdv A' outer s H E hr g ds hd => ?_
  match ds, hd with
  | [x_places, x_at], _ => show XB _ _ [] _ [some (.v x_places), some (.v x_at), none] (f_exchanged x_places x_at) _; unfold f_exchanged; exact (xb_ret (xn_xp (xn_lc (i := 2) (hblk := (blkOk_by (N := ["places", "at", "place"]) (sc := defScope s_exchanged) (by decide +kernel))) g (xi_seq (xp_var (i := 0) rfl)) (fun d1 => fun s0 H0 C0 cl0 fp0 => (xp_get2 hr.units (xp_var (i := 1) rfl) (xp_op o_add d_add (xp_var (i := 1) rfl) xp_int) (xp_op o_add d_add (xp_var (i := 1) rfl) xp_int) (xp_var (i := 1) rfl) (xp_var (i := 2) rfl) (xp_var (i := 2) rfl))))))
theorem sc_half_twist : FnScope ["strands"] ["strands"] (defScope s_half_twist) := ⟨rfl, rfl, rfl, by decide +kernel, rfl, by decide +kernel, by decide +kernel⟩
@[irreducible] def f_half_twist (x_strands : D) : R D := ((R.ok x_strands).bnd fun x => (R.of (D.toI x)).bnd fun i => .ok ((0 : Int), i)).bnd2 fun i j => (R.of (rgLW i j)).bnd fun ds => .ok (D.tup ds)
theorem ok_half_twist (T : Txt K mg A) : FnOk P w K mg base (L2.CX P w) 1 A.a_half_twist A.fd_half_twist ["strands"] (spR K A.ec (rP K) 1 (ap1 f_half_twist)) := by
  refine fn_ok T.F_half_twist sc_half_twist rfl fun cdv A' outer s H E hr g ds hd => ?_
  match ds, hd with
  | [x_strands], _ => show XB _ _ [] _ [some (.v x_strands)] (f_half_twist x_strands) _; unfold f_half_twist; exact (xb_ret (xp_trgW g T.n_tuple T.n_reversed (xr_1 T.n_range (xp_var (i := 0) rfl))))
theorem sc_plain_order : FnScope ["strands"] ["strands"] (defScope s_plain_order) := ⟨rfl, rfl, rfl, by decide +kernel, rfl, by decide +kernel, by decide +kernel⟩
@[irreducible] def f_plain_order (x_strands : D) : R D := ((R.ok x_strands).bnd fun x => (R.of (D.toI x)).bnd fun i => .ok ((0 : Int), i)).bnd2 fun i j => (R.of (rgL i j)).bnd fun ds => .ok (D.tup ds)
theorem ok_plain_order (T : Txt K mg A) : FnOk P w K mg base (L2.CX P w) 1 A.a_plain_order A.fd_plain_order ["strands"] (spR K A.ec (rP K) 1 (ap1 f_plain_order)) := by
  refine fn_ok T.F_plain_order sc_plain_order rfl fun cdv A' outer s H E hr g ds hd => ?_
  match ds, hd with
  | [x_strands], _ => show XB _ _ [] _ [some (.v x_strands)] (f_plain_order x_strands) _; unfold f_plain_order; exact (xb_ret (xp_trg g T.n_tuple (xr_1 T.n_range (xp_var (i := 0) rfl))))
theorem sc_letter_order : FnScope ["strands", "letter"] ["strands", "letter"] (defScope s_letter_order) := ⟨rfl, rfl, rfl, by decide +kernel, rfl, by decide +kernel, by decide +kernel⟩
@[irreducible] def f_letter_order (x_strands : D) (x_letter : D) : R D := (((((((R.ok x_strands).bnd fun x => (R.of (D.toI x)).bnd fun i => .ok ((0 : Int), i)).bnd2 fun i j => R.of (rgL i j)).bnd fun z => .ok (D.lst z)).bnd fun x => ((R.ok x_letter).bnd fun x => (R.ok (D.int 1)).bnd fun y => R.of (D.sub x y)).bnd fun y => .ok [x, y]).bnd (ap2 f_exchanged)).bnd fun x => .ok [x]).bnd fun ds => R.of (D.toTup ds)
theorem ok_letter_order (T : Txt K mg A) : FnOk P w K mg base (L2.CX P w) 2 A.a_letter_order A.fd_letter_order ["strands", "letter"] (spR K A.ec (rP K) 2 (ap2 f_letter_order)) := by
  refine fn_ok T.F_letter_order sc_letter_order rfl fun cdv A' outer s H E hr g ds hd => ?_
  match ds, hd with
  | [x_strands, x_letter], _ => show XB _ _ [] _ [some (.v x_strands), some (.v x_letter)] (f_letter_order x_strands x_letter) _; unfold f_letter_order; exact (xb_ret (xp_callTy call_tuple_of d_tup (by rfl) T.n_tuple (by decide +kernel) (xa_1 (xp_call g (ok_exchanged T) (hr.mono (by decide)) T.m_exchanged T.F_exchanged.kp T.b_exchanged (xa_2 (xn_xp (xn_lrg g T.n_list (xr_1 T.n_range (xp_var (i := 0) rfl)))) (xp_op op_sub d_sub (xp_var (i := 1) rfl) xp_int)) lnA2))))
theorem sc_undone_order : FnScope ["row", "found", "place", "there"] ["row"] (defScope s_undone_order) := ⟨rfl, rfl, rfl, by decide +kernel, rfl, by decide +kernel, by decide +kernel⟩
@[irreducible] def f_undone_order (x_row : D) : R D := (((((R.ok (D.int 0)).bnd fun x => .ok [x]).bnd fun ds => R.of (fits ds)).bnd fun z => .ok (D.lst z)).bnd fun x => (((R.ok x_row).bnd fun x => .ok [x]).bnd fun ds => R.of (D.len ds)).bnd fun y => R.of (D.rep x y)).bnd fun x_found_1 => (((R.ok x_row).bnd fun x => R.of (D.enumT x)).bnd fun ds => foldR (fun (a3 : List D) d => (R.of (D.two d)).bnd fun q => (fun d4 d5 => (R.ok d4).bnd fun d => (R.ok d5).bnd fun j => (R.of (setD a3 j d)).bnd fun x_found_6 => .ok x_found_6) q.1 q.2) x_found_1 ds).bnd fun a7 => R.ok (D.tup a7)
theorem ok_undone_order (T : Txt K mg A) : FnOk P w K mg base (L2.CX P w) 1 A.a_undone_order A.fd_undone_order ["row"] (spR K A.ec (rP K) 1 (ap1 f_undone_order)) := by
  refine fn_ok T.F_undone_order sc_undone_order rfl fun cdv A' outer s H E hr g ds hd => ?_
  match ds, hd with
  | [x_row], _ => show XB _ _ [] _ [some (.v x_row), none, none, none] (f_undone_order x_row) _; unfold f_undone_order; exact (xb_letN (i := 1) g (fun p2 x_found_1 => [some (.v x_row), some (.o false p2 (.l x_found_1)), none, none]) (xn_two d_rep (xn_xp (xn_lst (xa_1 xp_int))) (xp_callB c_len d_len (by rfl) T.n_len (by decide +kernel) (xa_1 (xp_var (i := 0) rfl))) (pe_op op_repR pe_w pe_w)) fun p2 x_found_1 => (xb_seq (L := (fun (a3 : List D) (e : En) => e = [some (.v x_row), some (.o false p2 (.l a3)), none, none])) (xs_for2 (i := 2) (j := 3) (L := (fun (a3 : List D) (e : En) => e = [some (.v x_row), some (.o false p2 (.l a3)), none, none])) (a0 := x_found_1) (e0 := [some (.v x_row), some (.o false p2 (.l x_found_1)), none, none]) (step := fun (a3 : List D) d4 d5 => (R.ok d4).bnd fun d => (R.ok d5).bnd fun j => (R.of (setD a3 j d)).bnd fun x_found_6 => .ok x_found_6) g (xi_enumT T.n_enumerate (xp_var (i := 0) rfl)) rfl (.k (.k (.k (.k .nil)))) (by rintro a3 _ d4 d5 rfl; exact (xb_put (i := 1) (fun x_found_6 => [some (.v x_row), some (.o false p2 (.l x_found_6)), some (.v d4), some (.v d5)]) (xp_var (i := 2) rfl) (xp_var (i := 3) rfl) fun x_found_6 => (xb_end rfl (.k (.k (.d (.d .nil)))))))) (by rintro a7 _ rfl; exact (xb_ret (xp_tupO (i := 1) T.n_tuple)))))
theorem sc_falls : FnScope ["row", "at"] ["row"] (defScope s_falls) := ⟨rfl, rfl, rfl, by decide +kernel, rfl, by decide +kernel, by decide +kernel⟩
@[irreducible] def f_falls (x_row : D) : R D := (((R.ok (D.int 1)).bnd fun x => (((R.ok x_row).bnd fun x => .ok [x]).bnd fun ds => R.of (D.len ds)).bnd fun y => R.of (rg2 x y)).bnd fun ds => lcIR (fun d1 => ((R.ok x_row).bnd fun x => ((R.ok d1).bnd fun x => (R.ok (D.int 1)).bnd fun y => R.of (D.sub x y)).bnd fun y => R.of (D.ix x y)).bnd fun x => ((R.ok x_row).bnd fun x => (R.ok d1).bnd fun y => R.of (D.ix x y)).bnd fun y => R.of (D.gt x y)) (fun d1 => R.ok d1) ds).bnd fun z => .ok (D.lst z)
theorem ok_falls (T : Txt K mg A) : FnOk P w K mg base (L2.CX P w) 1 A.a_falls A.fd_falls ["row"] (spR K A.ec (rP K) 1 (ap1 f_falls)) := by
  refine fn_ok T.F_falls sc_falls rfl fun cdv A' outer s H E hr g ds hd => ?_
  match ds, hd with
  | [x_row], _ => show XB _ _ [] _ [some (.v x_row), none] (f_falls x_row) _; unfold f_falls; exact (xb_ret (xn_xp (xn_lcI (i := 1) (hblk := (blkOk_by (N := ["row", "at"]) (sc := defScope s_falls) (by decide +kernel))) g (xi_range2 T.n_range xp_int (xp_callB c_len d_len (by rfl) T.n_len (by decide +kernel) (xa_1 (xp_var (i := 0) rfl)))) (fun d1 => fun s0 H0 C0 cl0 fp0 => (xt_cmp op_gt d_gt (nomark _) (xp_ix o_ix d_ix (fun _ _ => rfl) (xp_var (i := 0) rfl) (xp_op op_sub d_sub (xp_var (i := 1) rfl) xp_int)) (xp_ix o_ix d_ix (fun _ _ => rfl) (xp_var (i := 0) rfl) (xp_var (i := 1) rfl)))) (fun d1 => fun s0 H0 C0 cl0 fp0 => (xp_var (i := 1) rfl)))))
theorem sc_begin_letters : FnScope ["row"] ["row"] (defScope s_begin_letters) := ⟨rfl, rfl, rfl, by decide +kernel, rfl, by decide +kernel, by decide +kernel⟩
@[irreducible] def f_begin_letters (x_row : D) : R D := ((R.ok x_row).bnd fun x => .ok [x]).bnd (ap1 f_falls)
theorem ok_begin_letters (T : Txt K mg A) : FnOk P w K mg base (L2.CX P w) 2 A.a_begin_letters A.fd_begin_letters ["row"] (spR K A.ec (rP K) 1 (ap1 f_begin_letters)) := by
  refine fn_ok T.F_begin_letters sc_begin_letters rfl fun cdv A' outer s H E hr g ds hd => ?_
  match ds, hd with
  | [x_row], _ => show XB _ _ [] _ [some (.v x_row)] (f_begin_letters x_row) _; unfold f_begin_letters; exact (xb_ret (xp_call g (ok_falls T) (hr.mono (by decide)) T.m_falls T.F_falls.kp T.b_falls (xa_1 (xp_var (i := 0) rfl)) lnA1))
theorem sc_end_letters : FnScope ["row"] ["row"] (defScope s_end_letters) := ⟨rfl, rfl, rfl, by decide +kernel, rfl, by decide +kernel, by decide +kernel⟩
@[irreducible] def f_end_letters (x_row : D) : R D := ((((R.ok x_row).bnd fun x => .ok [x]).bnd (ap1 f_undone_order)).bnd fun x => .ok [x]).bnd (ap1 f_falls)
theorem ok_end_letters (T : Txt K mg A) : FnOk P w K mg base (L2.CX P w) 2 A.a_end_letters A.fd_end_letters ["row"] (spR K A.ec (rP K) 1 (ap1 f_end_letters)) := by
  refine fn_ok T.F_end_letters sc_end_letters rfl fun cdv A' outer s H E hr g ds hd => ?_
  match ds, hd with
  | [x_row], _ => show XB _ _ [] _ [some (.v x_row)] (f_end_letters x_row) _; unfold f_end_letters; exact (xb_ret (xp_call g (ok_falls T) (hr.mono (by decide)) T.m_falls T.F_falls.kp T.b_falls (xa_1 (xp_call g (ok_undone_order T) (hr.mono (by decide)) T.m_undone_order T.F_undone_order.kp T.b_undone_order (xa_1 (xp_var (i := 0) rfl)) lnA1)) lnA1))
theorem sc_with_end : FnScope ["row", "letter"] ["row", "letter"] (defScope s_with_end) := ⟨rfl, rfl, rfl, by decide +kernel, rfl, by decide +kernel, by decide +kernel⟩
@[irreducible] def f_with_end (x_row : D) (x_letter : D) : R D := (((((((R.ok x_row).bnd fun x => .ok [x]).bnd fun ds => R.of (D.toLst ds)).bnd fun z => .ok (D.lst z)).bnd fun x => ((R.ok x_letter).bnd fun x => (R.ok (D.int 1)).bnd fun y => R.of (D.sub x y)).bnd fun y => .ok [x, y]).bnd (ap2 f_exchanged)).bnd fun x => .ok [x]).bnd fun ds => R.of (D.toTup ds)
theorem ok_with_end (T : Txt K mg A) : FnOk P w K mg base (L2.CX P w) 2 A.a_with_end A.fd_with_end ["row", "letter"] (spR K A.ec (rP K) 2 (ap2 f_with_end)) := by
  refine fn_ok T.F_with_end sc_with_end rfl fun cdv A' outer s H E hr g ds hd => ?_
  match ds, hd with
  | [x_row, x_letter], _ => show XB _ _ [] _ [some (.v x_row), some (.v x_letter)] (f_with_end x_row x_letter) _; unfold f_with_end; exact (xb_ret (xp_callTy call_tuple_of d_tup (by rfl) T.n_tuple (by decide +kernel) (xa_1 (xp_call g (ok_exchanged T) (hr.mono (by decide)) T.m_exchanged T.F_exchanged.kp T.b_exchanged (xa_2 (xn_xp (xn_callTy call_list_of d_lst (by rfl) T.n_list (by decide +kernel) (xa_1 (xp_var (i := 0) rfl)))) (xp_op op_sub d_sub (xp_var (i := 1) rfl) xp_int)) lnA2))))
theorem sc_without_begin : FnScope ["row", "letter", "found"] ["row", "letter"] (defScope s_without_begin) := ⟨rfl, rfl, rfl, by decide +kernel, rfl, by decide +kernel, by decide +kernel⟩
@[irreducible] def f_without_begin (x_row : D) (x_letter : D) : R D := (((R.ok x_row).bnd fun x => .ok [x]).bnd fun ds => R.of (D.toLst ds)).bnd fun x_found_1 => ((((R.ok x_row).bnd fun x => (R.ok x_letter).bnd fun y => R.of (D.ix x y)).bnd fun x => ((R.ok x_row).bnd fun x => ((R.ok x_letter).bnd fun x => (R.ok (D.int 1)).bnd fun y => R.of (D.sub x y)).bnd fun y => R.of (D.ix x y)).bnd fun y => .ok [x, y]).bnd fun ds => R.of ((fits ds).map D.tup)).bnd fun d => (R.of (D.two d)).bnd fun q => ((R.ok x_letter).bnd fun x => (R.ok (D.int 1)).bnd fun y => R.of (D.sub x y)).bnd fun j => (R.of (setD x_found_1 j q.1)).bnd fun l => (R.ok x_letter).bnd fun j' => (R.of (setD l j' q.2)).bnd fun x_found_3 => R.ok (D.tup x_found_3)
theorem ok_without_begin (T : Txt K mg A) : FnOk P w K mg base (L2.CX P w) 1 A.a_without_begin A.fd_without_begin ["row", "letter"] (spR K A.ec (rP K) 2 (ap2 f_without_begin)) := by
  refine fn_ok T.F_without_begin sc_without_begin rfl fun cdv A' outer s H E hr g ds hd => ?_
  match ds, hd with
  | [x_row, x_letter], _ => show XB _ _ [] _ [some (.v x_row), some (.v x_letter), none] (f_without_begin x_row x_letter) _; unfold f_without_begin; exact (xb_letN (i := 2) g (fun p2 x_found_1 => [some (.v x_row), some (.v x_letter), some (.o false p2 (.l x_found_1))]) (xn_callTy call_list_of d_lst (by rfl) T.n_list (by decide +kernel) (xa_1 (xp_var (i := 0) rfl))) fun p2 x_found_1 => (xb_twoPut (i := 2) g (fun c4 => [some (.v x_row), some (.v x_letter), some (.o false p2 (.l c4))]) (xp_tup (xa_2 (xp_ix o_ix d_ix (fun _ _ => rfl) (xp_var (i := 0) rfl) (xp_var (i := 1) rfl)) (xp_ix o_ix d_ix (fun _ _ => rfl) (xp_var (i := 0) rfl) (xp_op op_sub d_sub (xp_var (i := 1) rfl) xp_int)))) (xp_op op_sub d_sub (xp_var (i := 1) rfl) xp_int) (fun c4 => (xp_var (i := 1) rfl)) fun x_found_3 => (xb_ret (xp_tupO (i := 2) T.n_tuple))))
theorem sc_flipped_order : FnScope ["row", "last", "there"] ["row"] (defScope s_flipped_order) := ⟨rfl, rfl, rfl, by decide +kernel, rfl, by decide +kernel, by decide +kernel⟩
@[irreducible] def f_flipped_order (x_row : D) : R D := ((((R.ok x_row).bnd fun x => .ok [x]).bnd fun ds => R.of (D.len ds)).bnd fun x => (R.ok (D.int 1)).bnd fun y => R.of (D.sub x y)).bnd fun x_last_1 => (((((R.ok x_row).bnd fun x => R.of ((D.seq x).map List.reverse)).bnd fun ds => lcR (fun d3 => (R.ok x_last_1).bnd fun x => (R.ok d3).bnd fun y => R.of (D.sub x y)) ds).bnd fun z => .ok (D.lst z)).bnd fun x => .ok [x]).bnd fun ds => R.of (D.toTup ds)
theorem ok_flipped_order (T : Txt K mg A) : FnOk P w K mg base (L2.CX P w) 1 A.a_flipped_order A.fd_flipped_order ["row"] (spR K A.ec (rP K) 1 (ap1 f_flipped_order)) := by
  refine fn_ok T.F_flipped_order sc_flipped_order rfl fun cdv A' outer s H E hr g ds hd => ?_
  match ds, hd with
  | [x_row], _ => show XB _ _ [] _ [some (.v x_row), none, none] (f_flipped_order x_row) _; unfold f_flipped_order; exact (xb_let (i := 1) g (fun x_last_1 => [some (.v x_row), some (.v x_last_1), none]) (xp_op op_sub d_sub (xp_callB c_len d_len (by rfl) T.n_len (by decide +kernel) (xa_1 (xp_var (i := 0) rfl))) xp_int) fun x_last_1 => (xb_ret (xp_callTy call_tuple_of d_tup (by rfl) T.n_tuple (by decide +kernel) (xa_1 (xn_xp (xn_lc (i := 2) (hblk := (blkOk_by (N := ["row", "last", "there"]) (sc := defScope s_flipped_order) (by decide +kernel))) g (xi_rev T.n_reversed (xp_var (i := 0) rfl)) (fun d3 => fun s0 H0 C0 cl0 fp0 => (xp_op op_sub d_sub (xp_var (i := 1) rfl) (xp_var (i := 2) rfl)))))))))
theorem sc_movable_letters : FnScope ["one", "other", "full", "letter"] ["one", "other"] (defScope s_movable_letters) := ⟨rfl, rfl, rfl, by decide +kernel, rfl, by decide +kernel, by decide +kernel⟩
@[irreducible] def f_movable_letters (x_one : D) (x_other : D) : R D := (((R.ok x_one).bnd fun x => .ok [x]).bnd (ap1 f_end_letters)).bnd fun x_full_1 => (((((R.ok x_other).bnd fun x => .ok [x]).bnd (ap1 f_begin_letters)).bnd fun d => R.of (D.seq d)).bnd fun ds => lcIR (fun d3 => (R.ok d3).bnd fun x => (R.ok x_full_1).bnd fun y => R.of (D.notin x y)) (fun d3 => R.ok d3) ds).bnd fun z => .ok (D.lst z)
theorem ok_movable_letters (T : Txt K mg A) : FnOk P w K mg base (L2.CX P w) 3 A.a_movable_letters A.fd_movable_letters ["one", "other"] (spR K A.ec (rP K) 2 (ap2 f_movable_letters)) := by
  refine fn_ok T.F_movable_letters sc_movable_letters rfl fun cdv A' outer s H E hr g ds hd => ?_
  match ds, hd with
  | [x_one, x_other], _ => show XB _ _ [] _ [some (.v x_one), some (.v x_other), none, none] (f_movable_letters x_one x_other) _; unfold f_movable_letters; exact (xb_let (i := 2) g (fun x_full_1 => [some (.v x_one), some (.v x_other), some (.v x_full_1), none]) (xp_call g (ok_end_letters T) (hr.mono (by decide)) T.m_end_letters T.F_end_letters.kp T.b_end_letters (xa_1 (xp_var (i := 0) rfl)) lnA1) fun x_full_1 => (xb_ret (xn_xp (xn_lcI (i := 3) (hblk := (blkOk_by (N := ["one", "other", "full", "letter"]) (sc := defScope s_movable_letters) (by decide +kernel))) g (xi_seq (xp_call g (ok_begin_letters T) (hr.mono (by decide)) T.m_begin_letters T.F_begin_letters.kp T.b_begin_letters (xa_1 (xp_var (i := 1) rfl)) lnA1)) (fun d3 => fun s0 H0 C0 cl0 fp0 => (xt_cmp o_notin d_notin (by rfl) (xp_var (i := 3) rfl) (xp_var (i := 2) rfl))) (fun d3 => fun s0 H0 C0 cl0 fp0 => (xp_var (i := 3) rfl))))))
theorem sc_settled_pair : FnScope ["one", "other", "letters"] ["one", "other"] (defScope s_settled_pair) := ⟨rfl, rfl, rfl, by decide +kernel, rfl, by decide +kernel, by decide +kernel⟩
@[irreducible] def f_settled_pair (x_one : D) (x_other : D) : R D := (((R.ok x_one).bnd fun x => (R.ok x_other).bnd fun y => .ok [x, y]).bnd (ap2 f_movable_letters)).bnd fun x_letters_1 => (whileN (fun (a3 : D × D × D) => (((R.ok a3.2.2).bnd fun x => .ok [x]).bnd fun ds => R.of (D.len ds)).bnd fun x => (R.ok (D.int 0)).bnd fun y => R.of (D.gt x y)) (fun (a3 : D × D × D) => (((R.ok a3.1).bnd fun x => ((R.ok a3.2.2).bnd fun x => (R.ok (D.int 0)).bnd fun y => R.of (D.ix x y)).bnd fun y => .ok [x, y]).bnd (ap2 f_with_end)).bnd fun x_one_4 => (((R.ok a3.2.1).bnd fun x => ((R.ok a3.2.2).bnd fun x => (R.ok (D.int 0)).bnd fun y => R.of (D.ix x y)).bnd fun y => .ok [x, y]).bnd (ap2 f_without_begin)).bnd fun x_other_6 => (((R.ok x_one_4).bnd fun x => (R.ok x_other_6).bnd fun y => .ok [x, y]).bnd (ap2 f_movable_letters)).bnd fun x_letters_8 => .ok (x_one_4, x_other_6, x_letters_8)) 1000000 (x_one, x_other, x_letters_1)).bnd fun a10 => ((R.ok a10.1).bnd fun x => (R.ok a10.2.1).bnd fun y => .ok [x, y]).bnd fun ds => R.of ((fits ds).map D.tup)
theorem ok_settled_pair (T : Txt K mg A) : FnOk P w K mg base (L2.CX P w) 4 A.a_settled_pair A.fd_settled_pair ["one", "other"] (spR K A.ec (rP K) 2 (ap2 f_settled_pair)) := by
  refine fn_ok T.F_settled_pair sc_settled_pair rfl fun cdv A' outer s H E hr g ds hd => ?_
  match ds, hd with
  | [x_one, x_other], _ => show XB _ _ [] _ [some (.v x_one), some (.v x_other), none] (f_settled_pair x_one x_other) _; unfold f_settled_pair; exact (xb_let (i := 2) g (fun x_letters_1 => [some (.v x_one), some (.v x_other), some (.v x_letters_1)]) (xp_call g (ok_movable_letters T) (hr.mono (by decide)) T.m_movable_letters T.F_movable_letters.kp T.b_movable_letters (xa_2 (xp_var (i := 0) rfl) (xp_var (i := 1) rfl)) lnA2) fun x_letters_1 => (xb_seq (L := (fun (a3 : D × D × D) (e : En) => e = [some (.v a3.1), some (.v a3.2.1), some (.v a3.2.2)])) (xs_while (L := (fun (a3 : D × D × D) (e : En) => e = [some (.v a3.1), some (.v a3.2.1), some (.v a3.2.2)])) (a0 := (x_one, x_other, x_letters_1)) (e0 := [some (.v x_one), some (.v x_other), some (.v x_letters_1)]) (test := fun (a3 : D × D × D) => (((R.ok a3.2.2).bnd fun x => .ok [x]).bnd fun ds => R.of (D.len ds)).bnd fun x => (R.ok (D.int 0)).bnd fun y => R.of (D.gt x y)) (step := fun (a3 : D × D × D) => (((R.ok a3.1).bnd fun x => ((R.ok a3.2.2).bnd fun x => (R.ok (D.int 0)).bnd fun y => R.of (D.ix x y)).bnd fun y => .ok [x, y]).bnd (ap2 f_with_end)).bnd fun x_one_4 => (((R.ok a3.2.1).bnd fun x => ((R.ok a3.2.2).bnd fun x => (R.ok (D.int 0)).bnd fun y => R.of (D.ix x y)).bnd fun y => .ok [x, y]).bnd (ap2 f_without_begin)).bnd fun x_other_6 => (((R.ok x_one_4).bnd fun x => (R.ok x_other_6).bnd fun y => .ok [x, y]).bnd (ap2 f_movable_letters)).bnd fun x_letters_8 => .ok (x_one_4, x_other_6, x_letters_8)) (N := 1000000) g rfl (.k (.k (.k .nil))) (by rintro a3 _ rfl; exact (xt_cmp op_gt d_gt (nomark _) (xp_callB c_len d_len (by rfl) T.n_len (by decide +kernel) (xa_1 (xp_var (i := 2) rfl))) xp_int)) (by rintro a3 _ rfl; exact (xb_let (i := 0) g (fun x_one_4 => [some (.v x_one_4), some (.v a3.2.1), some (.v a3.2.2)]) (xp_call g (ok_with_end T) (hr.mono (by decide)) T.m_with_end T.F_with_end.kp T.b_with_end (xa_2 (xp_var (i := 0) rfl) (xp_ix o_ix d_ix (fun _ _ => rfl) (xp_var (i := 2) rfl) xp_int)) lnA2) fun x_one_4 => (xb_let (i := 1) g (fun x_other_6 => [some (.v x_one_4), some (.v x_other_6), some (.v a3.2.2)]) (xp_call g (ok_without_begin T) (hr.mono (by decide)) T.m_without_begin T.F_without_begin.kp T.b_without_begin (xa_2 (xp_var (i := 1) rfl) (xp_ix o_ix d_ix (fun _ _ => rfl) (xp_var (i := 2) rfl) xp_int)) lnA2) fun x_other_6 => (xb_let (i := 2) g (fun x_letters_8 => [some (.v x_one_4), some (.v x_other_6), some (.v x_letters_8)]) (xp_call g (ok_movable_letters T) (hr.mono (by decide)) T.m_movable_letters T.F_movable_letters.kp T.b_movable_letters (xa_2 (xp_var (i := 0) rfl) (xp_var (i := 1) rfl)) lnA2) fun x_letters_8 => (xb_end rfl (.k (.k (.k .nil))))))))) (by rintro a10 _ rfl; exact (xb_ret (xp_tup (xa_2 (xp_var (i := 0) rfl) (xp_var (i := 1) rfl)))))))
theorem sc_Form___init__ : FnScope ["self", "strands"] ["self", "strands"] (defScope s_Form___init__) := ⟨rfl, rfl, rfl, by decide +kernel, rfl, by decide +kernel, by decide +kernel⟩
theorem ok_Form___init__ (T : Txt K mg A) : FnOk P w K mg base (L2.CX P w) 1 A.a_Form___init__ A.fd_Form___init__ ["self", "strands"] (spI FormC.c) := ok_initF T.F_Form___init__ sc_Form___init__ T.fc rfl rfl rfl
theorem sc_Form_settle : FnScope ["self", "at", "one", "other"] ["self"] (defScope s_Form_settle) := ⟨rfl, rfl, rfl, by decide +kernel, rfl, by decide +kernel, by decide +kernel⟩
@[irreducible] def f_Form_settle (x_self : FT)  : R FT := ((((R.ok (D.int 0)).bnd fun x => (((((R.ok (D.ob FormC.c (x_self).1 (x_self).2.1 (x_self).2.2)).bnd fun d => R.of (D.fR FormC.c d)).bnd fun x => .ok [x]).bnd fun ds => R.of (D.len ds)).bnd fun x => (R.ok (D.int 2)).bnd fun y => R.of (D.sub x y)).bnd fun y => .ok [x, y]).bnd fun ds => R.of (D.max2 ds)).bnd fun d => R.of (D.fl d)).bnd fun x_at_1 => (whileN (fun (a3 : FT × D) => (R.ok a3.2).bnd fun x => ((((((R.ok (D.ob FormC.c (a3.1).1 (a3.1).2.1 (a3.1).2.2)).bnd fun d => R.of (D.fR FormC.c d)).bnd fun x => .ok [x]).bnd fun ds => R.of (D.len ds)).bnd fun x => (R.ok (D.int 1)).bnd fun y => R.of (D.sub x y)).bnd fun d => R.of (D.fl d)).bnd fun y => R.of (D.lt x y)) (fun (a3 : FT × D) => R.bU2 ((((((R.ok (D.ob FormC.c (a3.1).1 (a3.1).2.1 (a3.1).2.2)).bnd fun d => R.of (D.fR FormC.c d)).bnd fun x => (R.ok a3.2).bnd fun y => R.of (D.ix x y)).bnd fun x => (((R.ok (D.ob FormC.c (a3.1).1 (a3.1).2.1 (a3.1).2.2)).bnd fun d => R.of (D.fR FormC.c d)).bnd fun x => ((R.ok a3.2).bnd fun x => (R.ok (D.int 1)).bnd fun y => R.of (D.addI x y)).bnd fun y => R.of (D.ix x y)).bnd fun y => .ok [x, y]).bnd (ap2 f_settled_pair)).bnd fun d => R.of (D.fl d)) fun x_one_4 x_other_5 => (((R.ok x_one_4).bnd fun x => ((((R.ok (D.ob FormC.c (a3.1).1 (a3.1).2.1 (a3.1).2.2)).bnd fun d => R.of (D.fR FormC.c d)).bnd fun x => (R.ok a3.2).bnd fun y => R.of (D.ix x y)).bnd fun d => R.of (D.fl d)).bnd fun y => R.of (D.eq x y)).bnd fun b => if b = true then ((R.ok a3.2).bnd fun x => (R.ok (D.int 1)).bnd fun y => R.of (D.addI x y)).bnd fun x_at_7 => .ok (a3.1, x_at_7) else (R.ok x_one_4).bnd fun d => (R.ok a3.2).bnd fun j => (R.of (setD (a3.1).2.2 j d)).bnd fun d9 => (R.ok x_other_5).bnd fun d => ((R.ok a3.2).bnd fun x => (R.ok (D.int 1)).bnd fun y => R.of (D.addI x y)).bnd fun j => (R.of (setD (((a3.1).1, (a3.1).2.1, d9)).2.2 j d)).bnd fun d10 => (((R.ok (D.int 0)).bnd fun x => ((R.ok a3.2).bnd fun x => (R.ok (D.int 1)).bnd fun y => R.of (D.sub x y)).bnd fun y => .ok [x, y]).bnd fun ds => R.of (D.max2 ds)).bnd fun x_at_11 => .ok (((((a3.1).1, (a3.1).2.1, d9)).1, (((a3.1).1, (a3.1).2.1, d9)).2.1, d10), x_at_11)).bnd fun a13 => .ok (a13.1, a13.2)) 1000000 (x_self, x_at_1)).bnd fun a14 => .ok a14.1
theorem ok_Form_settle (T : Txt K mg A) : FnOk P w K mg base (L2.CX P w) 5 A.a_Form_settle A.fd_Form_settle ["self"] (spF K A.ec FormC.c 0 (apF0 f_Form_settle)) := by
  refine fn_okF T.F_Form_settle sc_Form_settle rfl fun cdv A' outer s H E hr g p_ q_ x_self ds hd => ?_
  match ds, hd with
  | [], _ => show XB _ _ [] _ [some (.o true q_ (OF FormC.c p_ x_self)), none, none, none] (f_Form_settle x_self ) _; unfold f_Form_settle; exact (xb_let (i := 1) g (fun x_at_1 => [some (.o true q_ (OF FormC.c p_ x_self)), some (.v x_at_1), none, none]) (xp_borF (i := 0) [some (.v (D.ob FormC.c (x_self).1 (x_self).2.1 (x_self).2.2)), none, none, none] (xp_callB (call_max2 rfl) d_max2 (by rfl) T.n_max (by decide +kernel) (xa_2 xp_int (xp_op op_sub d_sub (xp_callB c_len d_len (by rfl) T.n_len (by decide +kernel) (xa_1 (xp_fR T.fc (xp_var (i := 0) rfl)))) xp_int)))) fun x_at_1 => (xb_seq (L := (fun (a3 : FT × D) (e : En) => ∃ (b_self : Bool) (q_self : Addr), e = [some (.o b_self q_self (OF FormC.c p_ a3.1)), some (.v a3.2), none, none])) (xs_while (L := (fun (a3 : FT × D) (e : En) => ∃ (b_self : Bool) (q_self : Addr), e = [some (.o b_self q_self (OF FormC.c p_ a3.1)), some (.v a3.2), none, none])) (a0 := (x_self, x_at_1)) (e0 := [some (.o true q_ (OF FormC.c p_ x_self)), some (.v x_at_1), none, none]) (test := fun (a3 : FT × D) => (R.ok a3.2).bnd fun x => ((((((R.ok (D.ob FormC.c (a3.1).1 (a3.1).2.1 (a3.1).2.2)).bnd fun d => R.of (D.fR FormC.c d)).bnd fun x => .ok [x]).bnd fun ds => R.of (D.len ds)).bnd fun x => (R.ok (D.int 1)).bnd fun y => R.of (D.sub x y)).bnd fun d => R.of (D.fl d)).bnd fun y => R.of (D.lt x y)) (step := fun (a3 : FT × D) => R.bU2 ((((((R.ok (D.ob FormC.c (a3.1).1 (a3.1).2.1 (a3.1).2.2)).bnd fun d => R.of (D.fR FormC.c d)).bnd fun x => (R.ok a3.2).bnd fun y => R.of (D.ix x y)).bnd fun x => (((R.ok (D.ob FormC.c (a3.1).1 (a3.1).2.1 (a3.1).2.2)).bnd fun d => R.of (D.fR FormC.c d)).bnd fun x => ((R.ok a3.2).bnd fun x => (R.ok (D.int 1)).bnd fun y => R.of (D.addI x y)).bnd fun y => R.of (D.ix x y)).bnd fun y => .ok [x, y]).bnd (ap2 f_settled_pair)).bnd fun d => R.of (D.fl d)) fun x_one_4 x_other_5 => (((R.ok x_one_4).bnd fun x => ((((R.ok (D.ob FormC.c (a3.1).1 (a3.1).2.1 (a3.1).2.2)).bnd fun d => R.of (D.fR FormC.c d)).bnd fun x => (R.ok a3.2).bnd fun y => R.of (D.ix x y)).bnd fun d => R.of (D.fl d)).bnd fun y => R.of (D.eq x y)).bnd fun b => if b = true then ((R.ok a3.2).bnd fun x => (R.ok (D.int 1)).bnd fun y => R.of (D.addI x y)).bnd fun x_at_7 => .ok (a3.1, x_at_7) else (R.ok x_one_4).bnd fun d => (R.ok a3.2).bnd fun j => (R.of (setD (a3.1).2.2 j d)).bnd fun d9 => (R.ok x_other_5).bnd fun d => ((R.ok a3.2).bnd fun x => (R.ok (D.int 1)).bnd fun y => R.of (D.addI x y)).bnd fun j => (R.of (setD (((a3.1).1, (a3.1).2.1, d9)).2.2 j d)).bnd fun d10 => (((R.ok (D.int 0)).bnd fun x => ((R.ok a3.2).bnd fun x => (R.ok (D.int 1)).bnd fun y => R.of (D.sub x y)).bnd fun y => .ok [x, y]).bnd fun ds => R.of (D.max2 ds)).bnd fun x_at_11 => .ok (((((a3.1).1, (a3.1).2.1, d9)).1, (((a3.1).1, (a3.1).2.1, d9)).2.1, d10), x_at_11)).bnd fun a13 => .ok (a13.1, a13.2)) (N := 1000000) g ⟨_, _, rfl⟩ (.k (.k (.k (.k .nil)))) (by rintro a3 _ ⟨b_self, q_self, rfl⟩; exact (xt_cmp op_lt d_lt (nomark _) (xp_var (i := 1) rfl) (xp_borF (i := 0) [some (.v (D.ob FormC.c (a3.1).1 (a3.1).2.1 (a3.1).2.2)), some (.v a3.2), none, none] (xp_op op_sub d_sub (xp_callB c_len d_len (by rfl) T.n_len (by decide +kernel) (xa_1 (xp_fR T.fc (xp_var (i := 0) rfl)))) xp_int)))) (by rintro a3 _ ⟨b_self, q_self, rfl⟩; exact (xb_two (i := 2) (j := 3) g (fun x_one_4 x_other_5 => [some (.o b_self q_self (OF FormC.c p_ a3.1)), some (.v a3.2), some (.v x_one_4), some (.v x_other_5)]) (xp_borF (i := 0) [some (.v (D.ob FormC.c (a3.1).1 (a3.1).2.1 (a3.1).2.2)), some (.v a3.2), none, none] (xp_call g (ok_settled_pair T) (hr.mono (by decide)) T.m_settled_pair T.F_settled_pair.kp T.b_settled_pair (xa_2 (xp_ix o_ix d_ix (fun _ _ => rfl) (xp_fR T.fc (xp_var (i := 0) rfl)) (xp_var (i := 1) rfl)) (xp_ix o_ix d_ix (fun _ _ => rfl) (xp_fR T.fc (xp_var (i := 0) rfl)) (xp_op o_add d_add (xp_var (i := 1) rfl) xp_int))) lnA2)) fun x_one_4 x_other_5 => (xb_seq (L := (fun (a13 : FT × D) (e : En) => ∃ (b_self : Bool) (q_self : Addr), e = [some (.o b_self q_self (OF FormC.c p_ a13.1)), some (.v a13.2), some (.v x_one_4), some (.v x_other_5)])) (xs_if (xt_cmp (o_eq hr.units) d_eq (nomark _) (xp_var (i := 2) rfl) (xp_borF (i := 0) [some (.v (D.ob FormC.c (a3.1).1 (a3.1).2.1 (a3.1).2.2)), some (.v a3.2), some (.v x_one_4), some (.v x_other_5)] (xp_ix o_ix d_ix (fun _ _ => rfl) (xp_fR T.fc (xp_var (i := 0) rfl)) (xp_var (i := 1) rfl)))) (xb_let (i := 1) g (fun x_at_7 => [some (.o b_self q_self (OF FormC.c p_ a3.1)), some (.v x_at_7), some (.v x_one_4), some (.v x_other_5)]) (xp_op o_add d_add (xp_var (i := 1) rfl) xp_int) fun x_at_7 => (xb_end (e' := [some (.o b_self q_self (OF FormC.c p_ a3.1)), some (.v x_at_7), some (.v x_one_4), some (.v x_other_5)]) ⟨_, _, rfl⟩ (.k (.k (.k (.k .nil)))))) (xb_putF (i := 0) T.fc (fun d9 => [some (.o b_self q_self (OF FormC.c p_ ((a3.1).1, (a3.1).2.1, d9))), some (.v a3.2), some (.v x_one_4), some (.v x_other_5)]) (xp_var (i := 2) rfl) (xp_var (i := 1) rfl) fun d9 => (xb_putF (i := 0) T.fc (fun d10 => [some (.o b_self q_self (OF FormC.c p_ ((((a3.1).1, (a3.1).2.1, d9)).1, (((a3.1).1, (a3.1).2.1, d9)).2.1, d10))), some (.v a3.2), some (.v x_one_4), some (.v x_other_5)]) (xp_var (i := 3) rfl) (xp_op o_add d_add (xp_var (i := 1) rfl) xp_int) fun d10 => (xb_let (i := 1) g (fun x_at_11 => [some (.o b_self q_self (OF FormC.c p_ ((((a3.1).1, (a3.1).2.1, d9)).1, (((a3.1).1, (a3.1).2.1, d9)).2.1, d10))), some (.v x_at_11), some (.v x_one_4), some (.v x_other_5)]) (xp_callB (call_max2 rfl) d_max2 (by rfl) T.n_max (by decide +kernel) (xa_2 xp_int (xp_op op_sub d_sub (xp_var (i := 1) rfl) xp_int))) fun x_at_11 => (xb_end (e' := [some (.o b_self q_self (OF FormC.c p_ ((((a3.1).1, (a3.1).2.1, d9)).1, (((a3.1).1, (a3.1).2.1, d9)).2.1, d10))), some (.v x_at_11), some (.v x_one_4), some (.v x_other_5)]) ⟨_, _, rfl⟩ (.k (.k (.k (.k .nil))))))))) (by rintro a13 _ ⟨b_self, q_self, rfl⟩; exact (xb_end (e' := [some (.o b_self q_self (OF FormC.c p_ a13.1)), some (.v a13.2), none, none]) ⟨_, _, rfl⟩ (.k (.k (.d (.d .nil)))))))))) (by rintro a14 _ ⟨b_self, q_self, rfl⟩; exact (xb_end (e' := [some (.o b_self q_self (OF FormC.c p_ a14.1)), none, none, none]) ⟨_, _, rfl⟩ (.k (.d (.k (.k .nil))))))))
theorem sc_Form_put_order : FnScope ["self", "row"] ["self", "row"] (defScope s_Form_put_order) := ⟨rfl, rfl, rfl, by decide +kernel, rfl, by decide +kernel, by decide +kernel⟩
@[irreducible] def f_Form_put_order (x_self : FT) (x_row : D) : R FT := (R.ok x_row).bnd fun d => (R.of (appD (x_self).2.2 d)).bnd fun d1 => (apF0 f_Form_settle ((x_self).1, (x_self).2.1, d1) []).bnd fun s4 => (whileN (fun (a5 : FT) => ((((((R.ok (D.ob FormC.c (a5).1 (a5).2.1 (a5).2.2)).bnd fun d => R.of (D.fR FormC.c d)).bnd fun x => .ok [x]).bnd fun ds => R.of (D.len ds)).bnd fun d => R.of (D.fl d)).bnd fun x => (R.ok (D.int 0)).bnd fun y => R.of (D.gt x y)).bnd fun x => if x = true then ((((R.ok (D.ob FormC.c (a5).1 (a5).2.1 (a5).2.2)).bnd fun d => R.of (D.fR FormC.c d)).bnd fun x => ((R.ok (D.int 1)).bnd fun x => R.of (D.neg x)).bnd fun y => R.of (D.ix x y)).bnd fun d => R.of (D.fl d)).bnd fun x => (((((R.ok (D.ob FormC.c (a5).1 (a5).2.1 (a5).2.2)).bnd fun d => R.of (D.fN FormC.c d)).bnd fun x => .ok [x]).bnd (ap1 f_plain_order)).bnd fun d => R.of (D.fl d)).bnd fun y => R.of (D.eq x y) else .ok false) (fun (a5 : FT) => (R.of (popD (a5).2.2)).bnd fun d6 => .ok ((a5).1, (a5).2.1, d6)) 1000000 s4).bnd fun a7 => (whileN (fun (a8 : FT) => ((((((R.ok (D.ob FormC.c (a8).1 (a8).2.1 (a8).2.2)).bnd fun d => R.of (D.fR FormC.c d)).bnd fun x => .ok [x]).bnd fun ds => R.of (D.len ds)).bnd fun d => R.of (D.fl d)).bnd fun x => (R.ok (D.int 0)).bnd fun y => R.of (D.gt x y)).bnd fun x => if x = true then ((((R.ok (D.ob FormC.c (a8).1 (a8).2.1 (a8).2.2)).bnd fun d => R.of (D.fR FormC.c d)).bnd fun x => (R.ok (D.int 0)).bnd fun y => R.of (D.ix x y)).bnd fun d => R.of (D.fl d)).bnd fun x => (((((R.ok (D.ob FormC.c (a8).1 (a8).2.1 (a8).2.2)).bnd fun d => R.of (D.fN FormC.c d)).bnd fun x => .ok [x]).bnd (ap1 f_half_twist)).bnd fun d => R.of (D.fl d)).bnd fun y => R.of (D.eq x y) else .ok false) (fun (a8 : FT) => (R.ok (D.int 0)).bnd fun d => (R.of (popAtD (a8).2.2 d)).bnd fun r => (fun d9 => ((((R.ok (D.ob FormC.c (((a8).1, (a8).2.1, d9)).1 (((a8).1, (a8).2.1, d9)).2.1 (((a8).1, (a8).2.1, d9)).2.2)).bnd fun d => R.of (D.fP FormC.c d)).bnd fun x => (R.ok (D.int 1)).bnd fun y => R.of (D.addI x y)).bnd fun d => R.of (D.fl d)).bnd fun d10 => .ok ((((a8).1, (a8).2.1, d9)).1, d10, (((a8).1, (a8).2.1, d9)).2.2)) r.2) 1000000 a7).bnd fun a11 => .ok a11
theorem ok_Form_put_order (T : Txt K mg A) : FnOk P w K mg base (L2.CX P w) 6 A.a_Form_put_order A.fd_Form_put_order ["self", "row"] (spF K A.ec FormC.c 1 (apF1 f_Form_put_order)) := by
  refine fn_okF T.F_Form_put_order sc_Form_put_order rfl fun cdv A' outer s H E hr g p_ q_ x_self ds hd => ?_
  match ds, hd with
  | [x_row], _ => show XB _ _ [] _ [some (.o true q_ (OF FormC.c p_ x_self)), some (.v x_row)] (f_Form_put_order x_self x_row) _; unfold f_Form_put_order; exact (xb_appF (i := 0) T.fc (fun d1 => [some (.o true q_ (OF FormC.c p_ ((x_self).1, (x_self).2.1, d1))), some (.v x_row)]) (xp_var (i := 1) rfl) fun d1 => (xb_callF0 (i := 0) g T.fc T.me_Form_settle (ok_Form_settle T) (hr.mono (by decide)) T.b_Form_settle (fun b2 q3 s4 => [some (.o b2 q3 (OF FormC.c p_ s4)), some (.v x_row)]) fun b2 q3 s4 => (xb_seq (L := (fun (a5 : FT) (e : En) => ∃ (b_self : Bool) (q_self : Addr), e = [some (.o b_self q_self (OF FormC.c p_ a5)), some (.v x_row)])) (xs_while (L := (fun (a5 : FT) (e : En) => ∃ (b_self : Bool) (q_self : Addr), e = [some (.o b_self q_self (OF FormC.c p_ a5)), some (.v x_row)])) (a0 := s4) (e0 := [some (.o b2 q3 (OF FormC.c p_ s4)), some (.v x_row)]) (test := fun (a5 : FT) => ((((((R.ok (D.ob FormC.c (a5).1 (a5).2.1 (a5).2.2)).bnd fun d => R.of (D.fR FormC.c d)).bnd fun x => .ok [x]).bnd fun ds => R.of (D.len ds)).bnd fun d => R.of (D.fl d)).bnd fun x => (R.ok (D.int 0)).bnd fun y => R.of (D.gt x y)).bnd fun x => if x = true then ((((R.ok (D.ob FormC.c (a5).1 (a5).2.1 (a5).2.2)).bnd fun d => R.of (D.fR FormC.c d)).bnd fun x => ((R.ok (D.int 1)).bnd fun x => R.of (D.neg x)).bnd fun y => R.of (D.ix x y)).bnd fun d => R.of (D.fl d)).bnd fun x => (((((R.ok (D.ob FormC.c (a5).1 (a5).2.1 (a5).2.2)).bnd fun d => R.of (D.fN FormC.c d)).bnd fun x => .ok [x]).bnd (ap1 f_plain_order)).bnd fun d => R.of (D.fl d)).bnd fun y => R.of (D.eq x y) else .ok false) (step := fun (a5 : FT) => (R.of (popD (a5).2.2)).bnd fun d6 => .ok ((a5).1, (a5).2.1, d6)) (N := 1000000) g ⟨_, _, rfl⟩ (.k (.k .nil)) (by rintro a5 _ ⟨b_self, q_self, rfl⟩; exact (xt_w (xw_and (xt_cmp op_gt d_gt (nomark _) (xp_borF (i := 0) [some (.v (D.ob FormC.c (a5).1 (a5).2.1 (a5).2.2)), some (.v x_row)] (xp_callB c_len d_len (by rfl) T.n_len (by decide +kernel) (xa_1 (xp_fR T.fc (xp_var (i := 0) rfl))))) xp_int) (xw_and1 (xt_cmp (o_eq hr.units) d_eq (nomark _) (xp_borF (i := 0) [some (.v (D.ob FormC.c (a5).1 (a5).2.1 (a5).2.2)), some (.v x_row)] (xp_ix o_ix d_ix (fun _ _ => rfl) (xp_fR T.fc (xp_var (i := 0) rfl)) (xp_un un_neg d_neg xp_int))) (xp_borF (i := 0) [some (.v (D.ob FormC.c (a5).1 (a5).2.1 (a5).2.2)), some (.v x_row)] (xp_call g (ok_plain_order T) (hr.mono (by decide)) T.m_plain_order T.F_plain_order.kp T.b_plain_order (xa_1 (xp_fN T.fc (xp_var (i := 0) rfl))) lnA1))))))) (by rintro a5 _ ⟨b_self, q_self, rfl⟩; exact (xb_popF (i := 0) T.fc (fun d6 => [some (.o b_self q_self (OF FormC.c p_ ((a5).1, (a5).2.1, d6))), some (.v x_row)]) fun d6 => (xb_end (e' := [some (.o b_self q_self (OF FormC.c p_ ((a5).1, (a5).2.1, d6))), some (.v x_row)]) ⟨_, _, rfl⟩ (.k (.k .nil)))))) (by rintro a7 _ ⟨b_self, q_self, rfl⟩; exact (xb_seq (L := (fun (a8 : FT) (e : En) => ∃ (b_self : Bool) (q_self : Addr), e = [some (.o b_self q_self (OF FormC.c p_ a8)), some (.v x_row)])) (xs_while (L := (fun (a8 : FT) (e : En) => ∃ (b_self : Bool) (q_self : Addr), e = [some (.o b_self q_self (OF FormC.c p_ a8)), some (.v x_row)])) (a0 := a7) (e0 := [some (.o b_self q_self (OF FormC.c p_ a7)), some (.v x_row)]) (test := fun (a8 : FT) => ((((((R.ok (D.ob FormC.c (a8).1 (a8).2.1 (a8).2.2)).bnd fun d => R.of (D.fR FormC.c d)).bnd fun x => .ok [x]).bnd fun ds => R.of (D.len ds)).bnd fun d => R.of (D.fl d)).bnd fun x => (R.ok (D.int 0)).bnd fun y => R.of (D.gt x y)).bnd fun x => if x = true then ((((R.ok (D.ob FormC.c (a8).1 (a8).2.1 (a8).2.2)).bnd fun d => R.of (D.fR FormC.c d)).bnd fun x => (R.ok (D.int 0)).bnd fun y => R.of (D.ix x y)).bnd fun d => R.of (D.fl d)).bnd fun x => (((((R.ok (D.ob FormC.c (a8).1 (a8).2.1 (a8).2.2)).bnd fun d => R.of (D.fN FormC.c d)).bnd fun x => .ok [x]).bnd (ap1 f_half_twist)).bnd fun d => R.of (D.fl d)).bnd fun y => R.of (D.eq x y) else .ok false) (step := fun (a8 : FT) => (R.ok (D.int 0)).bnd fun d => (R.of (popAtD (a8).2.2 d)).bnd fun r => (fun d9 => ((((R.ok (D.ob FormC.c (((a8).1, (a8).2.1, d9)).1 (((a8).1, (a8).2.1, d9)).2.1 (((a8).1, (a8).2.1, d9)).2.2)).bnd fun d => R.of (D.fP FormC.c d)).bnd fun x => (R.ok (D.int 1)).bnd fun y => R.of (D.addI x y)).bnd fun d => R.of (D.fl d)).bnd fun d10 => .ok ((((a8).1, (a8).2.1, d9)).1, d10, (((a8).1, (a8).2.1, d9)).2.2)) r.2) (N := 1000000) g ⟨_, _, rfl⟩ (.k (.k .nil)) (by rintro a8 _ ⟨b_self, q_self, rfl⟩; exact (xt_w (xw_and (xt_cmp op_gt d_gt (nomark _) (xp_borF (i := 0) [some (.v (D.ob FormC.c (a8).1 (a8).2.1 (a8).2.2)), some (.v x_row)] (xp_callB c_len d_len (by rfl) T.n_len (by decide +kernel) (xa_1 (xp_fR T.fc (xp_var (i := 0) rfl))))) xp_int) (xw_and1 (xt_cmp (o_eq hr.units) d_eq (nomark _) (xp_borF (i := 0) [some (.v (D.ob FormC.c (a8).1 (a8).2.1 (a8).2.2)), some (.v x_row)] (xp_ix o_ix d_ix (fun _ _ => rfl) (xp_fR T.fc (xp_var (i := 0) rfl)) xp_int)) (xp_borF (i := 0) [some (.v (D.ob FormC.c (a8).1 (a8).2.1 (a8).2.2)), some (.v x_row)] (xp_call g (ok_half_twist T) (hr.mono (by decide)) T.m_half_twist T.F_half_twist.kp T.b_half_twist (xa_1 (xp_fN T.fc (xp_var (i := 0) rfl))) lnA1))))))) (by rintro a8 _ ⟨b_self, q_self, rfl⟩; exact (xb_popAtF (i := 0) (k := fun d9 => ((((R.ok (D.ob FormC.c (((a8).1, (a8).2.1, d9)).1 (((a8).1, (a8).2.1, d9)).2.1 (((a8).1, (a8).2.1, d9)).2.2)).bnd fun d => R.of (D.fP FormC.c d)).bnd fun x => (R.ok (D.int 1)).bnd fun y => R.of (D.addI x y)).bnd fun d => R.of (D.fl d)).bnd fun d10 => .ok ((((a8).1, (a8).2.1, d9)).1, d10, (((a8).1, (a8).2.1, d9)).2.2)) T.fc (fun d9 => [some (.o b_self q_self (OF FormC.c p_ ((a8).1, (a8).2.1, d9))), some (.v x_row)]) xp_int fun d9 => (xb_fldP (i := 0) T.fc (fun d10 => [some (.o b_self q_self (OF FormC.c p_ ((((a8).1, (a8).2.1, d9)).1, d10, (((a8).1, (a8).2.1, d9)).2.2))), some (.v x_row)]) (xp_borF (i := 0) [some (.v (D.ob FormC.c (((a8).1, (a8).2.1, d9)).1 (((a8).1, (a8).2.1, d9)).2.1 (((a8).1, (a8).2.1, d9)).2.2)), some (.v x_row)] (xp_op o_add d_add (xp_fP T.fc (xp_var (i := 0) rfl)) xp_int)) fun d10 => (xb_end (e' := [some (.o b_self q_self (OF FormC.c p_ ((((a8).1, (a8).2.1, d9)).1, d10, (((a8).1, (a8).2.1, d9)).2.2))), some (.v x_row)]) ⟨_, _, rfl⟩ (.k (.k .nil))))))) (by rintro a11 _ ⟨b_self, q_self, rfl⟩; exact (xb_end (e' := [some (.o b_self q_self (OF FormC.c p_ a11)), none]) ⟨_, _, rfl⟩ (.k (.d .nil)))))))))
theorem sc_Form_put : FnScope ["self", "letter", "row"] ["self", "letter"] (defScope s_Form_put) := ⟨rfl, rfl, rfl, by decide +kernel, rfl, by decide +kernel, by decide +kernel⟩
@[irreducible] def f_Form_put (x_self : FT) (x_letter : D) : R FT := (((R.ok x_letter).bnd fun x => (R.ok (D.int 0)).bnd fun y => R.of (D.gt x y)).bnd fun b => if b = true then ((((((R.ok (D.ob FormC.c (x_self).1 (x_self).2.1 (x_self).2.2)).bnd fun d => R.of (D.fN FormC.c d)).bnd fun x => (R.ok x_letter).bnd fun y => .ok [x, y]).bnd (ap2 f_letter_order)).bnd fun d => R.of (D.fl d)).bnd fun x => .ok [x]).bnd fun ds => (apF1 f_Form_put_order x_self ds).bnd fun s3 => .ok s3 else ((((R.ok (D.ob FormC.c (x_self).1 (x_self).2.1 (x_self).2.2)).bnd fun d => R.of (D.fP FormC.c d)).bnd fun x => (R.ok (D.int 1)).bnd fun y => R.of (D.sub x y)).bnd fun d => R.of (D.fl d)).bnd fun d4 => (((((R.ok (D.ob FormC.c (((x_self).1, d4, (x_self).2.2)).1 (((x_self).1, d4, (x_self).2.2)).2.1 (((x_self).1, d4, (x_self).2.2)).2.2)).bnd fun d => R.of (D.fR FormC.c d)).bnd fun d => R.of (D.seq d)).bnd fun ds => lcR (fun d5 => ((R.ok d5).bnd fun x => .ok [x]).bnd (ap1 f_flipped_order)) ds).bnd fun d => R.of (flsD d)).bnd fun d7 => ((((((((R.ok (D.ob FormC.c (((((x_self).1, d4, (x_self).2.2)).1, (((x_self).1, d4, (x_self).2.2)).2.1, d7)).1 (((((x_self).1, d4, (x_self).2.2)).1, (((x_self).1, d4, (x_self).2.2)).2.1, d7)).2.1 (((((x_self).1, d4, (x_self).2.2)).1, (((x_self).1, d4, (x_self).2.2)).2.1, d7)).2.2)).bnd fun d => R.of (D.fN FormC.c d)).bnd fun x => .ok [x]).bnd (ap1 f_half_twist)).bnd fun x => ((R.ok (D.int 0)).bnd fun x => (R.ok x_letter).bnd fun y => R.of (D.sub x y)).bnd fun y => .ok [x, y]).bnd (ap2 f_with_end)).bnd fun d => R.of (D.fl d)).bnd fun x => .ok [x]).bnd fun ds => (apF1 f_Form_put_order ((((x_self).1, d4, (x_self).2.2)).1, (((x_self).1, d4, (x_self).2.2)).2.1, d7) ds).bnd fun s10 => .ok s10).bnd fun a11 => .ok a11
theorem ok_Form_put (T : Txt K mg A) : FnOk P w K mg base (L2.CX P w) 7 A.a_Form_put A.fd_Form_put ["self", "letter"] (spF K A.ec FormC.c 1 (apF1 f_Form_put)) := by
  refine fn_okF T.F_Form_put sc_Form_put rfl fun cdv A' outer s H E hr g p_ q_ x_self ds hd => ?_
  match ds, hd with
  | [x_letter], _ => show XB _ _ [] _ [some (.o true q_ (OF FormC.c p_ x_self)), some (.v x_letter), none] (f_Form_put x_self x_letter) _; unfold f_Form_put; exact (xb_seq (L := (fun (a11 : FT) (e : En) => ∃ (b_self : Bool) (q_self : Addr), e = [some (.o b_self q_self (OF FormC.c p_ a11)), some (.v x_letter), none])) (xs_if (xt_cmp op_gt d_gt (nomark _) (xp_var (i := 1) rfl) xp_int) (xb_callF (i := 0) g T.fc T.me_Form_put_order (ok_Form_put_order T) (hr.mono (by decide)) T.b_Form_put_order (fun b1 q2 s3 => [some (.o b1 q2 (OF FormC.c p_ s3)), some (.v x_letter), none]) (xa_1 (xp_borF (i := 0) [some (.v (D.ob FormC.c (x_self).1 (x_self).2.1 (x_self).2.2)), some (.v x_letter), none] (xp_call g (ok_letter_order T) (hr.mono (by decide)) T.m_letter_order T.F_letter_order.kp T.b_letter_order (xa_2 (xp_fN T.fc (xp_var (i := 0) rfl)) (xp_var (i := 1) rfl)) lnA2))) (fun b1 q2 s3 => (xb_end (e' := [some (.o b1 q2 (OF FormC.c p_ s3)), some (.v x_letter), none]) ⟨_, _, rfl⟩ (.k (.k (.k .nil))))) lnF1) (xb_fldP (i := 0) T.fc (fun d4 => [some (.o true q_ (OF FormC.c p_ ((x_self).1, d4, (x_self).2.2))), some (.v x_letter), none]) (xp_borF (i := 0) [some (.v (D.ob FormC.c (x_self).1 (x_self).2.1 (x_self).2.2)), some (.v x_letter), none] (xp_op op_sub d_sub (xp_fP T.fc (xp_var (i := 0) rfl)) xp_int)) fun d4 => (xb_fldR (i := 0) T.fc (fun q6 d7 => [some (.o false q6 (OF FormC.c p_ ((((x_self).1, d4, (x_self).2.2)).1, (((x_self).1, d4, (x_self).2.2)).2.1, d7))), some (.v x_letter), none]) (xn_borF (i := 0) [some (.v (D.ob FormC.c (((x_self).1, d4, (x_self).2.2)).1 (((x_self).1, d4, (x_self).2.2)).2.1 (((x_self).1, d4, (x_self).2.2)).2.2)), some (.v x_letter), none] (xn_lc (i := 2) (hblk := (blkOk_by (N := ["self", "letter", "row"]) (sc := defScope s_Form_put) (by decide +kernel))) g (xi_seq (xp_fR T.fc (xp_var (i := 0) rfl))) (fun d5 => fun s0 H0 C0 cl0 fp0 => (xp_call (g.blk s0 H0 C0 cl0 fp0) (ok_flipped_order T) (hr.mono (by decide)) T.m_flipped_order T.F_flipped_order.kp T.b_flipped_order (xa_1 (xp_var (i := 2) rfl)) lnA1)))) fun q6 d7 => (xb_callF (i := 0) g T.fc T.me_Form_put_order (ok_Form_put_order T) (hr.mono (by decide)) T.b_Form_put_order (fun b8 q9 s10 => [some (.o b8 q9 (OF FormC.c p_ s10)), some (.v x_letter), none]) (xa_1 (xp_borF (i := 0) [some (.v (D.ob FormC.c (((((x_self).1, d4, (x_self).2.2)).1, (((x_self).1, d4, (x_self).2.2)).2.1, d7)).1 (((((x_self).1, d4, (x_self).2.2)).1, (((x_self).1, d4, (x_self).2.2)).2.1, d7)).2.1 (((((x_self).1, d4, (x_self).2.2)).1, (((x_self).1, d4, (x_self).2.2)).2.1, d7)).2.2)), some (.v x_letter), none] (xp_call g (ok_with_end T) (hr.mono (by decide)) T.m_with_end T.F_with_end.kp T.b_with_end (xa_2 (xp_call g (ok_half_twist T) (hr.mono (by decide)) T.m_half_twist T.F_half_twist.kp T.b_half_twist (xa_1 (xp_fN T.fc (xp_var (i := 0) rfl))) lnA1) (xp_op op_sub d_sub xp_int (xp_var (i := 1) rfl))) lnA2))) (fun b8 q9 s10 => (xb_end (e' := [some (.o b8 q9 (OF FormC.c p_ s10)), some (.v x_letter), none]) ⟨_, _, rfl⟩ (.k (.k (.k .nil))))) lnF1)))) (by rintro a11 _ ⟨b_self, q_self, rfl⟩; exact (xb_end (e' := [some (.o b_self q_self (OF FormC.c p_ a11)), none, none]) ⟨_, _, rfl⟩ (.k (.d (.k .nil))))))
theorem sc_Form_told : FnScope ["self"] ["self"] (defScope s_Form_told) := ⟨rfl, rfl, rfl, by decide +kernel, rfl, by decide +kernel, by decide +kernel⟩
@[irreducible] def f_Form_told (x_self : D) : R D := (((R.ok x_self).bnd fun d => R.of (D.fP FormC.c d)).bnd fun x => ((((R.ok x_self).bnd fun d => R.of (D.fR FormC.c d)).bnd fun x => .ok [x]).bnd fun ds => R.of (D.toTup ds)).bnd fun y => .ok [x, y]).bnd fun ds => R.of ((fits ds).map D.tup)
theorem ok_Form_told (T : Txt K mg A) : FnOk P w K mg base (L2.CX P w) 1 A.a_Form_told A.fd_Form_told ["self"] (spR K A.ec (rP K) 1 (ap1 f_Form_told)) := by
  refine fn_ok T.F_Form_told sc_Form_told rfl fun cdv A' outer s H E hr g ds hd => ?_
  match ds, hd with
  | [x_self], _ => show XB _ _ [] _ [some (.v x_self)] (f_Form_told x_self) _; unfold f_Form_told; exact (xb_ret (xp_tup (xa_2 (xp_fP T.fc (xp_var (i := 0) rfl)) (xp_callTy call_tuple_of d_tup (by rfl) T.n_tuple (by decide +kernel) (xa_1 (xp_fR T.fc (xp_var (i := 0) rfl)))))))
theorem sc_form_by : FnScope ["strands", "word", "found", "letter"] ["strands", "word"] (defScope s_form_by) := ⟨rfl, rfl, rfl, by decide +kernel, rfl, by decide +kernel, by decide +kernel⟩
@[irreducible] def f_form_by (x_strands : D) (x_word : D) : R D := ((((R.ok (D.int 1)).bnd fun x => (R.ok x_strands).bnd fun y => (R.of (D.le x y)).bnd fun t => if t = true then (R.ok (D.int (6))).bnd fun z => R.of (D.le y z) else .ok false).bnd fun x => .ok (!x)).bnd fun x => if x = true then .ok true else (((R.ok x_word).bnd fun x => .ok [x]).bnd fun ds => R.of (D.len ds)).bnd fun x => (R.ok (D.int (500))).bnd fun y => R.of (D.gt x y)).bnd fun b => if b = true then .err 0 else (R.ok x_strands).bnd fun d3 => (((R.ok x_word).bnd fun d => R.of (D.seq d)).bnd fun ds => foldR (fun (a4 : FT) d5 => (((((R.ok d5).bnd fun x => (R.ok x_strands).bnd fun y => .ok [x, y]).bnd (ap2 f_is_letter)).bnd fun d => R.of (D.bool d)).bnd fun x => .ok (!x)).bnd fun b => if b = true then .err 0 else ((R.ok d5).bnd fun x => .ok [x]).bnd fun ds => (apF1 f_Form_put a4 ds).bnd fun s8 => .ok s8) (d3, D.int 0, []) ds).bnd fun a9 => ((R.ok (D.ob FormC.c (a9).1 (a9).2.1 (a9).2.2)).bnd fun d => (R.of (D.isO FormC.c d)).bnd fun d => (ap1 f_Form_told) [d]).bnd fun d => R.of (D.fl d)
theorem ok_form_by (T : Txt K mg A) : FnOk P w K mg base (L2.CX P w) 8 A.a_form_by A.fd_form_by ["strands", "word"] (spR K A.ec (rP K) 2 (ap2 f_form_by)) := by
  refine fn_ok T.F_form_by sc_form_by rfl fun cdv A' outer s H E hr g ds hd => ?_
  match ds, hd with
  | [x_strands, x_word], _ => show XB _ _ [] _ [some (.v x_strands), some (.v x_word), none, none] (f_form_by x_strands x_word) _; unfold f_form_by; exact (xb_ifE (xt_w (xw_or (xt_not (xt_chain op_le op_le d_le d_le xp_int (xp_var (i := 0) rfl) (xp_cI T.c_MOST_STRANDS) (pt_chain op_le op_le pe_w pe_w pe_w))) (xw_or1 (xt_cmp op_gt d_gt (nomark _) (xp_callB c_len d_len (by rfl) T.n_len (by decide +kernel) (xa_1 (xp_var (i := 1) rfl))) (xp_cI T.c_MOST_WORD))))) (xb_rse g T.e_NoPlait) (xb_makeF (i := 2) g T.mkk (ok_Form___init__ T) (hr.mono (by decide)) T.mgC T.b_Form___init__ (fun p1 q2 d3 => [some (.v x_strands), some (.v x_word), some (.o false q2 (OF FormC.c p1 (d3, D.int 0, []))), none]) (xp_var (i := 0) rfl) fun p1 q2 d3 => (xb_seq (L := (fun (a4 : FT) (e : En) => ∃ (b_found : Bool) (q_found : Addr), e = [some (.v x_strands), some (.v x_word), some (.o b_found q_found (OF FormC.c p1 a4)), none])) (xs_for (i := 3) (L := (fun (a4 : FT) (e : En) => ∃ (b_found : Bool) (q_found : Addr), e = [some (.v x_strands), some (.v x_word), some (.o b_found q_found (OF FormC.c p1 a4)), none])) (a0 := (d3, D.int 0, [])) (e0 := [some (.v x_strands), some (.v x_word), some (.o false q2 (OF FormC.c p1 (d3, D.int 0, []))), none]) (step := fun (a4 : FT) d5 => (((((R.ok d5).bnd fun x => (R.ok x_strands).bnd fun y => .ok [x, y]).bnd (ap2 f_is_letter)).bnd fun d => R.of (D.bool d)).bnd fun x => .ok (!x)).bnd fun b => if b = true then .err 0 else ((R.ok d5).bnd fun x => .ok [x]).bnd fun ds => (apF1 f_Form_put a4 ds).bnd fun s8 => .ok s8) g (xi_seq (xp_var (i := 1) rfl)) ⟨_, _, rfl⟩ (.k (.k (.k (.k .nil)))) (by rintro a4 _ d5 ⟨b_found, q_found, rfl⟩; exact (xb_ifE (xt_not (xt_val (xp_call g (ok_is_letter T) (hr.mono (by decide)) T.m_is_letter T.F_is_letter.kp T.b_is_letter (xa_2 (xp_var (i := 3) rfl) (xp_var (i := 0) rfl)) lnA2))) (xb_rse g T.e_NoPlait) (xb_callF (i := 2) g T.fc T.me_Form_put (ok_Form_put T) (hr.mono (by decide)) T.b_Form_put (fun b6 q7 s8 => [some (.v x_strands), some (.v x_word), some (.o b6 q7 (OF FormC.c p1 s8)), some (.v d5)]) (xa_1 (xp_var (i := 3) rfl)) (fun b6 q7 s8 => (xb_end (e' := [some (.v x_strands), some (.v x_word), some (.o b6 q7 (OF FormC.c p1 s8)), none]) ⟨_, _, rfl⟩ (.k (.k (.k (.d .nil)))))) lnF1)))) (by rintro a9 _ ⟨b_found, q_found, rfl⟩; exact (xb_ret (xp_borF (i := 2) [some (.v x_strands), some (.v x_word), some (.v (D.ob FormC.c (a9).1 (a9).2.1 (a9).2.2)), none] (xp_methO g T.fc T.me_Form_told (ok_Form_told T) (hr.mono (by decide)) T.b_Form_told (xp_var (i := 2) rfl))))))))
theorem sc_form_of : FnScope ["plait"] ["plait"] (defScope s_form_of) := ⟨rfl, rfl, rfl, by decide +kernel, rfl, by decide +kernel, by decide +kernel⟩
@[irreducible] def f_form_of (x_plait : D) : R D := (((R.ok x_plait).bnd fun x => .ok [x]).bnd (ap1 f_looked)).bnd fun _ => (((R.ok x_plait).bnd fun x => (R.ok (D.int 0)).bnd fun y => R.of (D.ix x y)).bnd fun x => ((R.ok x_plait).bnd fun x => (R.ok (D.int 1)).bnd fun y => R.of (D.ix x y)).bnd fun y => .ok [x, y]).bnd (ap2 f_form_by)
theorem ok_form_of (T : Txt K mg A) : FnOk P w K mg base (L2.CX P w) 9 A.a_form_of A.fd_form_of ["plait"] (spR K A.ec (rP K) 1 (ap1 f_form_of)) := by
  refine fn_ok T.F_form_of sc_form_of rfl fun cdv A' outer s H E hr g ds hd => ?_
  match ds, hd with
  | [x_plait], _ => show XB _ _ [] _ [some (.v x_plait)] (f_form_of x_plait) _; unfold f_form_of; exact (xb_drop (xp_call g (ok_looked T) (hr.mono (by decide)) T.m_looked T.F_looked.kp T.b_looked (xa_1 (xp_var (i := 0) rfl)) lnA1) (xb_ret (xp_call g (ok_form_by T) (hr.mono (by decide)) T.m_form_by T.F_form_by.kp T.b_form_by (xa_2 (xp_ix o_ix d_ix (fun _ _ => rfl) (xp_var (i := 0) rfl) xp_int) (xp_ix o_ix d_ix (fun _ _ => rfl) (xp_var (i := 0) rfl) xp_int)) lnA2)))
theorem sc__law_cell_at : FnScope ["script", "k"] ["script", "k"] (defScope s__law_cell_at) := ⟨rfl, rfl, rfl, by decide +kernel, rfl, by decide +kernel, by decide +kernel⟩
@[irreducible] def f__law_cell_at (x_script : D) (x_k : D) : R D := ((R.ok x_k).bnd fun x => (((R.ok x_script).bnd fun x => .ok [x]).bnd fun ds => R.of (D.len ds)).bnd fun y => R.of (D.lt x y)).bnd fun b => if b = true then (R.ok x_script).bnd fun x => (R.ok x_k).bnd fun y => R.of (D.ix x y) else R.ok (D.int 0)
theorem ok__law_cell_at (T : Txt K mg A) : FnOk P w K mg base (L2.CX P w) 1 A.a__law_cell_at A.fd__law_cell_at ["script", "k"] (spR K A.ec (rP K) 2 (ap2 f__law_cell_at)) := by
  refine fn_ok T.F__law_cell_at sc__law_cell_at rfl fun cdv A' outer s H E hr g ds hd => ?_
  match ds, hd with
  | [x_script, x_k], _ => show XB _ _ [] _ [some (.v x_script), some (.v x_k)] (f__law_cell_at x_script x_k) _; unfold f__law_cell_at; exact (xb_ifR (xt_cmp op_lt d_lt (nomark _) (xp_var (i := 1) rfl) (xp_callB c_len d_len (by rfl) T.n_len (by decide +kernel) (xa_1 (xp_var (i := 0) rfl)))) (xb_ret (xp_ix o_ix d_ix (fun _ _ => rfl) (xp_var (i := 0) rfl) (xp_var (i := 1) rfl))) (xb_ret xp_int))
theorem sc__law_state : FnScope ["script", "k", "cell"] ["script", "k"] (defScope s__law_state) := ⟨rfl, rfl, rfl, by decide +kernel, rfl, by decide +kernel, by decide +kernel⟩
@[irreducible] def f__law_state (x_script : D) (x_k : D) : R (List D) := (((R.ok x_script).bnd fun x => (R.ok x_k).bnd fun y => .ok [x, y]).bnd (ap2 f__law_cell_at)).bnd fun x_cell_1 => ((R.ok x_cell_1).bnd fun x => ((R.ok (D.int 10)).bnd fun x => (R.ok (D.int 18)).bnd fun y => R.of (D.pow x y)).bnd fun y => R.of (D.ge x y)).bnd fun b => if b = true then (((R.ok x_cell_1).bnd fun x => ((R.ok (D.int 10)).bnd fun x => (R.ok (D.int 18)).bnd fun y => R.of (D.pow x y)).bnd fun y => R.of (D.sub x y)).bnd fun x => (R.ok (D.bl true)).bnd fun y => .ok [x, y]).bnd fun ds => R.of (fits ds) else (((R.ok x_cell_1).bnd fun x => (R.ok (D.int 2147483647)).bnd fun y => R.of (D.mod x y)).bnd fun x => (R.ok (D.bl false)).bnd fun y => .ok [x, y]).bnd fun ds => R.of (fits ds)
theorem ok__law_state (T : Txt K mg A) : FnOk P w K mg base (L2.CX P w) 2 A.a__law_state A.fd__law_state ["script", "k"] (spR K A.ec (rN K) 2 (ap2 f__law_state)) := by
  refine fn_ok T.F__law_state sc__law_state rfl fun cdv A' outer s H E hr g ds hd => ?_
  match ds, hd with
  | [x_script, x_k], _ => show XB _ _ [] _ [some (.v x_script), some (.v x_k), none] (f__law_state x_script x_k) _; unfold f__law_state; exact (xb_let (i := 2) g (fun x_cell_1 => [some (.v x_script), some (.v x_k), some (.v x_cell_1)]) (xp_call g (ok__law_cell_at T) (hr.mono (by decide)) T.m__law_cell_at T.F__law_cell_at.kp T.b__law_cell_at (xa_2 (xp_var (i := 0) rfl) (xp_var (i := 1) rfl)) lnA2) fun x_cell_1 => (xb_ifR (xt_cmp op_ge d_ge (nomark _) (xp_var (i := 2) rfl) (xp_op op_pow d_pow xp_int xp_int)) (xb_retN (xn_lst (xa_2 (xp_op op_sub d_sub (xp_var (i := 2) rfl) (xp_op op_pow d_pow xp_int xp_int)) xp_bl))) (xb_retN (xn_lst (xa_2 (xp_op op_mod d_mod (xp_var (i := 2) rfl) xp_int) xp_bl)))))
theorem sc__law_choice : FnScope ["state", "many", "found", "mixed"] ["state", "many"] (defScope s__law_choice) := ⟨rfl, rfl, rfl, by decide +kernel, rfl, by decide +kernel, by decide +kernel⟩
@[irreducible] def f__law_choice (x_state : List D) (x_many : D) : R (D × List D) := (((R.ok (D.int 1)).bnd fun y => R.of (D.ix (D.lst x_state) y)).bnd fun d => R.of (D.bool d)).bnd fun b => if b = true then (((R.ok (D.int 0)).bnd fun y => R.of (D.ix (D.lst x_state) y)).bnd fun x => (R.ok x_many).bnd fun y => R.of (D.mod x y)).bnd fun x_found_1 => (((R.ok (D.int 0)).bnd fun y => R.of (D.ix (D.lst x_state) y)).bnd fun x => (R.ok x_many).bnd fun y => R.of (D.div x y)).bnd fun d => (R.ok (D.int 0)).bnd fun j => (R.of (setD x_state j d)).bnd fun x_state_3 => (R.ok x_found_1).bnd fun d => .ok (d, x_state_3) else (((((R.ok (D.int 0)).bnd fun y => R.of (D.ix (D.lst x_state) y)).bnd fun x => (R.ok (D.int 48271)).bnd fun y => R.of (D.mul x y)).bnd fun x => (R.ok (D.int 29)).bnd fun y => R.of (D.addI x y)).bnd fun x => (R.ok (D.int 2147483647)).bnd fun y => R.of (D.mod x y)).bnd fun d => (R.ok (D.int 0)).bnd fun j => (R.of (setD x_state j d)).bnd fun x_state_4 => ((((((R.ok (D.int 0)).bnd fun y => R.of (D.ix (D.lst x_state_4) y)).bnd fun x => ((R.ok (D.int 0)).bnd fun y => R.of (D.ix (D.lst x_state_4) y)).bnd fun y => R.of (D.mul x y)).bnd fun x => ((R.ok (D.int 39373)).bnd fun x => ((R.ok (D.int 0)).bnd fun y => R.of (D.ix (D.lst x_state_4) y)).bnd fun y => R.of (D.mul x y)).bnd fun y => R.of (D.addI x y)).bnd fun x => (R.ok (D.int 7)).bnd fun y => R.of (D.addI x y)).bnd fun x => (R.ok (D.int 2147483629)).bnd fun y => R.of (D.mod x y)).bnd fun x_mixed_5 => ((((R.ok x_mixed_5).bnd fun x => (R.ok x_mixed_5).bnd fun y => R.of (D.mul x y)).bnd fun x => ((R.ok (D.int 16807)).bnd fun x => (R.ok x_mixed_5).bnd fun y => R.of (D.mul x y)).bnd fun y => R.of (D.addI x y)).bnd fun x => (R.ok (D.int 2147483587)).bnd fun y => R.of (D.mod x y)).bnd fun x_mixed_7 => (((R.ok x_mixed_7).bnd fun x => (R.ok (D.int 8)).bnd fun y => R.of (D.div x y)).bnd fun x => (R.ok x_many).bnd fun y => R.of (D.mod x y)).bnd fun d => .ok (d, x_state_4)
theorem ok__law_choice (T : Txt K mg A) : FnOk P w K mg base (L2.CX P w) 1 A.a__law_choice A.fd__law_choice ["state", "many"] (spIO K A.ec 1 (apI1 f__law_choice)) := by
  refine fn_okIO T.F__law_choice sc__law_choice rfl fun cdv A' outer s H E hr g p_ x_state ds hd => ?_
  match ds, hd with
  | [x_many], _ => show XB _ _ [] _ [some (.o true p_ (.l x_state)), some (.v x_many), none, none] (f__law_choice x_state x_many) _; unfold f__law_choice; exact (xb_ifR (xt_val (xp_ixO (i := 0) xp_int)) (xb_let (i := 2) g (fun x_found_1 => [some (.o true p_ (.l x_state)), some (.v x_many), some (.v x_found_1), none]) (xp_op op_mod d_mod (xp_ixO (i := 0) xp_int) (xp_var (i := 1) rfl)) fun x_found_1 => (xb_put (i := 0) (fun x_state_3 => [some (.o true p_ (.l x_state_3)), some (.v x_many), some (.v x_found_1), none]) (xp_op op_fdivW d_div (xp_ixO (i := 0) xp_int) (xp_var (i := 1) rfl)) xp_int fun x_state_3 => (xb_retIOP (i := 0) (xp_var (i := 2) rfl)))) (xb_put (i := 0) (fun x_state_4 => [some (.o true p_ (.l x_state_4)), some (.v x_many), none, none]) (xp_op op_mod d_mod (xp_op o_add d_add (xp_op op_mul d_mul (xp_ixO (i := 0) xp_int) xp_int) xp_int) xp_int) xp_int fun x_state_4 => (xb_let (i := 3) g (fun x_mixed_5 => [some (.o true p_ (.l x_state_4)), some (.v x_many), none, some (.v x_mixed_5)]) (xp_op op_mod d_mod (xp_op o_add d_add (xp_op o_add d_add (xp_op op_mul d_mul (xp_ixO (i := 0) xp_int) (xp_ixO (i := 0) xp_int)) (xp_op op_mul d_mul xp_int (xp_ixO (i := 0) xp_int))) xp_int) xp_int) fun x_mixed_5 => (xb_let (i := 3) g (fun x_mixed_7 => [some (.o true p_ (.l x_state_4)), some (.v x_many), none, some (.v x_mixed_7)]) (xp_op op_mod d_mod (xp_op o_add d_add (xp_op op_mul d_mul (xp_var (i := 3) rfl) (xp_var (i := 3) rfl)) (xp_op op_mul d_mul xp_int (xp_var (i := 3) rfl))) xp_int) fun x_mixed_7 => (xb_retIOP (i := 0) (xp_op op_mod d_mod (xp_op op_fdivW d_div (xp_var (i := 3) rfl) xp_int) (xp_var (i := 1) rfl)))))))
theorem sc__law_word : FnScope ["state", "strands", "count", "k"] ["state", "strands", "count"] (defScope s__law_word) := ⟨rfl, rfl, rfl, by decide +kernel, rfl, by decide +kernel, by decide +kernel⟩
@[irreducible] def f__law_word (x_state : List D) (x_strands : D) (x_count : D) : R (D × List D) := ((R.ok x_strands).bnd fun x => (R.ok (D.int 2)).bnd fun y => R.of (D.lt x y)).bnd fun b => if b = true then ((R.ok []).bnd fun ds => R.of ((fits ds).map D.tup)).bnd fun d => .ok (d, x_state) else ((((((R.ok x_count).bnd fun x => R.of (rg1 x)).bnd fun ds => lcVR (fun c16 d12 => ((((((((R.ok (D.int 1)).bnd fun x => ((R.ok (D.int 1)).bnd fun x => R.of (D.neg x)).bnd fun y => .ok [x, y]).bnd fun ds => R.of (fits ds)).bnd fun z => .ok (D.lst z)).bnd fun x => (((R.ok (D.int 2)).bnd fun x => .ok [x]).bnd fun r => apI1 f__law_choice c16 r).bnd2 fun y c => .ok ((x, y), c)).bnd fun q => (R.of (D.ix q.1.1 q.1.2)).bnd fun d => .ok (d, q.2)).bnd2 fun x c18 => (((R.ok (D.int 1)).bnd fun x => ((((R.ok x_strands).bnd fun x => (R.ok (D.int 1)).bnd fun y => R.of (D.sub x y)).bnd fun x => .ok [x]).bnd fun r => apI1 f__law_choice c18 r).bnd2 fun y c => .ok ((x, y), c)).bnd2 fun q c => (R.of (D.addI q.1 q.2)).bnd fun d => .ok (d, c)).bnd2 fun y c => .ok ((x, y), c)).bnd2 fun q c => (R.of (D.mul q.1 q.2)).bnd fun d => .ok (d, c)).bnd2 fun d w => .ok (d, w)) x_state ds).bnd2 fun d c => .ok (D.lst d, c)).bnd2 fun x c23 => ((R.ok []).bnd fun d => R.ok (d, c23)).bnd2 fun xs c' => .ok (x :: xs, c')).bnd2 fun q c => (R.of (D.toTup q)).bnd fun d => .ok (d, c)).bnd2 fun d c25 => .ok (d, c25)
theorem ok__law_word (T : Txt K mg A) : FnOk P w K mg base (L2.CX P w) 2 A.a__law_word A.fd__law_word ["state", "strands", "count"] (spIO K A.ec 2 (apI2 f__law_word)) := by
  refine fn_okIO T.F__law_word sc__law_word rfl fun cdv A' outer s H E hr g p_ x_state ds hd => ?_
  match ds, hd with
  | [x_strands, x_count], _ => show XB _ _ [] _ [some (.o true p_ (.l x_state)), some (.v x_strands), some (.v x_count), none] (f__law_word x_state x_strands x_count) _; unfold f__law_word; exact (xb_ifR (xt_cmp op_lt d_lt (nomark _) (xp_var (i := 1) rfl) xp_int) (xb_retIOP (i := 0) (xp_tup xa_nil)) (xb_retIO (i := 0) (φ := (fun (c26 : List D) => ([some (.o true p_ (.l c26)), some (.v x_strands), some (.v x_count), none] : En))) (fun c25 => c25) (xv_callTy call_tuple_of d_tup T.n_tuple (by decide +kernel) (xav_v (xnv_xv (xnv_lc (i := 3) (φ := (fun (c20 : List D) => ([some (.o true p_ (.l c20)), some (.v x_strands), some (.v x_count), none] : En))) (hblk := (blkOk_by (N := ["state", "strands", "count", "k"]) (sc := defScope s__law_word) (by decide +kernel))) g (xi_range1 T.n_range (xp_var (i := 2) rfl)) (fun c16 d12 => fun s0 H0 C0 cl0 fp0 => xv_gam (χ := (fun (c21 : List D) => ([some (.o true p_ (.l c21)), some (.v x_strands), some (.v x_count), some (.v d12)] : En))) (ψ := (fun (c22 : List D) => ([some (.o true p_ (.l c22)), some (.v x_strands), some (.v x_count), some (.v d12)] : En))) (fun w => w) (xv_op op_mul d_mul (x2_vv (xv_ix o_ix d_ix (fun _ _ => rfl) (x2_pv (xn_xp (xn_lst (xa_2 xp_int (xp_un un_neg d_neg xp_int)))) (xv_io (i := 0) (g.blk s0 H0 C0 cl0 fp0) (ok__law_choice T) (hr.mono (by decide)) T.m__law_choice T.F__law_choice.kp T.b__law_choice (fun c17 => [some (.o true p_ (.l c17)), some (.v x_strands), some (.v x_count), some (.v d12)]) (xa_1 xp_int) lnI1))) fun c18 => (xv_op o_add d_add (x2_pv xp_int (xv_io (i := 0) (g.blk s0 H0 C0 cl0 fp0) (ok__law_choice T) (hr.mono (by decide)) T.m__law_choice T.F__law_choice.kp T.b__law_choice (fun c19 => [some (.o true p_ (.l c19)), some (.v x_strands), some (.v x_count), some (.v d12)]) (xa_1 (xp_op op_sub d_sub (xp_var (i := 1) rfl) xp_int)) lnI1)))))))) fun c23 => xav_of (φ := (fun (c24 : List D) => ([some (.o true p_ (.l c24)), some (.v x_strands), some (.v x_count), none] : En))) (cc := c23) xa_nil))))
theorem sc__law_plait : FnScope ["state", "least", "most", "letters", "strands"] ["state", "least", "most", "letters"] (defScope s__law_plait) := ⟨rfl, rfl, rfl, by decide +kernel, rfl, by decide +kernel, by decide +kernel⟩
@[irreducible] def f__law_plait (x_state : List D) (x_least : D) (x_most : D) (x_letters : D) : R (D × List D) := (((R.ok x_least).bnd fun x => (((((R.ok x_most).bnd fun x => (R.ok x_least).bnd fun y => R.of (D.sub x y)).bnd fun x => (R.ok (D.int 1)).bnd fun y => R.of (D.addI x y)).bnd fun x => .ok [x]).bnd fun r => apI1 f__law_choice x_state r).bnd2 fun y c => .ok ((x, y), c)).bnd2 fun q c => (R.of (D.addI q.1 q.2)).bnd fun d => .ok (d, c)).bnd2 fun x_strands_1 c4 => (((R.ok x_strands_1).bnd fun x => ((((R.ok x_strands_1).bnd fun x => (((((R.ok x_letters).bnd fun x => (R.ok (D.int 1)).bnd fun y => R.of (D.addI x y)).bnd fun x => .ok [x]).bnd fun r => apI1 f__law_choice c4 r).bnd2 fun x c14 => ((R.ok []).bnd fun d => R.ok (d, c14)).bnd2 fun xs c' => .ok (x :: xs, c')).bnd2 fun xs c => .ok (x :: xs, c)).bnd2 fun ds c16 => (apI2 f__law_word c16 ds).bnd2 fun o l => .ok (o, (c16, l))).bnd2 fun x c19 => ((R.ok []).bnd fun d => R.ok (d, c19)).bnd2 fun xs c' => .ok (x :: xs, c')).bnd2 fun xs c => .ok (x :: xs, c)).bnd2 fun q c => (R.of ((fits q).map D.tup)).bnd fun d => .ok (d, c)).bnd2 fun d c21 => .ok (d, c21.2)
theorem ok__law_plait (T : Txt K mg A) : FnOk P w K mg base (L2.CX P w) 3 A.a__law_plait A.fd__law_plait ["state", "least", "most", "letters"] (spIO K A.ec 3 (apI3 f__law_plait)) := by
  refine fn_okIO T.F__law_plait sc__law_plait rfl fun cdv A' outer s H E hr g p_ x_state ds hd => ?_
  match ds, hd with
  | [x_least, x_most, x_letters], _ => show XB _ _ [] _ [some (.o true p_ (.l x_state)), some (.v x_least), some (.v x_most), some (.v x_letters), none] (f__law_plait x_state x_least x_most x_letters) _; unfold f__law_plait; exact (xb_letV (i := 4) (φ := (fun (c23 : List D) => ([some (.o true p_ (.l c23)), some (.v x_least), some (.v x_most), some (.v x_letters), none] : En))) g (fun x_strands_1 c4 => [some (.o true p_ (.l c4)), some (.v x_least), some (.v x_most), some (.v x_letters), some (.v x_strands_1)]) (xv_op o_add d_add (x2_pv (xp_var (i := 1) rfl) (xv_io (i := 0) g (ok__law_choice T) (hr.mono (by decide)) T.m__law_choice T.F__law_choice.kp T.b__law_choice (fun c3 => [some (.o true p_ (.l c3)), some (.v x_least), some (.v x_most), some (.v x_letters), none]) (xa_1 (xp_op o_add d_add (xp_op op_sub d_sub (xp_var (i := 2) rfl) (xp_var (i := 1) rfl)) xp_int)) lnI1))) fun x_strands_1 c4 => (xb_retIO (i := 0) (φ := (fun (c22 : (List D) × List D) => ([some (.o true p_ (.l c22.2)), some (.v x_least), some (.v x_most), some (.v x_letters), some (.v x_strands_1)] : En))) (fun c21 => c21.2) (xv_tup (xav_p (xp_var (i := 4) rfl) (xav_v (xv_callIO (i := 0) (φ := (fun (c18 : List D) => ([some (.o true p_ (.l c18)), some (.v x_least), some (.v x_most), some (.v x_letters), some (.v x_strands_1)] : En))) g (ok__law_word T) (hr.mono (by decide)) T.m__law_word T.F__law_word.kp T.b__law_word (fun c16 => c16) (fun c17 => [some (.o true p_ (.l c17.2)), some (.v x_least), some (.v x_most), some (.v x_letters), some (.v x_strands_1)]) (xav_p (xp_var (i := 4) rfl) (xav_v (xv_io (i := 0) g (ok__law_choice T) (hr.mono (by decide)) T.m__law_choice T.F__law_choice.kp T.b__law_choice (fun c13 => [some (.o true p_ (.l c13)), some (.v x_least), some (.v x_most), some (.v x_letters), some (.v x_strands_1)]) (xa_1 (xp_op o_add d_add (xp_var (i := 3) rfl) xp_int)) lnI1) fun c14 => xav_of (φ := (fun (c15 : List D) => ([some (.o true p_ (.l c15)), some (.v x_least), some (.v x_most), some (.v x_letters), some (.v x_strands_1)] : En))) (cc := c14) xa_nil)) lnI2) fun c19 => xav_of (φ := (fun (c20 : (List D) × List D) => ([some (.o true p_ (.l c20.2)), some (.v x_least), some (.v x_most), some (.v x_letters), some (.v x_strands_1)] : En))) (cc := c19) xa_nil)))))
theorem sc__law_flip : FnScope ["row", "there"] ["row"] (defScope s__law_flip) := ⟨rfl, rfl, rfl, by decide +kernel, rfl, by decide +kernel, by decide +kernel⟩
@[irreducible] def f__law_flip (x_row : D) : R D := ((((((R.ok x_row).bnd fun d => R.of (D.back d)).bnd fun d => R.of (D.seq d)).bnd fun ds => lcR (fun d1 => ((((R.ok x_row).bnd fun x => .ok [x]).bnd fun ds => R.of (D.len ds)).bnd fun x => (R.ok (D.int 1)).bnd fun y => R.of (D.sub x y)).bnd fun x => (R.ok d1).bnd fun y => R.of (D.sub x y)) ds).bnd fun z => .ok (D.lst z)).bnd fun x => .ok [x]).bnd fun ds => R.of (D.toTux ds)
theorem ok__law_flip (T : Txt K mg A) : FnOk P w K mg base (L2.CX P w) 1 A.a__law_flip A.fd__law_flip ["row"] (spR K A.ec (rP K) 1 (ap1 f__law_flip)) := by
  refine fn_ok T.F__law_flip sc__law_flip rfl fun cdv A' outer s H E hr g ds hd => ?_
  match ds, hd with
  | [x_row], _ => show XB _ _ [] _ [some (.v x_row), none] (f__law_flip x_row) _; unfold f__law_flip; exact (xb_ret (xp_callTy call_tuple_ofX d_tux (by rfl) T.n_tuple (by decide +kernel) (xa_1 (xn_xp (xn_lc (i := 1) (hblk := (blkOk_by (N := ["row", "there"]) (sc := defScope s__law_flip) (by decide +kernel))) g (xi_seq (xp_back (xp_var (i := 0) rfl))) (fun d1 => fun s0 H0 C0 cl0 fp0 => (xp_op op_sub d_sub (xp_op op_sub d_sub (xp_callB c_len d_len (by rfl) T.n_len (by decide +kernel) (xa_1 (xp_var (i := 0) rfl))) xp_int) (xp_var (i := 1) rfl))))))))
theorem sc_law : FnScope ["script", "plait", "twist", "count", "half", "power", "rows", "sides", "row"] ["script"] (defScope s_law) := ⟨rfl, rfl, rfl, by decide +kernel, rfl, by decide +kernel, by decide +kernel⟩
@[irreducible] def f_law (x_script : D) : R D := ((((R.ok x_script).bnd fun x => (R.ok (D.int 0)).bnd fun y => .ok [x, y]).bnd (ap2 f__law_state)).bnd fun c => ((R.ok (D.int 2)).bnd fun x => (R.ok (D.int 4)).bnd fun y => (R.ok (D.int 8)).bnd fun z => .ok [x, y, z]).bnd fun ds => ((apI3 f__law_plait) c ds).bnd2 fun o _ => .ok o).bnd fun x_plait_1 => ((R.ok []).bnd fun ds => R.of ((fits ds).map D.tup)).bnd fun x_twist_3 => ((((((R.ok x_plait_1).bnd fun x => (R.ok (D.int 0)).bnd fun y => R.of (D.ix x y)).bnd fun x => (R.ok (D.int 1)).bnd fun y => R.of (D.sub x y)).bnd fun x => (R.ok (D.int 0)).bnd fun y => ((R.ok (D.int 1)).bnd fun x => R.of (D.neg x)).bnd fun z => .ok [x, y, z]).bnd fun ds => R.of (rg3 ds)).bnd fun ds => foldR (fun (a5 : D) d6 => ((R.ok a5).bnd fun x => (((R.ok (D.int 1)).bnd fun x => ((R.ok d6).bnd fun x => (R.ok (D.int 1)).bnd fun y => R.of (D.addI x y)).bnd fun y => (R.of (D.toI x)).bnd fun i => (R.of (D.toI y)).bnd fun j => .ok (i, j)).bnd2 fun i j => (R.of (rgL i j)).bnd fun ds => .ok (D.tup ds)).bnd fun y => R.of (D.addI x y)).bnd fun x_twist_7 => .ok x_twist_7) x_twist_3 ds).bnd fun a9 => ((((R.ok x_plait_1).bnd fun x => (R.ok (D.int 0)).bnd fun y => R.of (D.ix x y)).bnd fun x => (R.ok a9).bnd fun y => .ok [x, y]).bnd fun ds => R.of ((fits ds).map D.tup)).bnd fun x_half_10 => R.bU2 (((R.ok x_plait_1).bnd fun x => .ok [x]).bnd (ap1 f_form_of)) fun x_power_12 x_rows_13 => ((((((R.ok x_rows_13).bnd fun d => R.of (D.seq d)).bnd fun ds => lcR (fun d17 => ((R.ok d17).bnd fun x => .ok [x]).bnd (ap1 f__law_flip)) ds).bnd fun z => .ok (D.lst z)).bnd fun x => .ok [x]).bnd fun ds => R.of (D.toTup ds)).bnd fun x_sides_15 => (((((R.ok x_half_10).bnd fun x => .ok [x]).bnd (ap1 f_form_of)).bnd fun x => (((R.ok (D.int 1)).bnd fun x => ((R.ok []).bnd fun ds => R.of ((fits ds).map D.tup)).bnd fun y => .ok [x, y]).bnd fun ds => R.of ((fits ds).map D.tup)).bnd fun y => R.of (D.ne x y)).bnd fun x => if x = true then .ok true else (((((R.ok x_half_10).bnd fun x => (R.ok x_plait_1).bnd fun y => .ok [x, y]).bnd (ap2 f_behind)).bnd fun x => .ok [x]).bnd (ap1 f_form_of)).bnd fun x => ((((R.ok x_power_12).bnd fun x => (R.ok (D.int 1)).bnd fun y => R.of (D.addI x y)).bnd fun x => (R.ok x_rows_13).bnd fun y => .ok [x, y]).bnd fun ds => R.of ((fits ds).map D.tup)).bnd fun y => R.of (D.ne x y)).bnd fun b => if b = true then R.ok (D.bl false) else ((((((R.ok x_plait_1).bnd fun x => (R.ok x_half_10).bnd fun y => .ok [x, y]).bnd (ap2 f_behind)).bnd fun x => .ok [x]).bnd (ap1 f_form_of)).bnd fun x => ((((R.ok x_power_12).bnd fun x => (R.ok (D.int 1)).bnd fun y => R.of (D.addI x y)).bnd fun x => (R.ok x_sides_15).bnd fun y => .ok [x, y]).bnd fun ds => R.of ((fits ds).map D.tup)).bnd fun y => R.of ((fun x y => (D.eq x y).map D.bl) x y)).bnd fun x => (R.of (D.bool x)).bnd fun t => if t = true then ((((((R.ok x_plait_1).bnd fun x => .ok [x]).bnd (ap1 f_flipped)).bnd fun x => .ok [x]).bnd (ap1 f_form_of)).bnd fun x => (((R.ok x_power_12).bnd fun x => (R.ok x_sides_15).bnd fun y => .ok [x, y]).bnd fun ds => R.of ((fits ds).map D.tup)).bnd fun y => R.of ((fun x y => (D.eq x y).map D.bl) x y)) else .ok (D.bl false)
theorem ok_law (T : Txt K mg A) : FnOk P w K mg base (L2.CX P w) 10 A.a_law A.fd_law ["script"] (spR K A.ec (rP K) 1 (ap1 f_law)) := by
  refine fn_ok T.F_law sc_law rfl fun cdv A' outer s H E hr g ds hd => ?_
  match ds, hd with
  | [x_script], _ => show XB _ _ [] _ [some (.v x_script), none, none, none, none, none, none, none, none] (f_law x_script) _; unfold f_law; exact (xb_let (i := 1) g (fun x_plait_1 => [some (.v x_script), some (.v x_plait_1), none, none, none, none, none, none, none]) (xp_ioT g (ok__law_plait T) (hr.mono (by decide)) T.m__law_plait T.F__law_plait.kp T.b__law_plait (xn_call g (ok__law_state T) (hr.mono (by decide)) T.m__law_state T.F__law_state.kp T.b__law_state (xa_2 (xp_var (i := 0) rfl) xp_int) lnA2) (xa_3 xp_int xp_int xp_int) lnI3) fun x_plait_1 => (xb_let (i := 2) g (fun x_twist_3 => [some (.v x_script), some (.v x_plait_1), some (.v x_twist_3), none, none, none, none, none, none]) (xp_tup xa_nil) fun x_twist_3 => (xb_seq (L := (fun (a5 : D) (e : En) => e = [some (.v x_script), some (.v x_plait_1), some (.v a5), none, none, none, none, none, none])) (xs_for (i := 3) (L := (fun (a5 : D) (e : En) => e = [some (.v x_script), some (.v x_plait_1), some (.v a5), none, none, none, none, none, none])) (a0 := x_twist_3) (e0 := [some (.v x_script), some (.v x_plait_1), some (.v x_twist_3), none, none, none, none, none, none]) (step := fun (a5 : D) d6 => ((R.ok a5).bnd fun x => (((R.ok (D.int 1)).bnd fun x => ((R.ok d6).bnd fun x => (R.ok (D.int 1)).bnd fun y => R.of (D.addI x y)).bnd fun y => (R.of (D.toI x)).bnd fun i => (R.of (D.toI y)).bnd fun j => .ok (i, j)).bnd2 fun i j => (R.of (rgL i j)).bnd fun ds => .ok (D.tup ds)).bnd fun y => R.of (D.addI x y)).bnd fun x_twist_7 => .ok x_twist_7) g (xi_range3 T.n_range (xa_3 (xp_op op_sub d_sub (xp_ix o_ix d_ix (fun _ _ => rfl) (xp_var (i := 1) rfl) xp_int) xp_int) xp_int (xp_un un_neg d_neg xp_int))) rfl (.k (.k (.k (.k (.k (.k (.k (.k (.k .nil))))))))) (by rintro a5 _ d6 rfl; exact (xb_let (i := 2) g (fun x_twist_7 => [some (.v x_script), some (.v x_plait_1), some (.v x_twist_7), some (.v d6), none, none, none, none, none]) (xp_op o_add d_add (xp_var (i := 2) rfl) (xp_trg g T.n_tuple (xr_2 T.n_range xp_int (xp_op o_add d_add (xp_var (i := 3) rfl) xp_int)))) fun x_twist_7 => (xb_end rfl (.k (.k (.k (.d (.k (.k (.k (.k (.k .nil))))))))))))) (by rintro a9 _ rfl; exact (xb_let (i := 4) g (fun x_half_10 => [some (.v x_script), some (.v x_plait_1), some (.v a9), none, some (.v x_half_10), none, none, none, none]) (xp_tup (xa_2 (xp_ix o_ix d_ix (fun _ _ => rfl) (xp_var (i := 1) rfl) xp_int) (xp_var (i := 2) rfl))) fun x_half_10 => (xb_two (i := 5) (j := 6) g (fun x_power_12 x_rows_13 => [some (.v x_script), some (.v x_plait_1), some (.v a9), none, some (.v x_half_10), some (.v x_power_12), some (.v x_rows_13), none, none]) (xp_call g (ok_form_of T) (hr.mono (by decide)) T.m_form_of T.F_form_of.kp T.b_form_of (xa_1 (xp_var (i := 1) rfl)) lnA1) fun x_power_12 x_rows_13 => (xb_let (i := 7) g (fun x_sides_15 => [some (.v x_script), some (.v x_plait_1), some (.v a9), none, some (.v x_half_10), some (.v x_power_12), some (.v x_rows_13), some (.v x_sides_15), none]) (xp_callTy call_tuple_of d_tup (by rfl) T.n_tuple (by decide +kernel) (xa_1 (xn_xp (xn_lc (i := 8) (hblk := (blkOk_by (N := ["script", "plait", "twist", "count", "half", "power", "rows", "sides", "row"]) (sc := defScope s_law) (by decide +kernel))) g (xi_seq (xp_var (i := 6) rfl)) (fun d17 => fun s0 H0 C0 cl0 fp0 => (xp_call (g.blk s0 H0 C0 cl0 fp0) (ok__law_flip T) (hr.mono (by decide)) T.m__law_flip T.F__law_flip.kp T.b__law_flip (xa_1 (xp_var (i := 8) rfl)) lnA1)))))) fun x_sides_15 => (xb_ifR (xt_w (xw_or (xt_cmp (o_ne hr.units) d_ne (nomark _) (xp_call g (ok_form_of T) (hr.mono (by decide)) T.m_form_of T.F_form_of.kp T.b_form_of (xa_1 (xp_var (i := 4) rfl)) lnA1) (xp_tup (xa_2 xp_int (xp_tup xa_nil)))) (xw_or1 (xt_cmp (o_ne hr.units) d_ne (nomark _) (xp_call g (ok_form_of T) (hr.mono (by decide)) T.m_form_of T.F_form_of.kp T.b_form_of (xa_1 (xp_call g (ok_behind T) (hr.mono (by decide)) T.m_behind T.F_behind.kp T.b_behind (xa_2 (xp_var (i := 4) rfl) (xp_var (i := 1) rfl)) lnA2)) lnA1) (xp_tup (xa_2 (xp_op o_add d_add (xp_var (i := 5) rfl) xp_int) (xp_var (i := 6) rfl))))))) (xb_ret xp_bl) (xb_ret (xp_and (xp_cmp (o_eq hr.units) d_eq (nomark _) (xp_call g (ok_form_of T) (hr.mono (by decide)) T.m_form_of T.F_form_of.kp T.b_form_of (xa_1 (xp_call g (ok_behind T) (hr.mono (by decide)) T.m_behind T.F_behind.kp T.b_behind (xa_2 (xp_var (i := 1) rfl) (xp_var (i := 4) rfl)) lnA2)) lnA1) (xp_tup (xa_2 (xp_op o_add d_add (xp_var (i := 5) rfl) xp_int) (xp_var (i := 7) rfl)))) (xp_one (xp_cmp (o_eq hr.units) d_eq (nomark _) (xp_call g (ok_form_of T) (hr.mono (by decide)) T.m_form_of T.F_form_of.kp T.b_form_of (xa_1 (xp_call g (ok_flipped T) (hr.mono (by decide)) T.m_flipped T.F_flipped.kp T.b_flipped (xa_1 (xp_var (i := 1) rfl)) lnA1)) lnA1) (xp_tup (xa_2 (xp_var (i := 5) rfl) (xp_var (i := 7) rfl)))))))))))))))
end
/-! orders of places: plain facts -/
abbrev Pm (n : Nat) (r : List Nat) : Prop := r.Perm (List.range n)
theorem Pm.len {n : Nat} {r : List Nat} (h : Pm n r) : r.length = n := by have := h.length_eq; simpa using this
theorem Pm.nd {n : Nat} {r : List Nat} (h : Pm n r) : r.Nodup := h.nodup_iff.mpr List.nodup_range
theorem Pm.lt {n : Nat} {r : List Nat} (h : Pm n r) {x : Nat} (hx : x ∈ r) : x < n := List.mem_range.mp (h.mem_iff.mp hx)
theorem Pm.mem {n : Nat} {r : List Nat} (h : Pm n r) {x : Nat} (hx : x < n) : x ∈ r := h.mem_iff.mpr (List.mem_range.mpr hx)
/-- two neighbouring numbers exchanged -/
def tr (j x : Nat) : Nat := if x = j then j + 1 else if x = j + 1 then j else x
theorem tr_tr (j x : Nat) : tr j (tr j x) = x := by unfold tr; (repeat' split) <;> omega
theorem tr_inj {j x y : Nat} (h : tr j x = tr j y) : x = y := by rw [← tr_tr j x, h, tr_tr]
theorem tr_lt {j n x : Nat} (hj : j + 1 < n) (hx : x < n) : tr j x < n := by unfold tr; (repeat' split) <;> omega
def sv (j : Nat) (r : List Nat) : List Nat := r.map (tr j)
def sp : Nat → List Nat → List Nat
  | 0, x :: y :: r => y :: x :: r
  | j + 1, x :: r => x :: sp j r
  | _, r => r
/-- a fall at a place -/
def fa : Nat → List Nat → Bool
  | 0, x :: y :: _ => decide (y < x)
  | j + 1, _ :: r => fa j r
  | _, _ => false
def up (j : Nat) (r : List Nat) : Bool := decide (r.idxOf j < r.idxOf (j + 1))
/-- how many falls there are in all -/
def inv : List Nat → Nat
  | [] => 0
  | x :: r => r.countP (fun y => decide (y < x)) + inv r
theorem sv_sv (j : Nat) (r : List Nat) : sv j (sv j r) = r := by
  unfold sv
  rw [List.map_map]
  have : (tr j ∘ tr j) = id := funext fun x => tr_tr j x
  rw [this, List.map_id]
theorem sv_len (j : Nat) (r : List Nat) : (sv j r).length = r.length := List.length_map _
theorem sp_perm : ∀ (j : Nat) (r : List Nat), (sp j r).Perm r
  | 0, [] => .refl _
  | 0, [x] => .refl _
  | 0, x :: y :: r => .swap x y r
  | j + 1, [] => .refl _
  | j + 1, x :: r => (sp_perm j r).cons x
theorem sp_len (j : Nat) (r : List Nat) : (sp j r).length = r.length := (sp_perm j r).length_eq
theorem Pm.sp {n j : Nat} {r : List Nat} (h : Pm n r) : Pm n (sp j r) := (sp_perm j r).trans h
theorem Pm.sv {n j : Nat} {r : List Nat} (hj : j + 1 < n) (h : Pm n r) : Pm n (sv j r) := by
  refine (h.map (tr j)).trans ?_
  refine (List.perm_ext_iff_of_nodup ?_ List.nodup_range).mpr fun x => ?_
  · exact List.pairwise_map.mpr (List.nodup_range.imp fun h e => h (tr_inj e))
  · rw [List.mem_map, List.mem_range]
    constructor
    · rintro ⟨y, hy, rfl⟩
      exact tr_lt hj (List.mem_range.mp hy)
    · intro hx
      exact ⟨tr j x, List.mem_range.mpr (tr_lt hj hx), tr_tr j x⟩
theorem inv_sp : ∀ (j : Nat) (r : List Nat), fa j r = true → inv (sp j r) + 1 = inv r
  | 0, [], h => by simp [fa] at h
  | 0, [x], h => by simp [fa] at h
  | 0, x :: y :: r, h => by
    have h : y < x := by simpa [fa] using h
    have h2 : ¬ x < y := by omega
    simp only [sp, inv, List.countP_cons, h, h2, decide_true, decide_false]
    simp
    omega
  | j + 1, [], h => by simp [fa] at h
  | j + 1, x :: r, h => by
    have h : fa j r = true := h
    have := inv_sp j r h
    show List.countP _ (Lw.sp j r) + inv (Lw.sp j r) + 1 = _
    rw [(sp_perm j r).countP_eq]
    show _ = List.countP _ r + inv r
    omega
theorem cnt_sv {j x : Nat} (h1 : x ≠ j) (h2 : x ≠ j + 1) (r : List Nat) : (sv j r).countP (fun y => decide (y < tr j x)) = r.countP (fun y => decide (y < x)) := by
  have e : tr j x = x := by unfold tr; rw [if_neg h1, if_neg h2]
  rw [e]
  unfold sv
  rw [List.countP_map]
  refine List.countP_congr fun y _ => ?_
  simp only [Function.comp, decide_eq_true_eq]
  unfold tr
  (repeat' split) <;> omega
theorem inv_sv0 {j : Nat} : ∀ r : List Nat, j ∉ r → inv (sv j r) = inv r
  | [], _ => rfl
  | x :: r, h => by
    have h1 : x ≠ j := fun e => h (by rw [e]; exact List.mem_cons_self)
    have h2 : j ∉ r := fun e => h (List.mem_cons_of_mem _ e)
    show List.countP _ (sv j r) + inv (sv j r) = List.countP _ r + inv r
    rw [inv_sv0 r h2]
    congr 1
    unfold sv
    rw [List.countP_map]
    refine List.countP_congr fun y hy => ?_
    have hy : y ≠ j := fun e => h2 (by rw [← e]; exact hy)
    simp only [Function.comp, decide_eq_true_eq]
    unfold tr
    (repeat' split) <;> omega
theorem up_cons {j x : Nat} {r : List Nat} (h1 : x ≠ j) (h2 : x ≠ j + 1) : up j (x :: r) = up j r := by
  unfold up
  rw [List.idxOf_cons, List.idxOf_cons]
  rw [show (x == j) = false by simp [h1], show (x == j + 1) = false by simp [h2], cond_false, cond_false]
  exact decide_eq_decide.mpr (by omega)
theorem inv_sv {j : Nat} : ∀ r : List Nat, r.Nodup → j + 1 ∈ r → up j r = true → inv (sv j r) = inv r + 1
  | [], _, hm, _ => by cases hm
  | x :: r, nd, hm, hu => by
    obtain ⟨nx, nd⟩ := List.nodup_cons.mp nd
    by_cases h1 : x = j
    · subst h1
      have hm : x + 1 ∈ r := by
        rcases List.mem_cons.mp hm with e | e
        · omega
        · exact e
      show List.countP _ (sv x r) + inv (sv x r) = List.countP _ r + inv r + 1
      rw [inv_sv0 r nx]
      have e : tr x x = x + 1 := by unfold tr; rw [if_pos rfl]
      rw [e]
      have key : ∀ r : List Nat, x ∉ r → r.Nodup → (sv x r).countP (fun y => decide (y < x + 1)) = r.countP (fun y => decide (y < x)) + r.count (x + 1) := by
        intro r
        induction r with
        | nil => intro _ _; rfl
        | cons y r ih =>
          intro h hn
          obtain ⟨hy, hn⟩ := List.nodup_cons.mp hn
          have hyx : y ≠ x := fun e => h (by rw [e]; exact List.mem_cons_self)
          have := ih (fun e => h (List.mem_cons_of_mem _ e)) hn
          show List.countP _ (tr x y :: sv x r) = _
          rw [List.countP_cons, this, List.countP_cons, List.count_cons]
          unfold tr
          rw [if_neg hyx]
          by_cases c : y = x + 1
          · subst c
            simp only [if_true, beq_self_eq_true]
            rw [if_pos (by simp), if_neg (by simp)]
            omega
          · rw [if_neg c]
            have : (y == x + 1) = false := by simp [c]
            rw [this]
            by_cases d : y < x
            · simp [d, show y < x + 1 by omega]; omega
            · simp [d, show ¬ y < x + 1 by omega]
      rw [key r nx nd, List.Nodup.count nd, if_pos hm]
      omega
    · by_cases h2 : x = j + 1
      · subst h2
        exfalso
        unfold up at hu
        rw [List.idxOf_cons, List.idxOf_cons] at hu
        simp at hu
      · rw [up_cons h1 h2] at hu
        have hm : j + 1 ∈ r := by
          rcases List.mem_cons.mp hm with e | e
          · exact absurd e.symm h2
          · exact e
        show List.countP _ (sv j r) + inv (sv j r) = List.countP _ r + inv r + 1
        rw [cnt_sv h1 h2, inv_sv r nd hm hu]
        omega
/-- falls, weighed by places -/
def ms : Nat → List (List Nat) → Nat
  | _, [] => 0
  | k, r :: rs => k * inv r + ms (k + 1) rs
def rw1 (rs : List (List Nat)) (i : Nat) : List Nat := rs.getD i []
/-- a letter goes from an order to the one ahead -/
def mvd (rs : List (List Nat)) (i j : Nat) : List (List Nat) := (rs.set i (sv j (rw1 rs i))).set (i + 1) (sp j (rw1 rs (i + 1)))
theorem ms_mvd {n j : Nat} (hj : j + 1 < n) : ∀ (i k : Nat) (rs : List (List Nat)), (∀ r ∈ rs, Pm n r) → i + 1 < rs.length → fa j (rw1 rs (i + 1)) = true → up j (rw1 rs i) = true → ms k (mvd rs i j) + 1 = ms k rs
  | 0, k, a :: b :: rs, h, _, h1, h2 => by
    have h1 : fa j b = true := h1
    have h2 : up j a = true := h2
    have pa := h a (by simp)
    have e1 := inv_sp j b h1
    have e2 := inv_sv a pa.nd (pa.mem hj) h2
    show k * inv (sv j a) + ((k + 1) * inv (sp j b) + ms (k + 1 + 1) rs) + 1 = k * inv a + ((k + 1) * inv b + ms (k + 1 + 1) rs)
    rw [e2, ← e1, Nat.mul_add, Nat.mul_add, Nat.add_mul]
    omega
  | i + 1, k, r :: rs, h, hi, h1, h2 => by
    have := ms_mvd hj i (k + 1) rs (fun x hx => h x (List.mem_cons_of_mem _ hx)) (by simpa using hi) h1 h2
    show k * inv r + ms (k + 1) (mvd rs i j) + 1 = k * inv r + ms (k + 1) rs
    omega
  | 0, k, [], h, hi, _, _ => by simp at hi
  | 0, k, [a], h, hi, _, _ => by simp at hi
  | i + 1, k, [], h, hi, _, _ => by simp at hi
theorem mvd_len (rs : List (List Nat)) (i j : Nat) : (mvd rs i j).length = rs.length := by simp [mvd]
theorem mvd_pm {n i j : Nat} {rs : List (List Nat)} (hj : j + 1 < n) (h : ∀ r ∈ rs, Pm n r) (hi : i + 1 < rs.length) : ∀ r ∈ mvd rs i j, Pm n r := by
  intro r hr
  have at_ : ∀ k, k < rs.length → Pm n (rw1 rs k) := fun k hk => by
    have : rw1 rs k = rs[k] := by simp [rw1, hk]
    rw [this]; exact h _ (List.getElem_mem _)
  rcases List.mem_or_eq_of_mem_set hr with hr | rfl
  · rcases List.mem_or_eq_of_mem_set hr with hr | rfl
    · exact h r hr
    · exact (at_ i (by omega)).sv hj
  · exact (at_ (i + 1) hi).sp
theorem rw_mvd {i j k : Nat} {rs : List (List Nat)} (hi : i + 1 < rs.length) : rw1 (mvd rs i j) k = if k = i then sv j (rw1 rs i) else if k = i + 1 then sp j (rw1 rs (i + 1)) else rw1 rs k := by
  unfold mvd rw1
  by_cases c1 : k = i
  · subst c1
    rw [if_pos rfl, List.getD_eq_getElem?_getD, List.getElem?_set_ne (by omega), List.getElem?_set_self (by omega)]
    rfl
  · rw [if_neg c1]
    by_cases c2 : k = i + 1
    · subst c2
      rw [if_pos rfl, List.getD_eq_getElem?_getD, List.getElem?_set_self (by simpa using hi)]
      rfl
    · rw [if_neg c2, List.getD_eq_getElem?_getD, List.getElem?_set_ne (by omega), List.getElem?_set_ne (by omega), ← List.getD_eq_getElem?_getD]
/-- no letter can go from b to a -/
def Std (n : Nat) (a b : List Nat) : Prop := ∀ j, j + 1 < n → ¬ (fa j b = true ∧ up j a = true)
/-- a row of moves -/
inductive Mvs (n : Nat) : List (List Nat) → List (List Nat) → Prop
  | refl (rs : List (List Nat)) : Mvs n rs rs
  | step {rs ts : List (List Nat)} (i j : Nat) : i + 1 < rs.length → j + 1 < n → fa j (rw1 rs (i + 1)) = true → up j (rw1 rs i) = true → Mvs n (mvd rs i j) ts → Mvs n rs ts
/-- the first letter that can go, counted from one; else nought -/
def mvl (a b : List Nat) (n : Nat) : Nat := match (List.range (n - 1)).find? (fun j => fa j b && up j a) with
  | some j => j + 1
  | none => 0
theorem mvl_some {a b : List Nat} {n : Nat} (h : mvl a b n ≠ 0) : ∃ j, mvl a b n = j + 1 ∧ j + 1 < n ∧ fa j b = true ∧ up j a = true := by
  unfold mvl at h ⊢
  split at h
  · rename_i j e
    have h1 := List.find?_some e
    have h2 := List.mem_range.mp (List.mem_of_find?_eq_some e)
    simp only [Bool.and_eq_true] at h1
    exact ⟨j, rfl, by omega, h1.1, h1.2⟩
  · exact absurd rfl h
theorem mvl_none {a b : List Nat} {n : Nat} : mvl a b n = 0 ↔ Std n a b := by
  unfold mvl
  cases e : (List.range (n - 1)).find? (fun j => fa j b && up j a) with
  | some j =>
    have h1 := List.find?_some e
    have h2 := List.mem_range.mp (List.mem_of_find?_eq_some e)
    simp only [Bool.and_eq_true] at h1
    exact ⟨fun h => by simp at h, fun h => absurd h1 (h j (by omega))⟩
  | none =>
    refine ⟨fun _ j hj c => ?_, fun _ => rfl⟩
    have := List.find?_eq_none.mp e j (List.mem_range.mpr (by omega))
    simp [c.1, c.2] at this
/-! the law's own settling -/
def oL (r : List Nat) : List D := r.map fun x : Nat => D.int (x : Nat)
def oT (r : List Nat) : D := .tux (oL r)
theorem oL_len (r : List Nat) : (oL r).length = r.length := List.length_map _
theorem at_oL {r : List Nat} {k : Nat} (h : k < r.length) : atI (oL r) (k : Nat) = some (.int (r.getD k 0 : Nat)) := by
  refine atI_k ?_
  unfold oL
  rw [List.getElem?_map, List.getElem?_eq_getElem h]
  simp [h]
theorem fa_at : ∀ (j : Nat) (b : List Nat), j + 1 < b.length → fa j b = decide (b.getD (j + 1) 0 < b.getD j 0)
  | 0, x :: y :: r, _ => rfl
  | j + 1, x :: r, h => by
    show fa j r = decide (r.getD (j + 1) 0 < r.getD j 0)
    exact fa_at j r (by simpa using h)
  | 0, [], h => by simp at h
  | 0, [x], h => by simp at h
  | j + 1, [], h => by simp at h
theorem idx_o {a : List Nat} {x : Nat} (h : x ∈ a) : idxD (oL a) (.int (x : Nat)) = some (.int (a.idxOf x : Nat)) := by
  have e : intsD (oL a) = some (a.map fun x => ((x : Nat) : Int)) := by
    have := Wk.ints_map (a.map fun x => ((x : Nat) : Int))
    rw [List.map_map] at this
    exact this
  unfold idxD
  rw [e]
  have key : ∀ l : List Nat, x ∈ l → idxI (l.map fun x => ((x : Nat) : Int)) (x : Nat) = some (l.idxOf x) := by
    intro l
    induction l with
    | nil => intro h; cases h
    | cons y l ih =>
      intro h
      rw [List.map_cons, idxI, List.idxOf_cons]
      by_cases c : y = x
      · subst c; simp
      · have h : x ∈ l := by
          rcases List.mem_cons.mp h with e | e
          · exact absurd e.symm c
          · exact e
        rw [if_neg (by omega), ih h, show (y == x) = false by simp [c]]
        rfl
  show Option.map _ (idxI _ _) = _
  rw [key a h]
  rfl
theorem rg2_o {n : Nat} (h : n < 1000000) : rg2 (.int 1) (.int (n : Nat)) = some ((List.range (n - 1)).map fun k => D.int ((k + 1 : Nat) : Int)) := by
  rw [s_rg2 ⟨by omega, by omega⟩ ⟨by omega, by omega⟩]
  unfold upD
  congr 1
  rw [show (((n : Nat) : Int) - 1).toNat = n - 1 by omega]
  refine List.map_congr_left fun k _ => ?_
  congr 1
  omega
theorem loop_find {β : Type} {step : Unit → D → R (Out Unit β)} {p : Nat → Bool} {g : Nat → D} {v : Nat → β} : ∀ l : List Nat, (∀ x ∈ l, step () (g x) = .ok (if p x = true then .rt (v x) else .nx ())) → loopR step () (l.map g) = .ok (match l.find? p with | some x => .rt (v x) | none => .nx ())
  | [], _ => rfl
  | x :: l, h => by
    show ((step () (g x)).bnd _) = _
    rw [h x (by simp), bnd_ok, List.find?_cons]
    cases c : p x with
    | true => rfl
    | false => exact loop_find l fun y hy => h y (by simp [hy])
theorem sp_cut : ∀ (j : Nat) (r : List Nat), j + 1 < r.length → sp j r = r.take j ++ [r.getD (j + 1) 0, r.getD j 0] ++ r.drop (j + 2)
  | 0, x :: y :: r, _ => by simp [sp]
  | j + 1, x :: r, h => by
    have := sp_cut j r (by simpa using h)
    show x :: Lw.sp j r = _
    rw [this]
    simp
  | 0, [], h => by simp at h
  | 0, [x], h => by simp at h
  | j + 1, [], h => by simp at h
theorem cutX_to {r : List Nat} {k : Nat} (h : k ≤ r.length) : D.cutX (.tux (oL r)) none (some (k : Nat)) = some (.tux (oL (r.take k))) := by
  show some (D.tux (cutD (r.map _) none (some (k : Int)))) = _
  have : D.cut (.tup (r.map fun x : Nat => D.int (x : Nat))) none (some (k : Int)) = some (.tup ((r.take k).map fun x : Nat => D.int (x : Nat))) := cut_to
  have e : cutD (r.map fun x : Nat => D.int (x : Nat)) none (some (k : Int)) = (r.take k).map fun x : Nat => D.int (x : Nat) := by
    have z := Option.some.inj (show some (D.tup (cutD (r.map fun x : Nat => D.int (x : Nat)) none (some (k : Int)))) = _ from this)
    injection z
  rw [e]; rfl
theorem cutX_from {r : List Nat} {k : Nat} (h : k ≤ r.length) : D.cutX (.tux (oL r)) (some (k : Nat)) none = some (.tux (oL (r.drop k))) := by
  show some (D.tux (cutD (r.map _) (some (k : Int)) none)) = _
  have : D.cut (.tup (r.map fun x : Nat => D.int (x : Nat))) (some (k : Int)) none = some (.tup ((r.drop k).map fun x : Nat => D.int (x : Nat))) := cut_from h
  have e : cutD (r.map fun x : Nat => D.int (x : Nat)) (some (k : Int)) none = (r.drop k).map fun x : Nat => D.int (x : Nat) := by
    have z := Option.some.inj (show some (D.tup (cutD (r.map fun x : Nat => D.int (x : Nat)) (some (k : Int)) none)) = _ from this)
    injection z
  rw [e]; rfl
theorem set_o {rs : List (List Nat)} {k : Nat} {r : List Nat} (hk : k < rs.length) : setD (rs.map oT) (.int (k : Nat)) (oT r) = some ((rs.set k r).map oT) := by
  unfold setD
  have : ixN (rs.map oT).length (k : Nat) = some k := by
    unfold ixN
    rw [if_pos (by omega), if_pos (by rw [List.length_map]; omega)]
    simp
  show Option.map _ (ixN _ _) = _
  rw [this]
  simp [List.map_set]
theorem at_o {rs : List (List Nat)} {k : Nat} (hk : k < rs.length) : D.ix (.lst (rs.map oT)) (.int (k : Nat)) = some (oT (rw1 rs k)) := by
  refine atI_k ?_
  rw [List.getElem?_map, List.getElem?_eq_getElem hk]
  simp [rw1, hk]
theorem rw1_pm {n : Nat} {rs : List (List Nat)} (h : ∀ r ∈ rs, Pm n r) {k : Nat} (hk : k < rs.length) : Pm n (rw1 rs k) := by
  have : rw1 rs k = rs[k] := by simp [rw1, hk]
  rw [this]; exact h _ (List.getElem_mem _)
/-- each pair is settled -/
def Sts (n : Nat) (rs : List (List Nat)) : Prop := ∀ i, i + 1 < rs.length → Std n (rw1 rs i) (rw1 rs (i + 1))
theorem while_Z {α : Type} {t : α → R Bool} {s : α → R α} {n : Nat} {a : α} : whileN t s (n + 1) a = (t a).bnd fun b => if b = true then (s a).bnd fun a' => whileN t s n a' else .ok a := by exact id rfl
theorem idx_get {a : List Nat} (nd : a.Nodup) {k x : Nat} (hk : k < a.length) (hx : x ∈ a) : x = a.getD k 0 ↔ a.idxOf x = k := by
  have h1 := List.idxOf_lt_length_iff.mpr hx
  have h2 : a[a.idxOf x] = x := List.getElem_idxOf h1
  have e : a.getD k 0 = a[k] := by simp [hk]
  rw [e]
  constructor
  · intro h
    exact (List.getElem_inj nd).mp (by rw [h2]; exact h)
  · intro h
    subst h
    exact h2.symm
/-! plain orders stand behind, half twists ahead -/
theorem sorted_eq {n : Nat} {b : List Nat} (hb : Pm n b) (h : b.Pairwise (· ≤ ·)) : b = List.range n := by
  have e : (b.map fun x : Nat => ((x : Nat) : Int)) = (List.range n).map fun x : Nat => ((x : Nat) : Int) := by
    refine srt_eq (hb.map _) ?_ ?_
    · exact List.pairwise_map.mpr (h.imp fun h => by omega)
    · exact List.pairwise_map.mpr (List.pairwise_lt_range.imp fun h => by omega)
  exact (List.map_inj_right fun x y h => by omega).mp e
theorem nofall_sorted : ∀ b : List Nat, (∀ j, fa j b = false) → b.Pairwise (· ≤ ·)
  | [], _ => .nil
  | [x], _ => by simp
  | x :: y :: r, h => by
    have ih := nofall_sorted (y :: r) fun j => h (j + 1)
    have h0 : ¬ y < x := of_decide_eq_false (show decide (y < x) = false from h 0)
    refine List.pairwise_cons.mpr ⟨fun z hz => ?_, ih⟩
    rcases List.mem_cons.mp hz with rfl | hz
    · omega
    · have := (List.pairwise_cons.mp ih).1 z hz
      omega
theorem fa_out : ∀ (j : Nat) (b : List Nat), b.length ≤ j + 1 → fa j b = false
  | 0, [], _ => rfl
  | 0, [x], _ => rfl
  | 0, x :: y :: r, h => by simp at h
  | j + 1, [], _ => rfl
  | j + 1, x :: r, h => fa_out j r (by simpa using h)
theorem up_range {n j : Nat} (hj : j + 1 < n) : up j (List.range n) = true := by
  have e : ∀ k, k < n → (List.range n).idxOf k = k := fun k hk => (idx_get List.nodup_range (k := k) (x := k) (by simpa using hk) (List.mem_range.mpr hk)).mp (by simp [hk])
  unfold up
  rw [e j (by omega), e (j + 1) hj]
  simp
theorem std_plain {n : Nat} {b : List Nat} (hb : Pm n b) (h : Std n (List.range n) b) : b = List.range n := by
  refine sorted_eq hb (nofall_sorted b fun j => ?_)
  by_cases c : j + 1 < n
  · cases e : fa j b with
    | false => rfl
    | true => exact absurd ⟨e, up_range c⟩ (h j c)
  · exact fa_out j b (by rw [hb.len]; omega)
theorem fa_half {n j : Nat} (hj : j + 1 < n) : fa j (List.range n).reverse = true := by
  rw [fa_at j _ (by simpa using hj)]
  refine decide_eq_true ?_
  have h1 : (List.range n).reverse.getD (j + 1) 0 = n - 1 - (j + 1) := by simp [hj]
  have h2 : (List.range n).reverse.getD j 0 = n - 1 - j := by simp [show j < n by omega]
  rw [h1, h2]; omega
theorem std_half {n : Nat} {a : List Nat} (ha : Pm n a) (h : Std n a (List.range n).reverse) : a = (List.range n).reverse := by
  have dn : ∀ j, j + 1 < n → a.idxOf (j + 1) < a.idxOf j := fun j hj => by
    have : up j a = false := by
      cases e : up j a with
      | false => rfl
      | true => exact absurd ⟨fa_half hj, e⟩ (h j hj)
    unfold up at this
    have h0 := of_decide_eq_false this
    have ne : a.idxOf j ≠ a.idxOf (j + 1) := fun e => by
      have h1 := List.idxOf_lt_length_iff.mpr (ha.mem (show j < n by omega))
      have h2 := List.idxOf_lt_length_iff.mpr (ha.mem hj)
      have e1 : a[a.idxOf j] = j := List.getElem_idxOf h1
      have e2 : a[a.idxOf (j + 1)] = j + 1 := List.getElem_idxOf h2
      have : a[a.idxOf j] = a[a.idxOf (j + 1)] := by congr 1
      omega
    omega
  have far : ∀ d x, x + d + 1 < n → a.idxOf (x + d + 1) < a.idxOf x := fun d => by
    induction d with
    | zero => intro x hx; exact dn x hx
    | succ d ih =>
      intro x hx
      have h1 := dn (x + d + 1) (by omega)
      have h2 := ih x (by omega)
      have e : x + (d + 1) + 1 = x + d + 1 + 1 := by omega
      rw [e]; omega
  have pw : a.reverse.Pairwise (· ≤ ·) := by
    rw [List.pairwise_reverse]
    rw [List.pairwise_iff_getElem]
    intro i j hi hj hij
    have mi := ha.lt (List.getElem_mem hi)
    have mj := ha.lt (List.getElem_mem hj)
    have ei : a.idxOf a[i] = i := (idx_get ha.nd hi (List.getElem_mem hi)).mp (by simp [hi])
    have ej : a.idxOf a[j] = j := (idx_get ha.nd hj (List.getElem_mem hj)).mp (by simp [hj])
    by_cases c : a[i] < a[j]
    · have := far (a[j] - a[i] - 1) a[i] (by omega)
      rw [show a[i] + (a[j] - a[i] - 1) + 1 = a[j] by omega, ei, ej] at this
      omega
    · omega
  have := sorted_eq (a.reverse_perm.trans ha) pw
  rw [← this, List.reverse_reverse]
/-- settled, pair by pair -/
def StR (n : Nat) : List (List Nat) → Prop
  | a :: b :: rs => Std n a b ∧ StR n (b :: rs)
  | _ => True
theorem sts_r {n : Nat} : ∀ rs : List (List Nat), Sts n rs → StR n rs
  | [], _ => trivial
  | [_], _ => trivial
  | a :: b :: rs, h => ⟨h 0 (by simp), sts_r (b :: rs) fun i hi => h (i + 1) (by simpa using hi)⟩
theorem r_sts {n : Nat} : ∀ rs : List (List Nat), StR n rs → Sts n rs
  | [], _ => fun i hi => by simp at hi
  | [_], _ => fun i hi => by simp at hi
  | a :: b :: rs, h => fun i hi => by
    cases i with
    | zero => exact h.1
    | succ i => exact r_sts (b :: rs) h.2 i (by simpa using hi)
theorem all_plain {n : Nat} : ∀ rs : List (List Nat), (∀ r ∈ rs, Pm n r) → StR n (List.range n :: rs) → ∀ r ∈ rs, r = List.range n
  | [], _, _, r, hr => by cases hr
  | b :: rs, hp, h, r, hr => by
    have e := std_plain (hp b (by simp)) h.1
    rcases List.mem_cons.mp hr with rfl | hr
    · exact e
    · refine all_plain rs (fun x hx => hp x (by simp [hx])) ?_ r hr
      rw [← e]; exact h.2
/-! settling ends in one place only -/
theorem sp_at : ∀ (j : Nat) (r : List Nat) (i : Nat), j + 1 < r.length → (sp j r).getD i 0 = r.getD (tr j i) 0
  | 0, x :: y :: r, 0, _ => rfl
  | 0, x :: y :: r, 1, _ => rfl
  | 0, x :: y :: r, i + 2, _ => by
    show _ = List.getD _ (tr 0 (i + 2)) 0
    rw [show tr 0 (i + 2) = i + 2 by unfold tr; (repeat' split) <;> omega]; rfl
  | j + 1, x :: r, 0, _ => by
    rw [show tr (j + 1) 0 = 0 by unfold tr; (repeat' split) <;> omega]; rfl
  | j + 1, x :: r, i + 1, h => by
    rw [show tr (j + 1) (i + 1) = tr j i + 1 by unfold tr; (repeat' split) <;> omega]
    exact sp_at j r i (by simpa using h)
  | 0, [], _, h => by simp at h
  | 0, [x], _, h => by simp at h
  | j + 1, [], _, h => by simp at h
theorem sv_at {j i : Nat} {r : List Nat} (h : i < r.length) : (sv j r).getD i 0 = tr j (r.getD i 0) := by
  simp [sv, h]
theorem sv_ix (j x : Nat) : ∀ r : List Nat, (sv j r).idxOf x = r.idxOf (tr j x)
  | [] => rfl
  | y :: r => by
    show (tr j y :: sv j r).idxOf x = _
    rw [List.idxOf_cons, List.idxOf_cons, sv_ix j x r]
    have : (tr j y == x) = (y == tr j x) := by
      rw [Bool.eq_iff_iff, beq_iff_eq, beq_iff_eq]
      constructor
      · intro h; rw [← h, tr_tr]
      · intro h; rw [h, tr_tr]
    rw [this]
theorem ix_at {r : List Nat} (nd : r.Nodup) {i : Nat} (h : i < r.length) : r.idxOf (r.getD i 0) = i := by
  have e : r.getD i 0 = r[i] := by simp [h]
  have h1 := List.idxOf_lt_length_iff.mpr (List.getElem_mem h)
  rw [e]
  exact (List.getElem_inj nd).mp (List.getElem_idxOf h1)
theorem at_ix {r : List Nat} {x : Nat} (h : x ∈ r) : r.getD (r.idxOf x) 0 = x := by
  have h1 := List.idxOf_lt_length_iff.mpr h
  have : r[r.idxOf x] = x := List.getElem_idxOf h1
  simp [h1]
theorem Pm.at_lt {n i : Nat} {r : List Nat} (h : Pm n r) (hi : i < n) : r.getD i 0 < n := by
  have hl := h.len
  have e : r.getD i 0 = r[i]'(by omega) := by simp [show i < r.length by omega]
  rw [e]; exact h.lt (List.getElem_mem _)
theorem Pm.ix_lt {n x : Nat} {r : List Nat} (h : Pm n r) (hx : x < n) : r.idxOf x < n := by
  have := List.idxOf_lt_length_iff.mpr (h.mem hx)
  rw [h.len] at this; exact this
theorem Pm.ixat {n i : Nat} {r : List Nat} (h : Pm n r) (hi : i < n) : r.idxOf (r.getD i 0) = i := ix_at h.nd (by rw [h.len]; exact hi)
theorem Pm.atix {n x : Nat} {r : List Nat} (h : Pm n r) (hx : x < n) : r.getD (r.idxOf x) 0 = x := at_ix (h.mem hx)
theorem Pm.ext {n : Nat} {r t : List Nat} (h : Pm n r) (h2 : Pm n t) (he : ∀ i, i < n → r.getD i 0 = t.getD i 0) : r = t := by
  refine List.ext_getElem (by rw [h.len, h2.len]) fun i h3 h4 => ?_
  have := he i (by rw [← h.len]; exact h3)
  simpa [h3, h4] using this
theorem Pm.sp_ix {n j x : Nat} {r : List Nat} (h : Pm n r) (hj : j + 1 < n) (hx : x < n) : (Lw.sp j r).idxOf x = tr j (r.idxOf x) := by
  have h2 : Pm n (Lw.sp j r) := h.sp
  have hi := h.ix_lt hx
  have hl := h.len
  have e : (Lw.sp j r).getD (tr j (r.idxOf x)) 0 = x := by
    rw [sp_at j r _ (by omega), tr_tr, h.atix hx]
  conv => lhs; rw [← e]
  exact h2.ixat (tr_lt hj hi)
theorem up_iff {j : Nat} {r : List Nat} : up j r = true ↔ r.idxOf j < r.idxOf (j + 1) := by
  unfold up; exact decide_eq_true_iff
theorem Pm.fa_iff {n j : Nat} {r : List Nat} (h : Pm n r) (hj : j + 1 < n) : fa j r = true ↔ r.getD (j + 1) 0 < r.getD j 0 := by
  rw [fa_at j r (by rw [h.len]; exact hj)]; exact decide_eq_true_iff
/-- one letter moved to the order ahead -/
inductive Mv (n : Nat) : List (List Nat) → List (List Nat) → Prop
  | hd {a b : List Nat} {rs : List (List Nat)} (j : Nat) : j + 1 < n → fa j b = true → up j a = true → Mv n (a :: b :: rs) (sv j a :: sp j b :: rs)
  | tl {a : List Nat} {rs ts : List (List Nat)} : Mv n rs ts → Mv n (a :: rs) (a :: ts)
inductive Ms (n : Nat) : List (List Nat) → List (List Nat) → Prop
  | refl (rs : List (List Nat)) : Ms n rs rs
  | step {rs ts us : List (List Nat)} : Mv n rs ts → Ms n ts us → Ms n rs us
theorem Ms.one {n : Nat} {rs ts : List (List Nat)} (h : Mv n rs ts) : Ms n rs ts := .step h (.refl _)
theorem Ms.trans {n : Nat} {rs ts us : List (List Nat)} (h : Ms n rs ts) (h2 : Ms n ts us) : Ms n rs us := by
  induction h with
  | refl _ => exact h2
  | step m _ ih => exact .step m (ih h2)
theorem Ms.tl {n : Nat} {a : List Nat} {rs ts : List (List Nat)} (h : Ms n rs ts) : Ms n (a :: rs) (a :: ts) := by
  induction h with
  | refl _ => exact .refl _
  | step m _ ih => exact .step (.tl m) ih
theorem Ms.pre {n : Nat} {rs ts : List (List Nat)} (h : Ms n rs ts) : ∀ xs : List (List Nat), Ms n (xs ++ rs) (xs ++ ts)
  | [] => h
  | _ :: xs => (Ms.pre h xs).tl
theorem Mv.suf {n : Nat} {rs ts ys : List (List Nat)} (h : Mv n rs ts) : Mv n (rs ++ ys) (ts ++ ys) := by
  induction h with
  | hd j h1 h2 h3 => exact .hd j h1 h2 h3
  | tl _ ih => exact .tl ih
theorem Ms.suf {n : Nat} {rs ts ys : List (List Nat)} (h : Ms n rs ts) : Ms n (rs ++ ys) (ts ++ ys) := by
  induction h with
  | refl _ => exact .refl _
  | step m _ ih => exact .step m.suf ih
theorem Mv.pm {n : Nat} {rs ts : List (List Nat)} (h : Mv n rs ts) : (∀ r ∈ rs, Pm n r) → ∀ r ∈ ts, Pm n r := by
  induction h with
  | hd j h1 h2 h3 =>
    rename_i a b rs
    intro h r hr
    rcases List.mem_cons.mp hr with rfl | hr
    · exact (h a (by simp)).sv h1
    · rcases List.mem_cons.mp hr with rfl | hr
      · exact (h b (by simp)).sp
      · exact h r (by simp [hr])
  | tl _ ih =>
    rename_i a rs ts _
    intro h r hr
    rcases List.mem_cons.mp hr with rfl | hr
    · exact h r (by simp)
    · exact ih (fun x hx => h x (by simp [hx])) r hr
theorem Ms.pm {n : Nat} {rs ts : List (List Nat)} (h : Ms n rs ts) : (∀ r ∈ rs, Pm n r) → ∀ r ∈ ts, Pm n r := by
  induction h with
  | refl _ => exact id
  | step m _ ih => exact fun h => ih (m.pm h)
theorem Mv.len {n : Nat} {rs ts : List (List Nat)} (h : Mv n rs ts) : ts.length = rs.length := by
  induction h with
  | hd j h1 h2 h3 => rfl
  | tl _ ih => simp [ih]
theorem Ms.len {n : Nat} {rs ts : List (List Nat)} (h : Ms n rs ts) : ts.length = rs.length := by
  induction h with
  | refl _ => rfl
  | step m _ ih => rw [ih, m.len]
theorem Mv.ms {n : Nat} {rs ts : List (List Nat)} (h : Mv n rs ts) : (∀ r ∈ rs, Pm n r) → ∀ k, Lw.ms k ts + 1 = Lw.ms k rs := by
  induction h with
  | hd j h1 h2 h3 =>
    rename_i a b rs
    intro h k
    have pa := h a (by simp)
    have e1 := inv_sp j b h2
    have e2 := inv_sv a pa.nd (pa.mem h1) h3
    show k * inv (sv j a) + ((k + 1) * inv (sp j b) + Lw.ms (k + 1 + 1) rs) + 1 = k * inv a + ((k + 1) * inv b + Lw.ms (k + 1 + 1) rs)
    rw [e2, ← e1, Nat.mul_add, Nat.mul_add, Nat.add_mul]
    omega
  | tl _ ih =>
    rename_i a rs ts _
    intro h k
    have := ih (fun x hx => h x (by simp [hx])) (k + 1)
    show k * inv a + Lw.ms (k + 1) ts + 1 = k * inv a + Lw.ms (k + 1) rs
    omega
/-- moves that do not meet -/
theorem st_no {n : Nat} {rs ts : List (List Nat)} (h : Mv n rs ts) : StR n rs → False := by
  induction h with
  | hd j h1 h2 h3 => exact fun h => h.1 j h1 ⟨h2, h3⟩
  | tl m ih =>
    rename_i a rs ts
    intro h
    refine ih ?_
    cases rs with
    | nil => trivial
    | cons b rs => exact h.2
theorem st_or {n : Nat} : ∀ rs : List (List Nat), StR n rs ∨ ∃ ts, Mv n rs ts
  | [] => .inl trivial
  | [_] => .inl trivial
  | a :: b :: rs => by
    rcases st_or (n := n) (b :: rs) with h | ⟨ts, h⟩
    · by_cases c : Std n a b
      · exact .inl ⟨c, h⟩
      · refine .inr ?_
        unfold Std at c
        have : ∃ j, j + 1 < n ∧ fa j b = true ∧ up j a = true := by
          refine Classical.byContradiction fun d => c fun j hj e => d ⟨j, hj, e.1, e.2⟩
        obtain ⟨j, hj, h1, h2⟩ := this
        exact ⟨_, .hd j hj h1 h2⟩
    · exact .inr ⟨_, .tl h⟩
theorem nf_is {n : Nat} : ∀ (N : Nat) (rs : List (List Nat)), (∀ r ∈ rs, Pm n r) → ms 0 rs ≤ N → ∃ ts, Ms n rs ts ∧ StR n ts
  | 0, rs, hp, hN => by
    rcases st_or (n := n) rs with h | ⟨ts, h⟩
    · exact ⟨rs, .refl _, h⟩
    · have := h.ms hp 0; omega
  | N + 1, rs, hp, hN => by
    rcases st_or (n := n) rs with h | ⟨ts, h⟩
    · exact ⟨rs, .refl _, h⟩
    · have := h.ms hp 0
      obtain ⟨us, h1, h2⟩ := nf_is N ts (h.pm hp) (by omega)
      exact ⟨us, .step h h1, h2⟩
theorem sp_sv (j k : Nat) : ∀ r : List Nat, sp j (sv k r) = sv k (sp j r) := by
  induction j with
  | zero =>
    intro r
    match r with
    | [] => rfl
    | [x] => rfl
    | x :: y :: r => rfl
  | succ j ih =>
    intro r
    match r with
    | [] => rfl
    | x :: r =>
      show _ :: sp j (sv k r) = _ :: sv k (sp j r)
      rw [ih r]
/-- a move at an order and one at the next pair -/
theorem mv_over {n j k : Nat} {b : List Nat} (hb : Pm n b) (hj : j + 1 < n) (hk : k + 1 < n) (h1 : fa j b = true) (h2 : up k b = true) : fa j (sv k b) = true ∧ up k (sp j b) = true := by
  have hl := hb.len
  have f1 := (hb.fa_iff hj).mp h1
  have u2 := up_iff.mp h2
  have x1 := hb.ixat (show j < n by omega)
  have x2 := hb.ixat hj
  constructor
  · rw [(hb.sv hk).fa_iff hj, sv_at (by omega), sv_at (by omega)]
    by_cases c : b.getD j 0 = k + 1 ∧ b.getD (j + 1) 0 = k
    · rw [c.1] at x1; rw [c.2] at x2; omega
    · unfold tr
      (repeat' split) <;> omega
  · rw [up_iff, hb.sp_ix hj (by omega), hb.sp_ix hj hk]
    by_cases c : b.idxOf k = j ∧ b.idxOf (k + 1) = j + 1
    · have y1 := hb.atix (show k < n by omega)
      have y2 := hb.atix hk
      rw [c.1] at y1; rw [c.2] at y2; omega
    · unfold tr
      (repeat' split) <;> omega
theorem tr_far {j k : Nat} (h : j + 1 < k) (x : Nat) : tr j (tr k x) = tr k (tr j x) := by
  unfold tr; (repeat' split) <;> omega
theorem tr_bra (j x : Nat) : tr j (tr (j + 1) (tr j x)) = tr (j + 1) (tr j (tr (j + 1) x)) := by
  unfold tr; (repeat' split) <;> omega
theorem sv_far {j k : Nat} (h : j + 1 < k) (r : List Nat) : sv j (sv k r) = sv k (sv j r) := by
  unfold sv
  rw [List.map_map, List.map_map]
  exact List.map_congr_left fun x _ => tr_far h x
theorem sv_bra (j : Nat) (r : List Nat) : sv j (sv (j + 1) (sv j r)) = sv (j + 1) (sv j (sv (j + 1) r)) := by
  unfold sv
  simp only [List.map_map]
  exact List.map_congr_left fun x _ => tr_bra j x
theorem sp_far {n j k : Nat} (h : j + 1 < k) {r : List Nat} (hp : Pm n r) (hk : k + 1 < n) : sp j (sp k r) = sp k (sp j r) := by
  have hl := hp.len
  have l1 := sp_len k r
  have l2 := sp_len j r
  refine Pm.ext hp.sp.sp hp.sp.sp fun i hi => ?_
  rw [sp_at j _ i (by omega), sp_at k r _ (by omega), sp_at k _ i (by omega), sp_at j r _ (by omega), tr_far h]
theorem sp_bra {n j : Nat} {r : List Nat} (hp : Pm n r) (hj : j + 2 < n) : sp j (sp (j + 1) (sp j r)) = sp (j + 1) (sp j (sp (j + 1) r)) := by
  have hl := hp.len
  have l1 := sp_len j r
  have l2 := sp_len (j + 1) r
  have l3 := sp_len (j + 1) (sp j r)
  have l4 := sp_len j (sp (j + 1) r)
  refine Pm.ext hp.sp.sp.sp hp.sp.sp.sp fun i hi => ?_
  rw [sp_at j _ i (by omega), sp_at (j + 1) _ _ (by omega), sp_at j r _ (by omega), sp_at (j + 1) _ i (by omega), sp_at j _ _ (by omega), sp_at (j + 1) r _ (by omega), tr_bra]
theorem up_sv {n j k : Nat} {a : List Nat} : up k (sv j a) = true ↔ a.idxOf (tr j k) < a.idxOf (tr j (k + 1)) := by
  rw [up_iff, sv_ix, sv_ix]
theorem fa_sp {n j k : Nat} {b : List Nat} (hb : Pm n b) (hj : j + 1 < n) (hk : k + 1 < n) : fa k (sp j b) = true ↔ b.getD (tr j (k + 1)) 0 < b.getD (tr j k) 0 := by
  have hl := hb.len
  rw [hb.sp.fa_iff hk, sp_at j b _ (by omega), sp_at j b _ (by omega)]
/-- two moves at one pair -/
theorem mv_pair {n j k : Nat} {a b : List Nat} {rs : List (List Nat)} (hjk : j < k) (ha : Pm n a) (hb : Pm n b) (hj : j + 1 < n) (hk : k + 1 < n) (f1 : fa j b = true) (u1 : up j a = true) (f2 : fa k b = true) (u2 : up k a = true) :
    ∃ vs, Ms n (sv j a :: sp j b :: rs) vs ∧ Ms n (sv k a :: sp k b :: rs) vs := by
  have F1 := (hb.fa_iff hj).mp f1
  have F2 := (hb.fa_iff hk).mp f2
  have U1 := up_iff.mp u1
  have U2 := up_iff.mp u2
  have lb := hb.len
  by_cases c : j + 1 < k
  · refine ⟨sv k (sv j a) :: sp k (sp j b) :: rs, .one (.hd k hk ?_ ?_), ?_⟩
    · rw [fa_sp hb hj hk]
      rw [show tr j (k + 1) = k + 1 by unfold tr; (repeat' split) <;> omega, show tr j k = k by unfold tr; (repeat' split) <;> omega]
      exact F2
    · rw [up_sv (n := n), show tr j (k + 1) = k + 1 by unfold tr; (repeat' split) <;> omega, show tr j k = k by unfold tr; (repeat' split) <;> omega]
      exact U2
    · rw [← sv_far c, ← sp_far c hb hk]
      refine .one (.hd j hj ?_ ?_)
      · rw [fa_sp hb hk hj]
        rw [show tr k (j + 1) = j + 1 by unfold tr; (repeat' split) <;> omega, show tr k j = j by unfold tr; (repeat' split) <;> omega]
        exact F1
      · rw [up_sv (n := n), show tr k (j + 1) = j + 1 by unfold tr; (repeat' split) <;> omega, show tr k j = j by unfold tr; (repeat' split) <;> omega]
        exact U1
  · have e : k = j + 1 := by omega
    subst e
    refine ⟨sv j (sv (j + 1) (sv j a)) :: sp j (sp (j + 1) (sp j b)) :: rs, .step (.hd (j + 1) hk ?_ ?_) (.one (.hd j hj ?_ ?_)), ?_⟩
    · rw [fa_sp hb hj hk]
      rw [show tr j (j + 1 + 1) = j + 2 by unfold tr; (repeat' split) <;> omega, show tr j (j + 1) = j by unfold tr; (repeat' split) <;> omega]
      have : b.getD (j + 2) 0 < b.getD (j + 1) 0 := F2
      omega
    · rw [up_sv (n := n), show tr j (j + 1 + 1) = j + 2 by unfold tr; (repeat' split) <;> omega, show tr j (j + 1) = j by unfold tr; (repeat' split) <;> omega]
      have : a.idxOf (j + 1) < a.idxOf (j + 2) := U2
      omega
    · rw [fa_sp hb.sp hk hj, sp_at j b _ (by omega), sp_at j b _ (by omega)]
      rw [show tr j (tr (j + 1) (j + 1)) = j + 2 by unfold tr; (repeat' split) <;> omega, show tr j (tr (j + 1) j) = j + 1 by unfold tr; (repeat' split) <;> omega]
      exact F2
    · rw [up_sv (n := n), sv_ix, sv_ix, show tr j (tr (j + 1) (j + 1)) = j + 2 by unfold tr; (repeat' split) <;> omega, show tr j (tr (j + 1) j) = j + 1 by unfold tr; (repeat' split) <;> omega]
      exact U2
    · rw [sv_bra, sp_bra hb hk]
      refine .step (.hd j hj ?_ ?_) (.one (.hd (j + 1) hk ?_ ?_))
      · rw [fa_sp hb hk hj]
        rw [show tr (j + 1) (j + 1) = j + 2 by unfold tr; (repeat' split) <;> omega, show tr (j + 1) j = j by unfold tr; (repeat' split) <;> omega]
        have : b.getD (j + 2) 0 < b.getD (j + 1) 0 := F2
        omega
      · rw [up_sv (n := n), show tr (j + 1) (j + 1) = j + 2 by unfold tr; (repeat' split) <;> omega, show tr (j + 1) j = j by unfold tr; (repeat' split) <;> omega]
        have : a.idxOf (j + 1) < a.idxOf (j + 2) := U2
        omega
      · rw [fa_sp hb.sp hj hk, sp_at (j + 1) b _ (by omega), sp_at (j + 1) b _ (by omega)]
        rw [show tr (j + 1) (tr j (j + 1 + 1)) = j + 1 by unfold tr; (repeat' split) <;> omega, show tr (j + 1) (tr j (j + 1)) = j by unfold tr; (repeat' split) <;> omega]
        exact F1
      · rw [up_sv (n := n), sv_ix, sv_ix, show tr (j + 1) (tr j (j + 1 + 1)) = j + 1 by unfold tr; (repeat' split) <;> omega, show tr (j + 1) (tr j (j + 1)) = j by unfold tr; (repeat' split) <;> omega]
        exact U1
theorem mv_lc {n : Nat} {rs ts : List (List Nat)} (h : Mv n rs ts) : ∀ {us : List (List Nat)}, (∀ r ∈ rs, Pm n r) → Mv n rs us → ∃ vs, Ms n ts vs ∧ Ms n us vs := by
  induction h with
  | hd j h1 h2 h3 =>
    rename_i a b rs
    intro us hp h
    cases h with
    | hd k k1 k2 k3 =>
      have pa := hp a (by simp)
      have pb := hp b (by simp)
      by_cases c : j < k
      · exact mv_pair c pa pb h1 k1 h2 h3 k2 k3
      · by_cases d : k < j
        · obtain ⟨vs, q1, q2⟩ := mv_pair (rs := rs) d pa pb k1 h1 k2 k3 h2 h3
          exact ⟨vs, q2, q1⟩
        · have : j = k := by omega
          subst this
          exact ⟨_, .refl _, .refl _⟩
    | tl m =>
      have pb := hp b (by simp)
      cases m with
      | hd k k1 k2 k3 =>
        rename_i c rs
        obtain ⟨e1, e2⟩ := mv_over pb h1 k1 h2 k3
        refine ⟨sv j a :: sv k (sp j b) :: sp k c :: rs, .one (.tl (.hd k k1 k2 e2)), ?_⟩
        rw [← sp_sv]
        exact .one (.hd j h1 e1 h3)
      | tl m => exact ⟨_, .one (.tl (.tl m)), .one (.hd j h1 h2 h3)⟩
  | tl m ih =>
    rename_i a rs ts
    intro us hp h
    cases h with
    | hd k k1 k2 k3 =>
      rename_i b rs
      have pb := hp b (by simp)
      cases m with
      | hd j h1 h2 h3 =>
        rename_i c rs
        obtain ⟨e1, e2⟩ := mv_over pb k1 h1 k2 h3
        refine ⟨sv k a :: sv j (sp k b) :: sp j c :: rs, ?_, .one (.tl (.hd j h1 h2 e2))⟩
        rw [← sp_sv]
        exact .one (.hd k k1 e1 k3)
      | tl m => exact ⟨_, .one (.hd k k1 k2 k3), .one (.tl (.tl m))⟩
    | tl m2 =>
      obtain ⟨vs, q1, q2⟩ := ih (fun x hx => hp x (by simp [hx])) m2
      exact ⟨_, q1.tl, q2.tl⟩
theorem nf_uni {n : Nat} : ∀ (N : Nat) (rs ts us : List (List Nat)), (∀ r ∈ rs, Pm n r) → ms 0 rs ≤ N → Ms n rs ts → Ms n rs us → StR n ts → StR n us → ts = us
  | N, rs, ts, us, hp, hN, h1, h2, s1, s2 => by
    cases h1 with
    | refl _ =>
      cases h2 with
      | refl _ => rfl
      | step m _ => exact (st_no m s1).elim
    | step m1 r1 =>
      rename_i t1
      cases h2 with
      | refl _ => exact (st_no m1 s2).elim
      | step m2 r2 =>
        rename_i u1
        have d1 := m1.ms hp 0
        have d2 := m2.ms hp 0
        obtain ⟨N, rfl⟩ : ∃ M, N = M + 1 := ⟨N - 1, by omega⟩
        obtain ⟨vs, q1, q2⟩ := mv_lc m1 hp m2
        obtain ⟨w, w1, w2⟩ := nf_is (ms 0 vs) vs (q1.pm (m1.pm hp)) (Nat.le_refl _)
        have e1 := nf_uni N t1 ts w (m1.pm hp) (by omega) r1 (q1.trans w1) s1 w2
        have e2 := nf_uni N u1 us w (m2.pm hp) (by omega) r2 (q2.trans w1) s2 w2
        rw [e1, e2]
/-! the one form of a row of orders -/
abbrev pln (n : Nat) : List Nat := List.range n
abbrev hlf (n : Nat) : List Nat := (List.range n).reverse
abbrev AP (n : Nat) (rs : List (List Nat)) : Prop := ∀ r ∈ rs, Pm n r
theorem pm_pln (n : Nat) : Pm n (pln n) := .refl _
theorem pm_hlf (n : Nat) : Pm n (hlf n) := List.reverse_perm _
theorem at_hlf {n i : Nat} (h : i < n) : (hlf n).getD i 0 = n - 1 - i := by simp [hlf, h]
theorem at_pln {n i : Nat} (h : i < n) : (pln n).getD i 0 = i := by simp [pln, h]
theorem ap_app {n : Nat} {rs ts : List (List Nat)} : AP n (rs ++ ts) ↔ AP n rs ∧ AP n ts := by
  unfold AP
  simp only [List.mem_append]
  exact ⟨fun h => ⟨fun r hr => h r (.inl hr), fun r hr => h r (.inr hr)⟩, fun h r hr => hr.elim (h.1 r) (h.2 r)⟩
theorem ap_cons {n : Nat} {r : List Nat} {ts : List (List Nat)} : AP n (r :: ts) ↔ Pm n r ∧ AP n ts := by simp [AP]
theorem ap_rep {n k : Nat} {r : List Nat} (h : Pm n r) : AP n (List.replicate k r) := fun x hx => by rw [List.eq_of_mem_replicate hx]; exact h
theorem up_hlf {n j : Nat} (hj : j + 1 < n) : up j (hlf n) = false := by
  have h := pm_hlf n
  have e1 : (hlf n).idxOf j = n - 1 - j := by
    have := h.ixat (show n - 1 - j < n by omega)
    rw [at_hlf (by omega), show n - 1 - (n - 1 - j) = j by omega] at this; exact this
  have e2 : (hlf n).idxOf (j + 1) = n - 1 - (j + 1) := by
    have := h.ixat (show n - 1 - (j + 1) < n by omega)
    rw [at_hlf (by omega), show n - 1 - (n - 1 - (j + 1)) = j + 1 by omega] at this; exact this
  unfold up
  rw [e1, e2]
  exact decide_eq_false (by omega)
theorem fa_pln {n j : Nat} (hj : j + 1 < n) : fa j (pln n) = false := by
  cases e : fa j (pln n) with
  | false => rfl
  | true =>
    have := ((pm_pln n).fa_iff hj).mp e
    rw [at_pln hj, at_pln (by omega)] at this; omega
/-- a pair settles -/
inductive M2 (n : Nat) : List Nat → List Nat → List Nat → List Nat → Prop
  | refl (a b : List Nat) : M2 n a b a b
  | step {a b a' b' : List Nat} (j : Nat) : j + 1 < n → fa j b = true → up j a = true → M2 n (sv j a) (sp j b) a' b' → M2 n a b a' b'
theorem M2.ms {n : Nat} {a b a' b' : List Nat} (h : M2 n a b a' b') (rs : List (List Nat)) : Ms n (a :: b :: rs) (a' :: b' :: rs) := by
  induction h with
  | refl _ _ => exact .refl _
  | step j h1 h2 h3 _ ih => exact .step (.hd j h1 h2 h3) ih
theorem M2.pm {n : Nat} {a b a' b' : List Nat} (h : M2 n a b a' b') : Pm n a → Pm n b → Pm n a' ∧ Pm n b' := by
  induction h with
  | refl _ _ => exact fun h1 h2 => ⟨h1, h2⟩
  | step j h1 h2 h3 _ ih => exact fun k1 k2 => ih (k1.sv h1) k2.sp
theorem m2_is {n : Nat} : ∀ (N : Nat) (a b : List Nat), Pm n b → inv b ≤ N → ∃ a' b', M2 n a b a' b' ∧ Std n a' b'
  | N, a, b, hb, hN => by
    by_cases c : Std n a b
    · exact ⟨a, b, .refl _ _, c⟩
    · have : ∃ j, j + 1 < n ∧ fa j b = true ∧ up j a = true := by
        refine Classical.byContradiction fun d => c fun j hj e => d ⟨j, hj, e.1, e.2⟩
      obtain ⟨j, hj, h1, h2⟩ := this
      have e := inv_sp j b h1
      obtain ⟨N, rfl⟩ : ∃ M, N = M + 1 := ⟨N - 1, by omega⟩
      obtain ⟨a', b', q1, q2⟩ := m2_is N (sv j a) (sp j b) hb.sp (by omega)
      exact ⟨a', b', .step j hj h1 h2 q1, q2⟩
/-- what both together make stays -/
theorem M2.comp {n : Nat} {a b a' b' : List Nat} (h : M2 n a b a' b') : Pm n a → Pm n b → ∀ i, i < n → b'.getD (a'.getD i 0) 0 = b.getD (a.getD i 0) 0 := by
  induction h with
  | refl _ _ => exact fun _ _ _ _ => rfl
  | step j h1 h2 h3 _ ih =>
    rename_i a b a' b' _
    intro ha hb i hi
    have la := ha.len
    have lb := hb.len
    rw [ih (ha.sv h1) hb.sp i hi, sv_at (by omega), sp_at j b _ (by omega), tr_tr]
/-- falls of the first are falls of both -/
theorem M2.grow {n : Nat} {a b a' b' : List Nat} (h : M2 n a b a' b') : Pm n a → Pm n b → (∀ P Q, P < Q → Q < n → a.getD Q 0 < a.getD P 0 → b.getD (a.getD Q 0) 0 < b.getD (a.getD P 0) 0) →
    ∀ P Q, P < Q → Q < n → a'.getD Q 0 < a'.getD P 0 → b'.getD (a'.getD Q 0) 0 < b'.getD (a'.getD P 0) 0 := by
  induction h with
  | refl _ _ => exact fun _ _ h => h
  | step j h1 h2 h3 _ ih =>
    rename_i a b a' b' _
    intro ha hb hc
    have la := ha.len
    have lb := hb.len
    refine ih (ha.sv h1) hb.sp fun P Q hPQ hQ hf => ?_
    rw [sv_at (by omega), sv_at (by omega)] at hf
    rw [sv_at (by omega), sv_at (by omega), sp_at j b _ (by omega), sp_at j b _ (by omega), tr_tr, tr_tr]
    by_cases c : a.getD P 0 = j ∧ a.getD Q 0 = j + 1
    · have := (hb.fa_iff h1).mp h2
      rw [c.1, c.2]; exact this
    · refine hc P Q hPQ hQ ?_
      unfold tr at hf
      revert hf
      (repeat' split) <;> omega
/-- what the first does not make fall, both make fall -/
theorem M2.full {n : Nat} {a b a' b' : List Nat} (h : M2 n a b a' b') : Pm n a → Pm n b → (∀ P Q, P < Q → Q < n → a.getD P 0 < a.getD Q 0 → b.getD (a.getD Q 0) 0 < b.getD (a.getD P 0) 0) →
    ∀ P Q, P < Q → Q < n → a'.getD P 0 < a'.getD Q 0 → b'.getD (a'.getD Q 0) 0 < b'.getD (a'.getD P 0) 0 := by
  induction h with
  | refl _ _ => exact fun _ _ h => h
  | step j h1 h2 h3 _ ih =>
    rename_i a b a' b' _
    intro ha hb hc
    have la := ha.len
    have lb := hb.len
    refine ih (ha.sv h1) hb.sp fun P Q hPQ hQ hf => ?_
    rw [sv_at (by omega), sv_at (by omega)] at hf
    rw [sv_at (by omega), sv_at (by omega), sp_at j b _ (by omega), sp_at j b _ (by omega), tr_tr, tr_tr]
    refine hc P Q hPQ hQ ?_
    by_cases c : a.getD P 0 = j + 1 ∧ a.getD Q 0 = j
    · have u := up_iff.mp h3
      have x1 := ha.ixat (show P < n by omega)
      have x2 := ha.ixat hQ
      rw [c.1] at x1; rw [c.2] at x2; omega
    · unfold tr at hf
      revert hf
      (repeat' split) <;> omega
/-- no crossing goes behind -/
theorem pln_r {n : Nat} {r : List Nat} (hr : Pm n r) : M2 n (pln n) r r (pln n) := by
  obtain ⟨a', b', h, hs⟩ := m2_is (inv r) (pln n) r hr (Nat.le_refl _)
  obtain ⟨pa, pb⟩ := h.pm (pm_pln n) hr
  have g := h.grow (pm_pln n) hr fun P Q hPQ hQ hf => by rw [at_pln (by omega), at_pln (by omega)] at hf; omega
  have cm := h.comp (pm_pln n) hr
  have eb : b' = pln n := by
    refine sorted_eq pb (nofall_sorted b' fun j => ?_)
    by_cases hj : j + 1 < n
    · cases e : fa j b' with
      | false => rfl
      | true =>
        have hu : ¬ up j a' = true := fun hu => hs j hj ⟨e, hu⟩
        rw [up_iff] at hu
        have fb := (pb.fa_iff hj).mp e
        have ne : a'.idxOf j ≠ a'.idxOf (j + 1) := fun e => by
          have h1 := pa.atix (show j < n by omega)
          have h2 := pa.atix hj
          rw [e] at h1; omega
        have := g (a'.idxOf (j + 1)) (a'.idxOf j) (by omega) (pa.ix_lt (by omega)) (by rw [pa.atix hj, pa.atix (show j < n by omega)]; omega)
        rw [pa.atix hj, pa.atix (show j < n by omega)] at this
        omega
    · exact fa_out j b' (by rw [pb.len]; omega)
  subst eb
  have ea : a' = r := pa.ext hr fun i hi => by
    have := cm i hi
    rw [at_pln hi, at_pln (pa.at_lt hi)] at this
    exact this
  rw [ea] at h; exact h
/-- an order from the other side -/
def flp (n : Nat) (r : List Nat) : List Nat := r.reverse.map fun x => n - 1 - x
theorem flp_pm {n : Nat} {r : List Nat} (h : Pm n r) : Pm n (flp n r) := by
  unfold flp
  refine ((r.reverse_perm.trans h).map _).trans ?_
  refine (List.perm_ext_iff_of_nodup ?_ List.nodup_range).mpr fun x => ?_
  · refine List.pairwise_map.mpr (List.Pairwise.imp_of_mem ?_ List.nodup_range)
    intro a b ha hb hab
    have := List.mem_range.mp ha
    have := List.mem_range.mp hb
    omega
  · rw [List.mem_map, List.mem_range]
    constructor
    · rintro ⟨y, hy, rfl⟩
      have := List.mem_range.mp hy
      omega
    · intro hx
      exact ⟨n - 1 - x, List.mem_range.mpr (by omega), by omega⟩
theorem flp_at {n i : Nat} {r : List Nat} (h : Pm n r) (hi : i < n) : (flp n r).getD i 0 = n - 1 - r.getD (n - 1 - i) 0 := by
  have hl := h.len
  simp only [flp, List.getD_eq_getElem?_getD, List.getElem?_map]
  rw [List.getElem?_reverse (by omega), hl]
  have : n - 1 - i < r.length := by omega
  simp [this]
theorem flp_flp {n : Nat} {r : List Nat} (h : Pm n r) : flp n (flp n r) = r := by
  refine (flp_pm (flp_pm h)).ext h fun i hi => ?_
  rw [flp_at (flp_pm h) hi, flp_at h (by omega)]
  have := h.at_lt hi
  rw [show n - 1 - (n - 1 - i) = i by omega]
  omega
theorem flp_pln (n : Nat) : flp n (pln n) = pln n := by
  refine (flp_pm (pm_pln n)).ext (pm_pln n) fun i hi => ?_
  rw [flp_at (pm_pln n) hi, at_pln (by omega), at_pln hi]; omega
theorem flp_hlf (n : Nat) : flp n (hlf n) = hlf n := by
  refine (flp_pm (pm_hlf n)).ext (pm_hlf n) fun i hi => ?_
  rw [flp_at (pm_hlf n) hi, at_hlf (by omega), at_hlf hi]; omega
theorem flp_ix {n x : Nat} {r : List Nat} (h : Pm n r) (hx : x < n) : (flp n r).idxOf x = n - 1 - r.idxOf (n - 1 - x) := by
  have hi := h.ix_lt (show n - 1 - x < n by omega)
  have e : (flp n r).getD (n - 1 - r.idxOf (n - 1 - x)) 0 = x := by
    rw [flp_at h (by omega), show n - 1 - (n - 1 - r.idxOf (n - 1 - x)) = r.idxOf (n - 1 - x) by omega, h.atix (by omega)]; omega
  conv => lhs; rw [← e]
  exact (flp_pm h).ixat (by omega)
theorem tr_flp {n j x : Nat} (hj : j + 1 < n) (hx : x < n) : n - 1 - tr j x = tr (n - 2 - j) (n - 1 - x) := by
  unfold tr; (repeat' split) <;> omega
theorem flp_sv {n j : Nat} {r : List Nat} (h : Pm n r) (hj : j + 1 < n) : flp n (sv j r) = sv (n - 2 - j) (flp n r) := by
  have hj2 : n - 2 - j + 1 < n := by omega
  have hl := h.len
  refine (flp_pm (h.sv hj)).ext ((flp_pm h).sv hj2) fun i hi => ?_
  rw [flp_at (h.sv hj) hi, sv_at (by omega), sv_at (by rw [(flp_pm h).len]; exact hi), flp_at h hi, tr_flp hj (h.at_lt (by omega))]
theorem flp_sp {n j : Nat} {r : List Nat} (h : Pm n r) (hj : j + 1 < n) : flp n (sp j r) = sp (n - 2 - j) (flp n r) := by
  have hj2 : n - 2 - j + 1 < n := by omega
  have hl := h.len
  refine (flp_pm h.sp).ext (flp_pm h).sp fun i hi => ?_
  have e : tr j (n - 1 - i) = n - 1 - tr (n - 2 - j) i := by unfold tr; (repeat' split) <;> omega
  rw [flp_at h.sp hi, sp_at j r _ (by omega), sp_at _ _ _ (by rw [(flp_pm h).len]; exact hj2), flp_at h (tr_lt hj2 hi), e]
theorem flp_fa {n j : Nat} {r : List Nat} (h : Pm n r) (hj : j + 1 < n) : fa (n - 2 - j) (flp n r) = fa j r := by
  have hj2 : n - 2 - j + 1 < n := by omega
  rw [Bool.eq_iff_iff, (flp_pm h).fa_iff hj2, h.fa_iff hj, flp_at h (by omega), flp_at h (by omega)]
  rw [show n - 1 - (n - 2 - j + 1) = j by omega, show n - 1 - (n - 2 - j) = j + 1 by omega]
  have := h.at_lt (show j < n by omega)
  have := h.at_lt hj
  omega
theorem flp_up {n j : Nat} {r : List Nat} (h : Pm n r) (hj : j + 1 < n) : up (n - 2 - j) (flp n r) = up j r := by
  rw [Bool.eq_iff_iff, up_iff, up_iff, flp_ix h (by omega), flp_ix h (by omega)]
  rw [show n - 1 - (n - 2 - j + 1) = j by omega, show n - 1 - (n - 2 - j) = j + 1 by omega]
  have := h.ix_lt (show j < n by omega)
  have := h.ix_lt hj
  omega
/-- a half twist goes ahead -/
theorem r_hlf {n : Nat} {r : List Nat} (hr : Pm n r) : M2 n r (hlf n) (hlf n) (flp n r) := by
  obtain ⟨a', b', h, hs⟩ := m2_is (inv (hlf n)) r (hlf n) (pm_hlf n) (Nat.le_refl _)
  obtain ⟨pa, pb⟩ := h.pm hr (pm_hlf n)
  have g := h.full hr (pm_hlf n) fun P Q hPQ hQ hf => by
    have := hr.at_lt (show P < n by omega)
    have := hr.at_lt hQ
    rw [at_hlf (by omega), at_hlf (by omega)]; omega
  have cm := h.comp hr (pm_hlf n)
  have ea : a' = hlf n := by
    refine std_half pa fun j hj ⟨_, hu⟩ => ?_
    have u := up_iff.mp hu
    have := g (a'.idxOf j) (a'.idxOf (j + 1)) u (pa.ix_lt hj) (by rw [pa.atix hj, pa.atix (show j < n by omega)]; omega)
    rw [pa.atix hj, pa.atix (show j < n by omega)] at this
    exact hs j hj ⟨(pb.fa_iff hj).mpr this, hu⟩
  subst ea
  have eb : b' = flp n r := pb.ext (flp_pm hr) fun i hi => by
    have := cm (n - 1 - i) (by omega)
    rw [at_hlf (by omega), show n - 1 - (n - 1 - i) = i by omega, at_hlf (hr.at_lt (by omega))] at this
    rw [this, flp_at hr hi]
  rw [eb] at h; exact h
theorem Mv.flp {n : Nat} {rs ts : List (List Nat)} (h : Mv n rs ts) : AP n rs → Mv n (rs.map (Lw.flp n)) (ts.map (Lw.flp n)) := by
  induction h with
  | hd j h1 h2 h3 =>
    rename_i a b rs
    intro h
    have pa := h a (by simp)
    have pb := h b (by simp)
    rw [List.map_cons, List.map_cons, List.map_cons, List.map_cons, flp_sv pa h1, flp_sp pb h1]
    exact .hd _ (by omega) (by rw [flp_fa pb h1]; exact h2) (by rw [flp_up pa h1]; exact h3)
  | tl m ih => exact fun h => .tl (ih fun x hx => h x (by simp [hx]))
theorem Ms.flp {n : Nat} {rs ts : List (List Nat)} (h : Ms n rs ts) : AP n rs → Ms n (rs.map (Lw.flp n)) (ts.map (Lw.flp n)) := by
  induction h with
  | refl _ => exact fun _ => .refl _
  | step m _ ih => exact fun h => .step (m.flp h) (ih (m.pm h))
theorem std_flp {n : Nat} {a b : List Nat} (ha : Pm n a) (hb : Pm n b) (h : Std n a b) : Std n (flp n a) (flp n b) := fun j hj e => by
  have hj2 : n - 2 - j + 1 < n := by omega
  have e1 := flp_fa hb hj2
  have e2 := flp_up ha hj2
  rw [show n - 2 - (n - 2 - j) = j by omega] at e1 e2
  exact h _ hj2 ⟨by rw [← e1]; exact e.1, by rw [← e2]; exact e.2⟩
theorem st_flp {n : Nat} : ∀ rs : List (List Nat), AP n rs → StR n rs → StR n (rs.map (flp n))
  | [], _, _ => trivial
  | [_], _, _ => trivial
  | a :: b :: rs, hp, h => ⟨std_flp (hp a (by simp)) (hp b (by simp)) h.1, st_flp (b :: rs) (fun x hx => hp x (by simp [hx])) h.2⟩
/-- no crossings go behind, half twists ahead -/
theorem plns_r {n k : Nat} : ∀ rs : List (List Nat), AP n rs → Ms n (List.replicate k (pln n) ++ rs) (rs ++ List.replicate k (pln n))
  | [], _ => by simp only [List.append_nil, List.nil_append]; exact .refl _
  | r :: rs, hp => by
    have hr := hp r (by simp)
    have one : ∀ k, Ms n (List.replicate k (pln n) ++ r :: rs) (r :: (List.replicate k (pln n) ++ rs)) := fun k => by
      induction k with
      | zero => exact .refl _
      | succ k ih => exact (ih.tl).trans ((pln_r hr).ms _)
    exact (one k).trans (plns_r rs fun x hx => hp x (by simp [hx])).tl
theorem rs_hlf {n : Nat} : ∀ rs : List (List Nat), AP n rs → Ms n (rs ++ [hlf n]) (hlf n :: rs.map (flp n))
  | [], _ => .refl _
  | r :: rs, hp => by
    have hr := hp r (by simp)
    exact ((rs_hlf rs fun x hx => hp x (by simp [hx])).tl (a := r)).trans ((r_hlf hr).ms _)
/-- half twists, orders, no crossings -/
abbrev Shp (n k : Nat) (m : List (List Nat)) (l : Nat) : List (List Nat) := List.replicate k (hlf n) ++ (m ++ List.replicate l (pln n))
def mid (n : Nat) (r : List Nat) : Bool := !decide (r = pln n) && !decide (r = hlf n)
theorem mid_iff {n : Nat} {r : List Nat} : mid n r = true ↔ r ≠ pln n ∧ r ≠ hlf n := by simp [mid]
theorem st_plns {n l : Nat} : ∀ m : List (List Nat), StR n m → StR n (m ++ List.replicate l (pln n))
  | [], _ => by
    induction l with
    | zero => trivial
    | succ l ih =>
      match l, ih with
      | 0, _ => exact trivial
      | l + 1, ih => exact ⟨fun j hj e => by rw [fa_pln hj] at e; exact absurd e.1 (by decide), ih⟩
  | [a], _ => by
    cases l with
    | zero => trivial
    | succ l => exact ⟨fun j hj e => by rw [fa_pln hj] at e; exact absurd e.1 (by decide), st_plns (l := l + 1) [] trivial⟩
  | a :: b :: m, h => ⟨h.1, st_plns (b :: m) h.2⟩
theorem st_hlfs {n k : Nat} {m : List (List Nat)} (h : StR n m) : StR n (List.replicate k (hlf n) ++ m) := by
  induction k with
  | zero => exact h
  | succ k ih =>
    show StR n (hlf n :: (List.replicate k (hlf n) ++ m))
    cases e : List.replicate k (hlf n) ++ m with
    | nil => trivial
    | cons b rs =>
      rw [e] at ih
      exact ⟨fun j hj e => by rw [up_hlf hj] at e; exact absurd e.2 (by decide), ih⟩
theorem st_shp {n k l : Nat} {m : List (List Nat)} (h : StR n m) : StR n (Shp n k m l) := st_hlfs (st_plns m h)
theorem st_tail {n : Nat} {a : List Nat} {rs : List (List Nat)} (h : StR n (a :: rs)) : StR n rs := by
  cases rs with
  | nil => trivial
  | cons b rs => exact h.2
theorem st_is {n : Nat} : ∀ ts : List (List Nat), AP n ts → StR n ts → ∃ k m l, ts = Shp n k m l ∧ StR n m ∧ ∀ r ∈ m, mid n r = true
  | [], _, _ => ⟨0, [], 0, rfl, trivial, fun r hr => by cases hr⟩
  | a :: ts, hp, h => by
    have hp2 : AP n ts := fun x hx => hp x (by simp [hx])
    obtain ⟨k, m, l, e, hm, hall⟩ := st_is ts hp2 (st_tail h)
    by_cases c : a = hlf n
    · exact ⟨k + 1, m, l, by rw [e, c]; rfl, hm, hall⟩
    · cases k with
      | succ k =>
        exfalso
        rw [e] at h
        exact c (std_half (hp a (by simp)) h.1)
      | zero =>
        by_cases d : a = pln n
        · rw [d] at h
          have := all_plain ts hp2 h
          refine ⟨0, [], ts.length + 1, ?_, trivial, fun r hr => by cases hr⟩
          rw [d]
          show _ = List.replicate (ts.length + 1) (pln n)
          rw [List.replicate_succ, ← List.eq_replicate_iff.mpr ⟨rfl, this⟩]
        · refine ⟨0, a :: m, l, by rw [e]; rfl, ?_, fun r hr => ?_⟩
          · cases m with
            | nil => trivial
            | cons b m => rw [e] at h; exact ⟨h.1, hm⟩
          · rcases List.mem_cons.mp hr with rfl | hr
            · exact mid_iff.mpr ⟨d, c⟩
            · exact hall r hr
/-- the settled one -/
noncomputable def nf (n : Nat) (rs : List (List Nat)) : List (List Nat) := open Classical in if h : ∃ ts, Ms n rs ts ∧ StR n ts then Classical.choose h else rs
theorem nf_spec {n : Nat} {rs : List (List Nat)} (hp : AP n rs) : Ms n rs (nf n rs) ∧ StR n (nf n rs) := by
  have h := nf_is (ms 0 rs) rs hp (Nat.le_refl _)
  unfold nf
  rw [dif_pos h]
  exact Classical.choose_spec h
theorem nf_pm {n : Nat} {rs : List (List Nat)} (hp : AP n rs) : AP n (nf n rs) := (nf_spec hp).1.pm hp
theorem nf_eq {n : Nat} {rs ts : List (List Nat)} (hp : AP n rs) (h : Ms n rs ts) (hs : StR n ts) : nf n rs = ts :=
  nf_uni (ms 0 rs) rs _ _ hp (Nat.le_refl _) (nf_spec hp).1 h (nf_spec hp).2 hs
theorem nf_ms {n : Nat} {rs ts : List (List Nat)} (hp : AP n rs) (h : Ms n rs ts) : nf n rs = nf n ts :=
  nf_eq hp (h.trans (nf_spec (h.pm hp)).1) (nf_spec (h.pm hp)).2
/-- a power and orders, as a form -/
noncomputable def norm (n : Nat) (p : Int) (rs : List (List Nat)) : Int × List (List Nat) := (p + ((nf n rs).count (hlf n) : Nat), (nf n rs).filter (mid n))
theorem hp_ne {n : Nat} (hn : 2 ≤ n) : pln n ≠ hlf n := fun e => by
  have h1 := at_pln (show 0 < n by omega)
  rw [e, at_hlf (by omega)] at h1; omega
theorem shp_cnt {n k l : Nat} {m : List (List Nat)} (hn : 2 ≤ n) (h : ∀ r ∈ m, mid n r = true) : (Shp n k m l).count (hlf n) = k ∧ (Shp n k m l).filter (mid n) = m := by
  unfold Shp
  have h1 : m.count (hlf n) = 0 := List.count_eq_zero.mpr fun hm => (mid_iff.mp (h _ hm)).2 rfl
  have h2 : (List.replicate l (pln n)).count (hlf n) = 0 := List.count_eq_zero.mpr fun hm => hp_ne hn (List.eq_of_mem_replicate hm).symm
  have h3 : (List.replicate k (hlf n)).filter (mid n) = [] := List.filter_eq_nil_iff.mpr fun r hr e => (mid_iff.mp e).2 (List.eq_of_mem_replicate hr)
  have h4 : (List.replicate l (pln n)).filter (mid n) = [] := List.filter_eq_nil_iff.mpr fun r hr e => (mid_iff.mp e).1 (List.eq_of_mem_replicate hr)
  have h5 : m.filter (mid n) = m := List.filter_eq_self.mpr h
  rw [List.count_append, List.count_append, List.count_replicate_self, h1, h2, List.filter_append, List.filter_append, h3, h4, h5]
  simp
theorem norm_to {n k l : Nat} {p : Int} {rs m : List (List Nat)} (hn : 2 ≤ n) (hp : AP n rs) (h : Ms n rs (Shp n k m l)) (hm : StR n m) (ha : ∀ r ∈ m, mid n r = true) : norm n p rs = (p + (k : Nat), m) := by
  unfold norm
  rw [nf_eq hp h (st_shp hm)]
  obtain ⟨e1, e2⟩ := shp_cnt (k := k) (l := l) hn ha
  rw [e1, e2]
theorem norm_is {n : Nat} {rs : List (List Nat)} (hn : 2 ≤ n) (hp : AP n rs) : ∃ k m l, Ms n rs (Shp n k m l) ∧ StR n m ∧ (∀ r ∈ m, mid n r = true) ∧ AP n m ∧ ∀ p, norm n p rs = (p + (k : Nat), m) := by
  obtain ⟨h1, h2⟩ := nf_spec hp
  have h3 := nf_pm hp
  obtain ⟨k, m, l, e, hm, ha⟩ := st_is _ h3 h2
  rw [e] at h1 h3
  refine ⟨k, m, l, h1, hm, ha, (ap_app.mp (ap_app.mp h3).2).1, fun p => norm_to hn hp h1 hm ha⟩
theorem norm_ms {n : Nat} {p : Int} {rs ts : List (List Nat)} (hp : AP n rs) (h : Ms n rs ts) : norm n p rs = norm n p ts := by
  unfold norm; rw [nf_ms hp h]
theorem norm_add {n : Nat} {p c : Int} {rs : List (List Nat)} : norm n (p + c) rs = ((norm n p rs).1 + c, (norm n p rs).2) := by
  unfold norm; congr 1; omega
theorem norm_pm {n : Nat} {p : Int} {rs : List (List Nat)} (hp : AP n rs) : AP n (norm n p rs).2 := fun r hr => nf_pm hp r (List.mem_filter.mp hr).1
/-- behind what is settled -/
theorem norm_app {n : Nat} {p : Int} {rs us : List (List Nat)} (hn : 2 ≤ n) (hp : AP n rs) (hu : AP n us) : norm n p (rs ++ us) = norm n (norm n p rs).1 ((norm n p rs).2 ++ us) := by
  obtain ⟨k, m, l, h1, h2, h3, h4, h5⟩ := norm_is hn hp
  rw [h5 p]
  obtain ⟨k', m', l', g1, g2, g3, g4, g5⟩ := norm_is hn (ap_app.mpr ⟨h4, hu⟩)
  rw [g5]
  have e : Ms n (rs ++ us) (Shp n (k + k') m' (l' + l)) := by
    refine (h1.suf (ys := us)).trans ?_
    have a1 : Ms n (Shp n k m l ++ us) (List.replicate k (hlf n) ++ ((m ++ us) ++ List.replicate l (pln n))) := by
      unfold Shp
      rw [List.append_assoc, List.append_assoc]
      refine Ms.pre ?_ _
      rw [List.append_assoc]
      exact (plns_r us hu).pre m
    refine a1.trans ?_
    have a2 := ((g1.suf (ys := List.replicate l (pln n))).pre (List.replicate k (hlf n)))
    unfold Shp at a2 ⊢
    rw [← List.replicate_append_replicate, ← List.replicate_append_replicate]
    simp only [List.append_assoc] at a2 ⊢
    exact a2
  rw [norm_to hn (ap_app.mpr ⟨hp, hu⟩) e g2 g3]
  congr 1
  omega
theorem map_rep {n k : Nat} {r : List Nat} (h : flp n r = r) : (List.replicate k r).map (flp n) = List.replicate k r := by rw [List.map_replicate, h]
theorem mid_flp {n : Nat} {r : List Nat} (hr : Pm n r) (h : mid n r = true) : mid n (flp n r) = true := by
  obtain ⟨h1, h2⟩ := mid_iff.mp h
  refine mid_iff.mpr ⟨fun e => h1 ?_, fun e => h2 ?_⟩
  · rw [← flp_flp hr, e, flp_pln]
  · rw [← flp_flp hr, e, flp_hlf]
theorem norm_flp {n : Nat} {p : Int} {rs : List (List Nat)} (hn : 2 ≤ n) (hp : AP n rs) : norm n p (rs.map (flp n)) = ((norm n p rs).1, (norm n p rs).2.map (flp n)) := by
  obtain ⟨k, m, l, h1, h2, h3, h4, h5⟩ := norm_is hn hp
  rw [h5 p]
  have hq : AP n (rs.map (flp n)) := fun r hr => by
    obtain ⟨x, hx, rfl⟩ := List.mem_map.mp hr
    exact flp_pm (hp x hx)
  refine norm_to (l := l) hn hq ?_ (st_flp m h4 h2) fun r hr => ?_
  · have := h1.flp hp
    unfold Shp at this ⊢
    rw [List.map_append, List.map_append, map_rep (flp_hlf n), map_rep (flp_pln n)] at this
    exact this
  · obtain ⟨x, hx, rfl⟩ := List.mem_map.mp hr
    exact mid_flp (h4 x hx) (h3 x hx)
theorem norm_hlf {n : Nat} {p : Int} {rs : List (List Nat)} (hn : 2 ≤ n) (hp : AP n rs) : norm n p (hlf n :: rs) = norm n (p + 1) rs := by
  obtain ⟨k, m, l, h1, h2, h3, h4, h5⟩ := norm_is hn hp
  rw [h5]
  have : Ms n (hlf n :: rs) (Shp n (k + 1) m l) := h1.tl
  rw [norm_to hn (ap_cons.mpr ⟨pm_hlf n, hp⟩) this h2 h3]
  congr 1
  omega
theorem ap_map {n : Nat} {rs : List (List Nat)} (hp : AP n rs) : AP n (rs.map (flp n)) := fun r hr => by
  obtain ⟨x, hx, rfl⟩ := List.mem_map.mp hr
  exact flp_pm (hp x hx)
theorem norm_pln {n l : Nat} {p : Int} {rs : List (List Nat)} (hn : 2 ≤ n) (hp : AP n rs) : norm n p (rs ++ List.replicate l (pln n)) = norm n p rs := by
  obtain ⟨k, m, l', h1, h2, h3, h4, h5⟩ := norm_is hn hp
  rw [h5]
  refine norm_to (l := l' + l) hn (ap_app.mpr ⟨hp, ap_rep (pm_pln n)⟩) ?_ h2 h3
  have := h1.suf (ys := List.replicate l (pln n))
  unfold Shp at this ⊢
  rw [← List.replicate_append_replicate]
  simp only [List.append_assoc] at this ⊢
  exact this
theorem norm_self {n : Nat} {p : Int} {m : List (List Nat)} (hn : 2 ≤ n) (hp : AP n m) (hs : StR n m) (ha : ∀ r ∈ m, mid n r = true) : norm n p m = (p, m) := by
  have := norm_to (k := 0) (l := 0) (p := p) hn hp (by unfold Shp; simp only [List.replicate_zero, List.append_nil, List.nil_append]; exact .refl _) hs ha
  rw [this]; simp
theorem lcI_ok {α : Type} {t : D → R Bool} {f : D → R D} {g h : α → D} {p : α → Bool} : ∀ (xs : List α), (∀ x ∈ xs, t (g x) = .ok (p x)) → (∀ x ∈ xs, f (g x) = .ok (h x)) → lcI t f (xs.map g) = .ok ((xs.filter p).map h)
  | [], _, _ => rfl
  | x :: xs, e1, e2 => by
    have ih := lcI_ok xs (fun y hy => e1 y (by simp [hy])) fun y hy => e2 y (by simp [hy])
    simp only [List.map_cons, lcI, e1 x (by simp), noE_ok, bnd_ok, List.filter_cons]
    cases p x with
    | true => simp [e2 x (by simp), ih]
    | false => simp [ih]
theorem lcIR_ok {α : Type} {t : D → R Bool} {f : D → R D} {g h : α → D} {p : α → Bool} (xs : List α) (hz : xs.length ≤ 16000000) (e1 : ∀ x ∈ xs, t (g x) = .ok (p x)) (e2 : ∀ x ∈ xs, f (g x) = .ok (h x)) : lcIR t f (xs.map g) = .ok ((xs.filter p).map h) := by
  unfold lcIR
  rw [if_pos (by simpa using hz), lcI_ok xs e1 e2]
/-! the program's movable letters -/
def fll (r : List Nat) (n : Nat) : List Nat := (List.range (n - 1)).filter fun j => fa j r
def ltL (l : List Nat) : List D := l.map fun j => D.int ((j + 1 : Nat) : Int)
def undo (a : List Nat) (n : Nat) : List Nat := (List.range n).map fun x => a.idxOf x
theorem f_fallsG {r : List Nat} {n : Nat} {d : D} (hr : r.length = n) (hn : n ≤ 100) (hl : D.len [d] = some (.int (n : Nat))) (hx : ∀ k, k < n → D.ix d (.int (k : Nat)) = some (.int (r.getD k 0 : Nat))) : f_falls d = .ok (.lst (ltL (fll r n))) := by
  unfold f_falls
  simp only [bnd_ok, hl, of_some, rg2_o (show n < 1000000 by omega)]
  rw [lcIR_ok (p := fun j => fa j r) (h := fun j => D.int ((j + 1 : Nat) : Int)) (List.range (n - 1)) (by simp; omega) (fun j hj => ?_) (fun _ _ => rfl)]
  · rfl
  · have hj := List.mem_range.mp hj
    have e1 : D.ix d (.int (((j + 1 : Nat) : Int) - 1)) = some (.int (r.getD j 0 : Nat)) := by
      rw [show ((j + 1 : Nat) : Int) - 1 = (j : Nat) by omega]; exact hx j (by omega)
    simp only [s_sub, of_some, bnd_ok, e1, hx (j + 1) (by omega), s_gt]
    rw [fa_at j r (by omega)]
    congr 1
    exact decide_eq_decide.mpr (by omega)
theorem f_fallsO {r : List Nat} {n : Nat} (hr : r.length = n) (hn : n ≤ 100) : f_falls (oT r) = .ok (.lst (ltL (fll r n))) :=
  f_fallsG hr hn (by show some (D.int ((oL r).length : Int)) = _; rw [oL_len, hr]) fun k hk => at_oL (by omega)
theorem f_fallsT {r : List Nat} {n : Nat} (hr : r.length = n) (hn : n ≤ 100) : f_falls (.tup (oL r)) = .ok (.lst (ltL (fll r n))) :=
  f_fallsG hr hn (by show some (D.int ((oL r).length : Int)) = _; rw [oL_len, hr]) fun k hk => at_oL (by omega)
theorem range_set {f : Nat → Nat} {n y v : Nat} (hy : y < n) : setD (oL ((List.range n).map f)) (.int (y : Nat)) (.int (v : Nat)) = some (oL ((List.range n).map fun x => if x = y then v else f x)) := by
  unfold setD
  have : ixN (oL ((List.range n).map f)).length (y : Nat) = some y := by
    unfold ixN
    rw [oL_len, List.length_map, List.length_range, if_pos (by omega), if_pos (by omega)]
    simp
  show Option.map _ (ixN _ _) = _
  rw [this, Option.map_some]
  congr 1
  unfold oL
  refine List.ext_getElem (by simp) fun i h1 h2 => ?_
  simp at h2
  simp only [List.getElem_set, List.getElem_map, List.getElem_range]
  by_cases c : y = i
  · subst c; simp
  · rw [if_neg c, if_neg (fun e => c e.symm)]
theorem fa_undo {n j : Nat} {a : List Nat} (ha : Pm n a) (hj : j + 1 < n) : fa j (undo a n) = !(up j a) := by
  have hl : (undo a n).length = n := by simp [undo]
  rw [fa_at j _ (by omega)]
  have g : ∀ k, k < n → (undo a n).getD k 0 = a.idxOf k := fun k hk => by simp [undo, hk]
  rw [g j (by omega), g (j + 1) hj]
  unfold up
  have ne : a.idxOf j ≠ a.idxOf (j + 1) := fun e => by
    have h1 := List.idxOf_lt_length_iff.mpr (ha.mem (show j < n by omega))
    have h2 := List.idxOf_lt_length_iff.mpr (ha.mem hj)
    have e1 : a[a.idxOf j] = j := List.getElem_idxOf h1
    have e2 : a[a.idxOf (j + 1)] = j + 1 := List.getElem_idxOf h2
    have : a[a.idxOf j] = a[a.idxOf (j + 1)] := by congr 1
    omega
  by_cases c : a.idxOf j < a.idxOf (j + 1)
  · rw [decide_eq_true c, decide_eq_false (by omega)]; rfl
  · rw [decide_eq_false c, decide_eq_true (by omega)]; rfl
def mvA (a b : List Nat) (n : Nat) : List Nat := (List.range (n - 1)).filter fun j => fa j b && up j a
theorem mvA_nil {a b : List Nat} {n : Nat} : mvA a b n = [] ↔ Std n a b := by
  unfold mvA
  rw [List.filter_eq_nil_iff]
  constructor
  · intro h j hj c
    exact h j (List.mem_range.mpr (by omega)) (by simp [c.1, c.2])
  · intro h j hj c
    have := List.mem_range.mp hj
    simp only [Bool.and_eq_true] at c
    exact h j (by omega) c
/-! movable letters of the program's orders -/
def oU (r : List Nat) : D := .tup (oL r)
theorem f_fallsU {r : List Nat} {n : Nat} (hr : r.length = n) (hn : n ≤ 100) : f_falls (oU r) = .ok (.lst (ltL (fll r n))) := f_fallsT hr hn
theorem f_undoneU {n : Nat} {a : List Nat} (ha : Pm n a) (hn : n ≤ 100) : f_undone_order (oU a) = .ok (.tup (oL (undo a n))) := by
  unfold f_undone_order
  have e0 : D.len [oU a] = some (.int (n : Nat)) := by show some (D.int ((oL a).length : Int)) = _; rw [oL_len, ha.len]
  have e1 : D.rep (.lst [.int 0]) (.int (n : Nat)) = some (oL ((List.range n).map fun _ => 0)) := by
    simp only [D.rep]
    rw [if_pos ⟨by omega, by omega, by simp; omega⟩]
    refine congrArg some ?_
    unfold oL
    rw [List.map_map, show ((n : Nat) : Int).toNat = n by omega]
    refine List.ext_getElem (by simp) fun i h1 h2 => ?_
    rw [List.getElem_map]
    have := List.getElem_mem h1
    rw [List.mem_flatten] at this
    obtain ⟨l, hl, hm⟩ := this
    rw [List.eq_of_mem_replicate hl] at hm
    have := List.mem_singleton.mp hm
    rw [this]; rfl
  have e2 : D.enumT (oU a) = some (enumD (oL a)) := rfl
  have e3 : enumD (oL a) = (List.range n).map fun k => D.tup [.int (k : Nat), .int (a.getD k 0 : Nat)] := by
    unfold enumD oL
    refine List.ext_getElem (by simp [ha.len]) fun i h1 h2 => ?_
    simp at h1
    simp [h1]
  simp only [bnd_ok, s_fits1, of_some, e0, e1, e2, e3]
  refine of_is ?_
  refine is_bnd (is_foldN (I := fun k l => l = oL ((List.range n).map fun x => if a.idxOf x < k then a.idxOf x else 0)) (by simp) fun k b hk hb => ?_) fun l hl => ?_
  · subst hb
    have hk2 : a.getD k 0 < n := by
      have : a.getD k 0 = a[k]'(by rw [ha.len]; exact hk) := by simp [show k < a.length by rw [ha.len]; exact hk]
      rw [this]; exact ha.lt (List.getElem_mem _)
    simp only [s_two, of_some, bnd_ok, range_set hk2]
    refine is_ok (congrArg oL ?_)
    refine List.map_congr_left fun x hx => ?_
    have hx := ha.mem (List.mem_range.mp hx)
    have := idx_get ha.nd (k := k) (x := x) (by rw [ha.len]; exact hk) hx
    by_cases c : x = a.getD k 0
    · rw [if_pos c, if_pos (by rw [this.mp c]; omega), this.mp c]
    · rw [if_neg c]
      have : a.idxOf x ≠ k := fun e => c (this.mpr e)
      by_cases d : a.idxOf x < k
      · rw [if_pos d, if_pos (by omega)]
      · rw [if_neg d, if_neg (by omega)]
  · subst hl
    unfold undo
    refine is_ok (congrArg (fun l => D.tup (oL l)) ?_)
    refine List.map_congr_left fun x hx => ?_
    have hx := ha.mem (List.mem_range.mp hx)
    have := List.idxOf_lt_length_iff.mpr hx
    rw [if_pos (by rw [ha.len] at this; exact this)]
theorem f_movableU {n : Nat} {a b : List Nat} (ha : Pm n a) (hb : Pm n b) (hn : n ≤ 100) : f_movable_letters (oU a) (oU b) = .ok (.lst (ltL (mvA a b n))) := by
  unfold f_movable_letters f_end_letters f_begin_letters
  simp only [bnd_ok, s_ap1, f_undoneU ha hn, f_fallsT (show (undo a n).length = n by simp [undo]) hn, f_fallsU hb.len hn, s_seqL, of_some]
  rw [show ltL (fll b n) = (fll b n).map fun j => D.int ((j + 1 : Nat) : Int) from rfl]
  rw [lcIR_ok (p := fun j => up j a) (h := fun j => D.int ((j + 1 : Nat) : Int)) (fll b n) (by
    have := List.length_filter_le (fun j => fa j b) (List.range (n - 1))
    unfold fll; simp at this ⊢; omega) (fun j hj => ?_) (fun _ _ => rfl)]
  · simp only [bnd_ok]
    unfold ltL mvA fll
    rw [List.filter_filter]
    congr 4
    funext j
    exact Bool.and_comm _ _
  · unfold fll at hj
    obtain ⟨hj, _⟩ := List.mem_filter.mp hj
    have hj := List.mem_range.mp hj
    have e : D.notin (.int ((j + 1 : Nat) : Int)) (.lst (ltL (fll (undo a n) n))) = some (up j a) := by
      have e1 : ltL (fll (undo a n) n) = ((fll (undo a n) n).map fun j => ((j + 1 : Nat) : Int)).map .int := by
        unfold ltL; rw [List.map_map]; rfl
      show Option.map _ (Option.map _ (intsD _)) = _
      rw [e1, Wk.ints_map, Option.map_some, Option.map_some]
      congr 1
      rw [← Bool.not_not (up j a), ← fa_undo ha (show j + 1 < n by omega)]
      congr 1
      rw [Bool.eq_iff_iff, List.contains_iff_mem, List.mem_map]
      constructor
      · rintro ⟨i, hi, e⟩
        have : i = j := by omega
        subst this
        exact (List.mem_filter.mp hi).2
      · intro h
        exact ⟨j, List.mem_filter.mpr ⟨List.mem_range.mpr hj, h⟩, rfl⟩
    simp only [bnd_ok, e, of_some]
/-! an order without a letter at its beginning -/
/-- an order as data -/
def RowO (r : List Nat) (d : D) : Prop := d = .tup (oL r) ∨ d = .tux (oL r)
theorem RowO.falls {r : List Nat} {n : Nat} {d : D} (h : RowO r d) (hr : r.length = n) (hn : n ≤ 100) : f_begin_letters d = .ok (.lst (ltL (fll r n))) := by
  unfold f_begin_letters
  simp only [bnd_ok, s_ap1]
  rcases h with rfl | rfl
  · exact f_fallsT hr hn
  · exact f_fallsO hr hn
theorem set_oL {r : List Nat} {k x : Nat} (hk : k < r.length) : setD (oL r) (.int (k : Nat)) (.int (x : Nat)) = some (oL (r.set k x)) := by
  unfold setD
  have : ixN (oL r).length (k : Nat) = some k := by
    unfold ixN
    rw [if_pos (by omega), if_pos (by rw [oL_len]; omega)]
    simp
  show Option.map _ (ixN _ _) = _
  rw [this]
  simp [oL, List.map_set]
theorem sp_set : ∀ (j : Nat) (r : List Nat), j + 1 < r.length → (r.set j (r.getD (j + 1) 0)).set (j + 1) (r.getD j 0) = sp j r
  | 0, x :: y :: r, _ => rfl
  | j + 1, x :: r, h => by
    have := sp_set j r (by simpa using h)
    show x :: _ = x :: _
    rw [← this]; rfl
  | 0, [], h => by simp at h
  | 0, [x], h => by simp at h
  | j + 1, [], h => by simp at h
theorem f_without {r : List Nat} {j : Nat} {d : D} (h : RowO r d) (hl : r.length ≤ 100) (hj : j + 1 < r.length) : f_without_begin d (.int ((j + 1 : Nat) : Int)) = .ok (.tup (oL (sp j r))) := by
  unfold f_without_begin
  have e0 : D.toLst [d] = some (oL r) := by rcases h with rfl | rfl <;> rfl
  have e1 : D.ix d (.int (((j + 1 : Nat) : Int) - 1)) = some (.int (r.getD j 0 : Nat)) := by
    rw [show ((j + 1 : Nat) : Int) - 1 = (j : Nat) by omega]
    rcases h with rfl | rfl
    · exact at_oL (by omega)
    · exact at_oL (by omega)
  have e2 : D.ix d (.int ((j + 1 : Nat) : Int)) = some (.int (r.getD (j + 1) 0 : Nat)) := by
    rcases h with rfl | rfl
    · exact at_oL (by omega)
    · exact at_oL (by omega)
  have e3 : setD (oL r) (.int (((j + 1 : Nat) : Int) - 1)) (.int (r.getD (j + 1) 0 : Nat)) = some (oL (r.set j (r.getD (j + 1) 0))) := by
    rw [show ((j + 1 : Nat) : Int) - 1 = (j : Nat) by omega]; exact set_oL (by omega)
  have e4 : setD (oL (r.set j (r.getD (j + 1) 0))) (.int ((j + 1 : Nat) : Int)) (.int (r.getD j 0 : Nat)) = some (oL ((r.set j (r.getD (j + 1) 0)).set (j + 1) (r.getD j 0))) := set_oL (by simpa using hj)
  simp only [bnd_ok, e0, of_some, s_sub, e1, e2, s_fits2, Option.map_some, s_two, e3, e4, sp_set j r hj]
/-! falls, at most -/
theorem inv_le : ∀ r : List Nat, inv r ≤ r.length * r.length
  | [] => Nat.le_refl _
  | x :: r => by
    have h1 := inv_le r
    have h2 := List.countP_le_length (p := fun y => decide (y < x)) (l := r)
    show List.countP _ r + inv r ≤ (r.length + 1) * (r.length + 1)
    rw [Nat.add_mul, Nat.mul_add]
    omega
theorem ms_le {n : Nat} : ∀ (rs : List (List Nat)) (k : Nat), (∀ r ∈ rs, Pm n r) → ms k rs ≤ rs.length * ((k + rs.length) * (n * n))
  | [], k, _ => Nat.zero_le _
  | r :: rs, k, h => by
    have h1 := ms_le rs (k + 1) fun x hx => h x (List.mem_cons_of_mem _ hx)
    have h2 := inv_le r
    rw [(h r (by simp)).len] at h2
    show k * inv r + ms (k + 1) rs ≤ (rs.length + 1) * ((k + (rs.length + 1)) * (n * n))
    have h3 : k * inv r ≤ (k + (rs.length + 1)) * (n * n) := Nat.mul_le_mul (by omega) h2
    have e : k + 1 + rs.length = k + (rs.length + 1) := by omega
    rw [e] at h1
    rw [Nat.add_mul, Nat.one_mul]
    omega
/-! the program's own form, put by put -/
@[simp] theorem s_fR {n p : D} {ds : List D} : D.fR FormC.c (D.ob FormC.c n p ds) = some (.lst ds) := if_pos rfl
@[simp] theorem s_fN {n p : D} {ds : List D} : D.fN FormC.c (D.ob FormC.c n p ds) = some n := if_pos rfl
@[simp] theorem s_fP {n p : D} {ds : List D} : D.fP FormC.c (D.ob FormC.c n p ds) = some p := if_pos rfl
@[simp] theorem s_isO {n p : D} {ds : List D} : D.isO FormC.c (D.ob FormC.c n p ds) = some (D.ob FormC.c n p ds) := if_pos rfl
@[simp] theorem s_flI {i : Int} : D.fl (.int i) = some (.int i) := by exact id rfl
theorem flTs_oL : ∀ r : List Nat, D.flTs (oL r) = true
  | [] => by rfl
  | x :: r => by show (D.flT (D.int _) && D.flTs (oL r)) = true; rw [flTs_oL r]; rfl
theorem flT_oU (r : List Nat) : D.flT (oU r) = true := flTs_oL r
@[simp] theorem s_flU {r : List Nat} : D.fl (oU r) = some (oU r) := if_pos (flT_oU r)
theorem flTs_rows : ∀ rs : List (List Nat), D.flTs (rs.map oU) = true
  | [] => by rfl
  | x :: r => by
    show (D.flT (oU x) && D.flTs (r.map oU)) = true
    rw [flT_oU, flTs_rows r]; rfl
theorem fls_rows {rs : List (List Nat)} : flsD (rs.map oU) = some (rs.map oU) := if_pos (flTs_rows rs)
theorem fl_two {a b : List Nat} : D.fl (.tup [oU a, oU b]) = some (.tup [oU a, oU b]) := if_pos (flTs_rows [a, b])
theorem oL_int (r : List Nat) : oL r = (r.map fun x => ((x : Nat) : Int)).map .int := by unfold oL; rw [List.map_map]; rfl
theorem nat_map_inj {a b : List Nat} : (a.map fun x : Nat => ((x : Nat) : Int)) = (b.map fun x : Nat => ((x : Nat) : Int)) ↔ a = b := List.map_inj_right fun a b h => by omega
theorem eq_oU {a b : List Nat} : D.eq (oU a) (oU b) = some (decide (a = b)) := by
  unfold oU
  rw [oL_int, oL_int, s_eqT]
  congr 1
  exact decide_eq_decide.mpr nat_map_inj
theorem f_plainU {n : Nat} (h : n < 1000) : f_plain_order (.int (n : Nat)) = .ok (oU (pln n)) := by
  unfold f_plain_order
  simp only [bnd_ok, s_toI, of_some, bnd2_ok, rgL_n (show n < 1000000 by omega)]
  rfl
theorem f_halfU {n : Nat} (h : n < 1000) : f_half_twist (.int (n : Nat)) = .ok (oU (hlf n)) := by
  unfold f_half_twist
  have e : rgLW 0 (n : Int) = some (oL (hlf n)) := by
    unfold rgLW
    rw [if_pos (by omega)]
    congr 1
    unfold upW oL hlf
    rw [show ((n : Int) - 0).toNat = n by omega]
    refine List.ext_getElem (by simp) fun i h1 h2 => ?_
    simp at h1
    simp only [List.getElem_map, List.getElem_range, List.getElem_reverse, List.length_range]
    congr 1
    omega
  simp only [bnd_ok, s_toI, of_some, bnd2_ok, e]
  rfl
theorem f_exchU {r : List Nat} {j : Nat} (hz : r.length ≤ 100) : f_exchanged (.lst (oL r)) (.int (j : Nat)) = .ok (.lst (oL (sv j r))) := by
  unfold f_exchanged oL
  simp only [bnd_ok, s_seqL, of_some, s_add, s_toI]
  rw [lcR_ok (h := fun x : Nat => D.int (tr j x : Nat)) r (by omega) fun x _ => ?_]
  · simp only [bnd_ok]
    unfold sv
    rw [List.map_map]
    rfl
  · show R.of (some (if (x : Int) = (j : Int) + 1 then D.int (j : Int) else if (x : Int) = (j : Int) then D.int ((j : Int) + 1) else D.int (x : Int))) = _
    unfold tr
    rw [of_some]
    by_cases c : x = j + 1
    · rw [if_pos (by omega), if_neg (by omega), if_pos c]
    · rw [if_neg (by omega)]
      by_cases d : x = j
      · rw [if_pos (by omega), if_pos d]; congr 2
      · rw [if_neg (by omega), if_neg d, if_neg c]
theorem f_withend {r : List Nat} {j : Nat} (hz : r.length ≤ 100) : f_with_end (oU r) (.int ((j + 1 : Nat) : Int)) = .ok (oU (sv j r)) := by
  unfold f_with_end
  have e0 : D.toLst [oU r] = some (oL r) := rfl
  have e1 : D.sub (.int ((j + 1 : Nat) : Int)) (.int 1) = some (.int (j : Nat)) := by rw [s_sub]; congr 2; omega
  simp only [bnd_ok, e0, e1, of_some, s_ap2, f_exchU hz]
  rfl
theorem f_letord {n j : Nat} (hn : n ≤ 100) : f_letter_order (.int (n : Nat)) (.int ((j + 1 : Nat) : Int)) = .ok (oU (sv j (pln n))) := by
  unfold f_letter_order
  have e1 : D.sub (.int ((j + 1 : Nat) : Int)) (.int 1) = some (.int (j : Nat)) := by rw [s_sub]; congr 2; omega
  have e2 : ((List.range n).map fun k => D.int (k : Nat)) = oL (pln n) := rfl
  simp only [bnd_ok, s_toI, of_some, bnd2_ok, rgL_n (show n < 1000000 by omega), e1, e2, s_ap2, f_exchU (show (pln n).length ≤ 100 by simpa using hn)]
  rfl
theorem f_flipU {n : Nat} {r : List Nat} (hp : Pm n r) (hn : n ≤ 100) : f_flipped_order (oU r) = .ok (oU (flp n r)) := by
  unfold f_flipped_order
  have hl := hp.len
  have e0 : D.len [oU r] = some (.int (n : Nat)) := by show some (D.int ((oL r).length : Int)) = _; rw [oL_len, hl]
  have e1 : (D.seq (oU r)).map List.reverse = some (r.reverse.map fun x : Nat => D.int (x : Nat)) := by
    show some (oL r).reverse = _
    unfold oL; rw [List.map_reverse]
  simp only [bnd_ok, e0, e1, of_some, s_sub]
  rw [lcR_ok (h := fun x : Nat => D.int ((n - 1 - x : Nat) : Int)) r.reverse (by simp; omega) fun x hx => ?_]
  · simp only [bnd_ok]
    unfold flp oU oL
    rw [List.map_map]
    rfl
  · have := hp.lt (List.mem_reverse.mp hx)
    rw [s_sub, of_some]
    congr 2
    omega
theorem M2.inv {n : Nat} {a b a' b' : List Nat} (h : M2 n a b a' b') : Pm n a → (a' = a ∧ b' = b) ∨ Lw.inv a < Lw.inv a' := by
  induction h with
  | refl _ _ => exact fun _ => .inl ⟨rfl, rfl⟩
  | step j h1 h2 h3 _ ih =>
    rename_i a b a' b' _
    intro ha
    have e := inv_sv a ha.nd (ha.mem h1) h3
    rcases ih (ha.sv h1) with ⟨e1, _⟩ | h
    · rw [e1]; exact .inr (by omega)
    · exact .inr (by omega)
theorem mvA_mem {n j : Nat} {a b : List Nat} (h : (mvA a b n).head? = some j) : j + 1 < n ∧ fa j b = true ∧ up j a = true := by
  have := List.mem_of_mem_head? h
  unfold mvA at this
  obtain ⟨h1, h2⟩ := List.mem_filter.mp this
  have := List.mem_range.mp h1
  simp only [Bool.and_eq_true] at h2
  exact ⟨by omega, h2.1, h2.2⟩
theorem ix_hd {l : List Nat} {j : Nat} (h : l.head? = some j) : D.ix (.lst (ltL l)) (.int 0) = some (.int ((j + 1 : Nat) : Int)) := by
  cases l with
  | nil => cases h
  | cons x l => cases h; exact atI_0
theorem f_setpair {n : Nat} {a b : List Nat} (ha : Pm n a) (hb : Pm n b) (hn : n ≤ 16) : Is (f_settled_pair (oU a) (oU b)) fun r => ∃ a' b', r = .tup [oU a', oU b'] ∧ M2 n a b a' b' ∧ Std n a' b' := by
  unfold f_settled_pair
  simp only [bnd_ok, s_ap2, f_movableU ha hb (show n ≤ 100 by omega)]
  have key : ∀ (test : D × D × D → R Bool) (step : D × D × D → R (D × D × D)), (∀ a b, test (oU a, oU b, .lst (ltL (mvA a b n))) = .ok (decide (mvA a b n ≠ []))) → (∀ a b j, Pm n a → Pm n b → (mvA a b n).head? = some j → step (oU a, oU b, .lst (ltL (mvA a b n))) = .ok (oU (sv j a), oU (sp j b), .lst (ltL (mvA (sv j a) (sp j b) n)))) →
      ∀ (N : Nat) (a b : List Nat), Pm n a → Pm n b → inv b < N → Is (whileN test step N (oU a, oU b, .lst (ltL (mvA a b n)))) fun r => ∃ a' b', r.1 = oU a' ∧ r.2.1 = oU b' ∧ M2 n a b a' b' ∧ Std n a' b' := by
    intro test step ht hs N
    induction N with
    | zero => intro a b _ _ h; exact absurd h (by omega)
    | succ N ih =>
      intro a b ha hb hN
      rw [while_Z, ht, bnd_ok]
      cases e : (mvA a b n).head? with
      | none =>
        have e := List.head?_eq_none_iff.mp e
        rw [e]
        exact is_ok ⟨a, b, rfl, rfl, .refl _ _, mvA_nil.mp e⟩
      | some j =>
        obtain ⟨h1, h2, h3⟩ := mvA_mem e
        have hne : mvA a b n ≠ [] := fun q => by rw [q] at e; cases e
        rw [decide_eq_true hne, if_pos rfl, hs a b j ha hb e, bnd_ok]
        have := inv_sp j b h2
        exact (ih (sv j a) (sp j b) (ha.sv h1) hb.sp (by omega)).mono fun r ⟨a', b', q1, q2, q3, q4⟩ => ⟨a', b', q1, q2, .step j h1 h2 h3 q3, q4⟩
  have hi := inv_le b
  rw [hb.len] at hi
  have : n * n ≤ 16 * 16 := Nat.mul_le_mul hn hn
  refine is_bnd (key _ _ (fun a b => ?_) (fun a b j ha hb hj => ?_) 1000000 a b ha hb (by omega)) fun r ⟨a', b', q1, q2, q3, q4⟩ => ?_
  · simp only [s_lenL, of_some, bnd_ok, s_gt]
    congr 1
    refine decide_eq_decide.mpr ?_
    rw [← List.length_pos_iff]
    simp [ltL]
  · obtain ⟨h1, h2, h3⟩ := mvA_mem hj
    have la := ha.len
    have lb := hb.len
    simp only [ix_hd hj, of_some, bnd_ok, s_ap2, f_withend (show a.length ≤ 100 by omega), f_without (.inl rfl) (show b.length ≤ 100 by omega) (show j + 1 < b.length by omega)]
    have := f_movableU (ha.sv h1) (hb.sp (j := j)) (show n ≤ 100 by omega)
    have e : D.tup (oL (sp j b)) = oU (sp j b) := rfl
    simp only [f_without (d := oU b) (.inl rfl) (show b.length ≤ 100 by omega) (show j + 1 < b.length by omega), bnd_ok, e, this]
  · rw [q1, q2]
    exact is_ok ⟨a', b', rfl, q3, q4⟩
/-- a pair within a row -/
theorem M2.set {n : Nat} {a' b' : List Nat} : ∀ (k : Nat) (rs : List (List Nat)), k + 1 < rs.length → M2 n (rw1 rs k) (rw1 rs (k + 1)) a' b' → Ms n rs ((rs.set k a').set (k + 1) b')
  | 0, a :: b :: rs, _, h => h.ms rs
  | k + 1, r :: rs, hk, h => (M2.set k rs (by simpa using hk) h).tl
  | 0, [], h, _ => by simp at h
  | 0, [x], h, _ => by simp at h
  | k + 1, [], h, _ => by simp at h
theorem Ms.down {n : Nat} {rs ts : List (List Nat)} (h : Ms n rs ts) : AP n rs → rs = ts ∨ ms 0 ts < ms 0 rs := by
  induction h with
  | refl _ => exact fun _ => .inl rfl
  | step m _ ih =>
    intro hp
    have := m.ms hp 0
    rcases ih (m.pm hp) with rfl | h
    · exact .inr (by omega)
    · exact .inr (by omega)
theorem set2_rw {rs : List (List Nat)} {k i : Nat} {a b : List Nat} (hk : k + 1 < rs.length) : rw1 ((rs.set k a).set (k + 1) b) i = if i = k then a else if i = k + 1 then b else rw1 rs i := by
  unfold rw1
  by_cases c1 : i = k
  · subst c1
    rw [if_pos rfl, List.getD_eq_getElem?_getD, List.getElem?_set_ne (by omega), List.getElem?_set_self (by omega)]
    rfl
  · rw [if_neg c1]
    by_cases c2 : i = k + 1
    · subst c2
      rw [if_pos rfl, List.getD_eq_getElem?_getD, List.getElem?_set_self (by simpa using hk)]
      rfl
    · rw [if_neg c2, List.getD_eq_getElem?_getD, List.getElem?_set_ne (by omega), List.getElem?_set_ne (by omega), ← List.getD_eq_getElem?_getD]
theorem whl_form {n : Nat} {s1 s2 : D} {test : FT × D → R Bool} {step : FT × D → R (FT × D)}
    (ht : ∀ (rs : List (List Nat)) (k : Nat), test ((s1, s2, rs.map oU), .int (k : Nat)) = .ok (decide (k + 1 < rs.length)))
    (hs : ∀ (rs : List (List Nat)) (k : Nat), AP n rs → k + 1 < rs.length → Is (step ((s1, s2, rs.map oU), .int (k : Nat))) fun R => ∃ a' b', M2 n (rw1 rs k) (rw1 rs (k + 1)) a' b' ∧ Std n a' b' ∧ R = if a' = rw1 rs k then ((s1, s2, rs.map oU), .int ((k + 1 : Nat) : Int)) else ((s1, s2, ((rs.set k a').set (k + 1) b').map oU), .int ((k - 1 : Nat) : Int))) :
    ∀ (N : Nat) (rs : List (List Nat)) (k : Nat), AP n rs → k ≤ rs.length → (∀ i, i < k → i + 1 < rs.length → Std n (rw1 rs i) (rw1 rs (i + 1))) → 2 * ms 0 rs + (rs.length - k) < N →
      Is (whileN test step N ((s1, s2, rs.map oU), .int (k : Nat))) fun r => ∃ ts, r.1 = (s1, s2, ts.map oU) ∧ Ms n rs ts ∧ StR n ts
  | 0, _, _, _, _, _, h => absurd h (by omega)
  | N + 1, rs, k, hp, hk, hst, hN => by
    rw [while_Z, ht, bnd_ok]
    by_cases c : k + 1 < rs.length
    · rw [decide_eq_true c, if_pos rfl]
      refine is_bnd (hs rs k hp c) fun R ⟨a', b', q1, q2, q3⟩ => ?_
      subst q3
      have pa := rw1_pm hp (show k < rs.length by omega)
      by_cases d : a' = rw1 rs k
      · rw [if_pos d]
        have eb : b' = rw1 rs (k + 1) := by
          rcases q1.inv pa with ⟨_, e⟩ | h
          · exact e
          · rw [d] at h; omega
        subst d eb
        refine whl_form ht hs N rs (k + 1) hp (by omega) (fun i hi h1 => ?_) (by omega)
        by_cases e : i = k
        · subst e; exact q2
        · exact hst i (by omega) h1
      · rw [if_neg d]
        have hm := q1.set k rs c
        have hl : ((rs.set k a').set (k + 1) b').length = rs.length := by simp
        have hd : ms 0 ((rs.set k a').set (k + 1) b') < ms 0 rs := by
          rcases hm.down hp with e | h
          · exfalso
            have := set2_rw (a := a') (b := b') (i := k) c
            rw [← e, if_pos rfl] at this
            exact d this.symm
          · exact h
        refine (whl_form ht hs N _ (k - 1) (hm.pm hp) (by omega) (fun i hi h3 => ?_) (by omega)).mono fun r ⟨ts, w1, w2, w3⟩ => ⟨ts, w1, hm.trans w2, w3⟩
        rw [set2_rw c, set2_rw c, if_neg (by omega), if_neg (by omega), if_neg (by omega), if_neg (by omega)]
        exact hst i (by omega) (by omega)
    · rw [decide_eq_false c, if_neg (by decide)]
      exact is_ok ⟨rs, rfl, .refl _, sts_r _ fun i hi => hst i (by omega) hi⟩
theorem set_U {rs : List (List Nat)} {k : Nat} {r : List Nat} (hk : k < rs.length) : setD (rs.map oU) (.int (k : Nat)) (oU r) = some ((rs.set k r).map oU) := by
  unfold setD
  have : ixN (rs.map oU).length (k : Nat) = some k := by
    unfold ixN
    rw [if_pos (by omega), if_pos (by rw [List.length_map]; omega)]
    simp
  show Option.map _ (ixN _ _) = _
  rw [this]
  simp [List.map_set]
theorem at_U {rs : List (List Nat)} {k : Nat} (hk : k < rs.length) : D.ix (.lst (rs.map oU)) (.int (k : Nat)) = some (oU (rw1 rs k)) := by
  refine atI_k ?_
  rw [List.getElem?_map, List.getElem?_eq_getElem hk]
  simp [rw1, hk]
theorem f_settle {n : Nat} {q : D} {m : List (List Nat)} {r : List Nat} (hn : n ≤ 16) (hp : AP n (m ++ [r])) (hs : StR n m) (hl : m.length ≤ 1000) (hm : ms 0 (m ++ [r]) ≤ 400000) :
    Is (f_Form_settle (.int (n : Nat), q, (m ++ [r]).map oU)) fun R => R = (.int (n : Nat), q, (nf n (m ++ [r])).map oU) := by
  unfold f_Form_settle
  have e0 : D.max2 [.int 0, .int (((m ++ [r]).length : Nat) - 2)] = some (.int ((m.length - 1 : Nat) : Int)) := by
    show some (D.int (if (((m ++ [r]).length : Nat) : Int) - 2 > 0 then _ else _)) = _
    rw [List.length_append, List.length_singleton]
    congr 2
    split <;> omega
  simp only [bnd_ok, s_fR, of_some, s_lenL, List.length_map, s_sub, e0, s_flI]
  refine is_bnd (whl_form (n := n) (s1 := .int (n : Nat)) (s2 := q) (fun rs k => ?_) (fun rs k hp hk => ?_) 1000000 (m ++ [r]) (m.length - 1) hp (by simp; omega) (fun i hi h1 => ?_) (by simp; omega)) fun R ⟨ts, q1, q2, q3⟩ => ?_
  · simp only [bnd_ok, s_fR, s_lenL, of_some, s_flI, s_sub, s_lt, List.length_map]
    congr 1
    exact decide_eq_decide.mpr (by omega)
  · have p1 := rw1_pm hp (show k < rs.length by omega)
    have p2 := rw1_pm hp hk
    have ix2 : D.ix (.lst (rs.map oU)) (.int ((k : Nat) + 1)) = some (oU (rw1 rs (k + 1))) := at_U hk
    obtain ⟨d, ed, a', b', q1, q2, q3⟩ := f_setpair p1 p2 hn
    simp only [bnd_ok, s_fR, of_some, s_add, at_U (show k < rs.length by omega), ix2, s_ap2, ed, q1, fl_two, s_bU2, s_flU, eq_oU]
    by_cases c : a' = rw1 rs k
    · rw [decide_eq_true c, if_pos rfl]
      exact is_ok ⟨a', b', q2, q3, by rw [if_pos c]; rfl⟩
    · rw [decide_eq_false c, if_neg (by decide)]
      have st2 : setD ((rs.set k a').map oU) (.int ((k : Nat) + 1)) (oU b') = some (((rs.set k a').set (k + 1) b').map oU) := set_U (k := k + 1) (by simpa using hk)
      simp only [set_U (show k < rs.length by omega), of_some, bnd_ok, st2, s_sub]
      have e1 : D.max2 [.int 0, .int ((k : Nat) - 1)] = some (.int ((k - 1 : Nat) : Int)) := by
        show some (D.int (if (k : Int) - 1 > 0 then _ else _)) = _
        congr 2
        split <;> omega
      simp only [e1, of_some, bnd_ok]
      exact is_ok ⟨a', b', q2, q3, by rw [if_neg c]⟩
  · have sm := r_sts m hs i (by omega)
    have g : ∀ j, j < m.length → rw1 (m ++ [r]) j = rw1 m j := fun j hj => by
      unfold rw1
      rw [List.getD_eq_getElem?_getD, List.getD_eq_getElem?_getD, List.getElem?_append_left hj]
    rw [g i (by omega), g (i + 1) (by omega)]
    exact sm
  · rw [q1, nf_eq hp q2 q3]
    exact is_ok rfl
theorem atI_end {α : Type} {xs : List α} {x : α} : atI (xs ++ [x]) (-1) = some x := by
  unfold atI ixN
  simp only [List.length_append, List.length_cons, List.length_nil]
  rw [if_neg (by decide), if_pos (by omega)]
  show (xs ++ [x])[_]? = _
  rw [show ((-1 : Int) + ((xs.length + (0 + 1) : Nat) : Int)).toNat = xs.length by omega]
  simp
theorem pop_tail {n : Nat} {s1 s2 : D} {test : FT → R Bool} {step : FT → R FT} {xs : List (List Nat)} (hx : xs = [] ∨ ∃ ys y, xs = ys ++ [y] ∧ y ≠ pln n)
    (t0 : test (s1, s2, []) = .ok false) (t1 : ∀ ys y, test (s1, s2, (ys ++ [y]).map oU) = .ok (decide (y = pln n))) (hs : ∀ ys y, step (s1, s2, (ys ++ [y]).map oU) = .ok (s1, s2, ys.map oU)) :
    ∀ (l N : Nat), l < N → whileN test step N (s1, s2, (xs ++ List.replicate l (pln n)).map oU) = .ok (s1, s2, xs.map oU)
  | _, 0, h => absurd h (by omega)
  | 0, N + 1, _ => by
    rw [while_Z, List.replicate_zero, List.append_nil]
    rcases hx with rfl | ⟨ys, y, rfl, h⟩
    · show (test (s1, s2, [])).bnd _ = _
      rw [t0]; rfl
    · rw [t1, decide_eq_false h]; rfl
  | l + 1, N + 1, h => by
    rw [while_Z, List.replicate_succ', ← List.append_assoc, t1, decide_eq_true rfl, bnd_ok, if_pos rfl, hs, bnd_ok]
    exact pop_tail hx t0 t1 hs l N (by omega)
theorem pop_head {n : Nat} {s1 : D} {test : FT → R Bool} {step : FT → R FT} {m : List (List Nat)} (hm : m = [] ∨ ∃ y ys, m = y :: ys ∧ y ≠ hlf n)
    (t0 : ∀ s2, test (s1, s2, []) = .ok false) (t1 : ∀ s2 y ys, test (s1, s2, (y :: ys).map oU) = .ok (decide (y = hlf n))) (hs : ∀ (p : Int) y ys, step (s1, .int p, (y :: ys).map oU) = .ok (s1, .int (p + 1), ys.map oU)) :
    ∀ (k N : Nat) (p : Int), k < N → whileN test step N (s1, .int p, (List.replicate k (hlf n) ++ m).map oU) = .ok (s1, .int (p + (k : Nat)), m.map oU)
  | _, 0, _, h => absurd h (by omega)
  | 0, N + 1, p, _ => by
    rw [while_Z, List.replicate_zero, List.nil_append, show p + ((0 : Nat) : Int) = p by omega]
    rcases hm with rfl | ⟨y, ys, rfl, h⟩
    · show (test (s1, _, [])).bnd _ = _
      rw [t0]; rfl
    · rw [t1, decide_eq_false h]; rfl
  | k + 1, N + 1, p, h => by
    rw [while_Z, List.replicate_succ, List.cons_append, t1, decide_eq_true rfl, bnd_ok, if_pos rfl, hs, bnd_ok, pop_head hm t0 t1 hs k N (p + 1) (by omega), show p + 1 + (k : Int) = p + ((k + 1 : Nat) : Int) by omega]
theorem f_putord {n : Nat} {q : Int} {m : List (List Nat)} {r : List Nat} (h2 : 2 ≤ n) (hn : n ≤ 16) (hp : AP n (m ++ [r])) (hs : StR n m) (hl : m.length ≤ 1000) (hm : ms 0 (m ++ [r]) ≤ 400000) :
    f_Form_put_order (.int (n : Nat), .int q, m.map oU) (oU r) = .ok (.int (n : Nat), .int (norm n q (m ++ [r])).1, (norm n q (m ++ [r])).2.map oU) := by
  unfold f_Form_put_order
  have e0 : appD (m.map oU) (oU r) = some ((m ++ [r]).map oU) := by
    unfold appD
    rw [if_pos (by simp; omega), List.map_append]; rfl
  have hset := of_is (f_settle (q := .int q) hn hp hs hl hm)
  obtain ⟨h3, h4⟩ := nf_spec hp
  obtain ⟨k, m', l, e, hm', ha⟩ := st_is _ (nf_pm hp) h4
  have hlen : (nf n (m ++ [r])).length = m.length + 1 := by rw [h3.len]; simp
  have hn2 : norm n q (m ++ [r]) = (q + (k : Nat), m') := norm_to (l := l) h2 hp (by rw [← e]; exact h3) hm' ha
  rw [e] at hlen
  unfold Shp at hlen
  simp only [List.length_append, List.length_replicate] at hlen
  rw [hn2]
  simp only [bnd_ok, e0, of_some, s_apF0, hset]
  rw [e]
  unfold Shp
  rw [← List.append_assoc]
  rw [pop_tail (n := n) (xs := List.replicate k (hlf n) ++ m') ?_ ?_ (fun ys y => ?_) (fun ys y => ?_) l 1000000 (by omega), bnd_ok]
  · rw [pop_head (n := n) (m := m') ?_ (fun s2 => ?_) (fun s2 y ys => ?_) (fun p y ys => ?_) k 1000000 q (by omega), bnd_ok]
    · cases m' with
      | nil => exact .inl rfl
      | cons y ys => exact .inr ⟨y, ys, rfl, (mid_iff.mp (ha y (by simp))).2⟩
    · simp only [bnd_ok, s_fR, of_some, s_lenL, s_flI, s_gt]
      rfl
    · have ix0 : D.ix (.lst ((y :: ys).map oU)) (.int 0) = some (oU y) := atI_0
      simp only [bnd_ok, s_fR, s_fN, of_some, s_lenL, s_flI, s_gt, ix0, s_flU, s_ap1, f_halfU (show n < 1000 by omega), eq_oU]
      rw [decide_eq_true (show (0 : Int) < (((y :: ys).map oU).length : Nat) by simp), if_pos rfl]
    · have e1 : popAtD ((y :: ys).map oU) (.int 0) = some (oU y, ys.map oU) := by
        have : seqIndex? 0 ((y :: ys).map oU).length = some 0 := by
          unfold seqIndex?; simp
        simp only [popAtD]
        rw [if_pos (by omega), this]; rfl
      simp only [bnd_ok, e1, of_some, s_fP, s_add, s_flI]
  · rcases List.eq_nil_or_concat m' with rfl | ⟨ys, y, rfl⟩
    · cases k with
      | zero => exact .inl rfl
      | succ k => exact .inr ⟨List.replicate k (hlf n), hlf n, by rw [List.append_nil, List.replicate_succ'], fun e => hp_ne h2 e.symm⟩
    · exact .inr ⟨List.replicate k (hlf n) ++ ys, y, by rw [List.concat_eq_append, List.append_assoc], (mid_iff.mp (ha y (by simp))).1⟩
  · simp only [bnd_ok, s_fR, of_some, s_lenL, s_flI, s_gt]
    rfl
  · have ix0 : D.ix (.lst ((ys ++ [y]).map oU)) (.int (-1)) = some (oU y) := by
      rw [List.map_append]; exact atI_end
    simp only [bnd_ok, s_fR, s_fN, of_some, s_lenL, s_flI, s_gt, s_neg, ix0, s_flU, s_ap1, f_plainU (show n < 1000 by omega), eq_oU]
    rw [decide_eq_true (show (0 : Int) < (((ys ++ [y]).map oU).length : Nat) by simp), if_pos rfl]
  · have e1 : popD ((ys ++ [y]).map oU) = some (ys.map oU) := by
      unfold popD
      rw [if_neg (by simp), List.map_append]
      simp
    simp only [bnd_ok, e1, of_some]
/-- a letter behind, nothing settled -/
def raw (n : Nat) (s : Int × List (List Nat)) (l : Int) : Int × List (List Nat) :=
  if 0 < l then (s.1, s.2 ++ [sv (l.toNat - 1) (pln n)]) else (s.1 - 1, s.2.map (flp n) ++ [sv ((-l).toNat - 1) (hlf n)])
theorem raw_pm {n : Nat} {s : Int × List (List Nat)} {l : Int} (hs : AP n s.2) (hl : l ≠ 0 ∧ -(n : Int) < l ∧ l < n) : AP n (raw n s l).2 := by
  unfold raw
  split
  · exact ap_app.mpr ⟨hs, ap_cons.mpr ⟨(pm_pln n).sv (by omega), fun r hr => by cases hr⟩⟩
  · exact ap_app.mpr ⟨ap_map hs, ap_cons.mpr ⟨(pm_hlf n).sv (by omega), fun r hr => by cases hr⟩⟩
/-- a form -/
structure NF (n : Nat) (s : Int × List (List Nat)) : Prop where
  pm : AP n s.2
  st : StR n s.2
  md : ∀ r ∈ s.2, mid n r = true
noncomputable def put (n : Nat) (s : Int × List (List Nat)) (l : Int) : Int × List (List Nat) := norm n (raw n s l).1 (raw n s l).2
theorem norm_nf {n : Nat} {p : Int} {rs : List (List Nat)} (hn : 2 ≤ n) (hp : AP n rs) : NF n (norm n p rs) := by
  obtain ⟨k, m, l, h1, h2, h3, h4, h5⟩ := norm_is hn hp
  rw [h5]
  exact ⟨h4, h2, h3⟩
theorem f_put {n : Nat} {s : Int × List (List Nat)} {l : Int} (h2 : 2 ≤ n) (hn : n ≤ 16) (hs : NF n s) (hl : l ≠ 0 ∧ -(n : Int) < l ∧ l < n) (hz : s.2.length ≤ 1000) (hm : ms 0 (raw n s l).2 ≤ 400000) :
    f_Form_put (.int (n : Nat), .int s.1, s.2.map oU) (.int l) = .ok (.int (n : Nat), .int (put n s l).1, (put n s l).2.map oU) := by
  obtain ⟨q, m⟩ := s
  unfold f_Form_put put
  have hpm := raw_pm hs.pm hl
  unfold raw at hm hpm ⊢
  by_cases c : 0 < l
  · rw [if_pos c] at hm hpm ⊢
    obtain ⟨j, rfl⟩ : ∃ j : Nat, l = ((j + 1 : Nat) : Int) := ⟨l.toNat - 1, by omega⟩
    rw [show ((j + 1 : Nat) : Int).toNat - 1 = j by omega] at hm hpm ⊢
    simp only [bnd_ok, s_gt, of_some, decide_eq_true c, if_true, s_fN, s_ap2, f_letord (show n ≤ 100 by omega), s_flU, s_apF1]
    rw [f_putord h2 hn hpm hs.st hz hm]
    rfl
  · rw [if_neg c] at hm hpm ⊢
    obtain ⟨j, e⟩ : ∃ j : Nat, -l = ((j + 1 : Nat) : Int) := ⟨(-l).toNat - 1, by omega⟩
    obtain rfl : l = -((j + 1 : Nat) : Int) := by omega
    rw [show (- -((j + 1 : Nat) : Int)).toNat - 1 = j by omega] at hm hpm ⊢
    have lc : lcR (fun d5 => f_flipped_order d5) (m.map oU) = .ok ((m.map (flp n)).map oU) := by
      rw [lcR_ok (h := fun r => oU (flp n r)) m (by simp at hz; omega) fun r hr => f_flipU (hs.pm r hr) (by omega)]
      rw [List.map_map]; rfl
    have e1 : D.sub (.int 0) (.int (-((j + 1 : Nat) : Int))) = some (.int ((j + 1 : Nat) : Int)) := by rw [s_sub]; congr 2; omega
    simp only [bnd_ok, s_gt, of_some, decide_eq_false c, Bool.false_eq_true, if_false, s_fN, s_fP, s_fR, s_sub, s_flI, s_seqL, s_ap1, lc, fls_rows, f_halfU (show n < 1000 by omega), s_ap2]
    have e2 : f_with_end (oU (hlf n)) (.int (0 - -((j + 1 : Nat) : Int))) = .ok (oU (sv j (hlf n))) := by
      rw [show 0 - -((j + 1 : Nat) : Int) = ((j + 1 : Nat) : Int) by omega]
      exact f_withend (by simp; omega)
    simp only [e2, bnd_ok, s_flU, of_some, s_apF1]
    rw [f_putord h2 hn hpm (st_flp m hs.pm hs.st) (by simpa using hz) hm]
    rfl
/-! what is drawn -/
theorem f_cell (ns : List Int) (k : Nat) (hk : ns.length < 16000000) : ∃ i : Int, f__law_cell_at (.frl (ns.map D.int)) (.int k) = .ok (.int i) := by
  unfold f__law_cell_at
  simp only [bnd_ok, s_lenF, of_some, List.length_map, s_lt]
  by_cases h : (k : Int) < ns.length
  · refine ⟨ns[k]'(by omega), ?_⟩
    simp only [h, decide_true, if_true, s_ixF, atI_map]
    rw [atI_k (List.getElem?_eq_getElem (by omega))]
    rfl
  · exact ⟨0, by simp [h]⟩
/-- a state that numbers are drawn from -/
def Dr (s : List D) : Prop := ∃ (a : Int) (b : Bool), s = [.int a, .bl b] ∧ 0 ≤ a ∧ (b = false → a < 2147483647)
theorem f_state (ns : List Int) (k : Nat) (hk : ns.length < 16000000) : ∃ s, f__law_state (.frl (ns.map D.int)) (.int k) = .ok s ∧ Dr s := by
  obtain ⟨i, e⟩ := f_cell ns k hk
  unfold f__law_state
  have hp : D.pow (.int 10) (.int 18) = some (.int 1000000000000000000) := rfl
  simp only [bnd_ok, s_ap2, e, hp, of_some, s_ge, s_sub, s_fits2]
  by_cases h : (1000000000000000000 : Int) ≤ i
  · refine ⟨_, by simp only [h, decide_true, if_true, bnd_ok, s_fits2, of_some], i - 1000000000000000000, true, rfl, by omega, by simp⟩
  · refine ⟨_, by simp only [h, decide_false, s_mod (show (0 : Int) < 2147483647 by decide), of_some, bnd_ok, s_fits2]; rfl, i % 2147483647, false, rfl, by omega, by omega⟩
theorem f_choice {s : List D} (hs : Dr s) {m : Int} (hm : 0 < m) (hm2 : m < 1000000000000) : ∃ (r : Int) (s' : List D), f__law_choice s (.int m) = .ok (.int r, s') ∧ 0 ≤ r ∧ r < m ∧ Dr s' := by
  obtain ⟨a, b, rfl, ha, hb⟩ := hs
  have set0 : ∀ (x y d : D), setD [x, y] (.int 0) d = some [d, y] := fun _ _ _ => rfl
  unfold f__law_choice
  cases b with
  | true =>
    refine ⟨a % m, _, by simp only [bnd_ok, of_some, s_ixL, atI_0, atI_1, s_bool, if_true, s_mod hm, s_div hm hm2, set0]; rfl, Int.emod_nonneg _ (by omega), Int.emod_lt_of_pos _ hm, _, true, rfl, Int.ediv_nonneg ha (by omega), by simp⟩
  | false =>
    have ha2 := hb rfl
    have p1 : (0 : Int) < 2147483647 := by decide
    have p2 : (0 : Int) < 2147483629 := by decide
    have p3 : (0 : Int) < 2147483587 := by decide
    simp only [bnd_ok, of_some, s_ixL, atI_0, atI_1, s_bool, s_mulR (show (-(2 ^ 64) : Int) < 48271 ∧ (48271 : Int) < 2 ^ 64 by decide), s_add, s_mod p1, set0, Bool.false_eq_true, if_false]
    generalize hu : (a * 48271 + 29) % 2147483647 = u
    have u0 : 0 ≤ u := by rw [← hu]; exact Int.emod_nonneg _ (by decide)
    have u1 : u < 2147483647 := by rw [← hu]; exact Int.emod_lt_of_pos _ p1
    simp only [s_mul (show (-(2 ^ 64) : Int) < u ∧ u < 2 ^ 64 by omega), s_mul (show (-(2 ^ 64) : Int) < 39373 ∧ (39373 : Int) < 2 ^ 64 by decide), s_add, of_some, bnd_ok, s_mod p2]
    generalize hv : (u * u + 39373 * u + 7) % 2147483629 = v
    have v0 : 0 ≤ v := by rw [← hv]; exact Int.emod_nonneg _ (by decide)
    have v1 : v < 2147483629 := by rw [← hv]; exact Int.emod_lt_of_pos _ p2
    simp only [s_mul (show (-(2 ^ 64) : Int) < v ∧ v < 2 ^ 64 by omega), s_mul (show (-(2 ^ 64) : Int) < 16807 ∧ (16807 : Int) < 2 ^ 64 by decide), s_add, of_some, bnd_ok, s_mod p3]
    generalize hw : (v * v + 16807 * v) % 2147483587 = w
    simp only [s_div (show (0 : Int) < 8 by decide) (by decide), s_mod hm, of_some, bnd_ok]
    exact ⟨_, _, rfl, Int.emod_nonneg _ (by omega), Int.emod_lt_of_pos _ hm, u, false, rfl, u0, fun _ => u1⟩
/-! plaits that are drawn -/
/-- letters of so many strands -/
def Lt (n : Int) (w : List Int) : Prop := ∀ x ∈ w, x ≠ 0 ∧ -n < x ∧ x < n
theorem is_choice {s : List D} (hs : Dr s) {m : Int} (hm : 0 < m) (hm2 : m < 1000000000000) : Is (f__law_choice s (.int m)) fun r => ∃ x : Int, r.1 = .int x ∧ 0 ≤ x ∧ x < m ∧ Dr r.2 := by
  obtain ⟨x, s', e, h0, h1, h2⟩ := f_choice hs hm hm2
  exact ⟨_, e, x, rfl, h0, h1, h2⟩
theorem is_wordE {s : List D} (hs : Dr s) {n c : Int} (hn : 1 ≤ n) (hn2 : n < 16000000) (hc : 0 ≤ c) (hc2 : c < 16000000) : Is (f__law_word s (.int n) (.int c)) fun r => ∃ w : List Int, r.1 = .tup (w.map D.int) ∧ (w.length : Int) ≤ c ∧ (2 ≤ n → (w.length : Int) = c) ∧ Lt n w ∧ Dr r.2 := by
  unfold f__law_word
  simp only [bnd_ok, s_lt, of_some]
  by_cases h : n < 2
  · refine is_eq (by simp [h]; rfl) ⟨[], rfl, by simpa using hc, by omega, fun x hx => by simp at hx, hs⟩
  · simp only [h, decide_false, Bool.false_eq_true, if_false, s_rg1 hc hc2, of_some, bnd_ok, s_neg, s_fits2]
    simp
    refine is_bnd2 (is_lcVI Dr (fun x => x ≠ 0 ∧ -n < x ∧ x < n) hs (by simp; omega) fun s d _ hs => ?_) fun ds s' ⟨w, q1, q2, q3, q4⟩ => ?_
    · refine is_bnd2 (is_choice hs (by decide) (by decide)) fun _ s1 ⟨x, ex, x0, x1, h1⟩ => ?_
      dsimp only at ex h1
      subst ex
      obtain rfl | rfl : x = 0 ∨ x = 1 := by omega
      all_goals
        simp
        refine is_bnd2 (is_choice h1 (by omega) (by omega)) fun _ s2 ⟨y, ey, y0, y1, h2⟩ => ?_
        dsimp only at ey h2
        subst ey
        simp
      · rw [s_mul (by decide)]
        exact is_ok ⟨⟨_, rfl, by omega, by omega, by omega⟩, h2⟩
      · rw [s_mul (by decide)]
        exact is_ok ⟨⟨_, rfl, by omega, by omega, by omega⟩, h2⟩
    · dsimp only at q1 q4
      subst q1
      simp at q2
      exact is_ok ⟨w, rfl, by omega, by omega, q3, q4⟩

theorem is_word {s : List D} (hs : Dr s) {n c : Int} (hn : 1 ≤ n) (hn2 : n < 16000000) (hc : 0 ≤ c) (hc2 : c < 16000000) : Is (f__law_word s (.int n) (.int c)) fun r => ∃ w : List Int, r.1 = .tup (w.map D.int) ∧ (w.length : Int) ≤ c ∧ Lt n w ∧ Dr r.2 :=
  (is_wordE hs hn hn2 hc hc2).mono fun _ ⟨w, a, b, _, d, e⟩ => ⟨w, a, b, d, e⟩
theorem is_plait {s : List D} (hs : Dr s) {a b c : Int} (ha : 1 ≤ a) (hb : a ≤ b) (hb2 : b < 100000) (hc : 0 ≤ c) (hc2 : c < 100000) : Is (f__law_plait s (.int a) (.int b) (.int c)) fun r => ∃ (n : Int) (w : List Int), r.1 = plD n w ∧ a ≤ n ∧ n ≤ b ∧ (w.length : Int) ≤ c ∧ Lt n w ∧ Dr r.2 := by
  unfold f__law_plait
  try simp
  refine is_bnd2 (is_choice hs (by omega) (by omega)) fun _ s1 ⟨x, ex, x0, x1, h1⟩ => ?_
  dsimp only at ex h1
  subst ex
  try simp
  refine is_bnd2 (is_choice h1 (by omega) (by omega)) fun _ s2 ⟨y, ey, y0, y1, h2⟩ => ?_
  dsimp only at ey h2
  subst ey
  try simp
  refine is_bnd2 (is_word h2 (by omega) (by omega) (by omega) (by omega)) fun _ s3 ⟨w, ew, w0, w1, h3⟩ => ?_
  dsimp only at ew h3
  subst ew
  exact is_ok ⟨_, w, rfl, by omega, by omega, by omega, w1, h3⟩
theorem foldU_ok {α : Type} {step : Unit → D → R Unit} {g : α → D} (xs : List α) (e : ∀ x ∈ xs, step () (g x) = .ok ()) : foldR step () (xs.map g) = .ok () := by
  rw [foldR_ok (t := fun _ _ => ()) xs () fun x hx b => e x hx]
theorem f_letter {x n : Int} : f_is_letter (.int x) (.int n) = .ok (.bl (decide (x ≠ 0 ∧ -n < x ∧ x < n))) := by
  unfold f_is_letter
  by_cases h : x = 0
  · simp [h]
  · have e : decide ((if x < 0 then -x else x) < n) = decide (x ≠ 0 ∧ -n < x ∧ x < n) := decide_eq_decide.mpr (by split <;> omega)
    simp [h] at e ⊢
    exact e
theorem f_look {n : Int} {w : List Int} (hn : 1 ≤ n) (hn2 : n ≤ 6) (hw : w.length ≤ 16) (hl : Lt n w) : f_looked (plD n w) = .ok (.int w.length) := by
  unfold f_looked plD
  simp [hn, hn2, show ¬ (16 : Int) < w.length by omega]
  rw [foldU_ok w]
  · simp
  · intro x hx
    simp [f_letter, hl x hx]
/-! the form of a word -/
theorem norm_norm {n : Nat} {p : Int} {rs : List (List Nat)} (hn : 2 ≤ n) (hp : AP n rs) : norm n (norm n p rs).1 (norm n p rs).2 = norm n p rs := by
  have h := norm_nf (p := p) hn hp
  rw [norm_self hn h.pm h.st h.md]
abbrev Lok (n : Nat) (l : Int) : Prop := l ≠ 0 ∧ -(n : Int) < l ∧ l < n
/-- settled ahead or not -/
theorem put_norm {n : Nat} {s : Int × List (List Nat)} {l : Int} (hn : 2 ≤ n) (hp : AP n s.2) (hl : Lok n l) : put n (norm n s.1 s.2) l = put n s l := by
  unfold put raw
  have h := norm_pm (p := s.1) hp
  by_cases c : 0 < l
  · rw [if_pos c, if_pos c]
    exact (norm_app hn hp (ap_cons.mpr ⟨(pm_pln n).sv (by omega), fun r hr => by cases hr⟩)).symm
  · rw [if_neg c, if_neg c]
    have hu : AP n [sv ((-l).toNat - 1) (hlf n)] := ap_cons.mpr ⟨(pm_hlf n).sv (by have := hl.1; have := hl.2.1; omega), fun r hr => by cases hr⟩
    dsimp only
    have e := norm_app (p := s.1 - 1) hn (ap_map hp) hu
    rw [e]
    have f1 := norm_flp (p := s.1 - 1) hn hp
    rw [f1]
    dsimp only
    have f2 : norm n (s.1 - 1) s.2 = ((norm n s.1 s.2).1 - 1, (norm n s.1 s.2).2) := by
      have := norm_add (n := n) (p := s.1 - 1) (c := 1) (rs := s.2)
      rw [show s.1 - 1 + 1 = s.1 by omega] at this
      rw [this]
      refine Prod.ext ?_ rfl
      dsimp only
      omega
    rw [f2]
theorem raws_pm {n : Nat} : ∀ (w : List Int) (s : Int × List (List Nat)), AP n s.2 → (∀ l ∈ w, Lok n l) → AP n (w.foldl (raw n) s).2
  | [], _, h, _ => h
  | l :: w, s, h, hw => raws_pm w _ (raw_pm h (hw l (by simp))) fun x hx => hw x (by simp [hx])
theorem puts_raws {n : Nat} (hn : 2 ≤ n) : ∀ (w : List Int) (s : Int × List (List Nat)), AP n s.2 → (∀ l ∈ w, Lok n l) → w.foldl (put n) (norm n s.1 s.2) = norm n (w.foldl (raw n) s).1 (w.foldl (raw n) s).2
  | [], _, _, _ => rfl
  | l :: w, s, h, hw => by
    rw [List.foldl_cons, List.foldl_cons, put_norm hn h (hw l (by simp))]
    exact puts_raws hn w _ (raw_pm h (hw l (by simp))) fun x hx => hw x (by simp [hx])
/-- the form of a word -/
noncomputable def frm (n : Nat) (w : List Int) : Int × List (List Nat) := w.foldl (put n) (0, [])
theorem norm_nil {n : Nat} (hn : 2 ≤ n) (p : Int) : norm n p [] = (p, []) := norm_self hn (fun r hr => by cases hr) trivial (fun r hr => by cases hr)
theorem frm_raw {n : Nat} (hn : 2 ≤ n) {w : List Int} (hw : ∀ l ∈ w, Lok n l) : frm n w = norm n (w.foldl (raw n) (0, [])).1 (w.foldl (raw n) (0, [])).2 := by
  have := puts_raws hn w (0, []) (fun r hr => by cases hr) hw
  rw [norm_nil hn] at this
  exact this
theorem put_nf {n : Nat} {s : Int × List (List Nat)} {l : Int} (hn : 2 ≤ n) (h : AP n s.2) (hl : Lok n l) : NF n (put n s l) := norm_nf hn (raw_pm h hl)
theorem nf_len {n : Nat} {rs : List (List Nat)} (hp : AP n rs) : (nf n rs).length = rs.length := (nf_spec hp).1.len
theorem put_len {n : Nat} {s : Int × List (List Nat)} {l : Int} (h : AP n s.2) (hl : Lok n l) : (put n s l).2.length ≤ s.2.length + 1 := by
  unfold put norm
  refine Nat.le_trans (List.length_filter_le _ _) ?_
  rw [nf_len (raw_pm h hl)]
  unfold raw
  split <;> simp
/-- form data -/
def foU (s : Int × List (List Nat)) : D := .tup [.int s.1, .tup (s.2.map oU)]
theorem fl_foU {s : Int × List (List Nat)} : D.fl (foU s) = some (foU s) := if_pos (by
  show (true && (D.flTs (s.2.map oU) && true)) = true
  rw [flTs_rows]; rfl)
theorem f_told {p : Int} {n : D} {rs : List (List Nat)} : f_Form_told (D.ob FormC.c n (.int p) (rs.map oU)) = .ok (foU (p, rs)) := by
  unfold f_Form_told
  have e : D.toTup [.lst (rs.map oU)] = some (.tup (rs.map oU)) := rfl
  simp only [bnd_ok, s_fP, s_fR, of_some, e, s_fits2, Option.map_some]
  rfl
theorem foldR_enc {α β S : Type} {step : β → D → R β} {g : α → D} {h : S → β} {t : S → α → S} : ∀ (xs : List α) (s : S), (∀ ys x zs, xs = ys ++ x :: zs → step (h (ys.foldl t s)) (g x) = .ok (h (t (ys.foldl t s) x))) → foldR step (h s) (xs.map g) = .ok (h (xs.foldl t s))
  | [], _, _ => rfl
  | x :: xs, s, hh => by
    show (step (h s) (g x)).bnd _ = _
    have h0 : step (h s) (g x) = .ok (h (t s x)) := hh [] x xs rfl
    rw [h0, bnd_ok]
    exact foldR_enc xs (t s x) fun ys y zs e => hh (x :: ys) y zs (by rw [e]; rfl)
/-- what the settling may cost -/
def Cheap (n : Nat) (w : List Int) : Prop := ∀ ys x zs, w = ys ++ x :: zs → (frm n ys).2.length ≤ 1000 ∧ ms 0 (raw n (frm n ys) x).2 ≤ 400000
theorem frm_nf {n : Nat} (hn : 2 ≤ n) : ∀ w : List Int, (∀ l ∈ w, Lok n l) → NF n (frm n w) := fun w hw => by
  rw [frm_raw hn hw]
  exact norm_nf hn (raws_pm w _ (fun r hr => by cases hr) hw)
theorem frm_len {n : Nat} (hn : 2 ≤ n) {w : List Int} (hw : ∀ l ∈ w, Lok n l) : (frm n w).2.length ≤ w.length := by
  rw [frm_raw hn hw]
  unfold norm
  refine Nat.le_trans (List.length_filter_le _ _) ?_
  rw [nf_len (raws_pm w _ (fun r hr => by cases hr) hw)]
  have : ∀ (w : List Int) (s : Int × List (List Nat)), (w.foldl (raw n) s).2.length = s.2.length + w.length := by
    intro w
    induction w with
    | nil => intro s; rfl
    | cons l w ih =>
      intro s
      rw [List.foldl_cons, ih, List.length_cons]
      unfold raw
      split <;> simp <;> omega
  rw [this]
  simp
theorem cheap_short {n : Nat} (hn : 2 ≤ n) (h6 : n ≤ 6) {w : List Int} (hw : ∀ l ∈ w, Lok n l) (hl : w.length ≤ 60) : Cheap n w := fun ys x zs e => by
  have hy : ∀ l ∈ ys, Lok n l := fun l h => hw l (by rw [e]; simp [h])
  have ly : ys.length + 1 ≤ 60 := by rw [e] at hl; simp at hl; omega
  have h1 := frm_len hn hy
  have h2 := frm_nf hn ys hy
  have hp := raw_pm (l := x) h2.pm (hw x (by rw [e]; simp))
  have hz : (raw n (frm n ys) x).2.length ≤ 60 := by
    unfold raw
    split <;> simp <;> omega
  refine ⟨by omega, ?_⟩
  have h3 := ms_le _ 0 hp
  have h4 : n * n ≤ 6 * 6 := Nat.mul_le_mul h6 h6
  have h5 : (0 + (raw n (frm n ys) x).2.length) * (n * n) ≤ 60 * (6 * 6) := Nat.mul_le_mul (by omega) h4
  have h6 : (raw n (frm n ys) x).2.length * ((0 + (raw n (frm n ys) x).2.length) * (n * n)) ≤ 60 * (60 * (6 * 6)) := Nat.mul_le_mul hz h5
  omega
theorem f_formby {n : Nat} {w : List Int} (hn : 2 ≤ n) (h6 : n ≤ 6) (hw : ∀ l ∈ w, Lok n l) (hl : w.length ≤ 500) (hc : Cheap n w) : f_form_by (.int (n : Nat)) (.tup (w.map .int)) = .ok (foU (frm n w)) := by
  unfold f_form_by
  have t1 : decide ((1 : Int) ≤ (n : Nat)) = true := decide_eq_true (by omega)
  have t6 : decide (((n : Nat) : Int) ≤ 6) = true := decide_eq_true (by omega)
  have t5 : decide ((500 : Int) < (((w.map D.int).length : Nat) : Int)) = false := decide_eq_false (by simp; omega)
  simp only [bnd_ok, s_le, of_some, t1, t6, if_true, Bool.not_true, Bool.false_eq_true, if_false, s_lenT, s_gt, t5, s_seqT]
  refine of_is ?_
  have fo := foldR_enc (β := FT) (S := Int × List (List Nat)) (g := D.int) (h := fun s => ((.int (n : Nat), .int s.1, s.2.map oU) : FT)) (t := put n) (step := fun (a4 : FT) d5 => (((((R.ok d5).bnd fun x => (R.ok (D.int (n : Nat))).bnd fun y => .ok [x, y]).bnd (ap2 f_is_letter)).bnd fun d => R.of (D.bool d)).bnd fun x => .ok (!x)).bnd fun b => if b = true then .err 0 else ((R.ok d5).bnd fun x => .ok [x]).bnd fun ds => (apF1 f_Form_put a4 ds).bnd fun s8 => .ok s8) w (0, []) fun ys x zs e => ?_
  · simp only [bnd_ok] at fo
    have e0 : ((.int (n : Nat), .int (0 : Int), ([] : List (List Nat)).map oU) : FT) = (D.int (n : Nat), D.int 0, []) := rfl
    rw [← e0, fo]
    show Is (R.bnd ((R.of (D.isO FormC.c (D.ob FormC.c (.int (n : Nat)) (.int (frm n w).1) ((frm n w).2.map oU)))).bnd fun d => ap1 f_Form_told [d]) fun d => R.of (D.fl d)) _
    rw [s_isO, of_some, bnd_ok, s_ap1, f_told, bnd_ok, fl_foU]
    exact is_ok rfl
  · have hx : Lok n x := hw x (by rw [e]; simp)
    have hy : ∀ l ∈ ys, Lok n l := fun l h => hw l (by rw [e]; simp [h])
    obtain ⟨c1, c2⟩ := hc ys x zs e
    have fl : decide (x ≠ 0 ∧ -((n : Nat) : Int) < x ∧ x < (n : Nat)) = true := decide_eq_true hx
    simp only [bnd_ok, s_ap2, f_letter, s_bool, of_some, fl, Bool.not_true, Bool.false_eq_true, if_false, s_apF1]
    have := f_put (s := frm n ys) hn (by omega) (frm_nf hn ys hy) hx c1 c2
    unfold frm at this
    rw [this]
    rfl
/-! one strand -/
theorem one_formby : f_form_by (.int 1) (.tup []) = .ok (foU (0, [])) := by
  unfold f_form_by
  have t := f_told (p := 0) (n := .int 1) (rs := [])
  simp only [bnd_ok, s_le, of_some, s_lenT, s_gt, s_seqT]
  show R.bnd ((R.of (D.isO FormC.c (D.ob FormC.c (.int 1) (.int 0) []))).bnd fun d => ap1 f_Form_told [d]) (fun d => R.of (D.fl d)) = _
  rw [s_isO, of_some, bnd_ok, s_ap1]
  have t : f_Form_told (D.ob FormC.c (.int 1) (.int 0) []) = .ok (foU (0, [])) := t
  rw [t, bnd_ok, fl_foU, of_some]
theorem one_word {w : List Int} (h : Lt 1 w) : w = [] := by
  cases w with
  | nil => rfl
  | cons x w => have := h x (by simp); omega
/-! the form of a plait -/
theorem f_formof {n : Nat} {w : List Int} (hn : 2 ≤ n) (h6 : n ≤ 6) (hw : Lt n w) (hl : w.length ≤ 16) : f_form_of (plD n w) = .ok (foU (frm n w)) := by
  unfold f_form_of
  have i0 : D.ix (plD n w) (.int 0) = some (.int (n : Nat)) := rfl
  have i1 : D.ix (plD n w) (.int 1) = some (.tup (w.map .int)) := rfl
  simp only [bnd_ok, s_ap1, f_look (show (1 : Int) ≤ (n : Nat) by omega) (show ((n : Nat) : Int) ≤ 6 by omega) hl hw, i0, i1, of_some, s_ap2]
  exact f_formby hn h6 hw (by omega) (cheap_short hn h6 hw (by omega))
theorem one_form : f_form_of (plD 1 []) = .ok (foU (0, [])) := by
  unfold f_form_of
  have i0 : D.ix (plD 1 []) (.int 0) = some (.int 1) := rfl
  have i1 : D.ix (plD 1 []) (.int 1) = some (.tup []) := rfl
  have hl : f_looked (plD 1 []) = .ok (.int 0) := f_look (n := 1) (w := []) (by decide) (by decide) (by simp) (fun x hx => by cases hx)
  simp only [bnd_ok, s_ap1, hl, i0, i1, of_some, s_ap2]
  exact one_formby
theorem s_apI4 {ω : Type} {f : List D → D → D → D → D → R ω} {s : List D} {a b c d : D} : apI4 f s [a, b, c, d] = f s a b c d := by exact id rfl
theorem nbs_mem {n : Nat} : ∀ {l : List D}, (∀ d ∈ l, d.nb n = true) → D.nbs l n = true
  | [], _ => rfl
  | d :: l, h => by
    have h1 := h d (by simp)
    have h2 := nbs_mem fun e (he : e ∈ l) => h e (by simp [he])
    simp [D.nbs, h1, h2]
theorem nb_lst_mem {n : Nat} {l : List D} (h : ∀ d ∈ l, d.nb n = true) : (D.lst l).nb (n + 1) = true := by
  have := nbs_mem h
  simpa [D.nb] using this
theorem eq_lnil {n : Nat} {d : D} {l : List D} (h : ∀ e ∈ d :: l, e.nb n = true) (hn : n < 64) : D.eq (.lst (d :: l)) (.lst []) = some false := by
  classical
  rw [eq_nb (n + 1) (nb_lst_mem h) (nb_lst_mem fun e he => by simp at he) (by omega) ⟨_, .inr rfl⟩]
  simp
theorem atI_mem {α : Type} {l : List α} {i : Int} (h0 : 0 ≤ i) (h1 : i < l.length) : ∃ x ∈ l, atI l i = some x := by
  obtain ⟨k, rfl⟩ : ∃ k : Nat, i = k := ⟨i.toNat, by omega⟩
  have hk : k < l.length := by omega
  exact ⟨l[k], List.getElem_mem hk, atI_k (List.getElem?_eq_getElem hk)⟩
/-! forms compared -/
theorem pys_oT : ∀ rs : List (List Nat), D.pys (rs.map oT) = D.pys (rs.map oU)
  | [] => rfl
  | r :: rs => by
    simp only [List.map_cons, D.pys, pys_oT rs]
    rfl
theorem nbs_U (rs : List (List Nat)) : D.nbs (rs.map oU) 1 = true := by
  induction rs with
  | nil => rfl
  | cons r rs ih =>
    show ((oU r).nb 1 && D.nbs (rs.map oU) 1) = true
    rw [ih]
    have : (oU r).nb 1 = true := by unfold oU; rw [oL_int]; exact nb_ltup _ 0
    rw [this]; rfl
theorem nb_foU (s : Int × List (List Nat)) : (foU s).nb 3 = true := by
  show ((D.int s.1).nb 2 && ((D.tup (s.2.map oU)).nb 2 && D.nbs [] 2)) = true
  have : (D.tup (s.2.map oU)).nb 2 = true := nbs_U s.2
  rw [this]; rfl
theorem oU_inj {a b : List Nat} (h : oU a = oU b) : a = b := by
  unfold oU at h
  rw [oL_int, oL_int] at h
  injection h with h
  exact nat_map_inj.mp (int_map_inj.mp h)
theorem foU_inj {s t : Int × List (List Nat)} : foU s = foU t ↔ s = t := by
  constructor
  · intro h
    unfold foU at h
    injection h with h
    injection h with h1 h2
    injection h1 with h1
    injection h2 with h2 _
    injection h2 with h2
    exact Prod.ext h1 ((List.map_inj_right fun _ _ e => oU_inj e).mp h2)
  · rintro rfl; rfl
/-- the same with exact orders -/
def foT (s : Int × List (List Nat)) : D := .tup [.int s.1, .tup (s.2.map oT)]
theorem py_foT (s : Int × List (List Nat)) : D.py (foT s) = D.py (foU s) := by
  show Option.map _ (D.pys [.int s.1, .tup (s.2.map oT)]) = Option.map _ (D.pys [.int s.1, .tup (s.2.map oU)])
  simp only [D.pys, D.py, pys_oT]
theorem eq_any {x y : D} {s t : Int × List (List Nat)} (hx : x = foU s ∨ x = foT s) (hy : y = foU t ∨ y = foT t) : D.eq x y = some (decide (s = t)) := by
  have e1 : D.py x = D.py (foU s) := by rcases hx with rfl | rfl; rfl; exact py_foT s
  have e2 : D.py y = D.py (foU t) := by rcases hy with rfl | rfl; rfl; exact py_foT t
  obtain ⟨p, ep, lp, dp⟩ := nb_py _ 3 (nb_foU s)
  obtain ⟨q, eq, lq, dq⟩ := nb_py _ 3 (nb_foU t)
  have v := nb_eqv _ _ 3 3 p q (nb_foU s) (nb_foU t) ep eq
  have s1 : SeqAt.shaped p = true := by simp only [SeqAt.shaped, lp, Bool.true_and, decide_eq_true_eq]; omega
  have s2 : SeqAt.shaped q = true := by simp only [SeqAt.shaped, lq, Bool.true_and, decide_eq_true_eq]; omega
  have key : ∀ a b : List D, D.eq (.tup a) (.tup b) = (D.py (.tup a)).bind fun a => (D.py (.tup b)).bind fun b => if SeqAt.shaped a = true ∧ SeqAt.shaped b = true then some (PyData.eqv a b) else none := fun _ _ => by simp only [D.eq]
  have : D.eq x y = (D.py x).bind fun a => (D.py y).bind fun b => if SeqAt.shaped a = true ∧ SeqAt.shaped b = true then some (PyData.eqv a b) else none := by
    rcases hx with rfl | rfl <;> rcases hy with rfl | rfl <;> exact key _ _
  rw [this, e1, e2, ep, eq, Option.bind_some, Option.bind_some, if_pos ⟨s1, s2⟩]
  congr 1
  rw [Bool.eq_iff_iff, v, foU_inj, decide_eq_true_iff]
theorem ne_any {x y : D} {s t : Int × List (List Nat)} (hx : x = foU s ∨ x = foT s) (hy : y = foU t ∨ y = foT t) : D.ne x y = some (!decide (s = t)) := by
  simp only [D.ne, eq_any hx hy, Option.map_some]
/-! what letters do to forms -/
theorem norm_sym {n : Nat} {p : Int} {rs ts : List (List Nat)} (hp : AP n rs) (h : Ms n rs ts) : norm n p ts = norm n p rs := (norm_ms hp h).symm
/-- a half twist amid -/
theorem norm_hmid {n : Nat} {p : Int} {xs ys : List (List Nat)} (hn : 2 ≤ n) (hx : AP n xs) (hy : AP n ys) : norm n p (xs ++ hlf n :: ys) = norm n (p + 1) (xs.map (flp n) ++ ys) := by
  have h := (rs_hlf xs hx).suf (ys := ys)
  rw [List.append_assoc] at h
  have hp : AP n (xs ++ hlf n :: ys) := ap_app.mpr ⟨hx, ap_cons.mpr ⟨pm_hlf n, hy⟩⟩
  have e : xs ++ ([hlf n] ++ ys) = xs ++ hlf n :: ys := rfl
  rw [e] at h
  rw [norm_ms hp h]
  exact norm_hlf hn (ap_app.mpr ⟨ap_map hx, hy⟩)
theorem norm_pmid {n : Nat} {p : Int} {xs ys : List (List Nat)} (hn : 2 ≤ n) (hx : AP n xs) (hy : AP n ys) : norm n p (xs ++ pln n :: ys) = norm n p (xs ++ ys) := by
  have h := (plns_r (k := 1) ys hy).pre xs
  have hp : AP n (xs ++ (List.replicate 1 (pln n) ++ ys)) := ap_app.mpr ⟨hx, ap_app.mpr ⟨ap_rep (pm_pln n), hy⟩⟩
  have e : xs ++ (List.replicate 1 (pln n) ++ ys) = xs ++ pln n :: ys := rfl
  rw [← e, norm_ms hp h, ← List.append_assoc]
  exact norm_pln hn (ap_app.mpr ⟨hx, hy⟩)
theorem flp_map {n : Nat} {rs : List (List Nat)} (h : AP n rs) : (rs.map (flp n)).map (flp n) = rs := by
  rw [List.map_map]
  conv => rhs; rw [← List.map_id rs]
  exact List.map_congr_left fun r hr => flp_flp (h r hr)
theorem ap_two {n : Nat} {a b : List Nat} (ha : Pm n a) (hb : Pm n b) : AP n [a, b] := ap_cons.mpr ⟨ha, ap_cons.mpr ⟨hb, fun r hr => by cases hr⟩⟩
theorem ap_one {n : Nat} {a : List Nat} (ha : Pm n a) : AP n [a] := ap_cons.mpr ⟨ha, fun r hr => by cases hr⟩
theorem one_at {n i j : Nat} (hj : j < n) : (sv i (pln n)).getD j 0 = tr i j := by
  rw [sv_at (by simpa using hj), at_pln hj]
/-- one crossing, by places or by numbers -/
theorem sv_pln {n j : Nat} (hj : j + 1 < n) : sv j (pln n) = sp j (pln n) :=
  ((pm_pln n).sv hj).ext (pm_pln n).sp fun i hi => by
    rw [sv_at (by simpa using hi), at_pln hi, sp_at j _ i (by simpa using hj), at_pln (tr_lt hj hi)]
theorem sv_hlf {n j : Nat} (hj : j + 1 < n) : sv j (hlf n) = sp (n - 2 - j) (hlf n) :=
  ((pm_hlf n).sv hj).ext (pm_hlf n).sp fun i hi => by
    have hj2 : n - 2 - j + 1 < n := by omega
    rw [sv_at (by simpa using hi), at_hlf hi, sp_at _ _ i (by simpa using hj2), at_hlf (tr_lt hj2 hi)]
    unfold tr; (repeat' split) <;> omega
theorem flp_one {n j : Nat} (hj : j + 1 < n) : flp n (sv j (pln n)) = sv (n - 2 - j) (pln n) := by rw [flp_sv (pm_pln n) hj, flp_pln]
theorem flp_neg {n j : Nat} (hj : j + 1 < n) : flp n (sv j (hlf n)) = sv (n - 2 - j) (hlf n) := by rw [flp_sv (pm_hlf n) hj, flp_hlf]
/-- a letter and its contrary -/
theorem two_pm {n j : Nat} (hj : j + 1 < n) : Mv n [pln n, hlf n] [sv (n - 2 - j) (pln n), sv j (hlf n)] := by
  have hj2 : n - 2 - j + 1 < n := by omega
  rw [sv_hlf hj]
  exact .hd _ hj2 (fa_half hj2) (up_range hj2)
theorem two_mp {n j : Nat} (hj : j + 1 < n) : Mv n [sv j (hlf n), sv j (pln n)] [hlf n, pln n] := by
  have h := Mv.hd (n := n) (a := sv j (hlf n)) (b := sp j (pln n)) (rs := []) j hj ?_ ?_
  · rw [← sv_pln hj] at h
    rw [sv_sv] at h
    have : sp j (sv j (pln n)) = pln n := by rw [sp_sv, ← sv_pln hj, sv_sv]
    rw [this] at h
    exact h
  · rw [(pm_pln n).sp.fa_iff hj, sp_at j _ _ (by simpa using hj), sp_at j _ _ (by simpa using hj), at_pln (tr_lt hj hj), at_pln (tr_lt hj (by omega))]
    unfold tr; (repeat' split) <;> omega
  · have p := pm_hlf n
    rw [up_iff, sv_ix, sv_ix, show tr j j = j + 1 by unfold tr; (repeat' split) <;> omega, show tr j (j + 1) = j by unfold tr; (repeat' split) <;> omega]
    have := up_hlf hj
    have ne : (hlf n).idxOf j ≠ (hlf n).idxOf (j + 1) := fun e => by
      have h1 := p.atix (show j < n by omega)
      have h2 := p.atix hj
      rw [e] at h1; omega
    unfold up at this
    have := of_decide_eq_false this
    omega
theorem put_pos {n j : Nat} {s : Int × List (List Nat)} : put n s ((j + 1 : Nat) : Int) = norm n s.1 (s.2 ++ [sv j (pln n)]) := by
  unfold put raw
  rw [if_pos (by omega)]
  rfl
theorem put_neg {n j : Nat} {s : Int × List (List Nat)} : put n s (-((j + 1 : Nat) : Int)) = norm n (s.1 - 1) (s.2.map (flp n) ++ [sv j (hlf n)]) := by
  unfold put raw
  rw [if_neg (by omega), show (- -((j + 1 : Nat) : Int)).toNat - 1 = j by omega]
theorem raw_pos {n j : Nat} {s : Int × List (List Nat)} : raw n s ((j + 1 : Nat) : Int) = (s.1, s.2 ++ [sv j (pln n)]) := by
  unfold raw
  rw [if_pos (by omega)]
  rfl
theorem raw_neg {n j : Nat} {s : Int × List (List Nat)} : raw n s (-((j + 1 : Nat) : Int)) = (s.1 - 1, s.2.map (flp n) ++ [sv j (hlf n)]) := by
  unfold raw
  rw [if_neg (by omega), show (- -((j + 1 : Nat) : Int)).toNat - 1 = j by omega]
theorem NF.self {n : Nat} {s : Int × List (List Nat)} (hn : 2 ≤ n) (h : NF n s) : norm n s.1 s.2 = s := norm_self hn h.pm h.st h.md
theorem put_put {n : Nat} {s : Int × List (List Nat)} {l k : Int} (hn : 2 ≤ n) (h : AP n s.2) (hl : Lok n l) (hk : Lok n k) : put n (put n s l) k = norm n (raw n (raw n s l) k).1 (raw n (raw n s l) k).2 := by
  show put n (norm n (raw n s l).1 (raw n s l).2) k = _
  rw [put_norm hn (raw_pm h hl) hk]
  rfl
theorem put_back {n : Nat} {s : Int × List (List Nat)} {l : Int} (hn : 2 ≤ n) (h : NF n s) (hl : Lok n l) : put n (put n s l) (-l) = s := by
  have hk : Lok n (-l) := ⟨by have := hl.1; omega, by have := hl.2.2; omega, by have := hl.2.1; omega⟩
  rw [put_put hn h.pm hl hk]
  by_cases c : 0 < l
  · obtain ⟨j, rfl⟩ : ∃ j : Nat, l = ((j + 1 : Nat) : Int) := ⟨l.toNat - 1, by omega⟩
    have hj : j + 1 < n := by have := hl.2.2; omega
    have hj2 : n - 2 - j + 1 < n := by omega
    rw [raw_pos, raw_neg]
    dsimp only
    rw [List.map_append, List.map_cons, List.map_nil, flp_one hj, List.append_assoc]
    have hx := ap_map h.pm
    have hp2 : AP n (s.2.map (flp n) ++ [pln n, hlf n]) := ap_app.mpr ⟨hx, ap_two (pm_pln n) (pm_hlf n)⟩
    show norm n (s.1 - 1) (s.2.map (flp n) ++ [sv (n - 2 - j) (pln n), sv j (hlf n)]) = s
    rw [norm_sym hp2 ((Ms.one (two_pm hj)).pre _)]
    rw [norm_pmid hn hx (ap_one (pm_hlf n)), norm_hmid hn hx (fun r hr => by cases hr), List.append_nil, flp_map h.pm, show s.1 - 1 + 1 = s.1 by omega]
    exact h.self hn
  · obtain ⟨j, e⟩ : ∃ j : Nat, -l = ((j + 1 : Nat) : Int) := ⟨(-l).toNat - 1, by have := hl.1; omega⟩
    obtain rfl : l = -((j + 1 : Nat) : Int) := by omega
    have hj : j + 1 < n := by have := hl.2.1; omega
    rw [raw_neg, show - -((j + 1 : Nat) : Int) = ((j + 1 : Nat) : Int) by omega, raw_pos]
    dsimp only
    rw [List.append_assoc]
    have hx := ap_map h.pm
    have hp2 : AP n (s.2.map (flp n) ++ [sv j (hlf n), sv j (pln n)]) := ap_app.mpr ⟨hx, ap_two ((pm_hlf n).sv hj) ((pm_pln n).sv hj)⟩
    show norm n (s.1 - 1) (s.2.map (flp n) ++ [sv j (hlf n), sv j (pln n)]) = s
    rw [norm_ms hp2 ((Ms.one (two_mp hj)).pre _), norm_hmid hn hx (ap_one (pm_pln n)), flp_map h.pm, norm_pmid hn h.pm (fun r hr => by cases hr), List.append_nil, show s.1 - 1 + 1 = s.1 by omega]
    exact h.self hn
theorem neg_lok {n : Nat} {l : Int} (h : Lok n l) : Lok n (-l) := ⟨by have := h.1; omega, by have := h.2.2; omega, by have := h.2.1; omega⟩
theorem put_NF {n : Nat} {s : Int × List (List Nat)} {l : Int} (hn : 2 ≤ n) (h : NF n s) (hl : Lok n l) : NF n (put n s l) := put_nf hn h.pm hl
theorem put_fore {n : Nat} {s : Int × List (List Nat)} {l : Int} (hn : 2 ≤ n) (h : NF n s) (hl : Lok n l) : put n (put n s (-l)) l = s := by
  have := put_back hn h (neg_lok hl)
  rw [show - -l = l by omega] at this
  exact this
/-- far letters -/
theorem far_pos {n j k : Nat} {s : Int × List (List Nat)} (hn : 2 ≤ n) (h : NF n s) (hjk : j + 1 < k) (hk : k + 1 < n) : put n (put n s ((j + 1 : Nat) : Int)) ((k + 1 : Nat) : Int) = put n (put n s ((k + 1 : Nat) : Int)) ((j + 1 : Nat) : Int) := by
  have hj : j + 1 < n := by omega
  have lj : Lok n ((j + 1 : Nat) : Int) := ⟨by omega, by omega, by omega⟩
  have lk : Lok n ((k + 1 : Nat) : Int) := ⟨by omega, by omega, by omega⟩
  rw [put_put hn h.pm lj lk, put_put hn h.pm lk lj, raw_pos, raw_pos, raw_pos, raw_pos]
  dsimp only
  rw [List.append_assoc, List.append_assoc]
  have hp : AP n (s.2 ++ [sv j (pln n), sv k (pln n)]) := ap_app.mpr ⟨h.pm, ap_two ((pm_pln n).sv hj) ((pm_pln n).sv hk)⟩
  have hq : AP n (s.2 ++ [sv k (pln n), sv j (pln n)]) := ap_app.mpr ⟨h.pm, ap_two ((pm_pln n).sv hk) ((pm_pln n).sv hj)⟩
  have m1 := (pln_r ((pm_pln n).sv hk |>.sv hj)).ms []
  have key : ∀ a b : Nat, a + 1 < n → b + 1 < n → (a + 1 < b ∨ b + 1 < a) → Mv n [sv a (pln n), sv b (pln n)] [sv b (sv a (pln n)), pln n] := by
    intro a b ha hb hab
    have h := Mv.hd (n := n) (a := sv a (pln n)) (b := sv b (pln n)) (rs := []) b hb ?_ ?_
    · have : sp b (sv b (pln n)) = pln n := by rw [sp_sv, ← sv_pln hb, sv_sv]
      rw [this] at h
      exact h
    · rw [((pm_pln n).sv hb).fa_iff hb, one_at hb, one_at (show b < n by omega)]
      unfold tr; (repeat' split) <;> omega
    · rw [up_iff, sv_ix, sv_ix]
      have e1 : tr a b = b := by unfold tr; (repeat' split) <;> omega
      have e2 : tr a (b + 1) = b + 1 := by unfold tr; (repeat' split) <;> omega
      rw [e1, e2]
      exact up_iff.mp (up_range hb)
  show norm n s.1 (s.2 ++ [sv j (pln n), sv k (pln n)]) = norm n s.1 (s.2 ++ [sv k (pln n), sv j (pln n)])
  rw [norm_ms hp ((Ms.one (key j k hj hk (.inl hjk))).pre _), norm_ms hq ((Ms.one (key k j hk hj (.inr hjk))).pre _), sv_far hjk]
/-- three letters -/
theorem three_pos {n j : Nat} {s : Int × List (List Nat)} (hn : 2 ≤ n) (h : NF n s) (hj : j + 2 < n) : put n (put n (put n s ((j + 1 : Nat) : Int)) ((j + 2 : Nat) : Int)) ((j + 1 : Nat) : Int) = put n (put n (put n s ((j + 2 : Nat) : Int)) ((j + 1 : Nat) : Int)) ((j + 2 : Nat) : Int) := by
  have p := pm_pln n
  have lj : Lok n ((j + 1 : Nat) : Int) := ⟨by omega, by omega, by omega⟩
  have lk : Lok n ((j + 2 : Nat) : Int) := ⟨by omega, by omega, by omega⟩
  have three : ∀ a b c : Nat, a + 1 < n → b + 1 < n → c + 1 < n → put n (put n (put n s ((a + 1 : Nat) : Int)) ((b + 1 : Nat) : Int)) ((c + 1 : Nat) : Int) = norm n s.1 (s.2 ++ [sv a (pln n), sv b (pln n), sv c (pln n)]) := by
    intro a b c ha hb hc
    have la : Lok n ((a + 1 : Nat) : Int) := ⟨by omega, by omega, by omega⟩
    have lb : Lok n ((b + 1 : Nat) : Int) := ⟨by omega, by omega, by omega⟩
    have lc : Lok n ((c + 1 : Nat) : Int) := ⟨by omega, by omega, by omega⟩
    rw [put_put hn h.pm la lb, raw_pos, raw_pos]
    rw [put_norm hn (ap_app.mpr ⟨ap_app.mpr ⟨h.pm, ap_one (p.sv ha)⟩, ap_one (p.sv hb)⟩) lc, put_pos]
    dsimp only
    simp only [List.append_assoc]
    rfl
  have two : ∀ (r : List Nat) (b : Nat), Pm n r → b + 1 < n → up b r = true → Mv n [r, sv b (pln n)] [sv b r, pln n] := by
    intro r b hr hb hu
    have h := Mv.hd (n := n) (a := r) (b := sv b (pln n)) (rs := []) b hb ?_ hu
    · have : sp b (sv b (pln n)) = pln n := by rw [sp_sv, ← sv_pln hb, sv_sv]
      rw [this] at h
      exact h
    · rw [((pm_pln n).sv hb).fa_iff hb, one_at hb, one_at (show b < n by omega)]
      unfold tr; (repeat' split) <;> omega
  have ix : ∀ x, x < n → (pln n).idxOf x = x := fun x hx => by
    have := p.ixat hx
    rw [at_pln hx] at this; exact this
  have all : ∀ a b c : Nat, a + 1 < n → b + 1 < n → c + 1 < n → up b (sv a (pln n)) = true → up c (sv b (sv a (pln n))) = true → norm n s.1 (s.2 ++ [sv a (pln n), sv b (pln n), sv c (pln n)]) = norm n s.1 (s.2 ++ [sv c (sv b (sv a (pln n)))]) := by
    intro a b c ha hb hc u1 u2
    have hp : AP n (s.2 ++ [sv a (pln n), sv b (pln n), sv c (pln n)]) := ap_app.mpr ⟨h.pm, ap_cons.mpr ⟨p.sv ha, ap_two (p.sv hb) (p.sv hc)⟩⟩
    have m1 := ((Ms.one (two (sv a (pln n)) b (p.sv ha) hb u1)).suf (ys := [sv c (pln n)])).pre s.2
    have hp2 : AP n (s.2 ++ [sv b (sv a (pln n)), pln n, sv c (pln n)]) := ap_app.mpr ⟨h.pm, ap_cons.mpr ⟨(p.sv ha).sv hb, ap_two p (p.sv hc)⟩⟩
    rw [norm_ms hp m1]
    have e1 : s.2 ++ ([sv b (sv a (pln n)), pln n] ++ [sv c (pln n)]) = (s.2 ++ [sv b (sv a (pln n))]) ++ pln n :: [sv c (pln n)] := by simp
    rw [e1, norm_pmid hn (ap_app.mpr ⟨h.pm, ap_one ((p.sv ha).sv hb)⟩) (ap_one (p.sv hc))]
    have e2 : (s.2 ++ [sv b (sv a (pln n))]) ++ [sv c (pln n)] = s.2 ++ [sv b (sv a (pln n)), sv c (pln n)] := by simp
    have hp3 : AP n (s.2 ++ [sv b (sv a (pln n)), sv c (pln n)]) := ap_app.mpr ⟨h.pm, ap_two ((p.sv ha).sv hb) (p.sv hc)⟩
    rw [e2, norm_ms hp3 ((Ms.one (two _ c ((p.sv ha).sv hb) hc u2)).pre s.2)]
    have e3 : s.2 ++ [sv c (sv b (sv a (pln n))), pln n] = (s.2 ++ [sv c (sv b (sv a (pln n)))]) ++ pln n :: [] := by simp
    rw [e3, norm_pmid hn (ap_app.mpr ⟨h.pm, ap_one (((p.sv ha).sv hb).sv hc)⟩) (fun r hr => by cases hr), List.append_nil]
  have hj1 : j + 1 < n := by omega
  rw [three j (j + 1) j hj1 hj hj1, three (j + 1) j (j + 1) hj hj1 hj]
  rw [all j (j + 1) j hj1 hj hj1 ?_ ?_, all (j + 1) j (j + 1) hj hj1 hj ?_ ?_, ← sv_bra]
  all_goals
    rw [up_iff]
    simp only [sv_ix]
  · rw [show tr (j + 1) j = j by unfold tr; (repeat' split) <;> omega, show tr (j + 1) (j + 1) = j + 2 by unfold tr; (repeat' split) <;> omega, ix j (by omega), ix (j + 2) hj]; omega
  · rw [show tr j (j + 1) = j by unfold tr; (repeat' split) <;> omega, show tr (j + 1) j = j by unfold tr; (repeat' split) <;> omega, show tr j (j + 1 + 1) = j + 2 by unfold tr; (repeat' split) <;> omega, show tr (j + 1) (j + 2) = j + 1 by unfold tr; (repeat' split) <;> omega, ix j (by omega), ix (j + 1) (by omega)]; omega
  · rw [show tr j (j + 1) = j by unfold tr; (repeat' split) <;> omega, show tr j (j + 1 + 1) = j + 2 by unfold tr; (repeat' split) <;> omega, ix j (by omega), ix (j + 2) hj]; omega
  · rw [show tr (j + 1) j = j by unfold tr; (repeat' split) <;> omega, show tr j j = j + 1 by unfold tr; (repeat' split) <;> omega, show tr (j + 1) (j + 1) = j + 2 by unfold tr; (repeat' split) <;> omega, show tr j (j + 2) = j + 2 by unfold tr; (repeat' split) <;> omega, ix (j + 1) (by omega), ix (j + 2) hj]; omega
/-! words and their forms -/
noncomputable abbrev puts (n : Nat) (s : Int × List (List Nat)) (w : List Int) : Int × List (List Nat) := w.foldl (put n) s
theorem puts_nf {n : Nat} (hn : 2 ≤ n) : ∀ (w : List Int) (s : Int × List (List Nat)), NF n s → (∀ l ∈ w, Lok n l) → NF n (puts n s w)
  | [], _, h, _ => h
  | l :: w, s, h, hw => puts_nf hn w _ (put_NF hn h (hw l (by simp))) fun x hx => hw x (by simp [hx])
theorem nil_nf (n : Nat) : NF n (0, []) := ⟨fun r hr => (by cases hr), trivial, fun r hr => (by cases hr)⟩
theorem frm_app {n : Nat} (u v : List Int) : frm n (u ++ v) = puts n (frm n u) v := by unfold frm puts; rw [List.foldl_append]
/-- a word and its contrary -/
def ctr (w : List Int) : List Int := w.reverse.map fun x => -x
theorem ctr_cons (l : Int) (w : List Int) : ctr (l :: w) = ctr w ++ [-l] := by simp [ctr]
theorem ctr_ok {n : Nat} {w : List Int} (h : ∀ l ∈ w, Lok n l) : ∀ l ∈ ctr w, Lok n l := fun l hl => by
  obtain ⟨x, hx, rfl⟩ := List.mem_map.mp hl
  exact neg_lok (h x (List.mem_reverse.mp hx))
theorem ctr_ctr (w : List Int) : ctr (ctr w) = w := by simp [ctr, List.map_reverse, Function.comp_def]
theorem puts_ctr {n : Nat} (hn : 2 ≤ n) : ∀ (w : List Int) (s : Int × List (List Nat)), NF n s → (∀ l ∈ w, Lok n l) → puts n (puts n s w) (ctr w) = s
  | [], _, _, _ => rfl
  | l :: w, s, h, hw => by
    have hl := hw l (by simp)
    rw [ctr_cons]
    show (ctr w ++ [-l]).foldl (put n) (puts n (put n s l) w) = s
    rw [List.foldl_append]
    have := puts_ctr hn w (put n s l) (put_NF hn h hl) fun x hx => hw x (by simp [hx])
    unfold puts at this
    rw [this]
    exact put_back hn h hl
theorem put_inj {n : Nat} {s t : Int × List (List Nat)} {l : Int} (hn : 2 ≤ n) (hs : NF n s) (ht : NF n t) (hl : Lok n l) (e : put n s l = put n t l) : s = t := by
  rw [← put_back hn hs hl, e, put_back hn ht hl]
/-- far letters, of any sign -/
theorem far_put {n : Nat} {s : Int × List (List Nat)} {a b : Int} (hn : 2 ≤ n) (h : NF n s) (ha : Lok n a) (hb : Lok n b) (hab : a.natAbs + 1 < b.natAbs ∨ b.natAbs + 1 < a.natAbs) : put n (put n s a) b = put n (put n s b) a := by
  have pp : ∀ (s : Int × List (List Nat)) (a b : Int), NF n s → Lok n a → Lok n b → 0 < a → 0 < b → (a.natAbs + 1 < b.natAbs ∨ b.natAbs + 1 < a.natAbs) → put n (put n s a) b = put n (put n s b) a := by
    intro s a b h ha hb a0 b0 hab
    obtain ⟨j, rfl⟩ : ∃ j : Nat, a = ((j + 1 : Nat) : Int) := ⟨a.toNat - 1, by omega⟩
    obtain ⟨k, rfl⟩ : ∃ k : Nat, b = ((k + 1 : Nat) : Int) := ⟨b.toNat - 1, by omega⟩
    have := ha.2.2
    have := hb.2.2
    rcases hab with c | c
    · exact far_pos hn h (by omega) (by omega)
    · exact (far_pos hn h (by omega) (by omega)).symm
  -- from letters to their contraries
  have inv1 : ∀ a b : Int, Lok n a → Lok n b → (∀ s, NF n s → put n (put n s a) b = put n (put n s b) a) → ∀ s, NF n s → put n (put n s (-a)) b = put n (put n s b) (-a) := by
    intro a b ha hb hc s h
    have ht := put_NF hn h (neg_lok ha)
    have e := hc _ ht
    rw [put_fore hn h ha] at e
    rw [e, put_back hn (put_NF hn ht hb) ha]
  have sg : ∀ x : Int, Lok n x → ∃ y : Int, 0 < y ∧ Lok n y ∧ y.natAbs = x.natAbs ∧ (x = y ∨ x = -y) := fun x hx => by
    by_cases c : 0 < x
    · exact ⟨x, c, hx, rfl, .inl rfl⟩
    · exact ⟨-x, by have := hx.1; omega, neg_lok hx, by omega, .inr (by omega)⟩
  obtain ⟨x, x0, lx, ex, hx⟩ := sg a ha
  obtain ⟨y, y0, ly, ey, hy⟩ := sg b hb
  have base : ∀ s, NF n s → put n (put n s x) y = put n (put n s y) x := fun s h => pp s x y h lx ly x0 y0 (by omega)
  have base2 : ∀ s, NF n s → put n (put n s a) y = put n (put n s y) a := by
    rcases hx with rfl | rfl
    · exact base
    · exact inv1 x y lx ly base
  rcases hy with rfl | rfl
  · exact base2 s h
  · exact (inv1 y a ly ha (fun s h => (base2 s h).symm) s h).symm
/-- three letters, of one sign -/
theorem three_put {n : Nat} {s : Int × List (List Nat)} {a b : Int} (hn : 2 ≤ n) (h : NF n s) (ha : Lok n a) (hb : Lok n b) (hab : a.natAbs + 1 = b.natAbs ∨ b.natAbs + 1 = a.natAbs) (hs : 0 < a ∧ 0 < b ∨ a < 0 ∧ b < 0) : put n (put n (put n s a) b) a = put n (put n (put n s b) a) b := by
  have pp : ∀ (s : Int × List (List Nat)) (a b : Int), NF n s → Lok n a → Lok n b → 0 < a → 0 < b → (a.natAbs + 1 = b.natAbs ∨ b.natAbs + 1 = a.natAbs) → put n (put n (put n s a) b) a = put n (put n (put n s b) a) b := by
    intro s a b h ha hb a0 b0 hab
    have := ha.2.2
    have := hb.2.2
    rcases hab with c | c
    · obtain ⟨j, rfl⟩ : ∃ j : Nat, a = ((j + 1 : Nat) : Int) := ⟨a.toNat - 1, by omega⟩
      obtain rfl : b = ((j + 2 : Nat) : Int) := by omega
      exact three_pos hn h (by omega)
    · obtain ⟨j, rfl⟩ : ∃ j : Nat, b = ((j + 1 : Nat) : Int) := ⟨b.toNat - 1, by omega⟩
      obtain rfl : a = ((j + 2 : Nat) : Int) := by omega
      exact (three_pos hn h (by omega)).symm
  rcases hs with ⟨a0, b0⟩ | ⟨a0, b0⟩
  · exact pp s a b h ha hb a0 b0 hab
  · have na := neg_lok ha
    have nb := neg_lok hb
    have h1 := put_NF hn h ha
    have h2 := put_NF hn h1 hb
    have h3 := put_NF hn h2 ha
    -- t is what stands behind; three contraries lead both back
    have g := pp (put n (put n (put n s a) b) a) (-a) (-b) h3 na nb (by omega) (by omega) (by omega)
    rw [put_back hn h2 ha, put_back hn h1 hb, put_back hn h ha] at g
    -- g : s = t (-b) (-a) (-b)
    have k1 := put_NF hn h3 nb
    have k2 := put_NF hn k1 na
    rw [g, put_fore hn k2 hb, put_fore hn k1 ha, put_fore hn h3 hb]
    exact congrArg (fun z => put n (put n (put n z a) b) a) g.symm
/-! how many letters -/
def wgt (n : Nat) (s : Int × List (List Nat)) : Int := s.1 * (inv (hlf n) : Nat) + ((s.2.map inv).sum : Nat)
theorem Mv.sum {n : Nat} {rs ts : List (List Nat)} (h : Mv n rs ts) : AP n rs → (ts.map Lw.inv).sum = (rs.map Lw.inv).sum := by
  induction h with
  | hd j h1 h2 h3 =>
    rename_i a b rs
    intro h
    have pa := h a (by simp)
    have e1 := inv_sp j b h2
    have e2 := inv_sv a pa.nd (pa.mem h1) h3
    simp only [List.map_cons, List.sum_cons]
    omega
  | tl _ ih =>
    rename_i a rs ts _
    intro h
    simp only [List.map_cons, List.sum_cons, ih fun x hx => h x (by simp [hx])]
theorem Ms.sum {n : Nat} {rs ts : List (List Nat)} (h : Ms n rs ts) : AP n rs → (ts.map Lw.inv).sum = (rs.map Lw.inv).sum := by
  induction h with
  | refl _ => exact fun _ => rfl
  | step m _ ih => exact fun h => (ih (m.pm h)).trans (m.sum h)
theorem inv_pln (n : Nat) : inv (pln n) = 0 := by
  have : ∀ l : List Nat, l.Pairwise (· < ·) → inv l = 0 := by
    intro l
    induction l with
    | nil => intro _; rfl
    | cons x l ih =>
      intro h
      obtain ⟨h1, h2⟩ := List.pairwise_cons.mp h
      show List.countP _ l + inv l = 0
      rw [ih h2, List.countP_eq_zero.mpr fun y hy => by have := h1 y hy; simp; omega]
  exact this _ List.pairwise_lt_range
theorem wgt_norm {n : Nat} {p : Int} {rs : List (List Nat)} (hn : 2 ≤ n) (hp : AP n rs) : wgt n (norm n p rs) = wgt n (p, rs) := by
  obtain ⟨k, m, l, h1, h2, h3, h4, h5⟩ := norm_is hn hp
  rw [h5]
  have := h1.sum hp
  unfold Shp at this
  simp only [List.map_append, List.map_replicate, List.sum_append, List.sum_replicate_nat, inv_pln] at this
  unfold wgt
  rw [← this]
  simp only [Int.add_mul]
  simp
  omega
theorem inv_flp {n : Nat} {r : List Nat} (h : Pm n r) : inv (flp n r) = inv r := by
  have h1 := (r_hlf h).ms []
  have := h1.sum (ap_two h (pm_hlf n))
  simp at this
  omega
theorem inv_svneg {n j : Nat} (hj : j + 1 < n) : inv (sv j (hlf n)) + 1 = inv (hlf n) := by
  rw [sv_hlf hj]
  exact inv_sp _ _ (fa_half (by omega))
theorem inv_svpos {n j : Nat} (hj : j + 1 < n) : inv (sv j (pln n)) = 1 := by
  rw [inv_sv (pln n) (pm_pln n).nd ((pm_pln n).mem hj) (up_range hj), inv_pln]
theorem sum_flp {n : Nat} : ∀ rs : List (List Nat), AP n rs → ((rs.map (flp n)).map inv).sum = (rs.map inv).sum
  | [], _ => rfl
  | r :: rs, h => by
    simp only [List.map_cons, List.sum_cons, inv_flp (h r (by simp)), sum_flp rs fun x hx => h x (by simp [hx])]
def sgn (l : Int) : Int := if 0 < l then 1 else -1
theorem wgt_put {n : Nat} {s : Int × List (List Nat)} {l : Int} (hn : 2 ≤ n) (h : AP n s.2) (hl : Lok n l) : wgt n (put n s l) = wgt n s + sgn l := by
  unfold put
  rw [wgt_norm hn (raw_pm h hl)]
  unfold sgn
  by_cases c : 0 < l
  · obtain ⟨j, rfl⟩ : ∃ j : Nat, l = ((j + 1 : Nat) : Int) := ⟨l.toNat - 1, by omega⟩
    have hj : j + 1 < n := by have := hl.2.2; omega
    rw [raw_pos, if_pos c]
    unfold wgt
    simp only [List.map_append, List.map_cons, List.map_nil, List.sum_append, List.sum_cons, List.sum_nil, inv_svpos hj]
    omega
  · obtain ⟨j, e⟩ : ∃ j : Nat, -l = ((j + 1 : Nat) : Int) := ⟨(-l).toNat - 1, by have := hl.1; omega⟩
    obtain rfl : l = -((j + 1 : Nat) : Int) := by omega
    have hj : j + 1 < n := by have := hl.2.1; omega
    rw [raw_neg, if_neg c]
    unfold wgt
    have e1 := inv_svneg hj
    simp only [List.map_append, List.map_cons, List.map_nil, List.sum_append, List.sum_cons, List.sum_nil, sum_flp s.2 h, Int.sub_mul]
    omega
/-! powers, least and greatest -/
def Sup (s : Int × List (List Nat)) : Int := s.1 + (s.2.length : Nat)
theorem norm_ends {n : Nat} {p : Int} {rs : List (List Nat)} (hp : AP n rs) : p ≤ (norm n p rs).1 ∧ Sup (norm n p rs) ≤ p + (rs.length : Nat) := by
  unfold norm Sup
  refine ⟨by dsimp only; omega, ?_⟩
  dsimp only
  have hl := nf_len hp
  have h1 : (nf n rs).count (hlf n) + ((nf n rs).filter (mid n)).length ≤ (nf n rs).length := by
    have : ∀ l : List (List Nat), l.count (hlf n) + (l.filter (mid n)).length ≤ l.length := by
      intro l
      induction l with
      | nil => exact Nat.le_refl _
      | cons r l ih =>
        rw [List.count_cons, List.filter_cons]
        by_cases c : r = hlf n
        · have m0 : mid n r = false := by
            cases e : mid n r with
            | false => rfl
            | true => exact absurd c (mid_iff.mp e).2
          rw [m0, if_pos (by simp [c])]
          simp; omega
        · rw [if_neg (by simp [c])]
          split
          · simp; omega
          · simp; omega
    exact this _
  omega
/-- counted from the other side so often -/
def fl2 (n : Nat) (k : Nat) (rs : List (List Nat)) : List (List Nat) := if k % 2 = 0 then rs else rs.map (flp n)
theorem fl2_ap {n k : Nat} {rs : List (List Nat)} (h : AP n rs) : AP n (fl2 n k rs) := by unfold fl2; split; exact h; exact ap_map h
theorem fl2_len {n k : Nat} {rs : List (List Nat)} : (fl2 n k rs).length = rs.length := by unfold fl2; split <;> simp
theorem fl2_s {n k : Nat} {rs : List (List Nat)} (h : AP n rs) : (fl2 n k rs).map (flp n) = fl2 n (k + 1) rs := by
  unfold fl2
  by_cases c : k % 2 = 0
  · rw [if_pos c, if_neg (by omega)]
  · rw [if_neg c, if_pos (by omega), flp_map h]
theorem fl2_fl2 {n k j : Nat} {rs : List (List Nat)} (h : AP n rs) : fl2 n j (fl2 n k rs) = fl2 n (k + j) rs := by
  unfold fl2
  by_cases c : k % 2 = 0
  · rw [if_pos c]
    by_cases d : j % 2 = 0
    · rw [if_pos d, if_pos (by omega)]
    · rw [if_neg d, if_neg (by omega)]
  · rw [if_neg c]
    by_cases d : j % 2 = 0
    · rw [if_pos d, if_neg (by omega)]
    · rw [if_neg d, if_pos (by omega), flp_map h]
theorem fl2_id {n k : Nat} {rs : List (List Nat)} (h : AP n rs) : fl2 n k (fl2 n k rs) = rs := by
  rw [fl2_fl2 h]
  unfold fl2
  rw [if_pos (by omega)]
theorem norm_hs {n : Nat} (hn : 2 ≤ n) {ys : List (List Nat)} (hy : AP n ys) : ∀ (k : Nat) (p : Int) (X : List (List Nat)), AP n X → norm n p (X ++ (List.replicate k (hlf n) ++ ys)) = norm n (p + (k : Nat)) (fl2 n k X ++ ys)
  | 0, p, X, _ => by simp [fl2]
  | k + 1, p, X, hX => by
    rw [List.replicate_succ, List.cons_append, norm_hmid hn hX (ap_app.mpr ⟨ap_rep (pm_hlf n), hy⟩), norm_hs hn hy k (p + 1) _ (ap_map hX)]
    have : fl2 n k (X.map (flp n)) = fl2 n (k + 1) X := by
      have e : X.map (flp n) = fl2 n 1 X := rfl
      rw [e, fl2_fl2 hX, Nat.add_comm]
    rw [this, show p + 1 + (k : Int) = p + ((k + 1 : Nat) : Int) by omega]
/-- what stands ahead -/
theorem norm_ahead {n : Nat} (hn : 2 ≤ n) {R : List (List Nat)} (hR : AP n R) (q : Int) : ∃ k : Nat, ∀ (c : Int) (X : List (List Nat)), AP n X → norm n (c + q) (X ++ R) = norm n (c + (norm n q R).1) (fl2 n k X ++ (norm n q R).2) := by
  obtain ⟨k, m, l, h1, h2, h3, h4, h5⟩ := norm_is hn hR
  refine ⟨k, fun c X hX => ?_⟩
  rw [h5]
  dsimp only
  rw [norm_ms (ap_app.mpr ⟨hX, hR⟩) (h1.pre X)]
  unfold Shp
  rw [norm_hs hn (ap_app.mpr ⟨h4, ap_rep (pm_pln n)⟩) k _ X hX, ← List.append_assoc, norm_pln hn (ap_app.mpr ⟨fl2_ap hX, h4⟩), Int.add_assoc]
theorem puts_ahead {n : Nat} (hn : 2 ≤ n) : ∀ (v : List Int) (t : Int × List (List Nat)), NF n t → (∀ l ∈ v, Lok n l) → ∃ k : Nat, ∀ (c : Int) (X : List (List Nat)), AP n X → puts n (norm n (c + t.1) (X ++ t.2)) v = norm n (c + (puts n t v).1) (fl2 n k X ++ (puts n t v).2)
  | [], t, _, _ => ⟨0, fun c X _ => by simp [fl2]⟩
  | l :: v, t, ht, hv => by
    have hl := hv l (by simp)
    obtain ⟨k2, h2⟩ := puts_ahead hn v (put n t l) (put_NF hn ht hl) fun x hx => hv x (by simp [hx])
    have go : ∃ k : Nat, ∀ (c : Int) (X : List (List Nat)), AP n X → put n (norm n (c + t.1) (X ++ t.2)) l = norm n (c + (put n t l).1) (fl2 n k X ++ (put n t l).2) := by
      by_cases c0 : 0 < l
      · obtain ⟨j, rfl⟩ : ∃ j : Nat, l = ((j + 1 : Nat) : Int) := ⟨l.toNat - 1, by omega⟩
        have hj : j + 1 < n := by have := hl.2.2; omega
        have hR : AP n (t.2 ++ [sv j (pln n)]) := ap_app.mpr ⟨ht.pm, ap_one ((pm_pln n).sv hj)⟩
        obtain ⟨k, h⟩ := norm_ahead hn hR t.1
        refine ⟨k, fun c X hX => ?_⟩
        have e := put_norm (s := (c + t.1, X ++ t.2)) hn (ap_app.mpr ⟨hX, ht.pm⟩) hl
        rw [e, put_pos, put_pos]
        dsimp only
        rw [List.append_assoc]
        exact h c X hX
      · obtain ⟨j, e⟩ : ∃ j : Nat, -l = ((j + 1 : Nat) : Int) := ⟨(-l).toNat - 1, by have := hl.1; omega⟩
        obtain rfl : l = -((j + 1 : Nat) : Int) := by omega
        have hj : j + 1 < n := by have := hl.2.1; omega
        have hR : AP n (t.2.map (flp n) ++ [sv j (hlf n)]) := ap_app.mpr ⟨ap_map ht.pm, ap_one ((pm_hlf n).sv hj)⟩
        obtain ⟨k, h⟩ := norm_ahead hn hR (t.1 - 1)
        refine ⟨1 + k, fun c X hX => ?_⟩
        have e := put_norm (s := (c + t.1, X ++ t.2)) hn (ap_app.mpr ⟨hX, ht.pm⟩) hl
        rw [e, put_neg, put_neg]
        dsimp only
        rw [List.map_append, List.append_assoc]
        have := h c (X.map (flp n)) (ap_map hX)
        rw [show c + t.1 - 1 = c + (t.1 - 1) by omega, this]
        have e2 : X.map (flp n) = fl2 n 1 X := rfl
        rw [e2, fl2_fl2 hX]
    obtain ⟨k1, h1⟩ := go
    refine ⟨k1 + k2, fun c X hX => ?_⟩
    show puts n (put n (norm n (c + t.1) (X ++ t.2)) l) v = _
    rw [h1 c X hX, h2 c _ (fl2_ap hX), fl2_fl2 hX]
    rfl
/-- one word behind another -/
theorem frm_two {n : Nat} (hn : 2 ≤ n) {v : List Int} (hv : ∀ l ∈ v, Lok n l) : ∃ k : Nat, ∀ s : Int × List (List Nat), AP n s.2 → puts n (norm n s.1 s.2) v = norm n (s.1 + (frm n v).1) (fl2 n k s.2 ++ (frm n v).2) := by
  obtain ⟨k, h⟩ := puts_ahead hn v (0, []) (nil_nf n) hv
  refine ⟨k, fun s hs => ?_⟩
  have := h s.1 s.2 hs
  rw [List.append_nil, Int.add_zero] at this
  exact this
theorem ends_app {n : Nat} (hn : 2 ≤ n) {u v : List Int} (hu : ∀ l ∈ u, Lok n l) (hv : ∀ l ∈ v, Lok n l) : (frm n u).1 + (frm n v).1 ≤ (frm n (u ++ v)).1 ∧ Sup (frm n (u ++ v)) ≤ Sup (frm n u) + Sup (frm n v) := by
  obtain ⟨k, h⟩ := frm_two hn hv
  have nu := frm_nf hn u hu
  have nv := frm_nf hn v hv
  have := h (frm n u) nu.pm
  rw [nu.self hn] at this
  rw [frm_app, this]
  have hp : AP n (fl2 n k (frm n u).2 ++ (frm n v).2) := ap_app.mpr ⟨fl2_ap nu.pm, nv.pm⟩
  obtain ⟨h1, h2⟩ := norm_ends (p := (frm n u).1 + (frm n v).1) hp
  refine ⟨h1, ?_⟩
  rw [List.length_append, fl2_len] at h2
  unfold Sup at h2 ⊢
  omega
/-- a word above nought -/
theorem frm_pos {n : Nat} (hn : 2 ≤ n) {w : List Int} (hw : ∀ l ∈ w, Lok n l) (h0 : ∀ l ∈ w, 0 < l) : 0 ≤ (frm n w).1 := by
  rw [frm_raw hn hw]
  have hp := raws_pm w (0, []) (fun r hr => by cases hr) hw
  have : ∀ (w : List Int) (s : Int × List (List Nat)), (∀ l ∈ w, 0 < l) → (w.foldl (raw n) s).1 = s.1 := by
    intro w
    induction w with
    | nil => intro s _; rfl
    | cons l w ih =>
      intro s h
      rw [List.foldl_cons, ih _ fun x hx => h x (by simp [hx])]
      unfold raw
      rw [if_pos (h l (by simp))]
  have e := this w (0, []) h0
  have := (norm_ends (p := (w.foldl (raw n) (0, [])).1) hp).1
  rw [e] at this
  rw [e]
  exact this
/-- what makes an order a half twist -/
theorem full_is {n : Nat} : ∀ (N : Nat) (r : List Nat), Pm n r → inv r ≤ N → ∃ c, Pm n c ∧ M2 n c r (hlf n) (pln n)
  | N, r, hr, hN => by
    by_cases c : ∃ j, j + 1 < n ∧ fa j r = true
    · obtain ⟨j, hj, hf⟩ := c
      have e := inv_sp j r hf
      obtain ⟨N, rfl⟩ : ∃ M, N = M + 1 := ⟨N - 1, by omega⟩
      obtain ⟨c2, pc, h⟩ := full_is N (sp j r) hr.sp (by omega)
      have cm := h.comp pc hr.sp
      have hl := hr.len
      have hu : ¬ up j c2 = true := fun u => by
        have u := up_iff.mp u
        have x1 := cm _ (pc.ix_lt (show j < n by omega))
        have x2 := cm _ (pc.ix_lt hj)
        rw [pc.atix (show j < n by omega), at_hlf (pc.ix_lt (by omega)), at_pln (by have := pc.ix_lt (show j < n by omega); omega), sp_at j r _ (by omega)] at x1
        rw [pc.atix hj, at_hlf (pc.ix_lt hj), at_pln (by have := pc.ix_lt hj; omega), sp_at j r _ (by omega)] at x2
        rw [show tr j j = j + 1 by unfold tr; (repeat' split) <;> omega] at x1
        rw [show tr j (j + 1) = j by unfold tr; (repeat' split) <;> omega] at x2
        have f := (hr.fa_iff hj).mp hf
        have := pc.ix_lt hj
        omega
      refine ⟨sv j c2, pc.sv hj, .step j hj hf ?_ (by rw [sv_sv]; exact h)⟩
      rw [up_iff, sv_ix, sv_ix, show tr j j = j + 1 by unfold tr; (repeat' split) <;> omega, show tr j (j + 1) = j by unfold tr; (repeat' split) <;> omega]
      rw [up_iff] at hu
      have ne : c2.idxOf j ≠ c2.idxOf (j + 1) := fun e => by
        have h1 := pc.atix (show j < n by omega)
        have h2 := pc.atix hj
        rw [e] at h1; omega
      omega
    · have e : r = pln n := sorted_eq hr (nofall_sorted r fun j => by
        by_cases hj : j + 1 < n
        · cases e : fa j r with
          | false => rfl
          | true => exact absurd ⟨j, hj, e⟩ c
        · exact fa_out j r (by rw [hr.len]; omega))
      exact ⟨hlf n, pm_hlf n, by rw [e]; exact .refl _ _⟩
theorem undo_is {n : Nat} (hn : 2 ≤ n) : ∀ m : List (List Nat), AP n m → ∃ R : List (List Nat), AP n R ∧ R.length = m.length ∧ ∀ p : Int, norm n p (R ++ m) = (p + (m.length : Nat), [])
  | [], _ => ⟨[], fun r hr => (by cases hr), rfl, fun p => by rw [List.append_nil, norm_nil hn]; simp⟩
  | r :: m, hm => by
    have hr := hm r (by simp)
    have hm2 : AP n m := fun x hx => hm x (by simp [hx])
    obtain ⟨T, hT, lT, h⟩ := undo_is hn m hm2
    obtain ⟨c, pc, hc⟩ := full_is (inv r) r hr (Nat.le_refl _)
    refine ⟨T.map (flp n) ++ [c], ap_app.mpr ⟨ap_map hT, ap_one pc⟩, by simp [lT], fun p => ?_⟩
    have e : T.map (flp n) ++ [c] ++ r :: m = T.map (flp n) ++ c :: r :: m := by simp
    have hp : AP n (T.map (flp n) ++ c :: r :: m) := ap_app.mpr ⟨ap_map hT, ap_cons.mpr ⟨pc, ap_cons.mpr ⟨hr, hm2⟩⟩⟩
    rw [e, norm_ms hp ((hc.ms m).pre _), norm_hmid hn (ap_map hT) (ap_cons.mpr ⟨pm_pln n, hm2⟩), flp_map hT, norm_pmid hn hT hm2, h]
    rw [List.length_cons, show p + 1 + (m.length : Int) = p + ((m.length + 1 : Nat) : Int) by omega]
/-- the contrary -/
theorem frm_ctr {n : Nat} (hn : 2 ≤ n) {w : List Int} (hw : ∀ l ∈ w, Lok n l) : ∃ R : List (List Nat), AP n R ∧ R.length = (frm n w).2.length ∧ frm n (ctr w) = norm n (-(Sup (frm n w))) R := by
  obtain ⟨k, h⟩ := frm_two hn hw
  have nw := frm_nf hn w hw
  obtain ⟨R, hR, lR, e⟩ := undo_is hn (frm n w).2 nw.pm
  refine ⟨fl2 n k R, fl2_ap hR, by rw [fl2_len, lR], ?_⟩
  have h1 := h (-(Sup (frm n w)), fl2 n k R) (fl2_ap hR)
  dsimp only at h1
  rw [fl2_id hR, e] at h1
  have z : -(Sup (frm n w)) + (frm n w).1 + ((frm n w).2.length : Nat) = 0 := by unfold Sup; omega
  rw [z] at h1
  have hx : NF n (norm n (-(Sup (frm n w))) (fl2 n k R)) := norm_nf hn (fl2_ap hR)
  have b := puts_ctr hn w _ hx hw
  rw [h1] at b
  exact b
theorem ends_ctr {n : Nat} (hn : 2 ≤ n) {w : List Int} (hw : ∀ l ∈ w, Lok n l) : (frm n (ctr w)).1 = -(Sup (frm n w)) ∧ Sup (frm n (ctr w)) = -(frm n w).1 := by
  have half : ∀ w : List Int, (∀ l ∈ w, Lok n l) → -(Sup (frm n w)) ≤ (frm n (ctr w)).1 ∧ Sup (frm n (ctr w)) ≤ -(frm n w).1 := by
    intro w hw
    obtain ⟨R, hR, lR, e⟩ := frm_ctr hn hw
    rw [e]
    obtain ⟨h1, h2⟩ := norm_ends (p := -(Sup (frm n w))) hR
    refine ⟨h1, ?_⟩
    rw [lR] at h2
    unfold Sup at h2 ⊢
    omega
  obtain ⟨a1, a2⟩ := half w hw
  obtain ⟨b1, b2⟩ := half (ctr w) (ctr_ok hw)
  rw [ctr_ctr] at b1 b2
  omega
/-! half twists and sides -/
theorem put_shift {n : Nat} {s : Int × List (List Nat)} {l c : Int} : put n (s.1 + c, s.2) l = ((put n s l).1 + c, (put n s l).2) := by
  unfold put raw
  by_cases h : 0 < l
  · rw [if_pos h, if_pos h]; exact norm_add
  · rw [if_neg h, if_neg h]
    dsimp only
    rw [show s.1 + c - 1 = s.1 - 1 + c by omega]; exact norm_add
theorem puts_shift {n : Nat} {c : Int} : ∀ (w : List Int) (s : Int × List (List Nat)), puts n (s.1 + c, s.2) w = ((puts n s w).1 + c, (puts n s w).2)
  | [], _ => rfl
  | l :: w, s => by
    show puts n (put n (s.1 + c, s.2) l) w = _
    rw [put_shift]
    exact puts_shift w (put n s l)
/-- a letter from the other side -/
def flL (n : Nat) (l : Int) : Int := if 0 < l then n - l else 0 - n - l
theorem flL_ok {n : Nat} {l : Int} (h : Lok n l) : Lok n (flL n l) := by
  obtain ⟨h1, h2, h3⟩ := h
  unfold flL
  split
  · exact ⟨by omega, by omega, by omega⟩
  · exact ⟨by omega, by omega, by omega⟩
theorem put_flp {n : Nat} {s : Int × List (List Nat)} {l : Int} (hn : 2 ≤ n) (hs : AP n s.2) (hl : Lok n l) : put n (s.1, s.2.map (flp n)) (flL n l) = ((put n s l).1, (put n s l).2.map (flp n)) := by
  by_cases c : 0 < l
  · obtain ⟨j, rfl⟩ : ∃ j : Nat, l = ((j + 1 : Nat) : Int) := ⟨l.toNat - 1, by omega⟩
    have hj : j + 1 < n := by have := hl.2.2; omega
    have e : flL n ((j + 1 : Nat) : Int) = ((n - 2 - j + 1 : Nat) : Int) := by unfold flL; rw [if_pos c]; omega
    rw [e, put_pos, put_pos]
    have : s.2.map (flp n) ++ [sv (n - 2 - j) (pln n)] = (s.2 ++ [sv j (pln n)]).map (flp n) := by
      rw [List.map_append, List.map_cons, List.map_nil, flp_one hj]
    dsimp only
    rw [this]
    exact norm_flp hn (ap_app.mpr ⟨hs, ap_one ((pm_pln n).sv hj)⟩)
  · obtain ⟨j, e⟩ : ∃ j : Nat, -l = ((j + 1 : Nat) : Int) := ⟨(-l).toNat - 1, by have := hl.1; omega⟩
    obtain rfl : l = -((j + 1 : Nat) : Int) := by omega
    have hj : j + 1 < n := by have := hl.2.1; omega
    have e : flL n (-((j + 1 : Nat) : Int)) = -((n - 2 - j + 1 : Nat) : Int) := by unfold flL; rw [if_neg c]; omega
    rw [e, put_neg, put_neg]
    dsimp only
    have : (s.2.map (flp n)).map (flp n) ++ [sv (n - 2 - j) (hlf n)] = (s.2.map (flp n) ++ [sv j (hlf n)]).map (flp n) := by
      rw [List.map_append, List.map_cons, List.map_nil, flp_neg hj]
    rw [this]
    exact norm_flp hn (ap_app.mpr ⟨ap_map hs, ap_one ((pm_hlf n).sv hj)⟩)
theorem puts_flp {n : Nat} (hn : 2 ≤ n) : ∀ (w : List Int) (s : Int × List (List Nat)), NF n s → (∀ l ∈ w, Lok n l) → puts n (s.1, s.2.map (flp n)) (w.map (flL n)) = ((puts n s w).1, (puts n s w).2.map (flp n))
  | [], _, _, _ => rfl
  | l :: w, s, hs, hw => by
    show puts n (put n (s.1, s.2.map (flp n)) (flL n l)) (w.map (flL n)) = _
    rw [put_flp hn hs.pm (hw l (by simp))]
    exact puts_flp hn w (put n s l) (put_NF hn hs (hw l (by simp))) fun x hx => hw x (by simp [hx])
theorem frm_flp {n : Nat} (hn : 2 ≤ n) {w : List Int} (hw : ∀ l ∈ w, Lok n l) : frm n (w.map (flL n)) = ((frm n w).1, (frm n w).2.map (flp n)) := puts_flp hn w (0, []) (nil_nf n) hw
/-- settling, counted out -/
def stl (n : Nat) : Nat → List (List Nat) → List (List Nat)
  | 0, rs => rs
  | f + 1, rs => match (List.range (rs.length - 1)).find? (fun i => mvl (rw1 rs i) (rw1 rs (i + 1)) n != 0) with
    | some i => stl n f (mvd rs i (mvl (rw1 rs i) (rw1 rs (i + 1)) n - 1))
    | none => rs
theorem stl_mvd {n : Nat} : ∀ (i j : Nat) (rs : List (List Nat)), i + 1 < rs.length → j + 1 < n → fa j (rw1 rs (i + 1)) = true → up j (rw1 rs i) = true → Mv n rs (mvd rs i j)
  | 0, j, a :: b :: rs, _, h1, h2, h3 => .hd j h1 h2 h3
  | i + 1, j, r :: rs, h, h1, h2, h3 => .tl (stl_mvd i j rs (by simpa using h) h1 h2 h3)
  | 0, _, [], h, _, _, _ => by simp at h
  | 0, _, [a], h, _, _, _ => by simp at h
  | i + 1, _, [], h, _, _, _ => by simp at h
theorem stl_ms {n : Nat} : ∀ (f : Nat) (rs : List (List Nat)), Ms n rs (stl n f rs)
  | 0, rs => .refl rs
  | f + 1, rs => by
    unfold stl
    split
    · rename_i i e
      have h1 := List.find?_some e
      have h2 := List.mem_range.mp (List.mem_of_find?_eq_some e)
      obtain ⟨j, ej, hj, f1, u1⟩ := mvl_some (by simpa using h1)
      rw [ej, Nat.add_sub_cancel]
      exact .step (stl_mvd i j rs (by omega) hj f1 u1) (stl_ms f _)
    · exact .refl _
/-- the letters of a half twist -/
def twL (n : Nat) : List Int := if n = 2 then [1] else if n = 3 then [1, 2, 1] else [1, 2, 3, 1, 2, 1]
theorem twL_raw {n : Nat} (h2 : 2 ≤ n) (h4 : n ≤ 4) : (∀ l ∈ twL n, Lok n l) ∧ ∃ T : List (List Nat), ∃ k : Nat, (∀ s : Int × List (List Nat), (twL n).foldl (raw n) s = (s.1, s.2 ++ T)) ∧ AP n T ∧ Ms n T (hlf n :: List.replicate k (pln n)) := by
  have ap : ∀ n : Nat, ∀ js : List Nat, (∀ j ∈ js, j + 1 < n) → AP n (js.map fun j => sv j (pln n)) := fun n js h r hr => by
    obtain ⟨j, hj, rfl⟩ := List.mem_map.mp hr
    exact (pm_pln n).sv (h j hj)
  have go : ∀ n : Nat, ∀ js : List Nat, ∀ s : Int × List (List Nat), (js.map fun j => ((j + 1 : Nat) : Int)).foldl (raw n) s = (s.1, s.2 ++ js.map fun j => sv j (pln n)) := by
    intro n js
    induction js with
    | nil => intro s; simp
    | cons j js ih =>
      intro s
      rw [List.map_cons, List.foldl_cons, raw_pos, ih]
      simp
  have lk : ∀ n : Nat, ∀ js : List Nat, (∀ j ∈ js, j + 1 < n) → ∀ l ∈ (js.map fun j => ((j + 1 : Nat) : Int)), Lok n l := fun n js h l hl => by
    obtain ⟨j, hj, rfl⟩ := List.mem_map.mp hl
    have := h j hj
    exact ⟨by omega, by omega, by omega⟩
  obtain rfl | rfl | rfl : n = 2 ∨ n = 3 ∨ n = 4 := by omega
  · refine ⟨lk 2 [0] (by decide), [0].map (fun j => sv j (pln 2)), 0, go 2 [0], ap 2 [0] (by decide), ?_⟩
    have := stl_ms (n := 2) 100 ([0].map (fun j => sv j (pln 2)))
    have e : stl 2 100 ([0].map (fun j => sv j (pln 2))) = hlf 2 :: List.replicate 0 (pln 2) := by decide +kernel
    rw [e] at this; exact this
  · refine ⟨lk 3 [0, 1, 0] (by decide), [0, 1, 0].map (fun j => sv j (pln 3)), 2, go 3 [0, 1, 0], ap 3 [0, 1, 0] (by decide), ?_⟩
    have := stl_ms (n := 3) 100 ([0, 1, 0].map (fun j => sv j (pln 3)))
    have e : stl 3 100 ([0, 1, 0].map (fun j => sv j (pln 3))) = hlf 3 :: List.replicate 2 (pln 3) := by decide +kernel
    rw [e] at this; exact this
  · refine ⟨lk 4 [0, 1, 2, 0, 1, 0] (by decide), [0, 1, 2, 0, 1, 0].map (fun j => sv j (pln 4)), 5, go 4 [0, 1, 2, 0, 1, 0], ap 4 [0, 1, 2, 0, 1, 0] (by decide), ?_⟩
    have := stl_ms (n := 4) 100 ([0, 1, 2, 0, 1, 0].map (fun j => sv j (pln 4)))
    have e : stl 4 100 ([0, 1, 2, 0, 1, 0].map (fun j => sv j (pln 4))) = hlf 4 :: List.replicate 5 (pln 4) := by decide +kernel
    rw [e] at this; exact this
theorem puts_tw {n : Nat} (h2 : 2 ≤ n) (h4 : n ≤ 4) {s : Int × List (List Nat)} (hs : NF n s) : puts n s (twL n) = (s.1 + 1, s.2.map (flp n)) := by
  obtain ⟨hl, T, k, ht, hT, hm⟩ := twL_raw h2 h4
  have := puts_raws h2 (twL n) s hs.pm hl
  rw [hs.self h2, ht] at this
  show (twL n).foldl (put n) s = _
  rw [this]
  dsimp only
  have nl : AP n (List.replicate k (pln n)) := ap_rep (pm_pln n)
  rw [norm_ms (ap_app.mpr ⟨hs.pm, hT⟩) (hm.pre s.2), norm_hmid h2 hs.pm nl, norm_pln h2 (ap_map hs.pm)]
  have := norm_flp (p := s.1 + 1) h2 hs.pm
  rw [this]
  have e := norm_self (p := s.1 + 1) h2 hs.pm hs.st hs.md
  rw [e]
theorem lt_app {n : Int} {v w : List Int} (h : Lt n v) (k : Lt n w) : Lt n (v ++ w) := fun x hx => (List.mem_append.mp hx).elim (h x) (k x)
theorem f_lookb {n : Int} {w v : List Int} (hn : 1 ≤ n) (hn2 : n ≤ 6) (hw : w.length ≤ 16) (hl : Lt n w) (hv : v.length ≤ 16) (kl : Lt n v) : f_looked_both (plD n w) (plD n v) = .ok (.int (w.length + v.length)) := by
  unfold f_looked_both
  simp [f_look hn hn2 hw hl, f_look hn hn2 hv kl]
  simp [plD]
theorem f_behd {n : Int} {w v : List Int} (hn : 1 ≤ n) (hn2 : n ≤ 6) (hl : Lt n w) (kl : Lt n v) (hz : w.length + v.length ≤ 16) : f_behind (plD n w) (plD n v) = .ok (plD n (w ++ v)) := by
  unfold f_behind
  simp [f_lookb hn hn2 (by omega) hl (by omega) kl, show ¬ (16 : Int) < w.length + v.length by omega]
  simp [plD]
  rw [s_addT (by simp; omega)]
  simp
def flipL (n x : Int) : Int := if 0 < x then n - x else 0 - n - x
theorem f_flipl {n x : Int} : f_flipped_letter (.int x) (.int n) = .ok (.int (flipL n x)) := by
  unfold f_flipped_letter flipL
  by_cases h : 0 < x <;> simp [h]
theorem f_flip {n : Int} {w : List Int} (hn : 1 ≤ n) (hn2 : n ≤ 6) (hw : w.length ≤ 16) (hl : Lt n w) : f_flipped (plD n w) = .ok (plD n (w.map (flipL n))) := by
  unfold f_flipped
  simp [f_look hn hn2 hw hl]
  simp [plD]
  rw [lcR_ok (h := fun x => D.int (flipL n x)) w (by omega)]
  · simp
  · intro x _
    simp [f_flipl]
/-! the law -/
theorem f_law_ok (ns : List Int) (hn : ns.length ≤ 63) : f_law (.frl (ns.map D.int)) = .ok (.bl true) := by
  refine of_is ?_
  unfold f_law
  obtain ⟨s, es, hs⟩ := f_state ns 0 (by omega)
  have es : f__law_state (.frl (ns.map D.int)) (.int 0) = .ok s := es
  obtain ⟨⟨o, s1⟩, ep, n, w, rfl, h1, h4, hl, hw, d1⟩ := is_plait hs (a := 2) (b := 4) (c := 8) (by decide) (by decide) (by decide) (by decide) (by decide)
  have ep : f__law_plait s (.int 2) (.int 4) (.int 8) = .ok (plD n w, s1) := ep
  obtain ⟨n, rfl⟩ : ∃ m : Nat, n = m := ⟨n.toNat, by omega⟩
  have h2 : 2 ≤ n := by omega
  have h4 : n ≤ 4 := by omega
  have h6 : n ≤ 6 := by omega
  have i0 : D.ix (plD n w) (.int 0) = some (.int (n : Nat)) := rfl
  have mk : ∀ u : List Int, (fits [D.int (n : Nat), .tup (u.map .int)]).map D.tup = some (plD n u) := fun u => by rw [s_fits2, Option.map_some]; rfl
  have pk : ∀ u : List Int, D.tup [D.int (n : Nat), .tup (u.map .int)] = plD n u := fun _ => rfl
  have tw : ∃ ds, rg3 [.int ((n : Int) - 1), .int 0, .int (-1)] = some ds ∧ foldR (fun (a5 : D) d6 => ((((R.of (D.addI d6 (.int 1))).bnd fun y => (R.of (D.toI (.int 1))).bnd fun i => (R.of (D.toI y)).bnd fun j => .ok (i, j)).bnd2 fun i j => (R.of (rgL i j)).bnd fun ds => .ok (D.tup ds)).bnd fun y => R.of (D.addI a5 y)).bnd fun x_twist_7 => .ok x_twist_7) (.tup []) ds = .ok (.tup ((twL n).map .int)) := by
    obtain rfl | rfl | rfl : n = 2 ∨ n = 3 ∨ n = 4 := by omega
    · exact ⟨_, rfl, rfl⟩
    · exact ⟨_, rfl, rfl⟩
    · exact ⟨_, rfl, rfl⟩
  obtain ⟨ds, e3, fo⟩ := tw
  have tl := (twL_raw h2 h4).1
  have ll : (twL n).length ≤ 6 := by unfold twL; split; decide; split <;> decide
  have b1 := f_behd (n := (n : Nat)) (w := twL n) (v := w) (by omega) (by omega) tl hw (by omega)
  have b2 := f_behd (n := (n : Nat)) (w := w) (v := twL n) (by omega) (by omega) hw tl (by omega)
  have l1 := lt_app (n := (n : Nat)) tl hw
  have l2 := lt_app (n := (n : Nat)) hw tl
  have fw : w.map (flipL n) = w.map (flL n) := rfl
  have l3 : Lt n (w.map (flL n)) := fun x hx => by
    obtain ⟨y, hy, rfl⟩ := List.mem_map.mp hx
    exact flL_ok (hw y hy)
  have b3 := f_flip (n := (n : Nat)) (w := w) (by omega) (by omega) (by omega) hw
  rw [fw] at b3
  have nw := frm_nf h2 w hw
  have t0 : frm n (twL n) = (1, []) := puts_tw h2 h4 (nil_nf n)
  have t1 : frm n (twL n ++ w) = ((frm n w).1 + 1, (frm n w).2) := by
    rw [frm_app, t0]
    exact puts_shift (c := 1) w (0, [])
  have t2 : frm n (w ++ twL n) = ((frm n w).1 + 1, (frm n w).2.map (flp n)) := by
    rw [frm_app]; exact puts_tw h2 h4 nw
  have t3 := frm_flp h2 hw
  have f0 := f_formof h2 h6 hw (by omega)
  have f1 := f_formof h2 h6 tl (by omega)
  have f2 := f_formof h2 h6 l1 (by simp; omega)
  have f3 := f_formof h2 h6 l2 (by simp; omega)
  have f4 := f_formof h2 h6 l3 (by simp; omega)
  rw [t0] at f1
  rw [t1] at f2
  rw [t2] at f3
  rw [t3] at f4
  have sides : lcR (fun d17 => f__law_flip d17) ((frm n w).2.map oU) = .ok (((frm n w).2.map (flp n)).map oT) := by
    have hlen := frm_len h2 hw
    rw [lcR_ok (h := fun r => oT (flp n r)) (frm n w).2 (by omega) fun r hr => ?_, List.map_map]
    · rfl
    · have hp := nw.pm r hr
      unfold f__law_flip
      have hl := hp.len
      have e0 : D.len [oU r] = some (.int (n : Nat)) := by show some (D.int ((oL r).length : Int)) = _; rw [oL_len, hl]
      have e1 : D.back (oU r) = some (.tup (r.reverse.map fun x : Nat => D.int (x : Nat))) := by
        show some (D.tup (oL r).reverse) = _
        unfold oL; rw [List.map_reverse]
      simp only [bnd_ok, e0, e1, of_some, s_sub, s_seqT]
      rw [lcR_ok (h := fun x : Nat => D.int ((n - 1 - x : Nat) : Int)) r.reverse (by simp; omega) fun x hx => ?_]
      · simp only [bnd_ok]
        unfold flp oT oL
        rw [List.map_map]
        rfl
      · have := hp.lt (List.mem_reverse.mp hx)
        rw [s_sub, of_some]
        congr 2
        omega
  have e : foU (frm n w) = .tup [.int (frm n w).1, .tup ((frm n w).2.map oU)] := rfl
  have q1 : D.ne (foU (1, [])) (.tup [.int 1, .tup []]) = some false := (ne_any (s := (1, [])) (t := (1, [])) (.inl rfl) (.inl rfl)).trans (by rw [decide_eq_true rfl]; rfl)
  simp only [bnd_ok, s_ap2, es, s_apI3, ep, bnd2_ok, s_fits0, of_some, Option.map_some, i0, s_sub, s_neg, e3] at fo ⊢
  rw [fo]
  simp only [bnd_ok, pk, of_some, s_ap1, f0, e, s_bU2, s_seqT, sides, s_tupL, f1, q1, Bool.false_eq_true, if_false, s_ap2, b1, b2, b3, f2, f3, f4, s_add, s_fits2, Option.map_some]
  have q2 : D.ne (foU ((frm n w).1 + 1, (frm n w).2)) (.tup [.int ((frm n w).1 + 1), .tup ((frm n w).2.map oU)]) = some false := (ne_any (s := ((frm n w).1 + 1, (frm n w).2)) (t := ((frm n w).1 + 1, (frm n w).2)) (.inl rfl) (.inl rfl)).trans (by rw [decide_eq_true rfl]; rfl)
  have q3 : D.eq (foU ((frm n w).1 + 1, (frm n w).2.map (flp n))) (.tup [.int ((frm n w).1 + 1), .tup (((frm n w).2.map (flp n)).map oT)]) = some true := (eq_any (s := ((frm n w).1 + 1, (frm n w).2.map (flp n))) (t := ((frm n w).1 + 1, (frm n w).2.map (flp n))) (.inl rfl) (.inr rfl)).trans (by rw [decide_eq_true rfl])
  have q4 : D.eq (foU ((frm n w).1, (frm n w).2.map (flp n))) (.tup [.int (frm n w).1, .tup (((frm n w).2.map (flp n)).map oT)]) = some true := (eq_any (s := ((frm n w).1, (frm n w).2.map (flp n))) (t := ((frm n w).1, (frm n w).2.map (flp n))) (.inl rfl) (.inr rfl)).trans (by rw [decide_eq_true rfl])
  simp only [q2, q3, q4, of_some, bnd_ok, Bool.false_eq_true, if_false, Option.map_some, s_bool, if_true]
  exact is_ok rfl
theorem holds : ∀ ns : List Int, ns.length ≤ 63 → f_law (.frl (ns.map D.int)) = .ok (.bl true) := f_law_ok
omit [FormC] in
theorem all_mk {P : Program} {w : World} {K : PySem.W.Frag} {h : Heap} {mg : Str → Option Value} {fa : Addr} (X : K.In h) (G : h.Ns mainGlobals mg) (hfa : mg "law" = some (.ref fa))
    (hl : ∀ (C : FormC) (ns : List Int), ns.length ≤ 63 → @f_law C (.frl (ns.map D.int)) = .ok (.bl true))
    {f0 f1 f2 f3 f4 f5 f6 f7 f8 f9 f10 f11 f12 f13 f14 f15 f16 f17 f18 f19 f20 f21 f22 f23 f24 f25 f26 f27 f28 f29 f30 f31 f32 C0 C1 C2 : Addr} {od0 an0 od1 an1 od2 an2 od3 an3 od4 an4 od5 an5 od6 an6 od7 an7 od8 an8 od9 an9 od10 an10 od11 an11 od12 an12 od13 an13 od14 an14 od15 an15 od16 an16 od17 an17 od18 an18 od19 an19 od20 an20 od21 an21 od22 an22 od23 an23 od24 an24 od25 an25 od26 an26 od27 an27 od28 an28 od29 an29 od30 an30 od31 an31 od32 an32 : Option Addr} {sl0 sl1 sl2 sl3 sl4 sl5 sl6 sl7 sl8 sl9 sl10 sl11 sl12 sl13 sl14 sl15 sl16 sl17 sl18 sl19 sl20 sl21 sl22 sl23 sl24 sl25 sl26 sl27 sl28 sl29 sl30 sl31 sl32 : Array (Option Value)}
    {oc0 kV0 dc0 pm0 cd0 ct0 oc1 kV1 dc1 pm1 cd1 ct1 oc2 kV2 dc2 pm2 cd2 ct2 oc3 kV3 dc3 pm3 cd3 ct3 oc4 kV4 dc4 pm4 cd4 ct4 oc5 kV5 dc5 pm5 cd5 ct5 oc6 kV6 dc6 pm6 cd6 ct6 oc7 kV7 dc7 pm7 cd7 ct7 oc8 kV8 dc8 pm8 cd8 ct8 oc9 kV9 dc9 pm9 cd9 ct9 oc10 kV10 dc10 pm10 cd10 ct10 oc11 kV11 dc11 pm11 cd11 ct11 oc12 kV12 dc12 pm12 cd12 ct12 oc13 kV13 dc13 pm13 cd13 ct13 oc14 kV14 dc14 pm14 cd14 ct14 oc15 kV15 dc15 pm15 cd15 ct15 oc16 kV16 dc16 pm16 cd16 ct16 oc17 kV17 dc17 pm17 cd17 ct17 oc18 kV18 dc18 pm18 cd18 ct18 oc19 kV19 dc19 pm19 cd19 ct19 oc20 kV20 dc20 pm20 cd20 ct20 oc21 kV21 dc21 pm21 cd21 ct21 oc22 kV22 dc22 pm22 cd22 ct22 oc23 kV23 dc23 pm23 cd23 ct23 oc24 kV24 dc24 pm24 cd24 ct24 oc25 kV25 dc25 pm25 cd25 ct25 oc26 kV26 dc26 pm26 cd26 ct26 oc27 kV27 dc27 pm27 cd27 ct27 oc28 kV28 dc28 pm28 cd28 ct28 oc29 kV29 dc29 pm29 cd29 ct29 oc30 kV30 dc30 pm30 cd30 ct30 oc31 kV31 dc31 pm31 cd31 ct31 oc32 kV32 dc32 pm32 cd32 ct32 : Value}
    {CF : Addr} (aF : PySem.W.nsIn K mainGlobals "Form" = some (some (.ref CF))) (pgF : PySem.W.plainGet K CF Str.empty = true) (hdF : PySem.W.hasDictIn K CF = true) (poF : PySem.W.plainOver K CF = true) (saF : PySem.W.findIn K (.ref CF) "__setattr__" = some (some (.builtin "object.__setattr__"))) (mkF : PySem.W.makesIn K CF = true) (kcF : PySem.W.keepIn K (.ref CF) = true) (nNF : PySem.W.findIn K (.ref CF) "strands" = some none) (nPF : PySem.W.findIn K (.ref CF) "power" = some none) (nRF : PySem.W.findIn K (.ref CF) "rows" = some none)
    (a0 : PySem.W.nsIn K mainGlobals "is_letter" = some (some (.ref f0))) (l0 : K.lookup f0 = some ⟨oc0, od0, .func (PySem.W.fnOf "is_letter" "is_letter" (defArgs s_is_letter) (defBody s_is_letter) (defScope s_is_letter) .none kV0 dc0 pm0 an0 cd0 ct0), sl0⟩) (c0 : PySem.W.codeIn K cd0 "is_letter" = true) (k0 : PySem.W.keepIn K (.ref f0) = true)
    (a1 : PySem.W.nsIn K mainGlobals "looked" = some (some (.ref f1))) (l1 : K.lookup f1 = some ⟨oc1, od1, .func (PySem.W.fnOf "looked" "looked" (defArgs s_looked) (defBody s_looked) (defScope s_looked) .none kV1 dc1 pm1 an1 cd1 ct1), sl1⟩) (c1 : PySem.W.codeIn K cd1 "looked" = true) (k1 : PySem.W.keepIn K (.ref f1) = true)
    (a2 : PySem.W.nsIn K mainGlobals "looked_both" = some (some (.ref f2))) (l2 : K.lookup f2 = some ⟨oc2, od2, .func (PySem.W.fnOf "looked_both" "looked_both" (defArgs s_looked_both) (defBody s_looked_both) (defScope s_looked_both) .none kV2 dc2 pm2 an2 cd2 ct2), sl2⟩) (c2 : PySem.W.codeIn K cd2 "looked_both" = true) (k2 : PySem.W.keepIn K (.ref f2) = true)
    (a3 : PySem.W.nsIn K mainGlobals "behind" = some (some (.ref f3))) (l3 : K.lookup f3 = some ⟨oc3, od3, .func (PySem.W.fnOf "behind" "behind" (defArgs s_behind) (defBody s_behind) (defScope s_behind) .none kV3 dc3 pm3 an3 cd3 ct3), sl3⟩) (c3 : PySem.W.codeIn K cd3 "behind" = true) (k3 : PySem.W.keepIn K (.ref f3) = true)
    (a4 : PySem.W.nsIn K mainGlobals "flipped_letter" = some (some (.ref f4))) (l4 : K.lookup f4 = some ⟨oc4, od4, .func (PySem.W.fnOf "flipped_letter" "flipped_letter" (defArgs s_flipped_letter) (defBody s_flipped_letter) (defScope s_flipped_letter) .none kV4 dc4 pm4 an4 cd4 ct4), sl4⟩) (c4 : PySem.W.codeIn K cd4 "flipped_letter" = true) (k4 : PySem.W.keepIn K (.ref f4) = true)
    (a5 : PySem.W.nsIn K mainGlobals "flipped" = some (some (.ref f5))) (l5 : K.lookup f5 = some ⟨oc5, od5, .func (PySem.W.fnOf "flipped" "flipped" (defArgs s_flipped) (defBody s_flipped) (defScope s_flipped) .none kV5 dc5 pm5 an5 cd5 ct5), sl5⟩) (c5 : PySem.W.codeIn K cd5 "flipped" = true) (k5 : PySem.W.keepIn K (.ref f5) = true)
    (a6 : PySem.W.nsIn K mainGlobals "exchanged" = some (some (.ref f6))) (l6 : K.lookup f6 = some ⟨oc6, od6, .func (PySem.W.fnOf "exchanged" "exchanged" (defArgs s_exchanged) (defBody s_exchanged) (defScope s_exchanged) .none kV6 dc6 pm6 an6 cd6 ct6), sl6⟩) (c6 : PySem.W.codeIn K cd6 "exchanged" = true) (k6 : PySem.W.keepIn K (.ref f6) = true)
    (a7 : PySem.W.nsIn K mainGlobals "half_twist" = some (some (.ref f7))) (l7 : K.lookup f7 = some ⟨oc7, od7, .func (PySem.W.fnOf "half_twist" "half_twist" (defArgs s_half_twist) (defBody s_half_twist) (defScope s_half_twist) .none kV7 dc7 pm7 an7 cd7 ct7), sl7⟩) (c7 : PySem.W.codeIn K cd7 "half_twist" = true) (k7 : PySem.W.keepIn K (.ref f7) = true)
    (a8 : PySem.W.nsIn K mainGlobals "plain_order" = some (some (.ref f8))) (l8 : K.lookup f8 = some ⟨oc8, od8, .func (PySem.W.fnOf "plain_order" "plain_order" (defArgs s_plain_order) (defBody s_plain_order) (defScope s_plain_order) .none kV8 dc8 pm8 an8 cd8 ct8), sl8⟩) (c8 : PySem.W.codeIn K cd8 "plain_order" = true) (k8 : PySem.W.keepIn K (.ref f8) = true)
    (a9 : PySem.W.nsIn K mainGlobals "letter_order" = some (some (.ref f9))) (l9 : K.lookup f9 = some ⟨oc9, od9, .func (PySem.W.fnOf "letter_order" "letter_order" (defArgs s_letter_order) (defBody s_letter_order) (defScope s_letter_order) .none kV9 dc9 pm9 an9 cd9 ct9), sl9⟩) (c9 : PySem.W.codeIn K cd9 "letter_order" = true) (k9 : PySem.W.keepIn K (.ref f9) = true)
    (a10 : PySem.W.nsIn K mainGlobals "undone_order" = some (some (.ref f10))) (l10 : K.lookup f10 = some ⟨oc10, od10, .func (PySem.W.fnOf "undone_order" "undone_order" (defArgs s_undone_order) (defBody s_undone_order) (defScope s_undone_order) .none kV10 dc10 pm10 an10 cd10 ct10), sl10⟩) (c10 : PySem.W.codeIn K cd10 "undone_order" = true) (k10 : PySem.W.keepIn K (.ref f10) = true)
    (a11 : PySem.W.nsIn K mainGlobals "falls" = some (some (.ref f11))) (l11 : K.lookup f11 = some ⟨oc11, od11, .func (PySem.W.fnOf "falls" "falls" (defArgs s_falls) (defBody s_falls) (defScope s_falls) .none kV11 dc11 pm11 an11 cd11 ct11), sl11⟩) (c11 : PySem.W.codeIn K cd11 "falls" = true) (k11 : PySem.W.keepIn K (.ref f11) = true)
    (a12 : PySem.W.nsIn K mainGlobals "begin_letters" = some (some (.ref f12))) (l12 : K.lookup f12 = some ⟨oc12, od12, .func (PySem.W.fnOf "begin_letters" "begin_letters" (defArgs s_begin_letters) (defBody s_begin_letters) (defScope s_begin_letters) .none kV12 dc12 pm12 an12 cd12 ct12), sl12⟩) (c12 : PySem.W.codeIn K cd12 "begin_letters" = true) (k12 : PySem.W.keepIn K (.ref f12) = true)
    (a13 : PySem.W.nsIn K mainGlobals "end_letters" = some (some (.ref f13))) (l13 : K.lookup f13 = some ⟨oc13, od13, .func (PySem.W.fnOf "end_letters" "end_letters" (defArgs s_end_letters) (defBody s_end_letters) (defScope s_end_letters) .none kV13 dc13 pm13 an13 cd13 ct13), sl13⟩) (c13 : PySem.W.codeIn K cd13 "end_letters" = true) (k13 : PySem.W.keepIn K (.ref f13) = true)
    (a14 : PySem.W.nsIn K mainGlobals "with_end" = some (some (.ref f14))) (l14 : K.lookup f14 = some ⟨oc14, od14, .func (PySem.W.fnOf "with_end" "with_end" (defArgs s_with_end) (defBody s_with_end) (defScope s_with_end) .none kV14 dc14 pm14 an14 cd14 ct14), sl14⟩) (c14 : PySem.W.codeIn K cd14 "with_end" = true) (k14 : PySem.W.keepIn K (.ref f14) = true)
    (a15 : PySem.W.nsIn K mainGlobals "without_begin" = some (some (.ref f15))) (l15 : K.lookup f15 = some ⟨oc15, od15, .func (PySem.W.fnOf "without_begin" "without_begin" (defArgs s_without_begin) (defBody s_without_begin) (defScope s_without_begin) .none kV15 dc15 pm15 an15 cd15 ct15), sl15⟩) (c15 : PySem.W.codeIn K cd15 "without_begin" = true) (k15 : PySem.W.keepIn K (.ref f15) = true)
    (a16 : PySem.W.nsIn K mainGlobals "flipped_order" = some (some (.ref f16))) (l16 : K.lookup f16 = some ⟨oc16, od16, .func (PySem.W.fnOf "flipped_order" "flipped_order" (defArgs s_flipped_order) (defBody s_flipped_order) (defScope s_flipped_order) .none kV16 dc16 pm16 an16 cd16 ct16), sl16⟩) (c16 : PySem.W.codeIn K cd16 "flipped_order" = true) (k16 : PySem.W.keepIn K (.ref f16) = true)
    (a17 : PySem.W.nsIn K mainGlobals "movable_letters" = some (some (.ref f17))) (l17 : K.lookup f17 = some ⟨oc17, od17, .func (PySem.W.fnOf "movable_letters" "movable_letters" (defArgs s_movable_letters) (defBody s_movable_letters) (defScope s_movable_letters) .none kV17 dc17 pm17 an17 cd17 ct17), sl17⟩) (c17 : PySem.W.codeIn K cd17 "movable_letters" = true) (k17 : PySem.W.keepIn K (.ref f17) = true)
    (a18 : PySem.W.nsIn K mainGlobals "settled_pair" = some (some (.ref f18))) (l18 : K.lookup f18 = some ⟨oc18, od18, .func (PySem.W.fnOf "settled_pair" "settled_pair" (defArgs s_settled_pair) (defBody s_settled_pair) (defScope s_settled_pair) .none kV18 dc18 pm18 an18 cd18 ct18), sl18⟩) (c18 : PySem.W.codeIn K cd18 "settled_pair" = true) (k18 : PySem.W.keepIn K (.ref f18) = true)
    (a19 : PySem.W.findIn K (.ref CF) "__init__" = some (some (.ref f19))) (j19 : PySem.W.isFn K (.ref f19) = true) (l19 : K.lookup f19 = some ⟨oc19, od19, .func (PySem.W.fnOf "__init__" "Form.__init__" (defArgs s_Form___init__) (defBody s_Form___init__) (defScope s_Form___init__) .none kV19 dc19 pm19 an19 cd19 ct19), sl19⟩) (c19 : PySem.W.codeIn K cd19 "Form.__init__" = true) (k19 : PySem.W.keepIn K (.ref f19) = true)
    (a20 : PySem.W.findIn K (.ref CF) "settle" = some (some (.ref f20))) (j20 : PySem.W.isFn K (.ref f20) = true) (l20 : K.lookup f20 = some ⟨oc20, od20, .func (PySem.W.fnOf "settle" "Form.settle" (defArgs s_Form_settle) (defBody s_Form_settle) (defScope s_Form_settle) .none kV20 dc20 pm20 an20 cd20 ct20), sl20⟩) (c20 : PySem.W.codeIn K cd20 "Form.settle" = true) (k20 : PySem.W.keepIn K (.ref f20) = true)
    (a21 : PySem.W.findIn K (.ref CF) "put_order" = some (some (.ref f21))) (j21 : PySem.W.isFn K (.ref f21) = true) (l21 : K.lookup f21 = some ⟨oc21, od21, .func (PySem.W.fnOf "put_order" "Form.put_order" (defArgs s_Form_put_order) (defBody s_Form_put_order) (defScope s_Form_put_order) .none kV21 dc21 pm21 an21 cd21 ct21), sl21⟩) (c21 : PySem.W.codeIn K cd21 "Form.put_order" = true) (k21 : PySem.W.keepIn K (.ref f21) = true)
    (a22 : PySem.W.findIn K (.ref CF) "put" = some (some (.ref f22))) (j22 : PySem.W.isFn K (.ref f22) = true) (l22 : K.lookup f22 = some ⟨oc22, od22, .func (PySem.W.fnOf "put" "Form.put" (defArgs s_Form_put) (defBody s_Form_put) (defScope s_Form_put) .none kV22 dc22 pm22 an22 cd22 ct22), sl22⟩) (c22 : PySem.W.codeIn K cd22 "Form.put" = true) (k22 : PySem.W.keepIn K (.ref f22) = true)
    (a23 : PySem.W.findIn K (.ref CF) "told" = some (some (.ref f23))) (j23 : PySem.W.isFn K (.ref f23) = true) (l23 : K.lookup f23 = some ⟨oc23, od23, .func (PySem.W.fnOf "told" "Form.told" (defArgs s_Form_told) (defBody s_Form_told) (defScope s_Form_told) .none kV23 dc23 pm23 an23 cd23 ct23), sl23⟩) (c23 : PySem.W.codeIn K cd23 "Form.told" = true) (k23 : PySem.W.keepIn K (.ref f23) = true)
    (a24 : PySem.W.nsIn K mainGlobals "form_by" = some (some (.ref f24))) (l24 : K.lookup f24 = some ⟨oc24, od24, .func (PySem.W.fnOf "form_by" "form_by" (defArgs s_form_by) (defBody s_form_by) (defScope s_form_by) .none kV24 dc24 pm24 an24 cd24 ct24), sl24⟩) (c24 : PySem.W.codeIn K cd24 "form_by" = true) (k24 : PySem.W.keepIn K (.ref f24) = true)
    (a25 : PySem.W.nsIn K mainGlobals "form_of" = some (some (.ref f25))) (l25 : K.lookup f25 = some ⟨oc25, od25, .func (PySem.W.fnOf "form_of" "form_of" (defArgs s_form_of) (defBody s_form_of) (defScope s_form_of) .none kV25 dc25 pm25 an25 cd25 ct25), sl25⟩) (c25 : PySem.W.codeIn K cd25 "form_of" = true) (k25 : PySem.W.keepIn K (.ref f25) = true)
    (a26 : PySem.W.nsIn K mainGlobals "_law_cell_at" = some (some (.ref f26))) (l26 : K.lookup f26 = some ⟨oc26, od26, .func (PySem.W.fnOf "_law_cell_at" "_law_cell_at" (defArgs s__law_cell_at) (defBody s__law_cell_at) (defScope s__law_cell_at) .none kV26 dc26 pm26 an26 cd26 ct26), sl26⟩) (c26 : PySem.W.codeIn K cd26 "_law_cell_at" = true) (k26 : PySem.W.keepIn K (.ref f26) = true)
    (a27 : PySem.W.nsIn K mainGlobals "_law_state" = some (some (.ref f27))) (l27 : K.lookup f27 = some ⟨oc27, od27, .func (PySem.W.fnOf "_law_state" "_law_state" (defArgs s__law_state) (defBody s__law_state) (defScope s__law_state) .none kV27 dc27 pm27 an27 cd27 ct27), sl27⟩) (c27 : PySem.W.codeIn K cd27 "_law_state" = true) (k27 : PySem.W.keepIn K (.ref f27) = true)
    (a28 : PySem.W.nsIn K mainGlobals "_law_choice" = some (some (.ref f28))) (l28 : K.lookup f28 = some ⟨oc28, od28, .func (PySem.W.fnOf "_law_choice" "_law_choice" (defArgs s__law_choice) (defBody s__law_choice) (defScope s__law_choice) .none kV28 dc28 pm28 an28 cd28 ct28), sl28⟩) (c28 : PySem.W.codeIn K cd28 "_law_choice" = true) (k28 : PySem.W.keepIn K (.ref f28) = true)
    (a29 : PySem.W.nsIn K mainGlobals "_law_word" = some (some (.ref f29))) (l29 : K.lookup f29 = some ⟨oc29, od29, .func (PySem.W.fnOf "_law_word" "_law_word" (defArgs s__law_word) (defBody s__law_word) (defScope s__law_word) .none kV29 dc29 pm29 an29 cd29 ct29), sl29⟩) (c29 : PySem.W.codeIn K cd29 "_law_word" = true) (k29 : PySem.W.keepIn K (.ref f29) = true)
    (a30 : PySem.W.nsIn K mainGlobals "_law_plait" = some (some (.ref f30))) (l30 : K.lookup f30 = some ⟨oc30, od30, .func (PySem.W.fnOf "_law_plait" "_law_plait" (defArgs s__law_plait) (defBody s__law_plait) (defScope s__law_plait) .none kV30 dc30 pm30 an30 cd30 ct30), sl30⟩) (c30 : PySem.W.codeIn K cd30 "_law_plait" = true) (k30 : PySem.W.keepIn K (.ref f30) = true)
    (a31 : PySem.W.nsIn K mainGlobals "_law_flip" = some (some (.ref f31))) (l31 : K.lookup f31 = some ⟨oc31, od31, .func (PySem.W.fnOf "_law_flip" "_law_flip" (defArgs s__law_flip) (defBody s__law_flip) (defScope s__law_flip) .none kV31 dc31 pm31 an31 cd31 ct31), sl31⟩) (c31 : PySem.W.codeIn K cd31 "_law_flip" = true) (k31 : PySem.W.keepIn K (.ref f31) = true)
    (a32 : PySem.W.nsIn K mainGlobals "law" = some (some (.ref f32))) (l32 : K.lookup f32 = some ⟨oc32, od32, .func (PySem.W.fnOf "law" "law" (defArgs s_law) (defBody s_law) (defScope s_law) .none kV32 dc32 pm32 an32 cd32 ct32), sl32⟩) (c32 : PySem.W.codeIn K cd32 "law" = true) (k32 : PySem.W.keepIn K (.ref f32) = true)
    (z0 : PySem.W.nsIn K mainGlobals "abs" = some none)
    (z1 : PySem.W.nsIn K mainGlobals "len" = some none)
    (z2 : PySem.W.nsIn K mainGlobals "tuple" = some none)
    (z3 : PySem.W.nsIn K mainGlobals "range" = some none)
    (z4 : PySem.W.nsIn K mainGlobals "reversed" = some none)
    (z5 : PySem.W.nsIn K mainGlobals "list" = some none)
    (z6 : PySem.W.nsIn K mainGlobals "enumerate" = some none)
    (z7 : PySem.W.nsIn K mainGlobals "max" = some none)
    {t0 : Nat} (y0 : PySem.W.nsIn K mainGlobals "MOST_STRANDS" = some (some (.int (6) t0)))
    {t1 : Nat} (y1 : PySem.W.nsIn K mainGlobals "MOST_LETTERS" = some (some (.int (16) t1)))
    {t2 : Nat} (y2 : PySem.W.nsIn K mainGlobals "MOST_WORD" = some (some (.int (500) t2)))
    (g0 : PySem.W.nsIn K mainGlobals "NoPlait" = some (some (.ref C0))) (x0 : PySem.W.excIn K C0 [.type "ValueError", .type "Exception", .type "BaseException", .type "object"] "ValueError.__new__" = true) (p0 : PySem.W.keepIn K (.ref C0) = true) (b0 : PySem.W.subIn K (.ref C0) (.type "BaseException") = some true) (m0 : PySem.W.typeIn K (.ref C0) = some (.type "type"))
    (g1 : PySem.W.nsIn K mainGlobals "NoRoom" = some (some (.ref C1))) (x1 : PySem.W.excIn K C1 [.type "ValueError", .type "Exception", .type "BaseException", .type "object"] "ValueError.__new__" = true) (p1 : PySem.W.keepIn K (.ref C1) = true) (b1 : PySem.W.subIn K (.ref C1) (.type "BaseException") = some true) (m1 : PySem.W.typeIn K (.ref C1) = some (.type "type"))
    (g2 : PySem.W.nsIn K mainGlobals "NoStep" = some (some (.ref C2))) (x2 : PySem.W.excIn K C2 [.type "ValueError", .type "Exception", .type "BaseException", .type "object"] "ValueError.__new__" = true) (p2 : PySem.W.keepIn K (.ref C2) = true) (b2 : PySem.W.subIn K (.ref C2) (.type "BaseException") = some true) (m2 : PySem.W.typeIn K (.ref C2) = some (.type "type"))
    : ∃ fd : FuncData, (∀ (s : Shared) (v : Value), BindsTo s fd ⟨[v], []⟩ [("script", v)]) ∧ ∀ base : Heap, K.In base → base.Ns mainGlobals mg → FnOk P w K mg base (L2.CX P w) 10 fa fd ["script"] (spScript K) := by
  have e := hfa.symm.trans (PySem.W.mg_of X G a32)
  cases e
  have F0 := fun_mk (st := s_is_letter) l0 c0 k0
  have F1 := fun_mk (st := s_looked) l1 c1 k1
  have F2 := fun_mk (st := s_looked_both) l2 c2 k2
  have F3 := fun_mk (st := s_behind) l3 c3 k3
  have F4 := fun_mk (st := s_flipped_letter) l4 c4 k4
  have F5 := fun_mk (st := s_flipped) l5 c5 k5
  have F6 := fun_mk (st := s_exchanged) l6 c6 k6
  have F7 := fun_mk (st := s_half_twist) l7 c7 k7
  have F8 := fun_mk (st := s_plain_order) l8 c8 k8
  have F9 := fun_mk (st := s_letter_order) l9 c9 k9
  have F10 := fun_mk (st := s_undone_order) l10 c10 k10
  have F11 := fun_mk (st := s_falls) l11 c11 k11
  have F12 := fun_mk (st := s_begin_letters) l12 c12 k12
  have F13 := fun_mk (st := s_end_letters) l13 c13 k13
  have F14 := fun_mk (st := s_with_end) l14 c14 k14
  have F15 := fun_mk (st := s_without_begin) l15 c15 k15
  have F16 := fun_mk (st := s_flipped_order) l16 c16 k16
  have F17 := fun_mk (st := s_movable_letters) l17 c17 k17
  have F18 := fun_mk (st := s_settled_pair) l18 c18 k18
  have F19 := fun_mk (st := s_Form___init__) l19 c19 k19
  have F20 := fun_mk (st := s_Form_settle) l20 c20 k20
  have F21 := fun_mk (st := s_Form_put_order) l21 c21 k21
  have F22 := fun_mk (st := s_Form_put) l22 c22 k22
  have F23 := fun_mk (st := s_Form_told) l23 c23 k23
  have F24 := fun_mk (st := s_form_by) l24 c24 k24
  have F25 := fun_mk (st := s_form_of) l25 c25 k25
  have F26 := fun_mk (st := s__law_cell_at) l26 c26 k26
  have F27 := fun_mk (st := s__law_state) l27 c27 k27
  have F28 := fun_mk (st := s__law_choice) l28 c28 k28
  have F29 := fun_mk (st := s__law_word) l29 c29 k29
  have F30 := fun_mk (st := s__law_plait) l30 c30 k30
  have F31 := fun_mk (st := s__law_flip) l31 c31 k31
  have F32 := fun_mk (st := s_law) l32 c32 k32
  have B0 := F0.binds (ps := ["letter", "strands"]) fun _ _ _ _ _ _ us hl => match us, hl with | [_, _], _ => rfl
  have B1 := F1.binds (ps := ["plait"]) fun _ _ _ _ _ _ us hl => match us, hl with | [_], _ => rfl
  have B2 := F2.binds (ps := ["one", "other"]) fun _ _ _ _ _ _ us hl => match us, hl with | [_, _], _ => rfl
  have B3 := F3.binds (ps := ["one", "other"]) fun _ _ _ _ _ _ us hl => match us, hl with | [_, _], _ => rfl
  have B4 := F4.binds (ps := ["letter", "strands"]) fun _ _ _ _ _ _ us hl => match us, hl with | [_, _], _ => rfl
  have B5 := F5.binds (ps := ["plait"]) fun _ _ _ _ _ _ us hl => match us, hl with | [_], _ => rfl
  have B6 := F6.binds (ps := ["places", "at"]) fun _ _ _ _ _ _ us hl => match us, hl with | [_, _], _ => rfl
  have B7 := F7.binds (ps := ["strands"]) fun _ _ _ _ _ _ us hl => match us, hl with | [_], _ => rfl
  have B8 := F8.binds (ps := ["strands"]) fun _ _ _ _ _ _ us hl => match us, hl with | [_], _ => rfl
  have B9 := F9.binds (ps := ["strands", "letter"]) fun _ _ _ _ _ _ us hl => match us, hl with | [_, _], _ => rfl
  have B10 := F10.binds (ps := ["row"]) fun _ _ _ _ _ _ us hl => match us, hl with | [_], _ => rfl
  have B11 := F11.binds (ps := ["row"]) fun _ _ _ _ _ _ us hl => match us, hl with | [_], _ => rfl
  have B12 := F12.binds (ps := ["row"]) fun _ _ _ _ _ _ us hl => match us, hl with | [_], _ => rfl
  have B13 := F13.binds (ps := ["row"]) fun _ _ _ _ _ _ us hl => match us, hl with | [_], _ => rfl
  have B14 := F14.binds (ps := ["row", "letter"]) fun _ _ _ _ _ _ us hl => match us, hl with | [_, _], _ => rfl
  have B15 := F15.binds (ps := ["row", "letter"]) fun _ _ _ _ _ _ us hl => match us, hl with | [_, _], _ => rfl
  have B16 := F16.binds (ps := ["row"]) fun _ _ _ _ _ _ us hl => match us, hl with | [_], _ => rfl
  have B17 := F17.binds (ps := ["one", "other"]) fun _ _ _ _ _ _ us hl => match us, hl with | [_, _], _ => rfl
  have B18 := F18.binds (ps := ["one", "other"]) fun _ _ _ _ _ _ us hl => match us, hl with | [_, _], _ => rfl
  have B19 := F19.binds (ps := ["self", "strands"]) fun _ _ _ _ _ _ us hl => match us, hl with | [_, _], _ => rfl
  have B20 := F20.binds (ps := ["self"]) fun _ _ _ _ _ _ us hl => match us, hl with | [_], _ => rfl
  have B21 := F21.binds (ps := ["self", "row"]) fun _ _ _ _ _ _ us hl => match us, hl with | [_, _], _ => rfl
  have B22 := F22.binds (ps := ["self", "letter"]) fun _ _ _ _ _ _ us hl => match us, hl with | [_, _], _ => rfl
  have B23 := F23.binds (ps := ["self"]) fun _ _ _ _ _ _ us hl => match us, hl with | [_], _ => rfl
  have B24 := F24.binds (ps := ["strands", "word"]) fun _ _ _ _ _ _ us hl => match us, hl with | [_, _], _ => rfl
  have B25 := F25.binds (ps := ["plait"]) fun _ _ _ _ _ _ us hl => match us, hl with | [_], _ => rfl
  have B26 := F26.binds (ps := ["script", "k"]) fun _ _ _ _ _ _ us hl => match us, hl with | [_, _], _ => rfl
  have B27 := F27.binds (ps := ["script", "k"]) fun _ _ _ _ _ _ us hl => match us, hl with | [_, _], _ => rfl
  have B28 := F28.binds (ps := ["state", "many"]) fun _ _ _ _ _ _ us hl => match us, hl with | [_, _], _ => rfl
  have B29 := F29.binds (ps := ["state", "strands", "count"]) fun _ _ _ _ _ _ us hl => match us, hl with | [_, _, _], _ => rfl
  have B30 := F30.binds (ps := ["state", "least", "most", "letters"]) fun _ _ _ _ _ _ us hl => match us, hl with | [_, _, _, _], _ => rfl
  have B31 := F31.binds (ps := ["row"]) fun _ _ _ _ _ _ us hl => match us, hl with | [_], _ => rfl
  have B32 := F32.binds (ps := ["script"]) fun _ _ _ _ _ _ us hl => match us, hl with | [_], _ => rfl
  letI : FormC := ⟨CF⟩
  have T : Txt K mg ⟨f0, _, f1, _, f2, _, f3, _, f4, _, f5, _, f6, _, f7, _, f8, _, f9, _, f10, _, f11, _, f12, _, f13, _, f14, _, f15, _, f16, _, f17, _, f18, _, f19, _, f20, _, f21, _, f22, _, f23, _, f24, _, f25, _, f26, _, f27, _, f28, _, f29, _, f30, _, f31, _, fa, _, fun n => [C0, C1, C2].getD n 0⟩ := {
    F_is_letter := F0, m_is_letter := PySem.W.mg_of X G a0, b_is_letter := B0,
    F_looked := F1, m_looked := PySem.W.mg_of X G a1, b_looked := B1,
    F_looked_both := F2, m_looked_both := PySem.W.mg_of X G a2, b_looked_both := B2,
    F_behind := F3, m_behind := PySem.W.mg_of X G a3, b_behind := B3,
    F_flipped_letter := F4, m_flipped_letter := PySem.W.mg_of X G a4, b_flipped_letter := B4,
    F_flipped := F5, m_flipped := PySem.W.mg_of X G a5, b_flipped := B5,
    F_exchanged := F6, m_exchanged := PySem.W.mg_of X G a6, b_exchanged := B6,
    F_half_twist := F7, m_half_twist := PySem.W.mg_of X G a7, b_half_twist := B7,
    F_plain_order := F8, m_plain_order := PySem.W.mg_of X G a8, b_plain_order := B8,
    F_letter_order := F9, m_letter_order := PySem.W.mg_of X G a9, b_letter_order := B9,
    F_undone_order := F10, m_undone_order := PySem.W.mg_of X G a10, b_undone_order := B10,
    F_falls := F11, m_falls := PySem.W.mg_of X G a11, b_falls := B11,
    F_begin_letters := F12, m_begin_letters := PySem.W.mg_of X G a12, b_begin_letters := B12,
    F_end_letters := F13, m_end_letters := PySem.W.mg_of X G a13, b_end_letters := B13,
    F_with_end := F14, m_with_end := PySem.W.mg_of X G a14, b_with_end := B14,
    F_without_begin := F15, m_without_begin := PySem.W.mg_of X G a15, b_without_begin := B15,
    F_flipped_order := F16, m_flipped_order := PySem.W.mg_of X G a16, b_flipped_order := B16,
    F_movable_letters := F17, m_movable_letters := PySem.W.mg_of X G a17, b_movable_letters := B17,
    F_settled_pair := F18, m_settled_pair := PySem.W.mg_of X G a18, b_settled_pair := B18,
    F_Form___init__ := F19, me_Form___init__ := ⟨a19, j19, k19⟩, b_Form___init__ := B19,
    F_Form_settle := F20, me_Form_settle := ⟨a20, j20, k20⟩, b_Form_settle := B20,
    F_Form_put_order := F21, me_Form_put_order := ⟨a21, j21, k21⟩, b_Form_put_order := B21,
    F_Form_put := F22, me_Form_put := ⟨a22, j22, k22⟩, b_Form_put := B22,
    F_Form_told := F23, me_Form_told := ⟨a23, j23, k23⟩, b_Form_told := B23,
    F_form_by := F24, m_form_by := PySem.W.mg_of X G a24, b_form_by := B24,
    F_form_of := F25, m_form_of := PySem.W.mg_of X G a25, b_form_of := B25,
    F__law_cell_at := F26, m__law_cell_at := PySem.W.mg_of X G a26, b__law_cell_at := B26,
    F__law_state := F27, m__law_state := PySem.W.mg_of X G a27, b__law_state := B27,
    F__law_choice := F28, m__law_choice := PySem.W.mg_of X G a28, b__law_choice := B28,
    F__law_word := F29, m__law_word := PySem.W.mg_of X G a29, b__law_word := B29,
    F__law_plait := F30, m__law_plait := PySem.W.mg_of X G a30, b__law_plait := B30,
    F__law_flip := F31, m__law_flip := PySem.W.mg_of X G a31, b__law_flip := B31,
    F_law := F32, m_law := PySem.W.mg_of X G a32, b_law := B32,
    fc := ⟨⟨pgF, hdF, poF, saF⟩, nNF, nPF, nRF⟩, mkk := ⟨mkF, a19, j19, kcF⟩, mgC := PySem.W.mg_of X G aF,
    n_abs := PySem.W.mg_none_of X G z0,
    n_len := PySem.W.mg_none_of X G z1,
    n_tuple := PySem.W.mg_none_of X G z2,
    n_range := PySem.W.mg_none_of X G z3,
    n_reversed := PySem.W.mg_none_of X G z4,
    n_list := PySem.W.mg_none_of X G z5,
    n_enumerate := PySem.W.mg_none_of X G z6,
    n_max := PySem.W.mg_none_of X G z7,
    c_MOST_STRANDS := ⟨_, PySem.W.mg_of X G y0, ⟨_, rfl⟩⟩,
    c_MOST_LETTERS := ⟨_, PySem.W.mg_of X G y1, ⟨_, rfl⟩⟩,
    c_MOST_WORD := ⟨_, PySem.W.mg_of X G y2, ⟨_, rfl⟩⟩,
    e_NoPlait := ⟨PySem.W.mg_of X G g0, x0, p0, b0, m0⟩,
    e_NoRoom := ⟨PySem.W.mg_of X G g1, x1, p1, b1, m1⟩,
    e_NoStep := ⟨PySem.W.mg_of X G g2, x2, p2, b2, m2⟩ }
  exact ⟨_, fun s v => .of_eq rfl, fun base _ _ => FnOk.imp (ok_law T) (script_imp (hl ⟨CF⟩))⟩
end Lw
open PySem PySem.W PyProof.Rows
set_option maxHeartbeats 0 in
theorem PySem.Challenge.cw_loopwright_k34_whole_half_twists_and_for_holds : PySem.Challenge.rw_loopwright_k34_whole_half_twists_and_for.Holds := by
  w_on; o_law; k_head; (case hw => w_witness2)
  k_fill
  refine L2.walk_of (l := PySem.Challenge.rw_loopwright_k34_whole_half_twists_and_for) (n := 63) (k := 10) (x := "script") (CX := fun w => L2.CX PySem.Challenge.rw_loopwright_k34_whole_half_twists_and_for.prog w) (sp := fun w => Wk.spScript _) rfl (by decide) rfl ⟨rfl, by decide, by decide⟩ (fun w h Y => PySem.W.kIn_of Y) ?F (fun _ _ a ns hl _ hS => ⟨a, ns, rfl, hS, hl, fun _ => rfl⟩) (fun _ _ _ _ _ h => by obtain ⟨_, _, _, _, _, _, _, _, _, _, _, _, z⟩ := h; exact z)
  case F =>
    intro w mg fa h KX G hmg
    refine' Lw.all_mk KX G hmg (fun C => @Lw.holds C) ?w_aF ?w_pgF ?w_hdF ?w_poF ?w_saF ?w_mkF ?w_kcF ?w_nNF ?w_nPF ?w_nRF ?w_a0 ?w_l0 ?w_c0 ?w_k0 ?w_a1 ?w_l1 ?w_c1 ?w_k1 ?w_a2 ?w_l2 ?w_c2 ?w_k2 ?w_a3 ?w_l3 ?w_c3 ?w_k3 ?w_a4 ?w_l4 ?w_c4 ?w_k4 ?w_a5 ?w_l5 ?w_c5 ?w_k5 ?w_a6 ?w_l6 ?w_c6 ?w_k6 ?w_a7 ?w_l7 ?w_c7 ?w_k7 ?w_a8 ?w_l8 ?w_c8 ?w_k8 ?w_a9 ?w_l9 ?w_c9 ?w_k9 ?w_a10 ?w_l10 ?w_c10 ?w_k10 ?w_a11 ?w_l11 ?w_c11 ?w_k11 ?w_a12 ?w_l12 ?w_c12 ?w_k12 ?w_a13 ?w_l13 ?w_c13 ?w_k13 ?w_a14 ?w_l14 ?w_c14 ?w_k14 ?w_a15 ?w_l15 ?w_c15 ?w_k15 ?w_a16 ?w_l16 ?w_c16 ?w_k16 ?w_a17 ?w_l17 ?w_c17 ?w_k17 ?w_a18 ?w_l18 ?w_c18 ?w_k18 ?w_a19 ?w_j19 ?w_l19 ?w_c19 ?w_k19 ?w_a20 ?w_j20 ?w_l20 ?w_c20 ?w_k20 ?w_a21 ?w_j21 ?w_l21 ?w_c21 ?w_k21 ?w_a22 ?w_j22 ?w_l22 ?w_c22 ?w_k22 ?w_a23 ?w_j23 ?w_l23 ?w_c23 ?w_k23 ?w_a24 ?w_l24 ?w_c24 ?w_k24 ?w_a25 ?w_l25 ?w_c25 ?w_k25 ?w_a26 ?w_l26 ?w_c26 ?w_k26 ?w_a27 ?w_l27 ?w_c27 ?w_k27 ?w_a28 ?w_l28 ?w_c28 ?w_k28 ?w_a29 ?w_l29 ?w_c29 ?w_k29 ?w_a30 ?w_l30 ?w_c30 ?w_k30 ?w_a31 ?w_l31 ?w_c31 ?w_k31 ?w_a32 ?w_l32 ?w_c32 ?w_k32 ?w_z0 ?w_z1 ?w_z2 ?w_z3 ?w_z4 ?w_z5 ?w_z6 ?w_z7 ?w_y0 ?w_y1 ?w_y2 ?w_g0 ?w_x0 ?w_p0 ?w_b0 ?w_m0 ?w_g1 ?w_x1 ?w_p1 ?w_b1 ?w_m1 ?w_g2 ?w_x2 ?w_p2 ?w_b2 ?w_m2
    (case w_aF => k_is)
    (case w_pgF => k_is)
    (case w_hdF => k_is)
    (case w_poF => k_is)
    (case w_saF => k_is)
    (case w_mkF => k_is)
    (case w_kcF => k_is)
    (case w_nNF => k_is)
    (case w_nPF => k_is)
    (case w_nRF => k_is)
    (case w_a0 => k_is)
    (case w_l0 => k_is)
    (case w_c0 => k_is)
    (case w_k0 => k_is)
    (case w_a1 => k_is)
    (case w_l1 => k_is)
    (case w_c1 => k_is)
    (case w_k1 => k_is)
    (case w_a2 => k_is)
    (case w_l2 => k_is)
    (case w_c2 => k_is)
    (case w_k2 => k_is)
    (case w_a3 => k_is)
    (case w_l3 => k_is)
    (case w_c3 => k_is)
    (case w_k3 => k_is)
    (case w_a4 => k_is)
    (case w_l4 => k_is)
    (case w_c4 => k_is)
    (case w_k4 => k_is)
    (case w_a5 => k_is)
    (case w_l5 => k_is)
    (case w_c5 => k_is)
    (case w_k5 => k_is)
    (case w_a6 => k_is)
    (case w_l6 => k_is)
    (case w_c6 => k_is)
    (case w_k6 => k_is)
    (case w_a7 => k_is)
    (case w_l7 => k_is)
    (case w_c7 => k_is)
    (case w_k7 => k_is)
    (case w_a8 => k_is)
    (case w_l8 => k_is)
    (case w_c8 => k_is)
    (case w_k8 => k_is)
    (case w_a9 => k_is)
    (case w_l9 => k_is)
    (case w_c9 => k_is)
    (case w_k9 => k_is)
    (case w_a10 => k_is)
    (case w_l10 => k_is)
    (case w_c10 => k_is)
    (case w_k10 => k_is)
    (case w_a11 => k_is)
    (case w_l11 => k_is)
    (case w_c11 => k_is)
    (case w_k11 => k_is)
    (case w_a12 => k_is)
    (case w_l12 => k_is)
    (case w_c12 => k_is)
    (case w_k12 => k_is)
    (case w_a13 => k_is)
    (case w_l13 => k_is)
    (case w_c13 => k_is)
    (case w_k13 => k_is)
    (case w_a14 => k_is)
    (case w_l14 => k_is)
    (case w_c14 => k_is)
    (case w_k14 => k_is)
    (case w_a15 => k_is)
    (case w_l15 => k_is)
    (case w_c15 => k_is)
    (case w_k15 => k_is)
    (case w_a16 => k_is)
    (case w_l16 => k_is)
    (case w_c16 => k_is)
    (case w_k16 => k_is)
    (case w_a17 => k_is)
    (case w_l17 => k_is)
    (case w_c17 => k_is)
    (case w_k17 => k_is)
    (case w_a18 => k_is)
    (case w_l18 => k_is)
    (case w_c18 => k_is)
    (case w_k18 => k_is)
    (case w_a19 => k_is)
    (case w_j19 => k_is)
    (case w_l19 => k_is)
    (case w_c19 => k_is)
    (case w_k19 => k_is)
    (case w_a20 => k_is)
    (case w_j20 => k_is)
    (case w_l20 => k_is)
    (case w_c20 => k_is)
    (case w_k20 => k_is)
    (case w_a21 => k_is)
    (case w_j21 => k_is)
    (case w_l21 => k_is)
    (case w_c21 => k_is)
    (case w_k21 => k_is)
    (case w_a22 => k_is)
    (case w_j22 => k_is)
    (case w_l22 => k_is)
    (case w_c22 => k_is)
    (case w_k22 => k_is)
    (case w_a23 => k_is)
    (case w_j23 => k_is)
    (case w_l23 => k_is)
    (case w_c23 => k_is)
    (case w_k23 => k_is)
    (case w_a24 => k_is)
    (case w_l24 => k_is)
    (case w_c24 => k_is)
    (case w_k24 => k_is)
    (case w_a25 => k_is)
    (case w_l25 => k_is)
    (case w_c25 => k_is)
    (case w_k25 => k_is)
    (case w_a26 => k_is)
    (case w_l26 => k_is)
    (case w_c26 => k_is)
    (case w_k26 => k_is)
    (case w_a27 => k_is)
    (case w_l27 => k_is)
    (case w_c27 => k_is)
    (case w_k27 => k_is)
    (case w_a28 => k_is)
    (case w_l28 => k_is)
    (case w_c28 => k_is)
    (case w_k28 => k_is)
    (case w_a29 => k_is)
    (case w_l29 => k_is)
    (case w_c29 => k_is)
    (case w_k29 => k_is)
    (case w_a30 => k_is)
    (case w_l30 => k_is)
    (case w_c30 => k_is)
    (case w_k30 => k_is)
    (case w_a31 => k_is)
    (case w_l31 => k_is)
    (case w_c31 => k_is)
    (case w_k31 => k_is)
    (case w_a32 => k_is)
    (case w_l32 => k_is)
    (case w_c32 => k_is)
    (case w_k32 => k_is)
    (case w_z0 => k_is)
    (case w_z1 => k_is)
    (case w_z2 => k_is)
    (case w_z3 => k_is)
    (case w_z4 => k_is)
    (case w_z5 => k_is)
    (case w_z6 => k_is)
    (case w_z7 => k_is)
    (case w_y0 => k_is)
    (case w_y1 => k_is)
    (case w_y2 => k_is)
    (case w_g0 => k_is)
    (case w_x0 => k_exc)
    (case w_p0 => k_is)
    (case w_b0 => k_is)
    (case w_m0 => k_is)
    (case w_g1 => k_is)
    (case w_x1 => k_exc)
    (case w_p1 => k_is)
    (case w_b1 => k_is)
    (case w_m1 => k_is)
    (case w_g2 => k_is)
    (case w_x2 => k_exc)
    (case w_p2 => k_is)
    (case w_b2 => k_is)
    (case w_m2 => k_is)
