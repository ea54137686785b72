import PyProof.Rows.All
import Wide.All
import OpenK.AllK
import Wide.FinOn
import HandS.ForMost
import HandS.ForExc
import HandS.Walk
import HandS.TupAny
import HandS.TupMul
import HandS.Wide
import HandS.IsInst
import HandS.Rev
import HandS.Zip
import HandS.RevRange
import HandS.Conv
import KE.KRevSl
import HandS.Style
import HandS.Iter
import KE.KDictZip
import KE.GoesEnum
import HandS.HotCalls
import HandS.ExcIs
import HandS.TryOnly
import KE.GoesEnumKw
import PyProof.Rows.CallKwBuiltin
import HandS.SortInts
import KE.DataMinMax
import HandS.RevTup
import KE.GoesMore
import HandS.Strs
import HandS.More
import KE.KDictPairs
import HandS.TupSets
import PySem.Challenge.RW_loopwright_k49_pieces_and_windings
set_option Elab.async false
set_option linter.all false
set_option maxRecDepth 100000
set_option maxHeartbeats 4000000
/-! Wk1: data D, results R, what a heap knows of data, growth of heaps. -/
namespace Wk
open PySem PySem.Spec PyProof.Rows L2

def isComp : Expr → Bool
  | .ListComp .. => true
  | .SetComp .. => true
  | .DictComp .. => true
  | _ => false
theorem swaps_no {e : Expr} {t : Option Expr} {l : Nat} {env : Env} (h : isComp e = false) : swapsWith e t l env = pure false := by
  cases e <;> first | rfl | cases h
theorem swapsS_no {t e : Expr} {l : Nat} {env : Env} (h : isComp e = false) : swapsWithSole [t] e l env = pure false := swaps_no h
/-- plain data -/
inductive D where
  | non | bl (b : Bool) | int (i : Int) | str (x : Str)
  | lst (xs : List D) | tup (xs : List D) | dK (ks : List Key) (ds : List D) | dT (ks : List (List Key)) (ds : List D) | exc (c : Nat) | frl (xs : List D) | tux (xs : List D) | tk (ks : List Key)

/-- a run's result: a value, a refusal by its number, or nothing known -/
inductive R (α : Type) where
  | ok (a : α) | err (c : Nat) | bad
def R.bnd {α β : Type} (m : R α) (f : α → R β) : R β := match m with
  | .ok a => f a
  | .err c => .err c
  | .bad => .bad
/-- two things at once -/
def R.bnd2 {α β γ : Type} (m : R (α × β)) (f : α → β → R γ) : R γ := m.bnd fun r => f r.1 r.2
@[simp] theorem bnd2_ok {α β γ : Type} (a : α) (b : β) (f : α → β → R γ) : (R.ok (a, b)).bnd2 f = f a b := by exact id rfl
@[simp] theorem bnd2_err {α β γ : Type} (c : Nat) (f : α → β → R γ) : (R.err c : R (α × β)).bnd2 f = .err c := by exact id rfl
@[simp] theorem bnd2_bad {α β γ : Type} (f : α → β → R γ) : (R.bad : R (α × β)).bnd2 f = .bad := by exact id rfl
@[simp] theorem bnd_ok {α β : Type} (a : α) (f : α → R β) : (R.ok a).bnd f = f a := by exact id rfl
@[simp] theorem bnd_err {α β : Type} (c : Nat) (f : α → R β) : (R.err c : R α).bnd f = .err c := by exact id rfl
@[simp] theorem bnd_bad {α β : Type} (f : α → R β) : (R.bad : R α).bnd f = .bad := by exact id rfl
def R.of {α : Type} (o : Option α) : R α := match o with
  | some a => .ok a
  | none => .bad
@[simp] theorem of_some {α : Type} (a : α) : R.of (some a) = .ok a := by exact id rfl
@[simp] theorem of_none {α : Type} : R.of (none : Option α) = .bad := by exact id rfl
theorem bnd_assoc {α β γ : Type} (m : R α) (f : α → R β) (g : β → R γ) : (m.bnd f).bnd g = m.bnd fun x => (f x).bnd g := by
  cases m <;> rfl
def wp {α : Type} (m : R α) (P : α → Prop) (E : Nat → Prop) : Prop := match m with
  | .ok a => P a
  | .err c => E c
  | .bad => False
theorem wp_of {α : Type} {o : Option α} {P : α → Prop} {E : Nat → Prop} (h : wp (R.of o) P E) : ∃ a, o = some a ∧ P a := by
  cases o with
  | some a => exact ⟨a, rfl, h⟩
  | none => exact h.elim
theorem wp_bnd {α β : Type} {m : R α} {f : α → R β} {P : β → Prop} {E : Nat → Prop} : wp (m.bnd f) P E ↔ wp m (fun a => wp (f a) P E) E := by
  cases m <;> exact Iff.rfl
theorem wp_mono {α : Type} {m : R α} {P P' : α → Prop} {E E' : Nat → Prop} (h : wp m P E) (hp : ∀ a, P a → P' a) (he : ∀ c, E c → E' c) : wp m P' E' := by
  cases m with
  | ok a => exact hp a h
  | err c => exact he c h
  | bad => exact h

/-! ### what is known of heaps -/
def plainO : HO → Bool
  | .lst _ => true
  | .tup _ => true
  | .dK _ => true
  | .dT _ => true
  | .ext _ => true
  | .frz _ (.tup _) => true
  | .ins _ _ _ => true
  | _ => false
structure Le (G G' : Hp) : Prop where
  rd : ∀ a o, plainO o = true → Rd G a o → Rd G' a o
  tp : ∀ a xs, G a = some (.tup xs) → G' a = some (.tup xs)
instance {G G' : Hp} : CoeFun (Le G G') (fun _ => ∀ a o, plainO o = true → Rd G a o → Rd G' a o) := ⟨Le.rd⟩
theorem Le.refl (G : Hp) : Le G G := ⟨fun _ _ _ h => h, fun _ _ h => h⟩
theorem Le.trans {G G1 G2 : Hp} (a : Le G G1) (b : Le G1 G2) : Le G G2 := ⟨fun x o p h => b x o p (a x o p h), fun x xs h => b.tp x xs (a.tp x xs h)⟩
theorem Le.of {G G' : Hp} (h : ∀ a o, G a = some o → G' a = some o) : Le G G' := ⟨fun a o _ r => by
  rcases r with r | ⟨u, r⟩
  · exact .inl (h _ _ r)
  · exact .inr ⟨u, h _ _ r⟩, fun a xs r => h _ _ r⟩
theorem Le.upd {G : Hp} {p : Addr} {o : HO} (h : G p = none) : Le G (upd G p o) := Le.of fun a u e => by
  rw [upd_ne (ne_of_none e h)]
  exact e
theorem Le.seqL {K : PySem.W.Frag} {G G' : Hp} {a : Addr} {xs : List V} (l : Le G G') (h : SqL K G a xs) : SqL K G' a xs := h.imp (l _ _ rfl) id
theorem Le.seqT {K : PySem.W.Frag} {G G' : Hp} {a : Addr} {xs : List V} (l : Le G G') (h : SqT K G a xs) : SqT K G' a xs := h.imp (l _ _ rfl) id

/-- a tuple that is known to have no dict of its own -/
def XTu (G : Hp) (a : Addr) (xs : List V) : Prop := Rd G a (.tup xs) ∧ ∃ o : Obj, Rd G a (.frz o (.tup xs)) ∧ o.cls = .type "tuple" ∧ o.dict = none
theorem XTu.up {G G' : Hp} {a : Addr} {xs : List V} (l : Le G G') (h : XTu G a xs) : XTu G' a xs := ⟨l _ _ rfl h.1, let ⟨o, h1, h2⟩ := h.2; ⟨o, l _ _ rfl h1, h2⟩⟩

/-! v stands for d, as G knows -/
mutual
inductive Rp (K : PySem.W.Frag) (G : Hp) : V → D → Prop
  | non : Rp K G .non .non
  | bl (b : Bool) : Rp K G (.bl b) (.bl b)
  | int (i : Int) : Rp K G (.int i) (.int i)
  | str (x : Str) : Rp K G (.str x) (.str x)
  | lst {a : Addr} {xs : List V} {ds : List D} : Rd G a (.lst xs) → RpAll K G xs ds → Rp K G (.ref a) (.lst ds)
  | tup {a : Addr} {xs : List V} {ds : List D} : SqT K G a xs → RpAll K G xs ds → Rp K G (.ref a) (.tup ds)
  | dK {a : Addr} {kvs : List (Key × V)} {ks : List Key} {vs : List V} {ds : List D} : Rd G a (.dK kvs) → kvs = ks.zip vs → ks.length = vs.length → ks.Nodup → RpAll K G vs ds → Rp K G (.ref a) (.dK ks ds)
  | dT {a : Addr} {kvs : List (List Key × V)} {ks : List (List Key)} {vs : List V} {ds : List D} : Rd G a (.dT kvs) → kvs = ks.zip vs → ks.length = vs.length → ks.Nodup → RpAll K G vs ds → Rp K G (.ref a) (.dT ks ds)
  | frl {a : Addr} {xs : List V} {ds : List D} : SqL K G a xs → RpAll K G xs ds → Rp K G (.ref a) (.frl ds)
  | tux {a : Addr} {xs : List V} {ds : List D} : XTu G a xs → RpAll K G xs ds → Rp K G (.ref a) (.tux ds)
  | tk {a : Addr} {ks : List Key} : G a = some (.tup (ks.map kV)) → Rp K G (.ref a) (.tk ks)
inductive RpAll (K : PySem.W.Frag) (G : Hp) : List V → List D → Prop
  | nil : RpAll K G [] []
  | cons {v : V} {vs : List V} {d : D} {ds : List D} : Rp K G v d → RpAll K G vs ds → RpAll K G (v :: vs) (d :: ds)
end
section
variable {K : PySem.W.Frag} {G G' : Hp}
mutual
theorem Rp.up (l : Le G G') : ∀ {d : D} {v : V}, Rp K G v d → Rp K G' v d
  | .non, _, h => by cases h; exact .non
  | .bl b, _, h => by cases h; exact .bl b
  | .int i, _, h => by cases h; exact .int i
  | .str x, _, h => by cases h; exact .str x
  | .lst ds, _, h => by
    cases h with
    | lst a b => exact .lst (l _ _ rfl a) (RpAll.up l b)
  | .tup ds, _, h => by
    cases h with
    | tup a b => exact .tup (l.seqT a) (RpAll.up l b)
  | .dK ks ds, v, h => by
    cases h with
    | dK r e1 e2 nd b => exact .dK (l _ _ rfl r) e1 e2 nd (RpAll.up l b)
  | .dT ks ds, v, h => by
    cases h with
    | dT r e1 e2 nd b => exact .dT (l _ _ rfl r) e1 e2 nd (RpAll.up l b)
  | .exc c, v, h => by cases h
  | .frl ds, _, h => by
    cases h with
    | frl a b => exact .frl (l.seqL a) (RpAll.up l b)
  | .tux ds, _, h => by
    cases h with
    | tux a b => exact .tux (a.up l) (RpAll.up l b)
  | .tk ks, _, h => by
    cases h with
    | tk a => exact .tk (l.tp _ _ a)
theorem RpAll.up (l : Le G G') : ∀ {ds : List D} {vs : List V}, RpAll K G vs ds → RpAll K G' vs ds
  | [], _, h => by cases h; exact .nil
  | d :: ds, _, h => by
    cases h with
    | cons a b => exact .cons (Rp.up l a) (RpAll.up l b)
end
end
end Wk
set_option maxHeartbeats 4000000
/-! Wk2: slots, growth, judgements of expressions. -/
namespace Wk
open PySem PySem.Spec PyProof.Rows L2

/-- what stands in a cell of one's own -/
inductive Cell where
  | l (ds : List D) | k (m : List (Key × D)) | t (m : List (List Key × D)) | rl (as : List Addr) (n : Nat) | rt (ks : List (List Key)) (as : List Addr)
/-- what an owned object holds: its own cell, and the cells of what stands in it -/
structure OO where
  c : Cell
  sub : List (Addr × Cell)
abbrev OO.l (ds : List D) : OO := ⟨.l ds, []⟩
abbrev OO.k (m : List (Key × D)) : OO := ⟨.k m, []⟩
def OO.fp (p : Addr) (o : OO) : List Addr := p :: o.sub.map (·.1)
theorem fp_top {p : Addr} {o : OO} : p ∈ o.fp p := List.mem_cons_self
theorem fp_l {p a : Addr} {ds : List D} (h : a ∈ (OO.l ds).fp p) : a = p := by simpa [OO.fp] using h
theorem fp_k {p a : Addr} {m : List (Key × D)} (h : a ∈ (OO.k m).fp p) : a = p := by simpa [OO.fp] using h
/-- a slot: data that stand for ever, or an object of the def's own -/
inductive DV where
  | v (d : D) | o (io : Bool) (p : Addr) (c : OO)
abbrev En := List (Option DV)
/-- no plain tuple -/
def Mu : HO → Prop
  | .tup _ => False
  | _ => True
def Mt (H : Hp) (a : Addr) : Prop := ∃ o, H a = some o ∧ Mu o
theorem Mt.ne {H : Hp} {a : Addr} (h : Mt H a) : H a ≠ none := by obtain ⟨o, e, _⟩ := h; rw [e]; intro z; cases z
section
variable (K : PySem.W.Frag)
def KvRp {κ : Type} (G : Hp) (kvs : List (κ × V)) (m : List (κ × D)) : Prop := kvs.map (·.1) = m.map (·.1) ∧ RpAll K G (kvs.map (·.2)) (m.map (·.2))
def CellOk (G : Hp) : Cell → HO → Prop
  | .l ds, o => ∃ vs, o = .lst vs ∧ RpAll K G vs ds
  | .k m, o => ∃ kvs, o = .dK kvs ∧ KvRp K G kvs m ∧ (m.map (·.1)).Nodup
  | .t m, o => ∃ kvs, o = .dT kvs ∧ KvRp K G kvs m ∧ (m.map (·.1)).Nodup
  | .rl as n, o => o = .lst (as.map V.ref) ∧ as.length = n
  | .rt ks as, o => o = .dT (ks.zip (as.map V.ref)) ∧ ks.length = as.length ∧ ks.Nodup
def Cl (G H : Hp) (a : Addr) (c : Cell) : Prop := G a = none ∧ ∃ ob, H a = some ob ∧ CellOk K G c ob
def OwnRp (G H : Hp) (p : Addr) (o : OO) : Prop := (o.fp p).Nodup ∧ Cl K G H p o.c ∧ ∀ x ∈ o.sub, Cl K G H x.1 x.2
def RpV (G H : Hp) (v : V) : DV → Prop
  | .v d => Rp K G v d
  | .o _ p c => v = .ref p ∧ OwnRp K G H p c
structure Lk (G H : Hp) : Prop where
  le : Le G H
  kn : ∀ a, H a = none → G a = none
structure Sl (en : En) (σ : L2.St) (G H : Hp) : Prop where
  le : Lk G H
  len : σ.length = en.length
  at_ : ∀ (i : Nat) (dv : DV), en[i]? = some (some dv) → ∃ v, σ[i]? = some (some v) ∧ RpV K G H v dv
  ones : ∀ (i j : Nat) (b b' : Bool) (p p' : Addr) (c c' : OO), en[i]? = some (some (.o b p c)) → en[j]? = some (some (.o b' p' c')) → (∃ a, a ∈ c.fp p ∧ a ∈ c'.fp p') → i = j
end
theorem KvRp.up {K : PySem.W.Frag} {κ : Type} {G G' : Hp} {kvs : List (κ × V)} {m : List (κ × D)} (l : Le G G') (h : KvRp K G kvs m) : KvRp K G' kvs m := ⟨h.1, h.2.up l⟩
theorem CellOk.up {K : PySem.W.Frag} {G G' : Hp} {c : Cell} {o : HO} (l : Le G G') (h : CellOk K G c o) : CellOk K G' c o := by
  cases c with
  | l ds => obtain ⟨vs, e, r⟩ := h; exact ⟨vs, e, r.up l⟩
  | k m => obtain ⟨kvs, e, r, n⟩ := h; exact ⟨kvs, e, r.up l, n⟩
  | t m => obtain ⟨kvs, e, r, n⟩ := h; exact ⟨kvs, e, r.up l, n⟩
  | rl as n => exact h
  | rt ks as => exact h
theorem CellOk.mu {K : PySem.W.Frag} {G : Hp} {c : Cell} {o : HO} (h : CellOk K G c o) : Mu o := by
  cases c with
  | l ds => obtain ⟨vs, rfl, _⟩ := h; trivial
  | k m => obtain ⟨vs, rfl, _⟩ := h; trivial
  | t m => obtain ⟨vs, rfl, _⟩ := h; trivial
  | rl as n => cases h.1; trivial
  | rt ks as => cases h.1; trivial
structure Grow (G H G2 H2 : Hp) : Prop where
  g : Le G G2
  up : Lk G2 H2
  h : ∀ a o, H a = some o → H2 a = some o
  cl : ∀ a, G a = none → Mt H a → G2 a = none
theorem ne_of_ne {H H2 : Hp} (h : ∀ a o, H a = some o → H2 a = some o) {a : Addr} (n : H a ≠ none) : H2 a ≠ none := by
  cases e : H a with
  | none => exact absurd e n
  | some o => rw [h a o e]; intro z; cases z
theorem mt_of {H H2 : Hp} (h : ∀ a o, H a = some o → H2 a = some o) {a : Addr} (n : Mt H a) : Mt H2 a := by
  obtain ⟨o, e, m⟩ := n; exact ⟨o, h a o e, m⟩
theorem Grow.refl {G H : Hp} (l : Lk G H) : Grow G H G H := ⟨Le.refl _, l, fun _ _ h => h, fun _ h _ => h⟩
theorem Grow.trans {G H G1 H1 G2 H2 : Hp} (a : Grow G H G1 H1) (b : Grow G1 H1 G2 H2) : Grow G H G2 H2 :=
  ⟨a.g.trans b.g, b.up, fun x o h => b.h x o (a.h x o h), fun x n m => b.cl x (a.cl x n m) (mt_of a.h m)⟩
section
variable {K : PySem.W.Frag} {G H G2 H2 : Hp}
theorem Cl.there {a : Addr} {c : Cell} (h : Cl K G H a c) : Mt H a := by obtain ⟨_, o, e, r⟩ := h; exact ⟨o, e, r.mu⟩
/-- a cell stays, where the heap holds what it held there -/
theorem Cl.go {a : Addr} {c : Cell} (h : Cl K G H a c) (g : Le G G2) (e : ∀ o, H a = some o → H2 a = some o) (n : G2 a = none) : Cl K G2 H2 a c := by
  obtain ⟨_, o, e1, r⟩ := h; exact ⟨n, o, e o e1, r.up g⟩
theorem Cl.grow {a : Addr} {c : Cell} (w : Grow G H G2 H2) (h : Cl K G H a c) : Cl K G2 H2 a c := h.go w.g (w.h a) (w.cl a h.1 h.there)
theorem OwnRp.fpC {p a : Addr} {o : OO} (h : OwnRp K G H p o) (m : a ∈ o.fp p) : ∃ c, Cl K G H a c := by
  rcases List.mem_cons.mp m with rfl | m
  · exact ⟨_, h.2.1⟩
  · obtain ⟨x, hx, rfl⟩ := List.mem_map.mp m
    exact ⟨_, h.2.2 x hx⟩
theorem OwnRp.fpT {p a : Addr} {o : OO} (h : OwnRp K G H p o) (m : a ∈ o.fp p) : Mt H a := by obtain ⟨c, z⟩ := h.fpC m; exact z.there
theorem OwnRp.fpG {p a : Addr} {o : OO} (h : OwnRp K G H p o) (m : a ∈ o.fp p) : G a = none := by obtain ⟨c, z⟩ := h.fpC m; exact z.1
theorem OwnRp.there {p : Addr} {c : OO} (h : OwnRp K G H p c) : Mt H p := h.fpT fp_top
theorem OwnRp.go {p : Addr} {o : OO} (h : OwnRp K G H p o) (g : Le G G2) (e : ∀ a, a ∈ o.fp p → ∀ u, H a = some u → H2 a = some u) (n : ∀ a, a ∈ o.fp p → G2 a = none) : OwnRp K G2 H2 p o :=
  ⟨h.1, h.2.1.go g (e p fp_top) (n p fp_top), fun x hx =>
    have m : x.1 ∈ o.fp p := List.mem_cons_of_mem _ (List.mem_map_of_mem hx)
    (h.2.2 x hx).go g (e _ m) (n _ m)⟩
theorem OwnRp.grow {p : Addr} {c : OO} (w : Grow G H G2 H2) (h : OwnRp K G H p c) : OwnRp K G2 H2 p c := h.go w.g (fun a _ u e => w.h a u e) fun a m => w.cl a (h.fpG m) (h.fpT m)
theorem RpV.grow {v : V} {dv : DV} (w : Grow G H G2 H2) (h : RpV K G H v dv) : RpV K G2 H2 v dv := by
  cases dv with
  | v d => exact Rp.up w.g h
  | o _ p c => obtain ⟨a, d⟩ := h; exact ⟨a, d.grow w⟩
theorem own_l {p : Addr} {ds : List D} : OwnRp K G H p (.l ds) ↔ G p = none ∧ ∃ vs, H p = some (.lst vs) ∧ RpAll K G vs ds :=
  ⟨fun h => by obtain ⟨_, ⟨g, o, e, vs, rfl, r⟩, _⟩ := h; exact ⟨g, vs, e, r⟩, fun ⟨g, vs, e, r⟩ => ⟨by simp [OO.fp], ⟨g, _, e, vs, rfl, r⟩, fun x hx => by cases hx⟩⟩
theorem own_k {p : Addr} {m : List (Key × D)} : OwnRp K G H p (.k m) ↔ G p = none ∧ ∃ kvs, H p = some (.dK kvs) ∧ KvRp K G kvs m ∧ (m.map (·.1)).Nodup :=
  ⟨fun h => by obtain ⟨_, ⟨g, o, e, vs, rfl, r⟩, _⟩ := h; exact ⟨g, vs, e, r⟩, fun ⟨g, vs, e, r⟩ => ⟨by simp [OO.fp], ⟨g, _, e, vs, rfl, r⟩, fun x hx => by cases hx⟩⟩
theorem Sl.atL {en : En} {σ : L2.St} {i : Nat} {b : Bool} {p : Addr} {ds : List D} (s : Sl K en σ G H) (h : en[i]? = some (some (.o b p (.l ds)))) : ∃ v, σ[i]? = some (some v) ∧ v = .ref p ∧ G p = none ∧ ∃ vs, H p = some (.lst vs) ∧ RpAll K G vs ds := by
  obtain ⟨v, e, e2, r⟩ := s.at_ i _ h
  exact ⟨v, e, e2, own_l.mp r⟩
theorem Sl.atK {en : En} {σ : L2.St} {i : Nat} {b : Bool} {p : Addr} {m : List (Key × D)} (s : Sl K en σ G H) (h : en[i]? = some (some (.o b p (.k m)))) : ∃ v, σ[i]? = some (some v) ∧ v = .ref p ∧ G p = none ∧ ∃ kvs, H p = some (.dK kvs) ∧ KvRp K G kvs m ∧ (m.map (·.1)).Nodup := by
  obtain ⟨v, e, e2, r⟩ := s.at_ i _ h
  exact ⟨v, e, e2, own_k.mp r⟩
theorem Sl.one {en : En} {σ : L2.St} (s : Sl K en σ G H) (i j : Nat) (b b' : Bool) (p : Addr) (c c' : OO) (h : en[i]? = some (some (.o b p c))) (h' : en[j]? = some (some (.o b' p c'))) : i = j := s.ones i j b b' p p c c' h h' ⟨p, fp_top, fp_top⟩
theorem Sl.grow {en : En} {σ : L2.St} (s : Sl K en σ G H) (w : Grow G H G2 H2) : Sl K en σ G2 H2 :=
  ⟨w.up, s.len, fun i dv e => by obtain ⟨v, a, b⟩ := s.at_ i dv e; exact ⟨v, a, b.grow w⟩, s.ones⟩
/-- a new object that stands for ever -/
theorem Grow.new {p : Addr} {o : HO} (l : Lk G H) (h : H p = none) (hp : plainO o = true) : Grow G H (upd G p o) (upd H p o) := by
  have hg := l.kn p h
  refine ⟨Le.upd hg, ⟨⟨fun a u pu r => ?_, fun a xs r => ?_⟩, fun a n => ?_⟩, fun a u e => by rw [upd_ne (ne_of_none e h)]; exact e, fun a n m => ?_⟩
  · by_cases e : a = p
    · subst e
      rcases r with r | ⟨z, r⟩
      · rw [upd_same] at r; exact .inl (by rw [upd_same]; exact r)
      · rw [upd_same] at r; exact .inr ⟨z, by rw [upd_same]; exact r⟩
    · have r' : Rd G a u := by
        rcases r with r | ⟨z, r⟩
        · rw [upd_ne e] at r; exact .inl r
        · rw [upd_ne e] at r; exact .inr ⟨z, r⟩
      rcases l.le a u pu r' with r | ⟨z, r⟩
      · exact .inl (by rw [upd_ne e]; exact r)
      · exact .inr ⟨z, by rw [upd_ne e]; exact r⟩
  · by_cases e : a = p
    · subst e; rw [upd_same] at r ⊢; exact r
    · rw [upd_ne e] at r ⊢; exact l.le.tp a xs r
  · by_cases e : a = p
    · subst e; rw [upd_same] at n; cases n
    · rw [upd_ne e] at n ⊢; exact l.kn a n
  · have e : a ≠ p := fun z => m.ne (by rw [z]; exact h)
    rw [upd_ne e]; exact n
/-- what is known stays so, where something that isn't known is changed -/
theorem Lk.mutQ {p : Addr} {o : HO} (l : Lk G H) (g : G p = none) : Lk G (upd H p o) := by
  refine ⟨⟨fun a u pu ru => ?_, fun a xs r => ?_⟩, fun a n => ?_⟩
  · have na : a ≠ p := fun z => by
      subst z
      rcases ru with z | ⟨_, z⟩ <;> (rw [g] at z; cases z)
    rcases l.le a u pu ru with z | ⟨x, z⟩
    · exact .inl (by rw [upd_ne na]; exact z)
    · exact .inr ⟨x, by rw [upd_ne na]; exact z⟩
  · have na : a ≠ p := fun z => by rw [z, g] at r; cases r
    rw [upd_ne na]; exact l.le.tp a xs r
  · by_cases z : a = p
    · rw [z]; exact g
    · rw [upd_ne z] at n; exact l.kn a n
/-- something that stands is known from now on -/
theorem Lk.know {p : Addr} {o : HO} (l : Lk G H) (g : G p = none) (h : H p = some o) : Lk (upd G p o) H := by
  refine ⟨⟨fun a u pu ru => ?_, fun a xs r => ?_⟩, fun a n => ?_⟩
  · by_cases na : a = p
    · subst na
      rcases ru with z | ⟨_, z⟩
      · rw [upd_same] at z; cases z; exact .inl h
      · rw [upd_same] at z; cases z; exact .inr ⟨_, h⟩
    · refine l.le a u pu ?_
      rcases ru with z | ⟨x, z⟩
      · rw [upd_ne na] at z; exact .inl z
      · rw [upd_ne na] at z; exact .inr ⟨x, z⟩
  · by_cases na : a = p
    · subst na; rw [upd_same] at r; cases r; exact h
    · rw [upd_ne na] at r; exact l.le.tp a xs r
  · have na : a ≠ p := fun z => by rw [z, h] at n; cases n
    rw [upd_ne na]; exact l.kn a n
/-- a new object that may change -/
theorem Grow.own {p : Addr} {o : HO} (l : Lk G H) (h : H p = none) : Grow G H G (upd H p o) :=
  ⟨Le.refl _, l.mutQ (l.kn p h), fun a u e => by rw [upd_ne (ne_of_none e h)]; exact e, fun a n _ => n⟩
end

/-! ### readings that are the weakest there are -/
def wE (X : Cx) (e : Expr) : TE := fun σ H Q => ∀ (pins : List (Addr × Obj)) (s : Shared), Inv X pins σ H s → wpAny (model X.prog X.w) X.A (eval e X.env) (EP X pins σ Q) X.xe s
theorem pe_w {X : Cx} {e : Expr} : PE X e (wE X e) := ⟨fun pins s _ _ _ I h => h pins s I⟩
theorem pe_to {X : Cx} {e : Expr} {t : TE} (p : PE X e t) {σ : L2.St} {H : Hp} {Q : VK} (h : t σ H Q) : wE X e σ H Q := fun pins s I => p.run pins s σ H Q I h
def wT (X : Cx) (e : Expr) : TT := fun σ H Q => ∀ (pins : List (Addr × Obj)) (s : Shared), Inv X pins σ H s → wpAny (model X.prog X.w) X.A (isTrue e X.env (eval e X.env)) (TP X pins σ Q) X.xe s
theorem pt_w {X : Cx} {e : Expr} : PT X e (wT X e) := ⟨fun pins s _ _ _ I h => h pins s I⟩
theorem pt_to {X : Cx} {e : Expr} {t : TT} (p : PT X e t) {σ : L2.St} {H : Hp} {Q : Bool → Hp → Prop} (h : t σ H Q) : wT X e σ H Q := fun pins s I => p.run pins s σ H Q I h
def wW (X : Cx) (e : Expr) : TT := fun σ H Q => ∀ (whole : Sem Value) (pins : List (Addr × Obj)) (s : Shared), Inv X pins σ H s → wpAny (model X.prog X.w) X.A (isTrue e X.env whole) (TP X pins σ Q) X.xe s
theorem pw_w {X : Cx} {e : Expr} : PW X e (wW X e) := ⟨fun wh pins s _ _ _ I h => h wh pins s I⟩
theorem pw_to {X : Cx} {e : Expr} {t : TT} (p : PW X e t) {σ : L2.St} {H : Hp} {Q : Bool → Hp → Prop} (h : t σ H Q) : wW X e σ H Q := fun wh pins s I => p.run wh pins s σ H Q I h
def wA (X : Cx) (es : List Expr) : TA := fun σ H Q => ∀ (pos : Pos) (pins : List (Addr × Obj)) (s : Shared), Inv X pins σ H s → wpAny (model X.prog X.w) X.A (spliced (backTo pos (starEach es X.env))) (AP X pins σ Q) X.xe s
theorem pa_w {X : Cx} {es : List Expr} : PA X es (wA X es) := ⟨fun pos pins s _ _ _ I h => h pos pins s I⟩
theorem pa_to {X : Cx} {es : List Expr} {t : TA} (p : PA X es t) {σ : L2.St} {H : Hp} {Q : List V → Hp → Prop} (h : t σ H Q) : wA X es σ H Q := fun pos pins s I => p.run pos pins s σ H Q I h
def wS (X : Cx) (st : Stmt) : TS := fun D σ H => ∀ (pins : List (Addr × Obj)) (s : Shared), Inv X pins σ H s → wpAny (model X.prog X.w) X.A (exec st X.env) (SP X pins D) X.xe s
theorem ps_w {X : Cx} {st : Stmt} : PS X st (wS X st) := ⟨fun pins s _ _ _ I h => h pins s I⟩
theorem ps_to {X : Cx} {st : Stmt} {t : TS} (p : PS X st t) {D : Ends} {σ : L2.St} {H : Hp} (h : t D σ H) : wS X st D σ H := fun pins s I => p.run pins s σ H D I h
def wB (X : Cx) (st : List Stmt) : TS := fun D σ H => ∀ (pins : List (Addr × Obj)) (s : Shared), Inv X pins σ H s → wpAny (model X.prog X.w) X.A (execs st X.env) (SP X pins D) X.xe s
theorem pss_w {X : Cx} {st : List Stmt} : PSs X st (wB X st) := ⟨fun pins s _ _ _ I h => h pins s I⟩
theorem pss_to {X : Cx} {st : List Stmt} {t : TS} (p : PSs X st t) {D : Ends} {σ : L2.St} {H : Hp} (h : t D σ H) : wB X st D σ H := fun pins s I => p.run pins s σ H D I h
def wI (X : Cx) (tg it : Expr) : TI := fun σ H Q => ∀ (pins : List (Addr × Obj)) (s : Shared), Inv X pins σ H s →
  wpAny (model X.prog X.w) X.A (eval it X.env) (fun v s1 => wpAny (model X.prog X.w) X.A (pyIter v) (PIE X pins σ tg Q) X.xe s1) X.xe s
theorem pi_w {X : Cx} {tg it : Expr} : PI X tg it (wI X tg it) := ⟨fun pins s _ _ _ I h => h pins s I⟩
theorem pi_to {X : Cx} {tg it : Expr} {t : TI} (p : PI X tg it t) {σ : L2.St} {H : Hp} {Q : It → Hp → Prop} (h : t σ H Q) : wI X tg it σ H Q := fun pins s I => p.run pins s σ H Q I h
def wO (X : Cx) (e : Option Expr) : TO := fun σ H Q => ∀ (t : TO), PO X e t → True → ∀ R, R = Q → t σ H R

/-! ### judgements of expressions that own nothing anew -/
/-- what is wished of refusals -/
abbrev WN := Nat → L2.St → Hp → Prop
section
variable (X : Cx) (W : WN)
def XP (e : Expr) (en : En) (m : R D) : Prop := ∀ σ G H, Sl X.K en σ G H → ∀ Q : VK,
  wp m (fun d => ∀ v G2 H2, Grow G H G2 H2 → Rp X.K G2 v d → Q v H2) (fun c => ∀ G2 H2, Grow G H G2 H2 → W c σ H2) → wE X e σ H Q
/-- a new list, the asker's own -/
def XN (e : Expr) (en : En) (m : R (List D)) : Prop := ∀ σ G H, Sl X.K en σ G H → ∀ Q : VK,
  wp m (fun ds => ∀ p vs G2 H2, Grow G H G2 H2 → H p = none → G2 p = none → H2 p = some (.lst vs) → RpAll X.K G2 vs ds → Q (.ref p) H2) (fun c => ∀ G2 H2, Grow G H G2 H2 → W c σ H2) → wE X e σ H Q
def XT (e : Expr) (en : En) (m : R Bool) : Prop := ∀ σ G H, Sl X.K en σ G H → ∀ Q : Bool → Hp → Prop,
  wp m (fun b => ∀ G2 H2, Grow G H G2 H2 → Q b H2) (fun c => ∀ G2 H2, Grow G H G2 H2 → W c σ H2) → wT X e σ H Q
def XW (e : Expr) (en : En) (m : R Bool) : Prop := ∀ σ G H, Sl X.K en σ G H → ∀ Q : Bool → Hp → Prop,
  wp m (fun b => ∀ G2 H2, Grow G H G2 H2 → Q b H2) (fun c => ∀ G2 H2, Grow G H G2 H2 → W c σ H2) → wW X e σ H Q
def XA (es : List Expr) (en : En) (m : R (List D)) : Prop := ∀ σ G H, Sl X.K en σ G H → ∀ Q : List V → Hp → Prop,
  wp m (fun ds => ∀ vs G2 H2, Grow G H G2 H2 → RpAll X.K G2 vs ds → Q vs H2) (fun c => ∀ G2 H2, Grow G H G2 H2 → W c σ H2) → wA X es σ H Q
end
/-- an operation on values -/
def OpD (K : PySem.W.Frag) (r : R2) (f : D → D → Option D) : Prop := ∀ G H x y dx dy d, Lk G H → Rp K G x dx → Rp K G y dy → f dx dy = some d → ∀ Q : VK,
  (∀ v G2 H2, Grow G H G2 H2 → Rp K G2 v d → Q v H2) → r x y H Q
def UnD (K : PySem.W.Frag) (r : V → Hp → VK → Prop) (f : D → Option D) : Prop := ∀ G H x dx d, Lk G H → Rp K G x dx → f dx = some d → ∀ Q : VK,
  (∀ v G2 H2, Grow G H G2 H2 → Rp K G2 v d → Q v H2) → r x H Q
def CallD (K : PySem.W.Frag) (r : List V → Hp → VK → Prop) (f : List D → Option D) : Prop := ∀ G H xs ds d, Lk G H → RpAll K G xs ds → f ds = some d → ∀ Q : VK,
  (∀ v G2 H2, Grow G H G2 H2 → Rp K G2 v d → Q v H2) → r xs H Q
def NewL (K : PySem.W.Frag) (G H : Hp) (ds : List D) (Q : VK) : Prop := ∀ p vs G2 H2, Grow G H G2 H2 → H p = none → G2 p = none → H2 p = some (.lst vs) → RpAll K G2 vs ds → Q (.ref p) H2
/-- an operation that makes a new list -/
def OpN (K : PySem.W.Frag) (r : R2) (f : D → D → Option (List D)) : Prop := ∀ G H x y dx dy d, Lk G H → Rp K G x dx → Rp K G y dy → f dx dy = some d → ∀ Q : VK, NewL K G H d Q → r x y H Q
def CallN (K : PySem.W.Frag) (r : List V → Hp → VK → Prop) (f : List D → Option (List D)) : Prop := ∀ G H xs ds d, Lk G H → RpAll K G xs ds → f ds = some d → ∀ Q : VK, NewL K G H d Q → r xs H Q
section
variable {X : Cx} {W : WN} {en : En} {a b c : Expr} {ma mb mc : R D} {pos : Pos}
theorem xp_var {i : Nat} {x : Str} {d : D} (he : en[i]? = some (some (.v d))) (hN : X.N[i]? = some x := by rfl) (hv : Vis X.env.scope x := by first | exact Or.inl rfl | exact Or.inr (Or.inl rfl) | exact Or.inr (Or.inr rfl))
    (hd : (x == ("__debug__" : Str)) = false := by decide) (hcd : (x == ("__classdict__" : Str)) = false := by decide) : XP X W (.Name x pos) en (.ok d) := fun σ G H S Q h => by
  obtain ⟨v, e, r⟩ := S.at_ i _ he
  exact pe_to (pe_var hN hv hd hcd) ⟨v, e, h v G H (Grow.refl S.le) r⟩
theorem xp_int {i : Int} {j : Nat} : XP X W (.Constant (.int i) j pos) en (.ok (.int i)) := fun σ G H S Q h => pe_to pe_int (h _ G H (Grow.refl S.le) (.int i))
theorem xp_bl {i : Bool} {j : Nat} : XP X W (.Constant (.bool i) j pos) en (.ok (.bl i)) := fun σ G H S Q h => pe_to pe_bl (h _ G H (Grow.refl S.le) (.bl i))
theorem xp_non {j : Nat} : XP X W (.Constant .none j pos) en (.ok .non) := fun σ G H S Q h => pe_to pe_non (h _ G H (Grow.refl S.le) .non)
theorem xp_str {x : Str} {j : Nat} : XP X W (.Constant (.str x) j pos) en (.ok (.str x)) := fun σ G H S Q h => pe_to pe_str (h _ G H (Grow.refl S.le) (.str x))
/-- a module's constant -/
theorem xp_globI {x : Str} {i : Int} {u : Value} (hg : Gl X x) (hm : X.mg x = some u) (r : RelV (.int i) u) (hd : (x == ("__debug__" : Str)) = false := by decide) : XP X W (.Name x pos) en (.ok (.int i)) := fun σ G H S Q h => pe_to (pe_glob hg hm r hd) (h _ G H (Grow.refl S.le) (.int i))
theorem xp_globS {x : Str} {i : Str} {u : Value} (hg : Gl X x) (hm : X.mg x = some u) (r : RelV (.str i) u) (hd : (x == ("__debug__" : Str)) = false := by decide) : XP X W (.Name x pos) en (.ok (.str i)) := fun σ G H S Q h => pe_to (pe_glob hg hm r hd) (h _ G H (Grow.refl S.le) (.str i))
theorem xp_two {f : D → D → Option D} {r : R2} {e : Expr} (hf : OpD X.K r f) (ha : XP X W a en ma) (hb : XP X W b en mb) (hr : PE X e (tOp r (wE X a) (wE X b))) : XP X W e en (ma.bnd fun x => mb.bnd fun y => R.of (f x y)) := fun σ G H S Q h => by
  refine pe_to hr (ha σ G H S _ (wp_mono (wp_bnd.mp h) (fun x hx v G1 H1 w1 r1 => ?_) fun _ z => z))
  refine hb σ G1 H1 (S.grow w1) _ (wp_mono (wp_bnd.mp hx) (fun y hy u G2 H2 w2 r2 => ?_) fun _ z G2 H2 w => z G2 H2 (w1.trans w))
  obtain ⟨d, e, hd⟩ := wp_of hy
  exact hf G2 H2 v u x y d w2.up (r1.up w2.g) r2 e Q fun v G3 H3 w3 r3 => hd v G3 H3 ((w1.trans w2).trans w3) r3
theorem xp_op {op : Operator} {r : R2} {f : D → D → Option D} (ho : OpR X (binaryOp op) r) (hf : OpD X.K r f) (ha : XP X W a en ma) (hb : XP X W b en mb) : XP X W (.BinOp a op b pos) en (ma.bnd fun x => mb.bnd fun y => R.of (f x y)) :=
  xp_two hf ha hb (pe_op ho pe_w pe_w)
theorem xp_cmp {op : CmpOp} {r : R2} {f : D → D → Option D} (ho : OpR X (compareOp op) r) (hf : OpD X.K r f) (hm : behindInMarks op b = false) (ha : XP X W a en ma) (hb : XP X W b en mb) : XP X W (.Compare a [op] [b] pos) en (ma.bnd fun x => mb.bnd fun y => R.of (f x y)) :=
  xp_two hf ha hb (pe_cmpR ho pe_w pe_w hm)
theorem xp_ix {r : R2} {f : D → D → Option D} (ho : IxR X r) (hf : OpD X.K r f) (hs : PlainIx b) (ha : XP X W a en ma) (hb : XP X W b en mb) : XP X W (.Subscript a b pos) en (ma.bnd fun x => mb.bnd fun y => R.of (f x y)) :=
  xp_two hf ha hb (pe_ix ho pe_w pe_w hs)
theorem xp_un {op : UnaryOp} {r : V → Hp → VK → Prop} {f : D → Option D} (ho : UnR X (unaryOp op) r) (hf : UnD X.K r f) (ha : XP X W a en ma) : XP X W (.UnaryOp op a pos) en (ma.bnd fun x => R.of (f x)) := fun σ G H S Q h => by
  refine pe_to (pe_un ho pe_w) (ha σ G H S _ (wp_mono (wp_bnd.mp h) (fun x hx v G1 H1 w1 r1 => ?_) fun _ z => z))
  obtain ⟨d, e, hd⟩ := wp_of hx
  exact hf G1 H1 v x d w1.up r1 e Q fun v G3 H3 w3 r3 => hd v G3 H3 (w1.trans w3) r3
/-! arguments -/
theorem xa_nil : XA X W [] en (.ok []) := fun σ G H S Q h => pa_to pa_nil (h [] G H (Grow.refl S.le) .nil)
theorem xa_cons {es : List Expr} {ms : R (List D)} (ha : XP X W a en ma) (hs : XA X W es en ms) (he : starEach (a :: es) X.env = (false, eval a X.env) :: starEach es X.env := by rfl) : XA X W (a :: es) en (ma.bnd fun x => ms.bnd fun xs => .ok (x :: xs)) := fun σ G H S Q h => by
  refine pa_to (pa_cons pe_w pa_w he) (ha σ G H S _ (wp_mono (wp_bnd.mp h) (fun x hx v G1 H1 w1 r1 => ?_) fun _ z => z))
  exact hs σ G1 H1 (S.grow w1) _ (wp_mono (wp_bnd.mp hx) (fun y hy vs G2 H2 w2 r2 => hy (v :: vs) G2 H2 (w1.trans w2) (.cons (r1.up w2.g) r2)) fun _ z G2 H2 w => z G2 H2 (w1.trans w))
/-! a new list is data, when nobody changes it -/
theorem NewL.frz {K : PySem.W.Frag} {G H : Hp} {ds : List D} {Q : VK} (h : ∀ v G2 H2, Grow G H G2 H2 → Rp K G2 v (.lst ds) → Q v H2) : NewL K G H ds Q := fun p vs G2 H2 w hp gp e r => by
  have l : Le G2 (upd G2 p (.lst vs)) := Le.upd gp
  refine h (.ref p) (upd G2 p (.lst vs)) H2 ⟨w.g.trans l, w.up.know gp e, w.h, fun a n m => ?_⟩ (.lst (.inl upd_same) (r.up l))
  rw [upd_ne (fun z => m.ne (by rw [z]; exact hp))]
  exact w.cl a n m
theorem xn_xp {e : Expr} {m : R (List D)} (h : XN X W e en m) : XP X W e en (m.bnd fun ds => .ok (.lst ds)) := fun σ G H S Q k => by
  refine h σ G H S Q (wp_mono (wp_bnd.mp k) (fun ds hd => ?_) fun _ z => z)
  exact NewL.frz hd
theorem xn_two {f : D → D → Option (List D)} {r : R2} {e : Expr} (hf : OpN X.K r f) (ha : XP X W a en ma) (hb : XP X W b en mb) (hr : PE X e (tOp r (wE X a) (wE X b))) : XN X W e en (ma.bnd fun x => mb.bnd fun y => R.of (f x y)) := fun σ G H S Q h => by
  refine pe_to hr (ha σ G H S _ (wp_mono (wp_bnd.mp h) (fun x hx v G1 H1 w1 r1 => ?_) fun _ z => z))
  refine hb σ G1 H1 (S.grow w1) _ (wp_mono (wp_bnd.mp hx) (fun y hy u G2 H2 w2 r2 => ?_) fun _ z G2 H2 w => z G2 H2 (w1.trans w))
  obtain ⟨d, e, hd⟩ := wp_of hy
  exact hf G2 H2 v u x y d w2.up (r1.up w2.g) r2 e Q fun p vs G3 H3 w3 hp gp e3 r3 => hd p vs G3 H3 ((w1.trans w2).trans w3) (Option.eq_none_iff_forall_ne_some.mpr fun o z => by rw [(w1.trans w2).h p o z] at hp; cases hp) gp e3 r3
/-- a size that lists may have here -/
def fits {α : Type} (ds : List α) : Option (List α) := if ds.length ≤ 16000000 then some ds else none
theorem fits_some {α : Type} {ds es : List α} (h : fits ds = some es) : es = ds ∧ ds.length ≤ 16000000 := by
  unfold fits at h
  split at h
  · rename_i z; exact ⟨(Option.some.inj h).symm, z⟩
  · cases h
theorem size_ok {n : Nat} (h : n ≤ 16000000) : n ≤ sizeLine := Nat.le_trans h (by decide)
theorem RpAll.len {K : PySem.W.Frag} {G : Hp} : ∀ {ds : List D} {vs : List V}, RpAll K G vs ds → vs.length = ds.length
  | [], _, h => by cases h; rfl
  | d :: ds, _, h => by
    cases h with
    | cons a b => simp only [List.length_cons, b.len]
/-- [..] -/
theorem xn_lst {es : List Expr} {ms : R (List D)} (ha : XA X W es en ms) : XN X W (.List es pos) en (ms.bnd fun ds => R.of (fits ds)) := fun σ G H S Q h => by
  refine pe_to (pe_lst pa_w) (ha σ G H S _ (wp_mono (wp_bnd.mp h) (fun ds hd vs G1 H1 w1 r1 => ?_) fun _ z => z))
  obtain ⟨es, e, hd'⟩ := wp_of hd
  obtain ⟨rfl, hl⟩ := fits_some e
  refine ⟨size_ok (by rw [r1.len]; exact hl), fun p hp => ?_⟩
  have w2 := w1.trans (Grow.own (o := .lst vs) w1.up hp)
  exact hd' p vs G1 _ w2 (Option.eq_none_iff_forall_ne_some.mpr fun o z => by rw [w1.h p o z] at hp; cases hp) (w1.up.kn p hp) upd_same r1
/-- (..) -/
theorem xp_tup {es : List Expr} {j : Nat} {ms : R (List D)} (ha : XA X W es en ms) : XP X W (.Tuple es j pos) en (ms.bnd fun ds => R.of ((fits ds).map .tup)) := fun σ G H S Q h => by
  refine pe_to (pe_tup pa_w) (ha σ G H S _ (wp_mono (wp_bnd.mp h) (fun ds hd vs G1 H1 w1 r1 => ?_) fun _ z => z))
  obtain ⟨es, e, hd'⟩ := wp_of hd
  obtain ⟨es', e', rfl⟩ := Option.map_eq_some_iff.mp e
  obtain ⟨rfl, hl⟩ := fits_some e'
  refine ⟨size_ok (by rw [r1.len]; exact hl), fun p hp => ?_⟩
  have w2 := Grow.new (o := .tup vs) w1.up hp rfl
  exact hd' _ _ _ (w1.trans w2) (.tup (.inl (.inl upd_same)) (r1.up w2.g))
/-! built-ins by name -/
theorem xp_callB {x : Str} {id : String} {e : Expr} {es : List Expr} {r : List V → Hp → VK → Prop} {f : List D → Option D} {ms : R (List D)} {p : Pos} (hc : CallR X (.builtin id) r) (hf : CallD X.K r f) (hg : Gl X x) (hm : X.mg x = none) (hv : bootBuiltins x = some (.builtin id))
    (ha : XA X W (e :: es) en ms) (hn : x ≠ "__name__" := by decide) (hdb : (x == ("__debug__" : Str)) = false := by decide) (h1 : starEach (e :: es) X.env = (false, eval e X.env) :: starEach es X.env := by rfl) (h2 : (backTo pos (starEach es X.env)).any (·.1) = false := by rfl) :
    XP X W (.Call (.Name x p) (e :: es) [] pos) en (ms.bnd fun ds => R.of (f ds)) := fun σ G H S Q h => by
  refine pe_to (pe_callB hc hg hm hv pa_w hn hdb h1 h2) (ha σ G H S _ (wp_mono (wp_bnd.mp h) (fun ds hd vs G1 H1 w1 r1 => ?_) fun _ z => z))
  obtain ⟨d, e, hd⟩ := wp_of hd
  exact hf G1 H1 vs ds d w1.up r1 e Q fun v G3 H3 w3 r3 => hd v G3 H3 (w1.trans w3) r3
theorem xp_callTy {x : Str} {id : String} {e : Expr} {es : List Expr} {r : List V → Hp → VK → Prop} {f : List D → Option D} {ms : R (List D)} {p : Pos} (hc : CallR X (.type id) r) (hf : CallD X.K r f) (hg : Gl X x) (hm : X.mg x = none) (hv : bootBuiltins x = some (.type id))
    (ha : XA X W (e :: es) en ms) (hn : x ≠ "__name__" := by decide) (hdb : (x == ("__debug__" : Str)) = false := by decide) (h1 : starEach (e :: es) X.env = (false, eval e X.env) :: starEach es X.env := by rfl) (h2 : (backTo pos (starEach es X.env)).any (·.1) = false := by rfl) :
    XP X W (.Call (.Name x p) (e :: es) [] pos) en (ms.bnd fun ds => R.of (f ds)) := fun σ G H S Q h => by
  refine pe_to (pe_callTy hc hg hm hv pa_w hn hdb h1 h2) (ha σ G H S _ (wp_mono (wp_bnd.mp h) (fun ds hd vs G1 H1 w1 r1 => ?_) fun _ z => z))
  obtain ⟨d, e, hd⟩ := wp_of hd
  exact hf G1 H1 vs ds d w1.up r1 e Q fun v G3 H3 w3 r3 => hd v G3 H3 (w1.trans w3) r3
theorem NewL.up {K : PySem.W.Frag} {G H G1 H1 : Hp} {ds : List D} {Q : VK} (w : Grow G H G1 H1) (h : NewL K G H ds Q) : NewL K G1 H1 ds Q := fun p vs G2 H2 w2 hp gp e r =>
  h p vs G2 H2 (w.trans w2) (Option.eq_none_iff_forall_ne_some.mpr fun o z => by rw [w.h p o z] at hp; cases hp) gp e r
theorem xn_callTy {x : Str} {id : String} {e : Expr} {es : List Expr} {r : List V → Hp → VK → Prop} {f : List D → Option (List D)} {ms : R (List D)} {p : Pos} (hc : CallR X (.type id) r) (hf : CallN X.K r f) (hg : Gl X x) (hm : X.mg x = none) (hv : bootBuiltins x = some (.type id))
    (ha : XA X W (e :: es) en ms) (hn : x ≠ "__name__" := by decide) (hdb : (x == ("__debug__" : Str)) = false := by decide) (h1 : starEach (e :: es) X.env = (false, eval e X.env) :: starEach es X.env := by rfl) (h2 : (backTo pos (starEach es X.env)).any (·.1) = false := by rfl) :
    XN X W (.Call (.Name x p) (e :: es) [] pos) en (ms.bnd fun ds => R.of (f ds)) := fun σ G H S Q h => by
  refine pe_to (pe_callTy hc hg hm hv pa_w hn hdb h1 h2) (ha σ G H S _ (wp_mono (wp_bnd.mp h) (fun ds hd vs G1 H1 w1 r1 => ?_) fun _ z => z))
  obtain ⟨d, e, hd⟩ := wp_of hd
  exact hf G1 H1 vs ds d w1.up r1 e Q (NewL.up w1 hd)
theorem xn_callB {x : Str} {id : String} {e : Expr} {es : List Expr} {r : List V → Hp → VK → Prop} {f : List D → Option (List D)} {ms : R (List D)} {p : Pos} (hc : CallR X (.builtin id) r) (hf : CallN X.K r f) (hg : Gl X x) (hm : X.mg x = none) (hv : bootBuiltins x = some (.builtin id))
    (ha : XA X W (e :: es) en ms) (hn : x ≠ "__name__" := by decide) (hdb : (x == ("__debug__" : Str)) = false := by decide) (h1 : starEach (e :: es) X.env = (false, eval e X.env) :: starEach es X.env := by rfl) (h2 : (backTo pos (starEach es X.env)).any (·.1) = false := by rfl) :
    XN X W (.Call (.Name x p) (e :: es) [] pos) en (ms.bnd fun ds => R.of (f ds)) := fun σ G H S Q h => by
  refine pe_to (pe_callB hc hg hm hv pa_w hn hdb h1 h2) (ha σ G H S _ (wp_mono (wp_bnd.mp h) (fun ds hd vs G1 H1 w1 r1 => ?_) fun _ z => z))
  obtain ⟨d, e, hd⟩ := wp_of hd
  exact hf G1 H1 vs ds d w1.up r1 e Q (NewL.up w1 hd)
/-! tests -/
theorem xt_cmp {op : CmpOp} {r : R2} {f : D → D → Option Bool} (ho : OpR X (compareOp op) r) (hf : OpD X.K r (fun x y => (f x y).map .bl)) (hm : behindInMarks op b = false) (ha : XP X W a en ma) (hb : XP X W b en mb) : XT X W (.Compare a [op] [b] pos) en (ma.bnd fun x => mb.bnd fun y => R.of (f x y)) := fun σ G H S Q h => by
  refine pt_to (pt_cmpR ho pe_w pe_w hm) (ha σ G H S _ (wp_mono (wp_bnd.mp h) (fun x hx v G1 H1 w1 r1 => ?_) fun _ z => z))
  refine hb σ G1 H1 (S.grow w1) _ (wp_mono (wp_bnd.mp hx) (fun y hy u G2 H2 w2 r2 => ?_) fun _ z G2 H2 w => z G2 H2 (w1.trans w))
  obtain ⟨d, e, hd⟩ := wp_of hy
  refine hf G2 H2 v u x y (.bl d) w2.up (r1.up w2.g) r2 (by show (f x y).map _ = _; rw [e]; rfl) _ fun v G3 H3 w3 r3 => ?_
  cases r3
  exact ⟨d, rfl, hd G3 H3 ((w1.trans w2).trans w3)⟩
def D.bool : D → Option Bool
  | .bl b => some b
  | _ => none
theorem xt_val {m : R D} (h : XP X W a en m) (he : ∀ whole, isTrue a X.env whole = (do let v ← whole; standAt a.pos; holding [v] (truthy v)) := by intro _; rfl) : XT X W a en (m.bnd fun d => R.of d.bool) := fun σ G H S Q k => by
  refine pt_to (pt_val pe_w he) (h σ G H S _ (wp_mono (wp_bnd.mp k) (fun x hx v G1 H1 w1 r1 => ?_) fun _ z => z))
  obtain ⟨d, e, hd⟩ := wp_of hx
  cases x <;> cases e
  cases r1
  exact ⟨_, rfl, hd G1 H1 w1⟩
variable {ta tb : R Bool} {rest : List Expr}
theorem xt_not (h : XT X W a en ta) : XT X W (.UnaryOp .Not a pos) en (ta.bnd fun x => .ok (!x)) := fun σ G H S Q k => by
  exact pt_to (pt_not pt_w) (h σ G H S _ (wp_mono (wp_bnd.mp k) (fun x hx G1 H1 w1 => hx G1 H1 w1) fun _ z => z))
theorem xt_w (h : XW X W a en ta) : XT X W a en ta := fun σ G H S Q k => pt_to (PW.pt pw_w) (h σ G H S Q k)
theorem xw_and1 (h : XT X W a en ta) : XW X W (.BoolOp .And [a] pos) en ta := fun σ G H S Q k => pw_to (pw_and1 pt_w) (h σ G H S Q k)
theorem xw_or1 (h : XT X W a en ta) : XW X W (.BoolOp .Or [a] pos) en ta := fun σ G H S Q k => pw_to (pw_or1 pt_w) (h σ G H S Q k)
theorem xw_and (ha : XT X W a en ta) (hb : XW X W (.BoolOp .And (b :: rest) pos) en tb) : XW X W (.BoolOp .And (a :: b :: rest) pos) en (ta.bnd fun x => if x = true then tb else .ok false) := fun σ G H S Q k => by
  refine pw_to (pw_and pt_w pw_w) (ha σ G H S _ (wp_mono (wp_bnd.mp k) (fun x hx G1 H1 w1 => ?_) fun _ z => z))
  cases x with
  | true => exact hb σ G1 H1 (S.grow w1) Q (wp_mono hx (fun y hy G2 H2 w2 => hy G2 H2 (w1.trans w2)) fun _ z G2 H2 w => z G2 H2 (w1.trans w))
  | false => exact hx G1 H1 w1
theorem xw_or (ha : XT X W a en ta) (hb : XW X W (.BoolOp .Or (b :: rest) pos) en tb) : XW X W (.BoolOp .Or (a :: b :: rest) pos) en (ta.bnd fun x => if x = true then .ok true else tb) := fun σ G H S Q k => by
  refine pw_to (pw_or pt_w pw_w) (ha σ G H S _ (wp_mono (wp_bnd.mp k) (fun x hx G1 H1 w1 => ?_) fun _ z => z))
  cases x with
  | false => exact hb σ G1 H1 (S.grow w1) Q (wp_mono hx (fun y hy G2 H2 w2 => hy G2 H2 (w1.trans w2)) fun _ z G2 H2 w => z G2 H2 (w1.trans w))
  | true => exact hx G1 H1 w1
end
end Wk
set_option maxHeartbeats 4000000
/-! Wk3: blocks. -/
namespace Wk
open PySem PySem.Spec PyProof.Rows L2

/-- where a def began: what was known, what stood, and the objects that it may change -/
structure Bs where
  G0 : Hp
  H0 : Hp
  io : List Addr
structure Fr8 (B : Bs) (G H : Hp) : Prop where
  up : Lk G H
  le0 : Le B.G0 G
  keep : ∀ a o, a ∉ B.io → B.H0 a = some o → H a = some o
  there : ∀ a, B.H0 a ≠ none → H a ≠ none
  thM : ∀ a, Mt B.H0 a → Mt H a
  cl : ∀ a, B.G0 a = none → Mt B.H0 a → G a = none
/-- what of it was there ahead -/
def OwnB (B : Bs) (b : Bool) (p : Addr) (c : OO) : Prop := (if b = true then p ∈ B.io else B.H0 p = none) ∧ ∀ x ∈ c.sub, (b = true ∧ x.1 ∈ B.io) ∨ B.H0 x.1 = none
structure Es (K : PySem.W.Frag) (B : Bs) (en : En) (σ : L2.St) (G H : Hp) : Prop where
  fr : Fr8 B G H
  at_ : ∀ (i : Nat) (dv : DV), en[i]? = some (some dv) → ∃ v, σ[i]? = some (some v) ∧ RpV K G H v dv
  ones : ∀ (i j : Nat) (b b' : Bool) (p p' : Addr) (c c' : OO), en[i]? = some (some (.o b p c)) → en[j]? = some (some (.o b' p' c')) → (∃ a, a ∈ c.fp p ∧ a ∈ c'.fp p') → i = j
  own : ∀ (i : Nat) (b : Bool) (p : Addr) (c : OO), en[i]? = some (some (.o b p c)) → OwnB B b p c
structure St8 (K : PySem.W.Frag) (B : Bs) (en : En) (σ : L2.St) (G H : Hp) : Prop where
  es : Es K B en σ G H
  len : σ.length = en.length
/-- less is known -/
inductive Wkn : En → En → Prop
  | nil : Wkn [] []
  | k {x : Option DV} {a b : En} : Wkn a b → Wkn (x :: a) (x :: b)
  | d {x : Option DV} {a b : En} : Wkn a b → Wkn (none :: a) (x :: b)
def Wk0 (e' e : En) : Prop := ∀ (i : Nat) (dv : DV), e'[i]? = some (some dv) → e[i]? = some (some dv)
theorem wk0_nil {e : En} : Wk0 [] e := fun i dv h => by simp at h
theorem wk0_refl {e : En} : Wk0 e e := fun i dv h => h
theorem Wkn.wk0 : ∀ {a b : En}, Wkn a b → Wk0 a b
  | _, _, .nil => wk0_refl
  | _, _, .k h => fun i dv e => by
    cases i with
    | zero => exact e
    | succ i => exact h.wk0 i dv e
  | _, _, .d h => fun i dv e => by
    cases i with
    | zero => cases e
    | succ i => exact h.wk0 i dv e
theorem Wkn.len {a b : En} (h : Wkn a b) : a.length = b.length := by
  induction h with
  | nil => rfl
  | k _ ih => simp only [List.length_cons, ih]
  | d _ ih => simp only [List.length_cons, ih]
section
variable {K : PySem.W.Frag} {B : Bs} {en : En} {σ : L2.St} {G H G2 H2 : Hp}
theorem OwnB.any {b : Bool} {p a : Addr} {c : OO} (h : OwnB B b p c) (m : a ∈ c.fp p) : a ∈ B.io ∨ B.H0 a = none := by
  rcases List.mem_cons.mp m with rfl | m
  · cases b with
    | true => exact .inl h.1
    | false => exact .inr h.1
  · obtain ⟨x, hx, rfl⟩ := List.mem_map.mp m
    exact (h.2 x hx).imp (·.2) id
theorem OwnB.own {p a : Addr} {c : OO} (h : OwnB B false p c) (m : a ∈ c.fp p) : B.H0 a = none := by
  rcases List.mem_cons.mp m with rfl | m
  · exact h.1
  · obtain ⟨x, hx, rfl⟩ := List.mem_map.mp m
    rcases h.2 x hx with z | z
    · exact Bool.noConfusion z.1
    · exact z
theorem St8.sl (s : St8 K B en σ G H) : Sl K en σ G H := ⟨s.es.fr.up, s.len, s.es.at_, s.es.ones⟩
theorem Es.one (s : Es K B en σ G H) (i j : Nat) (b b' : Bool) (p : Addr) (c c' : OO) (h : en[i]? = some (some (.o b p c))) (h' : en[j]? = some (some (.o b' p c'))) : i = j := s.ones i j b b' p p c c' h h' ⟨p, fp_top, fp_top⟩
theorem Es.atL {i : Nat} {b : Bool} {p : Addr} {ds : List D} (s : Es K B en σ G H) (h : en[i]? = some (some (.o b p (.l ds)))) : ∃ v, σ[i]? = some (some v) ∧ v = .ref p ∧ G p = none ∧ ∃ vs, H p = some (.lst vs) ∧ RpAll K G vs ds := by
  obtain ⟨v, e, e2, r⟩ := s.at_ i _ h
  exact ⟨v, e, e2, own_l.mp r⟩
theorem Es.atK {i : Nat} {b : Bool} {p : Addr} {m : List (Key × D)} (s : Es K B en σ G H) (h : en[i]? = some (some (.o b p (.k m)))) : ∃ v, σ[i]? = some (some v) ∧ v = .ref p ∧ G p = none ∧ ∃ kvs, H p = some (.dK kvs) ∧ KvRp K G kvs m ∧ (m.map (·.1)).Nodup := by
  obtain ⟨v, e, e2, r⟩ := s.at_ i _ h
  exact ⟨v, e, e2, own_k.mp r⟩
theorem Fr8.grow (f : Fr8 B G H) (w : Grow G H G2 H2) : Fr8 B G2 H2 :=
  ⟨w.up, f.le0.trans w.g, fun a o n e => w.h a o (f.keep a o n e), fun a n => ne_of_ne w.h (f.there a n), fun a n => mt_of w.h (f.thM a n), fun a n m => w.cl a (f.cl a n m) (f.thM a m)⟩
theorem Es.grow (s : Es K B en σ G H) (w : Grow G H G2 H2) : Es K B en σ G2 H2 :=
  ⟨s.fr.grow w, fun i dv e => by obtain ⟨v, a, b⟩ := s.at_ i dv e; exact ⟨v, a, b.grow w⟩, s.ones, s.own⟩
theorem St8.grow (s : St8 K B en σ G H) (w : Grow G H G2 H2) : St8 K B en σ G2 H2 := ⟨s.es.grow w, s.len⟩
theorem Es.weak {e' : En} (s : Es K B en σ G H) (w : Wk0 e' en) : Es K B e' σ G H :=
  ⟨s.fr, fun i dv e => s.at_ i dv (w i dv e), fun i j b b' p p' c c' e e' => s.ones i j b b' p p' c c' (w i _ e) (w j _ e'), fun i b p c e => s.own i b p c (w i _ e)⟩
theorem St8.weak {e' : En} (s : St8 K B en σ G H) (w : Wkn e' en) : St8 K B e' σ G H := ⟨s.es.weak w.wk0, s.len.trans w.len.symm⟩
theorem get_set {α : Type} {l : List α} {i j : Nat} {x y : α} (h : (l.set i x)[j]? = some y) : (j = i ∧ y = x) ∨ (j ≠ i ∧ l[j]? = some y) := by
  by_cases e : j = i
  · subst e
    by_cases hj : j < l.length
    · rw [List.getElem?_set_self hj] at h; exact .inl ⟨rfl, (Option.some.inj h).symm⟩
    · rw [List.getElem?_eq_none (by simpa using hj)] at h; cases h
  · rw [List.getElem?_set_ne (Ne.symm e)] at h; exact .inr ⟨e, h⟩
/-- a slot gets data -/
theorem St8.set {i : Nat} {v : V} {d : D} (s : St8 K B en σ G H) (r : Rp K G v d) : St8 K B (en.set i (some (.v d))) (σ.set i (some v)) G H := by
  refine ⟨⟨s.es.fr, fun j dv e => ?_, fun j k b b' p p' c c' e e' z => ?_, fun j b p c e => ?_⟩, by simp [s.len]⟩
  · rcases get_set e with ⟨rfl, e1⟩ | ⟨n, f1⟩
    · cases e1
      have hj : j < σ.length := by
        rw [s.len]
        have := (List.getElem?_eq_some_iff.mp e).1
        simpa using this
      exact ⟨v, List.getElem?_set_self hj, r⟩
    · obtain ⟨u, a, b⟩ := s.es.at_ j dv f1
      exact ⟨u, by rw [List.getElem?_set_ne (Ne.symm n)]; exact a, b⟩
  · rcases get_set e with ⟨rfl, e1⟩ | ⟨n, f1⟩
    · cases e1
    · rcases get_set e' with ⟨rfl, e1⟩ | ⟨n', f2⟩
      · cases e1
      · exact s.es.ones j k b b' p p' c c' f1 f2 z
  · rcases get_set e with ⟨rfl, e1⟩ | ⟨n, f1⟩
    · cases e1
    · exact s.es.own j b p c f1
/-- nothing of what is new is owned yet -/
def NoOwnS (en : En) (A : List Addr) : Prop := ∀ (j : Nat) (b : Bool) (q : Addr) (c : OO), en[j]? = some (some (.o b q c)) → ∀ a, a ∈ A → a ∉ c.fp q
/-- a slot gets a new object of the def's own -/
theorem St8.setOS {i : Nat} {p : Addr} {c : OO} (s : St8 K B en σ G H) (hn : NoOwnS en (c.fp p)) (hB : ∀ a ∈ c.fp p, B.H0 a = none) (r : OwnRp K G H p c) : St8 K B (en.set i (some (.o false p c))) (σ.set i (some (.ref p))) G H := by
  refine ⟨⟨s.es.fr, fun j dv e => ?_, fun j k b b' q q' c1 c2 e e' z => ?_, fun j b q c1 e => ?_⟩, by simp [s.len]⟩
  · rcases get_set e with ⟨rfl, e1⟩ | ⟨n, f1⟩
    · cases e1
      have hj : j < σ.length := by
        rw [s.len]
        have := (List.getElem?_eq_some_iff.mp e).1
        simpa using this
      exact ⟨.ref p, List.getElem?_set_self hj, rfl, r⟩
    · obtain ⟨u, a, b⟩ := s.es.at_ j dv f1
      exact ⟨u, by rw [List.getElem?_set_ne (Ne.symm n)]; exact a, b⟩
  · obtain ⟨a, z1, z2⟩ := z
    rcases get_set e with ⟨rfl, e1⟩ | ⟨n, f1⟩
    · cases e1
      rcases get_set e' with ⟨rfl, e1⟩ | ⟨n', f2⟩
      · rfl
      · exact absurd z2 (hn k b' q' c2 f2 a z1)
    · rcases get_set e' with ⟨rfl, e1⟩ | ⟨n', f2⟩
      · cases e1; exact absurd z1 (hn j b q c1 f1 a z2)
      · exact s.es.ones j k b b' q q' c1 c2 f1 f2 ⟨a, z1, z2⟩
  · rcases get_set e with ⟨rfl, e1⟩ | ⟨n, f1⟩
    · cases e1; exact ⟨hB p fp_top, fun x hx => .inr (hB x.1 (List.mem_cons_of_mem _ (List.mem_map_of_mem hx)))⟩
    · exact s.es.own j b q c1 f1
/-- what wasn't there isn't owned -/
theorem Sl.noOwnS {A : List Addr} (s : Sl K en σ G H) (h : ∀ a ∈ A, H a = none) : NoOwnS en A := fun j b q c e a ha m => by
  obtain ⟨v, _, _, r⟩ := s.at_ j _ e
  exact (r.fpT m).ne (h a ha)
/-- another owned object stays, where something is changed that isn't its own -/
theorem OwnRp.other {p q : Addr} {c : OO} {o : HO} (h : OwnRp K G H p c) (n : q ∉ c.fp p) : OwnRp K G (upd H q o) p c :=
  h.go (Le.refl _) (fun a m u e => by rw [upd_ne (fun z => n (by rw [← z]; exact m))]; exact e) fun a m => h.fpG m
/-- a cell of an owned object is changed -/
theorem St8.mutQ {i : Nat} {p q : Addr} {b : Bool} {c c' : OO} {o : HO} (s : St8 K B en σ G H) (e : en[i]? = some (some (.o b p c))) (hq : q ∈ c.fp p) (hf : ∀ a ∈ c'.fp p, a ∈ c.fp p) (mo : Mu o) (r : OwnRp K G (upd H q o) p c') : St8 K B (en.set i (some (.o b p c'))) σ G (upd H q o) := by
  obtain ⟨v0, e0, ev0, r0⟩ := s.es.at_ i _ e
  have hb := s.es.own i b p c e
  have g0 := r0.fpG hq
  have qB := hb.any hq
  refine ⟨⟨⟨s.es.fr.up.mutQ g0, s.es.fr.le0, fun a u n eu => ?_, fun a n => ?_, fun a n => ?_, s.es.fr.cl⟩, fun j dv ej => ?_, fun j k b b' q1 q2 c1 c2 ej ek z => ?_, fun j b q1 c1 ej => ?_⟩, by simp [s.len]⟩
  · have na : a ≠ q := fun z => by
      subst z
      rcases qB with z | z
      · exact n z
      · rw [z] at eu; cases eu
    rw [upd_ne na]; exact s.es.fr.keep a u n eu
  · by_cases z : a = q
    · rw [z, upd_same]; intro y; cases y
    · rw [upd_ne z]; exact s.es.fr.there a n
  · by_cases z : a = q
    · exact ⟨o, by rw [z, upd_same], mo⟩
    · obtain ⟨u, y1, y2⟩ := s.es.fr.thM a n
      exact ⟨u, by rw [upd_ne z]; exact y1, y2⟩
  · rcases get_set ej with ⟨rfl, e1⟩ | ⟨n, fj⟩
    · cases e1; exact ⟨v0, e0, ev0, r⟩
    · obtain ⟨u, x, y⟩ := s.es.at_ j dv fj
      refine ⟨u, x, ?_⟩
      cases dv with
      | v d => exact y
      | o b2 q2 c2 => exact ⟨y.1, y.2.other fun z => n (s.es.ones j i _ _ _ _ _ _ fj e ⟨q, z, hq⟩)⟩
  · obtain ⟨a, z1, z2⟩ := z
    rcases get_set ej with ⟨rfl, e1⟩ | ⟨n, fj⟩
    · cases e1
      rcases get_set ek with ⟨rfl, e1⟩ | ⟨n', fk⟩
      · rfl
      · exact s.es.ones _ _ _ _ _ _ _ _ e fk ⟨a, hf a z1, z2⟩
    · rcases get_set ek with ⟨rfl, e1⟩ | ⟨n', fk⟩
      · cases e1; exact s.es.ones _ _ _ _ _ _ _ _ fj e ⟨a, z1, hf a z2⟩
      · exact s.es.ones j k _ _ _ _ _ _ fj fk ⟨a, z1, z2⟩
  · rcases get_set ej with ⟨rfl, e1⟩ | ⟨n, fj⟩
    · cases e1
      refine ⟨hb.1, fun x hx => ?_⟩
      have m := hf _ (List.mem_cons_of_mem _ (List.mem_map_of_mem hx))
      cases b with
      | false => exact .inr (hb.own m)
      | true => exact (hb.any m).imp (fun z => ⟨rfl, z⟩) id
    · exact s.es.own j _ q1 _ fj
/-- an owned object without others in it is changed -/
theorem St8.mut {i : Nat} {p : Addr} {b : Bool} {c c' : OO} {o : HO} (s : St8 K B en σ G H) (e : en[i]? = some (some (.o b p c))) (mo : Mu o) (r : OwnRp K G (upd H p o) p c') (hs : c'.sub = [] := by rfl) : St8 K B (en.set i (some (.o b p c'))) σ G (upd H p o) :=
  s.mutQ e fp_top (fun a h => by
    rcases List.mem_cons.mp h with rfl | h
    · exact fp_top
    · rw [hs] at h; cases h) mo r
/-- something owned is known from now on: the rest stays -/
theorem OwnRp.know {p q : Addr} {c : OO} {o : HO} (h : OwnRp K G H p c) (g : G q = none) (n : q ∉ c.fp p) : OwnRp K (upd G q o) H p c :=
  h.go (Le.upd g) (fun a m u e => e) fun a m => by rw [upd_ne (fun z => n (by rw [← z]; exact m))]; exact h.fpG m
theorem Fr8.know {q : Addr} {o : HO} (f : Fr8 B G H) (g : G q = none) (hB : B.H0 q = none) (e : H q = some o) : Fr8 B (upd G q o) H :=
  ⟨f.up.know g e, f.le0.trans (Le.upd g), f.keep, f.there, f.thM, fun a n m => by rw [upd_ne (fun z => m.ne (by rw [z]; exact hB))]; exact f.cl a n m⟩
/-- an owned object without others in it is data from now on -/
theorem St8.frzO {i : Nat} {p : Addr} {c : OO} {d : D} {o : HO} (s : St8 K B en σ G H) (e : en[i]? = some (some (.o false p c))) (ho : H p = some o) (hr : ∀ G', Le G G' → Rd G' p o → Rp K G' (.ref p) d) (hs : c.sub = [] := by rfl) : ∃ G2, Le G G2 ∧ St8 K B (en.set i (some (.v d))) σ G2 H := by
  obtain ⟨v0, e0, rfl, r⟩ := s.es.at_ i _ e
  have g0 := r.fpG fp_top
  have hb : B.H0 p = none := by simpa using (s.es.own i false p _ e).1
  have l : Le G (upd G p o) := Le.upd g0
  refine ⟨upd G p o, l, ⟨⟨s.es.fr.know g0 hb ho, fun j dv ej => ?_, fun j k b b' q1 q2 c1 c2 ej ek z => ?_, fun j b q c1 ej => ?_⟩, by simp [s.len]⟩⟩
  · rcases get_set ej with ⟨rfl, e1⟩ | ⟨n, fj⟩
    · cases e1; exact ⟨_, e0, hr _ l (.inl upd_same)⟩
    · obtain ⟨u, x, y⟩ := s.es.at_ j dv fj
      refine ⟨u, x, ?_⟩
      cases dv with
      | v d => exact Rp.up l y
      | o b2 q c2 => exact ⟨y.1, y.2.know g0 fun z => n (s.es.ones j i _ _ _ _ _ _ fj e ⟨p, z, fp_top⟩)⟩
  · rcases get_set ej with ⟨rfl, e1⟩ | ⟨n, fj⟩
    · cases e1
    · rcases get_set ek with ⟨rfl, e1⟩ | ⟨n', fk⟩
      · cases e1
      · exact s.es.ones j k _ _ _ _ _ _ fj fk z
  · rcases get_set ej with ⟨rfl, e1⟩ | ⟨n, fj⟩
    · cases e1
    · exact s.es.own j _ q _ fj
/-- an owned list is data from now on -/
theorem St8.frz {i : Nat} {p : Addr} {ds : List D} (s : St8 K B en σ G H) (e : en[i]? = some (some (.o false p (.l ds)))) : ∃ G2, Le G G2 ∧ St8 K B (en.set i (some (.v (.lst ds)))) σ G2 H := by
  obtain ⟨v0, e0, rfl, g0, vs, hp, r⟩ := s.es.atL e
  exact s.frzO e hp fun G' l rd => .lst rd (r.up l)
theorem zip_split {α β : Type} : ∀ l : List (α × β), l = (l.map (·.1)).zip (l.map (·.2))
  | [] => rfl
  | x :: xs => by simp only [List.map_cons, List.zip_cons_cons]; rw [← zip_split xs]
/-- an owned dict is data from now on -/
theorem St8.frzK {i : Nat} {p : Addr} {m : List (Key × D)} (s : St8 K B en σ G H) (e : en[i]? = some (some (.o false p (.k m)))) : ∃ G2, Le G G2 ∧ St8 K B (en.set i (some (.v (.dK (m.map (·.1)) (m.map (·.2)))))) σ G2 H := by
  obtain ⟨v0, e0, rfl, g0, kvs, hp, r, nd⟩ := s.es.atK e
  refine s.frzO e hp fun G' l rd => .dK rd (vs := kvs.map (·.2)) ?_ ?_ nd (r.2.up l)
  · rw [← r.1]; exact zip_split kvs
  · have := congrArg List.length r.1; simp at this ⊢; omega
def NoOwn (en : En) (p : Addr) : Prop := ∀ (j : Nat) (b : Bool) (q : Addr) (c : OO), en[j]? = some (some (.o b q c)) → p ∉ c.fp q
theorem Sl.noOwn {p : Addr} (s : Sl K en σ G H) (h : H p = none) : NoOwn en p := fun j b q c e m => by
  obtain ⟨v, _, _, r⟩ := s.at_ j _ e
  exact (r.fpT m).ne h
theorem St8.noOwn {p : Addr} (s : St8 K B en σ G H) (h : H p = none) : NoOwn en p := s.sl.noOwn h
theorem St8.h0 {p : Addr} (S : St8 K B en σ G H) (hp : H p = none) : B.H0 p = none := by
  cases z : B.H0 p with
  | none => rfl
  | some o => exact absurd hp (S.es.fr.there p (by rw [z]; intro y; cases y))
theorem St8.setO {i : Nat} {p : Addr} {ds : List D} (s : St8 K B en σ G H) (hn : NoOwn en p) (hB : B.H0 p = none) (gp : G p = none) (r : ∃ vs, H p = some (.lst vs) ∧ RpAll K G vs ds) : St8 K B (en.set i (some (.o false p (.l ds)))) (σ.set i (some (.ref p))) G H :=
  s.setOS (fun j b q c e a ha => by rw [fp_l ha]; exact hn j b q c e) (fun a ha => by rw [fp_l ha]; exact hB) (own_l.mpr ⟨gp, r⟩)
theorem St8.setK {i : Nat} {p : Addr} {m : List (Key × D)} (s : St8 K B en σ G H) (hn : NoOwn en p) (hB : B.H0 p = none) (gp : G p = none) (r : ∃ kvs, H p = some (.dK kvs) ∧ KvRp K G kvs m ∧ (m.map (·.1)).Nodup) : St8 K B (en.set i (some (.o false p (.k m)))) (σ.set i (some (.ref p))) G H :=
  s.setOS (fun j b q c e a ha => by rw [fp_k ha]; exact hn j b q c e) (fun a ha => by rw [fp_k ha]; exact hB) (own_k.mpr ⟨gp, r⟩)
theorem St8.mutL {i : Nat} {p : Addr} {b : Bool} {c : OO} {ds' : List D} {us : List V} (s : St8 K B en σ G H) (e : en[i]? = some (some (.o b p c))) (r : RpAll K G us ds') : St8 K B (en.set i (some (.o b p (.l ds')))) σ G (upd H p (.lst us)) := by
  obtain ⟨v0, e0, ev0, r0⟩ := s.es.at_ i _ e
  exact s.mut (c' := .l ds') (o := .lst us) e trivial (own_l.mpr ⟨r0.fpG fp_top, us, upd_same, r⟩)
theorem St8.mutK {i : Nat} {p : Addr} {b : Bool} {c : OO} {m : List (Key × D)} {kvs : List (Key × V)} (s : St8 K B en σ G H) (e : en[i]? = some (some (.o b p c))) (r : KvRp K G kvs m) (nd : (m.map (·.1)).Nodup) : St8 K B (en.set i (some (.o b p (.k m)))) σ G (upd H p (.dK kvs)) := by
  obtain ⟨v0, e0, ev0, r0⟩ := s.es.at_ i _ e
  exact s.mut (c' := .k m) (o := .dK kvs) e trivial (own_k.mpr ⟨r0.fpG fp_top, kvs, upd_same, r, nd⟩)
end
end Wk
set_option maxHeartbeats 4000000
/-! Wk4: blocks, loops. -/
namespace Wk
open PySem PySem.Spec PyProof.Rows L2

def wx (ec : Nat → Addr) (W : WN) : WX := fun cls d σ H => ∃ c, cls = .ref (ec c) ∧ d = none ∧ W c σ H
/-- what every rule asks of where one stands -/
structure Go (X : Cx) (ec : Nat → Addr) (W : WN) : Prop where
  calm : X.calm = true
  po : PassesOwn (model X.prog X.w) X.A X.env X.xe
  nd : X.N.Nodup
  tk : Takes X (wx ec W)
inductive Out (α β : Type) where
  | nx (a : α) | rt (b : β)
section
variable (X : Cx) (W : WN) (eE : En)
def Post {ω : Type} (B : Bs) (m : R ω) (T : ω → Prop) : Prop := wp m T (fun c => ∀ σ G H, Es X.K B eE σ G H → W c σ H)
def XB (st : List Stmt) (en : En) {ω : Type} (m : R ω) (T : Bs → ω → Ends → Prop) : Prop := ∀ B σ G H, St8 X.K B en σ G H → ∀ D : Ends, Post X W eE B m (fun o => T B o D) → wB X st D σ H
def XS (st : Stmt) (en : En) {ω : Type} (m : R ω) (T : Bs → ω → Ends → Prop) : Prop := ∀ B σ G H, St8 X.K B en σ G H → ∀ D : Ends, Post X W eE B m (fun o => T B o D) → wS X st D σ H
end
section
variable (K : PySem.W.Frag)
def TN {α : Type} (L : α → En → Prop) : Bs → α → Ends → Prop := fun B a D => ∀ e σ G H, L a e → St8 K B e σ G H → D.nx σ H
def TR {β : Type} (Rr : Hp → β → V → Hp → Hp → Prop) : Bs → β → Ends → Prop := fun B d D => ∀ v G H, Fr8 B G H → Rr B.H0 d v G H → D.rt v H
def TO {α β : Type} (L : α → En → Prop) (Rr : Hp → β → V → Hp → Hp → Prop) : Bs → Out α β → Ends → Prop := fun B o D => match o with
  | .nx a => TN K L B a D
  | .rt d => TR Rr B d D
/-- what is handed back: data; a new list; data, and the asker's list changed -/
def rP : Hp → D → V → Hp → Hp → Prop := fun _ d v G _ => Rp K G v d
def rN : Hp → List D → V → Hp → Hp → Prop := fun H0 ds v G H => ∃ p vs, v = .ref p ∧ H0 p = none ∧ G p = none ∧ H p = some (.lst vs) ∧ RpAll K G vs ds
def rIO (p : Addr) : Hp → D × OO → V → Hp → Hp → Prop := fun _ r v G H => Rp K G v r.1 ∧ G p = none ∧ OwnRp K G H p r.2
end
section
variable {X : Cx} {W : WN} {eE : En} {ec : Nat → Addr} {en : En} {pos : Pos} {e : Expr} {rest : List Stmt} {ω α β : Type} {T : Bs → ω → Ends → Prop}
/-- an expression's run within a def -/
theorem xp_run {m : R D} (h : XP X W e en m) {B : Bs} {σ : L2.St} {G H : Hp} (S : St8 X.K B en σ G H) (we : Wk0 eE en) {Q : VK} (k : Post X W eE B m (fun d => ∀ v G2 H2, Le G G2 → St8 X.K B en σ G2 H2 → Rp X.K G2 v d → Q v H2)) : wE X e σ H Q :=
  h σ G H S.sl Q (wp_mono k (fun d hd v G2 H2 w r => hd v G2 H2 w.g (S.grow w) r) fun c hc G2 H2 w => hc σ G2 H2 ((S.grow w).es.weak we))
theorem xn_run {m : R (List D)} (h : XN X W e en m) {B : Bs} {σ : L2.St} {G H : Hp} (S : St8 X.K B en σ G H) (we : Wk0 eE en) {Q : VK} (k : Post X W eE B m (fun ds => ∀ p vs G2 H2, Le G G2 → St8 X.K B en σ G2 H2 → H p = none → G2 p = none → H2 p = some (.lst vs) → RpAll X.K G2 vs ds → Q (.ref p) H2)) : wE X e σ H Q :=
  h σ G H S.sl Q (wp_mono k (fun d hd p vs G2 H2 w hp gp e r => hd p vs G2 H2 w.g (S.grow w) hp gp e r) fun c hc G2 H2 w => hc σ G2 H2 ((S.grow w).es.weak we))
theorem xt_run {m : R Bool} (h : XT X W e en m) {B : Bs} {σ : L2.St} {G H : Hp} (S : St8 X.K B en σ G H) (we : Wk0 eE en) {Q : Bool → Hp → Prop} (k : Post X W eE B m (fun b => ∀ G2 H2, Le G G2 → St8 X.K B en σ G2 H2 → Q b H2)) : wT X e σ H Q :=
  h σ G H S.sl Q (wp_mono k (fun d hd G2 H2 w => hd G2 H2 w.g (S.grow w)) fun c hc G2 H2 w => hc σ G2 H2 ((S.grow w).es.weak we))
/-- the block's end -/
theorem xb_end {L : α → En → Prop} {a : α} {e' : En} (hL : L a e') (w : Wkn e' en) : XB X W eE [] en (.ok a) (TN X.K L) := fun B σ G H S D k => pss_to pss_nil (k e' σ G H hL (S.weak w))
theorem xb_endO {L : α → En → Prop} {Rr : Hp → β → V → Hp → Hp → Prop} {a : α} {e' : En} (hL : L a e') (w : Wkn e' en) : XB X W eE [] en (.ok (.nx a)) (TO X.K L Rr) := fun B σ G H S D k => pss_to pss_nil (k e' σ G H hL (S.weak w))
/-- a statement, then the rest -/
theorem xb_seq {st : Stmt} {L : α → En → Prop} {m : R α} {k : α → R ω} (h : XS X W eE st en m (TN X.K L)) (hk : ∀ a e, L a e → XB X W eE rest e (k a) T) : XB X W eE (st :: rest) en (m.bnd k) T := fun B σ G H S D q => by
  refine pss_to (pss_cons ps_w pss_w) (h B σ G H S _ (wp_mono (wp_bnd.mp q) (fun a ha e σ2 G2 H2 hL S2 => ?_) fun _ z => z))
  exact hk a e hL B σ2 G2 H2 S2 D ha
/-- the last statement -/
theorem xb_one {st : Stmt} {m : R ω} (h : XS X W eE st en m T) : XB X W eE [st] en m T := fun B σ G H S D q => pss_to (pss_one ps_w) (h B σ G H S D q)
def R.tho {α β γ : Type} (m : R (Out α β)) (k : α → R (Out γ β)) : R (Out γ β) := m.bnd fun o => match o with
  | .nx a => k a
  | .rt b => .ok (.rt b)
def R.thr {α β : Type} (m : R (Out α β)) (k : α → R β) : R β := m.bnd fun o => match o with
  | .nx a => k a
  | .rt b => .ok b
theorem xb_seqO {γ : Type} {st : Stmt} {L : α → En → Prop} {L' : γ → En → Prop} {Rr : Hp → β → V → Hp → Hp → Prop} {m : R (Out α β)} {k : α → R (Out γ β)} (h : XS X W eE st en m (TO X.K L Rr)) (hk : ∀ a e, L a e → XB X W eE rest e (k a) (TO X.K L' Rr)) :
    XB X W eE (st :: rest) en (m.tho k) (TO X.K L' Rr) := fun B σ G H S D q => by
  refine pss_to (pss_cons ps_w pss_w) (h B σ G H S _ (wp_mono (wp_bnd.mp q) (fun o ho => ?_) fun _ z => z))
  cases o with
  | nx a => exact fun e σ2 G2 H2 hL S2 => hk a e hL B σ2 G2 H2 S2 D ho
  | rt b => exact ho
theorem xb_seqR {st : Stmt} {L : α → En → Prop} {Rr : Hp → β → V → Hp → Hp → Prop} {m : R (Out α β)} {k : α → R β} (h : XS X W eE st en m (TO X.K L Rr)) (hk : ∀ a e, L a e → XB X W eE rest e (k a) (TR Rr)) :
    XB X W eE (st :: rest) en (m.thr k) (TR Rr) := fun B σ G H S D q => by
  refine pss_to (pss_cons ps_w pss_w) (h B σ G H S _ (wp_mono (wp_bnd.mp q) (fun o ho => ?_) fun _ z => z))
  cases o with
  | nx a => exact fun e σ2 G2 H2 hL S2 => hk a e hL B σ2 G2 H2 S2 D ho
  | rt b => exact ho
/-- x = e, then the rest -/
theorem xb_let {i : Nat} {x : Str} {p : Pos} {m : R D} {k : D → R ω} (g : Go X ec W) (φ : D → En) (h : XP X W e en m) (hk : ∀ d, XB X W eE rest (φ d) (k d) T) (hi : X.N[i]? = some x := by rfl) (hφ : ∀ d, en.set i (some (.v d)) = φ d := by intro _; rfl)
    (hx : Loc X.env.scope x := by first | exact Or.inl rfl | exact Or.inr rfl) (we : Wk0 eE en := by first | exact wk0_nil | exact wk0_refl | assumption | exact Wkn.wk0 (by repeat' first | exact Wkn.nil | apply Wkn.k | apply Wkn.d)) (hs : swapsWith e (some (.Name x p)) pos.line X.env = pure false := by first | exact swaps_no rfl | exact swapsS_no rfl | rfl)
    (hf : X.fn x = true ∨ X.env.scope.names.lookup x = some .local := by first | exact .inl rfl | exact .inr rfl) : XB X W eE (.Assign [.Name x p] e pos :: rest) en (m.bnd k) T := fun B σ G H S D q => by
  refine pss_to (pss_cons (ps_set g.nd hi hx pe_w hs hf) pss_w) (xp_run h S we (wp_mono (wp_bnd.mp q) (fun d hd v G2 H2 l S2 r => ?_) fun _ z => z))
  exact hk d B _ G2 H2 (by have := S2.set (i := i) r; rw [hφ] at this; exact this) D hd
theorem xb_letN {i : Nat} {x : Str} {p : Pos} {m : R (List D)} {k : List D → R ω} (g : Go X ec W) (φ : Addr → List D → En) (h : XN X W e en m) (hk : ∀ a ds, XB X W eE rest (φ a ds) (k ds) T) (hi : X.N[i]? = some x := by rfl) (hφ : ∀ a ds, en.set i (some (.o false a (.l ds))) = φ a ds := by intro _ _; rfl)
    (hx : Loc X.env.scope x := by first | exact Or.inl rfl | exact Or.inr rfl) (we : Wk0 eE en := by first | exact wk0_nil | exact wk0_refl | assumption | exact Wkn.wk0 (by repeat' first | exact Wkn.nil | apply Wkn.k | apply Wkn.d)) (hs : swapsWith e (some (.Name x p)) pos.line X.env = pure false := by first | exact swaps_no rfl | exact swapsS_no rfl | rfl)
    (hf : X.fn x = true ∨ X.env.scope.names.lookup x = some .local := by first | exact .inl rfl | exact .inr rfl) : XB X W eE (.Assign [.Name x p] e pos :: rest) en (m.bnd k) T := fun B σ G H S D q => by
  refine pss_to (pss_cons (ps_set g.nd hi hx pe_w hs hf) pss_w) (xn_run h S we (wp_mono (wp_bnd.mp q) (fun d hd a vs G2 H2 l S2 hp gp ep r => ?_) fun _ z => z))
  have hB : B.H0 a = none := by
    cases z : B.H0 a with
    | none => rfl
    | some o => exact absurd hp (S.es.fr.there a (by rw [z]; intro y; cases y))
  refine hk a d B _ G2 H2 ?_ D hd
  have := S2.setO (i := i) (p := a) (ds := d) (S.noOwn hp) hB gp ⟨vs, ep, r⟩
  rw [hφ] at this; exact this
/-- an owned list is data from now on -/
theorem xb_frz {i : Nat} {p : Addr} {ds : List D} {m : R ω} (φ : En) (h : XB X W eE rest φ m T) (he : en[i]? = some (some (.o false p (.l ds))) := by rfl) (hφ : en.set i (some (.v (.lst ds))) = φ := by rfl) : XB X W eE rest en m T := fun B σ G H S D q => by
  obtain ⟨G2, l, S2⟩ := S.frz he
  rw [hφ] at S2
  exact h B σ G2 H S2 D q
theorem xb_ret {m : R D} (h : XP X W e en m) (we : Wk0 eE en := by first | exact wk0_nil | exact wk0_refl | assumption | exact Wkn.wk0 (by repeat' first | exact Wkn.nil | apply Wkn.k | apply Wkn.d)) : XB X W eE [.Return (some e) pos] en m (TR (rP X.K)) := fun B σ G H S D q =>
  pss_to (pss_one (ps_ret pe_w)) (xp_run h S we (wp_mono q (fun d hd v G2 H2 l S2 r => hd v G2 H2 S2.es.fr r) fun _ z => z))
theorem xb_retN {m : R (List D)} (h : XN X W e en m) (we : Wk0 eE en := by first | exact wk0_nil | exact wk0_refl | assumption | exact Wkn.wk0 (by repeat' first | exact Wkn.nil | apply Wkn.k | apply Wkn.d)) : XB X W eE [.Return (some e) pos] en m (TR (rN X.K)) := fun B σ G H S D q =>
  pss_to (pss_one (ps_ret pe_w)) (xn_run h S we (wp_mono q (fun d hd p vs G2 H2 l S2 hp gp ep r => hd _ G2 H2 S2.es.fr ⟨p, vs, rfl, (by
    cases z : B.H0 p with
    | none => rfl
    | some o => exact absurd hp (S.es.fr.there p (by rw [z]; intro y; cases y))), gp, ep, r⟩) fun _ z => z))
/-- an owned list is handed back -/
theorem xb_retO {i : Nat} {x : Str} {p : Addr} {px : Pos} {ds : List D} (he : en[i]? = some (some (.o false p (.l ds)))) (hN : X.N[i]? = some x := by rfl) (hv : Vis X.env.scope x := by first | exact Or.inl rfl | exact Or.inr (Or.inl rfl) | exact Or.inr (Or.inr rfl))
    (hd : (x == ("__debug__" : Str)) = false := by decide) (hcd : (x == ("__classdict__" : Str)) = false := by decide) : XB X W eE [.Return (some (.Name x px)) pos] en (.ok ds) (TR (rN X.K)) := fun B σ G H S D q => by
  obtain ⟨v, e1, rfl, gp, vs, hp, r⟩ := S.es.atL he
  have hb : B.H0 p = none := by simpa using (S.es.own i false p _ he).1
  exact pss_to (pss_one (ps_ret (pe_var hN hv hd hcd))) ⟨_, e1, q _ G H S.es.fr ⟨p, vs, rfl, hb, gp, hp, r⟩⟩
/-- an owned list is handed back as data -/
theorem xb_retOP {i : Nat} {x : Str} {p : Addr} {px : Pos} {ds : List D} (he : en[i]? = some (some (.o false p (.l ds)))) (hN : X.N[i]? = some x := by rfl) (hv : Vis X.env.scope x := by first | exact Or.inl rfl | exact Or.inr (Or.inl rfl) | exact Or.inr (Or.inr rfl))
    (hd : (x == ("__debug__" : Str)) = false := by decide) (hcd : (x == ("__classdict__" : Str)) = false := by decide) : XB X W eE [.Return (some (.Name x px)) pos] en (.ok (.lst ds)) (TR (rP X.K)) := fun B σ G H S D q => by
  obtain ⟨G2, l, S2⟩ := S.frz he
  have hi : i < en.length := (List.getElem?_eq_some_iff.mp he).1
  obtain ⟨v, e1, r⟩ := S2.es.at_ i (.v (.lst ds)) (by rw [List.getElem?_set_self hi])
  exact pss_to (pss_one (ps_ret (pe_var hN hv hd hcd))) ⟨_, e1, q _ G2 H S2.es.fr r⟩
/-! if -/
variable {c : Expr} {A C : List Stmt} {mc : R Bool}
theorem xs_if {ma mb : R ω} (hc : XT X W c en mc) (ha : XB X W eE A en ma T) (hb : XB X W eE C en mb T) (we : Wk0 eE en := by first | exact wk0_nil | exact wk0_refl | assumption | exact Wkn.wk0 (by repeat' first | exact Wkn.nil | apply Wkn.k | apply Wkn.d)) :
    XS X W eE (.If c A C pos) en (mc.bnd fun b => if b = true then ma else mb) T := fun B σ G H S D q => by
  refine ps_to (ps_if pt_w pss_w pss_w) (xt_run hc S we (wp_mono (wp_bnd.mp q) (fun b hb' G2 H2 l S2 => ?_) fun _ z => z))
  cases b with
  | true => exact ha B σ G2 H2 S2 D hb'
  | false => exact hb B σ G2 H2 S2 D hb'
/-- if c: A (which goes out); rest -/
theorem xb_ifR {Rr : Hp → β → V → Hp → Hp → Prop} {ma mr : R β} (hc : XT X W c en mc) (ha : XB X W eE A en ma (TR Rr)) (hr : XB X W eE rest en mr (TR Rr)) (we : Wk0 eE en := by first | exact wk0_nil | exact wk0_refl | assumption | exact Wkn.wk0 (by repeat' first | exact Wkn.nil | apply Wkn.k | apply Wkn.d)) :
    XB X W eE (.If c A [] pos :: rest) en (mc.bnd fun b => if b = true then ma else mr) (TR Rr) := fun B σ G H S D q => by
  refine pss_to (pss_cons (ps_if pt_w pss_w pss_nil) pss_w) (xt_run hc S we (wp_mono (wp_bnd.mp q) (fun b hb' G2 H2 l S2 => ?_) fun _ z => z))
  cases b with
  | true => exact ha B σ G2 H2 S2 _ (wp_mono hb' (fun _ z => z) fun _ z => z)
  | false => exact hr B σ G2 H2 S2 D hb'
theorem xb_ifO {L : α → En → Prop} {Rr : Hp → β → V → Hp → Hp → Prop} {ma : R β} {mr : R (Out α β)} (hc : XT X W c en mc) (ha : XB X W eE A en ma (TR Rr)) (hr : XB X W eE rest en mr (TO X.K L Rr)) (we : Wk0 eE en := by first | exact wk0_nil | exact wk0_refl | assumption | exact Wkn.wk0 (by repeat' first | exact Wkn.nil | apply Wkn.k | apply Wkn.d)) :
    XB X W eE (.If c A [] pos :: rest) en (mc.bnd fun b => if b = true then ma.bnd fun d => .ok (.rt d) else mr) (TO X.K L Rr) := fun B σ G H S D q => by
  refine pss_to (pss_cons (ps_if pt_w pss_w pss_nil) pss_w) (xt_run hc S we (wp_mono (wp_bnd.mp q) (fun b hb' G2 H2 l S2 => ?_) fun _ z => z))
  cases b with
  | true => exact ha B σ G2 H2 S2 _ (wp_mono (wp_bnd.mp hb') (fun _ z => z) fun _ z => z)
  | false => exact hr B σ G2 H2 S2 D hb'
/-- if c: raise ..; rest -/
theorem xb_ifE {n : Nat} {mr : R ω} (hc : XT X W c en mc) (ha : XB X W eE A en (.err n : R Empty) (fun _ _ _ => False)) (hr : XB X W eE rest en mr T) (we : Wk0 eE en := by first | exact wk0_nil | exact wk0_refl | assumption | exact Wkn.wk0 (by repeat' first | exact Wkn.nil | apply Wkn.k | apply Wkn.d)) :
    XB X W eE (.If c A [] pos :: rest) en (mc.bnd fun b => if b = true then .err n else mr) T := fun B σ G H S D q => by
  refine pss_to (pss_cons (ps_if pt_w pss_w pss_nil) pss_w) (xt_run hc S we (wp_mono (wp_bnd.mp q) (fun b hb' G2 H2 l S2 => ?_) fun _ z => z))
  cases b with
  | true => exact ha B σ G2 H2 S2 _ hb'
  | false => exact hr B σ G2 H2 S2 D hb'
theorem xb_raise {n : Nat} {x m : Str} {j : Nat} {p p2 p3 : Pos} {bmB : List Value} {Bn newId initId : String} (g : Go X ec W) (F : ExcBaseFacts Bn newId initId bmB) (q : PySem.W.excIn X.K (ec n) bmB newId = true) (gC : X.mg x = some (.ref (ec n))) (kC : PySem.W.keepIn X.K (.ref (ec n)) = true) (r : Raises X (.ref (ec n))) (hg : Gl X x := by rfl)
    (hdb : (x == ("__debug__" : Str)) = false := by decide) (we : Wk0 eE en := by first | exact wk0_nil | exact wk0_refl | assumption | exact Wkn.wk0 (by repeat' first | exact Wkn.nil | apply Wkn.k | apply Wkn.d)) : XB X W eE [.Raise (some (.Call (.Name x p) [.Constant (.str m) j p2] [] p3)) none pos] en (.err n : R ω) T := fun B σ G H S D h =>
  pss_to (pss_one (ps_raise g.calm g.tk (pmk_own F q gC kC r hg hdb))) ⟨n, rfl, rfl, h σ G H (S.es.weak we)⟩
/-! for -/
/-- J walks over ds -/
structure Wlk (K : PySem.W.Frag) (J : It) (G : Hp) (ds : List D) : Prop where
  stop : ∀ G' H', Le G G' → Lk G' H' → J.stop ds.length H'
  go : ∀ (i : Nat) (d : D), ds[i]? = some d → ∀ G' H', Le G G' → Lk G' H' → J.go i H' ∧ ∀ x H'', J.yld i H' x H'' → ∃ G'', Grow G' H' G'' H'' ∧ Rp K G'' x d
theorem Wlk.up {K : PySem.W.Frag} {J : It} {G G1 : Hp} {ds : List D} (w : Wlk K J G ds) (l : Le G G1) : Wlk K J G1 ds := ⟨fun G' H' a b => w.stop G' H' (l.trans a) b, fun i d e G' H' a b => w.go i d e G' H' (l.trans a) b⟩
def XI (X : Cx) (W : WN) (tg e : Expr) (en : En) (m : R (List D)) : Prop := ∀ σ G H, Sl X.K en σ G H → ∀ Q : It → Hp → Prop,
  wp m (fun ds => ∀ J G2 H2, Grow G H G2 H2 → Wlk X.K J G2 ds → Q J H2) (fun c => ∀ G2 H2, Grow G H G2 H2 → W c σ H2) → wI X tg e σ H Q
theorem xi_run {tg : Expr} {m : R (List D)} (h : XI X W tg e en m) {B : Bs} {σ : L2.St} {G H : Hp} (S : St8 X.K B en σ G H) (we : Wk0 eE en) {Q : It → Hp → Prop} (k : Post X W eE B m (fun ds => ∀ J G2 H2, St8 X.K B en σ G2 H2 → Wlk X.K J G2 ds → Q J H2)) : wI X tg e σ H Q :=
  h σ G H S.sl Q (wp_mono k (fun d hd J G2 H2 w r => hd J G2 H2 (S.grow w) r) fun c hc G2 H2 w => hc σ G2 H2 ((S.grow w).es.weak we))
def foldR (step : α → D → R α) : α → List D → R α
  | a, [] => .ok a
  | a, d :: ds => (step a d).bnd fun a' => foldR step a' ds
def loopR (step : α → D → R (Out α β)) : α → List D → R (Out α β)
  | a, [] => .ok (.nx a)
  | a, d :: ds => (step a d).tho fun a' => loopR step a' ds
/-- a target: what it makes of the slots -/
def TgD (K : PySem.W.Frag) (g : TG) (f : En → D → Option En) : Prop := ∀ B en σ G H, St8 K B en σ G H → ∀ d v en', Rp K G v d → f en d = some en' → ∀ Q : L2.St → Hp → Prop, (∀ σ', St8 K B en' σ' G H → Q σ' H) → g v σ H Q
theorem tg_name {i : Nat} : TgD X.K (gName i) (fun en d => some (en.set i (some (.v d)))) := fun B en σ G H S d v en' r e Q k => by
  cases e
  exact k _ (S.set r)
def D.two : D → Option (D × D)
  | .tup [x, y] => some (x, y)
  | _ => none
def D.three : D → Option (D × D × D)
  | .tup [x, y, z] => some (x, y, z)
  | _ => none
theorem tg_two {i j : Nat} : TgD X.K (gTup X.K 2 (gCons (gName i) (gCons (gName j) gNil))) (fun en d => d.two.map fun p => (en.set i (some (.v p.1))).set j (some (.v p.2))) := fun B en σ G H S d v en' r e Q k => by
  obtain ⟨⟨x, y⟩, e1, e2⟩ := Option.map_eq_some_iff.mp e
  unfold D.two at e1
  split at e1
  · cases e1
    cases r with
    | tup hs ha =>
      cases ha with
      | cons r1 h2 =>
        cases h2 with
        | cons r2 h3 =>
          cases h3
          rw [← e2] at k
          exact ⟨_, _, rfl, S.es.fr.up.le.seqT hs, rfl, _, _, rfl, _, _, rfl, rfl, k _ ((S.set r1).set r2)⟩
  · cases e1
theorem tg_three {i j l : Nat} : TgD X.K (gTup X.K 3 (gCons (gName i) (gCons (gName j) (gCons (gName l) gNil)))) (fun en d => d.three.map fun p => ((en.set i (some (.v p.1))).set j (some (.v p.2.1))).set l (some (.v p.2.2))) := fun B en σ G H S d v en' r e Q k => by
  obtain ⟨⟨x, y, z⟩, e1, e2⟩ := Option.map_eq_some_iff.mp e
  unfold D.three at e1
  split at e1
  · cases e1
    cases r with
    | tup hs ha =>
      cases ha with
      | cons r1 h2 =>
        cases h2 with
        | cons r2 h3 =>
          cases h3 with
          | cons r3 h4 =>
            cases h4
            rw [← e2] at k
            exact ⟨_, _, rfl, S.es.fr.up.le.seqT hs, rfl, _, _, rfl, _, _, rfl, _, _, rfl, rfl, k _ (((S.set r1).set r2).set r3)⟩
  · cases e1
/-- the same from a later knowledge on -/
abbrev Bs.at_ (B : Bs) (G : Hp) : Bs := ⟨G, B.H0, B.io⟩
theorem Fr8.to {B : Bs} {G H G2 H2 : Hp} (f : Fr8 B G H) (w : Grow G H G2 H2) : Fr8 (B.at_ G) G2 H2 :=
  ⟨w.up, w.g, fun a o n e => w.h a o (f.keep a o n e), fun a n => ne_of_ne w.h (f.there a n), fun a n => mt_of w.h (f.thM a n), fun a n m => w.cl a n (f.thM a m)⟩
theorem Fr8.of {B : Bs} {G H G2 H2 : Hp} (f : Fr8 B G H) (g : Fr8 (B.at_ G) G2 H2) : Fr8 B G2 H2 :=
  ⟨g.up, f.le0.trans g.le0, g.keep, g.there, g.thM, fun a n m => g.cl a (f.cl a n m) m⟩
theorem St8.to {B : Bs} {e : En} {σ : L2.St} {G H G2 H2 : Hp} {K : PySem.W.Frag} (f : Fr8 B G H) (w : Grow G H G2 H2) (s : St8 K B e σ G2 H2) : St8 K (B.at_ G) e σ G2 H2 := ⟨⟨f.to w, s.es.at_, s.es.ones, s.es.own⟩, s.len⟩
theorem Es.of {B : Bs} {e : En} {σ : L2.St} {G H G2 H2 : Hp} {K : PySem.W.Frag} (f : Fr8 B G H) (s : Es K (B.at_ G) e σ G2 H2) : Es K B e σ G2 H2 := ⟨f.of s.fr, s.at_, s.ones, s.own⟩
theorem St8.of {B : Bs} {e : En} {σ : L2.St} {G H G2 H2 : Hp} {K : PySem.W.Frag} (f : Fr8 B G H) (s : St8 K (B.at_ G) e σ G2 H2) : St8 K B e σ G2 H2 := ⟨s.es.of f, s.len⟩
/-- the loop -/
theorem for_core {tg it : Expr} {body : List Stmt} {g : TG} {f : En → D → Option En} {L : α → En → Prop} {Rr : Hp → β → V → Hp → Hp → Prop} {step : α → D → R (Out α β)} {mi : R (List D)} {a0 : α} {e0 : En} (Gx : Go X ec W) (hg : PG X tg g) (ht : TgD X.K g f) (hi : XI X W tg it en mi)
    (h0 : L a0 e0) (w0 : Wkn e0 en) (hb : ∀ a e d (P : Out α β → Prop) (E : Nat → Prop), L a e → wp (step a d) P E → ∃ e', f e d = some e' ∧ XB X W eE body e' (step a d) (TO X.K L Rr)) (we : Wk0 eE en)
    (hs : ∀ x, foldedSetIterable it X.env x = pure x) : XS X W eE (.For tg it body [] pos) en (mi.bnd fun ds => loopR step a0 ds) (TO X.K L Rr) := fun B σ G H S D q => by
  refine ps_to (ps_for Gx.po Gx.calm pi_w hg pss_w hs) (xi_run hi S we (wp_mono (wp_bnd.mp q) (fun ds hd J G2 H2 S2 wk => ?_) fun _ z => z))
  refine ⟨fun i m σ' H' => m = ds.length - i ∧ ∃ a e G', L a e ∧ St8 X.K B e σ' G' H' ∧ Le G2 G' ∧ i ≤ ds.length ∧ Post X W eE B (loopR step a (ds.drop i)) (fun o => TO X.K L Rr B o D), ⟨_, rfl, a0, e0, G2, h0, S2.weak w0, Le.refl _, Nat.zero_le _, hd⟩, ?_⟩
  rintro i m σ' H' ⟨rfl, a, e, G', hL', S', l', hi', p⟩
  by_cases hlt : i < ds.length
  · rw [List.drop_eq_getElem_cons hlt] at p
    obtain ⟨go, yl⟩ := wk.go i ds[i] (List.getElem?_eq_getElem hlt) G' H' l' S'.es.fr.up
    refine .inr ⟨go, fun σ3 H3 => ∃ a e G3, L a e ∧ St8 X.K B e σ3 G3 H3 ∧ Le G2 G3 ∧ Post X W eE B (loopR step a (ds.drop (i + 1))) (fun o => TO X.K L Rr B o D), fun σ3 H3 ⟨a3, e3, G3, h1, h2, h3, h4⟩ => ⟨ds.length - (i + 1), by omega, rfl, a3, e3, G3, h1, h2, h3, hlt, h4⟩, fun x H4 y => ?_⟩
    obtain ⟨G4, w4, r4⟩ := yl x H4 y
    have p' := wp_bnd.mp p
    obtain ⟨e', ef, xb⟩ := hb a e ds[i] _ _ hL' p'
    refine ht B e σ' G4 H4 (S'.grow w4) ds[i] x e' r4 ef _ fun σ5 S5 => ?_
    refine xb (B.at_ G') σ5 G4 H4 (S5.to S'.es.fr w4) _ (wp_mono p' (fun o ho => ?_) fun _ z σ6 G6 H6 s6 => z σ6 G6 H6 (s6.of S'.es.fr))
    cases o with
    | nx a6 => exact fun e6 σ6 G6 H6 hL6 S6 => ⟨a6, e6, G6, hL6, S6.of S'.es.fr, l'.trans S6.es.fr.le0, ho⟩
    | rt b => exact fun v6 G6 H6 f6 r6 => ho v6 G6 H6 (S'.es.fr.of f6) r6
  · have ei : i = ds.length := by omega
    subst ei
    rw [List.drop_length] at p
    exact .inl ⟨wk.stop G' H' l' S'.es.fr.up, p e σ' G' H' hL' S'⟩
/-- for x in ..: a body that never hands back -/
def Out.of {α β : Type} (a : α) : Out α β := .nx a
theorem fold_loop {β : Type} {step : α → D → R α} : ∀ (ds : List D) (a : α), loopR (β := β) (fun a d => (step a d).bnd fun a' => .ok (.nx a')) a ds = (foldR step a ds).bnd fun a' => .ok (.nx a')
  | [], a => rfl
  | d :: ds, a => by
    show ((step a d).bnd _).tho _ = ((step a d).bnd _).bnd _
    cases step a d with
    | ok a' => exact fold_loop ds a'
    | err c => rfl
    | bad => rfl
theorem xs_forO {i : Nat} {x : Str} {p : Pos} {it : Expr} {body : List Stmt} {L : α → En → Prop} {Rr : Hp → β → V → Hp → Hp → Prop} {step : α → D → R (Out α β)} {mi : R (List D)} {a0 : α} {e0 : En} (g : Go X ec W) (hi : XI X W (.Name x p) it en mi) (h0 : L a0 e0) (w0 : Wkn e0 en)
    (hb : ∀ a e d, L a e → XB X W eE body (e.set i (some (.v d))) (step a d) (TO X.K L Rr)) (hN : X.N[i]? = some x := by rfl) (hx : Loc X.env.scope x := by first | exact Or.inl rfl | exact Or.inr rfl) (we : Wk0 eE en := by first | exact wk0_nil | exact wk0_refl | assumption | exact Wkn.wk0 (by repeat' first | exact Wkn.nil | apply Wkn.k | apply Wkn.d))
    (hs : ∀ x, foldedSetIterable it X.env x = pure x := by intro _; rfl) (hf : X.fn x = true ∨ X.env.scope.names.lookup x = some .local := by first | exact .inl rfl | exact .inr rfl) : XS X W eE (.For (.Name x p) it body [] pos) en (mi.bnd fun ds => loopR step a0 ds) (TO X.K L Rr) :=
  for_core g (pg_name g.nd hN hx hf) tg_name hi h0 w0 (fun a e d P E hL _ => ⟨_, rfl, hb a e d hL⟩) we hs
theorem xs_for {i : Nat} {x : Str} {p : Pos} {it : Expr} {body : List Stmt} {L : α → En → Prop} {step : α → D → R α} {mi : R (List D)} {a0 : α} {e0 : En} (g : Go X ec W) (hi : XI X W (.Name x p) it en mi) (h0 : L a0 e0) (w0 : Wkn e0 en)
    (hb : ∀ a e d, L a e → XB X W eE body (e.set i (some (.v d))) (step a d) (TN X.K L)) (hN : X.N[i]? = some x := by rfl) (hx : Loc X.env.scope x := by first | exact Or.inl rfl | exact Or.inr rfl) (we : Wk0 eE en := by first | exact wk0_nil | exact wk0_refl | assumption | exact Wkn.wk0 (by repeat' first | exact Wkn.nil | apply Wkn.k | apply Wkn.d))
    (hs : ∀ x, foldedSetIterable it X.env x = pure x := by intro _; rfl) (hf : X.fn x = true ∨ X.env.scope.names.lookup x = some .local := by first | exact .inl rfl | exact .inr rfl) : XS X W eE (.For (.Name x p) it body [] pos) en (mi.bnd fun ds => foldR step a0 ds) (TN X.K L) := fun B σ G H S D q => by
  refine xs_forO (β := Empty) (Rr := fun _ _ _ _ _ => False) (step := fun a d => (step a d).bnd fun a' => .ok (.nx a')) g hi h0 w0 (fun a e d hL B σ G H S D q => hb a e d hL B σ G H S D (wp_mono (wp_bnd.mp q) (fun _ z => z) fun _ z => z)) hN hx we hs hf B σ G H S D ?_
  refine wp_bnd.mpr (wp_mono (wp_bnd.mp q) (fun ds hd => ?_) fun _ z => z)
  rw [fold_loop]
  exact wp_bnd.mpr hd
theorem xs_for2O {i j : Nat} {x y : Str} {p p' p2 : Pos} {k : Nat} {it : Expr} {body : List Stmt} {L : α → En → Prop} {Rr : Hp → β → V → Hp → Hp → Prop} {step : α → D → D → R (Out α β)} {mi : R (List D)} {a0 : α} {e0 : En} (g : Go X ec W) (hi : XI X W (.Tuple [.Name x p, .Name y p'] k p2) it en mi) (h0 : L a0 e0) (w0 : Wkn e0 en)
    (hb : ∀ a e d d', L a e → XB X W eE body ((e.set i (some (.v d))).set j (some (.v d'))) (step a d d') (TO X.K L Rr)) (hN : X.N[i]? = some x := by rfl) (hN' : X.N[j]? = some y := by rfl) (hx : Loc X.env.scope x := by first | exact Or.inl rfl | exact Or.inr rfl) (hx' : Loc X.env.scope y := by first | exact Or.inl rfl | exact Or.inr rfl)
    (we : Wk0 eE en := by first | exact wk0_nil | exact wk0_refl | assumption | exact Wkn.wk0 (by repeat' first | exact Wkn.nil | apply Wkn.k | apply Wkn.d)) (hs : ∀ x, foldedSetIterable it X.env x = pure x := by intro _; rfl) (hf : X.fn x = true ∨ X.env.scope.names.lookup x = some .local := by first | exact .inl rfl | exact .inr rfl) (hf' : X.fn y = true ∨ X.env.scope.names.lookup y = some .local := by first | exact .inl rfl | exact .inr rfl)
    (hn : (assignEach [.Name x p, .Name y p'] X.env).length = 2 := by rfl) (hst : (assignEach [.Name x p, .Name y p'] X.env).findIdx? (·.1) = none := by rfl)
    (h1 : (assignEach [.Name x p, .Name y p'] X.env).map (·.2) = assign (.Name x p) X.env :: (assignEach [.Name y p'] X.env).map (·.2) := by rfl) (h2 : (assignEach [.Name y p'] X.env).map (·.2) = assign (.Name y p') X.env :: (assignEach [] X.env).map (·.2) := by rfl) :
    XS X W eE (.For (.Tuple [.Name x p, .Name y p'] k p2) it body [] pos) en (mi.bnd fun ds => loopR (fun a d => (R.of d.two).bnd fun q => step a q.1 q.2) a0 ds) (TO X.K L Rr) :=
  for_core g (pg_tup g.calm (pgs_cons (pg_name g.nd hN hx hf) (pgs_cons (pg_name g.nd hN' hx' hf') pgs_nil h2) h1) hn hst) tg_two hi h0 w0 (fun a e d P E hL hw => by
    obtain ⟨(q : D × D), e1, e2⟩ := wp_of (wp_bnd.mp hw)
    refine ⟨(e.set i (some (.v q.1))).set j (some (.v q.2)), by rw [e1]; rfl, ?_⟩
    rw [e1]
    exact hb a e q.1 q.2 hL) we hs
end
end Wk
set_option maxHeartbeats 4000000
/-! Wk5: operations on data. -/
namespace Wk
open PySem PySem.Spec PyProof.Rows L2

/-! ### data's own operations -/
def D.addI : D → D → Option D
  | .int i, .int j => some (.int (i + j))
  | .str x, .str y => if x.length + y.length ≤ 16000000 then some (.str (x ++ y)) else none
  | .tup xs, .tup ys => if xs.length + ys.length ≤ 16000000 then some (.tup (xs ++ ys)) else none
  | _, _ => none
def D.cat : D → D → Option (List D)
  | .lst xs, .lst ys => if xs.length + ys.length ≤ 16000000 then some (xs ++ ys) else none
  | _, _ => none
def D.sub : D → D → Option D
  | .int i, .int j => some (.int (i - j))
  | _, _ => none
def D.mul : D → D → Option D
  | .int i, .int j => if (-(2 ^ 64) < i ∧ i < 2 ^ 64) ∨ (-(2 ^ 64) < j ∧ j < 2 ^ 64) then some (.int (i * j)) else none
  | _, _ => none
def D.rep : D → D → Option (List D)
  | .lst xs, .int k => if -(2 ^ 63) ≤ k ∧ k < 2 ^ 63 ∧ xs.length * k.toNat ≤ 16000000 then some (List.replicate k.toNat xs).flatten else none
  | _, _ => none
def D.div : D → D → Option D
  | .int i, .int j => if 0 < j ∧ j.natAbs.log2 < 9000 then some (.int (i / j)) else none
  | _, _ => none
def D.mod : D → D → Option D
  | .int i, .int j => if 0 < j then some (.int (i % j)) else none
  | _, _ => none
def D.pow : D → D → Option D
  | .int i, .int j => if 0 ≤ j ∧ j ≤ 1000000 ∧ i.natAbs < 2 ^ 64 then some (.int (i ^ j.toNat)) else none
  | _, _ => none
def D.neg : D → Option D
  | .int i => some (.int (-i))
  | _ => none
def D.lt : D → D → Option Bool
  | .int i, .int j => some (decide (i < j))
  | _, _ => none
def D.le : D → D → Option Bool
  | .int i, .int j => some (decide (i ≤ j))
  | _, _ => none
def D.gt : D → D → Option Bool
  | .int i, .int j => some (decide (j < i))
  | _, _ => none
def D.ge : D → D → Option Bool
  | .int i, .int j => some (decide (j ≤ i))
  | _, _ => none
mutual
/-- data that == looks at deeply -/
def D.py : D → Option PyData
  | .non => some .none
  | .bl b => some (.bool b)
  | .int i => some (.int i)
  | .str x => some (.str x)
  | .lst xs => (D.pys xs).map .list
  | .tup xs => (D.pys xs).map .tuple
  | .tux xs => (D.pys xs).map .tuple
  | _ => none
def D.pys : List D → Option (List PyData)
  | [] => some []
  | x :: xs => (D.py x).bind fun y => (D.pys xs).map fun ys => y :: ys
end
def D.eq (x y : D) : Option Bool := match x, y with
  | .int i, .int j => some (decide (i = j))
  | .str i, .str j => some (decide (i = j))
  | .bl i, .bl j => some (decide (i = j))
  | x, y => (D.py x).bind fun a => (D.py y).bind fun b => if SeqAt.shaped a = true ∧ SeqAt.shaped b = true then some (PyData.eqv a b) else none
def D.ne (x y : D) : Option Bool := (D.eq x y).map fun b => !b
def D.isN : D → D → Option Bool
  | .non, .non => some true
  | _, .non => some false
  | _, _ => none
def D.notN (x y : D) : Option Bool := (D.isN x y).map fun b => !b
def D.ix : D → D → Option D
  | .lst xs, .int i => atI xs i
  | .tup xs, .int i => atI xs i
  | .tux xs, .int i => atI xs i
  | .frl xs, .int i => atI xs i
  | _, _ => none
def D.len : List D → Option D
  | [.lst xs] => some (.int xs.length)
  | [.tup xs] => some (.int xs.length)
  | [.tux xs] => some (.int xs.length)
  | [.frl xs] => some (.int xs.length)
  | [.str x] => if x.length ≤ 16000000 then some (.int x.length) else none
  | _ => none
def D.abs : List D → Option D
  | [.int i] => some (.int (if i < 0 then -i else i))
  | _ => none
def D.toInt : List D → Option D
  | [.int i] => some (.int i)
  | [.bl b] => some (.int (if b then 1 else 0))
  | _ => none
def D.toTup : List D → Option D
  | [.lst xs] => some (.tup xs)
  | [.tup xs] => some (.tup xs)
  | _ => none
def D.toLst : List D → Option (List D)
  | [.lst xs] => some xs
  | [.tup xs] => some xs
  | [.tux xs] => some xs
  | _ => none

section
variable {X : Cx} {K : PySem.W.Frag}
theorem Inv.lstR {pins : List (Addr × Obj)} {σ : L2.St} {H : Hp} {s : Shared} {a : Addr} {xs : List V} (I : Inv X pins σ H s) (h : Rd H a (.lst xs)) : xs.length ≤ sizeLine ∧ ∃ (its : List Value) (n : Nat), Vals xs its ∧ xs.length = its.length ∧ s.heap.get? a = some { cls := .type "list", data := .seq its.toArray n } := by
  obtain ⟨z, its, n, r, e⟩ := h.ok I.hok
  exact ⟨z, its, n, r, r.length, e⟩
def rCatR : R2 := fun x y H Q => ∃ l b xs zs, x = .ref l ∧ y = .ref b ∧ Rd H l (.lst xs) ∧ Rd H b (.lst zs) ∧ xs.length + zs.length ≤ sizeLine ∧ ∀ p, H p = none → Q (.ref p) (upd H p (.lst (xs ++ zs)))
theorem op_catR : OpR X (binaryOp .Add) rCatR := by
  intro pins s σ H x y v u Q I rx ry h
  obtain ⟨l, b, xs, zs, rfl, rfl, hH, hB, hz, q⟩ := h
  cases rx
  cases ry
  obtain ⟨z, its, n, r, hl, e⟩ := Inv.lstR I hH
  obtain ⟨z2, its2, n2, r2, hl2, e2⟩ := Inv.lstR I hB
  refine PySem.P.add_list e e2 ?_ (by rw [List.size_toArray, List.size_toArray]; omega)
  have ea : its.toArray ++ its2.toArray = (its ++ its2).toArray := by simp
  rw [ea]
  exact ⟨.ref _, _, I.lnew (t' := s.toks) (r.append r2) (by rw [List.length_append]; omega), rfl, q _ I.fresh⟩
def rRepR : R2 := fun x y H Q => ∃ l k xs, x = .ref l ∧ y = .int k ∧ Rd H l (.lst xs) ∧ -(2 ^ 63) ≤ k ∧ k < 2 ^ 63 ∧ xs.length * k.toNat ≤ sizeLine ∧
  ∀ p, H p = none → Q (.ref p) (upd H p (.lst (List.replicate k.toNat xs).flatten))
theorem op_repR : OpR X (binaryOp .Mult) rRepR := by
  intro pins s σ H x y v u Q I rx ry h
  obtain ⟨l, k, xs, rfl, rfl, hH, h1, h2, hz, q⟩ := h
  cases rx
  obtain ⟨t, rfl⟩ := ry
  obtain ⟨z, its, n, r, hl, e⟩ := Inv.lstR I hH
  have hlen : its.toArray.size * k.toNat ≤ sizeLine := by rw [List.size_toArray, ← hl]; exact hz
  have hcap : ¬ its.toArray.size * k.toNat > (2 ^ 63 - 1) / 8 := by
    have : (sizeLine : Nat) ≤ (2 ^ 63 - 1) / 8 := by decide
    omega
  have hfit : ¬ (!Builtin.List.listFitsIndex k) = true := by
    rw [fitsIndex_both h1 h2]
    exact Bool.false_ne_true
  have hlong : ¬ Builtin.List.listTooLong (its.toArray.size * k.toNat) = true := by
    rw [notLongL hlen]
    exact Bool.false_ne_true
  have hnew : List.foldl (fun x1 x2 => x1 ++ x2) #[] (List.replicate (if its.toArray.isEmpty = true then 0 else k.toNat) its.toArray) = (List.replicate k.toNat its).flatten.toArray := by
    have f0 : ∀ m : Nat, List.foldl (fun x1 x2 => x1 ++ x2) #[] (List.replicate m its.toArray) = (List.replicate m its).flatten.toArray := fun m => by
      have := foldl_rep its m []
      rw [List.nil_append] at this
      exact this
    rw [f0]
    cases its with
    | nil => simp
    | cons a r' => rw [if_neg (by simp)]
  refine wpAny_binaryOp_repeat_ref (T := "list") (U := "int") (by decide) ⟨_, e, rfl⟩ (fun s' => typeIs_int s' k t) noFill_list_mul F.fills_int_mul F.slot_int_rmul repeat_list F.slot_int_index.lookup
    (call_meets F.slot_int_rmul (typeIs_int s k t) F.entry_int_rmul (F.args_int_rmul_2 _ _) (int___rmul___int_list k t l its.toArray n)
      ⟨e, rfl, ⟨_, e, rfl⟩, call_meets F.slot_list_mul ⟨_, e, rfl⟩ F.entry_list_mul (F.args_list_mul_2 _ _) (AutoListH.list___mul___list_int_3 l its.toArray n k t hfit hcap hlong) ⟨e, ?_⟩⟩)
  rw [hnew]
  exact ⟨.ref _, _, I.lnew (t' := s.toks) (r.rep k.toNat) (by rw [PyProof.Rows.lm_len_rep_flat, Nat.mul_comm]; exact hz), rfl, q _ I.fresh⟩

/-! lists of data -/
theorem RpAll.app {K : PySem.W.Frag} {G : Hp} : ∀ {ds es : List D} {vs us : List V}, RpAll K G vs ds → RpAll K G us es → RpAll K G (vs ++ us) (ds ++ es)
  | [], _, _, _, h, h' => by cases h; exact h'
  | d :: ds, _, _, _, h, h' => by
    cases h with
    | cons a b => exact .cons a (b.app h')
theorem RpAll.get {K : PySem.W.Frag} {G : Hp} : ∀ {ds : List D} {vs : List V} {i : Nat} {d : D}, RpAll K G vs ds → ds[i]? = some d → ∃ v, vs[i]? = some v ∧ Rp K G v d
  | [], _, _, _, h, e => by simp at e
  | d :: ds, _, 0, _, h, e => by
    cases h with
    | cons a b => cases e; exact ⟨_, rfl, a⟩
  | d :: ds, _, i + 1, _, h, e => by
    cases h with
    | cons a b => obtain ⟨v, h1, h2⟩ := b.get (i := i) (by simpa using e); exact ⟨v, by simpa using h1, h2⟩
theorem RpAll.getV {K : PySem.W.Frag} {G : Hp} {ds : List D} {vs : List V} {i : Nat} {v : V} (h : RpAll K G vs ds) (e : vs[i]? = some v) : ∃ d, ds[i]? = some d ∧ Rp K G v d := by
  obtain ⟨h1, h2⟩ := List.getElem?_eq_some_iff.mp e
  have hi : i < ds.length := by rw [← h.len]; exact h1
  obtain ⟨u, e2, r⟩ := h.get (List.getElem?_eq_getElem hi)
  rw [e] at e2; cases e2
  exact ⟨_, List.getElem?_eq_getElem hi, r⟩
theorem RpAll.at_ {K : PySem.W.Frag} {G : Hp} {ds : List D} {vs : List V} {i : Int} {d : D} (h : RpAll K G vs ds) (e : atI ds i = some d) : ∃ v, atI vs i = some v ∧ Rp K G v d := by
  unfold atI at e ⊢
  rw [h.len]
  cases z : ixN ds.length i with
  | none => rw [z] at e; cases e
  | some j => rw [z] at e; exact h.get e
theorem RpAll.take {K : PySem.W.Frag} {G : Hp} : ∀ {ds : List D} {vs : List V} (n : Nat), RpAll K G vs ds → RpAll K G (vs.take n) (ds.take n)
  | _, _, 0, _ => by simp only [List.take_zero]; exact .nil
  | [], _, _ + 1, h => by cases h; exact .nil
  | d :: ds, _, n + 1, h => by
    cases h with
    | cons a b => exact .cons a (b.take n)
theorem RpAll.drop {K : PySem.W.Frag} {G : Hp} : ∀ {ds : List D} {vs : List V} (n : Nat), RpAll K G vs ds → RpAll K G (vs.drop n) (ds.drop n)
  | _, _, 0, h => h
  | [], _, _ + 1, h => by cases h; exact .nil
  | d :: ds, _, n + 1, h => by
    cases h with
    | cons a b => exact b.drop n
theorem RpAll.rep {K : PySem.W.Frag} {G : Hp} {ds : List D} {vs : List V} (h : RpAll K G vs ds) : ∀ n : Nat, RpAll K G (List.replicate n vs).flatten (List.replicate n ds).flatten
  | 0 => .nil
  | n + 1 => by
    simp only [List.replicate_succ, List.flatten_cons]
    exact h.app (h.rep n)
theorem RpAll.set {K : PySem.W.Frag} {G : Hp} {v : V} {d : D} (r : Rp K G v d) : ∀ {ds : List D} {vs : List V} (i : Nat), RpAll K G vs ds → RpAll K G (vs.set i v) (ds.set i d)
  | [], _, _, h => by cases h; exact .nil
  | _ :: _, _, 0, h => by
    cases h with
    | cons a b => exact .cons r b
  | _ :: _, _, i + 1, h => by
    cases h with
    | cons a b => exact .cons a (b.set r i)
theorem RpAll.rev {K : PySem.W.Frag} {G : Hp} {ds : List D} {vs : List V} (h : RpAll K G vs ds) : RpAll K G vs.reverse ds.reverse := by
  induction ds generalizing vs with
  | nil => cases h; exact .nil
  | cons d ds ih =>
    cases h with
    | cons a b => simp only [List.reverse_cons]; exact (ih b).app (.cons a .nil)

/-! ### the operations, as rules -/
def keepQ {K : PySem.W.Frag} {G H : Hp} {Q : VK} {d : D} {v : V} (l : Lk G H) (q : ∀ v G2 H2, Grow G H G2 H2 → Rp K G2 v d → Q v H2) (r : Rp K G v d) : Q v H := q v G H (Grow.refl l) r
def rAddI (K : PySem.W.Frag) : R2 := fun x y H Q => (rI0 fun i j => .int (i + j)) x y H Q ∨ (∃ i j, x = .str i ∧ y = .str j ∧ i.length + j.length ≤ sizeLine ∧ Q (.str (i ++ j)) H) ∨ rCatA K x y H Q
theorem o_add : OpR X (binaryOp .Add) (rAddI X.K) := op_add.or (op_add_str.or op_catA)
theorem d_add : OpD K (rAddI K) D.addI := fun G H x y dx dy d l rx ry e Q q => by
  unfold D.addI at e
  split at e
  · cases e; cases rx; cases ry; exact .inl ⟨_, _, rfl, rfl, keepQ l q (.int _)⟩
  · split at e
    · rename_i hz
      cases e; cases rx; cases ry; exact .inr (.inl ⟨_, _, rfl, rfl, size_ok hz, keepQ l q (.str _)⟩)
    · cases e
  · split at e
    · rename_i xs ys hz
      cases e
      cases rx with
      | @tup a vs _ h1 r1 =>
        cases ry with
        | @tup b us _ h2 r2 =>
          refine .inr (.inr ⟨_, _, _, _, rfl, rfl, l.le.seqT h1, l.le.seqT h2, size_ok (by rw [r1.len, r2.len]; exact hz), fun z => ?_, fun z1 z2 => ?_, fun z1 z2 p hp => ?_⟩)
          · subst z
            cases r1
            exact keepQ l q (.tup h2 r2)
          · subst z2
            cases r2
            rw [List.append_nil] at q
            exact keepQ l q (.tup h1 r1)
          · have w := Grow.new (o := .tup (vs ++ us)) l hp rfl
            exact q _ _ _ w (.tup (.inl (.inl upd_same)) ((r1.app r2).up w.g))
    · cases e
  · cases e
theorem newL {K : PySem.W.Frag} {G H : Hp} {Q : VK} {ds : List D} {vs : List V} {p : Addr} (l : Lk G H) (hp : H p = none) (r : RpAll K G vs ds) (q : NewL K G H ds Q) : Q (.ref p) (upd H p (.lst vs)) :=
  q p vs G _ (Grow.own l hp) hp (l.kn p hp) upd_same r
theorem d_cat : OpN K rCatR D.cat := fun G H x y dx dy d l rx ry e Q q => by
  unfold D.cat at e
  split at e
  · split at e
    · rename_i xs ys hz
      cases e
      cases rx with
      | lst h1 r1 =>
        cases ry with
        | lst h2 r2 => exact ⟨_, _, _, _, rfl, rfl, l.le _ _ rfl h1, l.le _ _ rfl h2, size_ok (by rw [r1.len, r2.len]; exact hz), fun p hp => newL l hp (r1.app r2) q⟩
    · cases e
  · cases e
theorem d_rep : OpN K rRepR D.rep := fun G H x y dx dy d l rx ry e Q q => by
  unfold D.rep at e
  split at e
  · split at e
    · rename_i xs k hz
      cases e
      cases ry
      cases rx with
      | lst h1 r1 => exact ⟨_, _, _, rfl, rfl, l.le _ _ rfl h1, hz.1, hz.2.1, size_ok (by rw [r1.len]; exact hz.2.2), fun p hp => newL l hp (r1.rep _) q⟩
    · cases e
  · cases e
theorem d_sub : OpD K (rI0 fun i j => .int (i - j)) D.sub := fun G H x y dx dy d l rx ry e Q q => by
  unfold D.sub at e
  split at e
  · cases e; cases rx; cases ry; exact ⟨_, _, rfl, rfl, keepQ l q (.int _)⟩
  · cases e
theorem d_mul : OpD K (rI CMul fun i j => .int (i * j)) D.mul := fun G H x y dx dy d l rx ry e Q q => by
  unfold D.mul at e
  split at e
  · split at e
    · rename_i hz
      cases e; cases rx; cases ry; exact ⟨_, _, rfl, rfl, hz, keepQ l q (.int _)⟩
    · cases e
  · cases e
theorem d_div : OpD K (rI CDivW fun i j => .int (i / j)) D.div := fun G H x y dx dy d l rx ry e Q q => by
  unfold D.div at e
  split at e
  · split at e
    · rename_i hz
      cases e; cases rx; cases ry; exact ⟨_, _, rfl, rfl, hz, keepQ l q (.int _)⟩
    · cases e
  · cases e
theorem d_mod : OpD K (rI (fun _ j => 0 < j) fun i j => .int (i % j)) D.mod := fun G H x y dx dy d l rx ry e Q q => by
  unfold D.mod at e
  split at e
  · split at e
    · rename_i hz
      cases e; cases rx; cases ry; exact ⟨_, _, rfl, rfl, hz, keepQ l q (.int _)⟩
    · cases e
  · cases e
theorem d_pow : OpD K (rI CPow fun i j => .int (i ^ j.toNat)) D.pow := fun G H x y dx dy d l rx ry e Q q => by
  unfold D.pow at e
  split at e
  · split at e
    · rename_i hz
      cases e; cases rx; cases ry; exact ⟨_, _, rfl, rfl, hz, keepQ l q (.int _)⟩
    · cases e
  · cases e
theorem d_neg : UnD K (rU fun i => .int (-i)) D.neg := fun G H x dx d l rx e Q q => by
  unfold D.neg at e
  split at e
  · cases e; cases rx; exact ⟨_, rfl, keepQ l q (.int _)⟩
  · cases e
theorem d_cmpI {p : Int → Int → Bool} {f : D → D → Option Bool} (hf : ∀ i j, f (.int i) (.int j) = some (p i j)) (hn : ∀ x y b, f x y = some b → ∃ i j, x = .int i ∧ y = .int j) : OpD K (rI0 fun i j => .bl (p i j)) (fun x y => (f x y).map .bl) := fun G H x y dx dy d l rx ry e Q q => by
  obtain ⟨b, e1, rfl⟩ := Option.map_eq_some_iff.mp e
  obtain ⟨i, j, rfl, rfl⟩ := hn _ _ _ e1
  rw [hf] at e1
  cases e1; cases rx; cases ry
  exact ⟨_, _, rfl, rfl, keepQ l q (.bl _)⟩
theorem d_lt : OpD K (rI0 fun i j => .bl (decide (i < j))) (fun x y => (D.lt x y).map .bl) := d_cmpI (fun _ _ => rfl) fun x y b e => by
  unfold D.lt at e; split at e
  · exact ⟨_, _, rfl, rfl⟩
  · cases e
theorem d_le : OpD K (rI0 fun i j => .bl (decide (i ≤ j))) (fun x y => (D.le x y).map .bl) := d_cmpI (fun _ _ => rfl) fun x y b e => by
  unfold D.le at e; split at e
  · exact ⟨_, _, rfl, rfl⟩
  · cases e
theorem d_gt : OpD K (rI0 fun i j => .bl (decide (j < i))) (fun x y => (D.gt x y).map .bl) := d_cmpI (fun _ _ => rfl) fun x y b e => by
  unfold D.gt at e; split at e
  · exact ⟨_, _, rfl, rfl⟩
  · cases e
theorem d_ge : OpD K (rI0 fun i j => .bl (decide (j ≤ i))) (fun x y => (D.ge x y).map .bl) := d_cmpI (fun _ _ => rfl) fun x y b e => by
  unfold D.ge at e; split at e
  · exact ⟨_, _, rfl, rfl⟩
  · cases e
mutual
theorem Rp.dp {G H : Hp} (l : Lk G H) : ∀ {d : D} {v : V} {y : PyData}, Rp K G v d → D.py d = some y → Dp K H v y
  | .non, _, _, h, e => by cases e; cases h; exact .non
  | .bl b, _, _, h, e => by cases e; cases h; exact .bl b
  | .int i, _, _, h, e => by cases e; cases h; exact .int i
  | .str x, _, _, h, e => by cases e; cases h; exact .str x
  | .lst xs, _, _, h, e => by
    simp only [D.py, Option.map_eq_some_iff] at e
    obtain ⟨ys, e1, rfl⟩ := e
    cases h with
    | lst a b => exact .lst (.inl (l.le _ _ rfl a)) (RpAll.dp l b e1)
  | .tup xs, _, _, h, e => by
    simp only [D.py, Option.map_eq_some_iff] at e
    obtain ⟨ys, e1, rfl⟩ := e
    cases h with
    | tup a b => exact .tup (l.le.seqT a) (RpAll.dp l b e1)
  | .tux xs, _, _, h, e => by
    simp only [D.py, Option.map_eq_some_iff] at e
    obtain ⟨ys, e1, rfl⟩ := e
    cases h with
    | tux a b => exact .tup (l.le.seqT (.inl a.1)) (RpAll.dp l b e1)
  | .dK _ _, _, _, h, e => by simp [D.py] at e
  | .dT _ _, _, _, h, e => by simp [D.py] at e
  | .exc _, _, _, h, e => by simp [D.py] at e
theorem RpAll.dp {G H : Hp} (l : Lk G H) : ∀ {ds : List D} {vs : List V} {ys : List PyData}, RpAll K G vs ds → D.pys ds = some ys → DpAll K H vs ys
  | [], _, _, h, e => by simp only [D.pys] at e; cases e; cases h; exact .nil
  | d :: ds, _, _, h, e => by
    simp only [D.pys, Option.bind_eq_some_iff, Option.map_eq_some_iff] at e
    obtain ⟨y, e1, ys, e2, rfl⟩ := e
    cases h with
    | cons a b => exact .cons (Rp.dp l a e1) (RpAll.dp l b e2)
end
def rEqA (K : PySem.W.Frag) : R2 := fun x y H Q => rEq x y H Q ∨ rEqD K x y H Q
def rNeA (K : PySem.W.Frag) : R2 := fun x y H Q => rNe x y H Q ∨ rNeD K x y H Q
theorem o_eq (hu : X.A.units + 64 < cLine) : OpR X (compareOp .Eq) (rEqA X.K) := op_eq.or (op_eqD hu)
theorem o_ne (hu : X.A.units + 64 < cLine) : OpR X (compareOp .NotEq) (rNeA X.K) := op_ne.or (op_neD hu)
theorem d_eq : OpD K (rEqA K) (fun x y => (D.eq x y).map .bl) := fun G H x y dx dy d l rx ry e Q q => by
  obtain ⟨b, e1, rfl⟩ := Option.map_eq_some_iff.mp e
  unfold D.eq at e1
  split at e1
  · cases e1; cases rx; cases ry
    refine .inl ⟨rfl, ?_⟩
    have := keepQ l q (.bl _)
    rw [dec_int]; rw [Bool.beq_eq_decide_eq]; exact this
  · cases e1; cases rx; cases ry
    refine .inl ⟨rfl, ?_⟩
    have := keepQ l q (.bl _)
    rw [dec_str]; rw [Bool.beq_eq_decide_eq]; exact this
  · cases e1; cases rx; cases ry
    refine .inl ⟨rfl, ?_⟩
    have := keepQ l q (.bl _)
    rw [dec_bl]; rw [Bool.beq_eq_decide_eq]; exact this
  · simp only [Option.bind_eq_some_iff] at e1
    obtain ⟨a, ea, c, ec, e1⟩ := e1
    split at e1
    · rename_i hs
      cases e1
      exact .inr ⟨a, c, Rp.dp l rx ea, Rp.dp l ry ec, hs.1, hs.2, keepQ l q (.bl _)⟩
    · cases e1
theorem d_ne : OpD K (rNeA K) (fun x y => (D.ne x y).map .bl) := fun G H x y dx dy d l rx ry e Q q => by
  obtain ⟨b0, e0, rfl⟩ := Option.map_eq_some_iff.mp e
  obtain ⟨b, e1, rfl⟩ := Option.map_eq_some_iff.mp e0
  have h := d_eq (K := K) G H x y dx dy (.bl b) l rx ry (by show Option.map D.bl _ = _; rw [e1]; rfl) (fun v H2 => ∃ b', v = .bl b' ∧ Q (.bl (!b')) H2) (fun v G2 H2 w r => by cases r; exact ⟨_, rfl, q _ G2 H2 w (.bl _)⟩)
  rcases h with ⟨h1, b', h2, h3⟩ | ⟨a, c, h1, h2, h3, h4, b', h5, h6⟩
  · cases h2; exact .inl ⟨h1, h3⟩
  · cases h5; exact .inr ⟨a, c, h1, h2, h3, h4, h6⟩
theorem d_isN : OpD K (fun x y H Q => y = .non ∧ Q (.bl (decide (x = .non))) H) (fun x y => (D.isN x y).map .bl) := fun G H x y dx dy d l rx ry e Q q => by
  obtain ⟨b, e1, rfl⟩ := Option.map_eq_some_iff.mp e
  unfold D.isN at e1
  split at e1
  · cases e1; cases rx; cases ry; exact ⟨rfl, keepQ l q (.bl _)⟩
  · rename_i hn
    cases e1; cases ry
    refine ⟨rfl, ?_⟩
    rw [decide_eq_false (fun z => by subst z; cases rx; exact hn rfl)]
    exact keepQ l q (.bl _)
  · cases e1
theorem d_notN : OpD K (fun x y H Q => y = .non ∧ Q (.bl (!decide (x = .non))) H) (fun x y => (D.notN x y).map .bl) := fun G H x y dx dy d l rx ry e Q q => by
  obtain ⟨b0, e0, rfl⟩ := Option.map_eq_some_iff.mp e
  obtain ⟨b, e1, rfl⟩ := Option.map_eq_some_iff.mp e0
  have h := d_isN (K := K) G H x y dx dy (.bl b) l rx ry (by show Option.map D.bl _ = _; rw [e1]; rfl) (fun v H2 => ∃ b', v = .bl b' ∧ Q (.bl (!b')) H2) (fun v G2 H2 w r => by cases r; exact ⟨_, rfl, q _ G2 H2 w (.bl _)⟩)
  obtain ⟨h1, b', h2, h3⟩ := h
  cases h2; exact ⟨h1, h3⟩
def rIxA (K : PySem.W.Frag) : R2 := fun x y H Q => rIxL K x y H Q ∨ rIxT K x y H Q
theorem o_ix : IxR X (rIxA X.K) := ix_list.or ix_tup
theorem d_ix : OpD K (rIxA K) D.ix := fun G H x y dx dy d l rx ry e Q q => by
  unfold D.ix at e
  split at e
  · cases ry
    cases rx with
    | lst h1 r1 =>
      obtain ⟨v, hv, rv⟩ := r1.at_ e
      exact .inl ⟨_, _, _, _, rfl, rfl, .inl (l.le _ _ rfl h1), hv, keepQ l q rv⟩
  · cases ry
    cases rx with
    | tup h1 r1 =>
      obtain ⟨v, hv, rv⟩ := r1.at_ e
      exact .inr ⟨_, _, _, _, rfl, rfl, l.le.seqT h1, hv, keepQ l q rv⟩
  · cases ry
    cases rx with
    | tux h1 r1 =>
      obtain ⟨v, hv, rv⟩ := r1.at_ e
      exact .inr ⟨_, _, _, _, rfl, rfl, l.le.seqT (.inl h1.1), hv, keepQ l q rv⟩
  · cases ry
    cases rx with
    | frl h1 r1 =>
      obtain ⟨v, hv, rv⟩ := r1.at_ e
      exact .inl ⟨_, _, _, _, rfl, rfl, l.le.seqL h1, hv, keepQ l q rv⟩
  · cases e
def rLenA (K : PySem.W.Frag) : List V → Hp → VK → Prop := fun xs H Q => (∃ p ys, xs = [.ref p] ∧ (SqL K H p ys ∨ SqT K H p ys) ∧ Q (.int ys.length) H) ∨ ∃ z, xs = [.str z] ∧ z.length ≤ sizeLine ∧ Q (.int z.length) H
theorem c_len : CallR X (.builtin "len") (rLenA X.K) := call_len_seq.or call_len_str
theorem d_len : CallD K (rLenA K) D.len := fun G H xs ds d l r e Q q => by
  unfold D.len at e
  split at e
  · cases e
    cases r with
    | cons a b =>
      cases b
      cases a with
      | lst h1 r1 => exact .inl ⟨_, _, rfl, .inl (.inl (l.le _ _ rfl h1)), by rw [r1.len]; exact keepQ l q (.int _)⟩
  · cases e
    cases r with
    | cons a b =>
      cases b
      cases a with
      | tup h1 r1 => exact .inl ⟨_, _, rfl, .inr (l.le.seqT h1), by rw [r1.len]; exact keepQ l q (.int _)⟩
  · cases e
    cases r with
    | cons a b =>
      cases b
      cases a with
      | tux h1 r1 => exact .inl ⟨_, _, rfl, .inr (l.le.seqT (.inl h1.1)), by rw [r1.len]; exact keepQ l q (.int _)⟩
  · cases e
    cases r with
    | cons a b =>
      cases b
      cases a with
      | frl h1 r1 => exact .inl ⟨_, _, rfl, .inl (l.le.seqL h1), by rw [r1.len]; exact keepQ l q (.int _)⟩
  · split at e
    · rename_i hz
      cases e
      cases r with
      | cons a b =>
        cases b
        cases a
        exact .inr ⟨_, rfl, size_ok hz, keepQ l q (.int _)⟩
    · cases e
  · cases e
theorem d_abs : CallD K (fun xs H Q => ∃ i, xs = [.int i] ∧ Q (.int (if i < 0 then -i else i)) H) D.abs := fun G H xs ds d l r e Q q => by
  unfold D.abs at e
  split at e
  · cases e
    cases r with
    | cons a b => cases b; cases a; exact ⟨_, rfl, keepQ l q (.int _)⟩
  · cases e
theorem d_int : CallD K (fun xs H Q => (∃ i, xs = [.int i] ∧ Q (.int i) H) ∨ ∃ k, xs = [.bl k] ∧ Q (.int (if k then 1 else 0)) H) D.toInt := fun G H xs ds d l r e Q q => by
  unfold D.toInt at e
  split at e
  · cases e
    cases r with
    | cons a b => cases b; cases a; exact .inl ⟨_, rfl, keepQ l q (.int _)⟩
  · cases e
    cases r with
    | cons a b => cases b; cases a; exact .inr ⟨_, rfl, keepQ l q (.int _)⟩
  · cases e
theorem d_tup : CallD K (fun xs H Q => ∃ p ys, xs = [.ref p] ∧ ((SqL K H p ys ∧ ∀ l, H l = none → Q (.ref l) (upd H l (.tup ys))) ∨ (SqT K H p ys ∧ Q (.ref p) H))) D.toTup := fun G H xs ds d l r e Q q => by
  unfold D.toTup at e
  split at e
  · cases e
    cases r with
    | cons a b =>
      cases b
      cases a with
      | @lst a vs _ h1 r1 =>
        refine ⟨_, _, rfl, .inl ⟨.inl (l.le _ _ rfl h1), fun p hp => ?_⟩⟩
        have w := Grow.new (o := .tup vs) l hp rfl
        exact q _ _ _ w (.tup (.inl (.inl upd_same)) (r1.up w.g))
  · cases e
    cases r with
    | cons a b =>
      cases b
      cases a with
      | tup h1 r1 => exact ⟨_, _, rfl, .inr ⟨l.le.seqT h1, keepQ l q (.tup h1 r1)⟩⟩
  · cases e
theorem d_lst : CallN K (fun xs H Q => ∃ p ys, xs = [.ref p] ∧ (SqL K H p ys ∨ SqT K H p ys) ∧ ∀ l, H l = none → Q (.ref l) (upd H l (.lst ys))) D.toLst := fun G H xs ds d l r e Q q => by
  unfold D.toLst at e
  split at e
  · cases e
    cases r with
    | cons a b =>
      cases b
      cases a with
      | lst h1 r1 => exact ⟨_, _, rfl, .inl (.inl (l.le _ _ rfl h1)), fun p hp => newL l hp r1 q⟩
  · cases e
    cases r with
    | cons a b =>
      cases b
      cases a with
      | tup h1 r1 => exact ⟨_, _, rfl, .inr (l.le.seqT h1), fun p hp => newL l hp r1 q⟩
  · cases e
    cases r with
    | cons a b =>
      cases b
      cases a with
      | tux h1 r1 => exact ⟨_, _, rfl, .inr (l.le.seqT (.inl h1.1)), fun p hp => newL l hp r1 q⟩
  · cases e
end
end Wk
set_option maxHeartbeats 4000000
/-! Wk6: defs, calls, slices, what is walked, comprehensions. -/
namespace Wk
open PySem PySem.Spec PyProof.Rows L2

/-! ### defs -/
section
variable {ω : Type}
def ap0 (f : R ω) : List D → R ω
  | [] => f
  | _ => .bad
def ap1 (f : D → R ω) : List D → R ω
  | [a] => f a
  | _ => .bad
def ap2 (f : D → D → R ω) : List D → R ω
  | [a, b] => f a b
  | _ => .bad
def ap3 (f : D → D → D → R ω) : List D → R ω
  | [a, b, c] => f a b c
  | _ => .bad
def ap4 (f : D → D → D → D → R ω) : List D → R ω
  | [a, b, c, d] => f a b c d
  | _ => .bad
def ap5 (f : D → D → D → D → D → R ω) : List D → R ω
  | [a, b, c, d, e] => f a b c d e
  | _ => .bad
/-- what a def promises: f of its arguments' data -/
def spR (K : PySem.W.Frag) (ec : Nat → Addr) (Rr : Hp → ω → V → Hp → Hp → Prop) (n : Nat) (f : List D → R ω) : Sp := fun vs H Q E => ∃ G ds, Lk G H ∧ RpAll K G vs ds ∧ ds.length = n ∧
  wp (f ds) (fun o => ∀ v G2 H2, Grow G H G2 H2 → Rr H o v G2 H2 → Q v H2) (fun c => ∀ G2 H2, Grow G H G2 H2 → E (.ref (ec c)) none H2)
end
theorem Fr8.toGrow {G H G2 H2 : Hp} (f : Fr8 ⟨G, H, []⟩ G2 H2) : Grow G H G2 H2 := ⟨f.le0, f.up, fun a o e => f.keep a o (by simp) e, fun a n m => f.cl a n m⟩
theorem Fr8.ofGrow {G H G2 H2 : Hp} (w : Grow G H G2 H2) : Fr8 ⟨G, H, []⟩ G2 H2 := ⟨w.up, w.g, fun a o _ e => w.h a o e, fun a n => ne_of_ne w.h n, fun a n => mt_of w.h n, w.cl⟩
/-- the slots at a def's entry -/
def en0 (N : List Str) (ds : List D) : En := ds.map (fun d => some (.v d)) ++ List.replicate (N.length - ds.length) none
theorem st_start {K : PySem.W.Frag} {G H : Hp} {vs : List V} {ds : List D} {N : List Str} (l : Lk G H) (r : RpAll K G vs ds) : St8 K ⟨G, H, []⟩ (en0 N ds) (start N vs) G H := by
  have hl := r.len
  have noown : ∀ (i : Nat) (dv : DV), (en0 N ds)[i]? = some (some dv) → ∃ d, ds[i]? = some d ∧ dv = .v d := fun i dv e => by
    unfold en0 at e
    by_cases hi : i < ds.length
    · rw [List.getElem?_append_left (by simpa using hi), List.getElem?_map] at e
      cases z : ds[i]? with
      | none => rw [z] at e; cases e
      | some d => rw [z] at e; cases e; exact ⟨d, rfl, rfl⟩
    · rw [List.getElem?_append_right (by simpa using hi), List.getElem?_replicate] at e
      split at e <;> cases e
  refine ⟨⟨⟨l, Le.refl _, fun _ _ _ e => e, fun _ n => n, fun _ n => n, fun _ n _ => n⟩, fun i dv e => ?_, fun i j b b' p p' c c' e e' zz => ?_, fun i b p c e => ?_⟩, ?_⟩
  · obtain ⟨d, e1, rfl⟩ := noown i dv e
    obtain ⟨v, e2, r2⟩ := r.get e1
    refine ⟨v, ?_, r2⟩
    have hi : i < vs.length := (List.getElem?_eq_some_iff.mp e2).1
    unfold L2.start
    rw [List.getElem?_append_left (by simpa using hi), List.getElem?_map, e2]
    rfl
  · obtain ⟨d, _, z⟩ := noown i _ e
    cases z
  · obtain ⟨d, _, z⟩ := noown i _ e
    cases z
  · unfold L2.start en0
    simp [hl]
section
variable {P : Program} {w : World} {K : PySem.W.Frag} {mg : Str → Option Value} {base : Heap} {ec : Nat → Addr} {ω : Type}
/-- a def by its body -/
theorem fn_ok {x qual : Str} {st : Stmt} {f : Addr} {fd : FuncData} {N ps : List Str} {k : Nat} {n : Nat} {Rr : Hp → ω → V → Hp → Hp → Prop} {fm : List D → R ω} (F : Fun K x qual st f fd) (S : FnScope N ps (defScope st)) (hn : ps.length = n)
    (body : ∀ (cdv : Value) (A : Around) (outer : List Env) (s : Shared) (H : Hp) (E : XK), Room k (A.deeper (envOfC qual (defScope st) s.heap.objs.size f cdv)) →
      Go (cxOf (L2.CX P w) P w K mg base N qual (defScope st) f cdv A outer s H E) ec (fun c _ H => E (.ref (ec c)) none H) → ∀ ds : List D, ds.length = n →
      XB (cxOf (L2.CX P w) P w K mg base N qual (defScope st) f cdv A outer s H E) (fun c _ H => E (.ref (ec c)) none H) [] (defBody st) (en0 N ds) (fm ds) (TR Rr)) :
    FnOk P w K mg base (L2.CX P w) (k + 1) f fd ps (spR K ec Rr n fm) := by
  refine F.okX S (fun vs H Q E h => ?_) (fun cdv A outer s H vs Q E hr h => ?_)
  · obtain ⟨G, ds, l, r, e, _⟩ := h
    rw [r.len, e, hn]
  · obtain ⟨G, ds, l, r, e, q⟩ := h
    have g : Go (cxOf (L2.CX P w) P w K mg base N qual (defScope st) f cdv A outer s H E) ec (fun c _ H => E (.ref (ec c)) none H) :=
      ⟨rfl, passes_of rfl, S.nd, (takes_of (E := E) rfl rfl rfl rfl).imp fun cls d σ H' ⟨c, e1, e2, e3⟩ => by rw [e1, e2]; exact e3⟩
    have b := body cdv A outer s H E hr g ds e
    exact ⟨_, pss_w, b ⟨G, H, []⟩ (start N vs) G H (st_start l r) _ (wp_mono q (fun o ho v G2 H2 f8 rr => ho v G2 H2 f8.toGrow rr) fun c hc σ G2 H2 es => hc G2 H2 es.fr.toGrow)⟩
/-- a def that ends without handing back -/
theorem xb_fall {X : Cx} {W : WN} {eE : En} {st : List Stmt} {en : En} {α : Type} {m : R α} {L : α → En → Prop} (h : XB X W eE st en m (TN X.K L)) : ∀ B σ G H, St8 X.K B en σ G H → ∀ Q : VK, Post X W eE B m (fun _ => ∀ G2 H2, Fr8 B G2 H2 → Q .non H2) → wB X st { nx := fun _ H' => Q .non H', rt := Q } σ H :=
  fun B σ G H S Q q => h B σ G H S _ (wp_mono q (fun a ha e σ2 G2 H2 _ S2 => ha G2 H2 S2.es.fr) fun _ z => z)
/-- a def that hands back nothing -/
theorem fn_okN {x qual : Str} {st : Stmt} {f : Addr} {fd : FuncData} {N ps : List Str} {k : Nat} {n : Nat} {α : Type} {L : α → En → Prop} {fm : List D → R α} (F : Fun K x qual st f fd) (S : FnScope N ps (defScope st)) (hn : ps.length = n)
    (body : ∀ (cdv : Value) (A : Around) (outer : List Env) (s : Shared) (H : Hp) (E : XK), Room k (A.deeper (envOfC qual (defScope st) s.heap.objs.size f cdv)) →
      Go (cxOf (L2.CX P w) P w K mg base N qual (defScope st) f cdv A outer s H E) ec (fun c _ H => E (.ref (ec c)) none H) → ∀ ds : List D, ds.length = n →
      XB (cxOf (L2.CX P w) P w K mg base N qual (defScope st) f cdv A outer s H E) (fun c _ H => E (.ref (ec c)) none H) [] (defBody st) (en0 N ds) (fm ds) (TN K L)) :
    FnOk P w K mg base (L2.CX P w) (k + 1) f fd ps (spR K ec (rP K) n (fun ds => (fm ds).bnd fun _ => .ok .non)) := by
  refine F.okX S (fun vs H Q E h => ?_) (fun cdv A outer s H vs Q E hr h => ?_)
  · obtain ⟨G, ds, l, r, e, _⟩ := h
    rw [r.len, e, hn]
  · obtain ⟨G, ds, l, r, e, q⟩ := h
    have g : Go (cxOf (L2.CX P w) P w K mg base N qual (defScope st) f cdv A outer s H E) ec (fun c _ H => E (.ref (ec c)) none H) :=
      ⟨rfl, passes_of rfl, S.nd, (takes_of (E := E) rfl rfl rfl rfl).imp fun cls d σ H' ⟨c, e1, e2, e3⟩ => by rw [e1, e2]; exact e3⟩
    have b := body cdv A outer s H E hr g ds e
    exact ⟨_, pss_w, xb_fall b ⟨G, H, []⟩ (start N vs) G H (st_start l r) Q (wp_mono (wp_bnd.mp q) (fun o ho G2 H2 f8 => ho .non G2 H2 f8.toGrow .non) fun c hc σ G2 H2 es => hc G2 H2 es.fr.toGrow)⟩
end
section
variable {X : Cx} {W : WN} {eE : En} {en : En} {ec : Nat → Addr} {pos : Pos} {ω : Type}
/-- a call -/
theorem xp_call {x : Str} {p : Pos} {e : Expr} {es : List Expr} {k n : Nat} {f : Addr} {fd : FuncData} {ps : List Str} {fm : List D → R D} {ms : R (List D)} (g : Go X ec W) (F : FnOk X.prog X.w X.K X.mg X.base (L2.CX X.prog X.w) k f fd ps (spR X.K ec (rP X.K) n fm)) (hr : Room k X.A) (hm : X.mg x = some (.ref f)) (hk : PySem.W.keepIn X.K (.ref f) = true) (hb : Binds X.K fd ps [])
    (ha : XA X W (e :: es) en ms) (hln : ∀ ds P E, wp (fm ds) P E → ds.length = n) (hg : Gl X x := by rfl) (hdb : (x == ("__debug__" : Str)) = false := by decide) (h1 : starEach (e :: es) X.env = (false, eval e X.env) :: starEach es X.env := by rfl) (h2 : (backTo pos (starEach es X.env)).any (·.1) = false := by rfl) :
    XP X W (.Call (.Name x p) (e :: es) [] pos) en (ms.bnd fm) := fun σ G H S Q h => by
  refine pe_to (pe_callS F hr hg hm hk hb (fun σ => passAt g.tk σ) pa_w hdb h1 h2) (ha σ G H S _ ?_)
  have h' := wp_bnd.mp h
  cases em : ms with
  | ok ds =>
    rw [em] at h'
    refine fun vs G1 H1 w1 r1 => ⟨G1, ds, w1.up, r1, hln ds _ _ h', wp_mono h' (fun d hd v G2 H2 w2 r2 => hd v G2 H2 (w1.trans w2) r2) fun c hc G2 H2 w2 => ⟨c, rfl, rfl, hc G2 H2 (w1.trans w2)⟩⟩
  | err c => rw [em] at h'; exact fun G2 H2 w => h' G2 H2 w
  | bad => rw [em] at h'; exact h'.elim
theorem xn_call {x : Str} {p : Pos} {e : Expr} {es : List Expr} {k n : Nat} {f : Addr} {fd : FuncData} {ps : List Str} {fm : List D → R (List D)} {ms : R (List D)} (g : Go X ec W) (F : FnOk X.prog X.w X.K X.mg X.base (L2.CX X.prog X.w) k f fd ps (spR X.K ec (rN X.K) n fm)) (hr : Room k X.A) (hm : X.mg x = some (.ref f)) (hk : PySem.W.keepIn X.K (.ref f) = true) (hb : Binds X.K fd ps [])
    (ha : XA X W (e :: es) en ms) (hln : ∀ ds P E, wp (fm ds) P E → ds.length = n) (hg : Gl X x := by rfl) (hdb : (x == ("__debug__" : Str)) = false := by decide) (h1 : starEach (e :: es) X.env = (false, eval e X.env) :: starEach es X.env := by rfl) (h2 : (backTo pos (starEach es X.env)).any (·.1) = false := by rfl) :
    XN X W (.Call (.Name x p) (e :: es) [] pos) en (ms.bnd fm) := fun σ G H S Q h => by
  refine pe_to (pe_callS F hr hg hm hk hb (fun σ => passAt g.tk σ) pa_w hdb h1 h2) (ha σ G H S _ ?_)
  have h' := wp_bnd.mp h
  cases em : ms with
  | ok ds =>
    rw [em] at h'
    refine fun vs G1 H1 w1 r1 => ⟨G1, ds, w1.up, r1, hln ds _ _ h', wp_mono h' (fun d hd v G2 H2 w2 r2 => ?_) fun c hc G2 H2 w2 => ⟨c, rfl, rfl, hc G2 H2 (w1.trans w2)⟩⟩
    obtain ⟨p, us, rfl, hp, gp, ep, rr⟩ := r2
    refine hd p us G2 H2 (w1.trans w2) ?_ gp ep rr
    cases z : H p with
    | none => rfl
    | some o => rw [w1.h p o z] at hp; cases hp
  | err c => rw [em] at h'; exact fun G2 H2 w => h' G2 H2 w
  | bad => rw [em] at h'; exact h'.elim
/-! the arities -/
variable {a b c d : Expr} {ma mb mc md : R D}
theorem len_ms1 : ∀ ds, (ma.bnd fun x => (R.ok []).bnd fun xs => .ok (x :: xs)) = .ok ds → ds.length = 1 := fun ds e => by
  cases ma <;> cases e; rfl
theorem xa_1 (ha : XP X W a en ma) (h1 : starEach [a] X.env = (false, eval a X.env) :: starEach [] X.env := by rfl) : XA X W [a] en (ma.bnd fun x => .ok [x]) := xa_cons ha xa_nil h1
theorem xa_2 (ha : XP X W a en ma) (hb : XP X W b en mb) (h1 : starEach [a, b] X.env = (false, eval a X.env) :: starEach [b] X.env := by rfl) (h2 : starEach [b] X.env = (false, eval b X.env) :: starEach [] X.env := by rfl) : XA X W [a, b] en (ma.bnd fun x => mb.bnd fun y => .ok [x, y]) := by
  have h := xa_cons ha (xa_1 hb h2) h1
  simpa only [bnd_assoc, bnd_ok] using h
theorem xa_3 (ha : XP X W a en ma) (hb : XP X W b en mb) (hc : XP X W c en mc) (h1 : starEach [a, b, c] X.env = (false, eval a X.env) :: starEach [b, c] X.env := by rfl) (h2 : starEach [b, c] X.env = (false, eval b X.env) :: starEach [c] X.env := by rfl) (h3 : starEach [c] X.env = (false, eval c X.env) :: starEach [] X.env := by rfl) : XA X W [a, b, c] en (ma.bnd fun x => mb.bnd fun y => mc.bnd fun z => .ok [x, y, z]) := by
  have h := xa_cons ha (xa_2 hb hc h2 h3) h1
  simpa only [bnd_assoc, bnd_ok] using h
theorem xa_4 (ha : XP X W a en ma) (hb : XP X W b en mb) (hc : XP X W c en mc) (hd : XP X W d en md) (h1 : starEach [a, b, c, d] X.env = (false, eval a X.env) :: starEach [b, c, d] X.env := by rfl) (h2 : starEach [b, c, d] X.env = (false, eval b X.env) :: starEach [c, d] X.env := by rfl) (h3 : starEach [c, d] X.env = (false, eval c X.env) :: starEach [d] X.env := by rfl) (h4 : starEach [d] X.env = (false, eval d X.env) :: starEach [] X.env := by rfl) : XA X W [a, b, c, d] en (ma.bnd fun x => mb.bnd fun y => mc.bnd fun z => md.bnd fun t => .ok [x, y, z, t]) := by
  have h := xa_cons ha (xa_3 hb hc hd h2 h3 h4) h1
  simpa only [bnd_assoc, bnd_ok] using h
theorem ln_1 : ∀ ds, (ma.bnd fun x => R.ok [x]) = .ok ds → ds.length = 1 := fun ds e => by
  cases ma <;> cases e; rfl
theorem ln_2 : ∀ ds, (ma.bnd fun x => mb.bnd fun y => R.ok [x, y]) = .ok ds → ds.length = 2 := fun ds e => by
  cases ma <;> cases mb <;> cases e; rfl
theorem ln_3 : ∀ ds, (ma.bnd fun x => mb.bnd fun y => mc.bnd fun z => R.ok [x, y, z]) = .ok ds → ds.length = 3 := fun ds e => by
  cases ma <;> cases mb <;> cases mc <;> cases e; rfl
theorem ln_4 : ∀ ds, (ma.bnd fun x => mb.bnd fun y => mc.bnd fun z => md.bnd fun t => R.ok [x, y, z, t]) = .ok ds → ds.length = 4 := fun ds e => by
  cases ma <;> cases mb <;> cases mc <;> cases md <;> cases e; rfl
theorem XP.is {e : Expr} {m m' : R D} (h : XP X W e en m) (q : m = m') : XP X W e en m' := by rw [← q]; exact h
theorem XN.is {e : Expr} {m m' : R (List D)} (h : XN X W e en m) (q : m = m') : XN X W e en m' := by rw [← q]; exact h

/-! ### slices -/
def XO (X : Cx) (W : WN) (e : Option Expr) (en : En) (m : R (Option Int)) : Prop := ∀ σ G H, Sl X.K en σ G H → ∀ Q : Option Int → Hp → Prop,
  wp m (fun o => ∀ G2 H2, Grow G H G2 H2 → Q o H2) (fun c => ∀ G2 H2, Grow G H G2 H2 → W c σ H2) → ∃ t, PO X e t ∧ t σ H Q
def wOp (X : Cx) (e : Option Expr) : L2.TO := fun σ H Q => ∃ t, PO X e t ∧ t σ H Q
theorem po_w {X : Cx} {e : Option Expr} : PO X e (wOp X e) := ⟨fun pins s σ H Q I h => by obtain ⟨t, p, q⟩ := h; exact p.run pins s σ H Q I q⟩
theorem xo_none : XO X W none en (.ok none) := fun σ G H S Q h => ⟨_, po_none, h G H (Grow.refl S.le)⟩
def D.toI : D → Option Int
  | .int i => some i
  | _ => none
theorem xo_some (h : XP X W a en ma) : XO X W (some a) en (ma.bnd fun d => (R.of d.toI).bnd fun i => .ok (some i)) := fun σ G H S Q k => by
  refine ⟨_, po_some pe_w, h σ G H S _ (wp_mono (wp_bnd.mp k) (fun d hd v G1 H1 w1 r1 => ?_) fun _ z => z)⟩
  obtain ⟨i, e, hd⟩ := wp_of (wp_bnd.mp hd)
  cases d <;> cases e
  cases r1
  exact ⟨_, rfl, hd G1 H1 w1⟩
def cutD (xs : List D) (lo hi : Option Int) : List D := (xs.drop (HT.sIx xs.length 0 lo)).take (HT.sIx xs.length xs.length hi - HT.sIx xs.length 0 lo)
def D.cut : D → Option Int → Option Int → Option D
  | .tup xs, lo, hi => some (.tup (cutD xs lo hi))
  | _, _, _ => none
def D.cutL : D → Option Int → Option Int → Option (List D)
  | .lst xs, lo, hi => some (cutD xs lo hi)
  | _, _, _ => none
theorem RpAll.cut {K : PySem.W.Frag} {G : Hp} {ds : List D} {vs : List V} (h : RpAll K G vs ds) (lo hi : Option Int) : RpAll K G (cutV vs lo hi) (cutD ds lo hi) := by
  unfold cutV cutD
  rw [h.len]
  exact (h.drop _).take _
variable {lo hi : Option Expr} {ml mh : R (Option Int)} {p2 : Pos}
theorem xp_cut (ha : XP X W a en ma) (hl : XO X W lo en ml) (hh : XO X W hi en mh) : XP X W (.Subscript a (.Slice lo hi none p2) pos) en (ma.bnd fun x => ml.bnd fun l => mh.bnd fun h => R.of (x.cut l h)) := fun σ G H S Q k => by
  refine pe_to (pe_slice sl_tupA pe_w po_w po_w) (ha σ G H S _ (wp_mono (wp_bnd.mp k) (fun x hx v G1 H1 w1 r1 => ?_) fun _ z => z))
  refine hl σ G1 H1 (S.grow w1) _ (wp_mono (wp_bnd.mp hx) (fun l hl' G2 H2 w2 => ?_) fun _ z G2 H2 w => z G2 H2 (w1.trans w))
  refine hh σ G2 H2 ((S.grow w1).grow w2) _ (wp_mono (wp_bnd.mp hl') (fun h hh' G3 H3 w3 => ?_) fun _ z G3 H3 w => z G3 H3 ((w1.trans w2).trans w))
  obtain ⟨d, e, hd⟩ := wp_of hh'
  unfold D.cut at e
  split at e
  · rename_i xs
    cases e
    have w := (w1.trans w2).trans w3
    cases r1 with
    | @tup a vs _ h1 r1 =>
      have r3 := r1.up (w2.g.trans w3.g)
      refine ⟨a, vs, rfl, (w3.up.le.seqT ((w2.g.trans w3.g).seqT h1)), fun z => ?_, fun _ p hp => ?_⟩
      · refine hd _ _ _ w ?_
        have e1 : cutD xs l h = xs := by
          unfold cutD
          rw [← r1.len, z.1, z.2, Nat.sub_zero, List.drop_zero, r1.len, List.take_length]
        rw [e1]
        exact .tup ((w2.g.trans w3.g).seqT h1) r3
      · have w4 := Grow.new (o := .tup (cutV vs l h)) w3.up hp rfl
        exact hd _ _ _ (w.trans w4) (.tup (.inl (.inl upd_same)) ((r3.cut l h).up w4.g))
  · cases e
theorem xn_cut (ha : XP X W a en ma) (hl : XO X W lo en ml) (hh : XO X W hi en mh) : XN X W (.Subscript a (.Slice lo hi none p2) pos) en (ma.bnd fun x => ml.bnd fun l => mh.bnd fun h => R.of (x.cutL l h)) := fun σ G H S Q k => by
  refine pe_to (pe_slice sl_list pe_w po_w po_w) (ha σ G H S _ (wp_mono (wp_bnd.mp k) (fun x hx v G1 H1 w1 r1 => ?_) fun _ z => z))
  refine hl σ G1 H1 (S.grow w1) _ (wp_mono (wp_bnd.mp hx) (fun l hl' G2 H2 w2 => ?_) fun _ z G2 H2 w => z G2 H2 (w1.trans w))
  refine hh σ G2 H2 ((S.grow w1).grow w2) _ (wp_mono (wp_bnd.mp hl') (fun h hh' G3 H3 w3 => ?_) fun _ z G3 H3 w => z G3 H3 ((w1.trans w2).trans w))
  obtain ⟨d, e, hd⟩ := wp_of hh'
  unfold D.cutL at e
  split at e
  · cases e
    have w := (w1.trans w2).trans w3
    cases r1 with
    | @lst a vs _ h1 r1 =>
      have r3 := r1.up (w2.g.trans w3.g)
      refine ⟨a, vs, rfl, .inl (w3.up.le _ _ rfl ((w2.g.trans w3.g) _ _ rfl h1)), fun p hp => ?_⟩
      exact newL w3.up hp (r3.cut l h) (NewL.up w hd)
  · cases e

/-! ### what is walked -/
def iAny (K : PySem.W.Frag) (tl : TE) : TI := fun σ H R => tl σ H fun x H1 => ∃ a, x = .ref a ∧ (((∃ xs, SqL K H1 a xs) ∧ R (Itl K a) H1) ∨ ((∃ xs, SqT K H1 a xs) ∧ R (Itt K a) H1))
theorem pi_any {tg l : Expr} {tl : TE} (hl : PE X l tl) : PI X tg l (iAny X.K tl) := by
  refine ⟨fun pins s σ H R I h => ?_⟩
  refine thn (hl.run pins s σ H _ I h) fun v s1 ⟨x, H1, I1, r1, q1⟩ => ?_
  obtain ⟨a, e, q⟩ := q1
  subst e
  cases r1
  have fp : ∀ b, b ∈ [s1.heap.objs.size] → FpOk X pins H1 b := fun b hb => by
    have e : b = s1.heap.objs.size := by simpa using hb
    subst e
    exact I1.fpOk (Nat.le_refl _) (I1.hok.fresh (Nat.le_refl _))
  rcases q with ⟨⟨xs, hq⟩, q⟩ | ⟨⟨xs, hq⟩, q⟩
  · obtain ⟨its, rv, p, hz⟩ := I1.list hq
    refine wpAny_pyIter_list p.isList ?_
    exact ⟨s1.heap.objs.size, [s1.heap.objs.size], _, _, H1, rfl, I1.kept (t' := s1.toks) fun b o e => Heap.get?_push_of_some _ e, turn_list a _, ⟨_, Heap.get?_push_size _ rfl, rfl, rfl⟩, fp, q⟩
  · obtain ⟨its, rv, p, hz⟩ := I1.tuple hq
    refine wpAny_pyIter_tuple (show s1.heap.IsTuple a its.toArray from p) ?_
    exact ⟨s1.heap.objs.size, [s1.heap.objs.size], _, _, H1, rfl, I1.kept (t' := s1.toks) fun b o e => Heap.get?_push_of_some _ e, turn_tuple a _, ⟨_, Heap.get?_push_size _ rfl, rfl, rfl⟩, fp, q⟩
theorem wlk_L {K : PySem.W.Frag} {G : Hp} {a : Addr} {vs : List V} {ds : List D} (h : Rd G a (.lst vs)) (r : RpAll K G vs ds) : Wlk K (Itl K a) G ds :=
  ⟨fun G' H' l k => ⟨vs, .inl (k.le _ _ rfl (l _ _ rfl h)), Nat.le_of_eq r.len⟩, fun i d e G' H' l k => by
    obtain ⟨v, e2, r2⟩ := r.get e
    have hq : SqL K H' a vs := .inl (k.le _ _ rfl (l _ _ rfl h))
    refine ⟨⟨vs, v, hq, e2⟩, fun x H'' y => ?_⟩
    obtain ⟨rfl, y⟩ := y
    have := y vs hq
    rw [e2] at this; cases this
    exact ⟨G', Grow.refl k, r2.up l⟩⟩
theorem wlk_T {K : PySem.W.Frag} {G : Hp} {a : Addr} {vs : List V} {ds : List D} (h : SqT K G a vs) (r : RpAll K G vs ds) : Wlk K (Itt K a) G ds :=
  ⟨fun G' H' l k => ⟨vs, k.le.seqT (l.seqT h), Nat.le_of_eq r.len⟩, fun i d e G' H' l k => by
    obtain ⟨v, e2, r2⟩ := r.get e
    have hq : SqT K H' a vs := k.le.seqT (l.seqT h)
    refine ⟨⟨vs, v, hq, e2⟩, fun x H'' y => ?_⟩
    obtain ⟨rfl, y⟩ := y
    have := y vs hq
    rw [e2] at this; cases this
    exact ⟨G', Grow.refl k, r2.up l⟩⟩
def D.seq : D → Option (List D)
  | .lst xs => some xs
  | .tup xs => some xs
  | .tux xs => some xs
  | _ => none
theorem xi_seq {tg : Expr} (h : XP X W a en ma) : XI X W tg a en (ma.bnd fun d => R.of d.seq) := fun σ G H S Q k => by
  refine pi_to (pi_any pe_w) (h σ G H S _ (wp_mono (wp_bnd.mp k) (fun d hd v G1 H1 w1 r1 => ?_) fun _ z => z))
  obtain ⟨ds, e, hd⟩ := wp_of hd
  unfold D.seq at e
  split at e
  · cases e
    cases r1 with
    | lst h1 r1 => exact ⟨_, rfl, .inl ⟨⟨_, .inl (w1.up.le _ _ rfl h1)⟩, hd _ G1 H1 w1 (wlk_L h1 r1)⟩⟩
  · cases e
    cases r1 with
    | tup h1 r1 => exact ⟨_, rfl, .inr ⟨⟨_, w1.up.le.seqT h1⟩, hd _ G1 H1 w1 (wlk_T h1 r1)⟩⟩
  · cases e
    cases r1 with
    | tux h1 r1 => exact ⟨_, rfl, .inr ⟨⟨_, w1.up.le.seqT (.inl h1.1)⟩, hd _ G1 H1 w1 (wlk_T (.inl h1.1) r1)⟩⟩
  · cases e
/-- the numbers i, i + 1 .. below j -/
def upD (i j : Int) : List D := (List.range (j - i).toNat).map fun k => .int (i + (k : Nat))
theorem upD_len {i j : Int} : (upD i j).length = (j - i).toNat := by unfold upD; rw [List.length_map, List.length_range]
theorem upD_get {i j : Int} {k : Nat} {d : D} (h : (upD i j)[k]? = some d) : k < (j - i).toNat ∧ d = .int (i + (k : Nat)) := by
  unfold upD at h
  rw [List.getElem?_map] at h
  obtain ⟨m, e1, e2⟩ := Option.map_eq_some_iff.mp h
  obtain ⟨h1, h2⟩ := List.getElem?_eq_some_iff.mp e1
  rw [List.length_range] at h1
  simp only [List.getElem_range] at h2
  exact ⟨h1, by rw [← e2, h2]⟩
theorem wlk_R {K : PySem.W.Frag} {G : Hp} {i j : Int} : Wlk K (Itr i (j - i).toNat) G (upD i j) :=
  ⟨fun G' H' l k => by show _ ≤ _; rw [upD_len]; exact Nat.le_refl _, fun n d e G' H' l k => by
    obtain ⟨h1, rfl⟩ := upD_get e
    refine ⟨h1, fun x H'' y => ?_⟩
    obtain ⟨rfl, rfl⟩ := y
    exact ⟨G', Grow.refl k, .int _⟩⟩
def rg1 : D → Option (List D)
  | .int j => if -(2 ^ 62) ≤ j ∧ j < 2 ^ 62 then some (upD 0 j) else none
  | _ => none
def rg2 : D → D → Option (List D)
  | .int i, .int j => if -(2 ^ 62) ≤ i ∧ i < 2 ^ 62 ∧ -(2 ^ 62) ≤ j ∧ j < 2 ^ 62 then some (upD i j) else none
  | _, _ => none
theorem xi_range1 {tg : Expr} {p : Pos} (hm : X.mg "range" = none) (h : XP X W a en ma) (hg : Gl X "range" := by rfl) (hs : starEach [a] X.env = [(false, eval a X.env)] := by rfl) : XI X W tg (.Call (.Name "range" p) [a] [] pos) en (ma.bnd fun x => R.of (rg1 x)) := fun σ G H S Q k => by
  refine pi_to (pi_range1 hg hm pa_w hs) (xa_1 h hs σ G H S _ (wp_bnd.mpr (wp_mono (wp_bnd.mp k) (fun d hd vs G1 H1 w1 r1 => ?_) fun _ z => z)))
  obtain ⟨ds, e, hd⟩ := wp_of hd
  unfold rg1 at e
  split at e
  · split at e
    · rename_i j hz
      cases e
      cases r1 with
      | cons r1 r2 =>
        cases r1; cases r2
        have := hd (Itr 0 j.toNat) G1 H1 w1 (by have := wlk_R (K := X.K) (G := G1) (i := 0) (j := j); rw [Int.sub_zero] at this; exact this)
        exact ⟨j, rfl, hz.1, hz.2, this⟩
    · cases e
  · cases e
theorem xi_range2 {tg : Expr} {p : Pos} (hm : X.mg "range" = none) (h : XP X W a en ma) (h' : XP X W b en mb) (hg : Gl X "range" := by rfl) (hs : starEach [a, b] X.env = [(false, eval a X.env), (false, eval b X.env)] := by rfl) (hs2 : starEach [b] X.env = [(false, eval b X.env)] := by rfl) : XI X W tg (.Call (.Name "range" p) [a, b] [] pos) en (ma.bnd fun x => mb.bnd fun y => R.of (rg2 x y)) := fun σ G H S Q k => by
  refine pi_to (pi_range2 hg hm pa_w hs hs2) (xa_2 h h' (by rw [hs, hs2]) hs2 σ G H S _ (wp_bnd.mpr (wp_mono (wp_bnd.mp k) (fun d hd => wp_bnd.mpr (wp_mono (wp_bnd.mp hd) (fun y hy vs G1 H1 w1 r1 => ?_) fun _ z => z)) fun _ z => z)))
  obtain ⟨ds, e, hy⟩ := wp_of hy
  unfold rg2 at e
  split at e
  · split at e
    · rename_i i j hz
      cases e
      cases r1 with
      | cons r1 r2 =>
        cases r2 with
        | cons r2 r3 =>
          cases r1; cases r2; cases r3
          exact ⟨i, j, rfl, hz, hy _ G1 H1 w1 wlk_R⟩
    · cases e
  · cases e
theorem xi_rev {tg : Expr} {p : Pos} (hm : X.mg "reversed" = none) (h : XP X W a en ma) (hg : Gl X "reversed" := by rfl) (hs : starEach [a] X.env = (false, eval a X.env) :: starEach [] X.env := by rfl) : XI X W tg (.Call (.Name "reversed" p) [a] [] pos) en (ma.bnd fun x => R.of (x.seq.map List.reverse)) := fun σ G H S Q k => by
  refine pi_to (RT.pi_revA hg hm pe_w hs) (h σ G H S _ (wp_mono (wp_bnd.mp k) (fun d hd v G1 H1 w1 r1 => ?_) fun _ z => z))
  obtain ⟨ds, e, hd⟩ := wp_of hd
  obtain ⟨es, e1, rfl⟩ := Option.map_eq_some_iff.mp e
  have key : ∀ {vs : List V} (r : RpAll X.K G1 vs es) (i : Nat) (d : D), es.reverse[i]? = some d → ∃ v, vs[vs.length - 1 - i]? = some v ∧ Rp X.K G1 v d ∧ i < vs.length := fun {vs} r i d e => by
    have hi : i < es.length := by have := (List.getElem?_eq_some_iff.mp e).1; simpa using this
    rw [List.getElem?_reverse hi] at e
    obtain ⟨v, a1, a2⟩ := r.get e
    rw [← r.len] at a1
    exact ⟨v, a1, a2, by rw [r.len]; exact hi⟩
  unfold D.seq at e1
  split at e1
  · cases e1
    cases r1 with
    | @lst a vs _ h1 r1 =>
      refine ⟨_, vs, rfl, .inl ⟨.inl (w1.up.le _ _ rfl h1), hd _ G1 H1 w1 ⟨fun G' H' l k => ?_, fun i d e G' H' l k => ?_⟩⟩⟩
      · show vs.length ≤ _
        rw [List.length_reverse, r1.len]
        exact Nat.le_refl _
      · obtain ⟨v, a1, a2, a3⟩ := key r1 i d e
        have hq : SqL X.K H' a vs := .inl (k.le _ _ rfl (l _ _ rfl h1))
        refine ⟨⟨a3, vs, v, hq, a1⟩, fun x H'' y => ?_⟩
        obtain ⟨rfl, y⟩ := y
        have := y vs hq
        rw [a1] at this; cases this
        exact ⟨G', Grow.refl k, a2.up l⟩
  · cases e1
    cases r1 with
    | @tup a vs _ h1 r1 =>
      refine ⟨_, vs, rfl, .inr ⟨w1.up.le.seqT h1, hd _ G1 H1 w1 ⟨fun G' H' l k => ?_, fun i d e G' H' l k => ?_⟩⟩⟩
      · show vs.length ≤ _
        rw [List.length_reverse, r1.len]
        exact Nat.le_refl _
      · obtain ⟨v, a1, a2, a3⟩ := key r1 i d e
        have hq : SqT X.K H' a vs := k.le.seqT (l.seqT h1)
        refine ⟨⟨a3, vs, v, hq, a1⟩, fun x H'' y => ?_⟩
        obtain ⟨rfl, y⟩ := y
        have := y vs hq
        rw [a1] at this; cases this
        exact ⟨G', Grow.refl k, a2.up l⟩
  · cases e1
    cases r1 with
    | @tux a vs _ h1' r1 =>
      have h1 : SqT X.K G1 a vs := .inl h1'.1
      refine ⟨_, vs, rfl, .inr ⟨w1.up.le.seqT h1, hd _ G1 H1 w1 ⟨fun G' H' l k => ?_, fun i d e G' H' l k => ?_⟩⟩⟩
      · show vs.length ≤ _
        rw [List.length_reverse, r1.len]
        exact Nat.le_refl _
      · obtain ⟨v, a1, a2, a3⟩ := key r1 i d e
        have hq : SqT X.K H' a vs := k.le.seqT (l.seqT h1)
        refine ⟨⟨a3, vs, v, hq, a1⟩, fun x H'' y => ?_⟩
        obtain ⟨rfl, y⟩ := y
        have := y vs hq
        rw [a1] at this; cases this
        exact ⟨G', Grow.refl k, a2.up l⟩
  · cases e1
end
end Wk
set_option maxHeartbeats 4000000
/-! Wk7: comprehensions; lists that are one's own. -/
namespace Wk
open PySem PySem.Spec PyProof.Rows L2

/-- within a comprehension nothing may be refused -/
def noE {α : Type} : R α → R α
  | .err _ => .bad
  | m => m
@[simp] theorem noE_ok {α : Type} (a : α) : noE (R.ok a) = .ok a := by exact id rfl
theorem wp_noE {α : Type} {m : R α} {P : α → Prop} {E : Nat → Prop} (h : wp (noE m) P E) : wp m P fun _ => False := by
  cases m with
  | ok a => exact h
  | err c => exact h
  | bad => exact h
def lcI (t : D → R Bool) (f : D → R D) : List D → R (List D)
  | [] => .ok []
  | d :: ds => (noE (t d)).bnd fun b => if b = true then (noE (f d)).bnd fun y => (lcI t f ds).bnd fun ys => .ok (y :: ys) else lcI t f ds
def lcM (f : D → R D) : List D → R (List D)
  | [] => .ok []
  | d :: ds => (noE (f d)).bnd fun y => (lcM f ds).bnd fun ys => .ok (y :: ys)
theorem lcI_true (f : D → R D) : ∀ ds, lcI (fun _ => .ok true) f ds = lcM f ds
  | [] => rfl
  | d :: ds => by
    show (noE (f d)).bnd _ = (noE (f d)).bnd _
    rw [lcI_true f ds]
def lcIR (t : D → R Bool) (f : D → R D) (ds : List D) : R (List D) := if ds.length ≤ 16000000 then lcI t f ds else .bad
def lcR (f : D → R D) (ds : List D) : R (List D) := if ds.length ≤ 16000000 then lcM f ds else .bad
theorem lcIR_true (f : D → R D) (ds : List D) : lcIR (fun _ => .ok true) f ds = lcR f ds := by
  unfold lcIR lcR
  rw [lcI_true]
def clr (en : En) (vs : List Nat) : Bool := vs.all fun i => match en[i]? with
  | some none => true
  | _ => false
theorem clr_at {en : En} {vs : List Nat} (h : clr en vs = true) {i : Nat} (hi : i ∈ vs) : en[i]? = some none := by
  have := List.all_eq_true.mp h i hi
  split at this
  · assumption
  · cases this
/-- readings that hold wherever the block runs -/
def wEb (X : Cx) (scope : Scope) (e : Expr) : TE := fun σ H Q => ∀ (s : Shared) (H0 : Hp) (C : Addr) (cl : List (Str × Addr)) (fp : List Addr), wE (X.blk s H0 scope (compEnvC scope cl C X.env) fp) e σ H Q
theorem pe_wb {X : Cx} {scope : Scope} {e : Expr} (s : Shared) (H0 : Hp) (C : Addr) (cl : List (Str × Addr)) (fp : List Addr) : PE (X.blk s H0 scope (compEnvC scope cl C X.env) fp) e (wEb X scope e) := ⟨fun pins s' _ _ _ I h => h s H0 C cl fp pins s' I⟩
def wTb (X : Cx) (scope : Scope) (e : Expr) : TT := fun σ H Q => ∀ (s : Shared) (H0 : Hp) (C : Addr) (cl : List (Str × Addr)) (fp : List Addr), wT (X.blk s H0 scope (compEnvC scope cl C X.env) fp) e σ H Q
theorem pt_wb {X : Cx} {scope : Scope} {e : Expr} (s : Shared) (H0 : Hp) (C : Addr) (cl : List (Str × Addr)) (fp : List Addr) : PT (X.blk s H0 scope (compEnvC scope cl C X.env) fp) e (wTb X scope e) := ⟨fun pins s' _ _ _ I h => h s H0 C cl fp pins s' I⟩
abbrev W0 : WN := fun _ _ _ => False
/-- a block's judgements -/
def BP (X : Cx) (scope : Scope) (e : Expr) (en : En) (m : R D) : Prop := ∀ (s : Shared) (H0 : Hp) (C : Addr) (cl : List (Str × Addr)) (fp : List Addr), XP (X.blk s H0 scope (compEnvC scope cl C X.env) fp) W0 e en m
def BT (X : Cx) (scope : Scope) (e : Expr) (en : En) (m : R Bool) : Prop := ∀ (s : Shared) (H0 : Hp) (C : Addr) (cl : List (Str × Addr)) (fp : List Addr), XT (X.blk s H0 scope (compEnvC scope cl C X.env) fp) W0 e en m
section
variable {K : PySem.W.Frag} {en : En} {σ : L2.St} {G H : Hp}
theorem Grow.mutD {G2 H2 : Hp} {p : Addr} {o : HO} (w : Grow G H G2 H2) (hp : H p = none) (gp : G2 p = none) : Grow G H G2 (upd H2 p o) :=
  ⟨w.g, w.up.mutQ gp, fun a u e => by rw [upd_ne (ne_of_none e hp)]; exact w.h a u e, w.cl⟩
theorem Sl.wipe {vs : List Nat} (s : Sl K en σ G H) (h : clr en vs = true) : Sl K en (L2.wipe σ vs) G H := by
  refine ⟨s.le, by rw [wipe_length]; exact s.len, fun i dv e => ?_, s.ones⟩
  obtain ⟨v, a, b⟩ := s.at_ i dv e
  refine ⟨v, ?_, b⟩
  rw [wipe_out fun hi => ?_]
  · exact a
  · rw [clr_at h hi] at e; cases e
theorem Sl.set {i : Nat} {v : V} {d : D} (s : Sl K en σ G H) (r : Rp K G v d) : Sl K (en.set i (some (.v d))) (σ.set i (some v)) G H := by
  refine ⟨s.le, by simp [s.len], fun j dv e => ?_, fun j k b b' p p' c c' e e' zz => ?_⟩
  · rcases get_set e with ⟨rfl, e1⟩ | ⟨n, f1⟩
    · cases e1
      have hj : j < σ.length := by
        rw [s.len]
        have := (List.getElem?_eq_some_iff.mp e).1
        simpa using this
      exact ⟨v, List.getElem?_set_self hj, r⟩
    · obtain ⟨u, a, b⟩ := s.at_ j dv f1
      exact ⟨u, by rw [List.getElem?_set_ne (Ne.symm n)]; exact a, b⟩
  · rcases get_set e with ⟨rfl, e1⟩ | ⟨n, f1⟩
    · cases e1
    · rcases get_set e' with ⟨rfl, e1⟩ | ⟨n', f2⟩
      · cases e1
      · exact s.ones j k b b' p p' c c' f1 f2 zz
theorem wipe_set {σ : L2.St} {i : Nat} {x : Option V} : ∀ {vs : List Nat}, i ∈ vs → wipe (σ.set i x) vs = wipe σ vs
  | v :: vs, h => by
    by_cases hv : i ∈ vs
    · unfold wipe
      rw [wipe_set hv]
    · have e : i = v := by
        rcases List.mem_cons.mp h with z | z
        · exact z
        · exact absurd z hv
      subst e
      unfold wipe
      have key : ∀ {vs : List Nat}, i ∉ vs → wipe (σ.set i x) vs = (wipe σ vs).set i x := by
        intro vs
        induction vs with
        | nil => intro _; rfl
        | cons u us ih =>
          intro hn
          unfold wipe
          have h1 : i ≠ u := fun z => hn (by rw [z]; exact List.mem_cons_self)
          have h2 : i ∉ us := fun z => hn (List.mem_cons_of_mem _ z)
          rw [ih h2, List.set_comm _ _ h1]
      rw [key hv, List.set_set]
theorem wipe_wipe {σ : L2.St} : ∀ (vs us : List Nat), (∀ i ∈ vs, i ∈ us) → wipe (wipe σ vs) us = wipe σ us
  | [], _, _ => rfl
  | v :: vs, us, h => by
    show wipe ((wipe σ vs).set v none) us = _
    rw [wipe_set (h v List.mem_cons_self)]
    exact wipe_wipe vs us fun i hi => h i (List.mem_cons_of_mem _ hi)
end
/-- a comprehension's target -/
def TgL (K : PySem.W.Frag) (g : TG) (vs : List Nat) (f : En → D → Option En) : Prop := ∀ en σ G H, Sl K en σ G H → ∀ d v en', Rp K G v d → f en d = some en' → ∀ Q : L2.St → Hp → Prop, (∀ σ', Sl K en' σ' G H → wipe σ' vs = wipe σ vs → Q σ' H) → g v σ H Q
section
variable {X : Cx} {W : WN} {eE : En} {en : En} {ec : Nat → Addr} {pos : Pos}
theorem tl_name {i : Nat} : TgL X.K (gName i) [i] (fun en d => some (en.set i (some (.v d)))) := fun en σ G H S d v en' r e Q k => by
  cases e
  exact k _ (S.set r) (wipe_set (by simp))
theorem tl_two {i j : Nat} : TgL X.K (gTup X.K 2 (gCons (gName i) (gCons (gName j) gNil))) [i, j] (fun en d => d.two.map fun p => (en.set i (some (.v p.1))).set j (some (.v p.2))) := fun en σ G H S d v en' r e Q k => by
  obtain ⟨⟨x, y⟩, e1, e2⟩ := Option.map_eq_some_iff.mp e
  unfold D.two at e1
  split at e1
  · cases e1
    cases r with
    | tup hs ha =>
      cases ha with
      | cons r1 h2 =>
        cases h2 with
        | cons r2 h3 =>
          cases h3
          rw [← e2] at k
          exact ⟨_, _, rfl, S.le.le.seqT hs, rfl, _, _, rfl, _, _, rfl, rfl, k _ ((S.set r1).set r2) (by rw [wipe_set (by simp), wipe_set (by simp)])⟩
  · cases e1
theorem tl_three {i j l : Nat} : TgL X.K (gTup X.K 3 (gCons (gName i) (gCons (gName j) (gCons (gName l) gNil)))) [i, j, l] (fun en d => d.three.map fun p => ((en.set i (some (.v p.1))).set j (some (.v p.2.1))).set l (some (.v p.2.2))) := fun en σ G H S d v en' r e Q k => by
  obtain ⟨⟨x, y, z⟩, e1, e2⟩ := Option.map_eq_some_iff.mp e
  unfold D.three at e1
  split at e1
  · cases e1
    cases r with
    | tup hs ha =>
      cases ha with
      | cons r1 h2 =>
        cases h2 with
        | cons r2 h3 =>
          cases h3 with
          | cons r3 h4 =>
            cases h4
            rw [← e2] at k
            exact ⟨_, _, rfl, S.le.le.seqT hs, rfl, _, _, rfl, _, _, rfl, _, _, rfl, rfl, k _ (((S.set r1).set r2).set r3) (by rw [wipe_set (by simp), wipe_set (by simp), wipe_set (by simp)])⟩
  · cases e1
/-- the run of a comprehension -/
theorem lc_run {tg it elt : Expr} {scope : Scope} {g : TG} {tt : TT} {vs : List Nat} {f : En → D → Option En} {mi : R (List D)} {mt : D → R Bool} {me : D → R D} (hi : XI X W tg it en mi) (ht : TgL X.K g vs f) (hc : clr en vs = true)
    (hb : ∀ d (P : Bool → Prop) (E : Nat → Prop), wp (mt d) P E → ∃ e', f en d = some e' ∧ (∀ σ G H, Sl X.K e' σ G H → ∀ Q : Bool → Hp → Prop, wp (mt d) (fun b => ∀ G2 H2, Grow G H G2 H2 → Q b H2) (fun _ => False) → tt σ H Q) ∧ BP X scope elt e' (me d))
    (σ : L2.St) (G H : Hp) (S : Sl X.K en σ G H) (Q : VK) (q : wp (mi.bnd fun ds => lcIR mt me ds) (fun ys => NewL X.K G H ys Q) (fun c => ∀ G2 H2, Grow G H G2 H2 → W c σ H2)) : tLc (wI X tg it) g tt (wEb X scope elt) vs σ H Q := by
  refine hi σ G H S _ (wp_mono (wp_bnd.mp q) (fun ds hd J G1 H1 w1 wk => ?_) fun _ z => z)
  unfold lcIR at hd
  by_cases hln : ds.length ≤ 16000000
  · rw [if_pos hln] at hd
    intro D hD
    have hpD : H D = none := Option.eq_none_iff_forall_ne_some.mpr fun o z => by rw [w1.h D o z] at hD; cases hD
    refine ⟨fun i m H' => m = ds.length - i ∧ i ≤ ds.length ∧ ∃ G' acc dn, Grow G1 H1 G' H' ∧ H' D = some (.lst acc) ∧ G' D = none ∧ RpAll X.K G' acc dn ∧ acc.length ≤ i ∧ wp (lcI mt me (ds.drop i)) (fun ys => NewL X.K G H (dn ++ ys) Q) (fun c => ∀ G2 H2, Grow G H G2 H2 → W c σ H2),
      ⟨_, rfl, Nat.zero_le _, G1, [], [], Grow.own w1.up hD, upd_same, w1.up.kn D hD, .nil, Nat.le_refl _, hd⟩, ?_⟩
    rintro i m H' ⟨rfl, hi', G', acc, dn, w', hA, gA, rA, lA, p⟩
    by_cases hlt : i < ds.length
    · rw [List.drop_eq_getElem_cons hlt] at p
      obtain ⟨go, yl⟩ := wk.go i ds[i] (List.getElem?_eq_getElem hlt) G' H' w'.g w'.up
      refine .inr ⟨go, fun H3 => ∃ G3 acc dn, Grow G1 H1 G3 H3 ∧ H3 D = some (.lst acc) ∧ G3 D = none ∧ RpAll X.K G3 acc dn ∧ acc.length ≤ i + 1 ∧ wp (lcI mt me (ds.drop (i + 1))) (fun ys => NewL X.K G H (dn ++ ys) Q) (fun c => ∀ G2 H2, Grow G H G2 H2 → W c σ H2),
        fun H3 ⟨G3, acc, dn, h⟩ => ⟨ds.length - (i + 1), by omega, rfl, hlt, G3, acc, dn, h⟩, fun x H4 y => ?_⟩
      obtain ⟨G4, w4, r4⟩ := yl x H4 y
      have p1 := wp_bnd.mp p
      have p2 := wp_noE p1
      obtain ⟨e', ef, ht', hp'⟩ := hb ds[i] _ _ p2
      have wA := w'.trans w4
      have S4 : Sl X.K en (wipe σ vs) G4 H4 := ((S.grow w1).grow wA).wipe hc
      refine ht en (wipe σ vs) G4 H4 S4 ds[i] x e' r4 ef _ fun σ5 S5 hw => ⟨?_, ?_⟩
      · rw [hw]; exact wipe_wipe _ _ fun _ h => h
      · refine ht' σ5 G4 H4 S5 _ (wp_mono p2 (fun b hb G5 H5 w5 => ?_) fun _ z => z)
        have nD4 : ∀ {G5 H5 : Hp}, Grow G4 H4 G5 H5 → H5 D = some (.lst acc) ∧ G5 D = none := fun {G5 H5} w5 =>
          ⟨w5.h _ _ (w4.h _ _ hA), w5.cl D (w4.cl D gA ⟨_, hA, trivial⟩) ⟨_, w4.h _ _ hA, trivial⟩⟩
        cases b with
        | false =>
          show ∃ G3 acc dn, _
          exact ⟨G5, acc, dn, wA.trans w5, (nD4 w5).1, (nD4 w5).2, rA.up (w4.g.trans w5.g), by omega, hb⟩
        | true =>
          show wEb X scope elt σ5 H5 _
          intro s0 H0 C cl fp
          refine hp' s0 H0 C cl fp σ5 G5 H5 (S5.grow w5) _ (wp_mono (wp_noE (wp_bnd.mp hb)) (fun d hd v G6 H6 w6 r6 => ?_) fun _ z => z.elim)
          have n6 := nD4 (w5.trans w6)
          refine ⟨acc, n6.1, Nat.lt_of_le_of_lt lA (Nat.lt_of_lt_of_le hlt (size_ok hln)), G6, acc ++ [v], dn ++ [d], ((wA.trans w5).trans w6).mutD hD n6.2, upd_same, n6.2, (rA.up (w4.g.trans (w5.g.trans w6.g))).app (.cons r6 .nil), by rw [List.length_append]; show _ + 1 ≤ _; omega, ?_⟩
          refine wp_mono (wp_bnd.mp hd) (fun ys hy => ?_) fun _ z => z
          show NewL X.K G H (dn ++ [d] ++ ys) Q
          rw [List.append_assoc]
          exact hy
    · have ei : i = ds.length := by omega
      subst ei
      rw [List.drop_length] at p
      have p : NewL X.K G H (dn ++ []) Q := p
      rw [List.append_nil] at p
      exact .inl ⟨wk.stop G' H' w'.g w'.up, p D acc G' H' (w1.trans w') hpD gA hA rA⟩
  · rw [if_neg hln] at hd
    exact hd.elim
def tYesB : TT := tYes
/-- [e for x in it] -/
theorem xn_lc {i : Nat} {x : Str} {p : Pos} {it elt : Expr} {scope : Scope} {mi : R (List D)} {me : D → R D} (g : Go X ec W) (hi : XI X W (.Name x p) it en mi) (he : ∀ d, BP X scope elt (en.set i (some (.v d))) (me d)) (hblk : BlkOk X.N X.env.scope scope [(x, i)]) (hc : clr en [i] = true := by rfl)
    (hN : X.N[i]? = some x := by rfl) (hx : ∀ (s : Shared) (H0 : Hp) (C : Addr) (cl : List (Str × Addr)) (fp : List Addr), Loc (X.blk s H0 scope (compEnvC scope cl C X.env) fp).env.scope x := by intros; first | exact Or.inl rfl | exact Or.inr rfl)
    (hf : ∀ (s : Shared) (H0 : Hp) (C : Addr) (cl : List (Str × Addr)) (fp : List Addr), (X.blk s H0 scope (compEnvC scope cl C X.env) fp).fn x = true ∨ (X.blk s H0 scope (compEnvC scope cl C X.env) fp).env.scope.names.lookup x = some .local := by intros; first | exact .inl rfl | exact .inr rfl)
    (hs : ∀ x, foldedSetIterable it X.env x = pure x := by intro _; rfl) : XN X W (.ListComp elt [⟨.Name x p, it, [], 0⟩] scope pos) en (mi.bnd fun ds => lcR me ds) := fun σ G H S Q q => by
  refine pe_to (pe_lc (own := [(x, i)]) g.calm g.nd pi_w hblk (fun s H0 C cl fp => pg_name g.nd hN (hx s H0 C cl fp) (hf s H0 C cl fp)) (fun _ _ _ _ _ => pts_nil) pe_wb hs) ?_
  refine lc_run (mt := fun _ => .ok true) hi tl_name hc (fun d P E _ => ⟨_, rfl, fun σ G H S Q k => k G H (Grow.refl S.le), he d⟩) σ G H S Q ?_
  simp only [lcIR_true]
  exact q
/-- [e for x in it if c] -/
theorem xn_lcI {i : Nat} {x : Str} {p : Pos} {it elt c : Expr} {scope : Scope} {mi : R (List D)} {mt : D → R Bool} {me : D → R D} (g : Go X ec W) (hi : XI X W (.Name x p) it en mi) (ht : ∀ d, BT X scope c (en.set i (some (.v d))) (mt d)) (he : ∀ d, BP X scope elt (en.set i (some (.v d))) (me d)) (hblk : BlkOk X.N X.env.scope scope [(x, i)]) (hc : clr en [i] = true := by rfl)
    (hN : X.N[i]? = some x := by rfl) (hx : ∀ (s : Shared) (H0 : Hp) (C : Addr) (cl : List (Str × Addr)) (fp : List Addr), Loc (X.blk s H0 scope (compEnvC scope cl C X.env) fp).env.scope x := by intros; first | exact Or.inl rfl | exact Or.inr rfl)
    (hf : ∀ (s : Shared) (H0 : Hp) (C : Addr) (cl : List (Str × Addr)) (fp : List Addr), (X.blk s H0 scope (compEnvC scope cl C X.env) fp).fn x = true ∨ (X.blk s H0 scope (compEnvC scope cl C X.env) fp).env.scope.names.lookup x = some .local := by intros; first | exact .inl rfl | exact .inr rfl)
    (hs : ∀ x, foldedSetIterable it X.env x = pure x := by intro _; rfl) : XN X W (.ListComp elt [⟨.Name x p, it, [c], 0⟩] scope pos) en (mi.bnd fun ds => lcIR mt me ds) := fun σ G H S Q q => by
  refine pe_to (pe_lc (own := [(x, i)]) g.calm g.nd pi_w hblk (fun s H0 C cl fp => pg_name g.nd hN (hx s H0 C cl fp) (hf s H0 C cl fp)) (fun s H0 C cl fp => pts_one (pt_wb s H0 C cl fp)) pe_wb hs) ?_
  exact lc_run hi tl_name hc (fun d P E _ => ⟨_, rfl, fun σ G H S Q k s0 H0 C cl fp => ht d s0 H0 C cl fp σ G H S Q (wp_mono k (fun _ z => z) fun _ z => z.elim), he d⟩) σ G H S Q q
end
end Wk
set_option maxHeartbeats 4000000
/-! Wk8: borrowing, owned lists, several names at once, chains. -/
namespace PySem.AutoSeq1
open PySem PySem.Spec
theorem ext_tup (l : Addr) (items : Array Value) (n : Nat) (b : Addr) (items2 : Array Value) (n2 : Nat) (dd : Option Addr) (sl : Array (Option Value)) (hs0 : ¬(!items.isEmpty && Builtin.List.listTooLong (items.size + items2.size)) = true) (hs1 : items.size ≤ sizeLine) (hs2 : items.size + items2.size ≤ sizeLine + 1) :
    Meets (Builtin.«list.extend» ⟨[.ref l, .ref b], []⟩) (fun _ R s => s.heap.get? l = some { cls := .type "list", dict := none, data := .seq items n, slots := #[] } ∧ s.heap.get? b = some { cls := .type "tuple", dict := dd, data := .seq items2 n2, slots := sl } ∧ R (.ok (.ret Value.none)) { s with heap := s.heap.update l (Obj.mapSeq fun x => x ++ items2), toks := s.toks }) :=
  .of_wp fun prog w A R s h => by
    obtain ⟨hp, g, d, tk, os⟩ := s; obtain ⟨hl, hb, h⟩ := h; have f1 := idx_int; have f2 := sub_tuple_tuple; have f3 := sub_list_list; have f4 := sub_tuple_list; have f5 := sub_list_tuple;
    have hz' : (items ++ items2).size ≤ sizeLine + 1 := by rw [Array.size_append]; exact hs2
    wp_walk using (wpAny_updateSeq hl rfl (hz := hs1) (_hz' := hz')), wpAny_loadPart' hl, wpAny_loadPart' hb; exact ⟨_, rfl, h⟩
end PySem.AutoSeq1
namespace Wk
open PySem PySem.Spec PyProof.Rows L2

section
variable {X : Cx} {W : WN} {eE : En} {en en' : En} {ec : Nat → Addr} {pos : Pos} {ω : Type} {T : Bs → ω → Ends → Prop} {rest : List Stmt}
theorem Go.blk {scope : Scope} (g : Go X ec W) (s : Shared) (H0 : Hp) (C : Addr) (cl : List (Str × Addr)) (fp : List Addr) : Go (X.blk s H0 scope (compEnvC scope cl C X.env) fp) ec W0 :=
  ⟨g.calm, PassesOwn.never, g.nd, fun _ _ x => by
    obtain ⟨_, _, _, _, _, _, _, _, _, _, _, _, _, _, _, _, z⟩ := x
    obtain ⟨_, _, _, z⟩ := z
    exact z.elim⟩
theorem Sl.weak {K : PySem.W.Frag} {σ : L2.St} {G H : Hp} (s : Sl K en σ G H) (w : Wkn en' en) : Sl K en' σ G H :=
  ⟨s.le, s.len.trans w.len.symm, fun i dv e => s.at_ i dv (w.wk0 i dv e), fun i j b b' p p' c c' e e' zz => s.ones i j b b' p p' c c' (w.wk0 i _ e) (w.wk0 j _ e') zz⟩
theorem xp_wk {e : Expr} {m : R D} (w : Wkn en' en) (h : XP X W e en' m) : XP X W e en m := fun σ G H S Q k => h σ G H (S.weak w) Q k
theorem xn_wk {e : Expr} {m : R (List D)} (w : Wkn en' en) (h : XN X W e en' m) : XN X W e en m := fun σ G H S Q k => h σ G H (S.weak w) Q k
theorem xt_wk {e : Expr} {m : R Bool} (w : Wkn en' en) (h : XT X W e en' m) : XT X W e en m := fun σ G H S Q k => h σ G H (S.weak w) Q k

/-! ### borrowing -/
def hidG (G : Hp) (p : Addr) : Hp := fun a => if a = p then none else G a
/-- an owned object without others in it is data, for a while -/
theorem borrowO {K : PySem.W.Frag} {σ : L2.St} {G H : Hp} {i : Nat} {b : Bool} {p : Addr} {c : OO} {d : D} {o : HO} (S : Sl K en σ G H) (he : en[i]? = some (some (.o b p c))) (ho : H p = some o) (hr : ∀ G', Le G G' → Rd G' p o → Rp K G' (.ref p) d) (hs : c.sub = [] := by rfl) :
    ∃ G', Sl K (en.set i (some (.v d))) σ G' H ∧ ∀ G2 H2, Grow G' H G2 H2 → Grow G H (hidG G2 p) H2 := by
  obtain ⟨v0, e0, rfl, r⟩ := S.at_ i _ he
  have g0 := r.fpG fp_top
  have l : Le G (upd G p o) := Le.upd g0
  refine ⟨upd G p o, ⟨S.le.know g0 ho, by simp [S.len], fun j dv ej => ?_, fun j k b b' q q' c c' ej ek zz => ?_⟩, fun G2 H2 w => ⟨⟨fun a u pu ru => ?_, fun a xs ru => ?_⟩, ⟨⟨fun a u pu ru => ?_, fun a xs ru => ?_⟩, fun a n => ?_⟩, w.h, fun a n m => ?_⟩⟩
  · rcases get_set ej with ⟨rfl, e1⟩ | ⟨n, fj⟩
    · cases e1; exact ⟨_, e0, hr _ l (.inl upd_same)⟩
    · obtain ⟨u, x, y⟩ := S.at_ j dv fj
      refine ⟨u, x, ?_⟩
      cases dv with
      | v d => exact Rp.up l y
      | o b2 q c2 => exact ⟨y.1, y.2.know g0 fun z => n (S.ones j i _ _ _ _ _ _ fj he ⟨p, z, fp_top⟩)⟩
  · rcases get_set ej with ⟨rfl, e1⟩ | ⟨n, fj⟩
    · cases e1
    · rcases get_set ek with ⟨rfl, e1⟩ | ⟨n', fk⟩
      · cases e1
      · exact S.ones j k _ _ _ _ _ _ fj fk zz
  · have na : a ≠ p := fun z => by
      subst z
      rcases ru with z | ⟨_, z⟩ <;> (rw [g0] at z; cases z)
    rcases w.g a u pu (l a u pu ru) with z | ⟨x, z⟩
    · exact .inl (by unfold hidG; rw [if_neg na]; exact z)
    · exact .inr ⟨x, by unfold hidG; rw [if_neg na]; exact z⟩
  · have na : a ≠ p := fun z => by rw [z, g0] at ru; cases ru
    unfold hidG; rw [if_neg na]; exact w.g.tp a xs (l.tp a xs ru)
  · refine w.up.le a u pu ?_
    unfold hidG at ru
    rcases ru with z | ⟨x, z⟩
    · by_cases na : a = p
      · simp only [na, if_true] at z; cases z
      · simp only [na, if_false] at z; exact .inl z
    · by_cases na : a = p
      · simp only [na, if_true] at z; cases z
      · simp only [na, if_false] at z; exact .inr ⟨x, z⟩
  · unfold hidG at ru
    by_cases na : a = p
    · rw [if_pos na] at ru; cases ru
    · rw [if_neg na] at ru; exact w.up.le.tp a xs ru
  · unfold hidG
    by_cases na : a = p
    · rw [if_pos na]
    · rw [if_neg na]; exact w.up.kn a n
  · unfold hidG
    by_cases na : a = p
    · rw [if_pos na]
    · rw [if_neg na]
      exact w.cl a (by rw [upd_ne na]; exact n) m
theorem borrow {K : PySem.W.Frag} {σ : L2.St} {G H : Hp} {i : Nat} {b : Bool} {p : Addr} {ds : List D} (S : Sl K en σ G H) (he : en[i]? = some (some (.o b p (.l ds)))) :
    ∃ G', Sl K (en.set i (some (.v (.lst ds)))) σ G' H ∧ ∀ G2 H2, Grow G' H G2 H2 → Grow G H (hidG G2 p) H2 := by
  obtain ⟨v0, e0, rfl, g0, vs, hp, r⟩ := S.atL he
  exact borrowO S he hp fun G' l rd => .lst rd (r.up l)
theorem borrowK {K : PySem.W.Frag} {σ : L2.St} {G H : Hp} {i : Nat} {b : Bool} {p : Addr} {m : List (Key × D)} (S : Sl K en σ G H) (he : en[i]? = some (some (.o b p (.k m)))) :
    ∃ G', Sl K (en.set i (some (.v (.dK (m.map (·.1)) (m.map (·.2)))))) σ G' H ∧ ∀ G2 H2, Grow G' H G2 H2 → Grow G H (hidG G2 p) H2 := by
  obtain ⟨v0, e0, rfl, g0, kvs, hp, r, nd⟩ := S.atK he
  refine borrowO S he hp fun G' l rd => .dK rd (vs := kvs.map (·.2)) ?_ ?_ nd (r.2.up l)
  · rw [← r.1]; exact zip_split kvs
  · have := congrArg List.length r.1; simp at this ⊢; omega
theorem xt_bor {i : Nat} {b : Bool} {p : Addr} {ds : List D} {e : Expr} {m : R Bool} (φ : En) (h : XT X W e φ m) (he : en[i]? = some (some (.o b p (.l ds))) := by rfl) (hφ : en.set i (some (.v (.lst ds))) = φ := by rfl) : XT X W e en m := fun σ G H S Q k => by
  obtain ⟨G', S', w'⟩ := borrow S he
  rw [hφ] at S'
  exact h σ G' H S' Q (wp_mono k (fun b hb G2 H2 w => hb _ H2 (w' G2 H2 w)) fun c hc G2 H2 w => hc _ H2 (w' G2 H2 w))
def D.flat : D → Option D
  | .non => some .non
  | .bl b => some (.bl b)
  | .int i => some (.int i)
  | .str x => some (.str x)
  | _ => none
theorem flat_rp {K : PySem.W.Frag} {G G' : Hp} {v : V} {d e : D} (h : d.flat = some e) (r : Rp K G v d) : e = d ∧ Rp K G' v d := by
  cases d <;> cases h <;> cases r
  · exact ⟨rfl, .non⟩
  · exact ⟨rfl, .bl _⟩
  · exact ⟨rfl, .int _⟩
  · exact ⟨rfl, .str _⟩
theorem xp_bor {i : Nat} {b : Bool} {p : Addr} {ds : List D} {e : Expr} {m : R D} (φ : En) (h : XP X W e φ m) (he : en[i]? = some (some (.o b p (.l ds))) := by rfl) (hφ : en.set i (some (.v (.lst ds))) = φ := by rfl) : XP X W e en (m.bnd fun d => R.of d.flat) := fun σ G H S Q k => by
  obtain ⟨G', S', w'⟩ := borrow S he
  rw [hφ] at S'
  refine h σ G' H S' Q (wp_mono (wp_bnd.mp k) (fun d hd v G2 H2 w r => ?_) fun c hc G2 H2 w => hc _ H2 (w' G2 H2 w))
  obtain ⟨d', e', hd3⟩ := wp_of hd
  obtain ⟨rfl, r'⟩ := flat_rp (G' := hidG G2 p) e' r
  exact hd3 v _ H2 (w' G2 H2 w) r'
/-! owned lists read -/
theorem own_var {K : PySem.W.Frag} {σ : L2.St} {G H : Hp} {i : Nat} {b : Bool} {p : Addr} {ds : List D} (S : Sl K en σ G H) (he : en[i]? = some (some (.o b p (.l ds)))) : σ[i]? = some (some (.ref p)) ∧ ∃ vs, H p = some (.lst vs) ∧ RpAll K G vs ds := by
  obtain ⟨v, e, rfl, _, vs, h, r⟩ := S.atL he
  exact ⟨e, vs, h, r⟩
/-- x[e], x one's own -/
theorem xp_ixO {i : Nat} {b : Bool} {p : Addr} {px : Pos} {ds : List D} {x : Str} {a : Expr} {ma : R D} (ha : XP X W a en ma) (he : en[i]? = some (some (.o b p (.l ds))) := by rfl) (hs : PlainIx a := by intro _ _; rfl) (hN : X.N[i]? = some x := by rfl) (hv : Vis X.env.scope x := by first | exact Or.inl rfl | exact Or.inr (Or.inl rfl) | exact Or.inr (Or.inr rfl))
    (hd : (x == ("__debug__" : Str)) = false := by decide) (hcd : (x == ("__classdict__" : Str)) = false := by decide) : XP X W (.Subscript (.Name x px) a pos) en (ma.bnd fun y => R.of (D.ix (.lst ds) y)) := fun σ G H S Q k => by
  obtain ⟨e1, vs, hp, r⟩ := own_var S he
  refine pe_to (pe_ix ix_list (pe_var hN hv hd hcd) pe_w hs) ⟨.ref p, e1, ha σ G H S _ (wp_mono (wp_bnd.mp k) (fun y hy v G1 H1 w1 r1 => ?_) fun _ z => z)⟩
  obtain ⟨d, e2, hd⟩ := wp_of hy
  unfold D.ix at e2
  split at e2
  · rename_i xs i' ej
    cases ej
    cases r1
    obtain ⟨u, hu, ru⟩ := r.at_ e2
    exact ⟨p, vs, _, u, rfl, rfl, .inl (.inl (w1.h _ _ hp)), hu, hd u G1 H1 w1 (ru.up w1.g)⟩
  · rename_i xs i' ej
    cases ej
  · rename_i xs i' ej
    cases ej
  · rename_i xs i' ej
    cases ej
  · cases e2
/-- tuple(x), x one's own -/
theorem xp_tupO {i : Nat} {b : Bool} {p : Addr} {px pc : Pos} {ds : List D} {x : Str} (hm : X.mg "tuple" = none) (he : en[i]? = some (some (.o b p (.l ds))) := by rfl) (hg : Gl X "tuple" := by rfl) (hN : X.N[i]? = some x := by rfl) (hv : Vis X.env.scope x := by first | exact Or.inl rfl | exact Or.inr (Or.inl rfl) | exact Or.inr (Or.inr rfl))
    (hd : (x == ("__debug__" : Str)) = false := by decide) (hcd : (x == ("__classdict__" : Str)) = false := by decide) (hs : starEach [.Name x px] X.env = (false, eval (.Name x px) X.env) :: starEach [] X.env := by rfl) (hp2 : (backTo pos (starEach [] X.env)).any (·.1) = false := by rfl) : XP X W (.Call (.Name "tuple" pc) [.Name x px] [] pos) en (.ok (.tup ds)) := fun σ G H S Q k => by
  obtain ⟨e1, vs, hp, r⟩ := own_var S he
  refine pe_to (pe_callTy call_tuple_of hg hm (by decide +kernel) (pa_cons (pe_var hN hv hd hcd) pa_nil hs) (by decide) (by decide) hs hp2) ⟨.ref p, e1, p, vs, rfl, .inl ⟨.inl (.inl hp), fun q hq => ?_⟩⟩
  have w := Grow.new (o := .tup vs) S.le hq rfl
  exact k _ _ _ w (.tup (.inl (.inl upd_same)) (r.up w.g))
/-! owned lists changed -/
theorem st_at {B : Bs} {σ : L2.St} {G H : Hp} {i : Nat} {b : Bool} {p : Addr} {ds : List D} (S : St8 X.K B en σ G H) (he : en[i]? = some (some (.o b p (.l ds)))) : σ[i]? = some (some (.ref p)) ∧ G p = none ∧ ∃ vs, H p = some (.lst vs) ∧ RpAll X.K G vs ds := by
  obtain ⟨v, e, rfl, g, vs, h, r⟩ := S.es.atL he
  exact ⟨e, g, vs, h, r⟩
/-- a list's method that hands back nothing -/
def MutD (K : PySem.W.Frag) (r : V → List V → Hp → VK → Prop) (f : List D → D → Option (List D)) : Prop := ∀ G H p vs ds v d ds', Lk G H → H p = some (.lst vs) → RpAll K G vs ds → Rp K G v d → f ds d = some ds' → ∀ Q : VK, (∀ vs', RpAll K G vs' ds' → Q .non (upd H p (.lst vs'))) → r (.ref p) [v] H Q
/-- x.m(e), x one's own list, nothing handed back -/
theorem xb_mut {i : Nat} {b : Bool} {p : Addr} {px pa pc : Pos} {ds : List D} {x name : Str} {id : String} {a : Expr} {ma : R D} {r : V → List V → Hp → VK → Prop} {f : List D → D → Option (List D)} {k : List D → R ω} (slot : Slot "list" name id) (hty : typeOf (.builtin id) = pure (.type "method_descriptor")) (hm : MtR X id r) (hf : MutD X.K r f)
    (φ : List D → En) (ha : XP X W a en ma) (hk : ∀ ds, XB X W eE rest (φ ds) (k ds) T) (he : en[i]? = some (some (.o b p (.l ds))) := by rfl) (hφ : ∀ ds, en.set i (some (.o b p (.l ds))) = φ ds := by intro _; rfl) (we : Wk0 eE en := by first | exact wk0_nil | exact wk0_refl | assumption | exact Wkn.wk0 (by repeat' first | exact Wkn.nil | apply Wkn.k | apply Wkn.d))
    (hN : X.N[i]? = some x := by rfl) (hv : Vis X.env.scope x := by first | exact Or.inl rfl | exact Or.inr (Or.inl rfl) | exact Or.inr (Or.inr rfl)) (hd : (x == ("__debug__" : Str)) = false := by decide) (hcd : (x == ("__classdict__" : Str)) = false := by decide)
    (hbase : attributeBase (.Name x px) name X.env (eval (.Name x px) X.env) = eval (.Name x px) X.env := by rfl)
    (hfew : ((backTo pc (starEach [a] X.env)).all (fun x => !x.1) && (backToKw pc (keywordEach [] X.env)).all (fun x => x.1.isSome)
      && decide (([a] : List Expr).length + ([] : List Keyword).length + (if ([] : List Keyword).isEmpty then 0 else 1) < 30)) = true := by rfl)
    (hline : (pa.endLine == pc.line) = true := by rfl) (hs : starEach [a] X.env = (false, eval a X.env) :: starEach [] X.env := by rfl) (hplain : (backTo pc (starEach [] X.env)).any (·.1) = false := by rfl)
    (hsw : swapsWith (.Call (.Attribute (.Name x px) name pa) [a] [] pc) none pos.line X.env = pure false := by first | exact swaps_no rfl | exact swapsS_no rfl | rfl) : XB X W eE (.Expr (.Call (.Attribute (.Name x px) name pa) [a] [] pc) pos :: rest) en (ma.bnd fun d => (R.of (f ds d)).bnd k) T := fun B σ G H S D q => by
  obtain ⟨e1, g0, vs, hp, rr⟩ := st_at S he
  refine pss_to (pss_cons (ps_expr (pe_bm PySem.F.plainAttrs_list slot hty hm (pe_var hN hv hd hcd) (pa_cons pe_w pa_nil hs) hbase hfew hline hs hplain) hsw) pss_w) ⟨.ref p, e1, .inl ⟨rfl, vs, .inl (.inl hp)⟩, ?_⟩
  refine xp_run ha S we (wp_mono (wp_bnd.mp q) (fun d hd' v G1 H1 l S1 r1 => ?_) fun _ z => z)
  obtain ⟨ds', e2, hd2⟩ := wp_of (wp_bnd.mp hd')
  obtain ⟨e3, g3, us, hp3, r3⟩ := st_at S1 he
  refine hf G1 H1 p us ds v d ds' S1.es.fr.up hp3 r3 r1 e2 _ fun us' r' => ?_
  have S2 := S1.mutL (ds' := ds') (us := us') he (r')
  rw [hφ] at S2
  exact hk _ B σ G1 _ S2 D hd2
def appD (ds : List D) (d : D) : Option (List D) := if ds.length < 16000000 then some (ds ++ [d]) else none
theorem m_app {K : PySem.W.Frag} : MutD K rAppend appD := fun G H p vs ds v d ds' l hp r r1 e Q q => by
  unfold appD at e
  split at e
  · rename_i hz
    cases e
    exact ⟨p, vs, v, rfl, rfl, hp, Nat.lt_of_lt_of_le (by rw [r.len]; exact hz) (size_ok (Nat.le_refl _)), q _ (r.app (.cons r1 .nil))⟩
  · cases e
def extD (ds : List D) (d : D) : Option (List D) := match d.seq with
  | some es => if ds.length + es.length ≤ 16000000 then some (ds ++ es) else none
  | none => none
def rExtA (K : PySem.W.Frag) : V → List V → Hp → VK → Prop := fun x vs H Q => ∃ l b xs zs, x = .ref l ∧ vs = [.ref b] ∧ H l = some (.lst xs) ∧ (Rd H b (.lst zs) ∨ SqT K H b zs) ∧ xs.length + zs.length ≤ 16000000 ∧ Q .non (upd H l (.lst (xs ++ zs)))
theorem mt_extA : MtM X "list.extend" (rExtA X.K) := by
  intro pins s σ H x vs v us Q I rx rv h
  obtain ⟨l, b, xs, zs, rfl, rfl, hH, hB, hz, q⟩ := h
  cases rx
  obtain ⟨u, rfl, ru⟩ := rv.one
  cases ru
  obtain ⟨z, its, n, r, hl, e⟩ := I.lstM hH
  have hz' := size_ok hz
  rcases hB with hB | hB
  · obtain ⟨z2, its2, n2, r2, hl2, e2⟩ := Inv.lstR I hB
    have hsz : its.toArray.size + its2.toArray.size ≤ sizeLine := by rw [List.size_toArray, List.size_toArray]; omega
    have hlong : ¬ (!its.toArray.isEmpty && Builtin.List.listTooLong (its.toArray.size + its2.toArray.size)) = true := by
      rw [notLongL hsz, Bool.and_false]
      exact Bool.false_ne_true
    refine call_meets F.slot_list_extend ⟨_, e, rfl⟩ F.entry_list_extend (F.args_list_extend_2 _ _)
      (AutoSeq1.list_extend_list_list_0 l its.toArray n b its2.toArray n2 hlong (by rw [List.size_toArray]; omega) (by omega)) ⟨e, e2, ?_⟩
    refine ⟨.non, _, I.lset (its' := its ++ its2) hH e (by simp) (r.append r2) ?_, rfl, q⟩
    rw [List.length_append]
    omega
  · obtain ⟨its2, r2, ⟨o2, e2, c2, n2, d2⟩, z2⟩ := I.tuple hB
    have hl2 := r2.length
    have hsz : its.toArray.size + its2.toArray.size ≤ sizeLine := by rw [List.size_toArray, List.size_toArray]; omega
    have hlong : ¬ (!its.toArray.isEmpty && Builtin.List.listTooLong (its.toArray.size + its2.toArray.size)) = true := by
      rw [notLongL hsz, Bool.and_false]
      exact Bool.false_ne_true
    obtain ⟨oc, od, oda, osl⟩ := o2
    have c2 : oc = _ := c2
    have d2 : oda = _ := d2
    subst c2 d2
    refine call_meets F.slot_list_extend ⟨_, e, rfl⟩ F.entry_list_extend (F.args_list_extend_2 _ _)
      (AutoSeq1.ext_tup l its.toArray n b its2.toArray n2 od osl hlong (by rw [List.size_toArray]; omega) (by omega)) ⟨e, e2, ?_⟩
    refine ⟨.non, _, I.lset (its' := its ++ its2) hH e (by simp) (r.append r2) ?_, rfl, q⟩
    rw [List.length_append]
    omega
theorem m_ext {K : PySem.W.Frag} : MutD K (rExtA K) extD := fun G H p vs ds v d ds' l hp r r1 e Q q => by
  unfold extD at e
  split at e
  · rename_i es hs
    split at e
    · rename_i hz
      cases e
      unfold D.seq at hs
      split at hs
      · cases hs
        cases r1 with
        | lst h1 r2 => exact ⟨p, _, vs, _, rfl, rfl, hp, .inl (l.le _ _ rfl h1), by rw [r.len, r2.len]; exact hz, q _ (r.app r2)⟩
      · cases hs
        cases r1 with
        | tup h1 r2 => exact ⟨p, _, vs, _, rfl, rfl, hp, .inr (l.le.seqT h1), by rw [r.len, r2.len]; exact hz, q _ (r.app r2)⟩
      · cases hs
        cases r1 with
        | tux h1 r2 => exact ⟨p, _, vs, _, rfl, rfl, hp, .inr (l.le.seqT (.inl h1.1)), by rw [r.len, r2.len]; exact hz, q _ (r.app r2)⟩
      · cases hs
    · cases e
  · cases e
/-- x.pop() as a statement -/
def popD (ds : List D) : Option (List D) := if ds = [] then none else some ds.dropLast
theorem RpAll.last {K : PySem.W.Frag} {G : Hp} {ds : List D} {vs : List V} (r : RpAll K G vs ds) : RpAll K G vs.dropLast ds.dropLast := by
  rw [List.dropLast_eq_take, List.dropLast_eq_take, r.len]
  exact r.take _
theorem xb_pop {i : Nat} {b : Bool} {p : Addr} {px pa pc : Pos} {ds : List D} {x : Str} {k : List D → R ω} (φ : List D → En) (hk : ∀ ds, XB X W eE rest (φ ds) (k ds) T) (he : en[i]? = some (some (.o b p (.l ds))) := by rfl) (hφ : ∀ ds, en.set i (some (.o b p (.l ds))) = φ ds := by intro _; rfl)
    (hN : X.N[i]? = some x := by rfl) (hv : Vis X.env.scope x := by first | exact Or.inl rfl | exact Or.inr (Or.inl rfl) | exact Or.inr (Or.inr rfl)) (hd : (x == ("__debug__" : Str)) = false := by decide) (hcd : (x == ("__classdict__" : Str)) = false := by decide)
    (hbase : attributeBase (.Name x px) "pop" X.env (eval (.Name x px) X.env) = eval (.Name x px) X.env := by rfl) (hline : (pa.endLine == pc.line) = true := by rfl)
    (hsw : swapsWith (.Call (.Attribute (.Name x px) "pop" pa) [] [] pc) none pos.line X.env = pure false := by first | exact swaps_no rfl | exact swapsS_no rfl | rfl) : XB X W eE (.Expr (.Call (.Attribute (.Name x px) "pop" pa) [] [] pc) pos :: rest) en ((R.of (popD ds)).bnd k) T := fun B σ G H S D q => by
  obtain ⟨e1, g0, vs, hp, rr⟩ := st_at S he
  obtain ⟨ds', e2, hd2⟩ := wp_of (wp_bnd.mp q)
  unfold popD at e2
  split at e2
  · cases e2
  · rename_i hne
    cases e2
    have hlen : 0 < vs.length := by
      rw [rr.len]
      exact List.length_pos_iff.mpr hne
    refine pss_to (pss_cons (ps_expr (pe_bm0 PySem.F.plainAttrs_list PySem.F.slot_list_pop PySem.F.type_list_pop mt_pop (pe_var hN hv hd hcd) hbase hline) hsw) pss_w) ⟨.ref p, e1, .inl ⟨rfl, vs, .inl (.inl hp)⟩, p, vs, vs[vs.length - 1]'(by omega), rfl, rfl, hp, List.getElem?_eq_getElem (by omega), ?_⟩
    have S2 := S.mutL (ds' := ds.dropLast) (us := vs.dropLast) he (rr.last)
    rw [hφ] at S2
    exact hk _ B σ G _ S2 D hd2
/-! x[a] = e, x one's own -/
def setD (ds : List D) (i d : D) : Option (List D) := match i with
  | .int i => (ixN ds.length i).map fun j => ds.set j d
  | _ => none
theorem xb_put {i : Nat} {b : Bool} {p : Addr} {px ps' : Pos} {ds : List D} {x : Str} {a e : Expr} {ma me : R D} {k : List D → R ω} (φ : List D → En) (h : XP X W e en me) (ha : XP X W a en ma) (hk : ∀ ds, XB X W eE rest (φ ds) (k ds) T) (he : en[i]? = some (some (.o b p (.l ds))) := by rfl) (hφ : ∀ ds, en.set i (some (.o b p (.l ds))) = φ ds := by intro _; rfl) (we : Wk0 eE en := by first | exact wk0_nil | exact wk0_refl | assumption | exact Wkn.wk0 (by repeat' first | exact Wkn.nil | apply Wkn.k | apply Wkn.d))
    (hN : X.N[i]? = some x := by rfl) (hv : Vis X.env.scope x := by first | exact Or.inl rfl | exact Or.inr (Or.inl rfl) | exact Or.inr (Or.inr rfl)) (hd : (x == ("__debug__" : Str)) = false := by decide) (hcd : (x == ("__classdict__" : Str)) = false := by decide)
    (h0 : ∀ v, assign (.Subscript (.Name x px) a ps') X.env v = (do
      let ov ← holding [v] (eval (.Name x px) X.env)
      let iv ← holding [v, ov] (eval a X.env)
      standAt ps'
      holding [v, ov, iv] (setItem ov iv v)
      release [v, ov, iv] []) := by intro _; rfl)
    (h1 : swapsWithSole [.Subscript (.Name x px) a ps'] e pos.line X.env = pure false := by first | exact swaps_no rfl | exact swapsS_no rfl | rfl) (h2 : swappedStores [.Subscript (.Name x px) a ps'] e X.env = pure none := by rfl) (h3 : (assignEach [.Subscript (.Name x px) a ps'] X.env).map (·.2) = [assign (.Subscript (.Name x px) a ps') X.env] := by rfl) :
    XB X W eE (.Assign [.Subscript (.Name x px) a ps'] e pos :: rest) en (me.bnd fun d => ma.bnd fun j => (R.of (setD ds j d)).bnd k) T := fun B σ G H S D q => by
  refine pss_to (pss_cons (ps_asg pe_w (pg_sub (pe_var hN hv hd hcd) pe_w set_list h0) h1 h2 h3) pss_w) ?_
  refine xp_run h S we (wp_mono (wp_bnd.mp q) (fun d hd' v G1 H1 l1 S1 r1 => ?_) fun _ z => z)
  obtain ⟨e1, _, _, _, _⟩ := st_at S1 he
  refine ⟨.ref p, e1, ?_⟩
  refine xp_run ha S1 we (wp_mono (wp_bnd.mp hd') (fun j hj u G2 H2 l2 S2 r2 => ?_) fun _ z => z)
  obtain ⟨ds', e2, hd2⟩ := wp_of (wp_bnd.mp hj)
  unfold setD at e2
  split at e2
  · rename_i j'
    obtain ⟨n, e3, rfl⟩ := Option.map_eq_some_iff.mp e2
    cases r2
    obtain ⟨_, _, us, hp3, r3⟩ := st_at S2 he
    refine ⟨p, us, _, n, rfl, rfl, hp3, by rw [r3.len]; exact e3, ?_⟩
    have S3 := S2.mutL (ds' := (ds.set n d)) (us := (us.set n v)) he (r3.set (r1.up l2) n)
    rw [hφ] at S3
    exact hk _ B σ G2 _ S3 D hd2
  · cases e2
/-! several names at once -/
def R.bU2 {ω : Type} (m : R D) (k : D → D → R ω) : R ω := m.bnd fun d => (R.of d.two).bnd fun q => k q.1 q.2
def R.bU3 {ω : Type} (m : R D) (k : D → D → D → R ω) : R ω := m.bnd fun d => (R.of d.three).bnd fun q => k q.1 q.2.1 q.2.2

theorem xb_two {i j : Nat} {x y : Str} {p p' p2 : Pos} {kk : Nat} {e : Expr} {m : R D} {k : D → D → R ω} (g : Go X ec W) (φ : D → D → En) (h : XP X W e en m) (hk : ∀ d d', XB X W eE rest (φ d d') (k d d') T) (hN : X.N[i]? = some x := by rfl) (hN' : X.N[j]? = some y := by rfl) (hφ : ∀ d d', (en.set i (some (.v d))).set j (some (.v d')) = φ d d' := by intro _ _; rfl)
    (hx : Loc X.env.scope x := by first | exact Or.inl rfl | exact Or.inr rfl) (hx' : Loc X.env.scope y := by first | exact Or.inl rfl | exact Or.inr rfl) (we : Wk0 eE en := by first | exact wk0_nil | exact wk0_refl | assumption | exact Wkn.wk0 (by repeat' first | exact Wkn.nil | apply Wkn.k | apply Wkn.d)) (hf : X.fn x = true ∨ X.env.scope.names.lookup x = some .local := by first | exact .inl rfl | exact .inr rfl) (hf' : X.fn y = true ∨ X.env.scope.names.lookup y = some .local := by first | exact .inl rfl | exact .inr rfl)
    (hn : (assignEach [.Name x p, .Name y p'] X.env).length = 2 := by rfl) (hst : (assignEach [.Name x p, .Name y p'] X.env).findIdx? (·.1) = none := by rfl)
    (h1 : (assignEach [.Name x p, .Name y p'] X.env).map (·.2) = assign (.Name x p) X.env :: (assignEach [.Name y p'] X.env).map (·.2) := by rfl) (h2 : (assignEach [.Name y p'] X.env).map (·.2) = assign (.Name y p') X.env :: (assignEach [] X.env).map (·.2) := by rfl)
    (s1 : swapsWithSole [.Tuple [.Name x p, .Name y p'] kk p2] e pos.line X.env = pure false := by first | exact swaps_no rfl | exact swapsS_no rfl | rfl) (s2 : swappedStores [.Tuple [.Name x p, .Name y p'] kk p2] e X.env = pure none := by rfl) (s3 : (assignEach [.Tuple [.Name x p, .Name y p'] kk p2] X.env).map (·.2) = [assign (.Tuple [.Name x p, .Name y p'] kk p2) X.env] := by rfl) :
    XB X W eE (.Assign [.Tuple [.Name x p, .Name y p'] kk p2] e pos :: rest) en (R.bU2 m k) T := fun B σ G H S D q => by
  refine pss_to (pss_cons (ps_asg pe_w (pg_tup g.calm (pgs_cons (pg_name g.nd hN hx hf) (pgs_cons (pg_name g.nd hN' hx' hf') pgs_nil h2) h1) hn hst) s1 s2 s3) pss_w) ?_
  refine xp_run h S we (wp_mono (wp_bnd.mp q) (fun d hd v G1 H1 l S1 r => ?_) fun _ z => z)
  obtain ⟨(z : Wk.D × Wk.D), e1, hd⟩ := wp_of (wp_bnd.mp hd)
  refine tg_two B en σ G1 H1 S1 d v _ r (by show Option.map _ d.two = _; rw [e1]; rfl) _ fun σ' S' => ?_
  dsimp only at S'
  rw [hφ] at S'
  exact hk _ _ B σ' G1 H1 S' D hd
theorem xb_three {i j l : Nat} {x y w : Str} {p p' p'' p2 : Pos} {kk : Nat} {e : Expr} {m : R D} {k : D → D → D → R ω} (g : Go X ec W) (φ : D → D → D → En) (h : XP X W e en m) (hk : ∀ d d' d'', XB X W eE rest (φ d d' d'') (k d d' d'') T) (hN : X.N[i]? = some x := by rfl) (hN' : X.N[j]? = some y := by rfl) (hN'' : X.N[l]? = some w := by rfl) (hφ : ∀ d d' d'', ((en.set i (some (.v d))).set j (some (.v d'))).set l (some (.v d'')) = φ d d' d'' := by intro _ _ _; rfl)
    (hx : Loc X.env.scope x := by first | exact Or.inl rfl | exact Or.inr rfl) (hx' : Loc X.env.scope y := by first | exact Or.inl rfl | exact Or.inr rfl) (hx'' : Loc X.env.scope w := by first | exact Or.inl rfl | exact Or.inr rfl) (we : Wk0 eE en := by first | exact wk0_nil | exact wk0_refl | assumption | exact Wkn.wk0 (by repeat' first | exact Wkn.nil | apply Wkn.k | apply Wkn.d)) (hf : X.fn x = true ∨ X.env.scope.names.lookup x = some .local := by first | exact .inl rfl | exact .inr rfl) (hf' : X.fn y = true ∨ X.env.scope.names.lookup y = some .local := by first | exact .inl rfl | exact .inr rfl) (hf'' : X.fn w = true ∨ X.env.scope.names.lookup w = some .local := by first | exact .inl rfl | exact .inr rfl)
    (hn : (assignEach [.Name x p, .Name y p', .Name w p''] X.env).length = 3 := by rfl) (hst : (assignEach [.Name x p, .Name y p', .Name w p''] X.env).findIdx? (·.1) = none := by rfl)
    (h1 : (assignEach [.Name x p, .Name y p', .Name w p''] X.env).map (·.2) = assign (.Name x p) X.env :: (assignEach [.Name y p', .Name w p''] X.env).map (·.2) := by rfl) (h2 : (assignEach [.Name y p', .Name w p''] X.env).map (·.2) = assign (.Name y p') X.env :: (assignEach [.Name w p''] X.env).map (·.2) := by rfl) (h3 : (assignEach [.Name w p''] X.env).map (·.2) = assign (.Name w p'') X.env :: (assignEach [] X.env).map (·.2) := by rfl)
    (s1 : swapsWithSole [.Tuple [.Name x p, .Name y p', .Name w p''] kk p2] e pos.line X.env = pure false := by first | exact swaps_no rfl | exact swapsS_no rfl | rfl) (s2 : swappedStores [.Tuple [.Name x p, .Name y p', .Name w p''] kk p2] e X.env = pure none := by rfl) (s3 : (assignEach [.Tuple [.Name x p, .Name y p', .Name w p''] kk p2] X.env).map (·.2) = [assign (.Tuple [.Name x p, .Name y p', .Name w p''] kk p2) X.env] := by rfl) :
    XB X W eE (.Assign [.Tuple [.Name x p, .Name y p', .Name w p''] kk p2] e pos :: rest) en (R.bU3 m k) T := fun B σ G H S D q => by
  refine pss_to (pss_cons (ps_asg pe_w (pg_tup g.calm (pgs_cons (pg_name g.nd hN hx hf) (pgs_cons (pg_name g.nd hN' hx' hf') (pgs_cons (pg_name g.nd hN'' hx'' hf'') pgs_nil h3) h2) h1) hn hst) s1 s2 s3) pss_w) ?_
  refine xp_run h S we (wp_mono (wp_bnd.mp q) (fun d hd v G1 H1 l S1 r => ?_) fun _ z => z)
  obtain ⟨(z : Wk.D × Wk.D × Wk.D), e1, hd⟩ := wp_of (wp_bnd.mp hd)
  refine tg_three B en σ G1 H1 S1 d v _ r (by show Option.map _ d.three = _; rw [e1]; rfl) _ fun σ' S' => ?_
  dsimp only at S'
  rw [hφ] at S'
  exact hk _ _ _ B σ' G1 H1 S' D hd
/-- y = [e for x in it] -/
theorem xb_letLc {i j : Nat} {x y : Str} {p py : Pos} {it elt : Expr} {scope : Scope} {posc : Pos} {mi : R (List D)} {me : D → R D} {k : List D → R ω} (g : Go X ec W) (φ : Addr → List D → En) (hi : XI X W (.Name x p) it en mi) (he : ∀ d, BP X scope elt (en.set i (some (.v d))) (me d)) (hk : ∀ a ds, XB X W eE rest (φ a ds) (k ds) T)
    (hN : X.N[i]? = some x := by rfl) (hNy : X.N[j]? = some y := by rfl) (hφ : ∀ a ds, en.set j (some (.o false a (.l ds))) = φ a ds := by intro _ _; rfl) (hblk : BlkOk X.N X.env.scope scope [(x, i)]) (hc : clr en [i] = true := by rfl) (we : Wk0 eE en := by first | exact wk0_nil | exact wk0_refl | assumption | exact Wkn.wk0 (by repeat' first | exact Wkn.nil | apply Wkn.k | apply Wkn.d))
    (hyl : X.env.scope.names.lookup y = some .local := by rfl) (hsw : swapsWith (.ListComp elt [⟨.Name x p, it, [], 0⟩] scope posc) (some (.Name y py)) pos.line X.env = pure true := by exact sw_true rfl rfl rfl (by decide +kernel))
    (hx : ∀ (s : Shared) (H0 : Hp) (C : Addr) (cl : List (Str × Addr)) (fp : List Addr), Loc (X.blk s H0 scope (compEnvC scope cl C X.env) fp).env.scope x := by intros; first | exact Or.inl rfl | exact Or.inr rfl)
    (hf : ∀ (s : Shared) (H0 : Hp) (C : Addr) (cl : List (Str × Addr)) (fp : List Addr), (X.blk s H0 scope (compEnvC scope cl C X.env) fp).fn x = true ∨ (X.blk s H0 scope (compEnvC scope cl C X.env) fp).env.scope.names.lookup x = some .local := by intros; first | exact .inl rfl | exact .inr rfl)
    (hs : ∀ x, foldedSetIterable it X.env x = pure x := by intro _; rfl) : XB X W eE (.Assign [.Name y py] (.ListComp elt [⟨.Name x p, it, [], 0⟩] scope posc) pos :: rest) en ((mi.bnd fun ds => lcR me ds).bnd k) T := fun B σ G H S D q => by
  refine pss_to (pss_cons (ps_setLc (own := [(x, i)]) g.calm g.nd hNy hyl hsw pi_w hblk (fun s H0 C cl fp => pg_name g.nd hN (hx s H0 C cl fp) (hf s H0 C cl fp)) (fun _ _ _ _ _ => pts_nil) pe_wb hs) pss_w) ?_
  unfold tSeq tAsg
  refine lc_run (mt := fun _ => .ok true) hi tl_name hc (fun d P E _ => ⟨_, rfl, fun σ G H S Q k => k G H (Grow.refl S.le), he d⟩) σ G H S.sl _ ?_
  simp only [lcIR_true]
  refine wp_mono (wp_bnd.mp q) (fun ds hd a vs G2 H2 w hp gp ep r => ?_) fun c hc G2 H2 w => hc σ G2 H2 ((S.grow w).es.weak we)
  have hB : B.H0 a = none := by
    cases z : B.H0 a with
    | none => rfl
    | some o => exact absurd hp (S.es.fr.there a (by rw [z]; intro y; cases y))
  have := (S.grow w).setO (i := j) (p := a) (ds := ds) (S.noOwn hp) hB gp ⟨vs, ep, r⟩
  · rw [hφ] at this
    exact hk a ds B _ G2 H2 this D hd
/-! chains -/
theorem xt_chain {op op' : CmpOp} {r r' : R2} {f f' : D → D → Option Bool} {a b c : Expr} {ma mb mc : R D} (ho : OpR X (compareOp op) r) (ho' : OpR X (compareOp op') r') (hf : OpD X.K r (fun x y => (f x y).map .bl)) (hf' : OpD X.K r' (fun x y => (f' x y).map .bl)) (ha : XP X W a en ma) (hb : XP X W b en mb) (hc : XP X W c en mc)
    (hr : PT X (.Compare a [op, op'] [b, c] pos) (tTest (tChain r r' (wE X a) (wE X b) (wE X c)))) :
    XT X W (.Compare a [op, op'] [b, c] pos) en (ma.bnd fun x => mb.bnd fun y => (R.of (f x y)).bnd fun t => if t = true then mc.bnd fun z => R.of (f' y z) else .ok false) := fun σ G H S Q h => by
  refine pt_to hr (ha σ G H S _ (wp_mono (wp_bnd.mp h) (fun x hx v G1 H1 w1 r1 => ?_) fun _ z => z))
  refine hb σ G1 H1 (S.grow w1) _ (wp_mono (wp_bnd.mp hx) (fun y hy u G2 H2 w2 r2 => ?_) fun _ z G2 H2 w => z G2 H2 (w1.trans w))
  obtain ⟨t, e, hd⟩ := wp_of (wp_bnd.mp hy)
  refine hf G2 H2 v u x y (.bl t) w2.up (r1.up w2.g) r2 (by show (f x y).map _ = _; rw [e]; rfl) _ fun v3 G3 H3 w3 r3 => ?_
  cases r3
  refine ⟨t, rfl, ?_⟩
  cases t with
  | false => exact ⟨false, rfl, hd G3 H3 ((w1.trans w2).trans w3)⟩
  | true =>
    refine hc σ G3 H3 (((S.grow w1).grow w2).grow w3) _ (wp_mono (wp_bnd.mp hd) (fun z hz u4 G4 H4 w4 r4 => ?_) fun _ z G2 H2 w => z G2 H2 (((w1.trans w2).trans w3).trans w))
    obtain ⟨t', e', hd'⟩ := wp_of hz
    refine hf' G4 H4 u u4 y z (.bl t') w4.up (r2.up (w3.g.trans w4.g)) r4 (by show (f' y z).map _ = _; rw [e']; rfl) _ fun v5 G5 H5 w5 r5 => ?_
    cases r5
    exact ⟨t', rfl, hd' G5 H5 ((((w1.trans w2).trans w3).trans w4).trans w5)⟩
end
end Wk
set_option maxHeartbeats 4000000
/-! Wk9: expressions that change what one owns. -/
namespace Wk
open PySem PySem.Spec PyProof.Rows L2

/-- a new object is data from now on -/
theorem St8.frzPO {K : PySem.W.Frag} {B : Bs} {en : En} {σ : L2.St} {G H : Hp} {p : Addr} {o : HO} (s : St8 K B en σ G H) (hb : B.H0 p = none) (no : NoOwn en p) (g0 : G p = none) (hp : H p = some o) : Le G (upd G p o) ∧ St8 K B en σ (upd G p o) H := by
  have l : Le G (upd G p o) := Le.upd g0
  refine ⟨l, ⟨⟨s.es.fr.know g0 hb hp, fun j dv ej => ?_, s.es.ones, s.es.own⟩, s.len⟩⟩
  obtain ⟨u, x, y⟩ := s.es.at_ j dv ej
  refine ⟨u, x, ?_⟩
  cases dv with
  | v d => exact Rp.up l y
  | o b2 q c2 => exact ⟨y.1, y.2.know g0 (no j b2 q c2 ej)⟩
theorem St8.frzP {K : PySem.W.Frag} {B : Bs} {en : En} {σ : L2.St} {G H : Hp} {p : Addr} {vs : List V} {ds : List D} (s : St8 K B en σ G H) (hb : B.H0 p = none) (no : NoOwn en p) (g0 : G p = none) (hp : H p = some (.lst vs)) (r : RpAll K G vs ds) : Le G (upd G p (.lst vs)) ∧ St8 K B en σ (upd G p (.lst vs)) H ∧ Rp K (upd G p (.lst vs)) (.ref p) (.lst ds) := by
  obtain ⟨l, s2⟩ := s.frzPO hb no g0 hp
  exact ⟨l, s2, .lst (.inl upd_same) (r.up l)⟩
/-- growth but for the object at p -/
structure GrowX (p : Addr) (G H G2 H2 : Hp) : Prop where
  g : Le G G2
  up : Lk G2 H2
  h : ∀ a o, a ≠ p → H a = some o → H2 a = some o
  there : ∀ a, H a ≠ none → H2 a ≠ none
  thM : ∀ a, Mt H a → Mt H2 a
  cl : ∀ a, G a = none → Mt H a → G2 a = none
section
variable {K : PySem.W.Frag} {B : Bs} {en : En} {σ : L2.St} {G H G2 H2 : Hp}
theorem St8.growXO {i : Nat} {p : Addr} {b : Bool} {c c' : OO} (s : St8 K B en σ G H) (e : en[i]? = some (some (.o b p c))) (w : GrowX p G H G2 H2) (r : OwnRp K G2 H2 p c') (hs : c'.sub = [] := by rfl) : St8 K B (en.set i (some (.o b p c'))) σ G2 H2 := by
  obtain ⟨v0, e0, ev0, r0⟩ := s.es.at_ i _ e
  have hb := s.es.own i b p _ e
  have hf : ∀ a ∈ c'.fp p, a = p := fun a h => by
    rcases List.mem_cons.mp h with rfl | h
    · rfl
    · rw [hs] at h; cases h
  have np : ∀ a u, a ∉ B.io → B.H0 a = some u → a ≠ p := fun a u n eu z => by
    subst z
    rcases hb.any fp_top with z | z
    · exact n z
    · rw [z] at eu; cases eu
  refine ⟨⟨⟨w.up, s.es.fr.le0.trans w.g, fun a u n eu => w.h a u (np a u n eu) (s.es.fr.keep a u n eu), fun a n => w.there a (s.es.fr.there a n), fun a n => w.thM a (s.es.fr.thM a n), fun a n m => w.cl a (s.es.fr.cl a n m) (s.es.fr.thM a m)⟩, fun j dv ej => ?_, fun j k b b' q q' c1 c2 ej ek zz => ?_, fun j b q c ej => ?_⟩, by simp [s.len]⟩
  · rcases get_set ej with ⟨rfl, e1⟩ | ⟨n, fj⟩
    · cases e1; exact ⟨v0, e0, ev0, r⟩
    · obtain ⟨u, x, y⟩ := s.es.at_ j dv fj
      refine ⟨u, x, ?_⟩
      cases dv with
      | v d => exact Rp.up w.g y
      | o b2 q c2 =>
        have nq : p ∉ c2.fp q := fun z => n (s.es.ones j i _ _ _ _ _ _ fj e ⟨p, z, fp_top⟩)
        exact ⟨y.1, y.2.go w.g (fun a m u e => w.h a u (fun z => nq (by rw [← z]; exact m)) e) fun a m => w.cl a (y.2.fpG m) (y.2.fpT m)⟩
  · obtain ⟨a, z1, z2⟩ := zz
    rcases get_set ej with ⟨rfl, e1⟩ | ⟨n, fj⟩
    · cases e1
      rcases get_set ek with ⟨rfl, e1⟩ | ⟨n', fk⟩
      · rfl
      · exact s.es.ones _ _ _ _ _ _ _ _ e fk ⟨a, by rw [hf a z1]; exact fp_top, z2⟩
    · rcases get_set ek with ⟨rfl, e1⟩ | ⟨n', fk⟩
      · cases e1; exact s.es.ones _ _ _ _ _ _ _ _ fj e ⟨a, z1, by rw [hf a z2]; exact fp_top⟩
      · exact s.es.ones j k _ _ _ _ _ _ fj fk ⟨a, z1, z2⟩
  · rcases get_set ej with ⟨rfl, e1⟩ | ⟨n, fj⟩
    · cases e1; exact ⟨hb.1, fun x hx => by rw [hs] at hx; cases hx⟩
    · exact s.es.own j _ q _ fj
theorem St8.growX {i : Nat} {p : Addr} {b : Bool} {c c' : List D} {us : List V} (s : St8 K B en σ G H) (e : en[i]? = some (some (.o b p (.l c)))) (w : GrowX p G H G2 H2) (hp : H2 p = some (.lst us)) (r : RpAll K G2 us c') : St8 K B (en.set i (some (.o b p (.l c')))) σ G2 H2 := by
  obtain ⟨v0, e0, ev0, r0⟩ := s.es.at_ i _ e
  exact s.growXO e w (own_l.mpr ⟨w.cl p (r0.fpG fp_top) (r0.fpT fp_top), us, hp, r⟩)
end
section
variable (X : Cx) (W : WN) (eE : En)
def XV (e : Expr) (en : En) {γ : Type} (m : R (D × γ)) (φ : γ → En) : Prop := ∀ B σ G H, St8 X.K B en σ G H → ∀ Q : VK, Post X W eE B m (fun r => ∀ v G2 H2, Le G G2 → St8 X.K B (φ r.2) σ G2 H2 → Rp X.K G2 v r.1 → Q v H2) → wE X e σ H Q
/-- a new list, and a change -/
def XNV (e : Expr) (en : En) {γ : Type} (m : R (List D × γ)) (φ : γ → En) : Prop := ∀ B σ G H, St8 X.K B en σ G H → ∀ Q : VK, Post X W eE B m (fun r => ∀ p vs G2 H2, Le G G2 → St8 X.K B (φ r.2) σ G2 H2 → B.H0 p = none → NoOwn (φ r.2) p → G2 p = none → H2 p = some (.lst vs) → RpAll X.K G2 vs r.1 → Q (.ref p) H2) → wE X e σ H Q
def XAV (es : List Expr) (en : En) {γ : Type} (m : R (List D × γ)) (φ : γ → En) : Prop := ∀ B σ G H, St8 X.K B en σ G H → ∀ Q : List V → Hp → Prop, Post X W eE B m (fun r => ∀ vs G2 H2, Le G G2 → St8 X.K B (φ r.2) σ G2 H2 → RpAll X.K G2 vs r.1 → Q vs H2) → wA X es σ H Q
def XTV (e : Expr) (en : En) {γ : Type} (m : R (Bool × γ)) (φ : γ → En) : Prop := ∀ B σ G H, St8 X.K B en σ G H → ∀ Q : Bool → Hp → Prop, Post X W eE B m (fun r => ∀ G2 H2, Le G G2 → St8 X.K B (φ r.2) σ G2 H2 → Q r.1 H2) → wT X e σ H Q
def XWV (e : Expr) (en : En) {γ : Type} (m : R (Bool × γ)) (φ : γ → En) : Prop := ∀ B σ G H, St8 X.K B en σ G H → ∀ Q : Bool → Hp → Prop, Post X W eE B m (fun r => ∀ G2 H2, Le G G2 → St8 X.K B (φ r.2) σ G2 H2 → Q r.1 H2) → wW X e σ H Q
def X2V (a b : Expr) (en : En) {γ : Type} (m : R ((D × D) × γ)) (φ : γ → En) : Prop := ∀ B σ G H, St8 X.K B en σ G H → ∀ Q : V → V → Hp → Prop, Post X W eE B m (fun r => ∀ v u G2 H2, Le G G2 → St8 X.K B (φ r.2) σ G2 H2 → Rp X.K G2 v r.1.1 → Rp X.K G2 u r.1.2 → Q v u H2) → wE X a σ H fun x H1 => wE X b σ H1 fun y H2 => Q x y H2
end
section
variable {X : Cx} {W : WN} {eE : En} {en : En} {ec : Nat → Addr} {pos : Pos} {γ δ : Type} {φ : γ → En} {ψ : δ → En} {a b c : Expr} {es : List Expr}
theorem xv_of {m : R D} {cc : γ} (h : XP X W a en m) (hφ : φ cc = en := by rfl) (we : Wk0 eE en := by first | exact wk0_nil | exact wk0_refl | assumption | exact Wkn.wk0 (by repeat' first | exact Wkn.nil | apply Wkn.k | apply Wkn.d)) : XV X W eE a en (m.bnd fun d => .ok (d, cc)) φ := fun B σ G H S Q k =>
  xp_run h S we (wp_mono (wp_bnd.mp k) (fun d hd v G2 H2 l S2 r => hd v G2 H2 l (by show St8 X.K B (φ cc) _ _ _; rw [hφ]; exact S2) r) fun _ z => z)
theorem xtv_of {m : R Bool} {cc : γ} (h : XT X W a en m) (hφ : φ cc = en := by rfl) (we : Wk0 eE en := by first | exact wk0_nil | exact wk0_refl | assumption | exact Wkn.wk0 (by repeat' first | exact Wkn.nil | apply Wkn.k | apply Wkn.d)) : XTV X W eE a en (m.bnd fun d => .ok (d, cc)) φ := fun B σ G H S Q k =>
  xt_run h S we (wp_mono (wp_bnd.mp k) (fun d hd G2 H2 l S2 => hd G2 H2 l (by show St8 X.K B (φ cc) _ _ _; rw [hφ]; exact S2)) fun _ z => z)
theorem xav_of {m : R (List D)} {cc : γ} (h : XA X W es en m) (hφ : φ cc = en := by rfl) (we : Wk0 eE en := by first | exact wk0_nil | exact wk0_refl | assumption | exact Wkn.wk0 (by repeat' first | exact Wkn.nil | apply Wkn.k | apply Wkn.d)) : XAV X W eE es en (m.bnd fun d => .ok (d, cc)) φ := fun B σ G H S Q k =>
  h σ G H S.sl Q (wp_mono (wp_bnd.mp k) (fun d hd v G2 H2 w r => hd v G2 H2 w.g (by show St8 X.K B (φ cc) _ _ _; rw [hφ]; exact S.grow w) r) fun c hc G2 H2 w => hc σ G2 H2 ((S.grow w).es.weak we))
theorem xav_p {m : R D} {ms : R (List D × γ)} (h : XP X W a en m) (hs : XAV X W eE es en ms φ) (we : Wk0 eE en := by first | exact wk0_nil | exact wk0_refl | assumption | exact Wkn.wk0 (by repeat' first | exact Wkn.nil | apply Wkn.k | apply Wkn.d)) (he : starEach (a :: es) X.env = (false, eval a X.env) :: starEach es X.env := by rfl) : XAV X W eE (a :: es) en (m.bnd fun x => ms.bnd2 fun xs c => .ok (x :: xs, c)) φ := fun B σ G H S Q k => by
  refine pa_to (pa_cons pe_w pa_w he) (xp_run h S we (wp_mono (wp_bnd.mp k) (fun x hx v G1 H1 l1 S1 r1 => ?_) fun _ z => z))
  exact hs B σ G1 H1 S1 _ (wp_mono (wp_bnd.mp hx) (fun y hy vs G2 H2 l2 S2 r2 => hy (v :: vs) G2 H2 (l1.trans l2) S2 (.cons (r1.up l2) r2)) fun _ z => z)
theorem xav_v {m : R (D × δ)} {ms : δ → R (List D × γ)} (h : XV X W eE a en m ψ) (hs : ∀ c, XAV X W eE es (ψ c) (ms c) φ) (he : starEach (a :: es) X.env = (false, eval a X.env) :: starEach es X.env := by rfl) : XAV X W eE (a :: es) en (m.bnd2 fun x c => (ms c).bnd2 fun xs c' => .ok (x :: xs, c')) φ := fun B σ G H S Q k => by
  refine pa_to (pa_cons pe_w pa_w he) (h B σ G H S _ (wp_mono (wp_bnd.mp k) (fun x hx v G1 H1 l1 S1 r1 => ?_) fun _ z => z))
  exact hs x.2 B σ G1 H1 S1 _ (wp_mono (wp_bnd.mp hx) (fun y hy vs G2 H2 l2 S2 r2 => hy (v :: vs) G2 H2 (l1.trans l2) S2 (.cons (r1.up l2) r2)) fun _ z => z)
theorem xav_n {m : R (List D × δ)} {ms : δ → R (List D × γ)} (h : XNV X W eE a en m ψ) (hs : ∀ c, XAV X W eE es (ψ c) (ms c) φ) : True := trivial
theorem x2_pv {m : R D} {m2 : R (D × γ)} (h : XP X W a en m) (h2 : XV X W eE b en m2 φ) (we : Wk0 eE en := by first | exact wk0_nil | exact wk0_refl | assumption | exact Wkn.wk0 (by repeat' first | exact Wkn.nil | apply Wkn.k | apply Wkn.d)) : X2V X W eE a b en (m.bnd fun x => m2.bnd2 fun y c => .ok ((x, y), c)) φ := fun B σ G H S Q k => by
  refine xp_run h S we (wp_mono (wp_bnd.mp k) (fun x hx v G1 H1 l1 S1 r1 => ?_) fun _ z => z)
  exact h2 B σ G1 H1 S1 _ (wp_mono (wp_bnd.mp hx) (fun y hy u G2 H2 l2 S2 r2 => hy v u G2 H2 (l1.trans l2) S2 (r1.up l2) r2) fun _ z => z)
theorem x2_vp {m : R (D × γ)} {m2 : γ → R D} (h : XV X W eE a en m φ) (h2 : ∀ c, XP X W b (φ c) (m2 c)) (we : ∀ c, Wk0 eE (φ c) := by intro _; first | exact wk0_nil | exact wk0_refl | assumption | exact Wkn.wk0 (by repeat' first | exact Wkn.nil | apply Wkn.k | apply Wkn.d)) : X2V X W eE a b en (m.bnd2 fun x c => (m2 c).bnd fun y => .ok ((x, y), c)) φ := fun B σ G H S Q k => by
  refine h B σ G H S _ (wp_mono (wp_bnd.mp k) (fun x hx v G1 H1 l1 S1 r1 => ?_) fun _ z => z)
  exact xp_run (h2 x.2) S1 (we x.2) (wp_mono (wp_bnd.mp hx) (fun y hy u G2 H2 l2 S2 r2 => hy v u G2 H2 (l1.trans l2) S2 (r1.up l2) r2) fun _ z => z)
theorem x2_vv {m : R (D × δ)} {m2 : δ → R (D × γ)} (h : XV X W eE a en m ψ) (h2 : ∀ c, XV X W eE b (ψ c) (m2 c) φ) : X2V X W eE a b en (m.bnd2 fun x c => (m2 c).bnd2 fun y c' => .ok ((x, y), c')) φ := fun B σ G H S Q k => by
  refine h B σ G H S _ (wp_mono (wp_bnd.mp k) (fun x hx v G1 H1 l1 S1 r1 => ?_) fun _ z => z)
  exact h2 x.2 B σ G1 H1 S1 _ (wp_mono (wp_bnd.mp hx) (fun y hy u G2 H2 l2 S2 r2 => hy v u G2 H2 (l1.trans l2) S2 (r1.up l2) r2) fun _ z => z)
theorem St8.lk {K : PySem.W.Frag} {B : Bs} {σ : L2.St} {G H : Hp} (S : St8 K B en σ G H) : Lk G H := S.es.fr.up
theorem xv_two {f : D → D → Option D} {r : R2} {e : Expr} {m : R ((D × D) × γ)} (hf : OpD X.K r f) (h : X2V X W eE a b en m φ) (hr : PE X e (tOp r (wE X a) (wE X b))) : XV X W eE e en (m.bnd2 fun q c => (R.of (f q.1 q.2)).bnd fun d => .ok (d, c)) φ := fun B σ G H S Q k => by
  refine pe_to hr (h B σ G H S _ (wp_mono (wp_bnd.mp k) (fun q hq v u G1 H1 l1 S1 r1 r2 => ?_) fun _ z => z))
  obtain ⟨d, e, hd⟩ := wp_of (wp_bnd.mp hq)
  exact hf G1 H1 v u _ _ d S1.lk r1 r2 e Q fun v G3 H3 w3 r3 => hd v G3 H3 (l1.trans w3.g) (S1.grow w3) r3
theorem xv_op {op : Operator} {r : R2} {f : D → D → Option D} {m : R ((D × D) × γ)} (ho : OpR X (binaryOp op) r) (hf : OpD X.K r f) (h : X2V X W eE a b en m φ) : XV X W eE (.BinOp a op b pos) en (m.bnd2 fun q c => (R.of (f q.1 q.2)).bnd fun d => .ok (d, c)) φ := xv_two hf h (pe_op ho pe_w pe_w)
theorem xv_ix {r : R2} {f : D → D → Option D} {m : R ((D × D) × γ)} (ho : IxR X r) (hf : OpD X.K r f) (hs : PlainIx b) (h : X2V X W eE a b en m φ) : XV X W eE (.Subscript a b pos) en (m.bnd2 fun q c => (R.of (f q.1 q.2)).bnd fun d => .ok (d, c)) φ := xv_two hf h (pe_ix ho pe_w pe_w hs)
theorem xtv_cmp {op : CmpOp} {r : R2} {f : D → D → Option Bool} {m : R ((D × D) × γ)} (ho : OpR X (compareOp op) r) (hf : OpD X.K r (fun x y => (f x y).map .bl)) (hm : behindInMarks op b = false) (h : X2V X W eE a b en m φ) : XTV X W eE (.Compare a [op] [b] pos) en (m.bnd2 fun q c => (R.of (f q.1 q.2)).bnd fun d => .ok (d, c)) φ := fun B σ G H S Q k => by
  refine pt_to (pt_cmpR ho pe_w pe_w hm) (h B σ G H S _ (wp_mono (wp_bnd.mp k) (fun q hq v u G1 H1 l1 S1 r1 r2 => ?_) fun _ z => z))
  obtain ⟨d, e, hd⟩ := wp_of (wp_bnd.mp hq)
  refine hf G1 H1 v u _ _ (.bl d) S1.lk r1 r2 (by show (f _ _).map _ = _; rw [e]; rfl) _ fun v3 G3 H3 w3 r3 => ?_
  cases r3
  exact ⟨d, rfl, hd G3 H3 (l1.trans w3.g) (S1.grow w3)⟩
theorem xv_un {op : UnaryOp} {r : V → Hp → VK → Prop} {f : D → Option D} {m : R (D × γ)} (ho : UnR X (unaryOp op) r) (hf : UnD X.K r f) (h : XV X W eE a en m φ) : XV X W eE (.UnaryOp op a pos) en (m.bnd2 fun q c => (R.of (f q)).bnd fun d => .ok (d, c)) φ := fun B σ G H S Q k => by
  refine pe_to (pe_un ho pe_w) (h B σ G H S _ (wp_mono (wp_bnd.mp k) (fun q hq v G1 H1 l1 S1 r1 => ?_) fun _ z => z))
  obtain ⟨d, e, hd⟩ := wp_of (wp_bnd.mp hq)
  exact hf G1 H1 v _ d S1.lk r1 e Q fun v G3 H3 w3 r3 => hd v G3 H3 (l1.trans w3.g) (S1.grow w3) r3
theorem xv_tup {j : Nat} {m : R (List D × γ)} (h : XAV X W eE es en m φ) : XV X W eE (.Tuple es j pos) en (m.bnd2 fun q c => (R.of ((fits q).map .tup)).bnd fun d => .ok (d, c)) φ := fun B σ G H S Q k => by
  refine pe_to (pe_tup pa_w) (h B σ G H S _ (wp_mono (wp_bnd.mp k) (fun q hq vs G1 H1 l1 S1 r1 => ?_) fun _ z => z))
  obtain ⟨d, e, hd⟩ := wp_of (wp_bnd.mp hq)
  obtain ⟨es', e', rfl⟩ := Option.map_eq_some_iff.mp e
  obtain ⟨rfl, hl⟩ := fits_some e'
  refine ⟨size_ok (by rw [r1.len]; exact hl), fun p hp => ?_⟩
  have w2 := Grow.new (o := .tup vs) S1.lk hp rfl
  exact hd _ _ _ (l1.trans w2.g) (S1.grow w2) (.tup (.inl (.inl upd_same)) (r1.up w2.g))
theorem xnv_lst {m : R (List D × γ)} (h : XAV X W eE es en m φ) : XNV X W eE (.List es pos) en (m.bnd2 fun q c => (R.of (fits q)).bnd fun d => .ok (d, c)) φ := fun B σ G H S Q k => by
  refine pe_to (pe_lst pa_w) (h B σ G H S _ (wp_mono (wp_bnd.mp k) (fun q hq vs G1 H1 l1 S1 r1 => ?_) fun _ z => z))
  obtain ⟨d, e, hd⟩ := wp_of (wp_bnd.mp hq)
  obtain ⟨rfl, hl⟩ := fits_some e
  refine ⟨size_ok (by rw [r1.len]; exact hl), fun p hp => ?_⟩
  have w2 := Grow.own (o := .lst vs) S1.lk hp
  exact hd p vs G1 _ l1 (S1.grow w2) (S1.h0 hp) (S1.noOwn hp) (S1.lk.kn p hp) upd_same r1
theorem xnv_xv {m : R (List D × γ)} (h : XNV X W eE a en m φ) : XV X W eE a en (m.bnd2 fun d c => .ok (.lst d, c)) φ := fun B σ G H S Q k => by
  refine h B σ G H S Q (wp_mono (wp_bnd.mp k) (fun r hr p vs G2 H2 l S2 hb no gp ep rr => ?_) fun _ z => z)
  obtain ⟨l3, S3, r3⟩ := S2.frzP hb no gp ep rr
  exact hr _ _ H2 (l.trans l3) S3 r3
theorem xnv_of {m : R (List D)} {cc : γ} (h : XN X W a en m) (hφ : φ cc = en := by rfl) (we : Wk0 eE en := by first | exact wk0_nil | exact wk0_refl | assumption | exact Wkn.wk0 (by repeat' first | exact Wkn.nil | apply Wkn.k | apply Wkn.d)) : XNV X W eE a en (m.bnd fun d => .ok (d, cc)) φ := fun B σ G H S Q k =>
  xn_run h S we (wp_mono (wp_bnd.mp k) (fun d hd p vs G2 H2 l S2 hp gp ep r => hd p vs G2 H2 l (by show St8 X.K B (φ cc) _ _ _; rw [hφ]; exact S2) (S.h0 hp) (by show NoOwn (φ cc) p; rw [hφ]; exact S.noOwn hp) gp ep r) fun _ z => z)
/-! built-ins, defs, with arguments that change what one owns -/
theorem xv_callB {x : Str} {id : String} {e : Expr} {r : List V → Hp → VK → Prop} {f : List D → Option D} {m : R (List D × γ)} {p : Pos} (hc : CallR X (.builtin id) r) (hf : CallD X.K r f) (hm : X.mg x = none) (hv : bootBuiltins x = some (.builtin id))
    (ha : XAV X W eE (e :: es) en m φ) (hg : Gl X x := by rfl) (hn : x ≠ "__name__" := by decide) (hdb : (x == ("__debug__" : Str)) = false := by decide) (h1 : starEach (e :: es) X.env = (false, eval e X.env) :: starEach es X.env := by rfl) (h2 : (backTo pos (starEach es X.env)).any (·.1) = false := by rfl) :
    XV X W eE (.Call (.Name x p) (e :: es) [] pos) en (m.bnd2 fun q c => (R.of (f q)).bnd fun d => .ok (d, c)) φ := fun B σ G H S Q k => by
  refine pe_to (pe_callB hc hg hm hv pa_w hn hdb h1 h2) (ha B σ G H S _ (wp_mono (wp_bnd.mp k) (fun q hq vs G1 H1 l1 S1 r1 => ?_) fun _ z => z))
  obtain ⟨d, e, hd⟩ := wp_of (wp_bnd.mp hq)
  exact hf G1 H1 vs _ d S1.lk r1 e Q fun v G3 H3 w3 r3 => hd v G3 H3 (l1.trans w3.g) (S1.grow w3) r3
theorem xv_callTy {x : Str} {id : String} {e : Expr} {r : List V → Hp → VK → Prop} {f : List D → Option D} {m : R (List D × γ)} {p : Pos} (hc : CallR X (.type id) r) (hf : CallD X.K r f) (hm : X.mg x = none) (hv : bootBuiltins x = some (.type id))
    (ha : XAV X W eE (e :: es) en m φ) (hg : Gl X x := by rfl) (hn : x ≠ "__name__" := by decide) (hdb : (x == ("__debug__" : Str)) = false := by decide) (h1 : starEach (e :: es) X.env = (false, eval e X.env) :: starEach es X.env := by rfl) (h2 : (backTo pos (starEach es X.env)).any (·.1) = false := by rfl) :
    XV X W eE (.Call (.Name x p) (e :: es) [] pos) en (m.bnd2 fun q c => (R.of (f q)).bnd fun d => .ok (d, c)) φ := fun B σ G H S Q k => by
  refine pe_to (pe_callTy hc hg hm hv pa_w hn hdb h1 h2) (ha B σ G H S _ (wp_mono (wp_bnd.mp k) (fun q hq vs G1 H1 l1 S1 r1 => ?_) fun _ z => z))
  obtain ⟨d, e, hd⟩ := wp_of (wp_bnd.mp hq)
  exact hf G1 H1 vs _ d S1.lk r1 e Q fun v G3 H3 w3 r3 => hd v G3 H3 (l1.trans w3.g) (S1.grow w3) r3
theorem xv_call {x : Str} {p : Pos} {e : Expr} {k n : Nat} {f : Addr} {fd : FuncData} {ps : List Str} {fm : List D → R D} {m : R (List D × γ)} (g : Go X ec W) (F : FnOk X.prog X.w X.K X.mg X.base (L2.CX X.prog X.w) k f fd ps (spR X.K ec (rP X.K) n fm)) (hr : Room k X.A) (hm : X.mg x = some (.ref f)) (hk : PySem.W.keepIn X.K (.ref f) = true) (hb : Binds X.K fd ps [])
    (ha : XAV X W eE (e :: es) en m φ) (hln : ∀ ds P E, wp (fm ds) P E → ds.length = n) (we : ∀ c, Wk0 eE (φ c) := by intro _; first | exact wk0_nil | exact wk0_refl | assumption | exact Wkn.wk0 (by repeat' first | exact Wkn.nil | apply Wkn.k | apply Wkn.d)) (hg : Gl X x := by rfl) (hdb : (x == ("__debug__" : Str)) = false := by decide) (h1 : starEach (e :: es) X.env = (false, eval e X.env) :: starEach es X.env := by rfl) (h2 : (backTo pos (starEach es X.env)).any (·.1) = false := by rfl) :
    XV X W eE (.Call (.Name x p) (e :: es) [] pos) en (m.bnd2 fun ds c => (fm ds).bnd fun d => .ok (d, c)) φ := fun B σ G H S Q h => by
  refine pe_to (pe_callS F hr hg hm hk hb (fun σ => passAt g.tk σ) pa_w hdb h1 h2) (ha B σ G H S _ ?_)
  have h' := wp_bnd.mp h
  cases em : m with
  | ok r =>
    rw [em] at h'
    exact fun vs G1 H1 l1 S1 r1 => ⟨G1, r.1, S1.lk, r1, hln _ _ _ (wp_bnd.mp h'), wp_mono (wp_bnd.mp h') (fun d hd v G2 H2 w2 r2 => hd v G2 H2 (l1.trans w2.g) (S1.grow w2) r2) fun c hc G2 H2 w2 => ⟨c, rfl, rfl, hc σ G2 H2 ((S1.grow w2).es.weak (we _))⟩⟩
  | err c => rw [em] at h'; exact h'
  | bad => rw [em] at h'; exact h'.elim
end
/-! ### defs that change a list of the asker's -/
section
variable {K : PySem.W.Frag}
/-- the first argument is a list of the asker's -/
def spIO (K : PySem.W.Frag) (ec : Nat → Addr) (n : Nat) (f : List D → List D → R (D × List D)) : Sp := fun vs H Q E => ∃ G p ws us c ds, Lk G H ∧ vs = .ref p :: ws ∧ G p = none ∧ H p = some (.lst us) ∧ RpAll K G us c ∧ RpAll K G ws ds ∧ ds.length = n ∧
  wp (f c ds) (fun r => ∀ v us' G2 H2, GrowX p G H G2 H2 → Rp K G2 v r.1 → H2 p = some (.lst us') → RpAll K G2 us' r.2 → Q v H2) (fun c => ∀ G2 H2, GrowX p G H G2 H2 → E (.ref (ec c)) none H2)
theorem Fr8.toGrowX {p : Addr} {G H G2 H2 : Hp} (f : Fr8 ⟨G, H, [p]⟩ G2 H2) : GrowX p G H G2 H2 := ⟨f.le0, f.up, fun a o n e => f.keep a o (by simpa using n) e, f.there, f.thM, f.cl⟩
/-- what is handed back: data, and what the list holds -/
def rIL (K : PySem.W.Frag) (p : Addr) : Hp → D × List D → V → Hp → Hp → Prop := fun _ r v G H => Rp K G v r.1 ∧ ∃ us, H p = some (.lst us) ∧ RpAll K G us r.2
def en1 (N : List Str) (p : Addr) (c ds : List D) : En := some (.o true p (.l c)) :: (ds.map (fun d => some (.v d)) ++ List.replicate (N.length - (ds.length + 1)) none)
theorem st_start1 {G H : Hp} {p : Addr} {us ws : List V} {c ds : List D} {N : List Str} (l : Lk G H) (gp : G p = none) (hp : H p = some (.lst us)) (ru : RpAll K G us c) (r : RpAll K G ws ds) : St8 K ⟨G, H, [p]⟩ (en1 N p c ds) (L2.start N (.ref p :: ws)) G H := by
  have hl := r.len
  have only : ∀ (i : Nat) (dv : DV), (en1 N p c ds)[i]? = some (some dv) → (i = 0 ∧ dv = .o true p (.l c)) ∨ ∃ j d, i = j + 1 ∧ ds[j]? = some d ∧ dv = .v d := fun i dv e => by
    cases i with
    | zero => cases e; exact .inl ⟨rfl, rfl⟩
    | succ j =>
      right
      have e : (ds.map (fun d => some (DV.v d)) ++ List.replicate (N.length - (ds.length + 1)) none)[j]? = some (some dv) := e
      by_cases hi : j < ds.length
      · rw [List.getElem?_append_left (by simpa using hi), List.getElem?_map] at e
        cases z : ds[j]? with
        | none => rw [z] at e; cases e
        | some d => rw [z] at e; cases e; exact ⟨j, d, rfl, z, rfl⟩
      · rw [List.getElem?_append_right (by simpa using hi), List.getElem?_replicate] at e
        split at e <;> cases e
  refine ⟨⟨⟨l, Le.refl _, fun _ _ _ e => e, fun _ n => n, fun _ n => n, fun _ n _ => n⟩, fun i dv e => ?_, fun i j b b' q q' c c' e e' zz => ?_, fun i b q c e => ?_⟩, ?_⟩
  · rcases only i dv e with ⟨rfl, rfl⟩ | ⟨j, d, rfl, e1, rfl⟩
    · exact ⟨.ref p, rfl, rfl, own_l.mpr ⟨gp, us, hp, ru⟩⟩
    · obtain ⟨v, e2, r2⟩ := r.get e1
      refine ⟨v, ?_, r2⟩
      have hi : j < ws.length := (List.getElem?_eq_some_iff.mp e2).1
      show (ws.map some ++ _)[j]? = _
      rw [List.getElem?_append_left (by simpa using hi), List.getElem?_map, e2]
      rfl
  · rcases only i _ e with ⟨rfl, z⟩ | ⟨_, _, _, _, z⟩
    · rcases only j _ e' with ⟨rfl, z⟩ | ⟨_, _, _, _, z⟩
      · rfl
      · cases z
    · cases z
  · rcases only i _ e with ⟨rfl, z⟩ | ⟨_, _, _, _, z⟩
    · cases z; exact ⟨by simp, fun a z => by cases z⟩
    · cases z
  · unfold L2.start en1
    simp [hl]
variable {P : Program} {w : World} {mg : Str → Option Value} {base : Heap} {ec : Nat → Addr}
theorem fn_okIO {x qual : Str} {st : Stmt} {f : Addr} {fd : FuncData} {N ps : List Str} {k n : Nat} {fm : List D → List D → R (D × List D)} (F : Fun K x qual st f fd) (S : FnScope N ps (defScope st)) (hn : ps.length = n + 1)
    (body : ∀ (cdv : Value) (A : Around) (outer : List Env) (s : Shared) (H : Hp) (E : XK), Room k (A.deeper (envOfC qual (defScope st) s.heap.objs.size f cdv)) →
      Go (cxOf (L2.CX P w) P w K mg base N qual (defScope st) f cdv A outer s H E) ec (fun c _ H => E (.ref (ec c)) none H) → ∀ (p : Addr) (c ds : List D), ds.length = n →
      XB (cxOf (L2.CX P w) P w K mg base N qual (defScope st) f cdv A outer s H E) (fun c _ H => E (.ref (ec c)) none H) [] (defBody st) (en1 N p c ds) (fm c ds) (TR (rIL K p))) :
    FnOk P w K mg base (L2.CX P w) (k + 1) f fd ps (spIO K ec n fm) := by
  refine F.okX S (fun vs H Q E h => ?_) (fun cdv A outer s H vs Q E hr h => ?_)
  · obtain ⟨G, p, ws, us, c, ds, l, rfl, gp, hp, ru, r, e, _⟩ := h
    rw [List.length_cons, r.len, e, hn]
  · obtain ⟨G, p, ws, us, c, ds, l, rfl, gp, hp, ru, r, e, q⟩ := h
    have g : Go (cxOf (L2.CX P w) P w K mg base N qual (defScope st) f cdv A outer s H E) ec (fun c _ H => E (.ref (ec c)) none H) :=
      ⟨rfl, passes_of rfl, S.nd, (takes_of (E := E) rfl rfl rfl rfl).imp fun cls d σ H' ⟨c, e1, e2, e3⟩ => by rw [e1, e2]; exact e3⟩
    have b := body cdv A outer s H E hr g p c ds e
    exact ⟨_, pss_w, b ⟨G, H, [p]⟩ (L2.start N (.ref p :: ws)) G H (st_start1 l gp hp ru r) _ (wp_mono q (fun o ho v G2 H2 f8 ⟨rr, us', h1, h2⟩ => ho v us' G2 H2 f8.toGrowX rr h1 h2) fun c hc σ G2 H2 es => hc G2 H2 es.fr.toGrowX)⟩
end
section
variable {X : Cx} {W : WN} {eE : En} {en : En} {ec : Nat → Addr} {pos : Pos} {γ δ ω : Type} {φ : γ → En} {ψ : δ → En} {a b c : Expr} {es : List Expr} {T : Bs → ω → Ends → Prop} {rest : List Stmt}
/-- f(x, ..), x one's own list that f may change -/
theorem xv_callIO {i : Nat} {bb : Bool} {q : Addr} {c0 : OO} {x y : Str} {p py : Pos} {k n : Nat} {f : Addr} {fd : FuncData} {ps : List Str} {fm : List D → List D → R (D × List D)} {m : R (List D × γ)} (g : Go X ec W) (F : FnOk X.prog X.w X.K X.mg X.base (L2.CX X.prog X.w) k f fd ps (spIO X.K ec n fm)) (hr : Room k X.A) (hm : X.mg x = some (.ref f)) (hk : PySem.W.keepIn X.K (.ref f) = true) (hb : Binds X.K fd ps [])
    (cn : γ → List D) (χ : γ × List D → En) (ha : XAV X W [] es en m φ) (hln : ∀ c ds P E, wp (fm c ds) P E → ds.length = n) (hy : en[i]? = some (some (.o bb q c0)) := by rfl) (he : ∀ c, (φ c)[i]? = some (some (.o bb q (.l (cn c)))) := by intro _; rfl) (hχ : ∀ c o, (φ c).set i (some (.o bb q (.l o))) = χ (c, o) := by intro _ _; rfl)
    (hN : X.N[i]? = some y := by rfl) (hv : Vis X.env.scope y := by first | exact Or.inl rfl | exact Or.inr (Or.inl rfl) | exact Or.inr (Or.inr rfl)) (hd : (y == ("__debug__" : Str)) = false := by decide) (hcd : (y == ("__classdict__" : Str)) = false := by decide)
    (hg : Gl X x := by rfl) (hdb : (x == ("__debug__" : Str)) = false := by decide) (h1 : starEach (.Name y py :: es) X.env = (false, eval (.Name y py) X.env) :: starEach es X.env := by rfl) (h2 : (backTo pos (starEach es X.env)).any (·.1) = false := by rfl) :
    XV X W [] (.Call (.Name x p) (.Name y py :: es) [] pos) en (m.bnd2 fun ds c => (fm (cn c) ds).bnd2 fun o l => .ok (o, (c, l))) χ := fun B σ G H S Q h => by
  obtain ⟨v0, e0, rfl, _⟩ := S.es.at_ i _ hy
  refine pe_to (pe_callS F hr hg hm hk hb (fun σ => passAt g.tk σ) (pa_cons (pe_var hN hv hd hcd) pa_w h1) hdb h1 h2) ⟨.ref q, e0, ha B σ G H S _ ?_⟩
  have h' := wp_bnd.mp h
  cases em : m with
  | ok r =>
    rw [em] at h'
    intro vs G1 H1 l1 S1 r1
    obtain ⟨_, gq, us, hq, ru⟩ := st_at S1 (he r.2)
    refine ⟨G1, q, vs, us, cn r.2, r.1, S1.lk, rfl, gq, hq, ru, r1, hln _ _ _ _ (wp_bnd.mp h'), wp_mono (wp_bnd.mp h') (fun o ho v us' G2 H2 w2 r2 h2 ru2 => ?_) fun c hc G2 H2 w2 => ⟨c, rfl, rfl, hc σ G2 H2 ?_⟩⟩
    · have S2 := S1.growX (he r.2) w2 h2 ru2
      rw [hχ] at S2
      exact ho v G2 H2 (l1.trans w2.g) S2 r2
    · have fr := S1.es.fr
      have hbq := (S1.es.own i bb q _ (he r.2)).1
      refine ⟨⟨w2.up, fr.le0.trans w2.g, fun a u n eu => ?_, fun a n => w2.there a (fr.there a n), fun a n => w2.thM a (fr.thM a n), fun a n mm => w2.cl a (fr.cl a n mm) (fr.thM a mm)⟩, fun i dv e => by simp at e, fun i j b b' p p' c c' e => by simp at e, fun i b p c e => by simp at e⟩
      have na : a ≠ q := fun z => by
        subst z
        cases bb with
        | true => exact n hbq
        | false => rw [if_neg Bool.false_ne_true] at hbq; rw [hbq] at eu; cases eu
      exact w2.h a u na (fr.keep a u n eu)
  | err c => rw [em] at h'; exact h'
  | bad => rw [em] at h'; exact h'.elim
/-- the same, other arguments that change nothing -/
theorem xv_io {i : Nat} {bb : Bool} {q : Addr} {cn : List D} {x y : Str} {p py : Pos} {k n : Nat} {f : Addr} {fd : FuncData} {ps : List Str} {fm : List D → List D → R (D × List D)} {m : R (List D)} (g : Go X ec W) (F : FnOk X.prog X.w X.K X.mg X.base (L2.CX X.prog X.w) k f fd ps (spIO X.K ec n fm)) (hr : Room k X.A) (hm : X.mg x = some (.ref f)) (hk : PySem.W.keepIn X.K (.ref f) = true) (hb : Binds X.K fd ps [])
    (χ : List D → En) (ha : XA X W es en m) (hln : ∀ c ds P E, wp (fm c ds) P E → ds.length = n) (hy : en[i]? = some (some (.o bb q (.l cn))) := by rfl) (hχ : ∀ o, en.set i (some (.o bb q (.l o))) = χ o := by intro _; rfl)
    (hN : X.N[i]? = some y := by rfl) (hv : Vis X.env.scope y := by first | exact Or.inl rfl | exact Or.inr (Or.inl rfl) | exact Or.inr (Or.inr rfl)) (hd : (y == ("__debug__" : Str)) = false := by decide) (hcd : (y == ("__classdict__" : Str)) = false := by decide)
    (hg : Gl X x := by rfl) (hdb : (x == ("__debug__" : Str)) = false := by decide) (h1 : starEach (.Name y py :: es) X.env = (false, eval (.Name y py) X.env) :: starEach es X.env := by rfl) (h2 : (backTo pos (starEach es X.env)).any (·.1) = false := by rfl) :
    XV X W [] (.Call (.Name x p) (.Name y py :: es) [] pos) en (m.bnd fun r => fm cn r) χ := fun B σ G H S Q h => by
  refine xv_callIO (γ := Unit) (φ := fun _ => en) (i := i) g F hr hm hk hb (fun _ => cn) (fun z => en.set i (some (.o bb q (.l z.2)))) (xav_of (cc := ()) ha) hln hy (fun _ => hy) (fun _ _ => rfl) hN hv hd hcd hg hdb h1 h2 B σ G H S Q ?_
  · cases em : m with
    | ok r' =>
      rw [em] at h
      have h : Post X W [] B (fm cn r') _ := h
      show Post X W [] B ((fm cn r').bnd2 fun o l => .ok (o, ((), l))) _
      refine wp_bnd.mpr (wp_mono h (fun o ho => ?_) fun _ z => z)
      intro v G2 H2 l S2 r2
      refine ho v G2 H2 l ?_ r2
      rw [← hχ]
      exact S2
    | err c => rw [em] at h; exact h
    | bad => rw [em] at h; exact h
/-! statements -/
theorem xb_letV {i : Nat} {x : Str} {p : Pos} {e : Expr} {m : R (D × γ)} {k : D → γ → R ω} (g : Go X ec W) (χ : D → γ → En) (h : XV X W eE e en m φ) (hk : ∀ d c, XB X W eE rest (χ d c) (k d c) T) (hi : X.N[i]? = some x := by rfl) (hφ : ∀ d c, (φ c).set i (some (.v d)) = χ d c := by intro _ _; rfl)
    (hx : Loc X.env.scope x := by first | exact Or.inl rfl | exact Or.inr rfl) (hs : swapsWith e (some (.Name x p)) pos.line X.env = pure false := by first | exact swaps_no rfl | exact swapsS_no rfl | rfl)
    (hf : X.fn x = true ∨ X.env.scope.names.lookup x = some .local := by first | exact .inl rfl | exact .inr rfl) : XB X W eE (.Assign [.Name x p] e pos :: rest) en (m.bnd2 k) T := fun B σ G H S D q => by
  refine pss_to (pss_cons (ps_set g.nd hi hx pe_w hs hf) pss_w) (h B σ G H S _ (wp_mono (wp_bnd.mp q) (fun d hd v G2 H2 l S2 r => ?_) fun _ z => z))
  exact hk d.1 d.2 B _ G2 H2 (by have := S2.set (i := i) r; rw [hφ] at this; exact this) D hd
theorem xb_letNV {i : Nat} {x : Str} {p : Pos} {e : Expr} {m : R (List D × γ)} {k : List D → γ → R ω} (g : Go X ec W) (χ : Addr → List D → γ → En) (h : XNV X W eE e en m φ) (hk : ∀ a d c, XB X W eE rest (χ a d c) (k d c) T) (hi : X.N[i]? = some x := by rfl) (hφ : ∀ a d c, (φ c).set i (some (.o false a (.l d))) = χ a d c := by intro _ _ _; rfl)
    (hx : Loc X.env.scope x := by first | exact Or.inl rfl | exact Or.inr rfl) (hs : swapsWith e (some (.Name x p)) pos.line X.env = pure false := by first | exact swaps_no rfl | exact swapsS_no rfl | rfl)
    (hf : X.fn x = true ∨ X.env.scope.names.lookup x = some .local := by first | exact .inl rfl | exact .inr rfl) : XB X W eE (.Assign [.Name x p] e pos :: rest) en (m.bnd2 k) T := fun B σ G H S D q => by
  refine pss_to (pss_cons (ps_set g.nd hi hx pe_w hs hf) pss_w) (h B σ G H S _ (wp_mono (wp_bnd.mp q) (fun d hd a vs G2 H2 l S2 hb no gp ep r => ?_) fun _ z => z))
  have := S2.setO (i := i) (p := a) (ds := d.1) no hb gp ⟨vs, ep, r⟩
  rw [hφ] at this
  exact hk a d.1 d.2 B _ G2 H2 this D hd
/-- return e, the def's first argument a list that it may have changed -/
theorem xb_retIO {i : Nat} {q : Addr} {e : Expr} {m : R (D × γ)} (cn : γ → List D) (h : XV X W eE e en m φ) (he : ∀ c, (φ c)[i]? = some (some (.o true q (.l (cn c)))) := by intro _; rfl) : XB X W eE [.Return (some e) pos] en (m.bnd2 fun d c => .ok (d, cn c)) (TR (rIL X.K q)) := fun B σ G H S D k => by
  refine pss_to (pss_one (ps_ret pe_w)) (h B σ G H S _ (wp_mono (wp_bnd.mp k) (fun d hd v G2 H2 l S2 r => ?_) fun _ z => z))
  obtain ⟨_, _, us, hq, ru⟩ := st_at S2 (he d.2)
  exact hd v G2 H2 S2.es.fr ⟨r, us, hq, ru⟩
theorem xb_retIOP {i : Nat} {q : Addr} {e : Expr} {cn : List D} {m : R D} (h : XP X W e en m) (he : en[i]? = some (some (.o true q (.l cn))) := by rfl) (we : Wk0 eE en := by first | exact wk0_nil | exact wk0_refl | assumption | exact Wkn.wk0 (by repeat' first | exact Wkn.nil | apply Wkn.k | apply Wkn.d)) : XB X W eE [.Return (some e) pos] en (m.bnd fun d => .ok (d, cn)) (TR (rIL X.K q)) := fun B σ G H S D k => by
  refine pss_to (pss_one (ps_ret pe_w)) (xp_run h S we (wp_mono (wp_bnd.mp k) (fun d hd v G2 H2 l S2 r => ?_) fun _ z => z))
  obtain ⟨_, _, us, hq, ru⟩ := st_at S2 he
  exact hd v G2 H2 S2.es.fr ⟨r, us, hq, ru⟩
theorem xb_retV {e : Expr} {m : R (D × γ)} (h : XV X W eE e en m φ) : XB X W eE [.Return (some e) pos] en (m.bnd2 fun d _ => .ok d) (TR (rP X.K)) := fun B σ G H S D k =>
  pss_to (pss_one (ps_ret pe_w)) (h B σ G H S _ (wp_mono (wp_bnd.mp k) (fun d hd v G2 H2 l S2 r => hd v G2 H2 S2.es.fr r) fun _ z => z))
/-- if, its test a change -/
theorem xb_ifRV {β : Type} {Rr : Hp → β → V → Hp → Hp → Prop} {A : List Stmt} {mc : R (Bool × γ)} {ma mr : γ → R β} (hc : XTV X W eE c en mc φ) (ha : ∀ c, XB X W eE A (φ c) (ma c) (TR Rr)) (hr : ∀ c, XB X W eE rest (φ c) (mr c) (TR Rr)) :
    XB X W eE (.If c A [] pos :: rest) en (mc.bnd2 fun b c => if b = true then ma c else mr c) (TR Rr) := fun B σ G H S D q => by
  refine pss_to (pss_cons (ps_if pt_w pss_w pss_nil) pss_w) (hc B σ G H S _ (wp_mono (wp_bnd.mp q) (fun b hb' G2 H2 l S2 => ?_) fun _ z => z))
  obtain ⟨b, c⟩ := b
  cases b with
  | true => exact ha c B σ G2 H2 S2 _ (wp_mono hb' (fun _ z => z) fun _ z => z)
  | false => exact hr c B σ G2 H2 S2 D hb'
theorem xs_ifV {A C : List Stmt} {mc : R (Bool × γ)} {ma mb : γ → R ω} (hc : XTV X W eE c en mc φ) (ha : ∀ c, XB X W eE A (φ c) (ma c) T) (hb : ∀ c, XB X W eE C (φ c) (mb c) T) : XS X W eE (.If c A C pos) en (mc.bnd2 fun b c => if b = true then ma c else mb c) T := fun B σ G H S D q => by
  refine ps_to (ps_if pt_w pss_w pss_w) (hc B σ G H S _ (wp_mono (wp_bnd.mp q) (fun b hb' G2 H2 l S2 => ?_) fun _ z => z))
  obtain ⟨b, c⟩ := b
  cases b with
  | true => exact ha c B σ G2 H2 S2 D hb'
  | false => exact hb c B σ G2 H2 S2 D hb'
theorem xtv_val {m : R (D × γ)} (h : XV X W eE a en m φ) (he : ∀ whole, isTrue a X.env whole = (do let v ← whole; standAt a.pos; holding [v] (truthy v)) := by intro _; rfl) : XTV X W eE a en (m.bnd2 fun d c => (R.of (D.bool d)).bnd fun b => .ok (b, c)) φ := fun B σ G H S Q k => by
  refine pt_to (pt_val pe_w he) (h B σ G H S _ (wp_mono (wp_bnd.mp k) (fun x hx v G1 H1 l1 S1 r1 => ?_) fun _ z => z))
  obtain ⟨d, e, hd⟩ := wp_of (wp_bnd.mp hx)
  obtain ⟨x, c⟩ := x
  cases x <;> cases e
  cases r1
  exact ⟨_, rfl, hd G1 H1 l1 S1⟩
theorem xtv_not {m : R (Bool × γ)} (h : XTV X W eE a en m φ) : XTV X W eE (.UnaryOp .Not a pos) en (m.bnd2 fun b c => .ok (!b, c)) φ := fun B σ G H S Q k =>
  pt_to (pt_not pt_w) (h B σ G H S _ (wp_mono (wp_bnd.mp k) (fun x hx G1 H1 l1 S1 => hx G1 H1 l1 S1) fun _ z => z))
theorem xtv_w {m : R (Bool × γ)} (h : XWV X W eE a en m φ) : XTV X W eE a en m φ := fun B σ G H S Q k => pt_to (PW.pt pw_w) (h B σ G H S Q k)
theorem xwv_and1 {m : R (Bool × γ)} (h : XTV X W eE a en m φ) : XWV X W eE (.BoolOp .And [a] pos) en m φ := fun B σ G H S Q k => pw_to (pw_and1 pt_w) (h B σ G H S Q k)
theorem xwv_or1 {m : R (Bool × γ)} (h : XTV X W eE a en m φ) : XWV X W eE (.BoolOp .Or [a] pos) en m φ := fun B σ G H S Q k => pw_to (pw_or1 pt_w) (h B σ G H S Q k)
variable {rs : List Expr}
/-- a and b: a changes nothing -/
theorem xwv_andP {m : R Bool} {mb : R (Bool × γ)} {cc : γ} (h : XT X W a en m) (hb : XWV X W eE (.BoolOp .And (b :: rs) pos) en mb φ) (hφ : φ cc = en := by rfl) (we : Wk0 eE en := by first | exact wk0_nil | exact wk0_refl | assumption | exact Wkn.wk0 (by repeat' first | exact Wkn.nil | apply Wkn.k | apply Wkn.d)) : XWV X W eE (.BoolOp .And (a :: b :: rs) pos) en (m.bnd fun x => if x = true then mb else .ok (false, cc)) φ := fun B σ G H S Q k => by
  refine pw_to (pw_and pt_w pw_w) (xt_run h S we (wp_mono (wp_bnd.mp k) (fun x hx G1 H1 l1 S1 => ?_) fun _ z => z))
  cases x with
  | true => exact hb B σ G1 H1 S1 Q (wp_mono hx (fun y hy G2 H2 l2 S2 => hy G2 H2 (l1.trans l2) S2) fun _ z => z)
  | false => exact hx G1 H1 l1 (by show St8 X.K B (φ cc) _ _ _; rw [hφ]; exact S1)
theorem xwv_orP {m : R Bool} {mb : R (Bool × γ)} {cc : γ} (h : XT X W a en m) (hb : XWV X W eE (.BoolOp .Or (b :: rs) pos) en mb φ) (hφ : φ cc = en := by rfl) (we : Wk0 eE en := by first | exact wk0_nil | exact wk0_refl | assumption | exact Wkn.wk0 (by repeat' first | exact Wkn.nil | apply Wkn.k | apply Wkn.d)) : XWV X W eE (.BoolOp .Or (a :: b :: rs) pos) en (m.bnd fun x => if x = true then .ok (true, cc) else mb) φ := fun B σ G H S Q k => by
  refine pw_to (pw_or pt_w pw_w) (xt_run h S we (wp_mono (wp_bnd.mp k) (fun x hx G1 H1 l1 S1 => ?_) fun _ z => z))
  cases x with
  | false => exact hb B σ G1 H1 S1 Q (wp_mono hx (fun y hy G2 H2 l2 S2 => hy G2 H2 (l1.trans l2) S2) fun _ z => z)
  | true => exact hx G1 H1 l1 (by show St8 X.K B (φ cc) _ _ _; rw [hφ]; exact S1)
/-- a and b: a changes -/
theorem xwv_andV {m : R (Bool × γ)} {mb : γ → R Bool} (h : XTV X W eE a en m φ) (hb : ∀ c, XW X W (.BoolOp .And (b :: rs) pos) (φ c) (mb c)) (we : ∀ c, Wk0 eE (φ c) := by intro _; first | exact wk0_nil | exact wk0_refl | assumption | exact Wkn.wk0 (by repeat' first | exact Wkn.nil | apply Wkn.k | apply Wkn.d)) : XWV X W eE (.BoolOp .And (a :: b :: rs) pos) en (m.bnd2 fun b c => if b = true then (mb c).bnd fun y => .ok (y, c) else .ok (false, c)) φ := fun B σ G H S Q k => by
  refine pw_to (pw_and pt_w pw_w) (h B σ G H S _ (wp_mono (wp_bnd.mp k) (fun x hx G1 H1 l1 S1 => ?_) fun _ z => z))
  obtain ⟨x, c⟩ := x
  cases x with
  | true => exact hb c σ G1 H1 S1.sl Q (wp_mono (wp_bnd.mp hx) (fun y hy G2 H2 w2 => hy G2 H2 (l1.trans w2.g) (S1.grow w2)) fun _ z G2 H2 w2 => z σ G2 H2 ((S1.grow w2).es.weak (we c)))
  | false => exact hx G1 H1 l1 S1
theorem xwv_orV {m : R (Bool × γ)} {mb : γ → R Bool} (h : XTV X W eE a en m φ) (hb : ∀ c, XW X W (.BoolOp .Or (b :: rs) pos) (φ c) (mb c)) (we : ∀ c, Wk0 eE (φ c) := by intro _; first | exact wk0_nil | exact wk0_refl | assumption | exact Wkn.wk0 (by repeat' first | exact Wkn.nil | apply Wkn.k | apply Wkn.d)) : XWV X W eE (.BoolOp .Or (a :: b :: rs) pos) en (m.bnd2 fun b c => if b = true then .ok (true, c) else (mb c).bnd fun y => .ok (y, c)) φ := fun B σ G H S Q k => by
  refine pw_to (pw_or pt_w pw_w) (h B σ G H S _ (wp_mono (wp_bnd.mp k) (fun x hx G1 H1 l1 S1 => ?_) fun _ z => z))
  obtain ⟨x, c⟩ := x
  cases x with
  | false => exact hb c σ G1 H1 S1.sl Q (wp_mono (wp_bnd.mp hx) (fun y hy G2 H2 w2 => hy G2 H2 (l1.trans w2.g) (S1.grow w2)) fun _ z G2 H2 w2 => z σ G2 H2 ((S1.grow w2).es.weak (we c)))
  | true => exact hx G1 H1 l1 S1
/-- x.m(e), the argument a change -/
theorem xb_mutV {i : Nat} {bb : Bool} {p : Addr} {px pa pc : Pos} {x name : Str} {id : String} {m : R (D × γ)} {r : V → List V → Hp → VK → Prop} {f : List D → D → Option (List D)} {k : List D → γ → R ω} {l0 : List D} (slot : Slot "list" name id) (hty : typeOf (.builtin id) = pure (.type "method_descriptor")) (hm : MtR X id r) (hf : MutD X.K r f)
    (cn : γ → List D) (χ : List D → γ → En) (ha : XV X W eE a en m φ) (hk : ∀ ds c, XB X W eE rest (χ ds c) (k ds c) T) (hy : en[i]? = some (some (.o bb p (.l l0))) := by rfl) (he : ∀ c, (φ c)[i]? = some (some (.o bb p (.l (cn c)))) := by intro _; rfl) (hφ : ∀ ds c, (φ c).set i (some (.o bb p (.l ds))) = χ ds c := by intro _ _; rfl)
    (hN : X.N[i]? = some x := by rfl) (hv : Vis X.env.scope x := by first | exact Or.inl rfl | exact Or.inr (Or.inl rfl) | exact Or.inr (Or.inr rfl)) (hd : (x == ("__debug__" : Str)) = false := by decide) (hcd : (x == ("__classdict__" : Str)) = false := by decide)
    (hbase : attributeBase (.Name x px) name X.env (eval (.Name x px) X.env) = eval (.Name x px) X.env := by rfl)
    (hfew : ((backTo pc (starEach [a] X.env)).all (fun x => !x.1) && (backToKw pc (keywordEach [] X.env)).all (fun x => x.1.isSome)
      && decide (([a] : List Expr).length + ([] : List Keyword).length + (if ([] : List Keyword).isEmpty then 0 else 1) < 30)) = true := by rfl)
    (hline : (pa.endLine == pc.line) = true := by rfl) (hs : starEach [a] X.env = (false, eval a X.env) :: starEach [] X.env := by rfl) (hplain : (backTo pc (starEach [] X.env)).any (·.1) = false := by rfl)
    (hsw : swapsWith (.Call (.Attribute (.Name x px) name pa) [a] [] pc) none pos.line X.env = pure false := by first | exact swaps_no rfl | exact swapsS_no rfl | rfl) : XB X W eE (.Expr (.Call (.Attribute (.Name x px) name pa) [a] [] pc) pos :: rest) en (m.bnd2 fun d c => (R.of (f (cn c) d)).bnd fun ds => k ds c) T := fun B σ G H S D q => by
  obtain ⟨e1, g0, vs, hp, rr⟩ := st_at S hy
  refine pss_to (pss_cons (ps_expr (pe_bm PySem.F.plainAttrs_list slot hty hm (pe_var hN hv hd hcd) (pa_cons pe_w pa_nil hs) hbase hfew hline hs hplain) hsw) pss_w) ⟨.ref p, e1, .inl ⟨rfl, vs, .inl (.inl hp)⟩, ?_⟩
  refine ha B σ G H S _ (wp_mono (wp_bnd.mp q) (fun d hd' v G1 H1 l S1 r1 => ?_) fun _ z => z)
  obtain ⟨ds', e2, hd2⟩ := wp_of (wp_bnd.mp hd')
  obtain ⟨e3, g3, us, hp3, r3⟩ := st_at S1 (he d.2)
  refine hf G1 H1 p us _ v d.1 ds' S1.lk hp3 r3 r1 e2 _ fun us' r' => ?_
  have S2 := S1.mutL (ds' := ds') (us := us') (he d.2) (r')
  rw [hφ] at S2
  exact hk _ _ B σ G1 _ S2 D hd2
/-! a comprehension whose element changes what one owns -/
def noEV {α : Type} (m : R α) : R α := noE m
def lcV (f : γ → D → R (D × γ)) : γ → List D → R (List D × γ)
  | c, [] => .ok ([], c)
  | c, d :: ds => (noE (f c d)).bnd fun r => (lcV f r.2 ds).bnd fun s => .ok (r.1 :: s.1, s.2)
def lcVR (f : γ → D → R (D × γ)) (c : γ) (ds : List D) : R (List D × γ) := if ds.length ≤ 16000000 then lcV f c ds else .bad
def BV (X : Cx) (scope : Scope) (e : Expr) (en : En) {γ : Type} (m : R (D × γ)) (φ : γ → En) : Prop := ∀ (s : Shared) (H0 : Hp) (C : Addr) (cl : List (Str × Addr)) (fp : List Addr), XV (X.blk s H0 scope (compEnvC scope cl C X.env) fp) W0 [] e en m φ
theorem St8.wipe {K : PySem.W.Frag} {B : Bs} {σ : L2.St} {G H : Hp} {vs : List Nat} (s : St8 K B en σ G H) (h : clr en vs = true) : St8 K B en (L2.wipe σ vs) G H := by
  have z := s.sl.wipe h
  exact ⟨⟨s.es.fr, z.at_, s.es.ones, s.es.own⟩, z.len⟩
theorem St8.unwipe {K : PySem.W.Frag} {B : Bs} {σ : L2.St} {G H : Hp} {vs : List Nat} (s : St8 K B en (L2.wipe σ vs) G H) : St8 K B en σ G H :=
  ⟨⟨s.es.fr, fun i dv e => by obtain ⟨v, a, b⟩ := s.es.at_ i dv e; exact ⟨v, (wipe_some a).1, b⟩, s.es.ones, s.es.own⟩, by rw [← s.len, wipe_length]⟩
/-- one more object that must stay -/
def Bs.with_ (B : Bs) (G : Hp) (p : Addr) (o : HO) : Bs := ⟨G, upd B.H0 p o, B.io.filter fun a => decide (a ≠ p)⟩
theorem NoOwn.set {p : Addr} {i : Nat} {d : D} (h : NoOwn en p) : NoOwn (en.set i (some (.v d))) p := fun j b q c e => by
  rcases get_set e with ⟨rfl, e1⟩ | ⟨n, f1⟩
  · cases e1
  · exact h j b q c f1
theorem St8.with_ {K : PySem.W.Frag} {B : Bs} {σ : L2.St} {G H : Hp} {p : Addr} {o : HO} (s : St8 K B en σ G H) (hp : H p = some o) (gp : G p = none) (no : NoOwn en p) (mo : Mu o := by trivial) : St8 K (B.with_ G p o) en σ G H := by
  refine ⟨⟨⟨s.es.fr.up, Le.refl _, fun a u n e => ?_, fun a n => ?_, fun a n => ?_, fun a n m => n⟩, s.es.at_, s.es.ones, fun i b q c e => ?_⟩, s.len⟩
  · by_cases ea : a = p
    · subst ea
      have e : upd B.H0 a o a = some u := e
      rw [upd_same] at e; rw [hp]; exact e
    · have e : upd B.H0 p o a = some u := e
      rw [upd_ne ea] at e
      exact s.es.fr.keep a u (fun z => n (List.mem_filter.mpr ⟨z, by simpa using ea⟩)) e
  · by_cases ea : a = p
    · subst ea; rw [hp]; intro z; cases z
    · have n : upd B.H0 p o a ≠ none := n
      rw [upd_ne ea] at n
      exact s.es.fr.there a n
  · by_cases ea : a = p
    · exact ⟨o, by rw [ea]; exact hp, mo⟩
    · refine s.es.fr.thM a ?_
      obtain ⟨u, x, y⟩ := n
      have x : upd B.H0 p o a = some u := x
      rw [upd_ne ea] at x
      exact ⟨u, x, y⟩
  · have no' := no i b q c e
    obtain ⟨h, h'⟩ := s.es.own i b q c e
    refine ⟨?_, fun x hx => ?_⟩
    · have nq : q ≠ p := fun z => no' (by rw [← z]; exact fp_top)
      cases b with
      | true => exact List.mem_filter.mpr ⟨h, by simpa using nq⟩
      | false =>
        show upd B.H0 p o q = none
        rw [upd_ne nq]; exact h
    · have na : x.1 ≠ p := fun z => no' (by rw [← z]; exact List.mem_cons_of_mem _ (List.mem_map_of_mem hx))
      rcases h' x hx with z | z
      · exact .inl ⟨z.1, List.mem_filter.mpr ⟨z.2, by simpa using na⟩⟩
      · right
        show upd B.H0 p o x.1 = none
        rw [upd_ne na]; exact z
theorem St8.unwith {K : PySem.W.Frag} {B : Bs} {σ : L2.St} {G G4 H H4 : Hp} {p : Addr} {o : HO} (f : Fr8 B G4 H4) (s : St8 K (B.with_ G4 p o) en σ G H) (hB : B.H0 p = none) : St8 K B en σ G H ∧ NoOwn en p ∧ H p = some o := by
  have nob : ∀ q, q ∈ (B.with_ G4 p o).io ∨ (B.with_ G4 p o).H0 q = none → q ≠ p := fun q h z => by
    subst z
    rcases h with h | h
    · exact absurd (List.mem_filter.mp h).2 (by simp)
    · have h : upd B.H0 q o q = none := h
      rw [upd_same] at h; cases h
  refine ⟨⟨⟨⟨s.es.fr.up, f.le0.trans s.es.fr.le0, fun a u n e => ?_, fun a n => ?_, fun a n => ?_, fun a n m => ?_⟩, s.es.at_, s.es.ones, fun i b q c e => ?_⟩, s.len⟩, fun i b q c e m => ?_, ?_⟩
  · have ea : a ≠ p := fun z => by rw [z, hB] at e; cases e
    exact s.es.fr.keep a u (fun z => n (List.mem_filter.mp z).1) (by show upd B.H0 p o a = _; rw [upd_ne ea]; exact e)
  · have ea : a ≠ p := fun z => by rw [z] at n; exact n hB
    exact s.es.fr.there a (by show upd B.H0 p o a ≠ _; rw [upd_ne ea]; exact n)
  · have ea : a ≠ p := fun z => by rw [z] at n; exact n.ne hB
    obtain ⟨u, x, y⟩ := n
    exact s.es.fr.thM a ⟨u, by show upd B.H0 p o a = _; rw [upd_ne ea]; exact x, y⟩
  · have ea : a ≠ p := fun z => by rw [z] at m; exact m.ne hB
    obtain ⟨u, x, y⟩ := m
    exact s.es.fr.cl a (f.cl a n ⟨u, x, y⟩) ⟨u, by show upd B.H0 p o a = _; rw [upd_ne ea]; exact x, y⟩
  · obtain ⟨h, h'⟩ := s.es.own i b q c e
    have un : ∀ a, upd B.H0 p o a = none → B.H0 a = none := fun a z => by
      by_cases eq : a = p
      · rw [eq, upd_same] at z; cases z
      · rw [upd_ne eq] at z; exact z
    refine ⟨?_, fun x hx => ?_⟩
    · cases b with
      | true => exact (List.mem_filter.mp h).1
      | false => exact un q h
    · rcases h' x hx with z | z
      · exact .inl ⟨z.1, (List.mem_filter.mp z.2).1⟩
      · exact .inr (un _ z)
  · exact nob p ((s.es.own i b q c e).any m) rfl
  · exact s.es.fr.keep p o (fun z => absurd (List.mem_filter.mp z).2 (by simp)) (by show upd B.H0 p o p = _; rw [upd_same])
theorem wipe_set_self {σ : L2.St} {i : Nat} {x : Option V} : wipe ((wipe σ [i]).set i x) [i] = wipe σ [i] := by
  rw [wipe_set (by simp)]
  exact wipe_wipe _ _ fun _ h => h
theorem St8.unset {K : PySem.W.Frag} {B : Bs} {σ : L2.St} {G H : Hp} {i : Nat} {d : D} (s : St8 K B (en.set i (some (.v d))) σ G H) (h : clr en [i] = true) : St8 K B en σ G H := by
  have hh : ∀ (j : Nat) (dv : DV), en[j]? = some (some dv) → (en.set i (some (.v d)))[j]? = some (some dv) := fun j dv e => by
    have nj : i ≠ j := fun z => by
      subst z
      rw [clr_at h (List.mem_singleton.mpr rfl)] at e; cases e
    rw [List.getElem?_set_ne nj]; exact e
  exact ⟨s.es.weak hh, by have := s.len; simpa using this⟩
theorem St8.mutD {K : PySem.W.Frag} {B : Bs} {σ : L2.St} {G H : Hp} {p : Addr} {o : HO} (s : St8 K B en σ G H) (hB : B.H0 p = none) (no : NoOwn en p) (gp : G p = none) (mo : Mu o := by trivial) : St8 K B en σ G (upd H p o) := by
  refine ⟨⟨⟨s.es.fr.up.mutQ gp, s.es.fr.le0, fun a u n eu => ?_, fun a n => ?_, fun a n => ?_, s.es.fr.cl⟩, fun j dv ej => ?_, s.es.ones, s.es.own⟩, s.len⟩
  · have na : a ≠ p := fun z => by rw [z, hB] at eu; cases eu
    rw [upd_ne na]; exact s.es.fr.keep a u n eu
  · by_cases z : a = p
    · rw [z, upd_same]; intro y; cases y
    · rw [upd_ne z]; exact s.es.fr.there a n
  · by_cases z : a = p
    · exact ⟨o, by rw [z, upd_same], mo⟩
    · obtain ⟨u, x, y⟩ := s.es.fr.thM a n
      exact ⟨u, by rw [upd_ne z]; exact x, y⟩
  · obtain ⟨u, x, y⟩ := s.es.at_ j dv ej
    refine ⟨u, x, ?_⟩
    cases dv with
    | v d => exact y
    | o b2 q c2 => exact ⟨y.1, y.2.other (no j b2 q c2 ej)⟩
theorem xnv_lc {i : Nat} {x : Str} {p : Pos} {it elt : Expr} {scope : Scope} {mi : R (List D)} {c0 : γ} {me : γ → D → R (D × γ)} (g : Go X ec W) (hi : XI X W (.Name x p) it en mi) (he : ∀ c d, BV X scope elt ((φ c).set i (some (.v d))) (me c d) (fun c' => (φ c').set i (some (.v d)))) (h0 : φ c0 = en := by rfl) (hblk : BlkOk X.N X.env.scope scope [(x, i)]) (hc : ∀ c, clr (φ c) [i] = true := by intro _; rfl)
    (hN : X.N[i]? = some x := by rfl) (we : Wk0 eE en := by first | exact wk0_nil | exact wk0_refl | assumption | exact Wkn.wk0 (by repeat' first | exact Wkn.nil | apply Wkn.k | apply Wkn.d)) (hx : ∀ (s : Shared) (H0 : Hp) (C : Addr) (cl : List (Str × Addr)) (fp : List Addr), Loc (X.blk s H0 scope (compEnvC scope cl C X.env) fp).env.scope x := by intros; first | exact Or.inl rfl | exact Or.inr rfl)
    (hf : ∀ (s : Shared) (H0 : Hp) (C : Addr) (cl : List (Str × Addr)) (fp : List Addr), (X.blk s H0 scope (compEnvC scope cl C X.env) fp).fn x = true ∨ (X.blk s H0 scope (compEnvC scope cl C X.env) fp).env.scope.names.lookup x = some .local := by intros; first | exact .inl rfl | exact .inr rfl)
    (hs : ∀ x, foldedSetIterable it X.env x = pure x := by intro _; rfl) : XNV X W eE (.ListComp elt [⟨.Name x p, it, [], 0⟩] scope pos) en (mi.bnd fun ds => lcVR me c0 ds) φ := fun B σ G H S Q q => by
  refine pe_to (pe_lc (own := [(x, i)]) g.calm g.nd pi_w hblk (fun s H0 C cl fp => pg_name g.nd hN (hx s H0 C cl fp) (hf s H0 C cl fp)) (fun _ _ _ _ _ => pts_nil) pe_wb hs) ?_
  refine hi σ G H S.sl _ (wp_mono (wp_bnd.mp q) (fun ds hd J G1 H1 w1 wk => ?_) fun _ z G2 H2 w => z σ G2 H2 ((S.grow w).es.weak we))
  have S1 := S.grow w1
  unfold lcVR at hd
  by_cases hln : ds.length ≤ 16000000
  · rw [if_pos hln] at hd
    intro D hD
    have hB := S1.h0 hD
    have hno := S1.noOwn hD
    refine ⟨fun i' m H' => m = ds.length - i' ∧ i' ≤ ds.length ∧ ∃ G' acc dn c, Le G1 G' ∧ St8 X.K B (φ c) σ G' H' ∧ H' D = some (.lst acc) ∧ G' D = none ∧ NoOwn (φ c) D ∧ RpAll X.K G' acc dn ∧ acc.length ≤ i' ∧ Post X W eE B (lcV me c (ds.drop i')) (fun r => ∀ p vs G2 H2, Le G G2 → St8 X.K B (φ r.2) σ G2 H2 → B.H0 p = none → NoOwn (φ r.2) p → G2 p = none → H2 p = some (.lst vs) → RpAll X.K G2 vs (dn ++ r.1) → Q (.ref p) H2),
      ⟨_, rfl, Nat.zero_le _, G1, [], [], c0, Le.refl _, ?_, upd_same, S1.lk.kn D hD, ?_, .nil, Nat.le_refl _, hd⟩, ?_⟩
    · rw [h0]; exact S1.grow (Grow.own S1.lk hD)
    · rw [h0]; exact hno
    · rintro i' m H' ⟨rfl, hi', G', acc, dn, c, l1, S', hA, gA, no, rA, lA, p⟩
      by_cases hlt : i' < ds.length
      · rw [List.drop_eq_getElem_cons hlt] at p
        obtain ⟨go, yl⟩ := wk.go i' ds[i'] (List.getElem?_eq_getElem hlt) G' H' l1 S'.lk
        refine .inr ⟨go, fun H3 => ∃ G3 acc dn c, Le G1 G3 ∧ St8 X.K B (φ c) σ G3 H3 ∧ H3 D = some (.lst acc) ∧ G3 D = none ∧ NoOwn (φ c) D ∧ RpAll X.K G3 acc dn ∧ acc.length ≤ i' + 1 ∧ Post X W eE B (lcV me c (ds.drop (i' + 1))) (fun r => ∀ p vs G2 H2, Le G G2 → St8 X.K B (φ r.2) σ G2 H2 → B.H0 p = none → NoOwn (φ r.2) p → G2 p = none → H2 p = some (.lst vs) → RpAll X.K G2 vs (dn ++ r.1) → Q (.ref p) H2),
          fun H3 ⟨G3, acc, dn, c, h⟩ => ⟨ds.length - (i' + 1), by omega, rfl, hlt, G3, acc, dn, c, h⟩, fun xv H4 y => ?_⟩
        obtain ⟨G4, w4, r4⟩ := yl xv H4 y
        have hA4 : H4 D = some (.lst acc) := w4.h _ _ hA
        have gA4 : G4 D = none := w4.cl D gA ⟨_, hA, trivial⟩
        have S6 := ((S'.grow w4).wipe (hc c)).set (i := i) r4
        refine ⟨wipe_set_self, ?_⟩
        show wEb X scope elt _ H4 _
        intro s0 H0' C cl fp
        refine he c ds[i'] s0 H0' C cl fp (B.with_ G4 D (.lst acc)) _ G4 H4 (S6.with_ hA4 gA4 (NoOwn.set no)) _ (wp_mono (wp_noE (wp_bnd.mp p)) (fun r hr v G7 H7 l7 S7 r7 => ?_) fun _ z => z.elim)
        obtain ⟨S8, no8, hA7⟩ := S7.unwith (S'.es.fr.grow w4) hB
        have gA7 : G7 D = none := S7.es.fr.cl D gA4 ⟨_, upd_same, trivial⟩
        have S9 : St8 X.K B (φ r.2) σ G7 H7 := by
          have z := (S8.unset (hc r.2)).wipe (hc r.2)
          rw [wipe_set_self] at z
          exact z.unwipe
        have no9 : NoOwn (φ r.2) D := fun j b qq c e => by
          refine no8 j b qq c ?_
          have nj : i ≠ j := fun z => by
            subst z
            rw [clr_at (hc r.2) (List.mem_singleton.mpr rfl)] at e; cases e
          show ((φ r.2).set i (some (.v ds[i'])))[j]? = _
          rw [List.getElem?_set_ne nj]
          exact e
        refine ⟨acc, hA7, Nat.lt_of_le_of_lt lA (Nat.lt_of_lt_of_le hlt (size_ok hln)), G7, acc ++ [v], dn ++ [r.1], r.2, l1.trans (w4.g.trans l7), S9.mutD hB no9 gA7, upd_same, gA7, no9, (rA.up (w4.g.trans l7)).app (.cons r7 .nil), by rw [List.length_append]; show _ + 1 ≤ _; omega, ?_⟩
        refine wp_mono (wp_bnd.mp hr) (fun s hs p vs G2 H2 a1 a2 a3 a4 a5 a6 a7 => hs p vs G2 H2 a1 a2 a3 a4 a5 a6 ?_) fun _ z => z
        show RpAll X.K G2 vs (dn ++ (r.1 :: s.1))
        have e : dn ++ (r.1 :: s.1) = dn ++ [r.1] ++ s.1 := by simp
        rw [e]; exact a7
      · have ei : i' = ds.length := by omega
        subst ei
        rw [List.drop_length] at p
        have p : ∀ p vs G2 H2, Le G G2 → St8 X.K B (φ c) σ G2 H2 → B.H0 p = none → NoOwn (φ c) p → G2 p = none → H2 p = some (.lst vs) → RpAll X.K G2 vs (dn ++ []) → Q (.ref p) H2 := p
        exact .inl ⟨wk.stop G' H' l1 S'.lk, p D acc G' H' (w1.g.trans l1) S' hB no gA hA (by rw [List.append_nil]; exact rA)⟩
  · rw [if_neg hln] at hd
    exact hd.elim
end
end Wk
set_option maxHeartbeats 4000000
/-! Wk10: forms that a printer writes. -/
namespace Wk
open PySem PySem.Spec PyProof.Rows L2

/-- an error's class as the top has made it -/
structure ErrOk (K : PySem.W.Frag) (mg : Str → Option Value) (x : Str) (C : Addr) : Prop where
  gC : mg x = some (.ref C)
  q : PySem.W.excIn K C [.type "ValueError", .type "Exception", .type "BaseException", .type "object"] "ValueError.__new__" = true
  kC : PySem.W.keepIn K (.ref C) = true
  r1 : PySem.W.subIn K (.ref C) (.type "BaseException") = some true
  r2 : PySem.W.typeIn K (.ref C) = some (.type "type")
section
variable {X : Cx} {W : WN} {eE : En} {en : En} {ec : Nat → Addr} {pos : Pos} {ω : Type} {T : Bs → ω → Ends → Prop} {rest : List Stmt} {a b c : Expr} {ma mb mc : R D}
theorem xp_cI {x : Str} {i : Int} (h : ∃ u, X.mg x = some u ∧ RelV (.int i) u) (hg : Gl X x := by rfl) (hd : (x == ("__debug__" : Str)) = false := by decide) : XP X W (.Name x pos) en (.ok (.int i)) := by
  obtain ⟨u, h1, h2⟩ := h
  exact xp_globI hg h1 h2 hd
theorem xp_cS {x : Str} {i : Str} (h : ∃ u, X.mg x = some u ∧ RelV (.str i) u) (hg : Gl X x := by rfl) (hd : (x == ("__debug__" : Str)) = false := by decide) : XP X W (.Name x pos) en (.ok (.str i)) := by
  obtain ⟨u, h1, h2⟩ := h
  exact xp_globS hg h1 h2 hd
theorem xb_rse {n : Nat} {x m : Str} {j : Nat} {p p2 p3 : Pos} (g : Go X ec W) (h : ErrOk X.K X.mg x (ec n)) (hg : Gl X x := by rfl) (hdb : (x == ("__debug__" : Str)) = false := by decide) (we : Wk0 eE en := by first | exact wk0_nil | exact wk0_refl | assumption | exact Wkn.wk0 (by repeat' first | exact Wkn.nil | apply Wkn.k | apply Wkn.d)) :
    XB X W eE [.Raise (some (.Call (.Name x p) [.Constant (.str m) j p2] [] p3)) none pos] en (.err n : R ω) T := xb_raise g PySem.F.excBase_ValueError h.q h.gC h.kC (raises_own h.r1 h.r2) hg hdb we
/-! and, or as values -/
variable {rs : List Expr}
theorem xp_one {op : BoolOp} (h : XP X W a en ma) : XP X W (.BoolOp op [a] pos) en ma := fun σ G H S Q k => pe_to (pe_one pe_w) (h σ G H S Q k)
theorem xp_and (ha : XP X W a en ma) (hb : XP X W (.BoolOp .And (b :: rs) pos) en mb) : XP X W (.BoolOp .And (a :: b :: rs) pos) en (ma.bnd fun x => (R.of x.bool).bnd fun t => if t = true then mb else .ok (.bl false)) := fun σ G H S Q k => by
  refine pe_to (pe_and pe_w pe_w) (ha σ G H S _ (wp_mono (wp_bnd.mp k) (fun x hx v G1 H1 w1 r1 => ?_) fun _ z => z))
  obtain ⟨t, e, hd⟩ := wp_of (wp_bnd.mp hx)
  cases x <;> cases e
  cases r1
  refine ⟨_, rfl, ?_⟩
  cases t with
  | true => exact hb σ G1 H1 (S.grow w1) Q (wp_mono hd (fun y hy v G2 H2 w2 r2 => hy v G2 H2 (w1.trans w2) r2) fun _ z G2 H2 w => z G2 H2 (w1.trans w))
  | false => exact hd _ G1 H1 w1 (.bl false)
theorem xp_or (ha : XP X W a en ma) (hb : XP X W (.BoolOp .Or (b :: rs) pos) en mb) : XP X W (.BoolOp .Or (a :: b :: rs) pos) en (ma.bnd fun x => (R.of x.bool).bnd fun t => if t = true then .ok (.bl true) else mb) := fun σ G H S Q k => by
  refine pe_to (pe_or pe_w pe_w) (ha σ G H S _ (wp_mono (wp_bnd.mp k) (fun x hx v G1 H1 w1 r1 => ?_) fun _ z => z))
  obtain ⟨t, e, hd⟩ := wp_of (wp_bnd.mp hx)
  cases x <;> cases e
  cases r1
  refine ⟨_, rfl, ?_⟩
  cases t with
  | false => exact hb σ G1 H1 (S.grow w1) Q (wp_mono hd (fun y hy v G2 H2 w2 r2 => hy v G2 H2 (w1.trans w2) r2) fun _ z G2 H2 w => z G2 H2 (w1.trans w))
  | true => exact hd _ G1 H1 w1 (.bl true)
theorem xp_not (ha : XP X W a en ma) : XP X W (.UnaryOp .Not a pos) en (ma.bnd fun x => (R.of x.bool).bnd fun t => .ok (.bl (!t))) := fun σ G H S Q k => by
  refine pe_to (pe_not pe_w) (ha σ G H S _ (wp_mono (wp_bnd.mp k) (fun x hx v G1 H1 w1 r1 => ?_) fun _ z => z))
  obtain ⟨t, e, hd⟩ := wp_of (wp_bnd.mp hx)
  cases x <;> cases e
  cases r1
  exact ⟨_, rfl, hd _ G1 H1 w1 (.bl _)⟩
theorem xp_if {mt : R Bool} (hc : XT X W c en mt) (ha : XP X W a en ma) (hb : XP X W b en mb) : XP X W (.IfExp c a b pos) en (mt.bnd fun t => if t = true then ma else mb) := fun σ G H S Q k => by
  refine pe_to (pe_ifExp pt_w pe_w pe_w) (hc σ G H S _ (wp_mono (wp_bnd.mp k) (fun t ht G1 H1 w1 => ?_) fun _ z => z))
  cases t with
  | true => exact ha σ G1 H1 (S.grow w1) Q (wp_mono ht (fun y hy v G2 H2 w2 r2 => hy v G2 H2 (w1.trans w2) r2) fun _ z G2 H2 w => z G2 H2 (w1.trans w))
  | false => exact hb σ G1 H1 (S.grow w1) Q (wp_mono ht (fun y hy v G2 H2 w2 r2 => hy v G2 H2 (w1.trans w2) r2) fun _ z G2 H2 w => z G2 H2 (w1.trans w))
/-! isinstance -/
def D.ty : D → Option String
  | .non => some "NoneType"
  | .bl _ => some "bool"
  | .int _ => some "int"
  | .str _ => some "str"
  | .lst _ => some "list"
  | .tup _ => some "tuple"
  | .dK _ _ => some "dict"
  | .dT _ _ => none
  | .exc _ => none
  | .frl _ => none
  | .tux _ => some "tuple"
  | .tk _ => none
def D.isT (n : String) (d : D) : Option D := d.ty.bind fun t => (kitB t n).map .bl
theorem ty_rp {K : PySem.W.Frag} {G H : Hp} (l : Lk G H) {v : V} {d : D} {t : String} (h : d.ty = some t) (r : Rp K G v d) : TyX K H v (.type t) := by
  cases d <;> cases h
  · cases r; exact .base .non
  · cases r; exact .base (.bl _)
  · cases r; exact .base (.int _)
  · cases r; exact .base (.str _)
  · cases r with
    | lst h1 r1 =>
      rcases l.le _ _ rfl h1 with z | ⟨o, z⟩
      · exact .base (.lst z)
      · exact .base (.frz z)
  · cases r with
    | tup h1 r1 =>
      rcases h1 with h1 | ⟨o, its, n, e1, e2, e3⟩
      · rcases l.le _ _ rfl h1 with z | ⟨o, z⟩
        · exact .base (.tup z)
        · exact .fTuple z
      · exact .kTuple e1 e2
  · cases r with
    | dK h1 e1 e2 e3 r1 =>
      rcases l.le _ _ rfl h1 with z | ⟨o, z⟩
      · exact .base (.dK z)
      · exact .fDict z
  · cases r with
    | tux h1 r1 =>
      rcases l.le _ _ rfl h1.1 with z | ⟨o, z⟩
      · exact .base (.tup z)
      · exact .fTuple z
theorem xp_isT {p p2 : Pos} {n : String} {y : Str} (hm : X.mg "isinstance" = none) (hm2 : X.mg y = none) (hv : bootBuiltins y = some (.type n)) (ha : XP X W a en ma) (hg : Gl X "isinstance" := by rfl) (hg2 : Gl X y := by rfl) (hn : y ≠ "__name__" := by decide) (hd : (y == ("__debug__" : Str)) = false := by decide)
    (h1 : starEach [a, .Name y p2] X.env = (false, eval a X.env) :: starEach [.Name y p2] X.env := by rfl) (h2 : starEach [.Name y p2] X.env = (false, eval (.Name y p2) X.env) :: starEach [] X.env := by rfl) (h3 : (backTo pos (starEach [.Name y p2] X.env)).any (·.1) = false := by rfl) :
    XP X W (.Call (.Name "isinstance" p) [a, .Name y p2] [] pos) en (ma.bnd fun d => R.of (d.isT n)) := fun σ G H S Q k => by
  refine pe_to (pe_callB call_isi hg hm (by decide +kernel) (pa_cons pe_w (pa_cons (pe_bltn (v := .ty n) hg2 hm2 hv rfl hn hd) pa_nil h2) h1) (by decide) (by decide) h1 h3) (ha σ G H S _ (wp_mono (wp_bnd.mp k) (fun d hd v G1 H1 w1 r1 => ?_) fun _ z => z))
  obtain ⟨e, he, hd⟩ := wp_of hd
  unfold D.isT at he
  obtain ⟨t, e1, e2⟩ := Option.bind_eq_some_iff.mp he
  obtain ⟨b, e3, rfl⟩ := Option.map_eq_some_iff.mp e2
  exact ⟨v, .ty n, .type t, .type n, b, rfl, .ty n, ty_rp w1.up e1 r1, kit_ty e3, hd _ G1 H1 w1 (.bl b)⟩
/-! all, any, sum of lists -/
def bools : List D → Option (List Bool)
  | [] => some []
  | d :: ds => d.bool.bind fun b => (bools ds).map fun bs => b :: bs
def intsD : List D → Option (List Int)
  | [] => some []
  | d :: ds => d.toI.bind fun b => (intsD ds).map fun bs => b :: bs
theorem bools_rp {K : PySem.W.Frag} {G : Hp} : ∀ {ds : List D} {vs : List V} {bs : List Bool}, bools ds = some bs → RpAll K G vs ds → vs = bs.map V.bl
  | [], _, _, e, h => by cases e; cases h; rfl
  | d :: ds, _, _, e, h => by
    simp only [bools, Option.bind_eq_some_iff, Option.map_eq_some_iff] at e
    obtain ⟨b, e1, bs, e2, rfl⟩ := e
    cases h with
    | cons a c =>
      cases d <;> cases e1
      cases a
      rw [bools_rp e2 c]; rfl
theorem ints_rp {K : PySem.W.Frag} {G : Hp} : ∀ {ds : List D} {vs : List V} {bs : List Int}, intsD ds = some bs → RpAll K G vs ds → vs = bs.map V.int
  | [], _, _, e, h => by cases e; cases h; rfl
  | d :: ds, _, _, e, h => by
    simp only [intsD, Option.bind_eq_some_iff, Option.map_eq_some_iff] at e
    obtain ⟨b, e1, bs, e2, rfl⟩ := e
    cases h with
    | cons a c =>
      cases d <;> cases e1
      cases a
      rw [ints_rp e2 c]; rfl
def D.all_ : List D → Option D
  | [.lst xs] => (bools xs).map fun bs => .bl (bs.all id)
  | _ => none
def D.any_ : List D → Option D
  | [.lst xs] => (bools xs).map fun bs => .bl (bs.any id)
  | _ => none
def D.sum_ : List D → Option D
  | [.lst xs] => (intsD xs).map fun bs => .int bs.sum
  | _ => none
theorem d_all {K : PySem.W.Frag} : CallD K (rAll K) D.all_ := fun G H xs ds d l r e Q q => by
  unfold D.all_ at e
  split at e
  · obtain ⟨bs, e1, rfl⟩ := Option.map_eq_some_iff.mp e
    cases r with
    | cons a b =>
      cases b
      cases a with
      | lst h1 r1 =>
        have := bools_rp e1 r1
        subst this
        exact ⟨_, bs, rfl, .inl (l.le _ _ rfl h1), keepQ l q (.bl _)⟩
  · cases e
theorem d_any {K : PySem.W.Frag} : CallD K (rAny K) D.any_ := fun G H xs ds d l r e Q q => by
  unfold D.any_ at e
  split at e
  · obtain ⟨bs, e1, rfl⟩ := Option.map_eq_some_iff.mp e
    cases r with
    | cons a b =>
      cases b
      cases a with
      | lst h1 r1 =>
        have := bools_rp e1 r1
        subst this
        exact ⟨_, bs, rfl, .inl (l.le _ _ rfl h1), keepQ l q (.bl _)⟩
  · cases e
theorem d_sum {K : PySem.W.Frag} : CallD K (rSum K) D.sum_ := fun G H xs ds d l r e Q q => by
  unfold D.sum_ at e
  split at e
  · obtain ⟨bs, e1, rfl⟩ := Option.map_eq_some_iff.mp e
    cases r with
    | cons a b =>
      cases b
      cases a with
      | lst h1 r1 =>
        have := ints_rp e1 r1
        subst this
        exact ⟨_, bs, rfl, .inl (l.le _ _ rfl h1), keepQ l q (.int _)⟩
  · cases e
end
end Wk
set_option maxHeartbeats 4000000
/-! Wk11: the rest of the forms that the printer writes. -/
namespace Wk
open PySem PySem.Spec PyProof.Rows L2

section
variable {ω : Type}
theorem lnA1 {f : D → R ω} : ∀ ds P E, wp (ap1 f ds) P E → ds.length = 1
  | [_], _, _, _ => rfl
  | [], _, _, h => h.elim
  | _ :: _ :: _, _, _, h => h.elim
theorem lnA2 {f : D → D → R ω} : ∀ ds P E, wp (ap2 f ds) P E → ds.length = 2
  | [_, _], _, _, _ => rfl
  | [], _, _, h => h.elim
  | [_], _, _, h => h.elim
  | _ :: _ :: _ :: _, _, _, h => h.elim
theorem lnA3 {f : D → D → D → R ω} : ∀ ds P E, wp (ap3 f ds) P E → ds.length = 3
  | [_, _, _], _, _, _ => rfl
  | [], _, _, h => h.elim
  | [_], _, _, h => h.elim
  | [_, _], _, _, h => h.elim
  | _ :: _ :: _ :: _ :: _, _, _, h => h.elim
theorem lnA4 {f : D → D → D → D → R ω} : ∀ ds P E, wp (ap4 f ds) P E → ds.length = 4
  | [_, _, _, _], _, _, _ => rfl
  | [], _, _, h => h.elim
  | [_], _, _, h => h.elim
  | [_, _], _, _, h => h.elim
  | [_, _, _], _, _, h => h.elim
  | _ :: _ :: _ :: _ :: _ :: _, _, _, h => h.elim
def apI0 (f : List D → R ω) : List D → List D → R ω := fun c ds => ap0 (f c) ds
def apI1 (f : List D → D → R ω) : List D → List D → R ω := fun c ds => ap1 (f c) ds
def apI2 (f : List D → D → D → R ω) : List D → List D → R ω := fun c ds => ap2 (f c) ds
def apI3 (f : List D → D → D → D → R ω) : List D → List D → R ω := fun c ds => ap3 (f c) ds
def apI4 (f : List D → D → D → D → D → R ω) : List D → List D → R ω := fun c ds => ap4 (f c) ds
theorem lnI1 {f : List D → D → R ω} : ∀ c ds P E, wp (apI1 f c ds) P E → ds.length = 1 := fun c => lnA1
theorem lnI2 {f : List D → D → D → R ω} : ∀ c ds P E, wp (apI2 f c ds) P E → ds.length = 2 := fun c => lnA2
theorem lnI3 {f : List D → D → D → D → R ω} : ∀ c ds P E, wp (apI3 f c ds) P E → ds.length = 3 := fun c => lnA3
theorem lnI4 {f : List D → D → D → D → D → R ω} : ∀ c ds P E, wp (apI4 f c ds) P E → ds.length = 4 := fun c => lnA4
end
section
variable {K : PySem.W.Frag} {ec : Nat → Addr} {vs : List V} {H : Hp} {Q : VK} {E : XK}
theorem spR_imp {ω : Type} {Rr : Hp → ω → V → Hp → Hp → Prop} {n : Nat} {f f' : List D → R ω} (h : ∀ ds, f ds = f' ds) : ∀ vs H Q E, spR K ec Rr n f' vs H Q E → spR K ec Rr n f vs H Q E := fun vs H Q E s => by
  obtain ⟨G, ds, a, b, c, d⟩ := s
  exact ⟨G, ds, a, b, c, by rw [h]; exact d⟩
theorem spN_imp1 {f : D → R Unit} : ∀ vs H Q E, spR K ec (rP K) 1 (ap1 fun a => (f a).bnd fun _ => .ok .non) vs H Q E → spR K ec (rP K) 1 (fun ds => (ap1 f ds).bnd fun _ => .ok .non) vs H Q E :=
  spR_imp fun ds => by cases ds with | nil => rfl | cons a t => cases t <;> rfl
theorem spN_imp2 {f : D → D → R Unit} : ∀ vs H Q E, spR K ec (rP K) 2 (ap2 fun a b => (f a b).bnd fun _ => .ok .non) vs H Q E → spR K ec (rP K) 2 (fun ds => (ap2 f ds).bnd fun _ => .ok .non) vs H Q E :=
  spR_imp fun ds => by
    match ds with
    | [] => rfl
    | [_] => rfl
    | [_, _] => rfl
    | _ :: _ :: _ :: _ => rfl
theorem spN_imp3 {f : D → D → D → R Unit} : ∀ vs H Q E, spR K ec (rP K) 3 (ap3 fun a b c => (f a b c).bnd fun _ => .ok .non) vs H Q E → spR K ec (rP K) 3 (fun ds => (ap3 f ds).bnd fun _ => .ok .non) vs H Q E :=
  spR_imp fun ds => by
    match ds with
    | [] => rfl
    | [_] => rfl
    | [_, _] => rfl
    | [_, _, _] => rfl
    | _ :: _ :: _ :: _ :: _ => rfl
end
section
variable {X : Cx} {W : WN} {eE : En} {en : En} {ec : Nat → Addr} {pos : Pos} {γ δ ω : Type} {φ : γ → En} {ψ : δ → En} {a b c e : Expr} {es : List Expr} {T : Bs → ω → Ends → Prop} {rest : List Stmt}
/-- the contents, in another shape -/
theorem xv_gam {χ : γ → En} {ψ : δ → En} {m : R (D × δ)} (f : δ → γ) (h : XV X W eE e en m ψ) (hq : ∀ c, ψ c = χ (f c) := by intro _; rfl) : XV X W eE e en (m.bnd2 fun d c => .ok (d, f c)) χ := fun B σ G H S Q k =>
  h B σ G H S Q (wp_mono (wp_bnd.mp k) (fun r hr v G2 H2 l S2 rr => hr v G2 H2 l (by show St8 X.K B (χ (f r.2)) _ _ _; rw [← hq]; exact S2) rr) fun _ z => z)
theorem xb_drop {m : R D} {k : R ω} (h : XP X W e en m) (hk : XB X W eE rest en k T) (we : Wk0 eE en := by first | exact wk0_nil | exact wk0_refl | assumption | exact Wkn.wk0 (by repeat' first | exact Wkn.nil | apply Wkn.k | apply Wkn.d)) (hs : swapsWith e none pos.line X.env = pure false := by first | exact swaps_no rfl | exact swapsS_no rfl | rfl) : XB X W eE (.Expr e pos :: rest) en (m.bnd fun _ => k) T := fun B σ G H S D q =>
  pss_to (pss_cons (ps_expr pe_w hs) pss_w) (xp_run h S we (wp_mono (wp_bnd.mp q) (fun d hd v G2 H2 l S2 r => hk B σ G2 H2 S2 D hd) fun _ z => z))
theorem xb_dropV {m : R (D × γ)} {k : γ → R ω} (h : XV X W eE e en m φ) (hk : ∀ c, XB X W eE rest (φ c) (k c) T) (hs : swapsWith e none pos.line X.env = pure false := by first | exact swaps_no rfl | exact swapsS_no rfl | rfl) : XB X W eE (.Expr e pos :: rest) en (m.bnd2 fun _ c => k c) T := fun B σ G H S D q =>
  pss_to (pss_cons (ps_expr pe_w hs) pss_w) (h B σ G H S _ (wp_mono (wp_bnd.mp q) (fun d hd v G2 H2 l S2 r => hk d.2 B σ G2 H2 S2 D hd) fun _ z => z))
theorem GrowX.new {p : Addr} {G H G1 H1 G2 H2 : Hp} (a : Grow G H G1 H1) (h : H p = none) (b : GrowX p G1 H1 G2 H2) : Grow G H G2 H2 :=
  ⟨a.g.trans b.g, b.up, fun x o e => b.h x o (fun z => by rw [z, h] at e; cases e) (a.h x o e), fun x n m => b.cl x (a.cl x n m) (mt_of a.h m)⟩
/-- f(e, ..), e a new list that f may change -/
theorem xp_ioT {x : Str} {p : Pos} {k n : Nat} {f : Addr} {fd : FuncData} {ps : List Str} {fm : List D → List D → R (D × List D)} {mn ms : R (List D)} (g : Go X ec W) (F : FnOk X.prog X.w X.K X.mg X.base (L2.CX X.prog X.w) k f fd ps (spIO X.K ec n fm)) (hr : Room k X.A) (hm : X.mg x = some (.ref f)) (hk : PySem.W.keepIn X.K (.ref f) = true) (hb : Binds X.K fd ps [])
    (hn : XN X W e en mn) (ha : XA X W es en ms) (hln : ∀ c ds P E, wp (fm c ds) P E → ds.length = n) (hg : Gl X x := by rfl) (hdb : (x == ("__debug__" : Str)) = false := by decide) (h1 : starEach (e :: es) X.env = (false, eval e X.env) :: starEach es X.env := by rfl) (h2 : (backTo pos (starEach es X.env)).any (·.1) = false := by rfl) :
    XP X W (.Call (.Name x p) (e :: es) [] pos) en (mn.bnd fun c => ms.bnd fun ds => (fm c ds).bnd2 fun o _ => .ok o) := fun σ G H S Q h => by
  refine pe_to (pe_callS F hr hg hm hk hb (fun σ => passAt g.tk σ) (pa_cons pe_w pa_w h1) hdb h1 h2) (hn σ G H S _ (wp_mono (wp_bnd.mp h) (fun c hc q us G1 H1 w1 hq gq eq r1 => ?_) fun _ z => z))
  refine ha σ G1 H1 (S.grow w1) _ ?_
  have h' := wp_bnd.mp hc
  cases em : ms with
  | ok ds =>
    rw [em] at h'
    refine fun vs G2 H2 w2 r2 => ⟨G2, q, vs, us, c, ds, w2.up, rfl, w2.cl q gq ⟨_, eq, trivial⟩, w2.h q _ eq, r1.up w2.g, r2, hln _ _ _ _ (wp_bnd.mp h'), wp_mono (wp_bnd.mp h') (fun o ho v us' G3 H3 w3 r3 h3 ru3 => ?_) fun c hc G3 H3 w3 => ⟨c, rfl, rfl, hc G3 H3 (GrowX.new (w1.trans w2) hq w3)⟩⟩
    exact ho v G3 H3 (GrowX.new (w1.trans w2) hq w3) r3
  | err c => rw [em] at h'; exact fun G2 H2 w => h' G2 H2 (w1.trans w)
  | bad => rw [em] at h'; exact h'.elim
def two_ : List D → Option (D × D)
  | [x, y] => some (x, y)
  | _ => none
def bP2 {ω : Type} (ms : R (List D)) (k : D → D → R ω) : R ω := ms.bnd fun ds => (R.of (two_ ds)).bnd fun q => k q.1 q.2
theorem xb_par {i j : Nat} {x y : Str} {px py pt : Pos} {kt k2 : Nat} {pt2 : Pos} {ms : R (List D)} {k : D → D → R ω} (g : Go X ec W) (φ : D → D → En) (h : XA X W [a, b] en ms) (hk : ∀ d d', XB X W eE rest (φ d d') (k d d') T) (hi : X.N[i]? = some x := by rfl) (hj : X.N[j]? = some y := by rfl) (hij : i ≠ j := by decide) (hφ : ∀ d d', (en.set i (some (.v d))).set j (some (.v d')) = φ d d' := by intro _ _; rfl) (we : Wk0 eE en := by first | exact wk0_nil | exact wk0_refl | assumption | exact Wkn.wk0 (by repeat' first | exact Wkn.nil | apply Wkn.k | apply Wkn.d))
    (hp : ∀ ta, PA X [a, b] ta → PS X (.Assign [.Tuple [.Name x px, .Name y py] kt pt] (.Tuple [a, b] k2 pt2) pos) (tPar i j ta) := by intro _ hp; exact ps_par rfl (by assumption) rfl rfl (by decide) rfl rfl hp (by rfl)) : XB X W eE (.Assign [.Tuple [.Name x px, .Name y py] kt pt] (.Tuple [a, b] k2 pt2) pos :: rest) en (bP2 ms k) T := fun B σ G H S D q => by
  refine pss_to (pss_cons (hp _ pa_w) pss_w) (h σ G H S.sl _ (wp_mono (wp_bnd.mp q) (fun ds hd vs G2 H2 w r => ?_) fun c hc G2 H2 w => hc σ G2 H2 ((S.grow w).es.weak we)))
  obtain ⟨(z : Wk.D × Wk.D), e1, hd⟩ := wp_of (wp_bnd.mp hd)
  unfold two_ at e1
  split at e1
  · cases e1
    cases r with
    | cons r1 r =>
      cases r with
      | cons r2 r =>
        cases r
        refine ⟨_, _, rfl, ?_⟩
        have S2 := ((S.grow w).set (i := i) r1).set (i := j) r2
        rw [hφ] at S2
        exact hk _ _ B _ G2 H2 S2 D hd
  · cases e1
theorem xs_for2 {i j : Nat} {x y : Str} {p p' p2 : Pos} {k : Nat} {it : Expr} {body : List Stmt} {α : Type} {L : α → En → Prop} {step : α → D → D → R α} {mi : R (List D)} {a0 : α} {e0 : En} (g : Go X ec W) (hi : XI X W (.Tuple [.Name x p, .Name y p'] k p2) it en mi) (h0 : L a0 e0) (w0 : Wkn e0 en)
    (hb : ∀ a e d d', L a e → XB X W eE body ((e.set i (some (.v d))).set j (some (.v d'))) (step a d d') (TN X.K L)) (hN : X.N[i]? = some x := by rfl) (hN' : X.N[j]? = some y := by rfl) (hx : Loc X.env.scope x := by first | exact Or.inl rfl | exact Or.inr rfl) (hx' : Loc X.env.scope y := by first | exact Or.inl rfl | exact Or.inr rfl)
    (we : Wk0 eE en := by first | exact wk0_nil | exact wk0_refl | assumption | exact Wkn.wk0 (by repeat' first | exact Wkn.nil | apply Wkn.k | apply Wkn.d)) (hs : ∀ x, foldedSetIterable it X.env x = pure x := by intro _; rfl) (hf : X.fn x = true ∨ X.env.scope.names.lookup x = some .local := by first | exact .inl rfl | exact .inr rfl) (hf' : X.fn y = true ∨ X.env.scope.names.lookup y = some .local := by first | exact .inl rfl | exact .inr rfl)
    (hn : (assignEach [.Name x p, .Name y p'] X.env).length = 2 := by rfl) (hst : (assignEach [.Name x p, .Name y p'] X.env).findIdx? (·.1) = none := by rfl)
    (h1 : (assignEach [.Name x p, .Name y p'] X.env).map (·.2) = assign (.Name x p) X.env :: (assignEach [.Name y p'] X.env).map (·.2) := by rfl) (h2 : (assignEach [.Name y p'] X.env).map (·.2) = assign (.Name y p') X.env :: (assignEach [] X.env).map (·.2) := by rfl) :
    XS X W eE (.For (.Tuple [.Name x p, .Name y p'] k p2) it body [] pos) en (mi.bnd fun ds => foldR (fun a d => (R.of d.two).bnd fun q => step a q.1 q.2) a0 ds) (TN X.K L) := fun B σ G H S D q => by
  refine xs_for2O (β := Empty) (Rr := fun _ _ _ _ _ => False) (step := fun a d d' => (step a d d').bnd fun a' => .ok (.nx a')) g hi h0 w0 (fun a e d d' hL B σ G H S D q => hb a e d d' hL B σ G H S D (wp_mono (wp_bnd.mp q) (fun _ z => z) fun _ z => z)) hN hN' hx hx' we hs hf hf' hn hst h1 h2 B σ G H S D ?_
  refine wp_bnd.mpr (wp_mono (wp_bnd.mp q) (fun ds hd => ?_) fun _ z => z)
  have e := fold_loop (β := Empty) (step := fun a d => (R.of d.two).bnd fun q => step a q.1 q.2) ds a0
  simp only [bnd_assoc] at e
  rw [e]
  exact wp_bnd.mpr hd
end
end Wk
set_option maxHeartbeats 4000000
/-! Wk12: the law's own call. -/
namespace Wk
open PySem PySem.Spec PyProof.Rows L2
def spScript (K : PySem.W.Frag) : Sp := fun vs H Q _ => ∃ (a : Addr) (ns : List Int), vs = [.ref a] ∧ SqL K H a (ns.map V.int) ∧ ns.length ≤ 63 ∧ ∀ H', Q (.bl true) H'
theorem all_ints {K : PySem.W.Frag} {G : Hp} : ∀ ns : List Int, RpAll K G (ns.map V.int) (ns.map D.int)
  | [] => .nil
  | n :: ns => .cons (.int n) (all_ints ns)
theorem script_imp {K : PySem.W.Frag} {ec : Nat → Addr} {f : D → R D} (hf : ∀ ns : List Int, ns.length ≤ 63 → f (.frl (ns.map D.int)) = .ok (.bl true)) : ∀ vs H Q E, spScript K vs H Q E → spR K ec (rP K) 1 (ap1 f) vs H Q E := fun vs H Q E h => by
  obtain ⟨a, ns, rfl, hS, hl, q⟩ := h
  refine ⟨H, [.frl (ns.map D.int)], ⟨Le.refl _, fun _ h => h⟩, .cons (.frl hS (all_ints ns)) .nil, rfl, ?_⟩
  show wp (f _) _ _
  rw [hf ns hl]
  intro v G2 H2 _ r
  cases r
  exact q H2
end Wk
set_option maxHeartbeats 4000000
/-! Wk13: the mirrors' operations in plain words. -/
namespace Wk
open PySem PySem.Spec PyProof.Rows L2

mutual
/-- data without truth values, of so many layers -/
def D.nb : D → Nat → Bool
  | .int _, _ => true
  | .non, _ => true
  | .str x, _ => PyData.strOk x
  | .lst xs, n + 1 => D.nbs xs n
  | .tup xs, n + 1 => D.nbs xs n
  | _, _ => false
def D.nbs : List D → Nat → Bool
  | [], _ => true
  | x :: xs, n => D.nb x n && D.nbs xs n
end
mutual
theorem nb_py : ∀ (d : D) (n : Nat), d.nb n = true → ∃ p, d.py = some p ∧ p.canLay0 = true ∧ p.depth ≤ n
  | .int i, n, _ => ⟨.int i, rfl, rfl, Nat.zero_le _⟩
  | .non, n, _ => ⟨.none, rfl, rfl, Nat.zero_le _⟩
  | .str x, n, h => ⟨.str x, rfl, by simpa [PyData.canLay0, D.nb] using h, Nat.zero_le _⟩
  | .lst xs, 0, h => by simp [D.nb] at h
  | .lst xs, n + 1, h => by
    obtain ⟨ps, e, a, b⟩ := nbs_py xs n (by simpa [D.nb] using h)
    exact ⟨.list ps, by simp [D.py, e], by simpa [PyData.canLay0] using a, by simpa [PyData.depth] using b⟩
  | .tup xs, 0, h => by simp [D.nb] at h
  | .tup xs, n + 1, h => by
    obtain ⟨ps, e, a, b⟩ := nbs_py xs n (by simpa [D.nb] using h)
    exact ⟨.tuple ps, by simp [D.py, e], by simpa [PyData.canLay0] using a, by simpa [PyData.depth] using b⟩
  | .bl _, n, h => by simp [D.nb] at h
  | .dK _ _, n, h => by simp [D.nb] at h
  | .dT _ _, n, h => by simp [D.nb] at h
  | .exc _, n, h => by simp [D.nb] at h
  | .frl _, n, h => by simp [D.nb] at h
  | .tux _, n, h => by simp [D.nb] at h
  | .tk _, n, h => by simp [D.nb] at h
theorem nbs_py : ∀ (ds : List D) (n : Nat), D.nbs ds n = true → ∃ p, D.pys ds = some p ∧ PyData.canLayAll0 p = true ∧ PyData.depthAll p ≤ n
  | [], n, _ => ⟨[], rfl, rfl, Nat.zero_le _⟩
  | d :: ds, n, h => by
    simp only [D.nbs, Bool.and_eq_true] at h
    obtain ⟨p, e, a, b⟩ := nb_py d n h.1
    obtain ⟨ps, e', a', b'⟩ := nbs_py ds n h.2
    exact ⟨p :: ps, by simp [D.pys, e, e'], by simp [PyData.canLayAll0, a, a'], by simp only [PyData.depthAll]; omega⟩
end
theorem nb_lst {xs : List D} {m : Nat} (h : (D.lst xs).nb m = true) : ∃ k, m = k + 1 ∧ D.nbs xs k = true := by
  cases m with
  | zero => simp [D.nb] at h
  | succ k => exact ⟨k, rfl, by simpa [D.nb] using h⟩
theorem nb_tup {xs : List D} {m : Nat} (h : (D.tup xs).nb m = true) : ∃ k, m = k + 1 ∧ D.nbs xs k = true := by
  cases m with
  | zero => simp [D.nb] at h
  | succ k => exact ⟨k, rfl, by simpa [D.nb] using h⟩
theorem py_lst {xs : List D} {p : PyData} (h : (D.lst xs).py = some p) : ∃ ps, D.pys xs = some ps ∧ p = .list ps := by
  simp only [D.py, Option.map_eq_some_iff] at h
  obtain ⟨ps, a, rfl⟩ := h
  exact ⟨ps, a, rfl⟩
theorem py_tup {xs : List D} {p : PyData} (h : (D.tup xs).py = some p) : ∃ ps, D.pys xs = some ps ∧ p = .tuple ps := by
  simp only [D.py, Option.map_eq_some_iff] at h
  obtain ⟨ps, a, rfl⟩ := h
  exact ⟨ps, a, rfl⟩
theorem nb_hd {e : D} {m : Nat} {q : PyData} (k : e.nb m = true) (b : e.py = some q) : (e = .non ∧ q = .none) ∨ (∃ i, e = .int i ∧ q = .int i) ∨ (∃ x, e = .str x ∧ q = .str x) ∨ (∃ xs j qs, e = .lst xs ∧ D.nbs xs j = true ∧ D.pys xs = some qs ∧ q = .list qs) ∨ ∃ xs j qs, e = .tup xs ∧ D.nbs xs j = true ∧ D.pys xs = some qs ∧ q = .tuple qs := by
  cases e with
  | non => cases b; exact .inl ⟨rfl, rfl⟩
  | int i => cases b; exact .inr (.inl ⟨_, rfl, rfl⟩)
  | str x => cases b; exact .inr (.inr (.inl ⟨_, rfl, rfl⟩))
  | lst xs =>
    obtain ⟨j, _, h⟩ := nb_lst k
    obtain ⟨qs, h2, h3⟩ := py_lst b
    exact .inr (.inr (.inr (.inl ⟨_, j, qs, rfl, h, h2, h3⟩)))
  | tup xs =>
    obtain ⟨j, _, h⟩ := nb_tup k
    obtain ⟨qs, h2, h3⟩ := py_tup b
    exact .inr (.inr (.inr (.inr ⟨_, j, qs, rfl, h, h2, h3⟩)))
  | bl _ => simp [D.nb] at k
  | dK _ _ => simp [D.nb] at k
  | dT _ _ => simp [D.nb] at k
  | exc _ => simp [D.nb] at k
  | frl _ => simp [D.nb] at k
  | tux _ => simp [D.nb] at k
  | tk _ => simp [D.nb] at k
mutual
theorem nb_eqv : ∀ (d e : D) (n m : Nat) (p q : PyData), d.nb n = true → e.nb m = true → d.py = some p → e.py = some q → (PyData.eqv p q = true ↔ d = e)
  | .int i, e, n, m, p, q, h, k, a, b => by
    cases a
    rcases nb_hd k b with ⟨rfl, rfl⟩ | ⟨i, rfl, rfl⟩ | ⟨x, rfl, rfl⟩ | ⟨xs, j, qs, rfl, _, _, rfl⟩ | ⟨xs, j, qs, rfl, _, _, rfl⟩ <;> simp [PyData.eqv]
  | .non, e, n, m, p, q, h, k, a, b => by
    cases a
    rcases nb_hd k b with ⟨rfl, rfl⟩ | ⟨i, rfl, rfl⟩ | ⟨x, rfl, rfl⟩ | ⟨xs, j, qs, rfl, _, _, rfl⟩ | ⟨xs, j, qs, rfl, _, _, rfl⟩ <;> simp [PyData.eqv]
  | .str x, e, n, m, p, q, h, k, a, b => by
    cases a
    rcases nb_hd k b with ⟨rfl, rfl⟩ | ⟨i, rfl, rfl⟩ | ⟨x, rfl, rfl⟩ | ⟨xs, j, qs, rfl, _, _, rfl⟩ | ⟨xs, j, qs, rfl, _, _, rfl⟩ <;> simp [PyData.eqv]
  | .lst xs, e, n, m, p, q, h, k, a, b => by
    obtain ⟨n', _, h⟩ := nb_lst h
    obtain ⟨ps, a', rfl⟩ := py_lst a
    rcases nb_hd k b with ⟨rfl, rfl⟩ | ⟨i, rfl, rfl⟩ | ⟨x, rfl, rfl⟩ | ⟨ys, j, qs, rfl, k', b', rfl⟩ | ⟨ys, j, qs, rfl, _, _, rfl⟩
    · simp [PyData.eqv]
    · simp [PyData.eqv]
    · simp [PyData.eqv]
    · have := nbs_eqv xs ys n' j ps qs h k' a' b'
      simp only [PyData.eqv, D.lst.injEq]
      exact this
    · simp [PyData.eqv]
  | .tup xs, e, n, m, p, q, h, k, a, b => by
    obtain ⟨n', _, h⟩ := nb_tup h
    obtain ⟨ps, a', rfl⟩ := py_tup a
    rcases nb_hd k b with ⟨rfl, rfl⟩ | ⟨i, rfl, rfl⟩ | ⟨x, rfl, rfl⟩ | ⟨ys, j, qs, rfl, _, _, rfl⟩ | ⟨ys, j, qs, rfl, k', b', rfl⟩
    · simp [PyData.eqv]
    · simp [PyData.eqv]
    · simp [PyData.eqv]
    · simp [PyData.eqv]
    · have := nbs_eqv xs ys n' j ps qs h k' a' b'
      simp only [PyData.eqv, D.tup.injEq]
      exact this
  | .bl _, e, n, m, p, q, h, k, a, b => by simp [D.nb] at h
  | .dK _ _, e, n, m, p, q, h, k, a, b => by simp [D.nb] at h
  | .dT _ _, e, n, m, p, q, h, k, a, b => by simp [D.nb] at h
  | .exc _, e, n, m, p, q, h, k, a, b => by simp [D.nb] at h
  | .frl _, e, n, m, p, q, h, k, a, b => by simp [D.nb] at h
  | .tux _, e, n, m, p, q, h, k, a, b => by simp [D.nb] at h
  | .tk _, e, n, m, p, q, h, k, a, b => by simp [D.nb] at h
termination_by d => sizeOf d
theorem nbs_eqv : ∀ (ds es : List D) (n m : Nat) (p q : List PyData), D.nbs ds n = true → D.nbs es m = true → D.pys ds = some p → D.pys es = some q → (PyData.eqvAll p q = true ↔ ds = es)
  | [], [], n, m, p, q, h, k, a, b => by cases a; cases b; simp [PyData.eqvAll]
  | [], e :: es, n, m, p, q, h, k, a, b => by
    cases a
    simp only [D.pys, Option.bind_eq_some_iff, Option.map_eq_some_iff] at b
    obtain ⟨x, _, xs, _, rfl⟩ := b
    simp [PyData.eqvAll]
  | d :: ds, [], n, m, p, q, h, k, a, b => by
    cases b
    simp only [D.pys, Option.bind_eq_some_iff, Option.map_eq_some_iff] at a
    obtain ⟨x, _, xs, _, rfl⟩ := a
    simp [PyData.eqvAll]
  | d :: ds, e :: es, n, m, p, q, h, k, a, b => by
    simp only [D.pys, Option.bind_eq_some_iff, Option.map_eq_some_iff] at a b
    obtain ⟨x, a1, xs, a2, rfl⟩ := a
    obtain ⟨y, b1, ys, b2, rfl⟩ := b
    simp only [D.nbs, Bool.and_eq_true] at h k
    have h1 := nb_eqv d e n m x y h.1 k.1 a1 b1
    have h2 := nbs_eqv ds es n m xs ys h.2 k.2 a2 b2
    simp only [PyData.eqvAll, Bool.and_eq_true, List.cons.injEq, h1, h2]
termination_by ds => sizeOf ds
end
open Classical in
theorem eq_nb {a b : D} (n : Nat) (ha : a.nb n = true) (hb : b.nb n = true) (hn : n ≤ 64) (ht : ∃ xs, a = .tup xs ∨ a = .lst xs) : D.eq a b = some (decide (a = b)) := by
  obtain ⟨p, e1, c1, d1⟩ := nb_py a n ha
  obtain ⟨q, e2, c2, d2⟩ := nb_py b n hb
  have h := nb_eqv a b n n p q ha hb e1 e2
  have hs : SeqAt.shaped p = true := by simp only [SeqAt.shaped, c1, Bool.true_and, decide_eq_true_eq]; omega
  have hs' : SeqAt.shaped q = true := by simp only [SeqAt.shaped, c2, Bool.true_and, decide_eq_true_eq]; omega
  have hv : PyData.eqv p q = decide (a = b) := by
    by_cases c : a = b
    · rw [decide_eq_true c]; exact h.mpr c
    · rw [decide_eq_false c]
      cases z : PyData.eqv p q with
      | true => exact absurd (h.mp z) c
      | false => rfl
  obtain ⟨xs, rfl | rfl⟩ := ht <;>
  · unfold D.eq
    simp only [e1, e2, hs, hs', hv, Option.bind_some, and_self, if_true]
theorem eq_self {a : D} (n : Nat) (ha : a.nb n = true) (hn : n ≤ 64) (ht : ∃ xs, a = .tup xs ∨ a = .lst xs) : D.eq a a = some true := by
  classical
  rw [eq_nb n ha ha hn ht, decide_eq_true rfl]

/-! one behind the other -/
@[simp] theorem as_bb {α β γ : Type} (m : R α) (f : α → R β) (g : β → R γ) : (m.bnd f).bnd g = m.bnd fun x => (f x).bnd g := bnd_assoc m f g
@[simp] theorem as_2b {α β γ δ : Type} (m : R (α × β)) (f : α → β → R γ) (g : γ → R δ) : (m.bnd2 f).bnd g = m.bnd2 fun x y => (f x y).bnd g := bnd_assoc m _ g
@[simp] theorem as_b2 {α β γ δ : Type} (m : R α) (f : α → R (β × γ)) (g : β → γ → R δ) : (m.bnd f).bnd2 g = m.bnd fun x => (f x).bnd2 g := bnd_assoc m f _
@[simp] theorem as_22 {α β γ δ ε : Type} (m : R (α × β)) (f : α → β → R (γ × δ)) (g : γ → δ → R ε) : (m.bnd2 f).bnd2 g = m.bnd2 fun x y => (f x y).bnd2 g := bnd_assoc m _ _
/-! operations -/
@[simp] theorem s_add {i j : Int} : D.addI (.int i) (.int j) = some (.int (i + j)) := by exact id rfl
@[simp] theorem s_sub {i j : Int} : D.sub (.int i) (.int j) = some (.int (i - j)) := by exact id rfl
@[simp] theorem s_neg {i : Int} : D.neg (.int i) = some (.int (-i)) := by exact id rfl
@[simp] theorem s_lt {i j : Int} : D.lt (.int i) (.int j) = some (decide (i < j)) := by exact id rfl
@[simp] theorem s_le {i j : Int} : D.le (.int i) (.int j) = some (decide (i ≤ j)) := by exact id rfl
@[simp] theorem s_gt {i j : Int} : D.gt (.int i) (.int j) = some (decide (j < i)) := by exact id rfl
@[simp] theorem s_ge {i j : Int} : D.ge (.int i) (.int j) = some (decide (j ≤ i)) := by exact id rfl
@[simp] theorem s_eqI {i j : Int} : D.eq (.int i) (.int j) = some (decide (i = j)) := by exact id rfl
@[simp] theorem s_eqS {i j : Str} : D.eq (.str i) (.str j) = some (decide (i = j)) := by exact id rfl
@[simp] theorem s_neI {i j : Int} : D.ne (.int i) (.int j) = some (!decide (i = j)) := by exact id rfl
@[simp] theorem s_bool {b : Bool} : D.bool (.bl b) = some b := by exact id rfl
@[simp] theorem s_seqL {xs : List D} : D.seq (.lst xs) = some xs := by exact id rfl
@[simp] theorem s_seqT {xs : List D} : D.seq (.tup xs) = some xs := by exact id rfl
@[simp] theorem s_ixL {xs : List D} {i : Int} : D.ix (.lst xs) (.int i) = atI xs i := by exact id rfl
@[simp] theorem s_ixT {xs : List D} {i : Int} : D.ix (.tup xs) (.int i) = atI xs i := by exact id rfl
@[simp] theorem s_ixF {xs : List D} {i : Int} : D.ix (.frl xs) (.int i) = atI xs i := by exact id rfl
@[simp] theorem s_lenL {xs : List D} : D.len [.lst xs] = some (.int xs.length) := by exact id rfl
@[simp] theorem s_lenT {xs : List D} : D.len [.tup xs] = some (.int xs.length) := by exact id rfl
@[simp] theorem s_lenF {xs : List D} : D.len [.frl xs] = some (.int xs.length) := by exact id rfl
@[simp] theorem s_abs {i : Int} : D.abs [.int i] = some (.int (if i < 0 then -i else i)) := by exact id rfl
@[simp] theorem s_toIntI {i : Int} : D.toInt [.int i] = some (.int i) := by exact id rfl
@[simp] theorem s_toIntB {i : Bool} : D.toInt [.bl i] = some (.int (if i then 1 else 0)) := by exact id rfl
@[simp] theorem s_tupL {xs : List D} : D.toTup [.lst xs] = some (.tup xs) := by exact id rfl
@[simp] theorem s_tupT {xs : List D} : D.toTup [.tup xs] = some (.tup xs) := by exact id rfl
@[simp] theorem s_lstL {xs : List D} : D.toLst [.lst xs] = some xs := by exact id rfl
@[simp] theorem s_lstT {xs : List D} : D.toLst [.tup xs] = some xs := by exact id rfl
@[simp] theorem s_two {x y : D} : D.two (.tup [x, y]) = some (x, y) := by exact id rfl
@[simp] theorem s_three {x y z : D} : D.three (.tup [x, y, z]) = some (x, y, z) := by exact id rfl
@[simp] theorem s_ap1 {ω : Type} {f : D → R ω} {a : D} : ap1 f [a] = f a := by exact id rfl
@[simp] theorem s_ap2 {ω : Type} {f : D → D → R ω} {a b : D} : ap2 f [a, b] = f a b := by exact id rfl
@[simp] theorem s_ap3 {ω : Type} {f : D → D → D → R ω} {a b c : D} : ap3 f [a, b, c] = f a b c := by exact id rfl
@[simp] theorem s_ap4 {ω : Type} {f : D → D → D → D → R ω} {a b c d : D} : ap4 f [a, b, c, d] = f a b c d := by exact id rfl
@[simp] theorem s_apI1 {ω : Type} {f : List D → D → R ω} {s : List D} {a : D} : apI1 f s [a] = f s a := by exact id rfl
@[simp] theorem s_apI2 {ω : Type} {f : List D → D → D → R ω} {s : List D} {a b : D} : apI2 f s [a, b] = f s a b := by exact id rfl
@[simp] theorem s_apI3 {ω : Type} {f : List D → D → D → D → R ω} {s : List D} {a b c : D} : apI3 f s [a, b, c] = f s a b c := by exact id rfl
@[simp] theorem s_isTI {i : Int} : D.isT "int" (.int i) = some (.bl true) := by exact id rfl
@[simp] theorem s_isTB {i : Int} : D.isT "bool" (.int i) = some (.bl false) := by exact id rfl
@[simp] theorem s_isTT {xs : List D} : D.isT "tuple" (.tup xs) = some (.bl true) := by exact id rfl
@[simp] theorem s_isTL {xs : List D} : D.isT "list" (.lst xs) = some (.bl true) := by exact id rfl
@[simp] theorem s_isTTL {xs : List D} : D.isT "tuple" (.lst xs) = some (.bl false) := by exact id rfl
@[simp] theorem s_isTLT {xs : List D} : D.isT "list" (.tup xs) = some (.bl false) := by exact id rfl
theorem s_mul {i j : Int} (h : -(2 ^ 64) < i ∧ i < 2 ^ 64) : D.mul (.int i) (.int j) = some (.int (i * j)) := by
  show (if _ then _ else _) = _
  rw [if_pos (.inl h)]
theorem s_mulR {i j : Int} (h : -(2 ^ 64) < j ∧ j < 2 ^ 64) : D.mul (.int i) (.int j) = some (.int (i * j)) := by
  show (if _ then _ else _) = _
  rw [if_pos (.inr h)]
theorem s_mod {i j : Int} (h : 0 < j) : D.mod (.int i) (.int j) = some (.int (i % j)) := by
  show (if _ then _ else _) = _
  rw [if_pos h]
theorem s_div {i j : Int} (h : 0 < j) (h2 : j < 1000000000000) : D.div (.int i) (.int j) = some (.int (i / j)) := by
  show (if _ then _ else _) = _
  rw [if_pos]
  have : j.natAbs < 2 ^ 9000 := Nat.lt_of_lt_of_le (show j.natAbs < 2 ^ 40 by omega) (Nat.pow_le_pow_right (by decide) (by decide))
  exact ⟨by omega, (Nat.log2_lt (by omega)).mpr this⟩
theorem s_addT {xs ys : List D} (h : xs.length + ys.length ≤ 16000000) : D.addI (.tup xs) (.tup ys) = some (.tup (xs ++ ys)) := by
  show (if _ then _ else _) = _
  rw [if_pos h]
theorem s_fits {α : Type} {ds : List α} (h : ds.length ≤ 16000000) : fits ds = some ds := if_pos h
@[simp] theorem s_fits0 {α : Type} : fits ([] : List α) = some [] := by exact id rfl
@[simp] theorem s_fits1 {α : Type} {a : α} : fits [a] = some [a] := by exact id rfl
@[simp] theorem s_fits2 {α : Type} {a b : α} : fits [a, b] = some [a, b] := by exact id rfl
@[simp] theorem s_fits3 {α : Type} {a b c : α} : fits [a, b, c] = some [a, b, c] := by exact id rfl
@[simp] theorem s_fits5 {α : Type} {a b c d e : α} : fits [a, b, c, d, e] = some [a, b, c, d, e] := by exact id rfl
@[simp] theorem s_fits4 {α : Type} {a b c d : α} : fits [a, b, c, d] = some [a, b, c, d] := by exact id rfl
theorem s_app {xs : List D} {d : D} (h : xs.length < 16000000) : appD xs d = some (xs ++ [d]) := if_pos h
@[simp] theorem s_bU2 {ω : Type} {x y : D} {k : D → D → R ω} : R.bU2 (.ok (.tup [x, y])) k = k x y := by exact id rfl
@[simp] theorem s_bU3 {ω : Type} {x y z : D} {k : D → D → D → R ω} : R.bU3 (.ok (.tup [x, y, z])) k = k x y z := by exact id rfl
@[simp] theorem s_bP2 {ω : Type} {x y : D} {k : D → D → R ω} : bP2 (.ok [x, y]) k = k x y := by exact id rfl
theorem atI_map {α β : Type} {f : α → β} {xs : List α} {i : Int} : atI (xs.map f) i = (atI xs i).map f := by
  unfold atI
  rw [List.length_map]
  cases ixN xs.length i <;> simp
@[simp] theorem atI_0 {α : Type} {x : α} {xs : List α} : atI (x :: xs) 0 = some x := by
  unfold atI ixN
  have : (0 : Int) < ((x :: xs).length : Int) := by simp only [List.length_cons]; omega
  simp [this]
@[simp] theorem atI_1 {α : Type} {x y : α} {xs : List α} : atI (x :: y :: xs) 1 = some y := by
  unfold atI ixN
  have : (1 : Int) < ((x :: y :: xs).length : Int) := by simp only [List.length_cons]; omega
  rw [if_pos (by decide), if_pos this]
  rfl
theorem atI_k {α : Type} {xs : List α} {k : Nat} {x : α} (h : xs[k]? = some x) : atI xs (k : Int) = some x := by
  have hk : k < xs.length := (List.getElem?_eq_some_iff.mp h).1
  unfold atI ixN
  rw [if_pos (by omega), if_pos (by omega)]
  simpa using h
/-! walks over lists -/
theorem lcM_ok {α : Type} {f : D → R D} {g h : α → D} : ∀ (xs : List α), (∀ x ∈ xs, f (g x) = .ok (h x)) → lcM f (xs.map g) = .ok (xs.map h)
  | [], _ => rfl
  | x :: xs, e => by
    simp only [List.map_cons, lcM, e x (by simp), lcM_ok xs fun y hy => e y (by simp [hy])]
    try rfl
theorem lcR_ok {α : Type} {f : D → R D} {g h : α → D} (xs : List α) (hz : xs.length ≤ 16000000) (e : ∀ x ∈ xs, f (g x) = .ok (h x)) : lcR f (xs.map g) = .ok (xs.map h) := by
  unfold lcR
  rw [if_pos (by rw [List.length_map]; exact hz), lcM_ok xs e]
theorem lcR_id {f : D → R D} {h : D → D} (xs : List D) (hz : xs.length ≤ 16000000) (e : ∀ x ∈ xs, f x = .ok (h x)) : lcR f xs = .ok (xs.map h) := by
  have := lcR_ok (f := f) (g := id) (h := h) xs hz e
  simpa using this
theorem foldR_ok {α β : Type} {step : β → D → R β} {g : α → D} {t : β → α → β} : ∀ (xs : List α) (b : β), (∀ x ∈ xs, ∀ b, step b (g x) = .ok (t b x)) → foldR step b (xs.map g) = .ok (xs.foldl t b)
  | [], _, _ => rfl
  | x :: xs, b, e => by
    show (step b (g x)).bnd _ = _
    rw [e x (by simp), bnd_ok]
    exact foldR_ok xs _ fun y hy b => e y (by simp [hy]) b
/-- with what holds along the way -/
theorem foldR_inv {α β : Type} {step : β → D → R β} {g : α → D} (I : List α → β → Prop) : ∀ (done xs : List α) (b : β), I done b → (∀ done x rest b, I done b → (done ++ x :: rest = done ++ x :: rest) → x ∈ xs → ∃ b', step b (g x) = .ok b' ∧ I (done ++ [x]) b') → ∃ b', foldR step b (xs.map g) = .ok b' ∧ I (done ++ xs) b'
  | done, [], b, h, _ => ⟨b, rfl, by simpa using h⟩
  | done, x :: xs, b, h, e => by
    obtain ⟨b', e1, h1⟩ := e done x xs b h rfl (by simp)
    obtain ⟨b2, e2, h2⟩ := foldR_inv I (done ++ [x]) xs b' h1 fun d y r c hc _ hy => e d y r c hc rfl (by simp [hy])
    refine ⟨b2, ?_, by simpa using h2⟩
    show (step b (g x)).bnd _ = _
    rw [e1, bnd_ok, e2]
/-- comes to something that .. -/
def Is {α : Type} (m : R α) (P : α → Prop) : Prop := ∃ a, m = .ok a ∧ P a
theorem is_ok {α : Type} {a : α} {P : α → Prop} (h : P a) : Is (.ok a) P := ⟨a, rfl, h⟩
theorem is_of {α : Type} {o : Option α} {a : α} {P : α → Prop} (e : o = some a) (h : P a) : Is (R.of o) P := ⟨a, by rw [e]; rfl, h⟩
theorem is_eq {α : Type} {m : R α} {a : α} {P : α → Prop} (e : m = .ok a) (h : P a) : Is m P := ⟨a, e, h⟩
theorem Is.mono {α : Type} {m : R α} {P Q : α → Prop} (h : Is m P) (k : ∀ a, P a → Q a) : Is m Q := by
  obtain ⟨a, e, p⟩ := h
  exact ⟨a, e, k a p⟩
theorem is_bnd {α β : Type} {m : R α} {f : α → R β} {Q : α → Prop} {P : β → Prop} (h : Is m Q) (k : ∀ a, Q a → Is (f a) P) : Is (m.bnd f) P := by
  obtain ⟨a, e, q⟩ := h
  obtain ⟨b, e2, p⟩ := k a q
  exact ⟨b, by rw [e, bnd_ok, e2], p⟩
theorem is_bnd2 {α β γ : Type} {m : R (α × β)} {f : α → β → R γ} {Q : α × β → Prop} {P : γ → Prop} (h : Is m Q) (k : ∀ a b, Q (a, b) → Is (f a b) P) : Is (m.bnd2 f) P := by
  obtain ⟨⟨a, b⟩, e, q⟩ := h
  obtain ⟨c, e2, p⟩ := k a b q
  exact ⟨c, by rw [e, bnd2_ok, e2], p⟩
/-- a walk that makes a list and changes something, what is made told one by one -/
theorem is_lcV {γ : Type} {f : γ → D → R (D × γ)} {I : γ → Prop} {P : D → D → Prop} (hf : ∀ s d, I s → Is (f s d) fun r => P d r.1 ∧ I r.2) : ∀ (ds : List D) (s : γ), I s → Is (lcV f s ds) fun r => r.1.length = ds.length ∧ (∀ z ∈ ds.zip r.1, P z.1 z.2) ∧ I r.2
  | [], s, hs => is_ok ⟨rfl, by simp, hs⟩
  | d :: ds, s, hs => by
    obtain ⟨⟨x, s1⟩, e1, p1, h1⟩ := hf s d hs
    obtain ⟨⟨w, s2⟩, e2, l2, p2, h2⟩ := is_lcV hf ds s1 h1
    refine ⟨(x :: w, s2), by simp [lcV, e1, e2, noE], by simpa using l2, ?_, h2⟩
    intro z hz
    rcases List.mem_cons.mp hz with rfl | hz
    · exact p1
    · exact p2 z hz
theorem is_lcVR {γ : Type} {f : γ → D → R (D × γ)} {ds : List D} {s : γ} (I : γ → Prop) (P : D → D → Prop) (hs : I s) (hl : ds.length ≤ 16000000) (hf : ∀ s d, I s → Is (f s d) fun r => P d r.1 ∧ I r.2) : Is (lcVR f s ds) fun r => r.1.length = ds.length ∧ (∀ z ∈ ds.zip r.1, P z.1 z.2) ∧ I r.2 := by
  unfold lcVR
  rw [if_pos hl]
  exact is_lcV hf ds s hs
theorem of_is {α : Type} {m : R α} {v : α} (h : Is m fun a => a = v) : m = .ok v := by
  obtain ⟨a, e, rfl⟩ := h
  exact e
theorem is_fold {α β : Type} {step : β → D → R β} {g : α → D} (I : List α → β → Prop) {xs : List α} {b : β} (h0 : I [] b) (h : ∀ done x b, x ∈ xs → done.length < xs.length → I done b → Is (step b (g x)) (I (done ++ [x]))) : Is (foldR step b (xs.map g)) (I xs) := by
  have key : ∀ (done rest : List α) (b : β), (∀ x ∈ rest, x ∈ xs) → done.length + rest.length = xs.length → I done b → Is (foldR step b (rest.map g)) (I (done ++ rest)) := by
    intro done rest
    induction rest generalizing done with
    | nil => intro b _ _ h; exact is_ok (by simpa using h)
    | cons x rest ih =>
      intro b hm hl hb
      simp only [List.length_cons] at hl
      refine is_bnd (h done x b (hm x (by simp)) (by omega) hb) fun b' hb' => ?_
      have := ih (done ++ [x]) b' (fun y hy => hm y (by simp [hy])) (by simp; omega) hb'
      simpa using this
  simpa using key [] xs b (fun _ h => h) (by simp) h0
theorem are_ints : ∀ (ds : List D), (∀ d ∈ ds, ∃ i : Int, d = .int i) → ∃ w : List Int, ds = w.map D.int
  | [], _ => ⟨[], rfl⟩
  | d :: ds, h => by
    obtain ⟨i, rfl⟩ := h d (by simp)
    obtain ⟨w, rfl⟩ := are_ints ds fun x hx => h x (by simp [hx])
    exact ⟨i :: w, rfl⟩
theorem zip_all {P : D → Prop} : ∀ {ds es : List D}, es.length = ds.length → (∀ z ∈ ds.zip es, P z.2) → ∀ e ∈ es, P e
  | _, [], _, _, e, he => by simp at he
  | [], e :: es, h, _, _, _ => by simp at h
  | d :: ds, e :: es, h, k, x, hx => by
    rcases List.mem_cons.mp hx with rfl | hx
    · exact k (d, x) (by simp)
    · exact zip_all (by simpa using h) (fun z hz => k z (by simp [hz])) x hx
theorem is_lcVE {γ : Type} {f : γ → D → R (D × γ)} {ds : List D} {s : γ} (I : γ → Prop) (P : D → Prop) (hs : I s) (hl : ds.length ≤ 16000000) (hf : ∀ s, ∀ d ∈ ds, I s → Is (f s d) fun r => P r.1 ∧ I r.2) : Is (lcVR f s ds) fun r => r.1.length = ds.length ∧ (∀ z ∈ r.1, P z) ∧ I r.2 := by
  unfold lcVR
  rw [if_pos hl]
  clear hl
  induction ds generalizing s with
  | nil => exact is_ok ⟨rfl, by simp, hs⟩
  | cons d ds ih =>
    obtain ⟨⟨x, s1⟩, e1, p1, h1⟩ := hf s d (by simp) hs
    obtain ⟨⟨w, s2⟩, e2, l2, p2, h2⟩ := ih h1 (fun s d hd => hf s d (by simp [hd]))
    refine ⟨(x :: w, s2), by simp [lcV, e1, e2, noE], by simpa using l2, ?_, h2⟩
    intro z hz
    rcases List.mem_cons.mp hz with rfl | hz
    · exact p1
    · exact p2 z hz
theorem is_lcVI {γ : Type} {f : γ → D → R (D × γ)} {ds : List D} {s : γ} (I : γ → Prop) (P : Int → Prop) (hs : I s) (hl : ds.length ≤ 16000000) (hf : ∀ s, ∀ d ∈ ds, I s → Is (f s d) fun r => (∃ x : Int, r.1 = .int x ∧ P x) ∧ I r.2) : Is (lcVR f s ds) fun r => ∃ w : List Int, r.1 = w.map .int ∧ w.length = ds.length ∧ (∀ x ∈ w, P x) ∧ I r.2 := by
  refine (is_lcVE I (fun e => ∃ x : Int, e = .int x ∧ P x) hs hl hf).mono fun r ⟨h1, h2, h3⟩ => ?_
  obtain ⟨w, e⟩ := are_ints r.1 fun d hd => let ⟨i, e, _⟩ := h2 d hd; ⟨i, e⟩
  refine ⟨w, e, by rw [← h1, e, List.length_map], fun x hx => ?_, h3⟩
  obtain ⟨i, e2, p⟩ := h2 (.int x) (by rw [e]; exact List.mem_map.mpr ⟨x, hx, rfl⟩)
  cases e2
  exact p
theorem bools_map : ∀ bs : List Bool, bools (bs.map D.bl) = some bs
  | [] => rfl
  | b :: bs => by simp [bools, bools_map bs]
theorem ints_map : ∀ bs : List Int, intsD (bs.map D.int) = some bs
  | [] => rfl
  | b :: bs => by simp [intsD, D.toI, ints_map bs]
@[simp] theorem s_all {bs : List Bool} : D.all_ [.lst (bs.map D.bl)] = some (.bl (bs.all id)) := by simp [D.all_, bools_map]
@[simp] theorem s_any {bs : List Bool} : D.any_ [.lst (bs.map D.bl)] = some (.bl (bs.any id)) := by simp [D.any_, bools_map]
@[simp] theorem s_sum {bs : List Int} : D.sum_ [.lst (bs.map D.int)] = some (.int bs.sum) := by simp [D.sum_, ints_map]
@[simp] theorem s_allR {n : Nat} : D.all_ [.lst (List.replicate n (.bl true))] = some (.bl true) := by
  have := s_all (bs := List.replicate n true)
  simpa using this
theorem nbs_ints : ∀ (w : List Int) (n : Nat), D.nbs (w.map D.int) n = true
  | [], _ => rfl
  | x :: w, n => by simp [D.nbs, D.nb, nbs_ints w n]
theorem s_rg1 {j : Int} (h : 0 ≤ j) (h2 : j < 16000000) : rg1 (.int j) = some ((List.range j.toNat).map fun k => D.int (k : Nat)) := by
  show (if _ then _ else _) = _
  rw [if_pos ⟨by omega, by omega⟩]
  simp [upD]
theorem s_rg2 {i j : Int} (h : -1000000 < i ∧ i < 16000000) (h2 : -1000000 < j ∧ j < 16000000) : rg2 (.int i) (.int j) = some (upD i j) := by
  show (if _ then _ else _) = _
  rw [if_pos ⟨by omega, by omega, by omega, by omega⟩]
end Wk
set_option maxHeartbeats 4000000
/-! Wk14: x[::-1], list(range(..)), tuple(range(..)). -/
namespace Wk
open PySem PySem.Spec PyProof.Rows L2 HT
section
variable {prog : Program} {w : World} {A : Around} {E : Value → Shared → Prop} {s : Shared}
theorem applied_back {sl : Addr} {vl vu vs : Value} {n : Nat} {Q : Int × Int × Nat → Shared → Prop} (hs : s.heap.IsSliceOf sl vl vu vs) (pl : IsPart vl none) (pu : IsPart vu none) (ps : IsPart vs (some (-1)))
    (h : Q ((n : Int) - 1, -1, n) s) : wpAny (model prog w) A (Builtin.Slice.sliceApplied (.ref sl) (pure (n : Int))) Q E s := by
  obtain ⟨os, hos, hcs, hds⟩ := id hs
  unfold Builtin.Slice.sliceApplied Builtin.Slice.sliceFields
  refine wpAny_bind (wpAny_bind (wpAny_field hos hds (x := vl) rfl (wpAny_bind (wpAny_field hos hds (x := vu) rfl (wpAny_bind (wpAny_field hos hds (x := vs) rfl (wpAny_pure ?_)))))))
  refine wpAny_bind (slicePart_ ps ?_)
  show wpAny _ _ (if ((-1 : Int) == 0) = true then _ else _) _ _ s
  rw [if_neg (by decide)]
  refine wpAny_bind (slicePart_ pl (wpAny_bind (slicePart_ pu (wpAny_bind (wpAny_pure ?_)))))
  have e1 : Builtin.Slice.sliceAdjust none none (-1) (n : Int) = ((n : Int) - 1, -1) := by
    unfold Builtin.Slice.sliceAdjust
    simp
  have e2 : Builtin.Slice.slicePlaces ((n : Int) - 1) (-1) (-1) = n := by
    unfold Builtin.Slice.slicePlaces
    simp
    split <;> omega
  show wpAny _ _ (match Builtin.Slice.sliceAdjust none none (-1) (n : Int) with | (lo, hi) => pure (lo, (-1 : Int), Builtin.Slice.slicePlaces lo hi (-1))) _ _ s
  rw [e1]
  show wpAny _ _ (pure ((n : Int) - 1, (-1 : Int), Builtin.Slice.slicePlaces ((n : Int) - 1) (-1) (-1))) _ _ s
  rw [e2]
  exact wpAny_pure h
theorem pick_back (xs : Array Value) : ((List.range xs.size).filterMap fun (m : Nat) => xs[(((xs.size : Int) - 1) + (m : Int) * (-1)).toNat]?).toArray = xs.toList.reverse.toArray := by
  congr 1
  have e : (List.range xs.size).filterMap (fun (m : Nat) => xs[(((xs.size : Int) - 1) + (m : Int) * (-1)).toNat]?) = ((List.range xs.size).map fun k => xs.size - 1 - k).filterMap (xs[·]?) := by
    rw [List.filterMap_map]
    congr 1
    funext m
    show xs[_]? = xs[xs.size - 1 - m]?
    congr 1
    omega
  rw [e, PySem.W.krv_range, List.filterMap_reverse, PySem.W.krv_all]
theorem get_tup_back {t sl : Addr} {items : Array Value} {vl vu vs : Value} {Q : Value → Shared → Prop} (ht : IsTup s.heap t items) (hs : s.heap.IsSliceOf sl vl vu vs) (pl : IsPart vl none) (pu : IsPart vu none) (ps : IsPart vs (some (-1)))
    (h : Q (.ref s.heap.objs.size) { s with heap := s.heap.push { cls := .type "tuple", data := .seq items.toList.reverse.toArray } }) (hsz : items.size ≤ sizeLine) : wpAny (model prog w) A (getItem (.ref t) (.ref sl)) Q E s := by
  have hok : sizeOk (.seq items.toList.reverse.toArray) := by
    show items.toList.reverse.toArray.size ≤ sizeLine
    simpa using hsz
  obtain ⟨os, hos, hcs, hds⟩ := id hs
  have hTs : s.TypeIs (.ref sl) "slice" := ⟨os, hos, hcs⟩
  unfold getItem
  try with_reducible refine wpAny_holding ?_
  first | refine wpAny_bind (wpAny_pure ?_) | skip
  refine wpAny_bind (wpAny_sequenceKey ht.typeIs (by decide) (wpAny_bind (wpAny_callSpecial?_slot (name := Str.ofString "__getitem__") ht.typeIs PyProof.Rows.slot_tuple_getitem
    (wpAny_call_entry PyProof.Rows.slot_tuple_getitem ht.typeIs entry_tuple_getitem ?_ (args_tuple_getitem _ _)))))
  show wpAny _ _ (Builtin.Tuple.tupleItemsOf (.ref t) >>= _) _ _ s
  refine wpAny_bind (tupleItemsOf_ ht (wpAny_bind (wpAny_typeOf hTs ?_)))
  rw [if_pos (by decide)]
  refine wpAny_bind (applied_back hs pl pu ps ?_)
  show wpAny _ _ (if (((items.size : Int) - 1) == 0 && (-1 : Int) == 1 && items.size == items.size) = true then _ else _) _ _ s
  rw [if_neg (by simp), pick_back]
  first
    | exact wpAny_bind (m := Builtin.Tuple.tupleExact _) (wpAny_newObj_type (wpAny_pure ⟨_, rfl, wpAny_pure h⟩) hok)
    | exact wpAny_bind (m := Builtin.Tuple.tupleExact _) (wpAny_newObj_type (wpAny_bind (wpAny_pure (wpAny_pure ⟨_, rfl, wpAny_pure h⟩))) hok)
    | exact wpAny_bind (wpAny_bind (m := Builtin.Tuple.tupleExact _) (wpAny_newObj_type (wpAny_pure (wpAny_pure ⟨_, rfl, wpAny_pure h⟩)) hok))
    | exact wpAny_bind (wpAny_bind (m := Builtin.Tuple.tupleExact _) (wpAny_newObj_type (wpAny_pure ⟨_, rfl, wpAny_pure h⟩) hok))
end
section
variable {X : Cx} {W : WN} {eE : En} {en : En} {ec : Nat → Addr} {pos : Pos} {γ δ ω : Type} {φ : γ → En} {a b c e : Expr} {es : List Expr} {T : Bs → ω → Ends → Prop} {rest : List Stmt} {ma mb m : R D}
/-- t[::-1] -/
def tBackT (K : PySem.W.Frag) (te : TE) : TE := fun σ H Q => te σ H fun x H1 => ∃ a xs, x = .ref a ∧ SqT K H1 a xs ∧ ∀ p, H1 p = none → Q (.ref p) (upd H1 p (.tup xs.reverse))
theorem pe_backT {te : TE} {k : Nat} {p1 p2 p3 : Pos} (he : PE X e te) : PE X (.Subscript e (.Slice none none (some (.UnaryOp .USub (.Constant (.int 1) k p1) p2)) p3) pos) (tBackT X.K te) := by
  refine ⟨fun pins s σ H Q I h => Subscript_ (thn (he.run pins s σ H _ I h) fun v s1 ⟨x, H1, I1, r1, a, xs, ex, hx, q⟩ => ?_)⟩
  subst ex
  cases r1
  have hst : PO X (some (.UnaryOp .USub (.Constant (.int 1) k p1) p2)) (tPart (tUn (rU fun i => .int (-i)) (tC (.int 1)))) := po_some (pe_un un_neg pe_int)
  refine wpAny_Slice (thn (po_none.run pins s1 σ H1 (fun o H2 => o = none ∧ H2 = H1) I1 ⟨rfl, rfl⟩) fun vl s2 ⟨l, H2, I2, pl, el, e2⟩ => ?_)
  subst el e2
  refine thn (po_none.run pins s2 σ H2 (fun o H3 => o = none ∧ H3 = H2) I2 ⟨rfl, rfl⟩) fun vu s3 ⟨u, H3, I3, pu, eu, e3⟩ => ?_
  subst eu e3
  refine thn (hst.run pins s3 σ H3 (fun o H4 => o = some (-1) ∧ H4 = H3) I3 ⟨1, rfl, -1, rfl, rfl, rfl⟩) fun vs s4 ⟨o, H4, I4, ps, eo, e4⟩ => ?_
  subst eo e4
  have I5 : Inv X pins σ H4 { s4 with heap := s4.heap.push { cls := .type "slice", data := .fields #[vl, vu, vs] } } := I4.kept (t' := s4.toks) fun b ob q => Heap.get?_push_of_some _ q
  obtain ⟨its, r, ht, hz⟩ := I5.tuple hx
  have hlen := r.length
  show wpAny (model X.prog X.w) X.A (subscriptTail e (.Slice none none (some (.UnaryOp .USub (.Constant (.int 1) k p1) p2)) p3) (.ref a) (.ref s4.heap.objs.size)) (EP X pins σ Q) X.xe { s4 with heap := s4.heap.push { cls := .type "slice", data := .fields #[vl, vu, vs] } }
  refine tail_any (ops := [.ref a, .ref s4.heap.objs.size]) ht.typeIs (PyProof.Rows.slot_tuple_getitem.lookup) ?_ (by with_unfolding_all rfl)
  refine get_tup_back ht (Heap.IsSliceOf.new _ vl vu vs) pl pu ps ?_ (by rw [List.size_toArray]; omega)
  refine ⟨.ref _, _, I5.laid (t' := s4.toks) (o := .tup xs.reverse) (fun b ob q => Heap.get?_push_of_some _ q) (Nat.le_refl _) ?_, rfl, q _ (I5.hok.fresh (Nat.le_refl _))⟩
  exact ⟨by rw [List.length_reverse]; exact hz, _, r.reverse, IsTup.new _ _⟩
def D.back : D → Option D
  | .tup xs => some (.tup xs.reverse)
  | .tux xs => some (.tup xs.reverse)
  | _ => none
def D.backL : D → Option (List D)
  | .lst xs => some xs.reverse
  | _ => none
theorem xp_back {k : Nat} {p1 p2 p3 : Pos} (h : XP X W e en m) : XP X W (.Subscript e (.Slice none none (some (.UnaryOp .USub (.Constant (.int 1) k p1) p2)) p3) pos) en (m.bnd fun d => R.of d.back) := fun σ G H S Q q => by
  refine pe_to (pe_backT pe_w) (h σ G H S _ (wp_mono (wp_bnd.mp q) (fun d hd v G1 H1 w1 r1 => ?_) fun _ z => z))
  obtain ⟨d', e1, hd⟩ := wp_of hd
  unfold D.back at e1
  split at e1
  · cases e1
    cases r1 with
    | @tup _ vs _ h1 r =>
      refine ⟨_, _, rfl, w1.up.le.seqT h1, fun p hp => ?_⟩
      have w2 := Grow.new (o := .tup vs.reverse) w1.up hp rfl
      exact hd _ _ _ (w1.trans w2) (.tup (.inl (.inl upd_same)) (r.rev.up w2.g))
  · cases e1
    cases r1 with
    | @tux _ vs _ h1 r =>
      refine ⟨_, _, rfl, w1.up.le.seqT (.inl h1.1), fun p hp => ?_⟩
      have w2 := Grow.new (o := .tup vs.reverse) w1.up hp rfl
      exact hd _ _ _ (w1.trans w2) (.tup (.inl (.inl upd_same)) (r.rev.up w2.g))
  · cases e1
theorem newL_here {K : PySem.W.Frag} {G H G1 H1 : Hp} {ds : List D} {vs : List V} {Q : VK} (w : Grow G H G1 H1) (r : RpAll K G1 vs ds) (k : NewL K G H ds Q) : ∀ p, H1 p = none → Q (.ref p) (upd H1 p (.lst vs)) := fun p hp => by
  have w2 := Grow.own (o := .lst vs) w.up hp
  refine k p vs G1 _ (w.trans w2) ?_ (w.up.kn p hp) upd_same (r.up w2.g)
  cases z : H p with
  | none => rfl
  | some o => rw [w.h p o z] at hp; cases hp
theorem xn_back {k : Nat} {p1 p2 p3 : Pos} (h : XP X W e en m) : XN X W (.Subscript e (.Slice none none (some (.UnaryOp .USub (.Constant (.int 1) k p1) p2)) p3) pos) en (m.bnd fun d => R.of d.backL) := fun σ G H S Q q => by
  refine pe_to (pe_revL pe_w) (h σ G H S _ (wp_mono (wp_bnd.mp q) (fun d hd v G1 H1 w1 r1 => ?_) fun _ z => z))
  obtain ⟨d', e1, hd⟩ := wp_of hd
  unfold D.backL at e1
  split at e1
  · cases e1
    cases r1 with
    | lst h1 r => exact ⟨_, _, rfl, .inl (w1.up.le _ _ rfl h1), newL_here w1 r.rev hd⟩
  · cases e1
/-! ranges as arguments -/
def XR (X : Cx) (W : WN) (e : Expr) (en : En) (m : R (Int × Int)) : Prop := ∃ t, PRg X e t ∧ ∀ σ G H, Sl X.K en σ G H → ∀ Q : Int → Int → Hp → Prop, wp m (fun r => ∀ G2 H2, Grow G H G2 H2 → Q r.1 r.2 H2) (fun c => ∀ G2 H2, Grow G H G2 H2 → W c σ H2) → t σ H Q
theorem xr_1 {p : Pos} (hm : X.mg "range" = none) (ha : XP X W a en ma) (hg : Gl X "range" := by rfl) (na : starEach [a] X.env = (false, eval a X.env) :: starEach [] X.env := by rfl) : XR X W (.Call (.Name "range" p) [a] [] pos) en (ma.bnd fun x => (R.of x.toI).bnd fun i => .ok (0, i)) :=
  ⟨_, prg_1 hg hm pe_w na, fun σ G H S Q k => ha σ G H S _ (wp_mono (wp_bnd.mp k) (fun d hd v G1 H1 w1 r1 => by
    obtain ⟨i, e1, hd⟩ := wp_of (wp_bnd.mp hd)
    cases d <;> cases e1
    cases r1
    exact ⟨_, rfl, hd G1 H1 w1⟩) fun _ z => z)⟩
theorem xr_2 {p : Pos} (hm : X.mg "range" = none) (ha : XP X W a en ma) (hb : XP X W b en mb) (hg : Gl X "range" := by rfl) (na : starEach [a, b] X.env = (false, eval a X.env) :: starEach [b] X.env := by rfl)
    (nb : starEach [b] X.env = (false, eval b X.env) :: starEach [] X.env := by rfl) (hp : (backTo pos (starEach [b] X.env)).any (·.1) = false := by rfl) : XR X W (.Call (.Name "range" p) [a, b] [] pos) en (ma.bnd fun x => mb.bnd fun y => (R.of x.toI).bnd fun i => (R.of y.toI).bnd fun j => .ok (i, j)) :=
  ⟨_, prg_2 hg hm pe_w pe_w na nb hp, fun σ G H S Q k => ha σ G H S _ (wp_mono (wp_bnd.mp k) (fun d hd v G1 H1 w1 r1 => hb σ G1 H1 (S.grow w1) _ (wp_mono (wp_bnd.mp hd) (fun d2 hd2 v2 G2 H2 w2 r2 => by
    obtain ⟨i, e1, hd2⟩ := wp_of (wp_bnd.mp hd2)
    obtain ⟨j, e2, hd2⟩ := wp_of (wp_bnd.mp hd2)
    cases d <;> cases e1
    cases d2 <;> cases e2
    cases r1
    cases r2
    exact ⟨_, _, rfl, rfl, hd2 G2 H2 (w1.trans w2)⟩) fun _ z G2 H2 w => z G2 H2 (w1.trans w))) fun _ z => z)⟩
def rgL (i j : Int) : Option (List D) := if -1000000 < i ∧ i < 1000000 ∧ -1000000 < j ∧ j < 1000000 then some (upD i j) else none
theorem rp_upD {K : PySem.W.Frag} {G : Hp} (i j : Int) : RpAll K G (rgV i j) (upD i j) := by
  unfold rgV upD
  generalize List.range (j - i).toNat = l
  induction l with
  | nil => exact .nil
  | cons x l ih => exact .cons (.int _) ih
theorem rgL_some {i j : Int} {ds : List D} (h : rgL i j = some ds) : ds = upD i j ∧ RgOk i j := by
  unfold rgL at h
  split at h
  · rename_i z
    cases h
    exact ⟨rfl, by omega, by omega, by omega, by omega, by omega⟩
  · cases h
theorem xn_lrg {p : Pos} {mr : R (Int × Int)} (g : Go X ec W) (hm : X.mg "list" = none) (h : XR X W e en mr) (hg : Gl X "list" := by rfl) (na : starEach [e] X.env = (false, eval e X.env) :: starEach [] X.env := by rfl) : XN X W (.Call (.Name "list" p) [e] [] pos) en (mr.bnd2 fun i j => R.of (rgL i j)) := fun σ G H S Q q => by
  obtain ⟨t, ht, h⟩ := h
  refine pe_to (pe_listRg g.calm hg hm ht na) (h σ G H S _ (wp_mono (wp_bnd.mp q) (fun r hr G1 H1 w1 => ?_) fun _ z => z))
  obtain ⟨ds, e1, hd⟩ := wp_of hr
  obtain ⟨rfl, ok⟩ := rgL_some e1
  exact ⟨ok, newL_here w1 (rp_upD _ _) hd⟩
theorem xp_trg {p : Pos} {mr : R (Int × Int)} (g : Go X ec W) (hm : X.mg "tuple" = none) (h : XR X W e en mr) (hg : Gl X "tuple" := by rfl) (na : starEach [e] X.env = (false, eval e X.env) :: starEach [] X.env := by rfl) : XP X W (.Call (.Name "tuple" p) [e] [] pos) en (mr.bnd2 fun i j => (R.of (rgL i j)).bnd fun ds => .ok (.tup ds)) := fun σ G H S Q q => by
  obtain ⟨t, ht, h⟩ := h
  refine pe_to (pe_tupRg g.calm hg hm ht na) (h σ G H S _ (wp_mono (wp_bnd.mp q) (fun r hr G1 H1 w1 => ?_) fun _ z => z))
  obtain ⟨ds, e1, hd⟩ := wp_of (wp_bnd.mp hr)
  obtain ⟨rfl, ok⟩ := rgL_some e1
  refine ⟨ok, fun p hp => ?_⟩
  have w2 := Grow.new (o := .tup (rgV r.1 r.2)) w1.up hp rfl
  exact hd _ _ _ (w1.trans w2) (.tup (.inl (.inl upd_same)) (rp_upD _ _))
end
end Wk
set_option maxHeartbeats 4000000
/-! Wk15: tuple * int of any count, a dict written down and asked, two names from an expression that changes something. -/
namespace Wk
open PySem PySem.Spec PyProof.Rows L2
theorem mul_same (l : Addr) (items : Array Value) (n : Nat) (dd : Option Addr) (sl : Array (Option Value)) (x : Int) (u : Tok) (c0 : (decide (x < -(2 ^ 63)) || decide (x ≥ 2 ^ 63)) = false) (c1 : (items.isEmpty || x == 1) = true) :
    Meets (Builtin.«tuple.__mul__» ⟨[.ref l, .int x u], []⟩) (fun _ R s => s.heap.get? l = some { cls := .type "tuple", dict := dd, data := .seq items n, slots := sl } ∧ R (.ok (.ret (Value.ref l))) s) :=
  .of_wp fun prog w A R s h => by
    obtain ⟨hp, g, d, tk, os⟩ := s
    obtain ⟨hl, h⟩ := h
    have f1 := AutoSeq1.idx_int
    wp_walk using wpAny_loadPart' hl
    repeat (first
      | (refine wpAny_ite_false (decide_eq_false (by rw [c0]; exact Bool.false_ne_true)) ?_; wp_walk using wpAny_loadPart' hl)
      | (refine wpAny_ite_true (decide_eq_true c1) ?_; wp_walk using wpAny_loadPart' hl))
    exact ⟨_, rfl, h⟩
theorem mul_none (l : Addr) (items : Array Value) (n : Nat) (dd : Option Addr) (sl : Array (Option Value)) (x : Int) (u : Tok) (c0 : (decide (x < -(2 ^ 63)) || decide (x ≥ 2 ^ 63)) = false) (c1 : (items.isEmpty || x == 1) = false) (c2 : (decide (x ≤ 0) || items.isEmpty) = true) :
    Meets (Builtin.«tuple.__mul__» ⟨[.ref l, .int x u], []⟩) (fun _ R s => s.heap.get? l = some { cls := .type "tuple", dict := dd, data := .seq items n, slots := sl } ∧
      R (.ok (.ret (Value.ref s.heap.objs.size))) { s with heap := s.heap.push { cls := Value.type "tuple", data := Data.seq #[] }, toks := s.toks }) :=
  .of_wp fun prog w A R s h => by
    obtain ⟨hp, g, d, tk, os⟩ := s
    obtain ⟨hl, h⟩ := h
    have f1 := AutoSeq1.idx_int
    wp_walk using wpAny_loadPart' hl
    repeat (first
      | (refine wpAny_ite_false (decide_eq_false (by rw [c0]; exact Bool.false_ne_true)) ?_; wp_walk using wpAny_loadPart' hl)
      | (refine wpAny_ite_false (decide_eq_false (by rw [c1]; exact Bool.false_ne_true)) ?_; wp_walk using wpAny_loadPart' hl)
      | (refine wpAny_ite_true (decide_eq_true c2) ?_; wp_walk using wpAny_loadPart' hl))
    exact ⟨_, rfl, h⟩
section
variable {X : Cx} {K : PySem.W.Frag}
def rMulT (K : PySem.W.Frag) : R2 := fun x y H Q => ∃ l k xs, x = .ref l ∧ y = .int k ∧ SqT K H l xs ∧ -1000000 < k ∧ k ≤ 4000 ∧ xs.length ≤ 1000 ∧ ((xs = [] ∨ k = 1) → Q (.ref l) H) ∧ (¬ (xs = [] ∨ k = 1) → ∀ p, H p = none → Q (.ref p) (upd H p (.tup (List.replicate k.toNat xs).flatten)))
theorem op_mulT : OpR X (binaryOp .Mult) (rMulT X.K) := by
  intro pins s σ H x y v u Q I rx ry h
  obtain ⟨l, k, xs, rfl, rfl, hT, h1, h2, hz, q1, q2⟩ := h
  by_cases hk : 2 ≤ k ∧ xs ≠ []
  · obtain ⟨hk1, hk2⟩ := hk
    cases rx
    obtain ⟨t, rfl⟩ := ry
    obtain ⟨its, r, ⟨⟨cls, dd, data, sl⟩, ho, hc, n, hd⟩, hs⟩ := I.tuple hT
    simp only at hc hd
    subst hc hd
    have hle : its.length = xs.length := r.length.symm
    have c0 : (decide (k < -(2 ^ 63)) || decide (k ≥ 2 ^ 63)) = false := by
      rw [decide_eq_false (by omega), decide_eq_false (by omega)] <;> rfl
    have ie : its.toArray.isEmpty = false := by
      cases z : its.toArray.isEmpty with
      | false => rfl
      | true =>
        rw [List.isEmpty_toArray, List.isEmpty_iff] at z
        subst z
        exact absurd (List.length_eq_zero_iff.mp hle.symm) hk2
    have c1 : (its.toArray.isEmpty || k == 1) = false := by rw [ie, Bool.false_or]; exact beq_eq_false_iff_ne.mpr (by omega)
    have c2 : (decide (k ≤ 0) || its.toArray.isEmpty) = false := by rw [ie, decide_eq_false (by omega)]; rfl
    obtain ⟨m, rfl⟩ : ∃ m : Nat, k = m := ⟨k.toNat, by omega⟩
    have hb : its.toArray.size * m ≤ 4000000 := by
      rw [List.size_toArray, hle]
      exact Nat.le_trans (Nat.mul_le_mul hz (show m ≤ 4000 by omega)) (by decide)
    have c3 : ¬ ((its.toArray.size : Int) * (m : Int)) > (2 ^ 63 - 1) / 8 := by
      have : ((its.toArray.size : Int) * (m : Int)) ≤ 4000000 := by rw [← Int.natCast_mul]; exact Int.ofNat_le.mpr hb
      exact fun z => absurd (Int.lt_of_lt_of_le z this) (by decide)
    have c4 : Builtin.Tuple.tupleTooMany ((its.toArray.size : Int) * (m : Int)) = false := by
      have : ((its.toArray.size : Int) * (m : Int)) ≤ 4000000 := by rw [← Int.natCast_mul]; exact Int.ofNat_le.mpr hb
      have sl4 : (4000000 : Int) ≤ (sizeLine : Int) := Int.ofNat_le.mpr (show 4000000 ≤ sizeLine by decide)
      unfold Builtin.Tuple.tupleTooMany
      exact decide_eq_false (by omega)
    have f0 : ∀ m : Nat, List.foldl (fun x1 x2 => x1 ++ x2) #[] (List.replicate m its.toArray) = (List.replicate m its).flatten.toArray := fun m => by
      have := foldl_rep its m []
      rw [List.nil_append] at this
      exact this
    have hlen : (List.replicate m its).flatten.length ≤ 4000000 := by
      rw [PyProof.Rows.lm_len_rep_flat, Nat.mul_comm]
      rw [List.size_toArray] at hb
      exact hb
    have c5 : (List.foldl (fun x1 x2 => x1 ++ x2) #[] (List.replicate (m : Int).toNat its.toArray)).size ≤ sizeLine := by
      rw [Int.toNat_natCast, f0, List.size_toArray]
      exact Nat.le_trans hlen (by decide)
    refine wpAny_binaryOp_repeat_ref (T := "tuple") (U := "int") (by decide) ⟨_, ho, rfl⟩ (fun s' => typeIs_int s' (m : Int) t) noFill_tuple_mul F.fills_int_mul F.slot_int_rmul repeat_tuple F.slot_int_index.lookup
      (call_meets F.slot_int_rmul (typeIs_int s (m : Int) t) F.entry_int_rmul (F.args_int_rmul_2 _ _) (int_rmul_tuple (m : Int) t l its.toArray n dd sl)
        ⟨ho, rfl, ⟨_, ho, rfl⟩, call_meets F.slot_tuple_mul ⟨_, ho, rfl⟩ F.entry_tuple_mul (F.args_tuple_mul_2 _ _) (tuple_mulW l its.toArray n dd sl (m : Int) t c0 c1 c2 c3 c4 c5) ⟨ho, ?_⟩⟩)
    have q3 := q2 (fun z => z.elim hk2 (fun z => by omega)) s.heap.objs.size (I.hok.fresh (Nat.le_refl _))
    rw [Int.toNat_natCast] at q3 ⊢
    rw [f0]
    refine ⟨.ref s.heap.objs.size, _, I.laid (t' := s.toks) (o := .tup (List.replicate m xs).flatten) (fun b ob q => Heap.get?_push_of_some _ q) (Nat.le_refl _) ?_, rfl, q3⟩
    exact ⟨by rw [PyProof.Rows.lm_len_rep_flat, Nat.mul_comm, ← hle]; rw [List.size_toArray] at hb; exact Nat.le_trans hb (by decide), _, r.rep m, IsTup.new _ _⟩
  cases rx
  obtain ⟨t, rfl⟩ := ry
  obtain ⟨its, r, ⟨⟨cls, dd, data, sl⟩, ho, hc, n, hd⟩, hs⟩ := I.tuple hT
  simp only at hc hd
  subst hc hd
  have hle : its.length = xs.length := r.length.symm
  have c0 : (decide (k < -(2 ^ 63)) || decide (k ≥ 2 ^ 63)) = false := by
    rw [decide_eq_false (by omega), decide_eq_false (by omega)] <;> rfl
  have ie : its.toArray.isEmpty = true ↔ xs = [] := by
    rw [List.isEmpty_toArray, List.isEmpty_iff, ← List.length_eq_zero_iff, ← List.length_eq_zero_iff, hle]
  by_cases c : xs = [] ∨ k = 1
  · have c1 : (its.toArray.isEmpty || k == 1) = true := by
      rcases c with c | c
      · rw [ie.mpr c, Bool.true_or]
      · rw [c]; simp
    exact wpAny_binaryOp_repeat_ref (T := "tuple") (U := "int") (by decide) ⟨_, ho, rfl⟩ (fun s' => typeIs_int s' k t) noFill_tuple_mul F.fills_int_mul F.slot_int_rmul repeat_tuple F.slot_int_index.lookup
      (call_meets F.slot_int_rmul (typeIs_int s k t) F.entry_int_rmul (F.args_int_rmul_2 _ _) (int_rmul_tuple k t l its.toArray n dd sl)
        ⟨ho, rfl, ⟨_, ho, rfl⟩, call_meets F.slot_tuple_mul ⟨_, ho, rfl⟩ F.entry_tuple_mul (F.args_tuple_mul_2 _ _) (mul_same l its.toArray n dd sl k t c0 c1) ⟨ho, .ref l, H, I, rfl, q1 c⟩⟩)
  · have k0 : k ≤ 0 := by
      by_cases z : 2 ≤ k
      · exact absurd ⟨z, fun y => c (.inl y)⟩ hk
      · have : k ≠ 1 := fun y => c (.inr y)
        omega
    have c1 : (its.toArray.isEmpty || k == 1) = false := by
      cases z : its.toArray.isEmpty with
      | true => exact absurd (.inl (ie.mp z)) c
      | false => simp; omega
    have c2 : (decide (k ≤ 0) || its.toArray.isEmpty) = true := by rw [decide_eq_true k0, Bool.true_or]
    refine wpAny_binaryOp_repeat_ref (T := "tuple") (U := "int") (by decide) ⟨_, ho, rfl⟩ (fun s' => typeIs_int s' k t) noFill_tuple_mul F.fills_int_mul F.slot_int_rmul repeat_tuple F.slot_int_index.lookup
      (call_meets F.slot_int_rmul (typeIs_int s k t) F.entry_int_rmul (F.args_int_rmul_2 _ _) (int_rmul_tuple k t l its.toArray n dd sl)
        ⟨ho, rfl, ⟨_, ho, rfl⟩, call_meets F.slot_tuple_mul ⟨_, ho, rfl⟩ F.entry_tuple_mul (F.args_tuple_mul_2 _ _) (mul_none l its.toArray n dd sl k t c0 c1 c2) ⟨ho, ?_⟩⟩)
    have q3 := q2 c s.heap.objs.size (I.hok.fresh (Nat.le_refl _))
    rw [show k.toNat = 0 by omega] at q3
    refine ⟨.ref s.heap.objs.size, _, I.laid (t' := s.toks) (o := .tup (List.replicate 0 xs).flatten) (fun b ob q => Heap.get?_push_of_some _ q) (Nat.le_refl _) ?_, rfl, q3⟩
    exact ⟨Nat.zero_le _, _, .nil, IsTup.new _ _⟩
def D.mulT : D → D → Option D
  | .tup xs, .int k => if -1000000 < k ∧ k ≤ 4000 ∧ xs.length ≤ 1000 then some (.tup (List.replicate k.toNat xs).flatten) else none
  | _, _ => none
theorem RpAll.repT {G : Hp} {ds : List D} {vs : List V} (r : RpAll K G vs ds) : ∀ n, RpAll K G (List.replicate n vs).flatten (List.replicate n ds).flatten
  | 0 => .nil
  | n + 1 => by
    rw [List.replicate_succ, List.replicate_succ, List.flatten_cons, List.flatten_cons]
    exact r.app (RpAll.repT r n)
theorem d_mulT : OpD K (rMulT K) D.mulT := fun G H x y dx dy d l rx ry e Q q => by
  unfold D.mulT at e
  split at e
  · rename_i ds k
    split at e
    · rename_i z
      cases e
      cases ry
      cases rx with
      | @tup a vs _ h1 r =>
        refine ⟨a, k, vs, rfl, rfl, l.le.seqT h1, z.1, z.2.1, by rw [r.len]; exact z.2.2, fun c => ?_, fun c p hp => ?_⟩
        · refine q _ _ _ (Grow.refl l) ?_
          rcases c with c | c
          · subst c
            cases r
            have e2 : (List.replicate k.toNat ([] : List D)).flatten = [] := by simp
            rw [e2]
            exact .tup h1 .nil
          · subst c
            have e2 : (List.replicate (1 : Int).toNat ds).flatten = ds := by simp [show (1 : Int).toNat = 1 from rfl]
            rw [e2]
            exact .tup h1 r
        · have w := Grow.new (o := .tup (List.replicate k.toNat vs).flatten) l hp rfl
          exact q _ _ _ w (.tup (.inl (.inl upd_same)) ((r.repT k.toNat).up w.g))
    · cases e
  · cases e
end
section
variable {X : Cx} {W : WN} {eE : En} {en : En} {ec : Nat → Addr} {pos : Pos} {γ δ ω : Type} {φ : γ → En} {a b c e : Expr} {es : List Expr} {T : Bs → ω → Ends → Prop} {rest : List Stmt}
theorem Grow.put {p : Addr} {o : HO} {G H G2 H2 : Hp} (w : Grow G H G2 H2) (hp : H p = none) (gp : G2 p = none) : Grow G H G2 (upd H2 p o) := w.mutD hp gp
/-- {k1: v1, k2: v2}.get(k, d), the keys whole numbers -/
def D.get2 (a : Int) (x : D) (b : Int) (y : D) (k d : D) : Option D := match k with
  | .int k => some (if k = b then y else if k = a then x else d)
  | _ => none
theorem xp_get2 {e1 e2 e3 e4 e5 e6 : Expr} {m1 m2 m3 m4 m5 m6 : R D} {pd pa : Pos} (hu : X.A.units + 64 < cLine) (h1 : XP X W e1 en m1) (h2 : XP X W e2 en m2) (h3 : XP X W e3 en m3) (h4 : XP X W e4 en m4) (h5 : XP X W e5 en m5) (h6 : XP X W e6 en m6)
    (hm : M2 X (.Dict [some e1, some e3] [e2, e4] pd) "get" pa e5 e6 pos := by exact ⟨rfl, rfl, rfl, rfl⟩) :
    XP X W (.Call (.Attribute (.Dict [some e1, some e3] [e2, e4] pd) "get" pa) [e5, e6] [] pos) en (m1.bnd fun k1 => m2.bnd fun v1 => m3.bnd fun k2 => m4.bnd fun v2 => (R.of k1.toI).bnd fun a => (R.of k2.toI).bnd fun b => m5.bnd fun k => m6.bnd fun d => R.of (D.get2 a v1 b v2 k d)) := fun σ G H S Q q => by
  refine pe_to (pe_dget2 (by omega) (pe_disp (pps_cons pe_w pe_w (pps_cons pe_w pe_w pps_nil)) rfl rfl (by simp) (by show 2 ≤ 15; decide)) pe_w pe_w hm) (fun p hp => ?_)
  have w0 := Grow.own (o := .dK []) S.le hp
  have g0 : G p = none := S.le.kn p hp
  refine h1 σ G _ (S.grow w0) _ (wp_mono (wp_bnd.mp q) (fun d1 q v1 G1 H1 w1 r1 => ?_) fun _ z G2 H2 w => z G2 H2 (w0.trans w))
  refine h2 σ G1 H1 ((S.grow w0).grow w1) _ (wp_mono (wp_bnd.mp q) (fun d2 q v2 G2 H2 w2 r2 => ?_) fun _ z G2 H2 w => z G2 H2 ((w0.trans w1).trans w))
  refine h3 σ G2 H2 (((S.grow w0).grow w1).grow w2) _ (wp_mono (wp_bnd.mp q) (fun d3 q v3 G3 H3 w3 r3 => ?_) fun _ z G2 H2 w => z G2 H2 (((w0.trans w1).trans w2).trans w))
  refine h4 σ G3 H3 ((((S.grow w0).grow w1).grow w2).grow w3) _ (wp_mono (wp_bnd.mp q) (fun d4 q v4 G4 H4 w4 r4 => ?_) fun _ z G2 H2 w => z G2 H2 ((((w0.trans w1).trans w2).trans w3).trans w))
  obtain ⟨ka, ea, q⟩ := wp_of (wp_bnd.mp q)
  obtain ⟨kb, eb, q⟩ := wp_of (wp_bnd.mp q)
  cases d1 <;> cases ea
  cases d3 <;> cases eb
  cases r1
  cases r3
  have w' := ((w1.trans w2).trans w3).trans w4
  have hp4 : H4 p = some (.dK []) := w'.h _ _ upd_same
  have gp4 : G4 p = none := w'.cl p g0 ⟨_, upd_same, trivial⟩
  have w5 := Grow.put (o := .dK (mergeK [] [(.inl ka, v2), (.inl kb, v4)])) (w0.trans w') hp gp4
  refine ⟨hp4, [(.inl ka, v2), (.inl kb, v4)], rfl, by show 2 ≤ 15; decide, p, rfl, .inl ⟨_, .inl upd_same⟩, ?_⟩
  refine h5 σ G4 _ (S.grow w5) _ (wp_mono (wp_bnd.mp q) (fun d5 q v5 G5 H5 w6 r5 => ?_) fun _ z G2 H2 w => z G2 H2 (w5.trans w))
  refine h6 σ G5 H5 ((S.grow w5).grow w6) _ (wp_mono (wp_bnd.mp q) (fun d6 q v6 G6 H6 w7 r6 => ?_) fun _ z G2 H2 w => z G2 H2 ((w5.trans w6).trans w))
  obtain ⟨d, ed, q⟩ := wp_of q
  unfold D.get2 at ed
  split at ed
  · rename_i k _
    cases ed
    cases r5
    have hd : H6 p = some (.dK (mergeK [] [(.inl ka, v2), (.inl kb, v4)])) := (w6.trans w7).h _ _ upd_same
    refine ⟨_, .k (k := .inl k) hd, ?_⟩
    have hv : valV (mergeK [] [((.inl ka : Key), v2), (.inl kb, v4)]) (.inl k) = if k = kb then some v4 else if k = ka then some v2 else none := by
      show valV (putK (putK [] (Sum.inl ka : Key) v2) (Sum.inl kb) v4) (Sum.inl k) = _
      rw [valV_put, valV_put, valV_nil]
      simp only [Sum.inl.injEq]
    rw [hv]
    have u4 := (w6.trans w7).g
    by_cases c1 : k = kb
    · rw [if_pos c1] at q ⊢
      exact q _ _ _ ((w5.trans w6).trans w7) (r4.up u4)
    · rw [if_neg c1] at q ⊢
      by_cases c2 : k = ka
      · rw [if_pos c2] at q ⊢
        exact q _ _ _ ((w5.trans w6).trans w7) (r2.up ((w3.g.trans w4.g).trans u4))
      · rw [if_neg c2] at q ⊢
        exact q _ _ _ ((w5.trans w6).trans w7) r6
  · cases ed
def R.bU2V {ω : Type} (m : R (D × γ)) (k : D → D → γ → R ω) : R ω := m.bnd2 fun d c => (R.of d.two).bnd fun q => k q.1 q.2 c
theorem xb_twoV {i j : Nat} {x y : Str} {p p' p2 : Pos} {kk : Nat} {m : R (D × γ)} {k : D → D → γ → R ω} (g : Go X ec W) (χ : D → D → γ → En) (h : XV X W eE e en m φ) (hk : ∀ d d' c, XB X W eE rest (χ d d' c) (k d d' c) T) (hN : X.N[i]? = some x := by rfl) (hN' : X.N[j]? = some y := by rfl) (hφ : ∀ d d' c, ((φ c).set i (some (.v d))).set j (some (.v d')) = χ d d' c := by intro _ _ _; rfl)
    (hx : Loc X.env.scope x := by first | exact Or.inl rfl | exact Or.inr rfl) (hx' : Loc X.env.scope y := by first | exact Or.inl rfl | exact Or.inr rfl) (hf : X.fn x = true ∨ X.env.scope.names.lookup x = some .local := by first | exact .inl rfl | exact .inr rfl) (hf' : X.fn y = true ∨ X.env.scope.names.lookup y = some .local := by first | exact .inl rfl | exact .inr rfl)
    (hn : (assignEach [.Name x p, .Name y p'] X.env).length = 2 := by rfl) (hst : (assignEach [.Name x p, .Name y p'] X.env).findIdx? (·.1) = none := by rfl)
    (h1 : (assignEach [.Name x p, .Name y p'] X.env).map (·.2) = assign (.Name x p) X.env :: (assignEach [.Name y p'] X.env).map (·.2) := by rfl) (h2 : (assignEach [.Name y p'] X.env).map (·.2) = assign (.Name y p') X.env :: (assignEach [] X.env).map (·.2) := by rfl)
    (s1 : swapsWithSole [.Tuple [.Name x p, .Name y p'] kk p2] e pos.line X.env = pure false := by first | exact swaps_no rfl | exact swapsS_no rfl | rfl) (s2 : swappedStores [.Tuple [.Name x p, .Name y p'] kk p2] e X.env = pure none := by rfl) (s3 : (assignEach [.Tuple [.Name x p, .Name y p'] kk p2] X.env).map (·.2) = [assign (.Tuple [.Name x p, .Name y p'] kk p2) X.env] := by rfl) :
    XB X W eE (.Assign [.Tuple [.Name x p, .Name y p'] kk p2] e pos :: rest) en (R.bU2V m k) T := fun B σ G H S D q => by
  refine pss_to (pss_cons (ps_asg pe_w (pg_tup g.calm (pgs_cons (pg_name g.nd hN hx hf) (pgs_cons (pg_name g.nd hN' hx' hf') pgs_nil h2) h1) hn hst) s1 s2 s3) pss_w) ?_
  refine h B σ G H S _ (wp_mono (wp_bnd.mp q) (fun dc hd v G1 H1 l S1 r => ?_) fun _ z => z)
  obtain ⟨(z : Wk.D × Wk.D), e1, hd⟩ := wp_of (wp_bnd.mp hd)
  refine tg_two B _ σ G1 H1 S1 dc.1 v _ r (by show Option.map _ dc.1.two = _; rw [e1]; rfl) _ fun σ' S' => ?_
  dsimp only at S'
  rw [hφ] at S'
  exact hk _ _ _ B σ' G1 H1 S' D hd
@[simp] theorem s_bU2V {ω : Type} {x y : D} {c : γ} {k : D → D → γ → R ω} : R.bU2V (.ok (.tup [x, y], c)) k = k x y c := by exact id rfl
@[simp] theorem s_toI {i : Int} : D.toI (.int i) = some i := by exact id rfl
end
end Wk
set_option maxHeartbeats 4000000
/-! Wk16: more plain words. -/
namespace Wk
open PySem PySem.Spec PyProof.Rows L2
@[simp] theorem s_flatI {i : Int} : D.flat (.int i) = some (.int i) := by exact id rfl
@[simp] theorem s_flatB {i : Bool} : D.flat (.bl i) = some (.bl i) := by exact id rfl
@[simp] theorem s_back {xs : List D} : D.back (.tup xs) = some (.tup xs.reverse) := by exact id rfl
@[simp] theorem s_backL {xs : List D} : D.backL (.lst xs) = some xs.reverse := by exact id rfl
theorem s_pop {xs : List D} (h : xs ≠ []) : popD xs = some xs.dropLast := if_neg h
theorem nb_ltup (w : List Int) (n : Nat) : (D.tup (w.map .int)).nb (n + 1) = true := by simp [D.nb, nbs_ints]
theorem nb_llst (w : List Int) (n : Nat) : (D.lst (w.map .int)).nb (n + 1) = true := by simp [D.nb, nbs_ints]
theorem int_map_inj {v w : List Int} : v.map D.int = w.map D.int ↔ v = w := by
  constructor
  · intro h
    have := congrArg (List.map fun d => match d with | D.int i => i | _ => 0) h
    simpa [List.map_map, Function.comp_def] using this
  · rintro rfl; rfl
theorem s_eqT {v w : List Int} : D.eq (.tup (v.map .int)) (.tup (w.map .int)) = some (decide (v = w)) := by
  classical
  rw [eq_nb 1 (nb_ltup v 0) (nb_ltup w 0) (by decide) ⟨_, .inl rfl⟩]
  congr 1
  by_cases h : v = w
  · subst h; simp
  · simp [h, int_map_inj]
theorem s_eqL {v w : List Int} : D.eq (.lst (v.map .int)) (.lst (w.map .int)) = some (decide (v = w)) := by
  classical
  rw [eq_nb 1 (nb_llst v 0) (nb_llst w 0) (by decide) ⟨_, .inr rfl⟩]
  congr 1
  by_cases h : v = w
  · subst h; simp
  · simp [h, int_map_inj]
theorem s_neL0 {v : List Int} : D.ne (.lst (v.map .int)) (.lst []) = some (!decide (v = [])) := by
  have := s_eqL (v := v) (w := [])
  simp only [List.map_nil] at this
  simp [D.ne, this]
theorem s_eqT0 {v : List Int} : D.eq (.tup (v.map .int)) (.tup []) = some (decide (v = [])) := by
  have := s_eqT (v := v) (w := [])
  simpa only [List.map_nil] using this
theorem s_neT {v w : List Int} : D.ne (.tup (v.map .int)) (.tup (w.map .int)) = some (!decide (v = w)) := by simp [D.ne, s_eqT]
/-- a plait: so many strands, a word of its letters -/
def plD (n : Int) (w : List Int) : D := .tup [.int n, .tup (w.map .int)]
theorem nb_pl (n : Int) (w : List Int) : (plD n w).nb 2 = true := by simp [plD, D.nb, D.nbs, nbs_ints]
theorem s_eqP {n m : Int} {v w : List Int} : D.eq (plD n v) (plD m w) = some (decide (n = m ∧ v = w)) := by
  classical
  rw [eq_nb 2 (nb_pl n v) (nb_pl m w) (by decide) ⟨_, .inl rfl⟩]
  congr 1
  simp [plD, int_map_inj]
theorem s_neP {n m : Int} {v w : List Int} : D.ne (plD n v) (plD m w) = some (!decide (n = m ∧ v = w)) := by simp only [D.ne, s_eqP, Option.map_some]
theorem atI_last {w : List Int} {x : Int} : atI ((w ++ [x]).map D.int) (-1) = some (.int x) := by
  unfold atI ixN
  simp only [List.map_append, List.map_cons, List.map_nil, List.length_append, List.length_map, List.length_cons, List.length_nil]
  rw [if_neg (by decide), if_pos (by omega)]
  show (List.map D.int w ++ [D.int x])[_]? = _
  rw [show ((-1 : Int) + ((w.length + (0 + 1) : Nat) : Int)).toNat = w.length by omega]
  simp
theorem rgL_n {n : Nat} (h : n < 1000000) : rgL 0 (n : Int) = some ((List.range n).map fun k => D.int (k : Nat)) := by
  unfold rgL
  rw [if_pos (by omega)]
  simp [upD]
@[simp] theorem s_thrN {α β : Type} {a : α} {k : α → R β} : (R.ok (Out.nx a)).thr k = k a := by exact id rfl
@[simp] theorem s_thrR {α β : Type} {b : β} {k : α → R β} : (R.ok (Out.rt b)).thr k = .ok b := by exact id rfl
@[simp] theorem s_thoN {α β γ : Type} {a : α} {k : α → R (Out γ β)} : (R.ok (Out.nx a)).tho k = k a := by exact id rfl
@[simp] theorem s_thoR {α β γ : Type} {b : β} {k : α → R (Out γ β)} : (R.ok (Out.rt b)).tho k = .ok (.rt b) := by exact id rfl
theorem loopU_ok {α β : Type} {step : Unit → D → R (Out Unit β)} {g : α → D} : ∀ (xs : List α), (∀ x ∈ xs, step () (g x) = .ok (.nx ())) → loopR step () (xs.map g) = .ok (.nx ())
  | [], _ => rfl
  | x :: xs, e => by
    simp only [List.map_cons, loopR, e x (by simp), s_thoN]
    exact loopU_ok xs fun y hy => e y (by simp [hy])
/-- all is well in a list of truth values -/
theorem all_of {α : Type} {f : D → R D} {g : α → D} (xs : List α) (hz : xs.length ≤ 16000000) (e : ∀ x ∈ xs, f (g x) = .ok (.bl true)) : lcR f (xs.map g) = .ok (List.replicate xs.length (.bl true)) := by
  rw [lcR_ok (h := fun _ => D.bl true) xs hz e, List.map_const']
theorem s_ixP0 {n : Int} {w : List Int} : D.ix (plD n w) (.int 0) = some (.int n) := by simp [plD]
theorem s_ixP1 {n : Int} {w : List Int} : D.ix (plD n w) (.int 1) = some (.tup (w.map .int)) := by simp [plD]
theorem plD_mk {n : Int} {w : List Int} : D.tup [.int n, .tup (w.map .int)] = plD n w := by exact id rfl
theorem plD_mk0 {n : Int} : D.tup [.int n, .tup []] = plD n [] := by exact id rfl
theorem s_ext {xs ys : List D} (h : xs.length + ys.length ≤ 16000000) : extD xs (.tup ys) = some (xs ++ ys) := by
  show (if _ then _ else _) = _
  rw [if_pos h]
theorem s_extL {xs ys : List D} (h : xs.length + ys.length ≤ 16000000) : extD xs (.lst ys) = some (xs ++ ys) := by
  show (if _ then _ else _) = _
  rw [if_pos h]
theorem is_foldI {α β : Type} {step : β → D → R β} {g : α → D} (I : List α → β → Prop) {xs : List α} {b : β} (h0 : I [] b) (h : ∀ done x rest b, done ++ x :: rest = xs → I done b → Is (step b (g x)) (I (done ++ [x]))) : Is (foldR step b (xs.map g)) (I xs) := by
  have key : ∀ (rest done : List α) (b : β), done ++ rest = xs → I done b → Is (foldR step b (rest.map g)) (I (done ++ rest)) := by
    intro rest
    induction rest with
    | nil => intro done b _ h; exact is_ok (by simpa using h)
    | cons x rest ih =>
      intro done b e hb
      refine is_bnd (h done x rest b e hb) fun b' hb' => ?_
      have := ih (done ++ [x]) b' (by simpa using e) hb'
      simpa using this
  simpa using key xs [] b rfl h0
/-- over 0 .. n - 1 -/
theorem is_foldN {β : Type} {step : β → D → R β} {g : Nat → D} (I : Nat → β → Prop) {n : Nat} {b : β} (h0 : I 0 b) (h : ∀ k b, k < n → I k b → Is (step b (g k)) (I (k + 1))) : Is (foldR step b ((List.range n).map g)) (I n) := by
  have := is_foldI (g := g) (step := step) (xs := List.range n) (b := b) (fun done b => done = List.range done.length ∧ done.length ≤ n ∧ I done.length b) ⟨rfl, by simp, h0⟩ fun done x rest b e ⟨e1, h1, hI⟩ => by
    have hx : (List.range n)[done.length]? = some x := by rw [← e]; simp
    have hl : done.length < n := by
      have := (List.getElem?_eq_some_iff.mp hx).1
      simpa using this
    have hx' : x = done.length := by
      rw [List.getElem?_range hl] at hx
      exact (Option.some.inj hx).symm
    subst hx'
    refine (h done.length b hl hI).mono fun b' hb' => ⟨?_, by simp; omega, by simpa using hb'⟩
    rw [List.length_append, List.length_singleton, List.range_succ, ← e1]
  refine this.mono fun b' hb' => ?_
  simpa using hb'.2.2
end Wk
set_option maxHeartbeats 4000000
/-! Wk17: walks over what changes something while it is made. -/
namespace Wk
open PySem PySem.Spec PyProof.Rows L2
section
variable {X : Cx} {W : WN} {eE : En} {en : En} {ec : Nat → Addr} {pos : Pos} {α β γ δ ω : Type} {φ : γ → En} {a b c e : Expr} {es : List Expr} {T : Bs → ω → Ends → Prop} {rest : List Stmt}
def XIV (X : Cx) (W : WN) (eE : En) (tg e : Expr) (en : En) {γ : Type} (m : R (List D × γ)) (φ : γ → En) : Prop := ∀ B σ G H, St8 X.K B en σ G H → ∀ Q : It → Hp → Prop, Post X W eE B m (fun r => ∀ J G2 H2, Le G G2 → St8 X.K B (φ r.2) σ G2 H2 → Wlk X.K J G2 r.1 → Q J H2) → wI X tg e σ H Q
def rgA : List D → Option (List D)
  | [x] => rg1 x
  | _ => none
theorem xiv_range1 {tg : Expr} {p : Pos} {m : R (List D × γ)} (hm : X.mg "range" = none) (h : XAV X W eE [a] en m φ) (hg : Gl X "range" := by rfl) (hs : starEach [a] X.env = [(false, eval a X.env)] := by rfl) : XIV X W eE tg (.Call (.Name "range" p) [a] [] pos) en (m.bnd2 fun ds c => (R.of (rgA ds)).bnd fun l => .ok (l, c)) φ := fun B σ G H S Q k => by
  refine pi_to (pi_range1 hg hm pa_w hs) (h B σ G H S _ (wp_mono (wp_bnd.mp k) (fun r hd vs G1 H1 l1 S1 r1 => ?_) fun _ z => z))
  obtain ⟨ds, e, hd⟩ := wp_of (wp_bnd.mp hd)
  unfold rgA at e
  split at e
  · rename_i x hx
    rw [hx] at r1
    unfold rg1 at e
    split at e
    · split at e
      · rename_i j hz
        cases e
        cases r1 with
        | cons r1 r2 =>
          cases r1; cases r2
          have := hd (Itr 0 j.toNat) G1 H1 l1 S1 (by have := wlk_R (K := X.K) (G := G1) (i := 0) (j := j); rw [Int.sub_zero] at this; exact this)
          exact ⟨j, rfl, hz.1, hz.2, this⟩
      · cases e
    · cases e
  · cases e
theorem xiv_seq {tg : Expr} {m : R (D × γ)} (h : XV X W eE a en m φ) : XIV X W eE tg a en (m.bnd2 fun d c => (R.of d.seq).bnd fun l => .ok (l, c)) φ := fun B σ G H S Q k => by
  refine pi_to (pi_any pe_w) (h B σ G H S _ (wp_mono (wp_bnd.mp k) (fun r hd v G1 H1 l1 S1 r1 => ?_) fun _ z => z))
  obtain ⟨ds, e, hd⟩ := wp_of (wp_bnd.mp hd)
  unfold D.seq at e
  split at e
  · rename_i hx
    rw [hx] at r1
    cases e
    cases r1 with
    | lst h1 r1 => exact ⟨_, rfl, .inl ⟨⟨_, .inl (S1.es.fr.up.le _ _ rfl h1)⟩, hd _ G1 H1 l1 S1 (wlk_L h1 r1)⟩⟩
  · rename_i hx
    rw [hx] at r1
    cases e
    cases r1 with
    | tup h1 r1 => exact ⟨_, rfl, .inr ⟨⟨_, S1.es.fr.up.le.seqT h1⟩, hd _ G1 H1 l1 S1 (wlk_T h1 r1)⟩⟩
  · rename_i hx
    rw [hx] at r1
    cases e
    cases r1 with
    | tux h1 r1 => exact ⟨_, rfl, .inr ⟨⟨_, S1.es.fr.up.le.seqT (.inl h1.1)⟩, hd _ G1 H1 l1 S1 (wlk_T (.inl h1.1) r1)⟩⟩
  · cases e
theorem for_coreV {tg it : Expr} {body : List Stmt} {g : TG} {f : En → D → Option En} {L : α → En → Prop} {Rr : Hp → β → V → Hp → Hp → Prop} {step : α → D → R (Out α β)} {mi : R (List D × γ)} {a0 : γ → α} {e0 : γ → En} (Gx : Go X ec W) (hg : PG X tg g) (ht : TgD X.K g f) (hi : XIV X W eE tg it en mi φ)
    (h0 : ∀ c, L (a0 c) (e0 c)) (w0 : ∀ c, Wkn (e0 c) (φ c)) (hb : ∀ a e d (P : Out α β → Prop) (E : Nat → Prop), L a e → wp (step a d) P E → ∃ e', f e d = some e' ∧ XB X W eE body e' (step a d) (TO X.K L Rr))
    (hs : ∀ x, foldedSetIterable it X.env x = pure x) : XS X W eE (.For tg it body [] pos) en (mi.bnd2 fun ds c => loopR step (a0 c) ds) (TO X.K L Rr) := fun B σ G H S D q => by
  refine ps_to (ps_for Gx.po Gx.calm pi_w hg pss_w hs) (hi B σ G H S _ (wp_mono (wp_bnd.mp q) (fun dc hd J G2 H2 _ S2 wk => ?_) fun _ z => z))
  obtain ⟨ds, c⟩ := dc
  refine ⟨fun i m σ' H' => m = ds.length - i ∧ ∃ a e G', L a e ∧ St8 X.K B e σ' G' H' ∧ Le G2 G' ∧ i ≤ ds.length ∧ Post X W eE B (loopR step a (ds.drop i)) (fun o => TO X.K L Rr B o D), ⟨_, rfl, a0 c, e0 c, G2, h0 c, S2.weak (w0 c), Le.refl _, Nat.zero_le _, hd⟩, ?_⟩
  rintro i m σ' H' ⟨rfl, a, e, G', hL', S', l', hi', p⟩
  by_cases hlt : i < ds.length
  · rw [List.drop_eq_getElem_cons hlt] at p
    obtain ⟨go, yl⟩ := wk.go i ds[i] (List.getElem?_eq_getElem hlt) G' H' l' S'.es.fr.up
    refine .inr ⟨go, fun σ3 H3 => ∃ a e G3, L a e ∧ St8 X.K B e σ3 G3 H3 ∧ Le G2 G3 ∧ Post X W eE B (loopR step a (ds.drop (i + 1))) (fun o => TO X.K L Rr B o D), fun σ3 H3 ⟨a3, e3, G3, h1, h2, h3, h4⟩ => ⟨ds.length - (i + 1), by omega, rfl, a3, e3, G3, h1, h2, h3, hlt, h4⟩, fun x H4 y => ?_⟩
    obtain ⟨G4, w4, r4⟩ := yl x H4 y
    have p' := wp_bnd.mp p
    obtain ⟨e', ef, xb⟩ := hb a e ds[i] _ _ hL' p'
    refine ht B e σ' G4 H4 (S'.grow w4) ds[i] x e' r4 ef _ fun σ5 S5 => ?_
    refine xb (B.at_ G') σ5 G4 H4 (S5.to S'.es.fr w4) _ (wp_mono p' (fun o ho => ?_) fun _ z σ6 G6 H6 s6 => z σ6 G6 H6 (s6.of S'.es.fr))
    cases o with
    | nx a6 => exact fun e6 σ6 G6 H6 hL6 S6 => ⟨a6, e6, G6, hL6, S6.of S'.es.fr, l'.trans S6.es.fr.le0, ho⟩
    | rt b => exact fun v6 G6 H6 f6 r6 => ho v6 G6 H6 (S'.es.fr.of f6) r6
  · have ei : i = ds.length := by omega
    subst ei
    rw [List.drop_length] at p
    exact .inl ⟨wk.stop G' H' l' S'.es.fr.up, p e σ' G' H' hL' S'⟩
theorem xs_forOV {i : Nat} {x : Str} {p : Pos} {it : Expr} {body : List Stmt} {L : α → En → Prop} {Rr : Hp → β → V → Hp → Hp → Prop} {step : α → D → R (Out α β)} {mi : R (List D × γ)} {a0 : γ → α} {e0 : γ → En} (g : Go X ec W) (hi : XIV X W eE (.Name x p) it en mi φ) (h0 : ∀ c, L (a0 c) (e0 c)) (w0 : ∀ c, Wkn (e0 c) (φ c))
    (hb : ∀ a e d, L a e → XB X W eE body (e.set i (some (.v d))) (step a d) (TO X.K L Rr)) (hN : X.N[i]? = some x := by rfl) (hx : Loc X.env.scope x := by first | exact Or.inl rfl | exact Or.inr rfl)
    (hs : ∀ x, foldedSetIterable it X.env x = pure x := by intro _; rfl) (hf : X.fn x = true ∨ X.env.scope.names.lookup x = some .local := by first | exact .inl rfl | exact .inr rfl) : XS X W eE (.For (.Name x p) it body [] pos) en (mi.bnd2 fun ds c => loopR step (a0 c) ds) (TO X.K L Rr) :=
  for_coreV g (pg_name g.nd hN hx hf) tg_name hi h0 w0 (fun a e d P E hL _ => ⟨_, rfl, hb a e d hL⟩) hs
theorem xs_forV {i : Nat} {x : Str} {p : Pos} {it : Expr} {body : List Stmt} {L : α → En → Prop} {step : α → D → R α} {mi : R (List D × γ)} {a0 : γ → α} {e0 : γ → En} (g : Go X ec W) (hi : XIV X W eE (.Name x p) it en mi φ) (h0 : ∀ c, L (a0 c) (e0 c)) (w0 : ∀ c, Wkn (e0 c) (φ c))
    (hb : ∀ a e d, L a e → XB X W eE body (e.set i (some (.v d))) (step a d) (TN X.K L)) (hN : X.N[i]? = some x := by rfl) (hx : Loc X.env.scope x := by first | exact Or.inl rfl | exact Or.inr rfl)
    (hs : ∀ x, foldedSetIterable it X.env x = pure x := by intro _; rfl) (hf : X.fn x = true ∨ X.env.scope.names.lookup x = some .local := by first | exact .inl rfl | exact .inr rfl) : XS X W eE (.For (.Name x p) it body [] pos) en (mi.bnd2 fun ds c => foldR step (a0 c) ds) (TN X.K L) := fun B σ G H S D q => by
  refine xs_forOV (β := Empty) (Rr := fun _ _ _ _ _ => False) (step := fun a d => (step a d).bnd fun a' => .ok (.nx a')) g hi h0 w0 (fun a e d hL B σ G H S D q => hb a e d hL B σ G H S D (wp_mono (wp_bnd.mp q) (fun _ z => z) fun _ z => z)) hN hx hs hf B σ G H S D ?_
  refine wp_bnd.mpr (wp_mono (wp_bnd.mp q) (fun ds hd => ?_) fun _ z => z)
  dsimp only at hd ⊢
  rw [fold_loop]
  exact wp_bnd.mpr hd
/-! while -/
def whileO (test : α → R Bool) (step : α → R (Out α β)) : Nat → α → R (Out α β)
  | 0, _ => .bad
  | n + 1, a => (test a).bnd fun b => if b = true then (step a).tho fun a' => whileO test step n a' else .ok (.nx a)
def whileN (test : α → R Bool) (step : α → R α) : Nat → α → R α
  | 0, _ => .bad
  | n + 1, a => (test a).bnd fun b => if b = true then (step a).bnd fun a' => whileN test step n a' else .ok a
theorem while_NO {test : α → R Bool} {step : α → R α} : ∀ (n : Nat) (a : α), whileO (β := β) test (fun a => (step a).bnd fun a' => .ok (.nx a')) n a = (whileN test step n a).bnd fun a' => .ok (.nx a')
  | 0, a => rfl
  | n + 1, a => by
    show (test a).bnd _ = ((test a).bnd _).bnd _
    cases test a with
    | ok b =>
      cases b with
      | true =>
        show ((step a).bnd _).tho _ = ((step a).bnd _).bnd _
        cases step a with
        | ok a' => exact while_NO n a'
        | err c => rfl
        | bad => rfl
      | false => rfl
    | err c => rfl
    | bad => rfl
theorem xs_whileO {c : Expr} {body : List Stmt} {L : α → En → Prop} {Rr : Hp → β → V → Hp → Hp → Prop} {test : α → R Bool} {step : α → R (Out α β)} {a0 : α} {e0 : En} {N : Nat} (g : Go X ec W) (h0 : L a0 e0) (w0 : Wkn e0 en) (ht : ∀ a e, L a e → XT X W c e (test a)) (hb : ∀ a e, L a e → XB X W eE body e (step a) (TO X.K L Rr))
    (we : ∀ a e, L a e → Wk0 eE e := by intros; exact wk0_nil) : XS X W eE (.While c body [] pos) en (whileO test step N a0) (TO X.K L Rr) := fun B σ G H S D q => by
  refine ps_to (ps_while g.po pt_w pss_w) ⟨fun m σ' H' => ∃ a e G', L a e ∧ St8 X.K B e σ' G' H' ∧ Post X W eE B (whileO test step m a) (fun o => TO X.K L Rr B o D), ⟨N, a0, e0, G, h0, S.weak w0, q⟩, ?_⟩
  rintro m σ' H' ⟨a, e, G', hL, S', p⟩
  cases m with
  | zero => exact p.elim
  | succ m =>
    refine ht a e hL σ' G' H' S'.sl _ (wp_mono (wp_bnd.mp p) (fun b hb' G1 H1 w1 => ?_) fun c hc G1 H1 w1 => hc σ' G1 H1 ((S'.grow w1).es.weak (we a e hL)))
    cases b with
    | false => exact hb' e σ' G1 H1 hL (S'.grow w1)
    | true =>
      refine ⟨fun σ3 H3 => ∃ a e G3, L a e ∧ St8 X.K B e σ3 G3 H3 ∧ Post X W eE B (whileO test step m a) (fun o => TO X.K L Rr B o D), fun σ3 H3 z => ⟨m, Nat.lt_succ_self m, z⟩, ?_⟩
      have p' := wp_bnd.mp hb'
      refine hb a e hL B σ' G1 H1 (S'.grow w1) _ (wp_mono p' (fun o ho => ?_) fun _ z => z)
      cases o with
      | nx a6 => exact fun e6 σ6 G6 H6 hL6 S6 => ⟨a6, e6, G6, hL6, S6, ho⟩
      | rt b => exact fun v6 G6 H6 f6 r6 => ho v6 G6 H6 f6 r6
theorem xs_while {c : Expr} {body : List Stmt} {L : α → En → Prop} {test : α → R Bool} {step : α → R α} {a0 : α} {e0 : En} {N : Nat} (g : Go X ec W) (h0 : L a0 e0) (w0 : Wkn e0 en) (ht : ∀ a e, L a e → XT X W c e (test a)) (hb : ∀ a e, L a e → XB X W eE body e (step a) (TN X.K L))
    (we : ∀ a e, L a e → Wk0 eE e := by intros; exact wk0_nil) : XS X W eE (.While c body [] pos) en (whileN test step N a0) (TN X.K L) := fun B σ G H S D q => by
  refine xs_whileO (β := Empty) (Rr := fun _ _ _ _ _ => False) (step := fun a => (step a).bnd fun a' => .ok (.nx a')) (N := N) g h0 w0 ht (fun a e hL B σ G H S D q => hb a e hL B σ G H S D (wp_mono (wp_bnd.mp q) (fun _ z => z) fun _ z => z)) we B σ G H S D ?_
  rw [while_NO]
  exact wp_bnd.mpr q
theorem lnI0 {f : List D → R ω} : ∀ c ds P E, wp (apI0 f c ds) P E → ds.length = 0 := fun c ds P E h => by
  cases ds with
  | nil => rfl
  | cons a t => exact h.elim
end
@[simp] theorem s_apI0 {ω : Type} {f : List D → R ω} {s : List D} : apI0 f s [] = f s := by exact id rfl
@[simp] theorem s_rgA {x : D} : rgA [x] = rg1 x := by exact id rfl
end Wk
set_option maxHeartbeats 4000000
/-! Wk18: plain words of slices, of loops that hand back. -/
namespace Wk
open PySem PySem.Spec PyProof.Rows L2
theorem cutD_map {α : Type} {f : α → D} {w : List α} {lo hi : Option Int} : cutD (w.map f) lo hi = ((w.drop (HT.sIx w.length 0 lo)).take (HT.sIx w.length w.length hi - HT.sIx w.length 0 lo)).map f := by
  unfold cutD
  rw [List.length_map, List.map_take, List.map_drop]
theorem cut_from {α : Type} {f : α → D} {w : List α} {k : Nat} (h : k ≤ w.length) : D.cut (.tup (w.map f)) (some (k : Int)) none = some (.tup ((w.drop k).map f)) := by
  show some (D.tup (cutD _ _ _)) = _
  rw [cutD_map, HT.sIx_none, HT.sIx_nat, Nat.min_eq_left h, List.take_of_length_le (by rw [List.length_drop]; exact Nat.le_refl _)]
theorem cut_to {α : Type} {f : α → D} {w : List α} {k : Nat} : D.cut (.tup (w.map f)) none (some (k : Int)) = some (.tup ((w.take k).map f)) := by
  show some (D.tup (cutD _ _ _)) = _
  rw [cutD_map, HT.sIx_none, HT.sIx_nat]
  rw [Nat.min_def, Nat.sub_zero, List.drop_zero]
  split
  · rfl
  · rw [List.take_of_length_le (Nat.le_refl _), List.take_of_length_le (by omega)]
end Wk
set_option maxHeartbeats 4000000
/-! Wk19: enumerate of a list. -/
namespace Wk
open PySem PySem.Spec PyProof.Rows L2
section
variable {X : Cx} {W : WN} {en : En} {pos : Pos} {a : Expr} {ma : R D}
def enumD (xs : List D) : List D := xs.mapIdx fun i x => .tup [.int (i : Nat), x]
theorem wlk_E {K : PySem.W.Frag} {G : Hp} {p : Addr} {vs : List V} {ds : List D} (h : Rd G p (.lst vs)) (r : RpAll K G vs ds) : Wlk K (Ite K p) G (enumD ds) := by
  refine ⟨fun G' H' l k => ⟨vs, .inl (k.le _ _ rfl (l _ _ rfl h)), ?_⟩, fun i d e G' H' l k => ?_⟩
  · rw [r.len]; unfold enumD; simp
  · unfold enumD at e
    rw [List.getElem?_mapIdx] at e
    obtain ⟨d0, e0, rfl⟩ := Option.map_eq_some_iff.mp e
    obtain ⟨u, hu, ru⟩ := r.at_ (i := i) (by show atI ds (i : Int) = some d0; unfold atI ixN; rw [if_pos (by omega), if_pos (by have := (List.getElem?_eq_some_iff.mp e0).1; omega)]; simpa using e0)
    have hv : vs[i]? = some u := by
      unfold atI ixN at hu
      rw [if_pos (by omega)] at hu
      split at hu
      · simpa using hu
      · simp at hu
    refine ⟨⟨vs, u, .inl (k.le _ _ rfl (l _ _ rfl h)), hv⟩, fun x H'' y => ?_⟩
    obtain ⟨T, x', rfl, hT, rfl, hx⟩ := y
    have e2 : some u = some x' := hv.symm.trans (hx vs (.inl (k.le _ _ rfl (l _ _ rfl h))))
    cases e2
    have w := Grow.new (o := .tup [.int (i : Nat), u]) k hT rfl
    exact ⟨_, w, .tup (.inl (.inl upd_same)) (.cons (.int _) (.cons (ru.up (l.trans w.g)) .nil))⟩
def D.enum : D → Option (List D)
  | .lst xs => some (enumD xs)
  | _ => none
theorem xi_enum {p tpos : Pos} {elts : List Expr} {kk : Nat} (hm : X.mg "enumerate" = none) (h : XP X W a en ma) (hg : Gl X "enumerate" := by rfl) (hs : starEach [a] X.env = [(false, eval a X.env)] := by rfl) : XI X W (.Tuple elts kk tpos) (.Call (.Name "enumerate" p) [a] [] pos) en (ma.bnd fun x => R.of x.enum) := fun σ G H S Q k => by
  refine pi_to (pi_enum hg hm pa_w hs) (xa_1 h hs σ G H S _ (wp_bnd.mpr (wp_mono (wp_bnd.mp k) (fun d hd vs G1 H1 w1 r1 => ?_) fun _ z => z)))
  obtain ⟨ds, e, hd⟩ := wp_of hd
  unfold D.enum at e
  split at e
  · cases e
    cases r1 with
    | cons r1 r2 =>
      cases r2
      cases r1 with
      | lst h1 r => exact ⟨_, _, rfl, .inl (w1.up.le _ _ rfl h1), hd _ G1 H1 w1 (wlk_E h1 r)⟩
  · cases e
end
@[simp] theorem s_enum {xs : List D} : D.enum (.lst xs) = some (enumD xs) := by exact id rfl
end Wk
set_option maxHeartbeats 4000000
/-! Wk20: stores of what changes something, chains of comparisons as values. -/
namespace Wk
open PySem PySem.Spec PyProof.Rows L2
section
variable {X : Cx} {W : WN} {eE : En} {en : En} {ec : Nat → Addr} {pos : Pos} {γ δ ω : Type} {φ : γ → En} {a b c e : Expr} {es : List Expr} {T : Bs → ω → Ends → Prop} {rest : List Stmt}
/-- x[a] = e, x one's own, e may change something -/
theorem xb_putV {i : Nat} {bb : Bool} {p : Addr} {px ps' : Pos} {cn : γ → List D} {x : Str} {ma : γ → R D} {me : R (D × γ)} {k : List D → γ → R ω} (χ : List D → γ → En) (h : XV X W eE e en me φ) (ha : ∀ c, XP X W a (φ c) (ma c)) (hk : ∀ ds c, XB X W eE rest (χ ds c) (k ds c) T) (he : ∀ c, (φ c)[i]? = some (some (.o bb p (.l (cn c)))) := by intro _; rfl) (hφ : ∀ ds c, (φ c).set i (some (.o bb p (.l ds))) = χ ds c := by intro _ _; rfl) (we : ∀ c, Wk0 eE (φ c) := by intro _; exact wk0_nil)
    (hN : X.N[i]? = some x := by rfl) (hv : Vis X.env.scope x := by first | exact Or.inl rfl | exact Or.inr (Or.inl rfl) | exact Or.inr (Or.inr rfl)) (hd : (x == ("__debug__" : Str)) = false := by decide) (hcd : (x == ("__classdict__" : Str)) = false := by decide)
    (h0 : ∀ v, assign (.Subscript (.Name x px) a ps') X.env v = (do
      let ov ← holding [v] (eval (.Name x px) X.env)
      let iv ← holding [v, ov] (eval a X.env)
      standAt ps'
      holding [v, ov, iv] (setItem ov iv v)
      release [v, ov, iv] []) := by intro _; rfl)
    (h1 : swapsWithSole [.Subscript (.Name x px) a ps'] e pos.line X.env = pure false := by first | exact swaps_no rfl | exact swapsS_no rfl | rfl) (h2 : swappedStores [.Subscript (.Name x px) a ps'] e X.env = pure none := by rfl) (h3 : (assignEach [.Subscript (.Name x px) a ps'] X.env).map (·.2) = [assign (.Subscript (.Name x px) a ps') X.env] := by rfl) :
    XB X W eE (.Assign [.Subscript (.Name x px) a ps'] e pos :: rest) en (me.bnd2 fun d c => (ma c).bnd fun j => (R.of (setD (cn c) j d)).bnd fun l => k l c) T := fun B σ G H S D q => by
  refine pss_to (pss_cons (ps_asg pe_w (pg_sub (pe_var hN hv hd hcd) pe_w set_list h0) h1 h2 h3) pss_w) ?_
  refine h B σ G H S _ (wp_mono (wp_bnd.mp q) (fun r hd' v G1 H1 l1 S1 r1 => ?_) fun _ z => z)
  obtain ⟨d, c⟩ := r
  obtain ⟨e1, _, _, _, _⟩ := st_at S1 (he c)
  refine ⟨.ref p, e1, ?_⟩
  refine xp_run (ha c) S1 (we c) (wp_mono (wp_bnd.mp hd') (fun j hj u G2 H2 l2 S2 r2 => ?_) fun _ z => z)
  obtain ⟨ds', e2, hd2⟩ := wp_of (wp_bnd.mp hj)
  unfold setD at e2
  split at e2
  · rename_i j'
    obtain ⟨n, e3, rfl⟩ := Option.map_eq_some_iff.mp e2
    cases r2
    obtain ⟨_, _, us, hp3, r3⟩ := st_at S2 (he c)
    refine ⟨p, us, _, n, rfl, rfl, hp3, by rw [r3.len]; exact e3, ?_⟩
    have S3 := S2.mutL (ds' := ((cn c).set n d)) (us := (us.set n v)) (he c) (r3.set (r1.up l2) n)
    rw [hφ] at S3
    exact hk _ c B σ G2 _ S3 D hd2
  · cases e2
/-- a chain as a value -/
theorem xp_chain {op op' : CmpOp} {r r' : R2} {f f' : D → D → Option Bool} {a b c : Expr} {ma mb mc : R D} (ho : OpR X (compareOp op) r) (ho' : OpR X (compareOp op') r') (hf : OpD X.K r (fun x y => (f x y).map .bl)) (hf' : OpD X.K r' (fun x y => (f' x y).map .bl)) (ha : XP X W a en ma) (hb : XP X W b en mb) (hc : XP X W c en mc)
    (hr : PE X (.Compare a [op, op'] [b, c] pos) (tChain r r' (wE X a) (wE X b) (wE X c))) :
    XP X W (.Compare a [op, op'] [b, c] pos) en (ma.bnd fun x => mb.bnd fun y => (R.of (f x y)).bnd fun t => if t = true then mc.bnd fun z => (R.of (f' y z)).bnd fun t' => .ok (.bl t') else .ok (.bl false)) := fun σ G H S Q h => by
  refine pe_to hr (ha σ G H S _ (wp_mono (wp_bnd.mp h) (fun x hx v G1 H1 w1 r1 => ?_) fun _ z => z))
  refine hb σ G1 H1 (S.grow w1) _ (wp_mono (wp_bnd.mp hx) (fun y hy u G2 H2 w2 r2 => ?_) fun _ z G2 H2 w => z G2 H2 (w1.trans w))
  obtain ⟨t, e, hd⟩ := wp_of (wp_bnd.mp hy)
  refine hf G2 H2 v u x y (.bl t) w2.up (r1.up w2.g) r2 (by show (f x y).map _ = _; rw [e]; rfl) _ fun v3 G3 H3 w3 r3 => ?_
  cases r3
  refine ⟨t, rfl, ?_⟩
  cases t with
  | false => exact hd _ G3 H3 ((w1.trans w2).trans w3) (.bl _)
  | true =>
    refine hc σ G3 H3 (((S.grow w1).grow w2).grow w3) _ (wp_mono (wp_bnd.mp hd) (fun z hz u4 G4 H4 w4 r4 => ?_) fun _ z G2 H2 w => z G2 H2 (((w1.trans w2).trans w3).trans w))
    obtain ⟨t', e', hd'⟩ := wp_of (wp_bnd.mp hz)
    exact hf' G4 H4 u u4 y z (.bl t') w4.up (r2.up (w3.g.trans w4.g)) r4 (by show (f' y z).map _ = _; rw [e']; rfl) Q fun v5 G5 H5 w5 r5 => hd' v5 G5 H5 ((((w1.trans w2).trans w3).trans w4).trans w5) r5
end
end Wk
set_option maxHeartbeats 4000000
/-! Wk21: enumerate(zip(a, b), start). A zip whose last pair may still be out, or gone, or none made yet. -/
namespace Wk
open PySem PySem.Spec PyProof.Rows L2
abbrev Zp (h : Heap) (z TI TO : Addr) (f0 : Value) (f : Bool) : Prop :=
  h.get? z = some { cls := .type "zip", dict := none, data := .fields #[f0, .bool f, .bool false, .ref TI, .ref TO], slots := #[] }
def Zok (f0 : Value) : Prop := f0 = .none ∨ ∃ T : Addr, f0 = rawInt T
section
variable {prog : Program} {w : World} {A : Around} {E : Value → Shared → Prop} {s : Shared}
theorem dead_load {a : Addr} {Q : Option Obj → Shared → Prop} (h : Q (s.heap.get? a) s) : wpAny (model prog w) A (loadIfAlive a) Q E s := fun _ _ _ => h
theorem freeOr {z TI TO : Addr} {f0 : Value} {f : Bool} {Q : Bool → Shared → Prop} (hz : Zp s.heap z TI TO f0 f) (h0 : Zok f0) (hT : Q true s)
    (hF : ∀ h', Zp h' z TI TO f0 true → Heap.SameBut z s.heap h' → Q false { s with heap := h' }) : wpAny (model prog w) A (Builtin.SmallTypes.ownedTupleIsFree (.ref z)) Q E s := by
  unfold Builtin.SmallTypes.ownedTupleIsFree
  rcases h0 with rfl | ⟨T, rfl⟩
  · exact wpAny_bind (wpAny_field hz rfl (x := .none) rfl (wpAny_pure hT))
  · refine wpAny_bind (wpAny_field hz rfl (x := rawInt T) rfl ?_)
    show wpAny _ _ (loadIfAlive ((T : Int).toNat) >>= _) _ _ _
    rw [Int.toNat_natCast]
    refine wpAny_bind (dead_load ?_)
    cases s.heap.get? T with
    | none =>
      simp only [Option.isNone_none, if_true]
      exact wpAny_pure hT
    | some oT =>
      simp only [Option.isNone_some, Bool.false_eq_true, if_false]
      refine wpAny_bind (wpAny_field hz rfl (x := .bool f) rfl ?_)
      cases f with
      | true =>
        rw [if_neg (show ¬ ((Value.bool true != Value.bool true) = true) from Bool.false_ne_true)]
        exact wpAny_pure (hF s.heap hz (Heap.SameBut.refl _ _))
      | false =>
        rw [if_pos (show (Value.bool false != Value.bool true) = true from rfl)]
        exact wpAny_bind (wpAny_setField_rec hz (by simp) fun h₁ hz₁ hs₁ => wpAny_pure (hF h₁ hz₁ hs₁))
theorem zipN_item {z TI TO i1 i2 l1 l2 : Addr} {f0 : Value} {f : Bool} {k1 k2 : Nat} {xs ys : Array Value} {x y a b : Value} {Q : Value → Shared → Prop} (D : ZipApart z TI TO i1 i2 l1 l2)
    (hz : Zp s.heap z TI TO f0 f) (h0 : Zok f0) (hTI : IsPair s.heap TI (.ref i1) (.ref i2)) (hTO : IsPair s.heap TO a b)
    (h1 : s.heap.IsListIter i1 l1 k1) (h2 : s.heap.IsListIter i2 l2 k2) (hl1 : s.heap.IsList l1 xs) (hl2 : s.heap.IsList l2 ys) (hx : xs[k1]? = some x) (hy : ys[k2]? = some y)
    (hQ : ∀ h' f1 g, Zp h' z TI TO f1 g → Zok f1 → (∃ a b, IsPair h' TO a b) → h'.IsListIter i1 l1 (k1 + 1) → h'.IsListIter i2 l2 (k2 + 1) → IsPair h' s.heap.objs.size x y → h'.objs.size = s.heap.objs.size + 1 →
      (∀ c o, c ≠ z → c ≠ TO → c ≠ i1 → c ≠ i2 → s.heap.get? c = some o → h'.get? c = some o) → Q (.ref s.heap.objs.size) { s with heap := h' }) :
    wpAny (model prog w) A (Builtin.«zip.__next__» ⟨[.ref z], []⟩) (fun fin s' => ∃ v, fin = .done (.ret v) ∧ Q v s') E s := by
  show wpAny _ _ (field (.ref z) 2 >>= _) _ _ _
  refine wpAny_bind (wpAny_field hz rfl (x := .bool false) rfl ?_)
  show wpAny _ _ (field (.ref z) 3 >>= _) _ _ _
  refine wpAny_bind (wpAny_field hz rfl (x := .ref TI) rfl (wpAny_bind (wpAny_seqItems hTI rfl ?_)))
  show wpAny _ _ (Builtin.SmallTypes.ownedTupleIsFree (.ref z) >>= _) _ _ _
  refine wpAny_bind (freeOr hz h0 ?_ fun h₁ hz₁ hs₁ => ?_)
  · simp only [if_true]
    refine wpAny_bind (wpAny_rule (wpAny_bind (wpAny_field hz rfl (x := .ref TO) rfl (wpAny_bind (wpAny_setField_rec hz (by simp) fun h₁ hz₁ hs₁ => ?_)))))
    replace hz₁ : Zp h₁ z TI TO .ellipsis f := hz₁
    refine wpAny_bind ?_
    simp only [List.zipIdx_cons, List.zipIdx_nil, List.forIn_cons, List.forIn_nil]
    refine wpAny_bind (wpAny_bind (wpAny_onRaise ?_))
    show wpAny _ _ (Builtin.SmallTypes.nextOf (.ref i1) >>= _) _ _ _
    refine wpAny_bind (wpAny_nextOf_list_item (h1.extBut hs₁.extBut D.i1z) (hl1.extBut hs₁.extBut D.l1z) hx fun h₂ h1₂ hs₂ => wpAny_pure ?_)
    have hTO₂ : IsPair h₂ TO a b := hs₂.extBut _ _ D.TOi1 (hs₁.extBut _ _ D.TOz hTO)
    refine wpAny_bind (wpAny_seqItems hTO₂ rfl (wpAny_bind (wpAny_updateSeq_pair hTO₂ fun h₃ hTO₃ hs₃ => ?_)))
    replace hTO₃ : IsPair h₃ TO x b := hTO₃
    refine wpAny_bind (wpAny_letGo (wpAny_pure (wpAny_bind (wpAny_bind (wpAny_onRaise ?_)))))
    show wpAny _ _ (Builtin.SmallTypes.nextOf (.ref i2) >>= _) _ _ _
    refine wpAny_bind (wpAny_nextOf_list_item (((h2.extBut hs₁.extBut D.i2z).extBut hs₂.extBut D.i12.symm).extBut hs₃.extBut D.TOi2.symm)
      (((hl2.extBut hs₁.extBut D.l2z).extBut hs₂.extBut D.l2i1).extBut hs₃.extBut D.l2TO) hy fun h₄ h2₄ hs₄ => wpAny_pure ?_)
    have hTO₄ : IsPair h₄ TO x b := hs₄.extBut _ _ D.TOi2 hTO₃
    refine wpAny_bind (wpAny_seqItems hTO₄ rfl (wpAny_bind (wpAny_updateSeq_pair hTO₄ fun h₅ hTO₅ hs₅ => ?_)))
    replace hTO₅ : IsPair h₅ TO x y := hTO₅
    refine wpAny_bind (wpAny_letGo (wpAny_pure (wpAny_pure (wpAny_bind (wpAny_seqItems hTO₅ rfl (wpAny_bind (wpAny_newTuple ?_)))))))
    have hsz : h₅.objs.size = s.heap.objs.size := by rw [hs₅.1, hs₄.1, hs₃.1, hs₂.1, hs₁.1]
    have hz₅ : Zp h₅ z TI TO .ellipsis f := hs₅.extBut _ _ D.TOz.symm (hs₄.extBut _ _ D.i2z.symm (hs₃.extBut _ _ D.TOz.symm (hs₂.extBut _ _ D.i1z.symm hz₁)))
    have hk₅ : ∀ c o, c ≠ z → c ≠ TO → c ≠ i1 → c ≠ i2 → s.heap.get? c = some o → h₅.get? c = some o := fun c o c1 c2 c3 c4 e =>
      hs₅.extBut _ _ c2 (hs₄.extBut _ _ c4 (hs₃.extBut _ _ c2 (hs₂.extBut _ _ c3 (hs₁.extBut _ _ c1 e))))
    have h1₅ : h₅.IsListIter i1 l1 (k1 + 1) := ((h1₂.extBut hs₃.extBut D.TOi1.symm).extBut hs₄.extBut D.i12).extBut hs₅.extBut D.TOi1.symm
    have h2₅ : h₅.IsListIter i2 l2 (k2 + 1) := h2₄.extBut hs₅.extBut D.TOi2.symm
    have hzlt : z < h₅.objs.size := Heap.lt_size hz₅
    show wpAny _ _ (Builtin.SmallTypes.ownedTupleHandOut (.ref z) (.ref h₅.objs.size) >>= _) _ _ _
    refine wpAny_bind ?_
    unfold Builtin.SmallTypes.ownedTupleHandOut
    have hz₆ : Zp (h₅.push { cls := .type "tuple", data := .seq #[x, y] }) z TI TO .ellipsis f := Heap.get?_push_of_some _ hz₅
    refine wpAny_bind (wpAny_setField_rec hz₆ (by simp) fun h₇ hz₇ hs₇ => ?_)
    replace hz₇ : Zp h₇ z TI TO (rawInt h₅.objs.size) f := hz₇
    refine wpAny_setField_rec hz₇ (by simp) fun h₈ hz₈ hs₈ => ?_
    replace hz₈ : Zp h₈ z TI TO (rawInt h₅.objs.size) false := hz₈
    have up : ∀ c o, c ≠ z → h₅.get? c = some o → h₈.get? c = some o := fun c o c1 e => hs₈.extBut _ _ c1 (hs₇.extBut _ _ c1 (Heap.get?_push_of_some _ e))
    have hT₈ : IsPair h₈ h₅.objs.size x y := hs₈.extBut _ _ (Nat.ne_of_gt hzlt) (hs₇.extBut _ _ (Nat.ne_of_gt hzlt) (Heap.get?_push_size _ rfl))
    have hz8 : h₈.objs.size = h₅.objs.size + 1 := by rw [hs₈.1, hs₇.1, Heap.size_push]
    rw [hsz] at hz₈ hT₈ hz8
    refine wpAny_pure ⟨_, rfl, ?_⟩
    show Q (.ref h₅.objs.size) _
    rw [hsz]
    exact hQ h₈ _ _ hz₈ (.inr ⟨_, rfl⟩) ⟨_, _, up _ _ D.TOz hTO₅⟩ (h1₅.at fun o e => up _ o D.i1z e) (h2₅.at fun o e => up _ o D.i2z e) hT₈ hz8 fun c o c1 c2 c3 c4 e => up c o c1 (hk₅ c o c1 c2 c3 c4 e)
  · simp only [Bool.false_eq_true, if_false]
    refine wpAny_bind ?_
    rw [← Array.forIn_toList]
    simp only [List.forIn_cons, List.forIn_nil]
    refine wpAny_bind (wpAny_bind (wpAny_holding ?_))
    show wpAny _ _ (Builtin.SmallTypes.nextOf (.ref i1) >>= _) _ _ _
    refine wpAny_bind (wpAny_nextOf_list_item (s := { s with heap := h₁ }) (h1.extBut hs₁.extBut D.i1z) (hl1.extBut hs₁.extBut D.l1z) hx fun h₂ h1₂ hs₂ => wpAny_pure (wpAny_pure ?_))
    refine wpAny_bind (wpAny_bind (wpAny_holding ?_))
    show wpAny _ _ (Builtin.SmallTypes.nextOf (.ref i2) >>= _) _ _ _
    refine wpAny_bind (wpAny_nextOf_list_item (s := { s with heap := h₂ }) ((h2.extBut hs₁.extBut D.i2z).extBut hs₂.extBut D.i12.symm) ((hl2.extBut hs₁.extBut D.l2z).extBut hs₂.extBut D.l2i1) hy fun h₃ h2₃ hs₃ => wpAny_pure (wpAny_pure (wpAny_pure ?_)))
    show wpAny _ _ (newTuple [x, y] >>= _) _ _ _
    refine wpAny_bind (wpAny_newTuple ?_)
    have hsz : h₃.objs.size = s.heap.objs.size := by rw [hs₃.1, hs₂.1, hs₁.1]
    have hz₃ : Zp h₃ z TI TO f0 true := hs₃.extBut _ _ D.i2z.symm (hs₂.extBut _ _ D.i1z.symm hz₁)
    have hk : ∀ c o, c ≠ z → c ≠ i1 → c ≠ i2 → s.heap.get? c = some o → h₃.get? c = some o := fun c o c1 c2 c3 e => hs₃.extBut _ _ c3 (hs₂.extBut _ _ c2 (hs₁.extBut _ _ c1 e))
    have h1₃ : h₃.IsListIter i1 l1 (k1 + 1) := h1₂.extBut hs₃.extBut D.i12
    refine wpAny_pure ⟨_, rfl, ?_⟩
    show Q (.ref h₃.objs.size) _
    have hp : IsPair (h₃.push { cls := .type "tuple", data := .seq #[x, y] }) h₃.objs.size x y := Heap.get?_push_size _ rfl
    have hz4 : (h₃.push { cls := .type "tuple", data := .seq #[x, y] }).objs.size = h₃.objs.size + 1 := Heap.size_push ..
    rw [hsz] at hp hz4 ⊢
    exact hQ _ _ _ (Heap.get?_push_of_some _ hz₃) h0 ⟨a, b, Heap.get?_push_of_some _ (hk _ _ D.TOz D.TOi1 D.TOi2 hTO)⟩ (h1₃.at fun o e => Heap.get?_push_of_some _ e) (h2₃.at fun o e => Heap.get?_push_of_some _ e) hp hz4 fun c o c1 _ c2 c3 e => Heap.get?_push_of_some _ (hk c o c1 c2 c3 e)
theorem zipN_end {z TI TO i1 i2 l1 l2 : Addr} {f0 : Value} {f : Bool} {k1 k2 : Nat} {xs ys : Array Value} {a b : Value} {Q : Fin → Shared → Prop} (hh : A.handled = none) (D : ZipApart z TI TO i1 i2 l1 l2)
    (hz : Zp s.heap z TI TO f0 f) (h0 : Zok f0) (hTI : IsPair s.heap TI (.ref i1) (.ref i2)) (hTO : IsPair s.heap TO a b)
    (h1 : s.heap.IsListIter i1 l1 k1) (h2 : s.heap.IsListIter i2 l2 k2) (hl1 : s.heap.IsList l1 xs) (hl2 : s.heap.IsList l2 ys) (hend : xs[k1]? = none ∨ ys[k2]? = none)
    (hE : ∀ h' e, (∀ c o, c ≠ z → c ≠ TO → c ≠ i1 → c ≠ i2 → s.heap.get? c = some o → h'.get? c = some o) → (∃ o, h'.get? e = some o ∧ o.cls = .type "StopIteration") → E (.ref e) { s with heap := h' }) :
    wpAny (model prog w) A (Builtin.«zip.__next__» ⟨[.ref z], []⟩) Q E s := by
  show wpAny _ _ (field (.ref z) 2 >>= _) _ _ _
  refine wpAny_bind (wpAny_field hz rfl (x := .bool false) rfl ?_)
  show wpAny _ _ (field (.ref z) 3 >>= _) _ _ _
  refine wpAny_bind (wpAny_field hz rfl (x := .ref TI) rfl (wpAny_bind (wpAny_seqItems hTI rfl ?_)))
  show wpAny _ _ (Builtin.SmallTypes.ownedTupleIsFree (.ref z) >>= _) _ _ _
  refine wpAny_bind (freeOr hz h0 ?_ fun h₁ hz₁ hs₁ => ?_)
  · simp only [if_true]
    refine wpAny_bind (wpAny_rule (wpAny_bind (wpAny_field hz rfl (x := .ref TO) rfl (wpAny_bind (wpAny_setField_rec hz (by simp) fun h₁ hz₁ hs₁ => ?_)))))
    replace hz₁ : Zp h₁ z TI TO .ellipsis f := hz₁
    refine wpAny_bind ?_
    simp only [List.zipIdx_cons, List.zipIdx_nil, List.forIn_cons, List.forIn_nil]
    refine wpAny_bind (wpAny_bind (wpAny_onRaise ?_))
    show wpAny _ _ (Builtin.SmallTypes.nextOf (.ref i1) >>= _) _ _ _
    cases hx : xs[k1]? with
    | none =>
      refine wpAny_bind (wpAny_nextOf_list_end hh (h1.extBut hs₁.extBut D.i1z) (hl1.extBut hs₁.extBut D.l1z) hx fun h₂ e hs₂ he => ?_)
      obtain ⟨oe, hoe, hce⟩ := he
      have hz₂ : Zp h₂ z TI TO .ellipsis f := hs₂ _ _ D.i1z.symm hz₁
      have hez : e ≠ z := fun x => by subst x; rw [hz₂] at hoe; cases hoe; simp at hce
      refine wpAny_setField_rec hz₂ (by simp) fun h₃ _ hs₃ => hE h₃ e (fun c o c1 _ c3 _ x => hs₃.extBut _ _ c1 (hs₂ _ _ c3 (hs₁.extBut _ _ c1 x))) ⟨oe, hs₃.extBut _ _ hez hoe, hce⟩
    | some x =>
      have hy : ys[k2]? = none := by rcases hend with h | h; rw [hx] at h; cases h; exact h
      refine wpAny_bind (wpAny_nextOf_list_item (h1.extBut hs₁.extBut D.i1z) (hl1.extBut hs₁.extBut D.l1z) hx fun h₂ h1₂ hs₂ => wpAny_pure ?_)
      have hTO₂ : IsPair h₂ TO a b := hs₂.extBut _ _ D.TOi1 (hs₁.extBut _ _ D.TOz hTO)
      refine wpAny_bind (wpAny_seqItems hTO₂ rfl (wpAny_bind (wpAny_updateSeq_pair hTO₂ fun h₃ hTO₃ hs₃ => wpAny_bind (wpAny_letGo (wpAny_pure (wpAny_bind (wpAny_bind (wpAny_onRaise ?_))))))))
      show wpAny _ _ (Builtin.SmallTypes.nextOf (.ref i2) >>= _) _ _ _
      refine wpAny_bind (wpAny_nextOf_list_end hh (((h2.extBut hs₁.extBut D.i2z).extBut hs₂.extBut D.i12.symm).extBut hs₃.extBut D.TOi2.symm)
        (((hl2.extBut hs₁.extBut D.l2z).extBut hs₂.extBut D.l2i1).extBut hs₃.extBut D.l2TO) hy fun h₄ e hs₄ he => ?_)
      obtain ⟨oe, hoe, hce⟩ := he
      have hz₄ : Zp h₄ z TI TO .ellipsis f := hs₄ _ _ D.i2z.symm (hs₃.extBut _ _ D.TOz.symm (hs₂.extBut _ _ D.i1z.symm hz₁))
      have hez : e ≠ z := fun x => by subst x; rw [hz₄] at hoe; cases hoe; simp at hce
      refine wpAny_setField_rec hz₄ (by simp) fun h₅ _ hs₅ => hE h₅ e (fun c o c1 c2 c3 c4 x => hs₅.extBut _ _ c1 (hs₄ _ _ c4 (hs₃.extBut _ _ c2 (hs₂.extBut _ _ c3 (hs₁.extBut _ _ c1 x))))) ⟨oe, hs₅.extBut _ _ hez hoe, hce⟩
  · simp only [Bool.false_eq_true, if_false]
    refine wpAny_bind ?_
    rw [← Array.forIn_toList]
    simp only [List.forIn_cons, List.forIn_nil]
    refine wpAny_bind (wpAny_bind (wpAny_holding ?_))
    show wpAny _ _ (Builtin.SmallTypes.nextOf (.ref i1) >>= _) _ _ _
    cases hx : xs[k1]? with
    | none =>
      refine wpAny_bind (wpAny_nextOf_list_end (s := { s with heap := h₁ }) hh (h1.extBut hs₁.extBut D.i1z) (hl1.extBut hs₁.extBut D.l1z) hx fun h₂ e hs₂ he => ?_)
      exact hE h₂ e (fun c o c1 _ c2 _ x => hs₂ _ _ c2 (hs₁.extBut _ _ c1 x)) he
    | some x =>
      have hy : ys[k2]? = none := by rcases hend with h | h; rw [hx] at h; cases h; exact h
      refine wpAny_bind (wpAny_nextOf_list_item (s := { s with heap := h₁ }) (h1.extBut hs₁.extBut D.i1z) (hl1.extBut hs₁.extBut D.l1z) hx fun h₂ h1₂ hs₂ => wpAny_pure (wpAny_pure ?_))
      refine wpAny_bind (wpAny_bind (wpAny_holding ?_))
      show wpAny _ _ (Builtin.SmallTypes.nextOf (.ref i2) >>= _) _ _ _
      refine wpAny_bind (wpAny_nextOf_list_end (s := { s with heap := h₂ }) hh ((h2.extBut hs₁.extBut D.i2z).extBut hs₂.extBut D.i12.symm) ((hl2.extBut hs₁.extBut D.l2z).extBut hs₂.extBut D.l2i1) hy fun h₃ e hs₃ he => ?_)
      exact hE h₃ e (fun c o c1 _ c2 c3 x => hs₃ _ _ c3 (hs₂.extBut _ _ c2 (hs₁.extBut _ _ c1 x))) he
theorem nextZ_item {z TI TO i1 i2 l1 l2 : Addr} {f0 : Value} {f : Bool} {k1 k2 : Nat} {xs ys : Array Value} {x y a b : Value} {Q : Value → Shared → Prop} (D : ZipApart z TI TO i1 i2 l1 l2)
    (hz : Zp s.heap z TI TO f0 f) (h0 : Zok f0) (hTI : IsPair s.heap TI (.ref i1) (.ref i2)) (hTO : IsPair s.heap TO a b)
    (h1 : s.heap.IsListIter i1 l1 k1) (h2 : s.heap.IsListIter i2 l2 k2) (hl1 : s.heap.IsList l1 xs) (hl2 : s.heap.IsList l2 ys) (hx : xs[k1]? = some x) (hy : ys[k2]? = some y)
    (hQ : ∀ h' f1 g, Zp h' z TI TO f1 g → Zok f1 → (∃ a b, IsPair h' TO a b) → h'.IsListIter i1 l1 (k1 + 1) → h'.IsListIter i2 l2 (k2 + 1) → IsPair h' s.heap.objs.size x y → h'.objs.size = s.heap.objs.size + 1 →
      (∀ c o, c ≠ z → c ≠ TO → c ≠ i1 → c ≠ i2 → s.heap.get? c = some o → h'.get? c = some o) → Q (.ref s.heap.objs.size) { s with heap := h' }) :
    wpAny (model prog w) A (Builtin.SmallTypes.nextOf (.ref z)) Q E s := by
  have hTy : s.TypeIs (.ref z) "zip" := ⟨_, hz, rfl⟩
  unfold Builtin.SmallTypes.nextOf
  exact wpAny_bind (wpAny_callSpecial?_slot (name := Str.ofString "__next__") hTy F.slot_zip_next (wpAny_call_entry F.slot_zip_next hTy F.entry_zip_next
    (zipN_item D hz h0 hTI hTO h1 h2 hl1 hl2 hx hy fun h' f1 g a1 a2 a3 a4 a5 a6 a7 a8 => wpAny_pure (hQ h' f1 g a1 a2 a3 a4 a5 a6 a7 a8)) (F.args_zip_next_1 _)))
theorem nextZ_end {z TI TO i1 i2 l1 l2 : Addr} {f0 : Value} {f : Bool} {k1 k2 : Nat} {xs ys : Array Value} {a b : Value} {Q : Value → Shared → Prop} (hh : A.handled = none) (D : ZipApart z TI TO i1 i2 l1 l2)
    (hz : Zp s.heap z TI TO f0 f) (h0 : Zok f0) (hTI : IsPair s.heap TI (.ref i1) (.ref i2)) (hTO : IsPair s.heap TO a b)
    (h1 : s.heap.IsListIter i1 l1 k1) (h2 : s.heap.IsListIter i2 l2 k2) (hl1 : s.heap.IsList l1 xs) (hl2 : s.heap.IsList l2 ys) (hend : xs[k1]? = none ∨ ys[k2]? = none)
    (hE : ∀ h' e, (∀ c o, c ≠ z → c ≠ TO → c ≠ i1 → c ≠ i2 → s.heap.get? c = some o → h'.get? c = some o) → (∃ o, h'.get? e = some o ∧ o.cls = .type "StopIteration") → E (.ref e) { s with heap := h' }) :
    wpAny (model prog w) A (Builtin.SmallTypes.nextOf (.ref z)) Q E s := by
  have hTy : s.TypeIs (.ref z) "zip" := ⟨_, hz, rfl⟩
  unfold Builtin.SmallTypes.nextOf
  exact wpAny_bind (wpAny_callSpecial?_slot (name := Str.ofString "__next__") hTy F.slot_zip_next (wpAny_call_entry F.slot_zip_next hTy F.entry_zip_next
    (zipN_end hh D hz h0 hTI hTO h1 h2 hl1 hl2 hend hE) (F.args_zip_next_1 _)))
end
end Wk
set_option maxHeartbeats 4000000
/-! Wk22: enumerate's next over a zip. -/
namespace Wk
open PySem PySem.Spec PyProof.Rows L2
section
variable {prog : Program} {w : World} {A : Around} {E : Value → Shared → Prop} {s : Shared}
theorem enumZ_item {e z TI TO i1 i2 l1 l2 : Addr} {c : Int} {old f0 : Value} {f : Bool} {k1 k2 : Nat} {xs ys : Array Value} {x y a b : Value} {Q : Value → Shared → Prop} (D : ZipApart z TI TO i1 i2 l1 l2)
    (he : IsEnum s.heap e z c old) (n0 : e ≠ z) (n1 : e ≠ TI) (n2 : e ≠ TO) (n3 : e ≠ i1) (n4 : e ≠ i2)
    (hz : Zp s.heap z TI TO f0 f) (h0 : Zok f0) (hTI : IsPair s.heap TI (.ref i1) (.ref i2)) (hTO : IsPair s.heap TO a b)
    (h1 : s.heap.IsListIter i1 l1 k1) (h2 : s.heap.IsListIter i2 l2 k2) (hl1 : s.heap.IsList l1 xs) (hl2 : s.heap.IsList l2 ys) (hx : xs[k1]? = some x) (hy : ys[k2]? = some y)
    (hQ : ∀ h' tk f1 g, IsEnumOut h' e z (c + 1) (.ref s.heap.objs.size) (s.heap.objs.size + 1) → Zp h' z TI TO f1 g → Zok f1 → (∃ a b, IsPair h' TO a b) → h'.IsListIter i1 l1 (k1 + 1) → h'.IsListIter i2 l2 (k2 + 1) →
      IsPair h' s.heap.objs.size x y → h'.get? (s.heap.objs.size + 1) = some { cls := .type "tuple", data := .seq #[.int c tk, .ref s.heap.objs.size] } → h'.objs.size = s.heap.objs.size + 2 →
      (∀ b o, b ≠ e → b ≠ z → b ≠ TO → b ≠ i1 → b ≠ i2 → s.heap.get? b = some o → h'.get? b = some o) → Q (.ref (s.heap.objs.size + 1)) { s with heap := h', toks := tk + 1 }) :
    wpAny (model prog w) A (Builtin.«enumerate.__next__» ⟨[.ref e], []⟩) (fun fin s' => ∃ v, fin = .done (.ret v) ∧ Q v s') E s := by
  obtain ⟨hp, g, d, tk, os⟩ := s
  show wpAny _ _ (field (.ref e) 2 >>= _) _ _ _
  refine wpAny_bind (wpAny_field he rfl (x := .ref z) rfl ?_)
  refine wpAny_bind (nextZ_item D hz h0 hTI hTO h1 h2 hl1 hl2 hx hy fun h₁ f1 gg a1 a2 a3 a4 a5 a6 a7 a8 => ?_)
  have hel : e < hp.objs.size := Heap.lt_size he
  have he₁ : IsEnum h₁ e z c old := a8 e _ n0 n2 n3 n4 he
  show wpAny _ _ (field (.ref e) 3 >>= _) _ _ ⟨h₁, g, d, tk, os⟩
  refine wpAny_bind (wpAny_field he₁ rfl (x := rawInt c) rfl ?_)
  show wpAny _ _ (field (.ref e) 4 >>= _) _ _ ⟨h₁, g, d, tk, os⟩
  refine wpAny_bind (wpAny_field he₁ rfl (x := .none) rfl ?_)
  show wpAny _ _ (mkInt c >>= _) _ _ ⟨h₁, g, d, tk, os⟩
  refine wpAny_bind (wpAny_mkInt ?_)
  show wpAny _ _ (setField (.ref e) 3 (rawInt (c + 1)) >>= _) _ _ ⟨h₁, g, d, tk + 1, os⟩
  refine wpAny_bind (wpAny_setField_rec he₁ (by simp) fun h₂ he₂ hs₂ => ?_)
  replace hs₂ : Heap.SameBut e h₁ h₂ := hs₂
  replace he₂ : IsEnum h₂ e z (c + 1) old := he₂
  show wpAny _ _ (setField (.ref e) 4 .none >>= _) _ _ ⟨h₂, g, d, tk + 1, os⟩
  refine wpAny_bind (wpAny_setField_rec he₂ (by simp) fun h₃ he₃ hs₃ => ?_)
  replace hs₃ : Heap.SameBut e h₂ h₃ := hs₃
  replace he₃ : IsEnum h₃ e z (c + 1) old := he₃
  show wpAny _ _ (newTuple [.int c tk, .ref hp.objs.size] >>= _) _ _ ⟨h₃, g, d, tk + 1, os⟩
  refine wpAny_bind (wpAny_newTuple ?_)
  have he₄ : IsEnum (h₃.push { cls := .type "tuple", data := .seq #[.int c tk, .ref hp.objs.size] }) e z (c + 1) old := Heap.get?_push_of_some _ he₃
  generalize hh₄ : h₃.push { cls := .type "tuple", data := .seq #[.int c tk, .ref hp.objs.size] } = h₄ at he₄
  have hsz : h₃.objs.size = hp.objs.size + 1 := by rw [hs₃.1, hs₂.1]; exact a7
  have ht₄ : h₄.get? (hp.objs.size + 1) = some { cls := .type "tuple", data := .seq #[.int c tk, .ref hp.objs.size] } := by rw [← hh₄, ← hsz]; exact Heap.get?_push_size _ rfl
  have hz₄ : h₄.objs.size = hp.objs.size + 2 := by rw [← hh₄, Heap.size_push, hsz]
  have up₄ : ∀ b o, b ≠ e → h₁.get? b = some o → h₄.get? b = some o := fun b o hbe hb => by
    rw [← hh₄]; exact Heap.get?_push_of_some _ (hs₃.extBut b o hbe (hs₂.extBut b o hbe hb))
  show wpAny _ _ (Builtin.SmallTypes.ownedTupleIsFree (.ref e) >>= _) _ _ ⟨h₄, g, d, tk + 1, os⟩
  rw [hsz]
  refine wpAny_bind ?_
  unfold Builtin.SmallTypes.ownedTupleIsFree
  refine wpAny_bind (wpAny_field he₄ rfl (x := .none) rfl (wpAny_pure ?_))
  simp only [if_true]
  refine wpAny_bind (wpAny_rule (wpAny_bind (wpAny_field he₄ rfl (x := old) rfl (wpAny_bind (wpAny_setField_rec he₄ (by simp) fun h₅ he₅ hs₅ => ?_)))))
  replace hs₅ : Heap.SameBut e h₄ h₅ := hs₅
  replace he₅ : IsEnum h₅ e z (c + 1) (.ref hp.objs.size) := he₅
  show wpAny _ _ (Builtin.SmallTypes.ownedTupleHandOut (.ref e) (.ref (hp.objs.size + 1)) >>= _) _ _ ⟨h₅, g, d, tk + 1, os⟩
  refine wpAny_bind ?_
  unfold Builtin.SmallTypes.ownedTupleHandOut
  refine wpAny_bind (wpAny_setField_rec he₅ (by simp) fun h₆ he₆ hs₆ => ?_)
  replace hs₆ : Heap.SameBut e h₅ h₆ := hs₆
  replace he₆ : IsEnumOut h₆ e z (c + 1) (.ref hp.objs.size) (hp.objs.size + 1) := he₆
  refine wpAny_setField_rec he₆ (by simp) fun h₇ he₇ hs₇ => ?_
  replace hs₇ : Heap.SameBut e h₆ h₇ := hs₇
  replace he₇ : IsEnumOut h₇ e z (c + 1) (.ref hp.objs.size) (hp.objs.size + 1) := he₇
  have up : ∀ b o, b ≠ e → h₁.get? b = some o → h₇.get? b = some o := fun b o hbe hb => hs₇.extBut b o hbe (hs₆.extBut b o hbe (hs₅.extBut b o hbe (up₄ b o hbe hb)))
  have tup₇ := hs₇.extBut _ _ (Nat.ne_of_gt (Nat.lt_succ_of_lt hel)) (hs₆.extBut _ _ (Nat.ne_of_gt (Nat.lt_succ_of_lt hel)) (hs₅.extBut _ _ (Nat.ne_of_gt (Nat.lt_succ_of_lt hel)) ht₄))
  obtain ⟨a', b', a3⟩ := a3
  exact wpAny_bind (wpAny_letGo (wpAny_pure ⟨_, rfl, hQ h₇ tk f1 gg he₇ (up _ _ (Ne.symm n0) a1) a2 ⟨_, _, up _ _ (Ne.symm n2) a3⟩ (a4.at fun o q => up _ o (Ne.symm n3) q) (a5.at fun o q => up _ o (Ne.symm n4) q)
    (up _ _ (Nat.ne_of_gt hel) a6) tup₇ (by rw [hs₇.1, hs₆.1, hs₅.1, hz₄]) fun b o c0 c1 c2 c3 c4 q => up b o c0 (a8 b o c1 c2 c3 c4 q)⟩))
theorem pyEnumZ_item {e z TI TO i1 i2 l1 l2 : Addr} {c : Int} {old f0 : Value} {f : Bool} {k1 k2 : Nat} {xs ys : Array Value} {x y a b : Value} {Q : Option Value → Shared → Prop} (D : ZipApart z TI TO i1 i2 l1 l2)
    (he : IsEnum s.heap e z c old) (n0 : e ≠ z) (n1 : e ≠ TI) (n2 : e ≠ TO) (n3 : e ≠ i1) (n4 : e ≠ i2)
    (hz : Zp s.heap z TI TO f0 f) (h0 : Zok f0) (hTI : IsPair s.heap TI (.ref i1) (.ref i2)) (hTO : IsPair s.heap TO a b)
    (h1 : s.heap.IsListIter i1 l1 k1) (h2 : s.heap.IsListIter i2 l2 k2) (hl1 : s.heap.IsList l1 xs) (hl2 : s.heap.IsList l2 ys) (hx : xs[k1]? = some x) (hy : ys[k2]? = some y)
    (hQ : ∀ h' tk f1 g, IsEnumOut h' e z (c + 1) (.ref s.heap.objs.size) (s.heap.objs.size + 1) → Zp h' z TI TO f1 g → Zok f1 → (∃ a b, IsPair h' TO a b) → h'.IsListIter i1 l1 (k1 + 1) → h'.IsListIter i2 l2 (k2 + 1) →
      IsPair h' s.heap.objs.size x y → h'.get? (s.heap.objs.size + 1) = some { cls := .type "tuple", data := .seq #[.int c tk, .ref s.heap.objs.size] } → h'.objs.size = s.heap.objs.size + 2 →
      (∀ b o, b ≠ e → b ≠ z → b ≠ TO → b ≠ i1 → b ≠ i2 → s.heap.get? b = some o → h'.get? b = some o) → Q (some (.ref (s.heap.objs.size + 1))) { s with heap := h', toks := tk + 1 }) :
    wpAny (model prog w) A (pyNext (.ref e)) Q E s := by
  have hTy : s.TypeIs (.ref e) "enumerate" := ⟨_, he, rfl⟩
  unfold pyNext
  exact wpAny_bind (wpAny_attempt (wpAny_callSpecial?_slot (name := Str.ofString "__next__") hTy F.slot_enumerate_next (wpAny_call_entry F.slot_enumerate_next hTy F.entry_enumerate_next
    (enumZ_item D he n0 n1 n2 n3 n4 hz h0 hTI hTO h1 h2 hl1 hl2 hx hy fun h' tk f1 g a1 a2 a3 a4 a5 a6 a7 a8 a9 b1 => wpAny_pure (hQ h' tk f1 g a1 a2 a3 a4 a5 a6 a7 a8 a9 b1)) (F.args_enumerate_next_1 _))))
theorem pyEnumZ_end {e z TI TO i1 i2 l1 l2 : Addr} {c : Int} {old f0 : Value} {f : Bool} {k1 k2 : Nat} {xs ys : Array Value} {a b : Value} {Q : Option Value → Shared → Prop} (hh : A.handled = none) (D : ZipApart z TI TO i1 i2 l1 l2)
    (he : IsEnum s.heap e z c old) (hz : Zp s.heap z TI TO f0 f) (h0 : Zok f0) (hTI : IsPair s.heap TI (.ref i1) (.ref i2)) (hTO : IsPair s.heap TO a b)
    (h1 : s.heap.IsListIter i1 l1 k1) (h2 : s.heap.IsListIter i2 l2 k2) (hl1 : s.heap.IsList l1 xs) (hl2 : s.heap.IsList l2 ys) (hend : xs[k1]? = none ∨ ys[k2]? = none)
    (hQ : ∀ h', (∀ c o, c ≠ z → c ≠ TO → c ≠ i1 → c ≠ i2 → s.heap.get? c = some o → h'.get? c = some o) → Q none { s with heap := h' }) : wpAny (model prog w) A (pyNext (.ref e)) Q E s := by
  have hTy : s.TypeIs (.ref e) "enumerate" := ⟨_, he, rfl⟩
  unfold pyNext
  refine wpAny_bind (wpAny_attempt (wpAny_callSpecial?_slot (name := Str.ofString "__next__") hTy F.slot_enumerate_next (wpAny_call_entry F.slot_enumerate_next hTy F.entry_enumerate_next ?_ (F.args_enumerate_next_1 _))))
  show wpAny _ _ (field (.ref e) 2 >>= _) _ _ _
  refine wpAny_bind (wpAny_field he rfl (x := .ref z) rfl (wpAny_bind (nextZ_end hh D hz h0 hTI hTO h1 h2 hl1 hl2 hend fun h' x hk hx' => ?_)))
  obtain ⟨o, ho, hc⟩ := hx'
  exact wpAny_bind (wpAny_isInstance (T := "StopIteration") (b := true) ⟨o, ho, hc⟩ isSubtype_stop (wpAny_pure (hQ _ hk)))
end
end Wk
set_option maxHeartbeats 4000000
/-! Wk23: try, and defs that ask of which class an error is. -/
namespace Wk
open PySem PySem.Spec PyProof.Rows L2

/-- a refusal is caught, by its number -/
def R.hand {α : Type} (ct : List Bool) (m : R α) (h : Nat → R α) : R α := match m with
  | .ok a => .ok a
  | .bad => .bad
  | .err c => match ct[c]? with
    | some true => h c
    | some false => .err c
    | none => .bad
@[simp] theorem hand_ok {α : Type} {ct : List Bool} {a : α} {h : Nat → R α} : (R.ok a).hand ct h = .ok a := by exact id rfl
theorem hand_err {α : Type} {ct : List Bool} {c : Nat} {h : Nat → R α} (e : ct[c]? = some true) : (R.err c : R α).hand ct h = h c := by unfold R.hand; simp only [e]
theorem hand_pass {α : Type} {ct : List Bool} {c : Nat} {h : Nat → R α} (e : ct[c]? = some false) : (R.err c : R α).hand ct h = .err c := by unfold R.hand; simp only [e]

/-! ### a def that is handed the error that is caught -/
section
variable (P : Program) (w : World) (K : PySem.W.Frag) (mg : Str → Option Value) (base : Heap)
structure FnX (k : Nat) (f : Addr) (fd : FuncData) (ps : List Str) (sp : Addr × Obj → Sp) : Prop where
  len : ∀ p vs H Q E, sp p vs H Q E → vs.length = ps.length
  run : ∀ (A : Around) (out : List Env) (s : Shared) (H : Hp) (as : Args) (us : List Value) (vs : List V) (Q : VK) (E : XK) (p : Addr × Obj), L2H.RoomH k A → L2H.PinOk out H s p → Env0 P w K mg base A out s H →
    BindsTo s fd as (ps.zip us) → Vals vs us → sp p vs H Q E → codeAny (model P w) A (.call (.ref f) as) (CR (L2.CX P w) out P w H s Q E) s
end
section
variable {P : Program} {w : World} {K : PySem.W.Frag} {mg : Str → Option Value} {base : Heap}
theorem fnx_of {x qual : Str} {st : Stmt} {f : Addr} {fd : FuncData} {N ps : List Str} {k : Nat} {sp : Addr × Obj → Sp} (F : Fun K x qual st f fd) (S : FnScope N ps (defScope st)) (len : ∀ p vs H Q E, sp p vs H Q E → vs.length = ps.length)
    (body : ∀ (cdv : Value) (A : Around) (out : List Env) (s : Shared) (H : Hp) (vs : List V) (Q : VK) (E : XK) (p : Addr × Obj), sp p vs H Q E →
      wB (L2H.cxH (L2.CX P w) P w K mg base N qual (defScope st) f cdv A out s H E p) (defBody st) { nx := fun _ H' => Q .non H', rt := Q } (L2.start N vs) H) : FnX P w K mg base (k + 1) f fd ps sp := by
  obtain ⟨oc, od, kV, doc, pm, an, cdv, ct, osl, rfl, lk, hcd⟩ := F.ex
  refine ⟨len, ?_⟩
  intro A out s H as us vs Q E p room pin en0 bi rel want
  have kin := en0.mod.kin.keeps fun b o e => (en0.bs b o e).1
  have nol := en0.mod.nolimit.keeps fun b o e => (en0.bs b o e).1
  have kinds : ∀ y ∈ ps.zip us, (defScope st).names.lookup y.1 = some .local ∨ ((defScope st).names.lookup y.1 = some .cell ∧ ((cellsFrom (s.heap.objs.size + 1) (defScope st).names []).lookup y.1).isSome = true) := by
    rintro ⟨n, v⟩ hy
    cases S.par n (List.of_mem_zip hy).1 with
    | inl q => exact .inl q
    | inr q => exact .inr ⟨q, PySem.W.cellsFrom_some _ _ _ (.inl q)⟩
  refine codeAny_call_function room.depth (kin _ _ lk) rfl S.co S.gen rfl (PySem.W.codeRec_of kin hcd) (bi _ _ _ _ (wpAny_newFunctionEnv_cells S.kind kinds ?_))
  rintro env rfl s1 x
  refine ⟨nol.keeps x.toInCall.keep, codeAny_func ?_⟩
  have I := L2H.inv_startH (CX := L2.CX P w) (E := E) S pin en0 (len _ _ _ _ _ want) rel x
  refine wpAny_mono (body cdv A out s H vs Q E p want [] s1 I) (fun fl s' hs => ?_) fun e s' hs => hs
  cases fl with
  | ret u => obtain ⟨v, σ', H', J, rv, q⟩ := hs; exact ⟨v, H', J.os, J.bare, J.base, J.hok, rv, q⟩
  | next => obtain ⟨σ', H', J, q⟩ := hs; exact ⟨V.non, H', J.os, J.bare, J.base, J.hok, rfl, q⟩
  | brk => obtain ⟨_, _, _, q⟩ := hs; exact q.elim
  | cont => obtain ⟨_, _, _, q⟩ := hs; exact q.elim
end
section
variable {X : Cx} {k : Nat} {f : Addr} {fd : FuncData} {ps : List Str} {sp : Addr × Obj → Sp} {x : Str} {q pos : Pos} {e : Expr} {es : List Expr}
/-- its call, where the error is at hand -/
theorem pe_callX {p : Addr × Obj} (F : FnX X.prog X.w X.K X.mg X.base k f fd ps sp) (hr : L2H.RoomH k X.A) (hp : p ∈ X.pn) (hg : Gl X x) (hm : X.mg x = some (.ref f)) (hk : PySem.W.keepIn X.K (.ref f) = true) (hb : Binds X.K fd ps [])
    {t : TA} (ha : PA X (e :: es) t) (hdb : (x == ("__debug__" : Str)) = false := by decide) (he : starEach (e :: es) X.env = (false, eval e X.env) :: starEach es X.env := by rfl) (hpl : (backTo pos (starEach es X.env)).any (·.1) = false := by rfl) :
    PE X (.Call (.Name x q) (e :: es) [] pos) (fun σ H Q => t σ H fun vs H1 => sp p vs H1 Q fun _ _ _ => False) := by
  constructor
  intro pins s σ H Q I h
  refine wpAny_Call_Name_kw (ld_glob I hg hm ?_ hdb)
  refine PySem.W.callWith_K (h₀ := X.base) I.ok.mod.kin hk (thn (ha.run pos pins s σ H _ I h) fun us s1 ⟨vs, H1, J, r, w⟩ => ⟨J.kIn, ?_⟩) he hpl
  have hl : us.length = ps.length := by rw [← r.length]; exact F.len _ _ _ _ _ w
  have b := hb s1 us J.kIn (by rw [List.append_nil]; exact hl)
  rw [List.append_nil] at b
  obtain ⟨p1, p2, p3, p4, p5⟩ := J.pin p (List.mem_append_left _ hp)
  have pin : L2H.PinOk X.stack H1 s1 p := ⟨p1, p2, fun hm => (List.mem_cons.mp (J.stkSub p.1 hm)).elim p3 p4, p5⟩
  refine wpAny_call (codeAny_mono (F.run X.A X.stack s1 H1 ⟨us, []⟩ us vs Q _ p hr pin J.env0 b r w) fun res s' hq => ?_)
  cases res with
  | error e => obtain ⟨_, _, _, _, _, _, _, _, _, _, _, _, z⟩ := hq; exact z.elim
  | ok fl =>
    cases fl with
    | ret u => exact J.after hq
    | next => exact False.elim hq
    | brk => exact False.elim hq
    | cont => exact False.elim hq
end
/-! ### isinstance(e, C), e the error at hand -/
section
variable {X : Cx}
def IsA (X : Cx) (a : Addr) (es : List Expr) (bs : List Bool) : Prop := ∀ (σ : L2.St) (H : Hp) (Q : List V → Hp → Prop), σ[0]? = some (some (.ref a)) → Q (bs.map V.bl) H → wA X es σ H Q
theorem isa_nil {a : Addr} : IsA X a [] [] := fun σ H Q _ h => pa_to pa_nil h
theorem call_isX {p : Addr × Obj} {C : Addr} (hp : p ∈ X.pn) (h : ExcC X.K C) (hz : Zc (.ref C) none p.2) (hf : ∃ vs, p.2.data = .fields vs) : CallR X (.builtin "isinstance") (rIsE X.K C p.1) := by
  rintro pins s σ H xs us Q I r ⟨c, cv, b, rfl, hcv, e, q⟩
  cases r with
  | cons r1 r2 =>
    cases r2 with
    | cons r3 r4 =>
      cases r4
      cases r1
      have e3 := hcv _ r3
      subst e3
      have hget := (I.pin p (List.mem_append_left _ hp)).1
      have inst : PySem.W.InstAt s.heap p.1 p.2 C none := by
        obtain ⟨vs, hv⟩ := hf
        obtain ⟨a, o1, o2, o3, o4⟩ := p
        obtain ⟨z1, z2⟩ := hz
        dsimp only at z1 z2 hv
        subst z1 z2 hv
        exact ⟨hget, rfl, rfl, trivial⟩
      exact PySem.W.kia_one (PySem.W.handS_kitx_exc h.hg h.hk h.hs h.hd h.ha h.hn h.ht h.hm) I.kIn inst e (fun z => nomatch z) fun tk => ⟨.bl b, H, I.kept (t' := tk) fun _ _ z => z, rfl, q⟩
theorem isa_own {p : Addr × Obj} {C D : Addr} {x n : Str} {p1 p2 p3 : Pos} {pos : Pos} {es : List Expr} {b : Bool} {bs : List Bool} (hp : p ∈ X.pn) (hc : ExcC X.K C) (hz : Zc (.ref C) none p.2) (hf : ∃ vs, p.2.data = .fields vs) (hi : X.mg "isinstance" = none) (hm : X.mg x = some (.ref D)) (hk : PySem.W.kitOne X.K (.ref C) (.ref D) = some b) (r : IsA X p.1 es bs)
    (hN : X.N[0]? = some n := by rfl) (hv : Vis X.env.scope n := by first | exact Or.inl rfl | exact Or.inr (Or.inl rfl) | exact Or.inr (Or.inr rfl)) (hd : (n == ("__debug__" : Str)) = false := by decide) (hcd : (n == ("__classdict__" : Str)) = false := by decide) (hg : Gl X "isinstance" := by rfl) (hgx : Gl X x := by rfl) (hdx : (x == ("__debug__" : Str)) = false := by decide)
    (h1 : starEach [.Name n p2, .Name x p3] X.env = (false, eval (.Name n p2) X.env) :: starEach [.Name x p3] X.env := by rfl) (h2 : starEach [.Name x p3] X.env = (false, eval (.Name x p3) X.env) :: starEach [] X.env := by rfl) (h3 : (backTo pos (starEach [.Name x p3] X.env)).any (·.1) = false := by rfl)
    (he : starEach (.Call (.Name "isinstance" p1) [.Name n p2, .Name x p3] [] pos :: es) X.env = (false, eval (.Call (.Name "isinstance" p1) [.Name n p2, .Name x p3] [] pos) X.env) :: starEach es X.env := by rfl) :
    IsA X p.1 (.Call (.Name "isinstance" p1) [.Name n p2, .Name x p3] [] pos :: es) (b :: bs) := fun σ H Q h0 h => by
  refine pa_to (pa_cons (pe_callB (call_isX hp hc hz hf) hg hi (by decide +kernel) (pa_cons (pe_var hN hv hd hcd) (pa_cons (pe_glob (v := .ref D) hgx hm rfl hdx) pa_nil h2) h1) (by decide) (by decide) h1 h3) pa_w he) ?_
  exact ⟨_, h0, .ref D, .ref D, b, rfl, fun u r => r, hk, r σ H _ h0 h⟩
theorem isa_blt {p : Addr × Obj} {C : Addr} {x n : Str} {T : String} {p1 p2 p3 : Pos} {pos : Pos} {es : List Expr} {b : Bool} {bs : List Bool} (hp : p ∈ X.pn) (hc : ExcC X.K C) (hz : Zc (.ref C) none p.2) (hf : ∃ vs, p.2.data = .fields vs) (hi : X.mg "isinstance" = none) (hm : X.mg x = none) (hT : bootBuiltins x = some (.type T)) (hk : PySem.W.kitOne X.K (.ref C) (.type T) = some b) (r : IsA X p.1 es bs)
    (hN : X.N[0]? = some n := by rfl) (hv : Vis X.env.scope n := by first | exact Or.inl rfl | exact Or.inr (Or.inl rfl) | exact Or.inr (Or.inr rfl)) (hd : (n == ("__debug__" : Str)) = false := by decide) (hcd : (n == ("__classdict__" : Str)) = false := by decide) (hg : Gl X "isinstance" := by rfl) (hgx : Gl X x := by rfl) (hdx : (x == ("__debug__" : Str)) = false := by decide) (hn : x ≠ "__name__" := by decide)
    (h1 : starEach [.Name n p2, .Name x p3] X.env = (false, eval (.Name n p2) X.env) :: starEach [.Name x p3] X.env := by rfl) (h2 : starEach [.Name x p3] X.env = (false, eval (.Name x p3) X.env) :: starEach [] X.env := by rfl) (h3 : (backTo pos (starEach [.Name x p3] X.env)).any (·.1) = false := by rfl)
    (he : starEach (.Call (.Name "isinstance" p1) [.Name n p2, .Name x p3] [] pos :: es) X.env = (false, eval (.Call (.Name "isinstance" p1) [.Name n p2, .Name x p3] [] pos) X.env) :: starEach es X.env := by rfl) :
    IsA X p.1 (.Call (.Name "isinstance" p1) [.Name n p2, .Name x p3] [] pos :: es) (b :: bs) := fun σ H Q h0 h => by
  refine pa_to (pa_cons (pe_callB (call_isX hp hc hz hf) hg hi (by decide +kernel) (pa_cons (pe_var hN hv hd hcd) (pa_cons (pe_bltn (v := .ty T) hgx hm hT rfl hn hdx) pa_nil h2) h1) (by decide) (by decide) h1 h3) pa_w he) ?_
  exact ⟨_, h0, .ty T, .type T, b, rfl, fun u r => r, hk, r σ H _ h0 h⟩
end
/-- what such a def promises: data, by the error's number -/
def spX (K : PySem.W.Frag) (ec : Nat → Addr) (n : Nat) (fl : Nat → D) : Addr × Obj → Sp := fun p vs H Q _ => ∃ G c, Lk G H ∧ c < n ∧ vs = [.ref p.1] ∧ Zc (.ref (ec c)) none p.2 ∧ (∃ fs, p.2.data = .fields fs) ∧
  ∀ v G2 H2, Grow G H G2 H2 → Rp K G2 v (fl c) → Q v H2
theorem bls_rp {K : PySem.W.Frag} {G : Hp} : ∀ bs : List Bool, RpAll K G (bs.map V.bl) (bs.map D.bl)
  | [] => .nil
  | b :: bs => .cons (.bl b) (bls_rp bs)
theorem Grow.noneH {G H G2 H2 : Hp} (w : Grow G H G2 H2) {p : Addr} (h : H2 p = none) : H p = none := Option.eq_none_iff_forall_ne_some.mpr fun o z => by rw [w.h p o z] at h; cases h
/-- marks = [..]; return marks + [..] -/
theorem marks_run {X : Cx} {a : Addr} {m : Str} {es fs : List Expr} {bs cs : List Bool} {pm pm2 pl pl2 pb pa pr : Pos} {σ : L2.St} {G H : Hp} {D0 : Ends} (nd : X.N.Nodup) (h1 : IsA X a es bs) (h2 : IsA X a fs cs) (hl : bs.length + cs.length ≤ 1000) (l : Lk G H) (h0 : σ[0]? = some (some (.ref a))) (hln : 1 < σ.length)
    (q : ∀ v G2 H2, Grow G H G2 H2 → Rp X.K G2 v (.lst ((bs ++ cs).map D.bl)) → D0.rt v H2) (hi : X.N[1]? = some m := by rfl) (hx : Loc X.env.scope m := by first | exact Or.inl rfl | exact Or.inr rfl) (hs : swapsWith (.List es pl) (some (.Name m pm)) pa.line X.env = pure false := by first | exact swaps_no rfl | exact swapsS_no rfl | rfl)
    (hf : X.fn m = true ∨ X.env.scope.names.lookup m = some .local := by first | exact .inl rfl | exact .inr rfl) (hv : Vis X.env.scope m := by first | exact Or.inl rfl | exact Or.inr (Or.inl rfl) | exact Or.inr (Or.inr rfl)) (hd : (m == ("__debug__" : Str)) = false := by decide) (hcd : (m == ("__classdict__" : Str)) = false := by decide) :
    wB X [.Assign [.Name m pm] (.List es pl) pa, .Return (some (.BinOp (.Name m pm2) .Add (.List fs pl2) pb)) pr] D0 σ H := by
  refine pss_to (pss_cons (ps_set (i := 1) nd hi hx pe_w hs hf) pss_w) ?_
  refine pe_to (pe_lst pa_w) (h1 σ H _ h0 ⟨?_, fun p hp => ?_⟩)
  · rw [List.length_map]; exact size_ok (by omega)
  have w1 := Grow.own (o := .lst (bs.map V.bl)) l hp
  refine pss_to (pss_one (ps_ret (pe_op op_catR (pe_var hi hv hd hcd) pe_w))) ⟨.ref p, List.getElem?_set_self hln, ?_⟩
  refine pe_to (pe_lst pa_w) (h2 _ _ _ (by rw [List.getElem?_set_ne (by decide)]; exact h0) ⟨?_, fun p2 hp2 => ?_⟩)
  · rw [List.length_map]; exact size_ok (by omega)
  have w2 := Grow.own (o := .lst (cs.map V.bl)) w1.up hp2
  have ne : p ≠ p2 := fun z => by subst z; rw [upd_same] at hp2; cases hp2
  refine ⟨p, p2, bs.map V.bl, cs.map V.bl, rfl, rfl, .inl (by rw [upd_ne ne]; exact upd_same), .inl upd_same, by rw [List.length_map, List.length_map]; exact size_ok (by omega), fun p3 hp3 => ?_⟩
  have w := w1.trans w2
  refine newL (K := X.K) w.up hp3 (ds := (bs ++ cs).map D.bl) (by rw [← List.map_append]; exact bls_rp _) ?_
  exact NewL.frz fun v G2 H2 w3 r => q v G2 H2 (w.trans w3) r

/-! ### try -/
section
variable {K : PySem.W.Frag} {B : Bs} {en : En} {σ : L2.St} {G H : Hp}
/-- a slot of which nothing is known -/
theorem St8.unsetO {i : Nat} {o : Option V} (s : St8 K B en σ G H) (h : en[i]? = some none) : St8 K B en (σ.set i o) G H := by
  refine ⟨⟨s.es.fr, fun j dv e => ?_, s.es.ones, s.es.own⟩, by rw [List.length_set]; exact s.len⟩
  obtain ⟨v, a, b⟩ := s.es.at_ j dv e
  have ne : i ≠ j := fun z => by subst z; rw [h] at e; cases e
  exact ⟨v, by rw [List.getElem?_set_ne ne]; exact a, b⟩
end
section
variable {X : Cx} {W : WN} {eE eT : En} {en : En} {ec : Nat → Addr} {pos pos' np : Pos} {ω : Type} {T : Bs → ω → Ends → Prop} {body suite : List Stmt} {b₀ : Stmt} {m : R ω} {h : Nat → R ω} {ct : List Bool} {xC : Str} {cv : Value}
/-- except C: suite -/
theorem xs_try (g : Go X ec W) (hs : X.stack = X.env :: X.outer) (hf : X.env.frame = some X.env.locals) (hc : Names X xC cv) (hx : ∀ c b, ct[c]? = some b → PySem.W.exmOne X.K (.ref (ec c)) cv = some b)
    (hb : ∀ (W' : WN) pn xe, Go (X.tr pn xe) ec W' → XB (X.tr pn xe) W' eT body en m T)
    (hh : ∀ a oe pn c, XB (X.suite a ((a, oe) :: pn)) W eE (b₀ :: suite) eT (h c) T) (hl : eT.length = X.N.length := by rfl) (we : Wk0 eE eT := by first | exact wk0_nil | exact wk0_refl | assumption | exact Wkn.wk0 (by repeat' first | exact Wkn.nil | apply Wkn.k | apply Wkn.d)) :
    XS X W eE (.Try body [.ExceptHandler (some (.Name xC np)) none (b₀ :: suite) pos'] [] [] pos) en (m.hand ct h) T := fun B σ G H S D0 q => by
  refine ps_to (ps_try_only (ts := fun a cls d D σ H => ∀ oe pn, Zc cls d oe → (∃ vs, oe.data = .fields vs) → σ.length = X.N.length → wB (X.suite a ((a, oe) :: pn)) (b₀ :: suite) D σ H)
    (tb := fun WW D σ H => ∀ pn xe, Takes (X.tr pn xe) WW → PassesOwn (model X.prog X.w) X.A X.env xe → wB (X.tr pn xe) body D σ H) hs hf hc g.tk
    (fun WW pn xe tk po => ⟨fun pins s σ H D I k => k pn xe tk po pins s I⟩)
    (fun a oe cls d pn hz hv => ⟨fun pins s σ H D I k => k oe pn hz hv I.len pins s I⟩)) fun pn xe tk po => ?_
  refine hb (fun c σ' H' => wOnly X.K cv (fun a cls d D σ H => ∀ oe pn, Zc cls d oe → (∃ vs, oe.data = .fields vs) → σ.length = X.N.length → wB (X.suite a ((a, oe) :: pn)) (b₀ :: suite) D σ H) (wx ec W) D0 (.ref (ec c)) none σ' H') pn xe
    ⟨g.calm, po, g.nd, tk.imp fun cls d σ' H' ⟨c, e1, e2, e3⟩ => by rw [e1, e2]; exact e3⟩ B σ G H S D0 ?_
  cases m with
  | ok a => exact q
  | bad => exact q.elim
  | err c =>
    intro σ' G' H' E'
    have q : Post X W eE B ((R.err c : R ω).hand ct h) (fun o => T B o D0) := q
    cases e : ct[c]? with
    | none => unfold R.hand at q; simp only [e] at q; exact q.elim
    | some b =>
      cases b with
      | true =>
        rw [hand_err e] at q
        exact ⟨true, hx c true e, fun _ a _ oe pn hz hv hln => hh a oe pn c B σ' G' H' ⟨E', hln.trans hl.symm⟩ D0 q, fun z => nomatch z⟩
      | false =>
        rw [hand_pass e] at q
        exact ⟨false, hx c false e, (fun z => nomatch z), fun _ => ⟨c, rfl, rfl, q σ' G' H' (E'.weak we)⟩⟩
/-- except C as n: v = f(n) -/
theorem xs_tryF {i j : Nat} {n v x : Str} {p1 p2 p3 p4 p5 : Pos} {k N : Nat} {f : Addr} {fd : FuncData} {ps : List Str} {fl : Nat → D} {α : Type} {L : α → En → Prop} {m : R α} {hv : D → α} (g : Go X ec W) (hs : X.stack = X.env :: X.outer) (hf : X.env.frame = some X.env.locals) (hc : Names X xC cv) (hx : ∀ c b, ct[c]? = some b → PySem.W.exmOne X.K (.ref (ec c)) cv = some b)
    (hb : ∀ (W' : WN) pn xe, Go (X.tr pn xe) ec W' → XB (X.tr pn xe) W' eT body en m (TN X.K L))
    (F : FnX X.prog X.w X.K X.mg X.base k f fd ps (spX X.K ec N fl)) (hr : Room k X.A) (hm : X.mg x = some (.ref f)) (hk : PySem.W.keepIn X.K (.ref f) = true) (hbi : Binds X.K fd ps [])
    (hL : ∀ d, ∃ e', L (hv d) e' ∧ Wkn e' (eT.set j (some (.v d)))) (hti : eT[i]? = some none := by rfl) (hij : i ≠ j := by decide) (hi : X.N[i]? = some n := by rfl) (hj : X.N[j]? = some v := by rfl) (hln : X.env.kindOf n = some .local := by rfl)
    (hxv : Loc X.env.scope v := by first | exact Or.inl rfl | exact Or.inr rfl) (hsw : swapsWith (.Call (.Name x p1) [.Name n p2] [] p3) (some (.Name v p4)) p5.line X.env = pure false := by first | exact swaps_no rfl | exact swapsS_no rfl | rfl) (hfv : X.fn v = true ∨ X.env.scope.names.lookup v = some .local := by first | exact .inl rfl | exact .inr rfl)
    (hvn : Vis X.env.scope n := by first | exact Or.inl rfl | exact Or.inr (Or.inl rfl) | exact Or.inr (Or.inr rfl)) (hd : (n == ("__debug__" : Str)) = false := by decide) (hcd : (n == ("__classdict__" : Str)) = false := by decide) (hgx : Gl X x := by rfl) (hdb : (x == ("__debug__" : Str)) = false := by decide)
    (h1 : starEach [.Name n p2] X.env = (false, eval (.Name n p2) X.env) :: starEach [] X.env := by rfl) (h2 : (backTo p3 (starEach [] X.env)).any (·.1) = false := by rfl)
    (hl : eT.length = X.N.length := by rfl) (we : Wk0 eE eT := by first | exact wk0_nil | exact wk0_refl | assumption | exact Wkn.wk0 (by repeat' first | exact Wkn.nil | apply Wkn.k | apply Wkn.d)) :
    XS X W eE (.Try body [.ExceptHandler (some (.Name xC np)) (some n) [.Assign [.Name v p4] (.Call (.Name x p1) [.Name n p2] [] p3) p5] pos'] [] [] pos) en (m.hand ct fun c => if c < N then .ok (hv (fl c)) else .bad) (TN X.K L) := fun B σ G H S D0 q => by
  refine ps_to (ps_try_as (ts := fun a cls d D σ H => ∀ oe pn, Zc cls d oe → (∃ vs, oe.data = .fields vs) → σ.length = X.N.length → wB (X.suite a ((a, oe) :: pn)) [.Assign [.Name v p4] (.Call (.Name x p1) [.Name n p2] [] p3) p5] D σ H)
    (tb := fun WW D σ H => ∀ pn xe, Takes (X.tr pn xe) WW → PassesOwn (model X.prog X.w) X.A X.env xe → wB (X.tr pn xe) body D σ H) hs hf g.nd hi hln hc g.tk
    (fun WW pn xe tk po => ⟨fun pins s σ H D I k => k pn xe tk po pins s I⟩)
    (fun a oe cls d pn hz hv => ⟨fun pins s σ H D I k => k oe pn hz hv I.len pins s I⟩)) fun pn xe tk po => ?_
  refine hb (fun c σ' H' => wAs X.K cv i (fun a cls d D σ H => ∀ oe pn, Zc cls d oe → (∃ vs, oe.data = .fields vs) → σ.length = X.N.length → wB (X.suite a ((a, oe) :: pn)) [.Assign [.Name v p4] (.Call (.Name x p1) [.Name n p2] [] p3) p5] D σ H) (wx ec W) D0 (.ref (ec c)) none σ' H') pn xe
    ⟨g.calm, po, g.nd, tk.imp fun cls d σ' H' ⟨c, e1, e2, e3⟩ => by rw [e1, e2]; exact e3⟩ B σ G H S D0 ?_
  cases m with
  | ok a => exact q
  | bad => exact q.elim
  | err c =>
    intro σ' G' H' E'
    have q : Post X W eE B ((R.err c : R α).hand ct fun c => if c < N then .ok (hv (fl c)) else .bad) (fun o => TN X.K L B o D0) := q
    cases e : ct[c]? with
    | none => unfold R.hand at q; simp only [e] at q; exact q.elim
    | some b =>
      cases b with
      | true =>
        rw [hand_err e] at q
        by_cases hcN : c < N
        · rw [if_pos hcN] at q
          refine ⟨true, hx c true e, fun _ a _ oe pn hz hfs hlen => ?_, fun z => nomatch z⟩
          have S1 : St8 X.K B eT σ' G' H' := ⟨E', by rw [List.length_set] at hlen; exact hlen.trans hl.symm⟩
          have hi' : i < σ'.length := by rw [List.length_set] at hlen; rw [hlen]; exact (List.getElem?_eq_some_iff.mp hi).1
          refine pss_to (pss_one (ps_set (X := X.suite a ((a, oe) :: pn)) (i := j) g.nd hj hxv (pe_callX (X := X.suite a ((a, oe) :: pn)) (p := (a, oe)) F ⟨hr.dp, hr.un⟩ List.mem_cons_self hgx hm hk hbi (pa_cons (pe_var hi hvn hd hcd) pa_nil h1) hdb h1 h2) hsw hfv)) ?_
          refine ⟨.ref a, List.getElem?_set_self hi', G', c, S1.lk, hcN, rfl, hz, hfs, fun v G2 H2 w r => ?_⟩
          obtain ⟨e', hLe, wk⟩ := hL (fl c)
          have S2 := ((S1.grow w).set (i := j) r).unsetO (i := i) (o := none) (by rw [List.getElem?_set_ne (Ne.symm hij)]; exact hti)
          have es : ((σ'.set i (some (V.ref a))).set j (some v)).set i none = (σ'.set j (some v)).set i none := by
            rw [List.set_comm _ _ hij, List.set_set]
          show D0.nx (((σ'.set i (some (V.ref a))).set j (some v)).set i none) H2
          rw [es]
          exact q e' _ G2 H2 hLe (S2.weak wk)
        · rw [if_neg hcN] at q; exact q.elim
      | false =>
        rw [hand_pass e] at q
        exact ⟨false, hx c false e, (fun z => nomatch z), fun _ => ⟨c, rfl, rfl, q σ' G' H' (E'.weak we)⟩⟩
end
end Wk
set_option maxHeartbeats 4000000
/-! Wk24: what stands in an except suite; for j, p in enumerate(zip(a, b), start=k). -/
namespace Wk
open PySem PySem.Spec PyProof.Rows L2
section
variable {X : Cx} {W : WN} {eE : En} {en : En} {ec : Nat → Addr} {pos : Pos} {α β ω : Type} {T : Bs → ω → Ends → Prop} {rest body : List Stmt} {e : Expr}
/-- what hands back, in a block that may also go on -/
theorem xb_RO {L : α → En → Prop} {Rr : Hp → β → V → Hp → Hp → Prop} {m : R β} (h : XB X W eE body en m (TR Rr)) : XB X W eE body en (m.bnd fun d => .ok (.rt d)) (TO X.K L Rr) := fun B σ G H S D q =>
  h B σ G H S D (wp_mono (wp_bnd.mp q) (fun _ z => z) fun _ z => z)
theorem xb_letS {i : Nat} {x : Str} {p : Pos} {m : R D} {k : D → R ω} (nd : X.N.Nodup) (φ : D → En) (h : XP X W e en m) (hk : ∀ d, XB X W eE rest (φ d) (k d) T) (hi : X.N[i]? = some x := by rfl) (hφ : ∀ d, en.set i (some (.v d)) = φ d := by intro _; rfl)
    (hx : Loc X.env.scope x := by first | exact Or.inl rfl | exact Or.inr rfl) (we : Wk0 eE en := by first | exact wk0_nil | exact wk0_refl | assumption | exact Wkn.wk0 (by repeat' first | exact Wkn.nil | apply Wkn.k | apply Wkn.d)) (hs : swapsWith e (some (.Name x p)) pos.line X.env = pure false := by first | exact swaps_no rfl | exact swapsS_no rfl | rfl)
    (hf : X.fn x = true ∨ X.env.scope.names.lookup x = some .local := by first | exact .inl rfl | exact .inr rfl) : XB X W eE (.Assign [.Name x p] e pos :: rest) en (m.bnd k) T := fun B σ G H S D q => by
  refine pss_to (pss_cons (ps_set nd hi hx pe_w hs hf) pss_w) (xp_run h S we (wp_mono (wp_bnd.mp q) (fun d hd v G2 H2 l S2 r => ?_) fun _ z => z))
  exact hk d B _ G2 H2 (by have := S2.set (i := i) r; rw [hφ] at this; exact this) D hd
end
/-! ### two new things at once -/
section
variable {X : Cx} {pins : List (Addr × Obj)} {σ : L2.St} {H : Hp} {s : Shared} {h' : Heap}
theorem Inv.turnedTwo {t' : Nat} {ch : List Addr} {T1 T2 : Addr} {o1 o2 : HO} (I : Inv X pins σ H s) (k : ∀ b o, b ∉ ch → s.heap.get? b = some o → h'.get? b = some o) (hf : ∀ b ∈ ch, FpOk X pins H b) (h1 : s.heap.objs.size ≤ T1) (h2 : s.heap.objs.size ≤ T2)
    (n1 : ObjOk X.prog X.w (upd (upd H T1 o1) T2 o2) h' T1 o1) (n2 : ObjOk X.prog X.w (upd (upd H T1 o1) T2 o2) h' T2 o2) (ne : T1 ≠ T2) : Inv X pins σ (upd (upd H T1 o1) T2 o2) { s with heap := h', toks := t' } := by
  have e1 : H T1 = none := I.hok.fresh h1
  have e2 : H T2 = none := I.hok.fresh h2
  have up : ∀ b u, H b = some u → upd (upd H T1 o1) T2 o2 b = some u := fun b u e => by
    rw [upd_ne (ne_of_none e e2), upd_ne (ne_of_none e e1)]; exact e
  have free : ∀ b u, H b = some u → b ∉ ch := fun b u e z => by rw [(hf b z).1] at e; cases e
  refine I.step (g' := s.gens) (d' := s.drawn) (ch := ch) (fun b hb => let ⟨_, q2, q3, q4, q5, q6⟩ := hf b hb; ⟨q4, q2, q5, q6⟩) (fun b o _ _ hc e _ => k b o hc e) (fun b o _ _ hc e _ => ⟨o.slots, k b o hc e⟩)
    (fun b o _ e n => ?_) (fun b o hc e => ⟨o, k b o hc e⟩) (fun b xs e => up b _ e) (fun b o u e => up b _ e) (fun b ps e => ⟨#[], by rw [up b _ e]; simp⟩) (fun m hm => ?_) (fun b u e => ?_) I.bare
  · have lt := Heap.lt_size e
    rw [upd_ne (Nat.ne_of_lt (Nat.lt_of_lt_of_le lt h2)), upd_ne (Nat.ne_of_lt (Nat.lt_of_lt_of_le lt h1))]; exact n
  · obtain ⟨o, es, ep, ho, r⟩ := hm
    exact ⟨o, es, ep, k _ o (fun z => (hf _ z).2.1 rfl) ho, r⟩
  · by_cases q2 : b = T2
    · subst q2; rw [upd_same] at e; cases e; exact n2
    · by_cases q1 : b = T1
      · subst q1; rw [upd_ne q2, upd_same] at e; cases e; exact n1
      · rw [upd_ne q2, upd_ne q1] at e
        refine (I.hok b u e).stay (fun c v hc q => k c v ?_ q) (fun c q => up c _ q) fun c xs q => up c _ q
        rcases hc with z | z
        · rw [z]; exact free b u e
        · exact free c _ z
end
/-! ### the walk -/
/-- the lists at a and b as they stand at each turn: a number and a pair of items -/
def Itez (K : PySem.W.Frag) (k : Int) (a b : Addr) : It :=
  ⟨fun i H => ∃ (xs ys : List V) (x y : V), SqL K H a xs ∧ SqL K H b ys ∧ xs[i]? = some x ∧ ys[i]? = some y,
    fun i H v H' => ∃ T1 T2 x y, v = .ref T2 ∧ H T1 = none ∧ H T2 = none ∧ T1 ≠ T2 ∧ H' = upd (upd H T1 (.tup [x, y])) T2 (.tup [.int (k + (i : Nat)), .ref T1]) ∧ (∀ xs, SqL K H a xs → xs[i]? = some x) ∧ ∀ ys, SqL K H b ys → ys[i]? = some y,
    fun i H => ∃ xs ys : List V, SqL K H a xs ∧ SqL K H b ys ∧ (xs.length ≤ i ∨ ys.length ≤ i)⟩
theorem turn_ez {P : Program} {w : World} {K : PySem.W.Frag} {elts : List Expr} {kk : Nat} {tpos : Pos} (k : Int) {a b e z TI TO i1 i2 : Addr} (D : ZipApart z TI TO i1 i2 a b) (n0 : e ≠ z) (n1 : e ≠ TI) (n2 : e ≠ TO) (n3 : e ≠ i1) (n4 : e ≠ i2) :
    Turn P w K (.Tuple elts kk tpos) (Itez K k a b) [e, z, TI, TO, i1, i2] e (fun i h => (∃ old, IsEnum h e z (k + (i : Nat)) old) ∧ (∃ f0 f, Zp h z TI TO f0 f ∧ Zok f0) ∧ IsPair h TI (.ref i1) (.ref i2) ∧ (∃ x y, IsPair h TO x y) ∧ h.IsListIter i1 a i ∧ h.IsListIter i2 b i) where
  mem := by simp
  obj := fun i h st c hc => by
    obtain ⟨⟨old, he⟩, ⟨f0, f, hz, _⟩, hTI, ⟨x, y, hTO⟩, ⟨o1, e1, _, d1⟩, ⟨o2, e2, _, d2⟩⟩ := st
    simp only [List.mem_cons, List.mem_nil_iff, or_false] at hc
    rcases hc with q | q | q | q | q | q
    · rw [q]; exact ⟨_, he, fun v q => nomatch q⟩
    · rw [q]; exact ⟨_, hz, fun v q => nomatch q⟩
    · rw [q]; exact ⟨_, hTI, fun v q => nomatch q⟩
    · rw [q]; exact ⟨_, hTO, fun v q => nomatch q⟩
    · rw [q]; exact ⟨o1, e1, fun v q => by rw [d1] at q; cases q⟩
    · rw [q]; exact ⟨o2, e2, fun v q => by rw [d2] at q; cases q⟩
  keep := fun i h h' st k => by
    obtain ⟨⟨old, he⟩, ⟨f0, f, hz, h0⟩, hTI, ⟨x, y, hTO⟩, h1, h2⟩ := st
    exact ⟨⟨old, k e (by simp) _ he⟩, ⟨f0, f, k z (by simp) _ hz, h0⟩, k TI (by simp) _ hTI, ⟨x, y, k TO (by simp) _ hTO⟩, h1.at fun o q => k i1 (by simp) o q, h2.at fun o q => k i2 (by simp) o q⟩
  item := by
    intro X hP hw hK hc i pins s σ H E I hf st hg
    subst hP hw hK
    obtain ⟨⟨old, he⟩, ⟨f0, f, hz, h0⟩, hTI, ⟨x0, y0, hTO⟩, h1, h2⟩ := st
    obtain ⟨xs, ys, x, y, hqx, hqy, hx, hy⟩ := hg
    obtain ⟨its, rv, p, _⟩ := I.list hqx
    obtain ⟨its2, rv2, p2, _⟩ := I.list hqy
    obtain ⟨u, hu, ru⟩ := rv.get hx
    obtain ⟨u2, hu2, ru2⟩ := rv2.get hy
    have hel : e < s.heap.objs.size := Heap.lt_size he
    refine pyEnumZ_item D he n0 n1 n2 n3 n4 hz h0 hTI hTO h1 h2 p.isList p2.isList (x := u) (y := u2) (by simpa using hu) (by simpa using hu2) fun h' tk f1 g a1 a2 a3 a4 a5 a6 a7 a8 a9 b1 => ?_
    refine ⟨_, rfl, wpAny_letOwnedTupleGo_enum (s := { s with heap := h', toks := tk + 1 }) a1 fun h'' he'' sb => ?_⟩
    have q1 : h''.get? s.heap.objs.size = some { cls := .type "tuple", data := .seq #[u, u2] } := (sb.2 _ (Nat.ne_of_gt hel)).trans a7
    have q2 : h''.get? (s.heap.objs.size + 1) = some { cls := .type "tuple", data := .seq #[.int (k + (i : Nat)) tk, .ref s.heap.objs.size] } := (sb.2 _ (Nat.ne_of_gt (Nat.lt_succ_of_lt hel))).trans a8
    have I1 : Inv X pins σ (upd (upd H s.heap.objs.size (.tup [x, y])) (s.heap.objs.size + 1) (.tup [.int (k + (i : Nat)), .ref s.heap.objs.size])) { s with heap := h'', toks := tk + 1 } :=
      Inv.turnedTwo (ch := [e, z, TI, TO, i1, i2]) I (fun c o hb q => (sb.2 c (fun z => hb (by simp [z]))).trans (b1 c o (fun z => hb (by simp [z])) (fun z => hb (by simp [z])) (fun z => hb (by simp [z])) (fun z => hb (by simp [z])) (fun z => hb (by simp [z])) q)) hf (Nat.le_refl _) (Nat.le_succ _)
        ⟨by show 2 ≤ sizeLine; decide, [u, u2], .cons ru (.cons ru2 .nil), ⟨_, q1, rfl, _, rfl⟩⟩ ⟨by show 2 ≤ sizeLine; decide, [.int (k + (i : Nat)) tk, .ref s.heap.objs.size], .cons ⟨_, rfl⟩ (.cons rfl .nil), ⟨_, q2, rfl, _, rfl⟩⟩ (Nat.ne_of_lt (Nat.lt_succ_self _))
    refine ⟨.ref (s.heap.objs.size + 1), _, I1, rfl, ⟨_, _, x, y, rfl, I.hok.fresh (Nat.le_refl _), I.hok.fresh (Nat.le_succ _), Nat.ne_of_lt (Nat.lt_succ_self _), rfl, fun l hl => by rw [I.list_inj hl hqx]; exact hx, fun l hl => by rw [I.list_inj hl hqy]; exact hy⟩, ⟨⟨.ref s.heap.objs.size, ?_⟩, ⟨f1, g, (sb.2 _ (Ne.symm n0)).trans a2, a3⟩, ?_, ?_, ?_, ?_⟩, fun c hcm => ?_⟩
    · have e1 : k + ((i + 1 : Nat) : Int) = k + (i : Nat) + 1 := by omega
      rw [e1]; exact he''
    · exact (sb.2 _ (Ne.symm n1)).trans (b1 _ _ (Ne.symm n1) D.TIz D.TITO D.TIi1 D.TIi2 hTI)
    · obtain ⟨a', b', a4⟩ := a4
      exact ⟨a', b', (sb.2 _ (Ne.symm n2)).trans a4⟩
    · exact a5.at fun o q => (sb.2 _ (Ne.symm n3)).trans q
    · exact a6.at fun o q => (sb.2 _ (Ne.symm n4)).trans q
    · have hlt : c < s.heap.objs.size := by
        simp only [List.mem_cons, List.mem_nil_iff, or_false] at hcm
        rcases hcm with q | q | q | q | q | q
        · rw [q]; exact hel
        · rw [q]; exact Heap.lt_size hz
        · rw [q]; exact Heap.lt_size hTI
        · rw [q]; exact Heap.lt_size hTO
        · rw [q]; obtain ⟨_, e1, _⟩ := h1; exact Heap.lt_size e1
        · rw [q]; obtain ⟨_, e2, _⟩ := h2; exact Heap.lt_size e2
      rw [upd_ne (Nat.ne_of_lt (Nat.lt_succ_of_lt hlt)), upd_ne (Nat.ne_of_lt hlt)]
      exact (hf c hcm).1
  done := by
    intro X hP hw hK hc i pins s σ H E I hf st hg
    subst hP hw hK
    obtain ⟨⟨old, he⟩, ⟨f0, f, hz, h0⟩, hTI, ⟨x0, y0, hTO⟩, h1, h2⟩ := st
    obtain ⟨xs, ys, hqx, hqy, hend⟩ := hg
    obtain ⟨its, rv, p, _⟩ := I.list hqx
    obtain ⟨its2, rv2, p2, _⟩ := I.list hqy
    have l1 := rv.length
    have l2 := rv2.length
    have hn : its.toArray[i]? = none ∨ its2.toArray[i]? = none := by
      rcases hend with q | q
      · exact .inl (by simp; omega)
      · exact .inr (by simp; omega)
    exact pyEnumZ_end (I.ok.hd hc) D he hz h0 hTI hTO h1 h2 p.isList p2.isList hn fun h' hk => ⟨rfl, I.turnedL (t' := s.toks) (ch := [e, z, TI, TO, i1, i2]) (fun c o hb q =>
      hk c o (fun z => hb (by simp [z])) (fun z => hb (by simp [z])) (fun z => hb (by simp [z])) (fun z => hb (by simp [z])) q) hf⟩
  self := fun A i s Q E st h => let ⟨⟨_, he⟩, _⟩ := st; wpAny_pyIter_enum he h
/-! ### the call -/
section
variable {prog : Program} {w : World} {A : Around} {E : Value → Shared → Prop} {s : Shared}
set_option maxHeartbeats 8000000 in
theorem meets_enumZ (z TI TO : Addr) (k : Int) (t : Tok) (fit : Builtin.SmallTypes.fitsIndex k = true) :
    Meets (Builtin.«enumerate.__new__» ⟨[.type "enumerate", .ref z], [(Str.ofString "start", .int k t)]⟩) (fun _ R s => IsZip s.heap z TI TO .none ∧
      R (.ok (.ret (.ref s.heap.objs.size))) { s with heap := s.heap.push { cls := .type "enumerate", data := .fields #[.none, .bool false, .ref z, rawInt k, .none, .none] } }) :=
  .of_wp fun prog w A R s hh => by
    obtain ⟨hp, g, d, tk, os⟩ := s; obtain ⟨hz, goal⟩ := hh
    have under := sub_enumerate
    have nofit : (!Builtin.SmallTypes.fitsIndex k) = false := by rw [fit]; rfl
    have it0 : ∀ {A' : Around} {E : Value → Shared → Prop} {Q : Value → Shared → Prop}, Q (.ref z) ⟨hp, g, d, tk, os⟩ → wpAny (model prog w) A' (pyIter (.ref z)) Q E ⟨hp, g, d, tk, os⟩ := fun q => wpAny_pyIter_zip hz q
    have w1 : (Str.ofString "start" == ("start" : Str)) = true := by decide
    have w2 : (Str.ofString "start" != ("start" : Str)) = false := by decide
    have w3 : (Str.ofString "start" != ("iterable" : Str)) = true := by decide
    have w4 : (("start" : Str) == Str.ofString "start") = true := by decide
    have w5 : (("iterable" : Str) == Str.ofString "start") = false := by decide
    wp_walk using it0
    refine wpAny_stack_any fun st => wpAny_pure ?_
    split
    · rename_i c _ _ _ _ _
      cases (c == Value.type "enumerate") <;> (wp_walk using it0; exact ⟨_, rfl, goal⟩)
    · wp_walk using it0
      exact ⟨_, rfl, goal⟩
theorem call_enumZ {z TI TO : Addr} {k : Int} {t : Tok} {Q : Value → Shared → Prop} (hz : IsZip s.heap z TI TO .none) (k0 : -(2 ^ 63) ≤ k) (k1 : k < 2 ^ 63)
    (h : ∀ h', IsEnum h' s.heap.objs.size z k .none → (∀ b o, s.heap.get? b = some o → h'.get? b = some o) → Q (.ref s.heap.objs.size) { s with heap := h' }) :
    wpAny (model prog w) A (call (.type "enumerate") [.ref z] [(Str.ofString "start", .int k t)]) Q E s := by
  refine callType_newKw F.called_enumerate (by decide) (F.typeCall_enumerate_start _ _) (F.newCall_enumerate_start _ _) (fun obj => F.args_object_init_start obj _ _) F.entry_enumerate_new (meets_enumZ z TI TO k t (fits_start k0 k1)) ⟨hz, ?_⟩
  have e : IsEnum (s.heap.push { cls := .type "enumerate", data := .fields #[.none, .bool false, .ref z, rawInt k, .none, .none] }) s.heap.objs.size z k .none := Heap.get?_push_size _ rfl
  exact ⟨⟨_, e, rfl⟩, h _ e fun b o x => Heap.get?_push_of_some _ x⟩
theorem callWith_tyKw {pos : Pos} {T : String} {e : Expr} {rest : List Expr} {kws : List Keyword} {env : Env} {Q : Value → Shared → Prop}
    (h : wpAny (model prog w) A (spliced (backTo pos (starEach (e :: rest) env))) (fun vs s1 => wpAny (model prog w) A (evalAll ((backToKw pos (keywordEach kws env)).map (·.2)))
      (fun ks s2 => wpAny (model prog w) A (call (.type T) vs (((backToKw pos (keywordEach kws env)).filterMap (·.1)).zip ks)) Q E s2) E s1) E s)
    (h1 : backTo pos (starEach (e :: rest) env) = (false, eval e env) :: backTo pos (starEach rest env)) (h2 : (backTo pos (starEach (e :: rest) env)).any (·.1) = false)
    (h3 : (backToKw pos (keywordEach kws env)).all (·.1.isSome) = true) (h4 : (backToKw pos (keywordEach kws env)).any (·.1.isNone) = false) :
    wpAny (model prog w) A (callWith pos (.type T) [] (backTo pos (starEach (e :: rest) env)) (backToKw pos (keywordEach kws env))) Q E s := by
  have hh : wpAny (model prog w) A (evalArgs (.type T) true (backTo pos (starEach (e :: rest) env)) (backToKw pos (keywordEach kws env))) (fun a s1 => wpAny (model prog w) A (call (.type T) a.pos a.kw) Q E s1) E s := by
    rw [h1] at h ⊢
    exact evalArgs_kwB h3 h
  unfold callWith
  refine wpAny_bind (wpAny_holding (wpAny_mono hh (fun a s1 ha => wpAny_bind (wpAny_standAt ?_)) fun _ _ z => z))
  simp only [h2, h4, Bool.or_false]
  refine wpAny_bind (wpAny_pure (wpAny_bind (wpAny_mono ?_ (fun r s2 hr => wpAny_bind (wpAny_holding (wpAny_point (wpAny_pure hr)))) fun _ _ z => z)))
  exact ha
end
def iEnZ (K : PySem.W.Frag) (k : Int) (ta : TA) : TI := fun σ H R => ta σ H fun vs H1 => ∃ a b xs ys, vs = [.ref a, .ref b] ∧ SqL K H1 a xs ∧ SqL K H1 b ys ∧ R (Itez K k a b) H1
theorem pi_enumZ {X : Cx} {a b : Expr} {ta : TA} {p p2 p3 pos zpos tpos kp : Pos} {elts : List Expr} {kk j : Nat} {k : Int} (hg : Gl X "zip") (hm : X.mg "zip" = none) (hge : Gl X "enumerate") (hme : X.mg "enumerate" = none) (k0 : -(2 ^ 63) ≤ k) (k1 : k < 2 ^ 63) (ha : PA X [a, b] ta)
    (hs : starEach [a, b] X.env = (false, eval a X.env) :: starEach [b] X.env := by rfl) (hpl : (backTo zpos (starEach [b] X.env)).any (·.1) = false := by rfl)
    (h1 : backTo pos (starEach [.Call (.Name "zip" p2) [a, b] [] zpos] X.env) = (false, eval (.Call (.Name "zip" p2) [a, b] [] zpos) X.env) :: backTo pos (starEach [] X.env) := by rfl) (h2 : (backTo pos (starEach [.Call (.Name "zip" p2) [a, b] [] zpos] X.env)).any (·.1) = false := by rfl)
    (h3 : (backToKw pos (keywordEach [⟨some (Str.ofString "start"), .Constant (.int k) j p3, kp⟩] X.env)).all (·.1.isSome) = true := by rfl) (h4 : (backToKw pos (keywordEach [⟨some (Str.ofString "start"), .Constant (.int k) j p3, kp⟩] X.env)).any (·.1.isNone) = false := by rfl)
    (h5 : (backToKw pos (keywordEach [⟨some (Str.ofString "start"), .Constant (.int k) j p3, kp⟩] X.env)).filterMap (·.1) = [Str.ofString "start"] := by rfl) :
    PI X (.Tuple elts kk tpos) (.Call (.Name "enumerate" p) [.Call (.Name "zip" p2) [a, b] [] zpos] [⟨some (Str.ofString "start"), .Constant (.int k) j p3, kp⟩] pos) (iEnZ X.K k ta) := by
  refine ⟨fun pins s σ H R I h => ?_⟩
  refine wpAny_Call_Name_kw (ld_blt I hge hme boot_enumerate ?_ (by decide) (by decide))
  refine callWith_tyKw ?_ h1 h2 h3 h4
  show wpAny _ _ (spliced ((false, eval (.Call (.Name "zip" p2) [a, b] [] zpos) X.env) :: backTo pos (starEach [] X.env))) _ _ _
  refine Calls.spliced_cons (Call_ (ld_blt I hg hm PyProof.Rows.boot_zip (PyProof.Rows.callWith_type1 (thn (ha.run zpos pins s σ H _ I h) fun us s1 ⟨vs, H1, I1, r1, q1⟩ => ?_) hs hpl)))
  obtain ⟨a', b', xs, ys, rfl, hqx, hqy, q⟩ := q1
  cases r1 with
  | cons r r2 =>
    cases r2 with
    | cons r' r3 =>
      cases r3
      cases r
      cases r'
      obtain ⟨its, rv, q1, _⟩ := I1.list hqx
      obtain ⟨its2, rv2, q2, _⟩ := I1.list hqy
      have la : a' < s1.heap.objs.size := q1.lt
      have lb : b' < s1.heap.objs.size := q2.lt
      refine call_zip_2 q1.isList q2.isList fun h' hz hTI hTO i1 i2 hsz hk => ?_
      have I2 : Inv X pins σ H1 { s1 with heap := h' } := I1.kept (t' := s1.toks) hk
      refine Calls.spliced_nil (PyProof.Rows.kws_cons ?_)
      refine wpAny_Constant_int (PyProof.Rows.kws_nil ?_)
      rw [h5]
      refine call_enumZ (s := { s1 with heap := h', toks := s1.toks + 1 }) hz k0 k1 fun h'' he keep => ?_
      have sz : s1.heap.objs.size + 4 < h'.objs.size := Heap.lt_size hz
      have I3 : Inv X pins σ H1 { s1 with heap := h'', toks := s1.toks + 1 } := I2.kept (t' := s1.toks + 1) keep
      refine wpAny_pyIter_enum he ?_
      refine ⟨h'.objs.size, [h'.objs.size, s1.heap.objs.size + 4, s1.heap.objs.size + 2, s1.heap.objs.size + 3, s1.heap.objs.size, s1.heap.objs.size + 1], _, Itez X.K k a' b', H1, rfl, I3,
        turn_ez k (PySem.W.ktu_apart s1.heap.objs.size a' b' la lb) (Nat.ne_of_gt sz) (Nat.ne_of_gt (by omega)) (Nat.ne_of_gt (by omega)) (Nat.ne_of_gt (by omega)) (Nat.ne_of_gt (by omega)), ?_, fun c hcm => ?_, q⟩
      · refine ⟨⟨.none, by rw [show k + ((0 : Nat) : Int) = k by omega]; exact he⟩, ⟨.none, _, keep _ _ hz, .inl rfl⟩, keep _ _ hTI, ⟨_, _, keep _ _ hTO⟩, i1.at fun o z => keep _ o z, i2.at fun o z => keep _ o z⟩
      · have hle : s1.heap.objs.size ≤ c := by
          simp only [List.mem_cons, List.mem_nil_iff, or_false] at hcm
          rcases hcm with z | z | z | z | z | z <;> (rw [z]; omega)
        exact I1.fpOk hle (I1.hok.fresh hle)
/-- what is walked -/
def ezL (k : Int) (xs ys : List D) : List D := (List.range (min xs.length ys.length)).map fun i => .tup [.int (k + (i : Nat)), .tup [xs.getD i .non, ys.getD i .non]]
def D.enumZ (k : Int) : List D → Option (List D)
  | [.lst xs, .lst ys] => some (ezL k xs ys)
  | _ => none
theorem wlk_EZ {K : PySem.W.Frag} {G : Hp} {k : Int} {a b : Addr} {xs ys : List V} {ds es : List D} (h1 : Rd G a (.lst xs)) (h2 : Rd G b (.lst ys)) (r1 : RpAll K G xs ds) (r2 : RpAll K G ys es) : Wlk K (Itez K k a b) G (ezL k ds es) := by
  have ll : (ezL k ds es).length = min ds.length es.length := by unfold ezL; simp
  refine ⟨fun G' H' l lk => ⟨xs, ys, .inl (lk.le _ _ rfl (l _ _ rfl h1)), .inl (lk.le _ _ rfl (l _ _ rfl h2)), by rw [ll, r1.len, r2.len]; omega⟩, fun i d e G' H' l lk => ?_⟩
  have hi : i < min ds.length es.length := by rw [← ll]; exact (List.getElem?_eq_some_iff.mp e).1
  have i1 : i < ds.length := by omega
  have i2 : i < es.length := by omega
  have ed : d = .tup [.int (k + (i : Nat)), .tup [ds[i], es[i]]] := by
    unfold ezL at e
    rw [List.getElem?_map, List.getElem?_range hi] at e
    simp only [Option.map_some, Option.some.injEq] at e
    rw [← e, List.getD_eq_getElem?_getD, List.getD_eq_getElem?_getD, List.getElem?_eq_getElem i1, List.getElem?_eq_getElem i2]
    rfl
  subst ed
  obtain ⟨x, ex, rx⟩ := (r1.up l).get (List.getElem?_eq_getElem i1)
  obtain ⟨y, ey, ry⟩ := (r2.up l).get (List.getElem?_eq_getElem i2)
  have q1 : SqL K H' a xs := .inl (lk.le _ _ rfl (l _ _ rfl h1))
  have q2 : SqL K H' b ys := .inl (lk.le _ _ rfl (l _ _ rfl h2))
  refine ⟨⟨xs, ys, x, y, q1, q2, ex, ey⟩, ?_⟩
  rintro v H'' ⟨T1, T2, x', y', rfl, n1, n2, ne, rfl, f1, f2⟩
  have ex' := (f1 _ q1).symm.trans ex
  have ey' := (f2 _ q2).symm.trans ey
  have e1 : x' = x := Option.some.inj ex'
  have e2 : y' = y := Option.some.inj ey'
  subst e1; subst e2
  have w1 := Grow.new (o := .tup [x', y']) lk n1 rfl
  have n2' : upd H' T1 (.tup [x', y']) T2 = none := by rw [upd_ne (Ne.symm ne)]; exact n2
  have w2 := Grow.new (o := .tup [.int (k + (i : Nat)), .ref T1]) w1.up n2' rfl
  exact ⟨_, w1.trans w2, .tup (.inl (.inl upd_same)) (.cons (.int _) (.cons (Rp.up w2.g (.tup (.inl (.inl upd_same)) (.cons (rx.up w1.g) (.cons (ry.up w1.g) .nil)))) .nil))⟩
section
variable {X : Cx} {W : WN} {en : En} {a b : Expr} {ms : R (List D)} {pos : Pos}
theorem xi_enumZ {p p2 p3 zpos tpos kp : Pos} {elts : List Expr} {kk j : Nat} {k : Int} (hm : X.mg "zip" = none) (hme : X.mg "enumerate" = none) (ha : XA X W [a, b] en ms) (k0 : -(2 ^ 63) ≤ k := by decide) (k1 : k < 2 ^ 63 := by decide) (hg : Gl X "zip" := by rfl) (hge : Gl X "enumerate" := by rfl)
    (hs : starEach [a, b] X.env = (false, eval a X.env) :: starEach [b] X.env := by rfl) (hpl : (backTo zpos (starEach [b] X.env)).any (·.1) = false := by rfl)
    (h1 : backTo pos (starEach [.Call (.Name "zip" p2) [a, b] [] zpos] X.env) = (false, eval (.Call (.Name "zip" p2) [a, b] [] zpos) X.env) :: backTo pos (starEach [] X.env) := by rfl) (h2 : (backTo pos (starEach [.Call (.Name "zip" p2) [a, b] [] zpos] X.env)).any (·.1) = false := by rfl)
    (h3 : (backToKw pos (keywordEach [⟨some (Str.ofString "start"), .Constant (.int k) j p3, kp⟩] X.env)).all (·.1.isSome) = true := by rfl) (h4 : (backToKw pos (keywordEach [⟨some (Str.ofString "start"), .Constant (.int k) j p3, kp⟩] X.env)).any (·.1.isNone) = false := by rfl)
    (h5 : (backToKw pos (keywordEach [⟨some (Str.ofString "start"), .Constant (.int k) j p3, kp⟩] X.env)).filterMap (·.1) = [Str.ofString "start"] := by rfl) :
    XI X W (.Tuple elts kk tpos) (.Call (.Name "enumerate" p) [.Call (.Name "zip" p2) [a, b] [] zpos] [⟨some (Str.ofString "start"), .Constant (.int k) j p3, kp⟩] pos) en (ms.bnd fun ds => R.of (D.enumZ k ds)) := fun σ G H S Q h => by
  refine pi_to (pi_enumZ hg hm hge hme k0 k1 pa_w hs hpl h1 h2 h3 h4 h5) (ha σ G H S _ (wp_mono (wp_bnd.mp h) (fun ds hd vs G1 H1 w1 r1 => ?_) fun _ z => z))
  obtain ⟨l, e, hd⟩ := wp_of hd
  unfold D.enumZ at e
  split at e
  · cases e
    cases r1 with
    | cons r1 r2 =>
      cases r2 with
      | cons r2 r3 =>
        cases r3
        cases r1 with
        | lst a1 b1 =>
          cases r2 with
          | lst a2 b2 => exact ⟨_, _, _, _, rfl, .inl (w1.up.le _ _ rfl a1), .inl (w1.up.le _ _ rfl a2), hd _ G1 H1 w1 (wlk_EZ a1 a2 b1 b2)⟩
  · cases e
end
end Wk
set_option maxHeartbeats 4000000
/-! Wk25: comprehensions of all forms; in; slices stored; ranges that go down; lists taken apart. -/
namespace Wk
open PySem PySem.Spec PyProof.Rows L2
section
variable {X : Cx} {W : WN} {eE : En} {en : En} {ec : Nat → Addr} {pos : Pos} {ω : Type} {T : Bs → ω → Ends → Prop} {rest : List Stmt}
/-- what a comprehension's target and tests must say -/
structure LcB (X : Cx) (scope : Scope) (en : En) (tg elt : Expr) (ifs : List Expr) (own : List (Str × Nat)) (g : TG) (tt : TT) (mt : D → R Bool) (me : D → R D) : Prop where
  pg : ∀ (s : Shared) (H0 : Hp) (C : Addr) (cl : List (Str × Addr)) (fp : List Addr), PG (X.blk s H0 scope (compEnvC scope cl C X.env) fp) tg g
  pt : ∀ (s : Shared) (H0 : Hp) (C : Addr) (cl : List (Str × Addr)) (fp : List Addr), PTs (X.blk s H0 scope (compEnvC scope cl C X.env) fp) ifs tt
  tl : ∃ f, TgL X.K g (own.map (·.2)) f ∧ ∀ d (P : Bool → Prop) (E : Nat → Prop), wp (mt d) P E → ∃ e', f en d = some e' ∧ (∀ σ G H, Sl X.K e' σ G H → ∀ Q : Bool → Hp → Prop, wp (mt d) (fun b => ∀ G2 H2, Grow G H G2 H2 → Q b H2) (fun _ => False) → tt σ H Q) ∧ BP X scope elt e' (me d)
  cl : clr en (own.map (·.2)) = true
theorem xn_lcG {tg it elt : Expr} {ifs : List Expr} {scope : Scope} {own : List (Str × Nat)} {gg : TG} {tt : TT} {mi : R (List D)} {mt : D → R Bool} {me : D → R D} (g : Go X ec W) (hi : XI X W tg it en mi) (b : LcB X scope en tg elt ifs own gg tt mt me) (hblk : BlkOk X.N X.env.scope scope own)
    (hs : ∀ x, foldedSetIterable it X.env x = pure x := by intro _; rfl) : XN X W (.ListComp elt [⟨tg, it, ifs, 0⟩] scope pos) en (mi.bnd fun ds => lcIR mt me ds) := fun σ G H S Q q => by
  refine pe_to (pe_lc g.calm g.nd pi_w hblk b.pg b.pt pe_wb hs) ?_
  obtain ⟨f, h1, h2⟩ := b.tl
  exact lc_run hi h1 b.cl h2 σ G H S Q q
theorem xb_letLcG {j : Nat} {y : Str} {py : Pos} {tg it elt : Expr} {ifs : List Expr} {scope : Scope} {posc : Pos} {own : List (Str × Nat)} {gg : TG} {tt : TT} {mi : R (List D)} {mt : D → R Bool} {me : D → R D} {k : List D → R ω} (g : Go X ec W) (φ : Addr → List D → En) (hi : XI X W tg it en mi) (b : LcB X scope en tg elt ifs own gg tt mt me)
    (hk : ∀ a ds, XB X W eE rest (φ a ds) (k ds) T) (hblk : BlkOk X.N X.env.scope scope own) (hNy : X.N[j]? = some y := by rfl) (hφ : ∀ a ds, en.set j (some (.o false a (.l ds))) = φ a ds := by intro _ _; rfl) (we : Wk0 eE en := by first | exact wk0_nil | exact wk0_refl | assumption | exact Wkn.wk0 (by repeat' first | exact Wkn.nil | apply Wkn.k | apply Wkn.d))
    (hyl : X.env.scope.names.lookup y = some .local := by rfl) (hsw : swapsWith (.ListComp elt [⟨tg, it, ifs, 0⟩] scope posc) (some (.Name y py)) pos.line X.env = pure true := by exact sw_true rfl rfl rfl (by decide +kernel))
    (hs : ∀ x, foldedSetIterable it X.env x = pure x := by intro _; rfl) : XB X W eE (.Assign [.Name y py] (.ListComp elt [⟨tg, it, ifs, 0⟩] scope posc) pos :: rest) en ((mi.bnd fun ds => lcIR mt me ds).bnd k) T := fun B σ G H S D q => by
  refine pss_to (pss_cons (ps_setLc g.calm g.nd hNy hyl hsw pi_w hblk b.pg b.pt pe_wb hs) pss_w) ?_
  unfold tSeq tAsg
  obtain ⟨f, h1, h2⟩ := b.tl
  refine lc_run hi h1 b.cl h2 σ G H S.sl _ ?_
  refine wp_mono (wp_bnd.mp q) (fun ds hd a vs G2 H2 w hp gp ep r => ?_) fun c hc G2 H2 w => hc σ G2 H2 ((S.grow w).es.weak we)
  have hB := S.h0 hp
  have := (S.grow w).setO (i := j) (p := a) (ds := ds) (S.noOwn hp) hB gp ⟨vs, ep, r⟩
  · rw [hφ] at this
    exact hk a ds B _ G2 H2 this D hd
theorem lcb1 {i0 : Nat} {x0 : Str} {p0 : Pos} {elt : Expr} {scope : Scope} {me : D → R D} (g : Go X ec W) (he : ∀ d0, BP X scope elt (en.set i0 (some (.v d0))) (me d0)) (hc : clr en [i0] = true := by rfl)
    (hN0 : X.N[i0]? = some x0 := by rfl)
    (hx0 : ∀ (s : Shared) (H0 : Hp) (C : Addr) (cl : List (Str × Addr)) (fp : List Addr), Loc (X.blk s H0 scope (compEnvC scope cl C X.env) fp).env.scope x0 := by intros; first | exact Or.inl rfl | exact Or.inr rfl) (hf0 : ∀ (s : Shared) (H0 : Hp) (C : Addr) (cl : List (Str × Addr)) (fp : List Addr), (X.blk s H0 scope (compEnvC scope cl C X.env) fp).fn x0 = true ∨ (X.blk s H0 scope (compEnvC scope cl C X.env) fp).env.scope.names.lookup x0 = some .local := by intros; first | exact .inl rfl | exact .inr rfl)
    : LcB X scope en (.Name x0 p0) elt [] [(x0, i0)] (gName i0) tYes (fun _ => .ok true) (me) where
  pg := fun s H0 C cl fp => pg_name g.nd hN0 (hx0 s H0 C cl fp) (hf0 s H0 C cl fp)
  pt := fun _ _ _ _ _ => pts_nil
  cl := hc
  tl := ⟨_, tl_name, fun d P E hw => by
    exact ⟨_, rfl, fun σ G H S Q k => k G H (Grow.refl S.le), he d⟩⟩
theorem lcb1I {i0 : Nat} {x0 : Str} {p0 : Pos} {elt c : Expr} {scope : Scope} {me : D → R D} {mt : D → R Bool} (g : Go X ec W) (ht : ∀ d0, BT X scope c (en.set i0 (some (.v d0))) (mt d0)) (he : ∀ d0, BP X scope elt (en.set i0 (some (.v d0))) (me d0)) (hc : clr en [i0] = true := by rfl)
    (hN0 : X.N[i0]? = some x0 := by rfl)
    (hx0 : ∀ (s : Shared) (H0 : Hp) (C : Addr) (cl : List (Str × Addr)) (fp : List Addr), Loc (X.blk s H0 scope (compEnvC scope cl C X.env) fp).env.scope x0 := by intros; first | exact Or.inl rfl | exact Or.inr rfl) (hf0 : ∀ (s : Shared) (H0 : Hp) (C : Addr) (cl : List (Str × Addr)) (fp : List Addr), (X.blk s H0 scope (compEnvC scope cl C X.env) fp).fn x0 = true ∨ (X.blk s H0 scope (compEnvC scope cl C X.env) fp).env.scope.names.lookup x0 = some .local := by intros; first | exact .inl rfl | exact .inr rfl)
    : LcB X scope en (.Name x0 p0) elt [c] [(x0, i0)] (gName i0) (wTb X scope c) (mt) (me) where
  pg := fun s H0 C cl fp => pg_name g.nd hN0 (hx0 s H0 C cl fp) (hf0 s H0 C cl fp)
  pt := fun s H0 C cl fp => pts_one (pt_wb s H0 C cl fp)
  cl := hc
  tl := ⟨_, tl_name, fun d P E hw => by
    exact ⟨_, rfl, fun σ G H S Q k s0 H0 C cl fp => ht d s0 H0 C cl fp σ G H S Q (wp_mono k (fun _ z => z) fun _ z => z.elim), he d⟩⟩
theorem lcb2 {i0 i1 : Nat} {x0 x1 : Str} {p0 p1 p9 : Pos} {kk : Nat} {elt : Expr} {scope : Scope} {me : D → D → R D} (g : Go X ec W) (he : ∀ d0 d1, BP X scope elt ((en.set i0 (some (.v d0))).set i1 (some (.v d1))) (me d0 d1)) (hc : clr en [i0, i1] = true := by rfl)
    (hN0 : X.N[i0]? = some x0 := by rfl) (hN1 : X.N[i1]? = some x1 := by rfl)
    (hx0 : ∀ (s : Shared) (H0 : Hp) (C : Addr) (cl : List (Str × Addr)) (fp : List Addr), Loc (X.blk s H0 scope (compEnvC scope cl C X.env) fp).env.scope x0 := by intros; first | exact Or.inl rfl | exact Or.inr rfl) (hf0 : ∀ (s : Shared) (H0 : Hp) (C : Addr) (cl : List (Str × Addr)) (fp : List Addr), (X.blk s H0 scope (compEnvC scope cl C X.env) fp).fn x0 = true ∨ (X.blk s H0 scope (compEnvC scope cl C X.env) fp).env.scope.names.lookup x0 = some .local := by intros; first | exact .inl rfl | exact .inr rfl)
    (hx1 : ∀ (s : Shared) (H0 : Hp) (C : Addr) (cl : List (Str × Addr)) (fp : List Addr), Loc (X.blk s H0 scope (compEnvC scope cl C X.env) fp).env.scope x1 := by intros; first | exact Or.inl rfl | exact Or.inr rfl) (hf1 : ∀ (s : Shared) (H0 : Hp) (C : Addr) (cl : List (Str × Addr)) (fp : List Addr), (X.blk s H0 scope (compEnvC scope cl C X.env) fp).fn x1 = true ∨ (X.blk s H0 scope (compEnvC scope cl C X.env) fp).env.scope.names.lookup x1 = some .local := by intros; first | exact .inl rfl | exact .inr rfl)
    (hn : ∀ env, (assignEach [.Name x0 p0, .Name x1 p1] env).length = 2 := by intro _; rfl) (hst : ∀ env, (assignEach [.Name x0 p0, .Name x1 p1] env).findIdx? (·.1) = none := by intro _; rfl)
    (hm0 : ∀ env, (assignEach [.Name x0 p0, .Name x1 p1] env).map (·.2) = assign (.Name x0 p0) env :: (assignEach [.Name x1 p1] env).map (·.2) := by intro _; rfl)
    (hm1 : ∀ env, (assignEach [.Name x1 p1] env).map (·.2) = assign (.Name x1 p1) env :: (assignEach [] env).map (·.2) := by intro _; rfl)
    : LcB X scope en (.Tuple [.Name x0 p0, .Name x1 p1] kk p9) elt [] [(x0, i0), (x1, i1)] (gTup X.K 2 (gCons (gName i0) (gCons (gName i1) gNil))) tYes (fun d => (R.of d.two).bnd fun q => .ok true) (fun d => (R.of d.two).bnd fun q => (me q.1 q.2)) where
  pg := fun s H0 C cl fp => pg_tup g.calm (pgs_cons (pg_name g.nd hN0 (hx0 s H0 C cl fp) (hf0 s H0 C cl fp)) (pgs_cons (pg_name g.nd hN1 (hx1 s H0 C cl fp) (hf1 s H0 C cl fp)) pgs_nil (hm1 _)) (hm0 _)) (hn _) (hst _)
  pt := fun _ _ _ _ _ => pts_nil
  cl := hc
  tl := ⟨_, tl_two, fun d P E hw => by
    obtain ⟨(q : D × D), e1, e2⟩ := wp_of (wp_bnd.mp hw)
    rw [e1]
    exact ⟨_, by rfl, fun σ G H S Q k => k G H (Grow.refl S.le), he q.1 q.2⟩⟩
theorem lcb2I {i0 i1 : Nat} {x0 x1 : Str} {p0 p1 p9 : Pos} {kk : Nat} {elt c : Expr} {scope : Scope} {me : D → D → R D} {mt : D → D → R Bool} (g : Go X ec W) (ht : ∀ d0 d1, BT X scope c ((en.set i0 (some (.v d0))).set i1 (some (.v d1))) (mt d0 d1)) (he : ∀ d0 d1, BP X scope elt ((en.set i0 (some (.v d0))).set i1 (some (.v d1))) (me d0 d1)) (hc : clr en [i0, i1] = true := by rfl)
    (hN0 : X.N[i0]? = some x0 := by rfl) (hN1 : X.N[i1]? = some x1 := by rfl)
    (hx0 : ∀ (s : Shared) (H0 : Hp) (C : Addr) (cl : List (Str × Addr)) (fp : List Addr), Loc (X.blk s H0 scope (compEnvC scope cl C X.env) fp).env.scope x0 := by intros; first | exact Or.inl rfl | exact Or.inr rfl) (hf0 : ∀ (s : Shared) (H0 : Hp) (C : Addr) (cl : List (Str × Addr)) (fp : List Addr), (X.blk s H0 scope (compEnvC scope cl C X.env) fp).fn x0 = true ∨ (X.blk s H0 scope (compEnvC scope cl C X.env) fp).env.scope.names.lookup x0 = some .local := by intros; first | exact .inl rfl | exact .inr rfl)
    (hx1 : ∀ (s : Shared) (H0 : Hp) (C : Addr) (cl : List (Str × Addr)) (fp : List Addr), Loc (X.blk s H0 scope (compEnvC scope cl C X.env) fp).env.scope x1 := by intros; first | exact Or.inl rfl | exact Or.inr rfl) (hf1 : ∀ (s : Shared) (H0 : Hp) (C : Addr) (cl : List (Str × Addr)) (fp : List Addr), (X.blk s H0 scope (compEnvC scope cl C X.env) fp).fn x1 = true ∨ (X.blk s H0 scope (compEnvC scope cl C X.env) fp).env.scope.names.lookup x1 = some .local := by intros; first | exact .inl rfl | exact .inr rfl)
    (hn : ∀ env, (assignEach [.Name x0 p0, .Name x1 p1] env).length = 2 := by intro _; rfl) (hst : ∀ env, (assignEach [.Name x0 p0, .Name x1 p1] env).findIdx? (·.1) = none := by intro _; rfl)
    (hm0 : ∀ env, (assignEach [.Name x0 p0, .Name x1 p1] env).map (·.2) = assign (.Name x0 p0) env :: (assignEach [.Name x1 p1] env).map (·.2) := by intro _; rfl)
    (hm1 : ∀ env, (assignEach [.Name x1 p1] env).map (·.2) = assign (.Name x1 p1) env :: (assignEach [] env).map (·.2) := by intro _; rfl)
    : LcB X scope en (.Tuple [.Name x0 p0, .Name x1 p1] kk p9) elt [c] [(x0, i0), (x1, i1)] (gTup X.K 2 (gCons (gName i0) (gCons (gName i1) gNil))) (wTb X scope c) (fun d => (R.of d.two).bnd fun q => (mt q.1 q.2)) (fun d => (R.of d.two).bnd fun q => (me q.1 q.2)) where
  pg := fun s H0 C cl fp => pg_tup g.calm (pgs_cons (pg_name g.nd hN0 (hx0 s H0 C cl fp) (hf0 s H0 C cl fp)) (pgs_cons (pg_name g.nd hN1 (hx1 s H0 C cl fp) (hf1 s H0 C cl fp)) pgs_nil (hm1 _)) (hm0 _)) (hn _) (hst _)
  pt := fun s H0 C cl fp => pts_one (pt_wb s H0 C cl fp)
  cl := hc
  tl := ⟨_, tl_two, fun d P E hw => by
    obtain ⟨(q : D × D), e1, e2⟩ := wp_of (wp_bnd.mp hw)
    rw [e1]
    exact ⟨_, by rfl, fun σ G H S Q k s0 H0 C cl fp => ht q.1 q.2 s0 H0 C cl fp σ G H S Q (wp_mono k (fun _ z => z) fun _ z => z.elim), he q.1 q.2⟩⟩
theorem lcb3 {i0 i1 i2 : Nat} {x0 x1 x2 : Str} {p0 p1 p2 p9 : Pos} {kk : Nat} {elt : Expr} {scope : Scope} {me : D → D → D → R D} (g : Go X ec W) (he : ∀ d0 d1 d2, BP X scope elt (((en.set i0 (some (.v d0))).set i1 (some (.v d1))).set i2 (some (.v d2))) (me d0 d1 d2)) (hc : clr en [i0, i1, i2] = true := by rfl)
    (hN0 : X.N[i0]? = some x0 := by rfl) (hN1 : X.N[i1]? = some x1 := by rfl) (hN2 : X.N[i2]? = some x2 := by rfl)
    (hx0 : ∀ (s : Shared) (H0 : Hp) (C : Addr) (cl : List (Str × Addr)) (fp : List Addr), Loc (X.blk s H0 scope (compEnvC scope cl C X.env) fp).env.scope x0 := by intros; first | exact Or.inl rfl | exact Or.inr rfl) (hf0 : ∀ (s : Shared) (H0 : Hp) (C : Addr) (cl : List (Str × Addr)) (fp : List Addr), (X.blk s H0 scope (compEnvC scope cl C X.env) fp).fn x0 = true ∨ (X.blk s H0 scope (compEnvC scope cl C X.env) fp).env.scope.names.lookup x0 = some .local := by intros; first | exact .inl rfl | exact .inr rfl)
    (hx1 : ∀ (s : Shared) (H0 : Hp) (C : Addr) (cl : List (Str × Addr)) (fp : List Addr), Loc (X.blk s H0 scope (compEnvC scope cl C X.env) fp).env.scope x1 := by intros; first | exact Or.inl rfl | exact Or.inr rfl) (hf1 : ∀ (s : Shared) (H0 : Hp) (C : Addr) (cl : List (Str × Addr)) (fp : List Addr), (X.blk s H0 scope (compEnvC scope cl C X.env) fp).fn x1 = true ∨ (X.blk s H0 scope (compEnvC scope cl C X.env) fp).env.scope.names.lookup x1 = some .local := by intros; first | exact .inl rfl | exact .inr rfl)
    (hx2 : ∀ (s : Shared) (H0 : Hp) (C : Addr) (cl : List (Str × Addr)) (fp : List Addr), Loc (X.blk s H0 scope (compEnvC scope cl C X.env) fp).env.scope x2 := by intros; first | exact Or.inl rfl | exact Or.inr rfl) (hf2 : ∀ (s : Shared) (H0 : Hp) (C : Addr) (cl : List (Str × Addr)) (fp : List Addr), (X.blk s H0 scope (compEnvC scope cl C X.env) fp).fn x2 = true ∨ (X.blk s H0 scope (compEnvC scope cl C X.env) fp).env.scope.names.lookup x2 = some .local := by intros; first | exact .inl rfl | exact .inr rfl)
    (hn : ∀ env, (assignEach [.Name x0 p0, .Name x1 p1, .Name x2 p2] env).length = 3 := by intro _; rfl) (hst : ∀ env, (assignEach [.Name x0 p0, .Name x1 p1, .Name x2 p2] env).findIdx? (·.1) = none := by intro _; rfl)
    (hm0 : ∀ env, (assignEach [.Name x0 p0, .Name x1 p1, .Name x2 p2] env).map (·.2) = assign (.Name x0 p0) env :: (assignEach [.Name x1 p1, .Name x2 p2] env).map (·.2) := by intro _; rfl)
    (hm1 : ∀ env, (assignEach [.Name x1 p1, .Name x2 p2] env).map (·.2) = assign (.Name x1 p1) env :: (assignEach [.Name x2 p2] env).map (·.2) := by intro _; rfl)
    (hm2 : ∀ env, (assignEach [.Name x2 p2] env).map (·.2) = assign (.Name x2 p2) env :: (assignEach [] env).map (·.2) := by intro _; rfl)
    : LcB X scope en (.Tuple [.Name x0 p0, .Name x1 p1, .Name x2 p2] kk p9) elt [] [(x0, i0), (x1, i1), (x2, i2)] (gTup X.K 3 (gCons (gName i0) (gCons (gName i1) (gCons (gName i2) gNil)))) tYes (fun d => (R.of d.three).bnd fun q => .ok true) (fun d => (R.of d.three).bnd fun q => (me q.1 q.2.1 q.2.2)) where
  pg := fun s H0 C cl fp => pg_tup g.calm (pgs_cons (pg_name g.nd hN0 (hx0 s H0 C cl fp) (hf0 s H0 C cl fp)) (pgs_cons (pg_name g.nd hN1 (hx1 s H0 C cl fp) (hf1 s H0 C cl fp)) (pgs_cons (pg_name g.nd hN2 (hx2 s H0 C cl fp) (hf2 s H0 C cl fp)) pgs_nil (hm2 _)) (hm1 _)) (hm0 _)) (hn _) (hst _)
  pt := fun _ _ _ _ _ => pts_nil
  cl := hc
  tl := ⟨_, tl_three, fun d P E hw => by
    obtain ⟨(q : D × D × D), e1, e2⟩ := wp_of (wp_bnd.mp hw)
    rw [e1]
    exact ⟨_, by rfl, fun σ G H S Q k => k G H (Grow.refl S.le), he q.1 q.2.1 q.2.2⟩⟩
theorem lcb3I {i0 i1 i2 : Nat} {x0 x1 x2 : Str} {p0 p1 p2 p9 : Pos} {kk : Nat} {elt c : Expr} {scope : Scope} {me : D → D → D → R D} {mt : D → D → D → R Bool} (g : Go X ec W) (ht : ∀ d0 d1 d2, BT X scope c (((en.set i0 (some (.v d0))).set i1 (some (.v d1))).set i2 (some (.v d2))) (mt d0 d1 d2)) (he : ∀ d0 d1 d2, BP X scope elt (((en.set i0 (some (.v d0))).set i1 (some (.v d1))).set i2 (some (.v d2))) (me d0 d1 d2)) (hc : clr en [i0, i1, i2] = true := by rfl)
    (hN0 : X.N[i0]? = some x0 := by rfl) (hN1 : X.N[i1]? = some x1 := by rfl) (hN2 : X.N[i2]? = some x2 := by rfl)
    (hx0 : ∀ (s : Shared) (H0 : Hp) (C : Addr) (cl : List (Str × Addr)) (fp : List Addr), Loc (X.blk s H0 scope (compEnvC scope cl C X.env) fp).env.scope x0 := by intros; first | exact Or.inl rfl | exact Or.inr rfl) (hf0 : ∀ (s : Shared) (H0 : Hp) (C : Addr) (cl : List (Str × Addr)) (fp : List Addr), (X.blk s H0 scope (compEnvC scope cl C X.env) fp).fn x0 = true ∨ (X.blk s H0 scope (compEnvC scope cl C X.env) fp).env.scope.names.lookup x0 = some .local := by intros; first | exact .inl rfl | exact .inr rfl)
    (hx1 : ∀ (s : Shared) (H0 : Hp) (C : Addr) (cl : List (Str × Addr)) (fp : List Addr), Loc (X.blk s H0 scope (compEnvC scope cl C X.env) fp).env.scope x1 := by intros; first | exact Or.inl rfl | exact Or.inr rfl) (hf1 : ∀ (s : Shared) (H0 : Hp) (C : Addr) (cl : List (Str × Addr)) (fp : List Addr), (X.blk s H0 scope (compEnvC scope cl C X.env) fp).fn x1 = true ∨ (X.blk s H0 scope (compEnvC scope cl C X.env) fp).env.scope.names.lookup x1 = some .local := by intros; first | exact .inl rfl | exact .inr rfl)
    (hx2 : ∀ (s : Shared) (H0 : Hp) (C : Addr) (cl : List (Str × Addr)) (fp : List Addr), Loc (X.blk s H0 scope (compEnvC scope cl C X.env) fp).env.scope x2 := by intros; first | exact Or.inl rfl | exact Or.inr rfl) (hf2 : ∀ (s : Shared) (H0 : Hp) (C : Addr) (cl : List (Str × Addr)) (fp : List Addr), (X.blk s H0 scope (compEnvC scope cl C X.env) fp).fn x2 = true ∨ (X.blk s H0 scope (compEnvC scope cl C X.env) fp).env.scope.names.lookup x2 = some .local := by intros; first | exact .inl rfl | exact .inr rfl)
    (hn : ∀ env, (assignEach [.Name x0 p0, .Name x1 p1, .Name x2 p2] env).length = 3 := by intro _; rfl) (hst : ∀ env, (assignEach [.Name x0 p0, .Name x1 p1, .Name x2 p2] env).findIdx? (·.1) = none := by intro _; rfl)
    (hm0 : ∀ env, (assignEach [.Name x0 p0, .Name x1 p1, .Name x2 p2] env).map (·.2) = assign (.Name x0 p0) env :: (assignEach [.Name x1 p1, .Name x2 p2] env).map (·.2) := by intro _; rfl)
    (hm1 : ∀ env, (assignEach [.Name x1 p1, .Name x2 p2] env).map (·.2) = assign (.Name x1 p1) env :: (assignEach [.Name x2 p2] env).map (·.2) := by intro _; rfl)
    (hm2 : ∀ env, (assignEach [.Name x2 p2] env).map (·.2) = assign (.Name x2 p2) env :: (assignEach [] env).map (·.2) := by intro _; rfl)
    : LcB X scope en (.Tuple [.Name x0 p0, .Name x1 p1, .Name x2 p2] kk p9) elt [c] [(x0, i0), (x1, i1), (x2, i2)] (gTup X.K 3 (gCons (gName i0) (gCons (gName i1) (gCons (gName i2) gNil)))) (wTb X scope c) (fun d => (R.of d.three).bnd fun q => (mt q.1 q.2.1 q.2.2)) (fun d => (R.of d.three).bnd fun q => (me q.1 q.2.1 q.2.2)) where
  pg := fun s H0 C cl fp => pg_tup g.calm (pgs_cons (pg_name g.nd hN0 (hx0 s H0 C cl fp) (hf0 s H0 C cl fp)) (pgs_cons (pg_name g.nd hN1 (hx1 s H0 C cl fp) (hf1 s H0 C cl fp)) (pgs_cons (pg_name g.nd hN2 (hx2 s H0 C cl fp) (hf2 s H0 C cl fp)) pgs_nil (hm2 _)) (hm1 _)) (hm0 _)) (hn _) (hst _)
  pt := fun s H0 C cl fp => pts_one (pt_wb s H0 C cl fp)
  cl := hc
  tl := ⟨_, tl_three, fun d P E hw => by
    obtain ⟨(q : D × D × D), e1, e2⟩ := wp_of (wp_bnd.mp hw)
    rw [e1]
    exact ⟨_, by rfl, fun σ G H S Q k s0 H0 C cl fp => ht q.1 q.2.1 q.2.2 s0 H0 C cl fp σ G H S Q (wp_mono k (fun _ z => z) fun _ z => z.elim), he q.1 q.2.1 q.2.2⟩⟩
end

section
variable {X : Cx} {W : WN} {eE : En} {en : En} {ec : Nat → Addr} {pos : Pos} {γ ω : Type} {φ : γ → En} {T : Bs → ω → Ends → Prop} {rest : List Stmt} {a b c e : Expr} {ma mb mc : R D}
def R.bU3V {ω : Type} (m : R (D × γ)) (k : D → D → D → γ → R ω) : R ω := m.bnd2 fun d c => (R.of d.three).bnd fun q => k q.1 q.2.1 q.2.2 c
@[simp] theorem s_bU3V {ω : Type} {x y z : D} {c : γ} {k : D → D → D → γ → R ω} : R.bU3V (.ok (.tup [x, y, z], c)) k = k x y z c := by exact id rfl
theorem xb_threeV {i j l : Nat} {x y w : Str} {p p' p'' p2 : Pos} {kk : Nat} {m : R (D × γ)} {k : D → D → D → γ → R ω} (g : Go X ec W) (χ : D → D → D → γ → En) (h : XV X W eE e en m φ) (hk : ∀ d d' d'' c, XB X W eE rest (χ d d' d'' c) (k d d' d'' c) T) (hN : X.N[i]? = some x := by rfl) (hN' : X.N[j]? = some y := by rfl) (hN'' : X.N[l]? = some w := by rfl)
    (hφ : ∀ d d' d'' c, (((φ c).set i (some (.v d))).set j (some (.v d'))).set l (some (.v d'')) = χ d d' d'' c := by intro _ _ _ _; rfl)
    (hx : Loc X.env.scope x := by first | exact Or.inl rfl | exact Or.inr rfl) (hx' : Loc X.env.scope y := by first | exact Or.inl rfl | exact Or.inr rfl) (hx'' : Loc X.env.scope w := by first | exact Or.inl rfl | exact Or.inr rfl) (hf : X.fn x = true ∨ X.env.scope.names.lookup x = some .local := by first | exact .inl rfl | exact .inr rfl) (hf' : X.fn y = true ∨ X.env.scope.names.lookup y = some .local := by first | exact .inl rfl | exact .inr rfl) (hf'' : X.fn w = true ∨ X.env.scope.names.lookup w = some .local := by first | exact .inl rfl | exact .inr rfl)
    (hn : (assignEach [.Name x p, .Name y p', .Name w p''] X.env).length = 3 := by rfl) (hst : (assignEach [.Name x p, .Name y p', .Name w p''] X.env).findIdx? (·.1) = none := by rfl)
    (h1 : (assignEach [.Name x p, .Name y p', .Name w p''] X.env).map (·.2) = assign (.Name x p) X.env :: (assignEach [.Name y p', .Name w p''] X.env).map (·.2) := by rfl) (h2 : (assignEach [.Name y p', .Name w p''] X.env).map (·.2) = assign (.Name y p') X.env :: (assignEach [.Name w p''] X.env).map (·.2) := by rfl) (h3 : (assignEach [.Name w p''] X.env).map (·.2) = assign (.Name w p'') X.env :: (assignEach [] X.env).map (·.2) := by rfl)
    (s1 : swapsWithSole [.Tuple [.Name x p, .Name y p', .Name w p''] kk p2] e pos.line X.env = pure false := by first | exact swaps_no rfl | exact swapsS_no rfl | rfl) (s2 : swappedStores [.Tuple [.Name x p, .Name y p', .Name w p''] kk p2] e X.env = pure none := by rfl) (s3 : (assignEach [.Tuple [.Name x p, .Name y p', .Name w p''] kk p2] X.env).map (·.2) = [assign (.Tuple [.Name x p, .Name y p', .Name w p''] kk p2) X.env] := by rfl) :
    XB X W eE (.Assign [.Tuple [.Name x p, .Name y p', .Name w p''] kk p2] e pos :: rest) en (R.bU3V m k) T := fun B σ G H S D q => by
  refine pss_to (pss_cons (ps_asg pe_w (pg_tup g.calm (pgs_cons (pg_name g.nd hN hx hf) (pgs_cons (pg_name g.nd hN' hx' hf') (pgs_cons (pg_name g.nd hN'' hx'' hf'') pgs_nil h3) h2) h1) hn hst) s1 s2 s3) pss_w) ?_
  refine h B σ G H S _ (wp_mono (wp_bnd.mp q) (fun dc hd v G1 H1 l S1 r => ?_) fun _ z => z)
  obtain ⟨(z : Wk.D × Wk.D × Wk.D), e1, hd⟩ := wp_of (wp_bnd.mp hd)
  refine tg_three B _ σ G1 H1 S1 dc.1 v _ r (by show Option.map _ dc.1.three = _; rw [e1]; rfl) _ fun σ' S' => ?_
  dsimp only at S'
  rw [hφ] at S'
  exact hk _ _ _ _ B σ' G1 H1 S' D hd
/-! in -/
def strsD : List D → Option (List Str)
  | [] => some []
  | .str x :: ds => (strsD ds).map fun l => x :: l
  | _ => none
theorem strs_rp {K : PySem.W.Frag} {G : Hp} : ∀ {ds : List D} {vs : List V} {l : List Str}, strsD ds = some l → RpAll K G vs ds → vs = l.map V.str
  | [], _, _, e, h => by cases e; cases h; rfl
  | d :: ds, _, _, e, h => by
    cases d <;> simp only [strsD] at e
    all_goals first | (cases e; done) | skip
    obtain ⟨l, e1, rfl⟩ := Option.map_eq_some_iff.mp e
    cases h with
    | cons a c => cases a; rw [strs_rp e1 c]; rfl
def D.in_ (x y : D) : Option Bool := match x, y with
  | .int i, .lst xs => (intsD xs).map fun l => l.contains i
  | .int i, .tup xs => (intsD xs).map fun l => l.contains i
  | .str i, .lst xs => (strsD xs).map fun l => l.contains i
  | .str i, .tup xs => (strsD xs).map fun l => l.contains i
  | _, _ => none
def D.notin (x y : D) : Option Bool := (D.in_ x y).map fun b => !b
theorem o_in : OpR X (compareOp .In) (rIn X.K false) := op_in_seq
theorem o_notin : OpR X (compareOp .NotIn) (rIn X.K true) := op_notIn_seq
theorem inV_int {i : Int} : ∀ l : List Int, inV (.int i) (l.map V.int) = l.contains i
  | [] => rfl
  | j :: l => by
    have h := inV_int (i := i) l
    unfold inV at h ⊢
    rw [List.map_cons, List.any_cons, h, List.contains_cons]
    show (j == i || _) = (i == j || _)
    rw [show (j == i) = (i == j) from BEq.comm]
theorem inV_str {i : Str} : ∀ l : List Str, inV (.str i) (l.map V.str) = l.contains i
  | [] => rfl
  | j :: l => by
    have h := inV_str (i := i) l
    unfold inV at h ⊢
    rw [List.map_cons, List.any_cons, h, List.contains_cons]
    show (j == i || _) = (i == j || _)
    rw [show (j == i) = (i == j) from BEq.comm]
theorem flat_int (l : List Int) : (l.map V.int).all flatV = true := by simp [flatV]
theorem flat_str (l : List Str) : (l.map V.str).all flatV = true := by simp [flatV]
theorem d_inG {K : PySem.W.Frag} {neg : Bool} : OpD K (rIn K neg) (fun x y => ((D.in_ x y).map fun b => if neg then !b else b).map .bl) := fun G H x y dx dy d l rx ry e Q q => by
  obtain ⟨b0, e0, rfl⟩ := Option.map_eq_some_iff.mp e
  obtain ⟨b, e1, rfl⟩ := Option.map_eq_some_iff.mp e0
  unfold D.in_ at e1
  split at e1
  · obtain ⟨ns, e2, rfl⟩ := Option.map_eq_some_iff.mp e1
    cases rx
    cases ry with
    | lst h1 r1 =>
      have ev := ints_rp e2 r1
      subst ev
      exact ⟨_, _, rfl, .inl (.inl (l.le _ _ rfl h1)), rfl, flat_int _, by rw [inV_int]; exact keepQ l q (.bl _)⟩
  · obtain ⟨ns, e2, rfl⟩ := Option.map_eq_some_iff.mp e1
    cases rx
    cases ry with
    | tup h1 r1 =>
      have ev := ints_rp e2 r1
      subst ev
      exact ⟨_, _, rfl, .inr (l.le.seqT h1), rfl, flat_int _, by rw [inV_int]; exact keepQ l q (.bl _)⟩
  · obtain ⟨ns, e2, rfl⟩ := Option.map_eq_some_iff.mp e1
    cases rx
    cases ry with
    | lst h1 r1 =>
      have ev := strs_rp e2 r1
      subst ev
      exact ⟨_, _, rfl, .inl (.inl (l.le _ _ rfl h1)), rfl, flat_str _, by rw [inV_str]; exact keepQ l q (.bl _)⟩
  · obtain ⟨ns, e2, rfl⟩ := Option.map_eq_some_iff.mp e1
    cases rx
    cases ry with
    | tup h1 r1 =>
      have ev := strs_rp e2 r1
      subst ev
      exact ⟨_, _, rfl, .inr (l.le.seqT h1), rfl, flat_str _, by rw [inV_str]; exact keepQ l q (.bl _)⟩
  · cases e1
theorem d_in {K : PySem.W.Frag} : OpD K (rIn K false) (fun x y => (D.in_ x y).map .bl) := fun G H x y dx dy d l rx ry e Q q => d_inG G H x y dx dy d l rx ry (by dsimp only at e ⊢; rw [← e]; cases D.in_ dx dy <;> rfl) Q q
theorem d_notin {K : PySem.W.Frag} : OpD K (rIn K true) (fun x y => (D.notin x y).map .bl) := fun G H x y dx dy d l rx ry e Q q => d_inG G H x y dx dy d l rx ry (by dsimp only at e ⊢; rw [← e]; unfold D.notin; cases D.in_ dx dy <;> rfl) Q q
/-! ranges that go down -/
def downD (i j : Int) : List D := (List.range (i - j).toNat).map fun k => .int (i - (k : Nat))
def rg3 : List D → Option (List D)
  | [.int i, .int j, .int c] => if c = -1 ∧ -(2 ^ 62) ≤ i ∧ i < 2 ^ 62 ∧ -(2 ^ 62) ≤ j ∧ j < 2 ^ 62 then some (downD i j) else none
  | _ => none
theorem wlk_Rc {K : PySem.W.Frag} {G : Hp} {i j : Int} : Wlk K (Itc i (-1) (i - j).toNat) G (downD i j) :=
  ⟨fun G' H' l k => by show _ ≤ _; unfold downD; simp, fun n d e G' H' l k => by
    have hn : n < (i - j).toNat := by
      have := (List.getElem?_eq_some_iff.mp e).1
      unfold downD at this
      simpa using this
    unfold downD at e
    rw [List.getElem?_map, List.getElem?_range hn] at e
    cases e
    refine ⟨hn, fun x H'' y => ?_⟩
    obtain ⟨rfl, rfl⟩ := y
    refine ⟨G', Grow.refl k, ?_⟩
    have : i + (n : Int) * (-1) = i - n := by omega
    rw [this]
    exact .int _⟩
theorem xi_range3 {tg : Expr} {p : Pos} {ms : R (List D)} (hm : X.mg "range" = none) (h : XA X W [a, b, c] en ms) (hg : Gl X "range" := by rfl) (hs : starEach [a, b, c] X.env = (false, eval a X.env) :: starEach [b, c] X.env := by rfl) (hpl : (backTo pos (starEach [b, c] X.env)).any (·.1) = false := by rfl) : XI X W tg (.Call (.Name "range" p) [a, b, c] [] pos) en (ms.bnd fun ds => R.of (rg3 ds)) := fun σ G H S Q k => by
  refine pi_to (pi_range3 hg hm pa_w hs hpl) (h σ G H S _ (wp_mono (wp_bnd.mp k) (fun ds hd vs G1 H1 w1 r1 => ?_) fun _ z => z))
  obtain ⟨l, e, hd⟩ := wp_of hd
  unfold rg3 at e
  split at e
  · split at e
    · rename_i i j c' hz
      obtain ⟨rfl, z1, z2, z3, z4⟩ := hz
      cases e
      cases r1 with
      | cons r1 r2 =>
        cases r2 with
        | cons r2 r3 =>
          cases r3 with
          | cons r3 r4 =>
            cases r1; cases r2; cases r3; cases r4
            exact ⟨i, j, -1, (i - j).toNat, rfl, RgC.neg z1 z2 z3 z4, hd _ G1 H1 w1 wlk_Rc⟩
    · cases e
  · cases e
/-! a slice of a list of one's own; what is taken apart; a slice stored -/
theorem xn_cutO {i : Nat} {bb : Bool} {p : Addr} {px p2 : Pos} {ds : List D} {x : Str} {lo hi : Option Expr} {ml mh : R (Option Int)} (hl : XO X W lo en ml) (hh : XO X W hi en mh) (he : en[i]? = some (some (.o bb p (.l ds))) := by rfl) (hN : X.N[i]? = some x := by rfl) (hv : Vis X.env.scope x := by first | exact Or.inl rfl | exact Or.inr (Or.inl rfl) | exact Or.inr (Or.inr rfl)) (hd : (x == ("__debug__" : Str)) = false := by decide) (hcd : (x == ("__classdict__" : Str)) = false := by decide) :
    XN X W (.Subscript (.Name x px) (.Slice lo hi none p2) pos) en (ml.bnd fun l => mh.bnd fun h => .ok (cutD ds l h)) := fun σ G H S Q k => by
  obtain ⟨e1, vs, hp, r⟩ := own_var S he
  refine pe_to (pe_slice sl_list (pe_var hN hv hd hcd) po_w po_w) ⟨.ref p, e1, ?_⟩
  refine hl σ G H S _ (wp_mono (wp_bnd.mp k) (fun l hl' G2 H2 w2 => ?_) fun _ z => z)
  refine hh σ G2 H2 (S.grow w2) _ (wp_mono (wp_bnd.mp hl') (fun h hh' G3 H3 w3 => ?_) fun _ z G3 H3 w => z G3 H3 (w2.trans w))
  have w := w2.trans w3
  exact ⟨p, vs, rfl, .inl (.inl (w.h _ _ hp)), fun q hq => newL w.up hq ((r.up w.g).cut l h) (NewL.up w hh')⟩
def two? : List D → Option (D × D)
  | [x, y] => some (x, y)
  | _ => none
def R.bL2 {ω : Type} (m : R (List D)) (k : D → D → R ω) : R ω := m.bnd fun d => (R.of (two? d)).bnd fun q => k q.1 q.2
@[simp] theorem s_bL2 {ω : Type} {x y : D} {k : D → D → R ω} : R.bL2 (.ok [x, y]) k = k x y := by exact id rfl
theorem xb_twoL {i j : Nat} {x y : Str} {p p' p2 : Pos} {kk : Nat} {m : R (List D)} {k : D → D → R ω} (g : Go X ec W) (χ : D → D → En) (h : XN X W e en m) (hk : ∀ d d', XB X W eE rest (χ d d') (k d d') T) (hN : X.N[i]? = some x := by rfl) (hN' : X.N[j]? = some y := by rfl) (hφ : ∀ d d', (en.set i (some (.v d))).set j (some (.v d')) = χ d d' := by intro _ _; rfl)
    (hx : Loc X.env.scope x := by first | exact Or.inl rfl | exact Or.inr rfl) (hx' : Loc X.env.scope y := by first | exact Or.inl rfl | exact Or.inr rfl) (we : Wk0 eE en := by first | exact wk0_nil | exact wk0_refl | assumption | exact Wkn.wk0 (by repeat' first | exact Wkn.nil | apply Wkn.k | apply Wkn.d)) (hf : X.fn x = true ∨ X.env.scope.names.lookup x = some .local := by first | exact .inl rfl | exact .inr rfl) (hf' : X.fn y = true ∨ X.env.scope.names.lookup y = some .local := by first | exact .inl rfl | exact .inr rfl)
    (hn : (assignEach [.Name x p, .Name y p'] X.env).length = 2 := by rfl) (hst : (assignEach [.Name x p, .Name y p'] X.env).findIdx? (·.1) = none := by rfl)
    (h1 : (assignEach [.Name x p, .Name y p'] X.env).map (·.2) = assign (.Name x p) X.env :: (assignEach [.Name y p'] X.env).map (·.2) := by rfl) (h2 : (assignEach [.Name y p'] X.env).map (·.2) = assign (.Name y p') X.env :: (assignEach [] X.env).map (·.2) := by rfl)
    (s1 : swapsWithSole [.Tuple [.Name x p, .Name y p'] kk p2] e pos.line X.env = pure false := by first | exact swaps_no rfl | exact swapsS_no rfl | rfl) (s2 : swappedStores [.Tuple [.Name x p, .Name y p'] kk p2] e X.env = pure none := by rfl) (s3 : (assignEach [.Tuple [.Name x p, .Name y p'] kk p2] X.env).map (·.2) = [assign (.Tuple [.Name x p, .Name y p'] kk p2) X.env] := by rfl) :
    XB X W eE (.Assign [.Tuple [.Name x p, .Name y p'] kk p2] e pos :: rest) en (R.bL2 m k) T := fun B σ G H S D q => by
  refine pss_to (pss_cons (ps_asg pe_w (pg_lst g.calm (pgs_cons (pg_name g.nd hN hx hf) (pgs_cons (pg_name g.nd hN' hx' hf') pgs_nil h2) h1) hn hst) s1 s2 s3) pss_w) ?_
  refine xn_run h S we (wp_mono (wp_bnd.mp q) (fun d hd a vs G1 H1 l S1 hp gp ep r => ?_) fun _ z => z)
  obtain ⟨z, e1, hd⟩ := wp_of (wp_bnd.mp hd)
  unfold two? at e1
  split at e1
  · cases e1
    cases r with
    | cons r1 r2 =>
      cases r2 with
      | cons r2 r3 =>
        cases r3
        refine ⟨a, _, rfl, .inl (.inl ep), rfl, _, _, rfl, _, _, rfl, rfl, ?_⟩
        have S' := (S1.set (i := i) r1).set (i := j) r2
        rw [hφ] at S'
        exact hk _ _ B _ G1 H1 S' D hd
  · cases e1
end
section
variable {X : Cx} {pos p2 : Pos} {o : Expr} {lo hi : Option Expr} {to : TE} {tl th : L2.TO}
/-- xs[lo:hi] = ys -/
def gSlc (to : TE) (tl th : L2.TO) : TG := fun v σ H Q => to σ H fun x H1 => tl σ H1 fun l H2 => th σ H2 fun u H3 => ∃ p b xs ys i j, x = .ref p ∧ v = .ref b ∧ l = some i ∧ u = some j ∧ H3 p = some (.lst xs) ∧ H3 b = some (.lst ys) ∧ p ≠ b ∧
  0 ≤ i ∧ i ≤ j ∧ j ≤ xs.length ∧ xs.length + ys.length ≤ sizeLine ∧ Q σ (upd H3 p (.lst (xs.take i.toNat ++ ys ++ xs.drop j.toNat)))
theorem pg_slc (ho : PE X o to) (hl : PO X lo tl) (hh : PO X hi th) (ha : ∀ v, assign (.Subscript o (.Slice lo hi none p2) pos) X.env v = (do
      let ov ← holding [v] (eval o X.env)
      let iv ← holding [v, ov] (eval (.Slice lo hi none p2) X.env)
      standAt pos
      holding [v, ov, iv] (setItem ov iv v)
      release [iv, v, ov] []) := by intro _; rfl) : PG X (.Subscript o (.Slice lo hi none p2) pos) (gSlc to tl th) := by
  constructor
  intro pins s σ H v u Q I r h
  rw [ha]
  refine wpAny_bind (wpAny_holding (thn (ho.run pins s σ H _ I h) fun ov s1 ⟨x, H1, I1, r1, q1⟩ => ?_))
  refine wpAny_bind (wpAny_holding ?_)
  refine wpAny_Slice (thn (hl.run pins s1 σ H1 _ I1 q1) fun vl s2 ⟨l, H2, I2, pl, q2⟩ => thn (hh.run pins s2 σ H2 _ I2 q2) fun vu s3 ⟨w, H3, I3, pu, q3⟩ => ?_)
  rw [evalPart_none]
  refine wpAny_pure ?_
  obtain ⟨p, b, xs, ys, i, j, rfl, rfl, rfl, rfl, hp, hb, ne, z1, z2, z3, z4, q⟩ := q3
  have I4 : Inv X pins σ H3 { s3 with heap := s3.heap.push { cls := .type "slice", data := .fields #[vl, vu, .none] } } := I3.kept (t' := s3.toks) fun _ _ z => Heap.get?_push_of_some _ z
  cases r
  cases r1
  refine wpAny_bind (wpAny_standAt (wpAny_bind (wpAny_holding ?_)))
  refine set_slice (s := { s3 with heap := s3.heap.push { cls := .type "slice", data := .fields #[vl, vu, .none] } }) I4 hp hb ne (Heap.IsSliceOf.new ..) ?_ ?_ z1 z2 z3 z4 fun s' I5 => wpAny_release ⟨σ, _, I5, q⟩
  · cases pl with
    | int i t => exact ⟨_, rfl⟩
  · cases pu with
    | int i t => exact ⟨_, rfl⟩
end
section
variable {X : Cx} {W : WN} {eE : En} {en : En} {ec : Nat → Addr} {pos : Pos} {ω : Type} {T : Bs → ω → Ends → Prop} {rest : List Stmt} {e : Expr}
def setS (ds : List D) (l h : Option Int) (es : List D) : Option (List D) := match l, h with
  | some i, some j => if 0 ≤ i ∧ i ≤ j ∧ j ≤ ds.length ∧ ds.length + es.length ≤ 16000000 then some (ds.take i.toNat ++ es ++ ds.drop j.toNat) else none
  | _, _ => none
theorem xb_slc {i : Nat} {bb : Bool} {p : Addr} {px p2 ps : Pos} {ds : List D} {x : Str} {lo hi : Option Expr} {ml mh : R (Option Int)} {me : R (List D)} {k : List D → R ω} (χ : List D → En) (h : XN X W e en me) (hl : XO X W lo en ml) (hh : XO X W hi en mh) (hk : ∀ ds, XB X W eE rest (χ ds) (k ds) T) (he : en[i]? = some (some (.o bb p (.l ds))) := by rfl) (hφ : ∀ ds, en.set i (some (.o bb p (.l ds))) = χ ds := by intro _; rfl)
    (we : Wk0 eE en := by first | exact wk0_nil | exact wk0_refl | assumption | exact Wkn.wk0 (by repeat' first | exact Wkn.nil | apply Wkn.k | apply Wkn.d)) (hN : X.N[i]? = some x := by rfl) (hv : Vis X.env.scope x := by first | exact Or.inl rfl | exact Or.inr (Or.inl rfl) | exact Or.inr (Or.inr rfl)) (hd : (x == ("__debug__" : Str)) = false := by decide) (hcd : (x == ("__classdict__" : Str)) = false := by decide)
    (h0 : ∀ v, assign (.Subscript (.Name x px) (.Slice lo hi none p2) ps) X.env v = (do
      let ov ← holding [v] (eval (.Name x px) X.env)
      let iv ← holding [v, ov] (eval (.Slice lo hi none p2) X.env)
      standAt ps
      holding [v, ov, iv] (setItem ov iv v)
      release [iv, v, ov] []) := by intro _; rfl)
    (s1 : swapsWithSole [.Subscript (.Name x px) (.Slice lo hi none p2) ps] e pos.line X.env = pure false := by first | exact swaps_no rfl | exact swapsS_no rfl | rfl) (s2 : swappedStores [.Subscript (.Name x px) (.Slice lo hi none p2) ps] e X.env = pure none := by rfl) (s3 : (assignEach [.Subscript (.Name x px) (.Slice lo hi none p2) ps] X.env).map (·.2) = [assign (.Subscript (.Name x px) (.Slice lo hi none p2) ps) X.env] := by rfl) :
    XB X W eE (.Assign [.Subscript (.Name x px) (.Slice lo hi none p2) ps] e pos :: rest) en (me.bnd fun es => ml.bnd fun l => mh.bnd fun h => (R.of (setS ds l h es)).bnd k) T := fun B σ G H S D q => by
  refine pss_to (pss_cons (ps_asg pe_w (pg_slc (pe_var hN hv hd hcd) po_w po_w h0) s1 s2 s3) pss_w) ?_
  refine xn_run h S we (wp_mono (wp_bnd.mp q) (fun es hd' b vs G1 H1 l1 S1 hb0 gb hb1 rb => ?_) fun _ z => z)
  obtain ⟨e1, _, us0, hp0, _⟩ := st_at S1 he
  have nb : p ≠ b := fun z => by
    obtain ⟨_, _, us, hp, _⟩ := st_at S he
    rw [← z, hp] at hb0; cases hb0
  refine ⟨.ref p, e1, ?_⟩
  refine hl σ G1 H1 S1.sl _ (wp_mono (wp_bnd.mp hd') (fun lo' hlo G2 H2 w2 => ?_) fun c hc G2 H2 w => hc σ G2 H2 ((S1.grow w).es.weak we))
  have S2 := S1.grow w2
  refine hh σ G2 H2 S2.sl _ (wp_mono (wp_bnd.mp hlo) (fun hi' hhi G3 H3 w3 => ?_) fun c hc G3 H3 w => hc σ G3 H3 ((S2.grow w).es.weak we))
  have S3 := S2.grow w3
  have w := w2.trans w3
  obtain ⟨ds', e2, hd2⟩ := wp_of (wp_bnd.mp hhi)
  unfold setS at e2
  split at e2
  · rename_i i' j'
    split at e2
    · rename_i hz
      cases e2
      obtain ⟨_, _, us, hp3, r3⟩ := st_at S3 he
      have hb3 := w.h _ _ hb1
      have rb3 := rb.up w.g
      refine ⟨p, b, us, vs, i', j', rfl, rfl, rfl, rfl, hp3, hb3, nb, hz.1, hz.2.1, by rw [r3.len]; exact hz.2.2.1, by rw [r3.len, rb3.len]; exact size_ok hz.2.2.2, ?_⟩
      have S4 := S3.mutL (ds' := (ds.take i'.toNat ++ es ++ ds.drop j'.toNat)) (us := (us.take i'.toNat ++ vs ++ us.drop j'.toNat)) he (((r3.take _).app rb3).app (r3.drop _))
      rw [hφ] at S4
      exact hk _ B σ G3 _ S4 D hd2
    · cases e2
  · cases e2
end

end Wk
set_option maxHeartbeats 4000000
/-! Wk26: longer argument lists; is True, is False. -/
namespace Wk
open PySem PySem.Spec PyProof.Rows L2
/-- a statement that the elaborator does not look into -/
structure Bx (p : Prop) : Prop where
  of : p
section
variable {X : Cx} {W : WN} {en : En} {a1 a2 a3 a4 a5 a6 a7 a8 : Expr} {m1 m2 m3 m4 m5 m6 m7 m8 : R D}
theorem xa_5 (h1 : XP X W a1 en m1) (h2 : XP X W a2 en m2) (h3 : XP X W a3 en m3) (h4 : XP X W a4 en m4) (h5 : XP X W a5 en m5) (e1 : starEach [a1, a2, a3, a4, a5] X.env = (false, eval a1 X.env) :: starEach [a2, a3, a4, a5] X.env := by rfl) (e2 : starEach [a2, a3, a4, a5] X.env = (false, eval a2 X.env) :: starEach [a3, a4, a5] X.env := by rfl) (e3 : starEach [a3, a4, a5] X.env = (false, eval a3 X.env) :: starEach [a4, a5] X.env := by rfl) (e4 : starEach [a4, a5] X.env = (false, eval a4 X.env) :: starEach [a5] X.env := by rfl) (e5 : starEach [a5] X.env = (false, eval a5 X.env) :: starEach [] X.env := by rfl) : XA X W [a1, a2, a3, a4, a5] en (m1.bnd fun x1 => m2.bnd fun x2 => m3.bnd fun x3 => m4.bnd fun x4 => m5.bnd fun x5 => .ok [x1, x2, x3, x4, x5]) := by
  have h := xa_cons h1 (xa_4 h2 h3 h4 h5 e2 e3 e4 e5) e1
  simpa only [bnd_assoc, bnd_ok] using h
theorem xa_5b (h1 : XP X W a1 en m1) (h2 : XP X W a2 en m2) (h3 : XP X W a3 en m3) (h4 : XP X W a4 en m4) (h5 : XP X W a5 en m5) (e1 : starEach [a1, a2, a3, a4, a5] X.env = (false, eval a1 X.env) :: starEach [a2, a3, a4, a5] X.env := by rfl) (e2 : starEach [a2, a3, a4, a5] X.env = (false, eval a2 X.env) :: starEach [a3, a4, a5] X.env := by rfl) (e3 : starEach [a3, a4, a5] X.env = (false, eval a3 X.env) :: starEach [a4, a5] X.env := by rfl) (e4 : starEach [a4, a5] X.env = (false, eval a4 X.env) :: starEach [a5] X.env := by rfl) (e5 : starEach [a5] X.env = (false, eval a5 X.env) :: starEach [] X.env := by rfl) : Bx (XA X W [a1, a2, a3, a4, a5] en (m1.bnd fun x1 => m2.bnd fun x2 => m3.bnd fun x3 => m4.bnd fun x4 => m5.bnd fun x5 => .ok [x1, x2, x3, x4, x5])) := ⟨xa_5 h1 h2 h3 h4 h5 e1 e2 e3 e4 e5⟩
theorem xa_6 (h1 : XP X W a1 en m1) (h2 : XP X W a2 en m2) (h3 : XP X W a3 en m3) (h4 : XP X W a4 en m4) (h5 : XP X W a5 en m5) (h6 : XP X W a6 en m6) (e1 : starEach [a1, a2, a3, a4, a5, a6] X.env = (false, eval a1 X.env) :: starEach [a2, a3, a4, a5, a6] X.env := by rfl) (e2 : starEach [a2, a3, a4, a5, a6] X.env = (false, eval a2 X.env) :: starEach [a3, a4, a5, a6] X.env := by rfl) (e3 : starEach [a3, a4, a5, a6] X.env = (false, eval a3 X.env) :: starEach [a4, a5, a6] X.env := by rfl) (e4 : starEach [a4, a5, a6] X.env = (false, eval a4 X.env) :: starEach [a5, a6] X.env := by rfl) (e5 : starEach [a5, a6] X.env = (false, eval a5 X.env) :: starEach [a6] X.env := by rfl) (e6 : starEach [a6] X.env = (false, eval a6 X.env) :: starEach [] X.env := by rfl) : XA X W [a1, a2, a3, a4, a5, a6] en (m1.bnd fun x1 => m2.bnd fun x2 => m3.bnd fun x3 => m4.bnd fun x4 => m5.bnd fun x5 => m6.bnd fun x6 => .ok [x1, x2, x3, x4, x5, x6]) := by
  have h := xa_cons h1 (xa_5 h2 h3 h4 h5 h6 e2 e3 e4 e5 e6) e1
  simpa only [bnd_assoc, bnd_ok] using h
theorem xa_6b (h1 : XP X W a1 en m1) (h2 : XP X W a2 en m2) (h3 : XP X W a3 en m3) (h4 : XP X W a4 en m4) (h5 : XP X W a5 en m5) (h6 : XP X W a6 en m6) (e1 : starEach [a1, a2, a3, a4, a5, a6] X.env = (false, eval a1 X.env) :: starEach [a2, a3, a4, a5, a6] X.env := by rfl) (e2 : starEach [a2, a3, a4, a5, a6] X.env = (false, eval a2 X.env) :: starEach [a3, a4, a5, a6] X.env := by rfl) (e3 : starEach [a3, a4, a5, a6] X.env = (false, eval a3 X.env) :: starEach [a4, a5, a6] X.env := by rfl) (e4 : starEach [a4, a5, a6] X.env = (false, eval a4 X.env) :: starEach [a5, a6] X.env := by rfl) (e5 : starEach [a5, a6] X.env = (false, eval a5 X.env) :: starEach [a6] X.env := by rfl) (e6 : starEach [a6] X.env = (false, eval a6 X.env) :: starEach [] X.env := by rfl) : Bx (XA X W [a1, a2, a3, a4, a5, a6] en (m1.bnd fun x1 => m2.bnd fun x2 => m3.bnd fun x3 => m4.bnd fun x4 => m5.bnd fun x5 => m6.bnd fun x6 => .ok [x1, x2, x3, x4, x5, x6])) := ⟨xa_6 h1 h2 h3 h4 h5 h6 e1 e2 e3 e4 e5 e6⟩
theorem xa_7 (h1 : XP X W a1 en m1) (h2 : XP X W a2 en m2) (h3 : XP X W a3 en m3) (h4 : XP X W a4 en m4) (h5 : XP X W a5 en m5) (h6 : XP X W a6 en m6) (h7 : XP X W a7 en m7) (e1 : starEach [a1, a2, a3, a4, a5, a6, a7] X.env = (false, eval a1 X.env) :: starEach [a2, a3, a4, a5, a6, a7] X.env := by rfl) (e2 : starEach [a2, a3, a4, a5, a6, a7] X.env = (false, eval a2 X.env) :: starEach [a3, a4, a5, a6, a7] X.env := by rfl) (e3 : starEach [a3, a4, a5, a6, a7] X.env = (false, eval a3 X.env) :: starEach [a4, a5, a6, a7] X.env := by rfl) (e4 : starEach [a4, a5, a6, a7] X.env = (false, eval a4 X.env) :: starEach [a5, a6, a7] X.env := by rfl) (e5 : starEach [a5, a6, a7] X.env = (false, eval a5 X.env) :: starEach [a6, a7] X.env := by rfl) (e6 : starEach [a6, a7] X.env = (false, eval a6 X.env) :: starEach [a7] X.env := by rfl) (e7 : starEach [a7] X.env = (false, eval a7 X.env) :: starEach [] X.env := by rfl) : XA X W [a1, a2, a3, a4, a5, a6, a7] en (m1.bnd fun x1 => m2.bnd fun x2 => m3.bnd fun x3 => m4.bnd fun x4 => m5.bnd fun x5 => m6.bnd fun x6 => m7.bnd fun x7 => .ok [x1, x2, x3, x4, x5, x6, x7]) := by
  have h := xa_cons h1 (xa_6 h2 h3 h4 h5 h6 h7 e2 e3 e4 e5 e6 e7) e1
  simpa only [bnd_assoc, bnd_ok] using h
theorem xa_7b (h1 : XP X W a1 en m1) (h2 : XP X W a2 en m2) (h3 : XP X W a3 en m3) (h4 : XP X W a4 en m4) (h5 : XP X W a5 en m5) (h6 : XP X W a6 en m6) (h7 : XP X W a7 en m7) (e1 : starEach [a1, a2, a3, a4, a5, a6, a7] X.env = (false, eval a1 X.env) :: starEach [a2, a3, a4, a5, a6, a7] X.env := by rfl) (e2 : starEach [a2, a3, a4, a5, a6, a7] X.env = (false, eval a2 X.env) :: starEach [a3, a4, a5, a6, a7] X.env := by rfl) (e3 : starEach [a3, a4, a5, a6, a7] X.env = (false, eval a3 X.env) :: starEach [a4, a5, a6, a7] X.env := by rfl) (e4 : starEach [a4, a5, a6, a7] X.env = (false, eval a4 X.env) :: starEach [a5, a6, a7] X.env := by rfl) (e5 : starEach [a5, a6, a7] X.env = (false, eval a5 X.env) :: starEach [a6, a7] X.env := by rfl) (e6 : starEach [a6, a7] X.env = (false, eval a6 X.env) :: starEach [a7] X.env := by rfl) (e7 : starEach [a7] X.env = (false, eval a7 X.env) :: starEach [] X.env := by rfl) : Bx (XA X W [a1, a2, a3, a4, a5, a6, a7] en (m1.bnd fun x1 => m2.bnd fun x2 => m3.bnd fun x3 => m4.bnd fun x4 => m5.bnd fun x5 => m6.bnd fun x6 => m7.bnd fun x7 => .ok [x1, x2, x3, x4, x5, x6, x7])) := ⟨xa_7 h1 h2 h3 h4 h5 h6 h7 e1 e2 e3 e4 e5 e6 e7⟩
theorem xa_8 (h1 : XP X W a1 en m1) (h2 : XP X W a2 en m2) (h3 : XP X W a3 en m3) (h4 : XP X W a4 en m4) (h5 : XP X W a5 en m5) (h6 : XP X W a6 en m6) (h7 : XP X W a7 en m7) (h8 : XP X W a8 en m8) (e1 : starEach [a1, a2, a3, a4, a5, a6, a7, a8] X.env = (false, eval a1 X.env) :: starEach [a2, a3, a4, a5, a6, a7, a8] X.env := by rfl) (e2 : starEach [a2, a3, a4, a5, a6, a7, a8] X.env = (false, eval a2 X.env) :: starEach [a3, a4, a5, a6, a7, a8] X.env := by rfl) (e3 : starEach [a3, a4, a5, a6, a7, a8] X.env = (false, eval a3 X.env) :: starEach [a4, a5, a6, a7, a8] X.env := by rfl) (e4 : starEach [a4, a5, a6, a7, a8] X.env = (false, eval a4 X.env) :: starEach [a5, a6, a7, a8] X.env := by rfl) (e5 : starEach [a5, a6, a7, a8] X.env = (false, eval a5 X.env) :: starEach [a6, a7, a8] X.env := by rfl) (e6 : starEach [a6, a7, a8] X.env = (false, eval a6 X.env) :: starEach [a7, a8] X.env := by rfl) (e7 : starEach [a7, a8] X.env = (false, eval a7 X.env) :: starEach [a8] X.env := by rfl) (e8 : starEach [a8] X.env = (false, eval a8 X.env) :: starEach [] X.env := by rfl) : XA X W [a1, a2, a3, a4, a5, a6, a7, a8] en (m1.bnd fun x1 => m2.bnd fun x2 => m3.bnd fun x3 => m4.bnd fun x4 => m5.bnd fun x5 => m6.bnd fun x6 => m7.bnd fun x7 => m8.bnd fun x8 => .ok [x1, x2, x3, x4, x5, x6, x7, x8]) := by
  have h := xa_cons h1 (xa_7 h2 h3 h4 h5 h6 h7 h8 e2 e3 e4 e5 e6 e7 e8) e1
  simpa only [bnd_assoc, bnd_ok] using h
theorem xa_8b (h1 : XP X W a1 en m1) (h2 : XP X W a2 en m2) (h3 : XP X W a3 en m3) (h4 : XP X W a4 en m4) (h5 : XP X W a5 en m5) (h6 : XP X W a6 en m6) (h7 : XP X W a7 en m7) (h8 : XP X W a8 en m8) (e1 : starEach [a1, a2, a3, a4, a5, a6, a7, a8] X.env = (false, eval a1 X.env) :: starEach [a2, a3, a4, a5, a6, a7, a8] X.env := by rfl) (e2 : starEach [a2, a3, a4, a5, a6, a7, a8] X.env = (false, eval a2 X.env) :: starEach [a3, a4, a5, a6, a7, a8] X.env := by rfl) (e3 : starEach [a3, a4, a5, a6, a7, a8] X.env = (false, eval a3 X.env) :: starEach [a4, a5, a6, a7, a8] X.env := by rfl) (e4 : starEach [a4, a5, a6, a7, a8] X.env = (false, eval a4 X.env) :: starEach [a5, a6, a7, a8] X.env := by rfl) (e5 : starEach [a5, a6, a7, a8] X.env = (false, eval a5 X.env) :: starEach [a6, a7, a8] X.env := by rfl) (e6 : starEach [a6, a7, a8] X.env = (false, eval a6 X.env) :: starEach [a7, a8] X.env := by rfl) (e7 : starEach [a7, a8] X.env = (false, eval a7 X.env) :: starEach [a8] X.env := by rfl) (e8 : starEach [a8] X.env = (false, eval a8 X.env) :: starEach [] X.env := by rfl) : Bx (XA X W [a1, a2, a3, a4, a5, a6, a7, a8] en (m1.bnd fun x1 => m2.bnd fun x2 => m3.bnd fun x3 => m4.bnd fun x4 => m5.bnd fun x5 => m6.bnd fun x6 => m7.bnd fun x7 => m8.bnd fun x8 => .ok [x1, x2, x3, x4, x5, x6, x7, x8])) := ⟨xa_8 h1 h2 h3 h4 h5 h6 h7 h8 e1 e2 e3 e4 e5 e6 e7 e8⟩
end
def D.isB : D → D → Option Bool
  | .bl a, .bl b => some (decide (a = b))
  | _, _ => none
def D.nisB (x y : D) : Option Bool := (D.isB x y).map fun b => !b
@[simp] theorem s_isB {a b : Bool} : D.isB (.bl a) (.bl b) = some (decide (a = b)) := by exact id rfl
@[simp] theorem s_nisB {a b : Bool} : D.nisB (.bl a) (.bl b) = some (!decide (a = b)) := by exact id rfl
section
variable {X : Cx} {K : PySem.W.Frag}
theorem o_isB : OpR X (compareOp .Is) rIsB := op_isBl
theorem o_nisB : OpR X (compareOp .IsNot) rNotB := op_notBl
theorem d_isB : OpD K rIsB (fun x y => (D.isB x y).map .bl) := fun G H x y dx dy d l rx ry e Q q => by
  obtain ⟨b, e1, rfl⟩ := Option.map_eq_some_iff.mp e
  unfold D.isB at e1
  split at e1
  · cases e1; cases rx; cases ry; exact ⟨_, _, rfl, rfl, keepQ l q (.bl _)⟩
  · cases e1
theorem d_nisB : OpD K rNotB (fun x y => (D.nisB x y).map .bl) := fun G H x y dx dy d l rx ry e Q q => by
  obtain ⟨b0, e0, rfl⟩ := Option.map_eq_some_iff.mp e
  obtain ⟨b, e1, rfl⟩ := Option.map_eq_some_iff.mp e0
  unfold D.isB at e1
  split at e1
  · cases e1; cases rx; cases ry; exact ⟨_, _, rfl, rfl, keepQ l q (.bl _)⟩
  · cases e1
end
section
variable {K : PySem.W.Frag} {ec : Nat → Addr}
theorem spN_imp4 {f : D → D → D → D → R Unit} : ∀ vs H Q E, spR K ec (rP K) 4 (ap4 fun a b c d => (f a b c d).bnd fun _ => .ok .non) vs H Q E → spR K ec (rP K) 4 (fun ds => (ap4 f ds).bnd fun _ => .ok .non) vs H Q E :=
  spR_imp fun ds => by
    match ds with
    | [] => rfl
    | [_] => rfl
    | [_, _] => rfl
    | [_, _, _] => rfl
    | [_, _, _, _] => rfl
    | _ :: _ :: _ :: _ :: _ :: _ => rfl
end
section
variable {X : Cx} {W : WN} {en : En}
theorem xn_lstB {es : List Expr} {pos : Pos} {ms : R (List D)} (h : Bx (XA X W es en ms)) : Bx (XN X W (.List es pos) en (ms.bnd fun ds => R.of (fits ds))) := ⟨xn_lst h.of⟩
theorem xn_xpB {e : Expr} {m : R (List D)} (h : Bx (XN X W e en m)) : Bx (XP X W e en (m.bnd fun ds => .ok (.lst ds))) := ⟨xn_xp h.of⟩
theorem xb_letB {ω : Type} {ec : Nat → Addr} {eE : En} {T : Bs → ω → Ends → Prop} {rest : List Stmt} {e : Expr} {pos : Pos} {i : Nat} {x : Str} {p : Pos} {m : R D} {k : D → R ω} (g : Go X ec W) (φ : D → En) (h : Bx (XP X W e en m)) (hk : ∀ d, XB X W eE rest (φ d) (k d) T) (hi : X.N[i]? = some x := by rfl) (hφ : ∀ d, en.set i (some (.v d)) = φ d := by intro _; rfl)
    (hx : Loc X.env.scope x := by first | exact Or.inl rfl | exact Or.inr rfl) (we : Wk0 eE en := by first | exact wk0_nil | exact wk0_refl | assumption | exact Wkn.wk0 (by repeat' first | exact Wkn.nil | apply Wkn.k | apply Wkn.d)) (hs : swapsWith e (some (.Name x p)) pos.line X.env = pure false := by first | exact swaps_no rfl | exact swapsS_no rfl | rfl)
    (hf : X.fn x = true ∨ X.env.scope.names.lookup x = some .local := by first | exact .inl rfl | exact .inr rfl) : Bx (XB X W eE (.Assign [.Name x p] e pos :: rest) en (m.bnd k) T) := ⟨xb_let g φ h.of hk hi hφ hx we hs hf⟩
theorem xb_twoB {ω : Type} {ec : Nat → Addr} {eE : En} {T : Bs → ω → Ends → Prop} {rest : List Stmt} {pos : Pos} {i j : Nat} {x y : Str} {p p' p2 : Pos} {kk : Nat} {e : Expr} {m : R D} {k : D → D → R ω} (g : Go X ec W) (φ : D → D → En) (h : XP X W e en m) (hk : ∀ d d', Bx (XB X W eE rest (φ d d') (k d d') T)) (hN : X.N[i]? = some x := by rfl) (hN' : X.N[j]? = some y := by rfl) (hφ : ∀ d d', (en.set i (some (.v d))).set j (some (.v d')) = φ d d' := by intro _ _; rfl)
    (hx : Loc X.env.scope x := by first | exact Or.inl rfl | exact Or.inr rfl) (hx' : Loc X.env.scope y := by first | exact Or.inl rfl | exact Or.inr rfl) (we : Wk0 eE en := by first | exact wk0_nil | exact wk0_refl | assumption | exact Wkn.wk0 (by repeat' first | exact Wkn.nil | apply Wkn.k | apply Wkn.d)) (hf : X.fn x = true ∨ X.env.scope.names.lookup x = some .local := by first | exact .inl rfl | exact .inr rfl) (hf' : X.fn y = true ∨ X.env.scope.names.lookup y = some .local := by first | exact .inl rfl | exact .inr rfl)
    (hn : (assignEach [.Name x p, .Name y p'] X.env).length = 2 := by rfl) (hst : (assignEach [.Name x p, .Name y p'] X.env).findIdx? (·.1) = none := by rfl)
    (h1 : (assignEach [.Name x p, .Name y p'] X.env).map (·.2) = assign (.Name x p) X.env :: (assignEach [.Name y p'] X.env).map (·.2) := by rfl) (h2 : (assignEach [.Name y p'] X.env).map (·.2) = assign (.Name y p') X.env :: (assignEach [] X.env).map (·.2) := by rfl)
    (s1 : swapsWithSole [.Tuple [.Name x p, .Name y p'] kk p2] e pos.line X.env = pure false := by first | exact swaps_no rfl | exact swapsS_no rfl | rfl) (s2 : swappedStores [.Tuple [.Name x p, .Name y p'] kk p2] e X.env = pure none := by rfl) (s3 : (assignEach [.Tuple [.Name x p, .Name y p'] kk p2] X.env).map (·.2) = [assign (.Tuple [.Name x p, .Name y p'] kk p2) X.env] := by rfl) :
    XB X W eE (.Assign [.Tuple [.Name x p, .Name y p'] kk p2] e pos :: rest) en (R.bU2 m k) T := xb_two g φ h (fun d d' => (hk d d').of) hN hN' hφ hx hx' we hf hf' hn hst h1 h2 s1 s2 s3
end

end Wk
set_option maxHeartbeats 4000000
/-! Wk27: two places of a list at once. -/
namespace Wk
open PySem PySem.Spec PyProof.Rows L2
section
variable {X : Cx} {W : WN} {eE : En} {ec : Nat → Addr} {en : En} {pos : Pos} {rest : List Stmt} {ω : Type} {T : Bs → ω → Ends → Prop}
theorem xb_twoPut {i : Nat} {b : Bool} {p : Addr} {px px' ps1 ps2 p2 : Pos} {kk : Nat} {ds : List D} {x : Str} {a1 a2 e : Expr} {ma mb me : R D} {k : List D → R ω} (g : Go X ec W) (φ : List D → En) (h : XP X W e en me) (ha : XP X W a1 en ma) (hb : ∀ ds, XP X W a2 (φ ds) mb) (hk : ∀ ds, XB X W eE rest (φ ds) (k ds) T)
    (he : en[i]? = some (some (.o b p (.l ds))) := by rfl) (he2 : ∀ ds, (φ ds)[i]? = some (some (.o b p (.l ds))) := by intro _; rfl) (hφ : ∀ ds, en.set i (some (.o b p (.l ds))) = φ ds := by intro _; rfl) (hφ2 : ∀ ds ds', (φ ds).set i (some (.o b p (.l ds'))) = φ ds' := by intro _ _; rfl)
    (we : Wk0 eE en := by first | exact wk0_nil | exact wk0_refl | assumption | exact Wkn.wk0 (by repeat' first | exact Wkn.nil | apply Wkn.k | apply Wkn.d)) (we2 : ∀ ds, Wk0 eE (φ ds) := by intro _; first | exact wk0_nil | exact wk0_refl | assumption | exact Wkn.wk0 (by repeat' first | exact Wkn.nil | apply Wkn.k | apply Wkn.d))
    (hN : X.N[i]? = some x := by rfl) (hv : Vis X.env.scope x := by first | exact Or.inl rfl | exact Or.inr (Or.inl rfl) | exact Or.inr (Or.inr rfl)) (hd : (x == ("__debug__" : Str)) = false := by decide) (hcd : (x == ("__classdict__" : Str)) = false := by decide)
    (h0 : ∀ v, assign (.Subscript (.Name x px) a1 ps1) X.env v = (do
      let ov ← holding [v] (eval (.Name x px) X.env)
      let iv ← holding [v, ov] (eval a1 X.env)
      standAt ps1
      holding [v, ov, iv] (setItem ov iv v)
      release [v, ov, iv] []) := by intro _; rfl)
    (h0' : ∀ v, assign (.Subscript (.Name x px') a2 ps2) X.env v = (do
      let ov ← holding [v] (eval (.Name x px') X.env)
      let iv ← holding [v, ov] (eval a2 X.env)
      standAt ps2
      holding [v, ov, iv] (setItem ov iv v)
      release [v, ov, iv] []) := by intro _; rfl)
    (hn : (assignEach [.Subscript (.Name x px) a1 ps1, .Subscript (.Name x px') a2 ps2] X.env).length = 2 := by rfl) (hst : (assignEach [.Subscript (.Name x px) a1 ps1, .Subscript (.Name x px') a2 ps2] X.env).findIdx? (·.1) = none := by rfl)
    (h1 : (assignEach [.Subscript (.Name x px) a1 ps1, .Subscript (.Name x px') a2 ps2] X.env).map (·.2) = assign (.Subscript (.Name x px) a1 ps1) X.env :: (assignEach [.Subscript (.Name x px') a2 ps2] X.env).map (·.2) := by rfl)
    (h2 : (assignEach [.Subscript (.Name x px') a2 ps2] X.env).map (·.2) = assign (.Subscript (.Name x px') a2 ps2) X.env :: (assignEach [] X.env).map (·.2) := by rfl)
    (s1 : swapsWithSole [.Tuple [.Subscript (.Name x px) a1 ps1, .Subscript (.Name x px') a2 ps2] kk p2] e pos.line X.env = pure false := by first | exact swaps_no rfl | exact swapsS_no rfl | rfl) (s2 : swappedStores [.Tuple [.Subscript (.Name x px) a1 ps1, .Subscript (.Name x px') a2 ps2] kk p2] e X.env = pure none := by rfl)
    (s3 : (assignEach [.Tuple [.Subscript (.Name x px) a1 ps1, .Subscript (.Name x px') a2 ps2] kk p2] X.env).map (·.2) = [assign (.Tuple [.Subscript (.Name x px) a1 ps1, .Subscript (.Name x px') a2 ps2] kk p2) X.env] := by rfl) :
    XB X W eE (.Assign [.Tuple [.Subscript (.Name x px) a1 ps1, .Subscript (.Name x px') a2 ps2] kk p2] e pos :: rest) en (me.bnd fun d => (R.of d.two).bnd fun q => ma.bnd fun j => (R.of (setD ds j q.1)).bnd fun l => mb.bnd fun j' => (R.of (setD l j' q.2)).bnd k) T := fun B σ G H S D q => by
  refine pss_to (pss_cons (ps_asg pe_w (pg_tup g.calm (pgs_cons (pg_sub (pe_var hN hv hd hcd) pe_w set_list h0) (pgs_cons (pg_sub (pe_var hN hv hd hcd) pe_w set_list h0') pgs_nil h2) h1) hn hst) s1 s2 s3) pss_w) ?_
  refine xp_run h S we (wp_mono (wp_bnd.mp q) (fun d hd' v G1 H1 l1 S1 r1 => ?_) fun _ z => z)
  obtain ⟨(z : Wk.D × Wk.D), e1, hz⟩ := wp_of (wp_bnd.mp hd')
  unfold Wk.D.two at e1
  split at e1
  · cases e1
    cases r1 with
    | tup hs hall =>
      cases hall with
      | cons ra h2 =>
        cases h2 with
        | cons rb h3 =>
          cases h3
          refine ⟨_, _, rfl, S1.es.fr.up.le.seqT hs, rfl, _, _, rfl, ?_⟩
          obtain ⟨e1, _, _, _, _⟩ := st_at S1 he
          refine ⟨.ref p, e1, ?_⟩
          refine xp_run ha S1 we (wp_mono (wp_bnd.mp hz) (fun j hj u G2 H2 l2 S2 r2 => ?_) fun _ z => z)
          obtain ⟨ds', e2, hd2⟩ := wp_of (wp_bnd.mp hj)
          unfold setD at e2
          split at e2
          · rename_i j'
            obtain ⟨n, e3, rfl⟩ := Option.map_eq_some_iff.mp e2
            cases r2
            obtain ⟨_, _, us, hp3, r3⟩ := st_at S2 he
            refine ⟨p, us, _, n, rfl, rfl, hp3, by rw [r3.len]; exact e3, ?_⟩
            have S3 := S2.mutL (ds' := (ds.set n _)) (us := (us.set n _)) he (r3.set (ra.up l2) n)
            rw [hφ] at S3
            refine ⟨_, _, rfl, ?_⟩
            obtain ⟨e4, _, _, _, _⟩ := st_at S3 (he2 _)
            refine ⟨.ref p, e4, ?_⟩
            refine xp_run (hb _) S3 (we2 _) (wp_mono (wp_bnd.mp hd2) (fun j2 hj2 u2 G4 H4 l4 S4 r4 => ?_) fun _ z => z)
            obtain ⟨ds2, e5, hd5⟩ := wp_of (wp_bnd.mp hj2)
            unfold setD at e5
            split at e5
            · rename_i j3
              obtain ⟨n2, e6, rfl⟩ := Option.map_eq_some_iff.mp e5
              cases r4
              obtain ⟨_, _, us2, hp4, r5⟩ := st_at S4 (he2 _)
              refine ⟨p, us2, _, n2, rfl, rfl, hp4, by rw [r5.len]; exact e6, ?_⟩
              have S5 := S4.mutL (ds' := _) (us := (us2.set n2 _)) (he2 _) (r5.set ((rb.up l2).up l4) n2)
              rw [hφ2] at S5
              exact ⟨rfl, hk _ B σ G4 _ S5 D hd5⟩
            · cases e5
          · cases e2
  · cases e1
end
end Wk
set_option maxHeartbeats 4000000
/-! Wk28: slices and lists of changes, methods of lists and texts. -/
namespace Wk
open PySem PySem.Spec PyProof.Rows L2
section
variable {X : Cx} {W : WN} {eE : En} {en : En} {ec : Nat → Addr} {pos : Pos} {γ δ ω : Type} {φ : γ → En} {ψ : δ → En} {a b c : Expr} {es : List Expr} {T : Bs → ω → Ends → Prop} {rest : List Stmt}
/-- e[:b], b changing what one owns -/
theorem xv_cutTo {ma : R D} {mb : R (D × γ)} {p2 : Pos} (ha : XP X W a en ma) (hb : XV X W eE b en mb φ) (we : Wk0 eE en := by first | exact wk0_nil | exact wk0_refl | assumption | exact Wkn.wk0 (by repeat' first | exact Wkn.nil | apply Wkn.k | apply Wkn.d)) :
    XV X W eE (.Subscript a (.Slice none (some b) none p2) pos) en (ma.bnd fun x => mb.bnd2 fun y c => (R.of y.toI).bnd fun i => (R.of (x.cut none (some i))).bnd fun d => .ok (d, c)) φ := fun B σ G H S Q k => by
  refine pe_to (pe_slice sl_tupA pe_w po_none (po_some pe_w)) (xp_run ha S we (wp_mono (wp_bnd.mp k) (fun x hx v G1 H1 l1 S1 r1 => ?_) fun _ z => z))
  refine hb B σ G1 H1 S1 _ (wp_mono (wp_bnd.mp hx) (fun y hy u G2 H2 l2 S2 r2 => ?_) fun _ z => z)
  obtain ⟨i, e1, hy⟩ := wp_of (wp_bnd.mp hy)
  obtain ⟨d, e, hd⟩ := wp_of (wp_bnd.mp hy)
  have e1' : y.1 = .int i := by
    cases hq : y.1 <;> rw [hq] at e1 <;> cases e1
    rfl
  rw [e1'] at r2
  cases r2
  refine ⟨i, rfl, ?_⟩
  unfold D.cut at e
  cases x with
  | tup xs =>
    cases e
    cases r1 with
    | @tup p vs _ h1 r1 =>
      have r3 := r1.up l2
      refine ⟨p, vs, rfl, (S2.lk.le.seqT (l2.seqT h1)), fun z => ?_, fun _ q hq => ?_⟩
      · refine hd _ _ _ (l1.trans l2) S2 ?_
        have e1 : cutD xs none (some i) = xs := by
          unfold cutD
          rw [← r1.len, z.1, z.2, Nat.sub_zero, List.drop_zero, r1.len, List.take_length]
        rw [e1]
        exact .tup (l2.seqT h1) r3
      · have w4 := Grow.new (o := .tup (cutV vs none (some i))) S2.lk hq rfl
        exact hd _ _ _ ((l1.trans l2).trans w4.g) (S2.grow w4) (.tup (.inl (.inl upd_same)) ((r3.cut none (some i)).up w4.g))
  | _ => cases e
/-- list(..) of what changes -/
theorem xnv_callTy {x : Str} {id : String} {e : Expr} {r : List V → Hp → VK → Prop} {f : List D → Option (List D)} {m : R (List D × γ)} {p : Pos} (hc : CallR X (.type id) r) (hf : CallN X.K r f) (hm : X.mg x = none) (hv : bootBuiltins x = some (.type id))
    (ha : XAV X W eE (e :: es) en m φ) (hg : Gl X x := by rfl) (hn : x ≠ "__name__" := by decide) (hdb : (x == ("__debug__" : Str)) = false := by decide) (h1 : starEach (e :: es) X.env = (false, eval e X.env) :: starEach es X.env := by rfl) (h2 : (backTo pos (starEach es X.env)).any (·.1) = false := by rfl) :
    XNV X W eE (.Call (.Name x p) (e :: es) [] pos) en (m.bnd2 fun q c => (R.of (f q)).bnd fun d => .ok (d, c)) φ := fun B σ G H S Q k => by
  refine pe_to (pe_callTy hc hg hm hv pa_w hn hdb h1 h2) (ha B σ G H S _ (wp_mono (wp_bnd.mp k) (fun q hq vs G1 H1 l1 S1 r1 => ?_) fun _ z => z))
  obtain ⟨d, e, hd⟩ := wp_of (wp_bnd.mp hq)
  exact hf G1 H1 vs _ d S1.lk r1 e Q fun p vs G3 H3 w3 hp gp e3 r3 => hd p vs G3 H3 (l1.trans w3.g) (S1.grow w3) (S1.h0 hp) (S1.noOwn hp) gp e3 r3
/-- two lists joined, or one so many times, of what changes -/
theorem xnv_two {f : D → D → Option (List D)} {r : R2} {e : Expr} {m : R ((D × D) × γ)} (hf : OpN X.K r f) (h : X2V X W eE a b en m φ) (hr : PE X e (tOp r (wE X a) (wE X b))) : XNV X W eE e en (m.bnd2 fun q c => (R.of (f q.1 q.2)).bnd fun d => .ok (d, c)) φ := fun B σ G H S Q k => by
  refine pe_to hr (h B σ G H S _ (wp_mono (wp_bnd.mp k) (fun q hq v u G1 H1 l1 S1 r1 r2 => ?_) fun _ z => z))
  obtain ⟨d, e, hd⟩ := wp_of (wp_bnd.mp hq)
  exact hf G1 H1 v u _ _ d S1.lk r1 r2 e Q fun p vs G3 H3 w3 hp gp e3 r3 => hd p vs G3 H3 (l1.trans w3.g) (S1.grow w3) (S1.h0 hp) (S1.noOwn hp) gp e3 r3
/-! x.pop(a), x one's own list -/
def popAtD (ds : List D) : D → Option (D × List D)
  | .int i => if -1000000 < i ∧ i < 16000000 then (seqIndex? i ds.length).bind fun k => ds[k]?.map fun d => (d, ds.eraseIdx k) else none
  | _ => none
theorem RpAll.erase {K : PySem.W.Frag} {G : Hp} : ∀ {ds : List D} {vs : List V} (n : Nat), RpAll K G vs ds → RpAll K G (vs.eraseIdx n) (ds.eraseIdx n)
  | [], _, _, h => by cases h; exact .nil
  | d :: ds, _, n, h => by
    cases h with
    | cons a b =>
      cases n with
      | zero => exact b
      | succ n => exact .cons a (RpAll.erase n b)
theorem xv_popI {i : Nat} {bb : Bool} {q : Addr} {x : Str} {px pa pc : Pos} {m : R (D × γ)} {c0 : OO} (cn : γ → List D) (χ : γ × List D → En) (h : XV X W eE a en m φ) (hy : en[i]? = some (some (.o bb q c0)) := by rfl) (he : ∀ c, (φ c)[i]? = some (some (.o bb q (.l (cn c)))) := by intro _; rfl) (hχ : ∀ c o, (φ c).set i (some (.o bb q (.l o))) = χ (c, o) := by intro _ _; rfl)
    (hl : ∃ l0, c0 = .l l0 := by exact ⟨_, rfl⟩)
    (hN : X.N[i]? = some x := by rfl) (hv : Vis X.env.scope x := by first | exact Or.inl rfl | exact Or.inr (Or.inl rfl) | exact Or.inr (Or.inr rfl)) (hd : (x == ("__debug__" : Str)) = false := by decide) (hcd : (x == ("__classdict__" : Str)) = false := by decide)
    (hbase : attributeBase (.Name x px) "pop" X.env (eval (.Name x px) X.env) = eval (.Name x px) X.env := by rfl)
    (hfew : ((backTo pc (starEach [a] X.env)).all (fun x => !x.1) && (backToKw pc (keywordEach [] X.env)).all (fun x => x.1.isSome)
      && decide (([a] : List Expr).length + ([] : List Keyword).length + (if ([] : List Keyword).isEmpty then 0 else 1) < 30)) = true := by rfl)
    (hline : (pa.endLine == pc.line) = true := by rfl) (hs : starEach [a] X.env = (false, eval a X.env) :: starEach [] X.env := by rfl) (hplain : (backTo pc (starEach [] X.env)).any (·.1) = false := by rfl) :
    XV X W eE (.Call (.Attribute (.Name x px) "pop" pa) [a] [] pc) en (m.bnd2 fun d c => (R.of (popAtD (cn c) d)).bnd fun r => .ok (r.1, (c, r.2))) χ := fun B σ G H S Q k => by
  obtain ⟨l0, rfl⟩ := hl
  obtain ⟨e1, g0, vs, hp, rr⟩ := st_at S hy
  refine pe_to (pe_bm PySem.F.plainAttrs_list PySem.F.slot_list_pop PySem.F.type_list_pop mt_popAt (pe_var hN hv hd hcd) (pa_cons pe_w pa_nil hs) hbase hfew hline hs hplain) ⟨.ref q, e1, .inl ⟨rfl, vs, .inl (.inl hp)⟩, ?_⟩
  refine h B σ G H S _ (wp_mono (wp_bnd.mp k) (fun y hq v G1 H1 l1 S1 r1 => ?_) fun _ z => z)
  obtain ⟨r, e2, hr⟩ := wp_of (wp_bnd.mp hq)
  obtain ⟨_, g3, us, hp3, r3⟩ := st_at S1 (he y.2)
  unfold popAtD at e2
  split at e2
  · rename_i j hj
    split at e2
    · rename_i hb
      obtain ⟨k', e3, e4⟩ := Option.bind_eq_some_iff.mp e2
      obtain ⟨d, e5, rfl⟩ := Option.map_eq_some_iff.mp e4
      rw [hj] at r1
      cases r1
      obtain ⟨w, e6, rw_⟩ := r3.get e5
      refine ⟨q, us, j, k', w, rfl, rfl, hp3, by omega, by omega, by rw [r3.len]; exact e3, e6, ?_⟩
      have S2 := S1.mutL (ds' := ((cn y.2).eraseIdx k')) (us := (us.eraseIdx k')) (he y.2) (r3.erase k')
      rw [hχ] at S2
      exact hr _ _ _ l1 S2 rw_
    · cases e2
  · cases e2
theorem xv_popP {i : Nat} {bb : Bool} {q : Addr} {x : Str} {px pa pc : Pos} {m : R D} {l0 : List D} (χ : List D → En) (h : XP X W a en m) (hy : en[i]? = some (some (.o bb q (.l l0))) := by rfl) (hχ : ∀ o, en.set i (some (.o bb q (.l o))) = χ o := by intro _; rfl)
    (hN : X.N[i]? = some x := by rfl) (hv : Vis X.env.scope x := by first | exact Or.inl rfl | exact Or.inr (Or.inl rfl) | exact Or.inr (Or.inr rfl)) (hd : (x == ("__debug__" : Str)) = false := by decide) (hcd : (x == ("__classdict__" : Str)) = false := by decide)
    (hbase : attributeBase (.Name x px) "pop" X.env (eval (.Name x px) X.env) = eval (.Name x px) X.env := by rfl)
    (hfew : ((backTo pc (starEach [a] X.env)).all (fun x => !x.1) && (backToKw pc (keywordEach [] X.env)).all (fun x => x.1.isSome)
      && decide (([a] : List Expr).length + ([] : List Keyword).length + (if ([] : List Keyword).isEmpty then 0 else 1) < 30)) = true := by rfl)
    (hline : (pa.endLine == pc.line) = true := by rfl) (hs : starEach [a] X.env = (false, eval a X.env) :: starEach [] X.env := by rfl) (hplain : (backTo pc (starEach [] X.env)).any (·.1) = false := by rfl)
    (we : Wk0 eE en := by first | exact wk0_nil | exact wk0_refl | assumption | exact Wkn.wk0 (by repeat' first | exact Wkn.nil | apply Wkn.k | apply Wkn.d)) :
    XV X W eE (.Call (.Attribute (.Name x px) "pop" pa) [a] [] pc) en (m.bnd fun d => R.of (popAtD l0 d)) χ := fun B σ G H S Q k => by
  refine xv_popI (γ := Unit) (φ := fun _ => en) (i := i) (fun _ => l0) (fun z => en.set i (some (.o bb q (.l z.2)))) (xv_of (cc := ()) h rfl we) hy (fun _ => hy) (fun _ _ => rfl) ⟨_, rfl⟩ hN hv hd hcd hbase hfew hline hs hplain B σ G H S Q ?_
  cases em : m with
  | ok r' =>
    rw [em] at k
    have k : Post X W eE B (R.of (popAtD l0 r')) _ := k
    show Post X W eE B ((R.of (popAtD l0 r')).bnd fun r => .ok (r.1, ((), r.2))) _
    refine wp_bnd.mpr (wp_mono k (fun o ho => ?_) fun _ z => z)
    intro v G2 H2 l S2 r2
    refine ho v G2 H2 l ?_ r2
    rw [← hχ]
    exact S2
  | err c => rw [em] at k; exact k
  | bad => rw [em] at k; exact k
/-! xs.index(y) of whole numbers -/
def idxI : List Int → Int → Option Nat
  | [], _ => none
  | x :: xs, y => if x = y then some 0 else (idxI xs y).map (· + 1)
theorem idxI_some : ∀ {xs : List Int} {y : Int} {j : Nat}, idxI xs y = some j → xs[j]? = some y ∧ ∀ m z, m < j → xs[m]? = some z → z ≠ y
  | [], y, j, h => by cases h
  | x :: xs, y, j, h => by
    unfold idxI at h
    split at h
    · rename_i e; cases h; exact ⟨by simp [e], fun m z hm => by omega⟩
    · rename_i e
      obtain ⟨k, e1, rfl⟩ := Option.map_eq_some_iff.mp h
      obtain ⟨h1, h2⟩ := idxI_some e1
      refine ⟨by simpa using h1, fun m z hm hz => ?_⟩
      cases m with
      | zero => simp at hz; rw [← hz]; exact e
      | succ m => exact h2 m z (by omega) (by simpa using hz)
def D.lsl : D → Option (List D)
  | .lst xs => some xs
  | _ => none
def idxD (xs : List D) : D → Option D
  | .int y => (intsD xs).bind fun ns => (idxI ns y).map fun j => .int (j : Nat)
  | _ => none
theorem xp_index {ma mb : R D} {pa pc : Pos} (ha : XP X W a en ma) (hb : XP X W b en mb)
    (hbase : attributeBase a "index" X.env (eval a X.env) = eval a X.env := by rfl)
    (hfew : ((backTo pc (starEach [b] X.env)).all (fun x => !x.1) && (backToKw pc (keywordEach [] X.env)).all (fun x => x.1.isSome)
      && decide (([b] : List Expr).length + ([] : List Keyword).length + (if ([] : List Keyword).isEmpty then 0 else 1) < 30)) = true := by rfl)
    (hline : (pa.endLine == pc.line) = true := by rfl) (hs : starEach [b] X.env = (false, eval b X.env) :: starEach [] X.env := by rfl) (hplain : (backTo pc (starEach [] X.env)).any (·.1) = false := by rfl) :
    XP X W (.Call (.Attribute a "index" pa) [b] [] pc) en (ma.bnd fun x => (R.of x.lsl).bnd fun xs => mb.bnd fun y => R.of (idxD xs y)) := fun σ G H S Q k => by
  refine pe_to (pe_bm PySem.F.plainAttrs_list PySem.F.slot_list_index PySem.F.type_list_index mt_index pe_w (pa_cons pe_w pa_nil hs) hbase hfew hline hs hplain) (ha σ G H S _ (wp_mono (wp_bnd.mp k) (fun x hx v G1 H1 w1 r1 => ?_) fun _ z => z))
  obtain ⟨xs, ex, hx⟩ := wp_of (wp_bnd.mp hx)
  cases x <;> cases ex
  cases r1 with
  | @lst p vs _ h1 r1 =>
    refine ⟨.inl ⟨rfl, vs, .inl (w1.up.le _ _ rfl h1)⟩, ?_⟩
    refine hb σ G1 H1 (S.grow w1) _ (wp_mono (wp_bnd.mp hx) (fun y hy u G2 H2 w2 r2 => ?_) fun _ z G2 H2 w => z G2 H2 (w1.trans w))
    obtain ⟨d, e, hd⟩ := wp_of hy
    unfold idxD at e
    split at e
    · rename_i y'
      obtain ⟨ns, e1, e2⟩ := Option.bind_eq_some_iff.mp e
      obtain ⟨j, e3, rfl⟩ := Option.map_eq_some_iff.mp e2
      cases r2
      have ev := ints_rp e1 r1
      subst ev
      obtain ⟨h2, h3⟩ := idxI_some e3
      refine ⟨p, ns.map V.int, .int y', j, .int y', rfl, rfl, .inl (w2.up.le _ _ rfl (w2.g _ _ rfl h1)), rfl, ?_, by rw [List.getElem?_map, h2]; rfl, by simp [eqV], fun m z hm hz => ?_, hd _ G2 H2 (w1.trans w2) (.int _)⟩
      · rw [List.all_eq_true]; intro z hz; obtain ⟨n, _, rfl⟩ := List.mem_map.mp hz; rfl
      · rw [List.getElem?_map] at hz
        obtain ⟨n, e4, rfl⟩ := Option.map_eq_some_iff.mp hz
        have := h3 m n hm e4
        simp [eqV, this]
    · cases e
/-! for x in y, y one's own list that stays as it is -/
theorem xs_forOwnO {α β : Type} {i i0 : Nat} {b0 : Bool} {q : Addr} {ds : List D} {x y : Str} {p py : Pos} {body : List Stmt} {L : α → En → Prop} {Rr : Hp → β → V → Hp → Hp → Prop} {step : α → D → R (Out α β)} {a0 : α} {e0 : En} (Gx : Go X ec W) (h0 : L a0 e0) (w0 : Wkn e0 en)
    (hb : ∀ a e d, L a e → XB X W eE body (e.set i (some (.v d))) (step a d) (TO X.K L Rr)) (hy : en[i0]? = some (some (.o b0 q (.l ds))) := by rfl) (hL : ∀ a e, L a e → e[i0]? = some (some (.o b0 q (.l ds))) := by rintro _ _ rfl; rfl)
    (hN : X.N[i]? = some x := by rfl) (hNy : X.N[i0]? = some y := by rfl) (hv : Vis X.env.scope y := by first | exact Or.inl rfl | exact Or.inr (Or.inl rfl) | exact Or.inr (Or.inr rfl)) (hd : (y == ("__debug__" : Str)) = false := by decide) (hcd : (y == ("__classdict__" : Str)) = false := by decide)
    (hx : Loc X.env.scope x := by first | exact Or.inl rfl | exact Or.inr rfl)
    (hs : ∀ x, foldedSetIterable (.Name y py) X.env x = pure x := by intro _; rfl) (hf : X.fn x = true ∨ X.env.scope.names.lookup x = some .local := by first | exact .inl rfl | exact .inr rfl) : XS X W eE (.For (.Name x p) (.Name y py) body [] pos) en ((R.ok ds).bnd fun ds => loopR step a0 ds) (TO X.K L Rr) := fun B σ G H S D q => by
  obtain ⟨e1, g0, vs, hp, rr⟩ := st_at S hy
  refine ps_to (ps_for Gx.po Gx.calm (pi_any (pe_var hNy hv hd hcd)) (pg_name Gx.nd hN hx hf) pss_w hs) ⟨.ref _, e1, _, rfl, .inl ⟨⟨vs, .inl (.inl hp)⟩, ?_⟩⟩
  refine ⟨fun i m σ' H' => m = ds.length - i ∧ ∃ a e G', L a e ∧ St8 X.K B e σ' G' H' ∧ Le G G' ∧ i ≤ ds.length ∧ Post X W eE B (loopR step a (ds.drop i)) (fun o => TO X.K L Rr B o D), ⟨_, rfl, a0, e0, G, h0, S.weak w0, Le.refl _, Nat.zero_le _, q⟩, ?_⟩
  rintro i m σ' H' ⟨rfl, a, e, G', hL', S', l', hi', p⟩
  obtain ⟨_, g1, us, hp1, r1⟩ := st_at S' (hL a e hL')
  by_cases hlt : i < ds.length
  · rw [List.drop_eq_getElem_cons hlt] at p
    obtain ⟨v, e2, r2⟩ := r1.get (List.getElem?_eq_getElem hlt)
    refine .inr ⟨⟨us, v, .inl (.inl hp1), e2⟩, fun σ3 H3 => ∃ a e G3, L a e ∧ St8 X.K B e σ3 G3 H3 ∧ Le G G3 ∧ Post X W eE B (loopR step a (ds.drop (i + 1))) (fun o => TO X.K L Rr B o D), fun σ3 H3 ⟨a3, e3, G3, h1, h2, h3, h4⟩ => ⟨ds.length - (i + 1), by omega, rfl, a3, e3, G3, h1, h2, h3, hlt, h4⟩, fun x H4 y => ?_⟩
    obtain ⟨rfl, y⟩ := y
    have := y us (.inl (.inl hp1))
    rw [e2] at this; cases this
    have p' := wp_bnd.mp p
    refine tg_name B e σ' G' H4 S' ds[i] v _ r2 rfl _ fun σ5 S5 => ?_
    refine hb a e ds[i] hL' (B.at_ G') σ5 G' H4 (S5.to S'.es.fr (Grow.refl S'.es.fr.up)) _ (wp_mono p' (fun o ho => ?_) fun _ z σ6 G6 H6 s6 => z σ6 G6 H6 (s6.of S'.es.fr))
    cases o with
    | nx a6 => exact fun e6 σ6 G6 H6 hL6 S6 => ⟨a6, e6, G6, hL6, S6.of S'.es.fr, l'.trans S6.es.fr.le0, ho⟩
    | rt b => exact fun v6 G6 H6 f6 r6 => ho v6 G6 H6 (S'.es.fr.of f6) r6
  · have ei : i = ds.length := by omega
    subst ei
    rw [List.drop_length] at p
    exact .inl ⟨⟨us, .inl (.inl hp1), Nat.le_of_eq r1.len⟩, p e σ' G' H' hL' S'⟩
theorem xs_forOwn {α : Type} {i i0 : Nat} {b0 : Bool} {q : Addr} {ds : List D} {x y : Str} {p py : Pos} {body : List Stmt} {L : α → En → Prop} {step : α → D → R α} {a0 : α} {e0 : En} (Gx : Go X ec W) (h0 : L a0 e0) (w0 : Wkn e0 en)
    (hb : ∀ a e d, L a e → XB X W eE body (e.set i (some (.v d))) (step a d) (TN X.K L)) (hy : en[i0]? = some (some (.o b0 q (.l ds))) := by rfl) (hL : ∀ a e, L a e → e[i0]? = some (some (.o b0 q (.l ds))) := by rintro _ _ rfl; rfl)
    (hN : X.N[i]? = some x := by rfl) (hNy : X.N[i0]? = some y := by rfl) (hv : Vis X.env.scope y := by first | exact Or.inl rfl | exact Or.inr (Or.inl rfl) | exact Or.inr (Or.inr rfl)) (hd : (y == ("__debug__" : Str)) = false := by decide) (hcd : (y == ("__classdict__" : Str)) = false := by decide)
    (hx : Loc X.env.scope x := by first | exact Or.inl rfl | exact Or.inr rfl)
    (hs : ∀ x, foldedSetIterable (.Name y py) X.env x = pure x := by intro _; rfl) (hf : X.fn x = true ∨ X.env.scope.names.lookup x = some .local := by first | exact .inl rfl | exact .inr rfl) : XS X W eE (.For (.Name x p) (.Name y py) body [] pos) en ((R.ok ds).bnd fun ds => foldR step a0 ds) (TN X.K L) := fun B σ G H S D k => by
  refine xs_forOwnO (β := Empty) (Rr := fun _ _ _ _ _ => False) (step := fun a d => (step a d).bnd fun a' => .ok (.nx a')) Gx h0 w0 (fun a e d hL B σ G H S D q => hb a e d hL B σ G H S D (wp_mono (wp_bnd.mp q) (fun _ z => z) fun _ z => z)) hy hL hN hNy hv hd hcd hx hs hf B σ G H S D ?_
  have k : Post X W eE B (foldR step a0 ds) _ := k
  show Post X W eE B (loopR _ a0 ds) _
  rw [fold_loop]
  exact wp_bnd.mpr (wp_mono k (fun _ z => z) fun _ z => z)
end
end Wk
set_option maxHeartbeats 4000000
/-! Wk29: least, greatest, sorted. -/
namespace Wk
open PySem PySem.Spec PyProof.Rows L2
def D.max2 : List D → Option D
  | [.int i, .int j] => some (.int (if j > i then j else i))
  | _ => none
def D.min2 : List D → Option D
  | [.int i, .int j] => some (.int (if j < i then j else i))
  | _ => none
def maxI : List Int → Int
  | [] => 0
  | [x] => x
  | x :: xs => if maxI xs > x then maxI xs else x
def minI : List Int → Int
  | [] => 0
  | [x] => x
  | x :: xs => if minI xs < x then minI xs else x
theorem maxI_is : ∀ {ns : List Int}, ns ≠ [] → maxI ns ∈ ns ∧ ∀ y ∈ ns, y ≤ maxI ns
  | [], h => absurd rfl h
  | [x], _ => by simp [maxI]
  | x :: y :: ns, _ => by
    obtain ⟨h1, h2⟩ := maxI_is (ns := y :: ns) (by simp)
    show (if maxI (y :: ns) > x then maxI (y :: ns) else x) ∈ _ ∧ ∀ z ∈ x :: y :: ns, z ≤ (if maxI (y :: ns) > x then maxI (y :: ns) else x)
    split
    · rename_i hx
      refine ⟨List.mem_cons_of_mem _ h1, fun z hz => ?_⟩
      rcases List.mem_cons.mp hz with rfl | hz
      · omega
      · exact h2 z hz
    · rename_i hx
      refine ⟨List.mem_cons_self, fun z hz => ?_⟩
      rcases List.mem_cons.mp hz with rfl | hz
      · omega
      · have := h2 z hz; omega
theorem minI_is : ∀ {ns : List Int}, ns ≠ [] → minI ns ∈ ns ∧ ∀ y ∈ ns, minI ns ≤ y
  | [], h => absurd rfl h
  | [x], _ => by simp [minI]
  | x :: y :: ns, _ => by
    obtain ⟨h1, h2⟩ := minI_is (ns := y :: ns) (by simp)
    show (if minI (y :: ns) < x then minI (y :: ns) else x) ∈ _ ∧ ∀ z ∈ x :: y :: ns, (if minI (y :: ns) < x then minI (y :: ns) else x) ≤ z
    split
    · rename_i hx
      refine ⟨List.mem_cons_of_mem _ h1, fun z hz => ?_⟩
      rcases List.mem_cons.mp hz with rfl | hz
      · omega
      · exact h2 z hz
    · rename_i hx
      refine ⟨List.mem_cons_self, fun z hz => ?_⟩
      rcases List.mem_cons.mp hz with rfl | hz
      · omega
      · have := h2 z hz; omega
def D.max1 : List D → Option D
  | [.lst xs] => (intsD xs).bind fun ns => if ns = [] then none else some (.int (maxI ns))
  | _ => none
def D.min1 : List D → Option D
  | [.lst xs] => (intsD xs).bind fun ns => if ns = [] then none else some (.int (minI ns))
  | _ => none
def insI (x : Int) : List Int → List Int
  | [] => [x]
  | y :: ys => if x ≤ y then x :: y :: ys else y :: insI x ys
def sortI : List Int → List Int
  | [] => []
  | x :: xs => insI x (sortI xs)
theorem insI_perm (x : Int) : ∀ ys, (insI x ys).Perm (x :: ys)
  | [] => .refl _
  | y :: ys => by
    unfold insI
    split
    · exact .refl _
    · exact ((insI_perm x ys).cons y).trans (.swap x y ys)
theorem insI_srt (x : Int) : ∀ {ys : List Int}, ys.Pairwise (· ≤ ·) → (insI x ys).Pairwise (· ≤ ·)
  | [], _ => by simp [insI]
  | y :: ys, h => by
    unfold insI
    obtain ⟨h1, h2⟩ := List.pairwise_cons.mp h
    split
    · rename_i hx
      refine List.pairwise_cons.mpr ⟨fun z hz => ?_, h⟩
      rcases List.mem_cons.mp hz with rfl | hz
      · exact hx
      · exact Int.le_trans hx (h1 z hz)
    · rename_i hx
      refine List.pairwise_cons.mpr ⟨fun z hz => ?_, insI_srt x h2⟩
      rcases List.mem_cons.mp ((insI_perm x ys).mem_iff.mp hz) with rfl | hz
      · omega
      · exact h1 z hz
theorem sortI_perm : ∀ xs, (sortI xs).Perm xs
  | [] => .refl _
  | x :: xs => (insI_perm x _).trans ((sortI_perm xs).cons x)
theorem sortI_srt : ∀ xs, (sortI xs).Pairwise (· ≤ ·)
  | [] => .nil
  | x :: xs => insI_srt x (sortI_srt xs)
theorem srt_eq : ∀ {xs ys : List Int}, xs.Perm ys → xs.Pairwise (· ≤ ·) → ys.Pairwise (· ≤ ·) → xs = ys
  | [], ys, p, _, _ => by rw [List.nil_perm.mp p]
  | x :: xs, [], p, _, _ => absurd p.length_eq (by simp)
  | x :: xs, y :: ys, p, h1, h2 => by
    obtain ⟨a1, a2⟩ := List.pairwise_cons.mp h1
    obtain ⟨b1, b2⟩ := List.pairwise_cons.mp h2
    have e : x = y := by
      have hx : x ∈ y :: ys := p.mem_iff.mp List.mem_cons_self
      have hy : y ∈ x :: xs := p.mem_iff.mpr List.mem_cons_self
      rcases List.mem_cons.mp hx with e | hx
      · exact e
      · rcases List.mem_cons.mp hy with e | hy
        · exact e.symm
        · have := a1 y hy; have := b1 x hx; omega
    subst e
    rw [srt_eq (p.cons_inv) a2 b2]
def D.sorted : List D → Option (List D)
  | [.lst xs] => (intsD xs).map fun ns => (sortI ns).map .int
  | _ => none
section
variable {K : PySem.W.Frag}
theorem d_max2 : CallD K (fun xs H Q => ∃ i j, xs = [.int i, .int j] ∧ Q (.int (if j > i then j else i)) H) D.max2 := fun G H xs ds d l r e Q q => by
  unfold D.max2 at e
  split at e
  · cases e
    cases r with
    | cons a b =>
      cases b with
      | cons b c =>
        cases c; cases a; cases b
        exact ⟨_, _, rfl, keepQ l q (.int _)⟩
  · cases e
theorem d_min2 : CallD K (fun xs H Q => ∃ i j, xs = [.int i, .int j] ∧ Q (.int (if j < i then j else i)) H) D.min2 := fun G H xs ds d l r e Q q => by
  unfold D.min2 at e
  split at e
  · cases e
    cases r with
    | cons a b =>
      cases b with
      | cons b c =>
        cases c; cases a; cases b
        exact ⟨_, _, rfl, keepQ l q (.int _)⟩
  · cases e
theorem d_max1 : CallD K (rMax K) D.max1 := fun G H xs ds d l r e Q q => by
  unfold D.max1 at e
  split at e
  · obtain ⟨ns, e1, e2⟩ := Option.bind_eq_some_iff.mp e
    split at e2
    · cases e2
    · rename_i hn
      cases e2
      cases r with
      | cons a b =>
        cases b
        cases a with
        | lst h1 r1 =>
          have := ints_rp e1 r1
          subst this
          refine ⟨_, ns, rfl, .inl (l.le _ _ rfl h1), List.length_pos_iff.mpr hn, fun m hm hy => ?_⟩
          obtain ⟨z1, z2⟩ := maxI_is hn
          have e : m = maxI ns := Int.le_antisymm (z2 m hm) (hy _ z1)
          rw [e]
          exact keepQ l q (.int _)
  · cases e
theorem d_min1 : CallD K (rMin K) D.min1 := fun G H xs ds d l r e Q q => by
  unfold D.min1 at e
  split at e
  · obtain ⟨ns, e1, e2⟩ := Option.bind_eq_some_iff.mp e
    split at e2
    · cases e2
    · rename_i hn
      cases e2
      cases r with
      | cons a b =>
        cases b
        cases a with
        | lst h1 r1 =>
          have := ints_rp e1 r1
          subst this
          refine ⟨_, ns, rfl, .inl (l.le _ _ rfl h1), List.length_pos_iff.mpr hn, fun m hm hy => ?_⟩
          obtain ⟨z1, z2⟩ := minI_is hn
          have e : m = minI ns := Int.le_antisymm (hy _ z1) (z2 m hm)
          rw [e]
          exact keepQ l q (.int _)
  · cases e
theorem d_sorted : CallN K (rSortedI K) D.sorted := fun G H xs ds d l r e Q q => by
  unfold D.sorted at e
  split at e
  · obtain ⟨ns, e1, rfl⟩ := Option.map_eq_some_iff.mp e
    cases r with
    | cons a b =>
      cases b
      cases a with
      | lst h1 r1 =>
        have := ints_rp e1 r1
        subst this
        refine ⟨_, ns, rfl, .inl (l.le _ _ rfl h1), fun ns' p hp hs hn => ?_⟩
        have e : ns' = sortI ns := srt_eq (hp.trans (sortI_perm ns).symm) hs (sortI_srt ns)
        rw [e]
        exact newL l hn (all_ints _) q
  · cases e
end
end Wk
set_option maxHeartbeats 4000000
/-! Wk30: comprehensions in comprehensions; texts. -/
namespace Wk
open PySem PySem.Spec PyProof.Rows L2
def relK (env : Env) (p : Str × NameKind) : Str × NameKind := match p with
  | (n, k) => if (k == NameKind.free && env.scope.kind == ScopeKind.function && env.kindOf n == some NameKind.cell) = true then (n, NameKind.cell) else (n, k)
theorem rel_look {env : Env} : ∀ {ns : List (Str × NameKind)} {x : Str}, (List.lookup x ns = some .cell ∨ List.lookup x ns = some .free) → List.lookup x (ns.map (relK env)) = some .cell ∨ List.lookup x (ns.map (relK env)) = some .free
  | [], x, h => by simp at h
  | (n, k) :: ns, x, h => by
    have key : relK env (n, k) = (n, NameKind.cell) ∨ relK env (n, k) = (n, k) := by
      show (if _ then _ else _) = _ ∨ (if _ then _ else _) = _
      by_cases c : (k == NameKind.free && env.scope.kind == ScopeKind.function && env.kindOf n == some NameKind.cell) = true
      · exact .inl (if_pos c)
      · exact .inr (if_neg c)
    rw [List.map_cons]
    rw [List.lookup_cons] at h
    rcases key with e | e
    · rw [e, List.lookup_cons]
      cases e2 : x == n with
      | true => simp
      | false => rw [e2] at h; exact rel_look h
    · rw [e, List.lookup_cons]
      cases e2 : x == n with
      | true => rw [e2] at h; exact h
      | false => rw [e2] at h; exact rel_look h
theorem blk_rel {N : List Str} {sc scope : Scope} {own : List (Str × Nat)} {env : Env} (h : BlkOk N sc scope own) : BlkOk N (relabel sc env) scope own :=
  ⟨h.kind, h.uniq, h.ix, fun y hy hf => rel_look (h.free y hy hf), h.own⟩
end Wk
set_option maxHeartbeats 4000000
/-! Wk31: texts. -/
namespace Wk
open PySem PySem.Spec PyProof.Rows L2
def D.toStr : List D → Option D
  | [.int i] => if i.natAbs.log2 < 1920 then some (.str (Str.ofString (toString i))) else none
  | _ => none
def D.strInt : List D → Option D
  | [.str a] => if a.length ≤ 640 then (PySem.intText? a).map .int else none
  | _ => none
/-- one sign in a text -/
def D.inS : D → D → Option Bool
  | .str a, .str z => match a.cps.toList with
    | [c] => some (decide (c ∈ z.cps.toList))
    | _ => none
  | _, _ => none
def D.notinS (x y : D) : Option Bool := (D.inS x y).map fun b => !b
def D.join : D → D → Option D
  | .str a, .lst xs => (strsD xs).bind fun ys => if (ys.map (·.length)).sum + ys.length * a.length ≤ 16777216 then some (.str (Txt.join a ys)) else none
  | _, _ => none
def D.splitD : D → D → Option (List D)
  | .str a, .str b => if (b.length == 0) = false ∧ a.length ≤ 16000000 then some ((Txt.split a b).map .str) else none
  | _, _ => none
def D.cutT : D → Option Int → Option Int → Option D
  | .str z, lo, hi => if z.length ≤ 16000000 then some (.str (cutS z lo hi)) else none
  | _, _, _ => none
section
variable {X : Cx} {W : WN} {eE : En} {en : En} {ec : Nat → Addr} {pos : Pos} {a b c : Expr} {ma mb mc : R D} {K : PySem.W.Frag}
theorem d_str : CallD K (fun xs H Q => ∃ i : Int, xs = [V.int i] ∧ i.natAbs.log2 < 1920 ∧ Q (V.str (Str.ofString (toString i))) H) D.toStr := fun G H xs ds d l r e Q q => by
  unfold D.toStr at e
  split at e
  · split at e
    · rename_i h
      cases e
      cases r with
      | cons a b => cases b; cases a; exact ⟨_, rfl, h, keepQ l q (.str _)⟩
    · cases e
  · cases e
theorem d_strInt : CallD K (fun xs H Q => ∃ a n, xs = [V.str a] ∧ intText? a = some n ∧ a.length ≤ 640 ∧ Q (V.int n) H) D.strInt := fun G H xs ds d l r e Q q => by
  unfold D.strInt at e
  split at e
  · split at e
    · rename_i h
      obtain ⟨n, e1, rfl⟩ := Option.map_eq_some_iff.mp e
      cases r with
      | cons a b => cases b; cases a; exact ⟨_, n, rfl, e1, h, keepQ l q (.int _)⟩
    · cases e
  · cases e
theorem str_one {a : Str} {c : Nat} (h : a.cps.toList = [c]) : a = ⟨#[c]⟩ := by
  obtain ⟨⟨l⟩⟩ := a
  simp at h
  rw [h]
theorem d_inS : OpD K (fun x y H Q => ∃ (c : Nat) (z : Str), x = .str ⟨#[c]⟩ ∧ y = .str z ∧ Q (.bl (decide (c ∈ z.cps.toList))) H) (fun x y => (D.inS x y).map .bl) := fun G H x y dx dy d l rx ry e Q q => by
  obtain ⟨b, e1, rfl⟩ := Option.map_eq_some_iff.mp e
  unfold D.inS at e1
  split at e1
  · split at e1
    · rename_i c hc
      cases e1
      cases rx; cases ry
      rw [str_one hc]
      exact ⟨c, _, rfl, rfl, keepQ l q (.bl _)⟩
    · cases e1
  · cases e1
theorem d_notinS : OpD K (fun x y H Q => ∃ (c : Nat) (z : Str), x = .str ⟨#[c]⟩ ∧ y = .str z ∧ Q (.bl (!decide (c ∈ z.cps.toList))) H) (fun x y => (D.notinS x y).map .bl) := fun G H x y dx dy d l rx ry e Q q => by
  obtain ⟨b, e1, rfl⟩ := Option.map_eq_some_iff.mp e
  unfold D.notinS D.inS at e1
  split at e1
  · split at e1
    · rename_i c hc
      cases e1
      cases rx; cases ry
      rw [str_one hc]
      exact ⟨c, _, rfl, rfl, keepQ l q (.bl _)⟩
    · cases e1
  · cases e1
theorem xp_join {pa : Pos} (ha : XP X W a en ma) (hb : XP X W b en mb) (hs : starEach [b] X.env = [(false, eval b X.env)] := by rfl) (hbase : attributeBase a "join" X.env (eval a X.env) = eval a X.env := by rfl) (hline : (pa.endLine == pos.line) = true := by rfl) :
    XP X W (.Call (.Attribute a "join" pa) [b] [] pos) en (ma.bnd fun x => (R.of (match x with | .str s => some s | _ => none)).bnd fun s => mb.bnd fun y => R.of (D.join (.str s) y)) := fun σ G H S Q k => by
  refine pe_to (pe_join pe_w pe_w hs hbase hline) (ha σ G H S _ (wp_mono (wp_bnd.mp k) (fun x hx v G1 H1 w1 r1 => ?_) fun _ z => z))
  obtain ⟨s, e1, hx⟩ := wp_of (wp_bnd.mp hx)
  split at e1
  · cases e1
    cases r1
    refine ⟨⟨_, rfl⟩, hb σ G1 H1 (S.grow w1) _ (wp_mono (wp_bnd.mp hx) (fun y hy u G2 H2 w2 r2 => ?_) fun _ z G2 H2 w => z G2 H2 (w1.trans w))⟩
    obtain ⟨d, e, hd⟩ := wp_of hy
    unfold D.join at e
    split at e
    · rename_i xs hxs
      cases hxs
      obtain ⟨ys, e2, e3⟩ := Option.bind_eq_some_iff.mp e
      split at e3
      · rename_i hl
        cases e3
        cases r2 with
        | @lst p vs _ h1 r2 =>
          have := strs_rp e2 r2
          subst this
          exact ⟨_, p, ys, rfl, rfl, .inl (.inl (w2.up.le _ _ rfl h1)), hl, hd _ G2 H2 (w1.trans w2) (.str _)⟩
      · cases e3
    · cases e
  · cases e1
theorem strs_all {G : Hp} : ∀ ys : List Str, RpAll K G (ys.map V.str) (ys.map D.str)
  | [] => .nil
  | y :: ys => .cons (.str y) (strs_all ys)
theorem xn_split {pa : Pos} (ha : XP X W a en ma) (hb : XP X W b en mb) (hs : starEach [b] X.env = [(false, eval b X.env)] := by rfl) (hbase : attributeBase a "split" X.env (eval a X.env) = eval a X.env := by rfl) (hline : (pa.endLine == pos.line) = true := by rfl) :
    XN X W (.Call (.Attribute a "split" pa) [b] [] pos) en (ma.bnd fun x => (R.of (match x with | .str s => some s | _ => none)).bnd fun s => mb.bnd fun y => R.of (D.splitD (.str s) y)) := fun σ G H S Q k => by
  refine pe_to (pe_split pe_w pe_w hs hbase hline) (ha σ G H S _ (wp_mono (wp_bnd.mp k) (fun x hx v G1 H1 w1 r1 => ?_) fun _ z => z))
  obtain ⟨s, e1, hx⟩ := wp_of (wp_bnd.mp hx)
  split at e1
  · cases e1
    cases r1
    refine ⟨⟨_, rfl⟩, hb σ G1 H1 (S.grow w1) _ (wp_mono (wp_bnd.mp hx) (fun y hy u G2 H2 w2 r2 => ?_) fun _ z G2 H2 w => z G2 H2 (w1.trans w))⟩
    obtain ⟨d, e, hd⟩ := wp_of hy
    unfold D.splitD at e
    split at e
    · rename_i s' b' hs'
      cases hs'
      split at e
      · rename_i hl
        cases e
        cases r2
        refine ⟨_, _, rfl, rfl, hl.1, ?_, fun p hp => ?_⟩
        · have : 16000002 ≤ sizeLine := by decide
          have := hl.2
          omega
        · exact newL w2.up hp (strs_all _) (NewL.up (w1.trans w2) hd)
      · cases e
    · cases e
  · cases e1
theorem xp_cutT {lo hi : Option Expr} {ml mh : R (Option Int)} {p2 : Pos} (ha : XP X W a en ma) (hl : XO X W lo en ml) (hh : XO X W hi en mh) : XP X W (.Subscript a (.Slice lo hi none p2) pos) en (ma.bnd fun x => ml.bnd fun l => mh.bnd fun h => R.of (x.cutT l h)) := fun σ G H S Q k => by
  refine pe_to (pe_slice sl_str pe_w po_w po_w) (ha σ G H S _ (wp_mono (wp_bnd.mp k) (fun x hx v G1 H1 w1 r1 => ?_) fun _ z => z))
  refine hl σ G1 H1 (S.grow w1) _ (wp_mono (wp_bnd.mp hx) (fun l hl' G2 H2 w2 => ?_) fun _ z G2 H2 w => z G2 H2 (w1.trans w))
  refine hh σ G2 H2 ((S.grow w1).grow w2) _ (wp_mono (wp_bnd.mp hl') (fun h hh' G3 H3 w3 => ?_) fun _ z G3 H3 w => z G3 H3 ((w1.trans w2).trans w))
  obtain ⟨d, e, hd⟩ := wp_of hh'
  unfold D.cutT at e
  split at e
  · split at e
    · rename_i hz
      cases e
      cases r1
      exact ⟨_, rfl, size_ok hz, hd _ _ _ ((w1.trans w2).trans w3) (.str _)⟩
    · cases e
  · cases e
end
end Wk
set_option maxHeartbeats 4000000
/-! Wk32: defs of two arguments that change the second one. -/
namespace Wk
open PySem PySem.Spec PyProof.Rows L2
section
variable {K : PySem.W.Frag}
/-- the second of two arguments is a list of the asker's -/
def spIOb (K : PySem.W.Frag) (ec : Nat → Addr) (f : D → List D → R (D × List D)) : Sp := fun vs H Q E => ∃ G p u us c d, Lk G H ∧ vs = [u, .ref p] ∧ G p = none ∧ H p = some (.lst us) ∧ RpAll K G us c ∧ Rp K G u d ∧
  wp (f d c) (fun r => ∀ v us' G2 H2, GrowX p G H G2 H2 → Rp K G2 v r.1 → H2 p = some (.lst us') → RpAll K G2 us' r.2 → Q v H2) (fun c => ∀ G2 H2, GrowX p G H G2 H2 → E (.ref (ec c)) none H2)
def enB (N : List Str) (p : Addr) (c : List D) (d : D) : En := some (.v d) :: some (.o true p (.l c)) :: List.replicate (N.length - 2) none
theorem st_startB {G H : Hp} {p : Addr} {us : List V} {u : V} {c : List D} {d : D} {N : List Str} (l : Lk G H) (gp : G p = none) (hp : H p = some (.lst us)) (ru : RpAll K G us c) (r : Rp K G u d) : St8 K ⟨G, H, [p]⟩ (enB N p c d) (L2.start N [u, .ref p]) G H := by
  have only : ∀ (i : Nat) (dv : DV), (enB N p c d)[i]? = some (some dv) → (i = 0 ∧ dv = .v d) ∨ (i = 1 ∧ dv = .o true p (.l c)) := fun i dv e => by
    match i, e with
    | 0, e => cases e; exact .inl ⟨rfl, rfl⟩
    | 1, e => cases e; exact .inr ⟨rfl, rfl⟩
    | j + 2, e =>
      have e : (List.replicate (N.length - 2) (none : Option DV))[j]? = some (some dv) := e
      rw [List.getElem?_replicate] at e
      split at e <;> cases e
  refine ⟨⟨⟨l, Le.refl _, fun _ _ _ e => e, fun _ n => n, fun _ n => n, fun _ n _ => n⟩, fun i dv e => ?_, fun i j b b' q q' c c' e e' zz => ?_, fun i b q c e => ?_⟩, ?_⟩
  · rcases only i dv e with ⟨rfl, rfl⟩ | ⟨rfl, rfl⟩
    · exact ⟨u, rfl, r⟩
    · exact ⟨.ref p, rfl, rfl, own_l.mpr ⟨gp, us, hp, ru⟩⟩
  · rcases only i _ e with ⟨rfl, z⟩ | ⟨rfl, z⟩
    · cases z
    · rcases only j _ e' with ⟨rfl, z⟩ | ⟨rfl, z⟩
      · cases z
      · rfl
  · rcases only i _ e with ⟨rfl, z⟩ | ⟨rfl, z⟩
    · cases z
    · cases z; exact ⟨by simp, fun a z => by cases z⟩
  · unfold L2.start enB
    simp
variable {P : Program} {w : World} {mg : Str → Option Value} {base : Heap} {ec : Nat → Addr}
theorem fn_okIOb {x qual : Str} {st : Stmt} {f : Addr} {fd : FuncData} {N ps : List Str} {k : Nat} {fm : D → List D → R (D × List D)} (F : Fun K x qual st f fd) (S : FnScope N ps (defScope st)) (hn : ps.length = 2)
    (body : ∀ (cdv : Value) (A : Around) (outer : List Env) (s : Shared) (H : Hp) (E : XK), Room k (A.deeper (envOfC qual (defScope st) s.heap.objs.size f cdv)) →
      Go (cxOf (L2.CX P w) P w K mg base N qual (defScope st) f cdv A outer s H E) ec (fun c _ H => E (.ref (ec c)) none H) → ∀ (p : Addr) (c : List D) (d : D),
      XB (cxOf (L2.CX P w) P w K mg base N qual (defScope st) f cdv A outer s H E) (fun c _ H => E (.ref (ec c)) none H) [] (defBody st) (enB N p c d) (fm d c) (TR (rIL K p))) :
    FnOk P w K mg base (L2.CX P w) (k + 1) f fd ps (spIOb K ec fm) := by
  refine F.okX S (fun vs H Q E h => ?_) (fun cdv A outer s H vs Q E hr h => ?_)
  · obtain ⟨G, p, u, us, c, d, l, rfl, _⟩ := h
    rw [hn]; rfl
  · obtain ⟨G, p, u, us, c, d, l, rfl, gp, hp, ru, r, q⟩ := h
    have g : Go (cxOf (L2.CX P w) P w K mg base N qual (defScope st) f cdv A outer s H E) ec (fun c _ H => E (.ref (ec c)) none H) :=
      ⟨rfl, passes_of rfl, S.nd, (takes_of (E := E) rfl rfl rfl rfl).imp fun cls d σ H' ⟨c, e1, e2, e3⟩ => by rw [e1, e2]; exact e3⟩
    have b := body cdv A outer s H E hr g p c d
    exact ⟨_, pss_w, b ⟨G, H, [p]⟩ (L2.start N [u, .ref p]) G H (st_startB l gp hp ru r) _ (wp_mono q (fun o ho v G2 H2 f8 ⟨rr, us', h1, h2⟩ => ho v us' G2 H2 f8.toGrowX rr h1 h2) fun c hc σ G2 H2 es => hc G2 H2 es.fr.toGrowX)⟩
end
section
variable {X : Cx} {W : WN} {en : En} {ec : Nat → Addr} {pos : Pos} {a : Expr}
/-- f(a, x), x one's own list that f may change -/
theorem xv_ioB {i : Nat} {bb : Bool} {q : Addr} {cn : List D} {x y : Str} {p py : Pos} {k : Nat} {f : Addr} {fd : FuncData} {ps : List Str} {fm : D → List D → R (D × List D)} {m : R D} (g : Go X ec W) (F : FnOk X.prog X.w X.K X.mg X.base (L2.CX X.prog X.w) k f fd ps (spIOb X.K ec fm)) (hr : Room k X.A) (hm : X.mg x = some (.ref f)) (hk : PySem.W.keepIn X.K (.ref f) = true) (hb : Binds X.K fd ps [])
    (χ : List D → En) (ha : XP X W a en m) (hy : en[i]? = some (some (.o bb q (.l cn))) := by rfl) (hχ : ∀ o, en.set i (some (.o bb q (.l o))) = χ o := by intro _; rfl)
    (hN : X.N[i]? = some y := by rfl) (hv : Vis X.env.scope y := by first | exact Or.inl rfl | exact Or.inr (Or.inl rfl) | exact Or.inr (Or.inr rfl)) (hd : (y == ("__debug__" : Str)) = false := by decide) (hcd : (y == ("__classdict__" : Str)) = false := by decide)
    (hg : Gl X x := by rfl) (hdb : (x == ("__debug__" : Str)) = false := by decide) (h0 : starEach [a, .Name y py] X.env = (false, eval a X.env) :: starEach [.Name y py] X.env := by rfl) (h1 : starEach [.Name y py] X.env = (false, eval (.Name y py) X.env) :: starEach [] X.env := by rfl) (h2 : (backTo pos (starEach [.Name y py] X.env)).any (·.1) = false := by rfl) :
    XV X W [] (.Call (.Name x p) [a, .Name y py] [] pos) en (m.bnd fun d => fm d cn) χ := fun B σ G H S Q h => by
  refine pe_to (pe_callS F hr hg hm hk hb (fun σ => passAt g.tk σ) (pa_cons pe_w (pa_cons (pe_var hN hv hd hcd) pa_nil h1) h0) hdb h0 h2) ?_
  refine xp_run ha S wk0_nil (wp_mono (wp_bnd.mp h) (fun d hd u G1 H1 l1 S1 r1 => ?_) fun _ z => z)
  obtain ⟨e1, gq, us, hq, ru⟩ := st_at S1 hy
  refine ⟨.ref q, e1, G1, q, u, us, cn, d, S1.lk, rfl, gq, hq, ru, r1, wp_mono hd (fun o ho v us' G2 H2 w2 r2 h2 ru2 => ?_) fun c hc G2 H2 w2 => ⟨c, rfl, rfl, hc σ G2 H2 ?_⟩⟩
  · have S2 := S1.growX hy w2 h2 ru2
    rw [hχ] at S2
    exact ho v G2 H2 (l1.trans w2.g) S2 r2
  · have fr := S1.es.fr
    have hbq := (S1.es.own i bb q _ hy).1
    refine ⟨⟨w2.up, fr.le0.trans w2.g, fun a u n eu => ?_, fun a n => w2.there a (fr.there a n), fun a n => w2.thM a (fr.thM a n), fun a n mm => w2.cl a (fr.cl a n mm) (fr.thM a mm)⟩, fun i dv e => by simp at e, fun i j b b' p p' c c' e => by simp at e, fun i b p c e => by simp at e⟩
    have na : a ≠ q := fun z => by
      subst z
      cases bb with
      | true => exact n hbq
      | false => rw [if_neg Bool.false_ne_true] at hbq; rw [hbq] at eu; cases eu
    exact w2.h a u na (fr.keep a u n eu)
end
end Wk
set_option maxHeartbeats 4000000
/-! Wk33: big literals behind Bx. -/
namespace Wk
open PySem PySem.Spec PyProof.Rows L2
section
variable {X : Cx} {W : WN} {en : En} {pos : Pos}
theorem xp_intB {i : Int} {j : Nat} : Bx (XP X W (.Constant (.int i) j pos) en (.ok (.int i))) := ⟨xp_int⟩
theorem xp_strB {i : Str} {j : Nat} : Bx (XP X W (.Constant (.str i) j pos) en (.ok (.str i))) := ⟨xp_str⟩
theorem xp_isB {e : Expr} {m m' : R D} (h : Bx (XP X W e en m)) (q : m = m') : XP X W e en m' := q ▸ h.of
theorem xa_nilB : Bx (XA X W [] en (.ok [])) := ⟨xa_nil⟩
theorem xp_tupB {es : List Expr} {j : Nat} {ms : R (List D)} (h : Bx (XA X W es en ms)) : Bx (XP X W (.Tuple es j pos) en (ms.bnd fun ds => R.of ((fits ds).map .tup))) := ⟨xp_tup h.of⟩
theorem xa_1B {a1 : Expr} {m1 : R D} (h1 : Bx (XP X W a1 en m1)) (e1 : starEach [a1] X.env = (false, eval a1 X.env) :: starEach [] X.env := by rfl) : Bx (XA X W [a1] en (m1.bnd fun x => .ok [x])) := ⟨xa_1 h1.of e1⟩
theorem xa_2B {a1 a2 : Expr} {m1 m2 : R D} (h1 : Bx (XP X W a1 en m1)) (h2 : Bx (XP X W a2 en m2)) (e1 : starEach [a1, a2] X.env = (false, eval a1 X.env) :: starEach [a2] X.env := by rfl) (e2 : starEach [a2] X.env = (false, eval a2 X.env) :: starEach [] X.env := by rfl) : Bx (XA X W [a1, a2] en (m1.bnd fun x => m2.bnd fun y => .ok [x, y])) := ⟨xa_2 h1.of h2.of e1 e2⟩
theorem xa_3B {a1 a2 a3 : Expr} {m1 m2 m3 : R D} (h1 : Bx (XP X W a1 en m1)) (h2 : Bx (XP X W a2 en m2)) (h3 : Bx (XP X W a3 en m3)) (e1 : starEach [a1, a2, a3] X.env = (false, eval a1 X.env) :: starEach [a2, a3] X.env := by rfl) (e2 : starEach [a2, a3] X.env = (false, eval a2 X.env) :: starEach [a3] X.env := by rfl) (e3 : starEach [a3] X.env = (false, eval a3 X.env) :: starEach [] X.env := by rfl) : Bx (XA X W [a1, a2, a3] en (m1.bnd fun x => m2.bnd fun y => m3.bnd fun z => .ok [x, y, z])) := ⟨xa_3 h1.of h2.of h3.of e1 e2 e3⟩
theorem xa_4B {a1 a2 a3 a4 : Expr} {m1 m2 m3 m4 : R D} (h1 : Bx (XP X W a1 en m1)) (h2 : Bx (XP X W a2 en m2)) (h3 : Bx (XP X W a3 en m3)) (h4 : Bx (XP X W a4 en m4)) (e1 : starEach [a1, a2, a3, a4] X.env = (false, eval a1 X.env) :: starEach [a2, a3, a4] X.env := by rfl) (e2 : starEach [a2, a3, a4] X.env = (false, eval a2 X.env) :: starEach [a3, a4] X.env := by rfl) (e3 : starEach [a3, a4] X.env = (false, eval a3 X.env) :: starEach [a4] X.env := by rfl) (e4 : starEach [a4] X.env = (false, eval a4 X.env) :: starEach [] X.env := by rfl) : Bx (XA X W [a1, a2, a3, a4] en (m1.bnd fun x => m2.bnd fun y => m3.bnd fun z => m4.bnd fun t => .ok [x, y, z, t])) := ⟨xa_4 h1.of h2.of h3.of h4.of e1 e2 e3 e4⟩
theorem xa_5B {a1 a2 a3 a4 a5 : Expr} {m1 m2 m3 m4 m5 : R D} (h1 : Bx (XP X W a1 en m1)) (h2 : Bx (XP X W a2 en m2)) (h3 : Bx (XP X W a3 en m3)) (h4 : Bx (XP X W a4 en m4)) (h5 : Bx (XP X W a5 en m5)) (e1 : starEach [a1, a2, a3, a4, a5] X.env = (false, eval a1 X.env) :: starEach [a2, a3, a4, a5] X.env := by rfl) (e2 : starEach [a2, a3, a4, a5] X.env = (false, eval a2 X.env) :: starEach [a3, a4, a5] X.env := by rfl) (e3 : starEach [a3, a4, a5] X.env = (false, eval a3 X.env) :: starEach [a4, a5] X.env := by rfl) (e4 : starEach [a4, a5] X.env = (false, eval a4 X.env) :: starEach [a5] X.env := by rfl) (e5 : starEach [a5] X.env = (false, eval a5 X.env) :: starEach [] X.env := by rfl) : Bx (XA X W [a1, a2, a3, a4, a5] en (m1.bnd fun x1 => m2.bnd fun x2 => m3.bnd fun x3 => m4.bnd fun x4 => m5.bnd fun x5 => .ok [x1, x2, x3, x4, x5])) := ⟨xa_5 h1.of h2.of h3.of h4.of h5.of e1 e2 e3 e4 e5⟩
theorem xa_6B {a1 a2 a3 a4 a5 a6 : Expr} {m1 m2 m3 m4 m5 m6 : R D} (h1 : Bx (XP X W a1 en m1)) (h2 : Bx (XP X W a2 en m2)) (h3 : Bx (XP X W a3 en m3)) (h4 : Bx (XP X W a4 en m4)) (h5 : Bx (XP X W a5 en m5)) (h6 : Bx (XP X W a6 en m6)) (e1 : starEach [a1, a2, a3, a4, a5, a6] X.env = (false, eval a1 X.env) :: starEach [a2, a3, a4, a5, a6] X.env := by rfl) (e2 : starEach [a2, a3, a4, a5, a6] X.env = (false, eval a2 X.env) :: starEach [a3, a4, a5, a6] X.env := by rfl) (e3 : starEach [a3, a4, a5, a6] X.env = (false, eval a3 X.env) :: starEach [a4, a5, a6] X.env := by rfl) (e4 : starEach [a4, a5, a6] X.env = (false, eval a4 X.env) :: starEach [a5, a6] X.env := by rfl) (e5 : starEach [a5, a6] X.env = (false, eval a5 X.env) :: starEach [a6] X.env := by rfl) (e6 : starEach [a6] X.env = (false, eval a6 X.env) :: starEach [] X.env := by rfl) : Bx (XA X W [a1, a2, a3, a4, a5, a6] en (m1.bnd fun x1 => m2.bnd fun x2 => m3.bnd fun x3 => m4.bnd fun x4 => m5.bnd fun x5 => m6.bnd fun x6 => .ok [x1, x2, x3, x4, x5, x6])) := ⟨xa_6 h1.of h2.of h3.of h4.of h5.of h6.of e1 e2 e3 e4 e5 e6⟩
theorem xa_7B {a1 a2 a3 a4 a5 a6 a7 : Expr} {m1 m2 m3 m4 m5 m6 m7 : R D} (h1 : Bx (XP X W a1 en m1)) (h2 : Bx (XP X W a2 en m2)) (h3 : Bx (XP X W a3 en m3)) (h4 : Bx (XP X W a4 en m4)) (h5 : Bx (XP X W a5 en m5)) (h6 : Bx (XP X W a6 en m6)) (h7 : Bx (XP X W a7 en m7)) (e1 : starEach [a1, a2, a3, a4, a5, a6, a7] X.env = (false, eval a1 X.env) :: starEach [a2, a3, a4, a5, a6, a7] X.env := by rfl) (e2 : starEach [a2, a3, a4, a5, a6, a7] X.env = (false, eval a2 X.env) :: starEach [a3, a4, a5, a6, a7] X.env := by rfl) (e3 : starEach [a3, a4, a5, a6, a7] X.env = (false, eval a3 X.env) :: starEach [a4, a5, a6, a7] X.env := by rfl) (e4 : starEach [a4, a5, a6, a7] X.env = (false, eval a4 X.env) :: starEach [a5, a6, a7] X.env := by rfl) (e5 : starEach [a5, a6, a7] X.env = (false, eval a5 X.env) :: starEach [a6, a7] X.env := by rfl) (e6 : starEach [a6, a7] X.env = (false, eval a6 X.env) :: starEach [a7] X.env := by rfl) (e7 : starEach [a7] X.env = (false, eval a7 X.env) :: starEach [] X.env := by rfl) : Bx (XA X W [a1, a2, a3, a4, a5, a6, a7] en (m1.bnd fun x1 => m2.bnd fun x2 => m3.bnd fun x3 => m4.bnd fun x4 => m5.bnd fun x5 => m6.bnd fun x6 => m7.bnd fun x7 => .ok [x1, x2, x3, x4, x5, x6, x7])) := ⟨xa_7 h1.of h2.of h3.of h4.of h5.of h6.of h7.of e1 e2 e3 e4 e5 e6 e7⟩
theorem xa_8B {a1 a2 a3 a4 a5 a6 a7 a8 : Expr} {m1 m2 m3 m4 m5 m6 m7 m8 : R D} (h1 : Bx (XP X W a1 en m1)) (h2 : Bx (XP X W a2 en m2)) (h3 : Bx (XP X W a3 en m3)) (h4 : Bx (XP X W a4 en m4)) (h5 : Bx (XP X W a5 en m5)) (h6 : Bx (XP X W a6 en m6)) (h7 : Bx (XP X W a7 en m7)) (h8 : Bx (XP X W a8 en m8)) (e1 : starEach [a1, a2, a3, a4, a5, a6, a7, a8] X.env = (false, eval a1 X.env) :: starEach [a2, a3, a4, a5, a6, a7, a8] X.env := by rfl) (e2 : starEach [a2, a3, a4, a5, a6, a7, a8] X.env = (false, eval a2 X.env) :: starEach [a3, a4, a5, a6, a7, a8] X.env := by rfl) (e3 : starEach [a3, a4, a5, a6, a7, a8] X.env = (false, eval a3 X.env) :: starEach [a4, a5, a6, a7, a8] X.env := by rfl) (e4 : starEach [a4, a5, a6, a7, a8] X.env = (false, eval a4 X.env) :: starEach [a5, a6, a7, a8] X.env := by rfl) (e5 : starEach [a5, a6, a7, a8] X.env = (false, eval a5 X.env) :: starEach [a6, a7, a8] X.env := by rfl) (e6 : starEach [a6, a7, a8] X.env = (false, eval a6 X.env) :: starEach [a7, a8] X.env := by rfl) (e7 : starEach [a7, a8] X.env = (false, eval a7 X.env) :: starEach [a8] X.env := by rfl) (e8 : starEach [a8] X.env = (false, eval a8 X.env) :: starEach [] X.env := by rfl) : Bx (XA X W [a1, a2, a3, a4, a5, a6, a7, a8] en (m1.bnd fun x1 => m2.bnd fun x2 => m3.bnd fun x3 => m4.bnd fun x4 => m5.bnd fun x5 => m6.bnd fun x6 => m7.bnd fun x7 => m8.bnd fun x8 => .ok [x1, x2, x3, x4, x5, x6, x7, x8])) := ⟨xa_8 h1.of h2.of h3.of h4.of h5.of h6.of h7.of h8.of e1 e2 e3 e4 e5 e6 e7 e8⟩
end
end Wk
set_option maxHeartbeats 4000000
/-! Wk34: comprehensions over what changes. -/
namespace Wk
open PySem PySem.Spec PyProof.Rows L2
section
variable {X : Cx} {W : WN} {eE : En} {en : En} {ec : Nat → Addr} {pos : Pos} {γ δ : Type} {φ : γ → En} {ψ : δ → En}
theorem xnv_lcV {i : Nat} {x : Str} {p : Pos} {it elt : Expr} {scope : Scope} {mi : R (List D × δ)} {me : γ → D → R (D × γ)} (g : Go X ec W) (hi : XIV X W eE (.Name x p) it en mi ψ) (f0 : δ → γ) (he : ∀ c d, BV X scope elt ((φ c).set i (some (.v d))) (me c d) (fun c' => (φ c').set i (some (.v d)))) (h0 : ∀ c, ψ c = φ (f0 c) := by intro _; rfl) (hblk : BlkOk X.N X.env.scope scope [(x, i)]) (hc : ∀ c, clr (φ c) [i] = true := by intro _; rfl)
    (hN : X.N[i]? = some x := by rfl) (hx : ∀ (s : Shared) (H0 : Hp) (C : Addr) (cl : List (Str × Addr)) (fp : List Addr), Loc (X.blk s H0 scope (compEnvC scope cl C X.env) fp).env.scope x := by intros; first | exact Or.inl rfl | exact Or.inr rfl)
    (hf : ∀ (s : Shared) (H0 : Hp) (C : Addr) (cl : List (Str × Addr)) (fp : List Addr), (X.blk s H0 scope (compEnvC scope cl C X.env) fp).fn x = true ∨ (X.blk s H0 scope (compEnvC scope cl C X.env) fp).env.scope.names.lookup x = some .local := by intros; first | exact .inl rfl | exact .inr rfl)
    (hs : ∀ x, foldedSetIterable it X.env x = pure x := by intro _; rfl) : XNV X W eE (.ListComp elt [⟨.Name x p, it, [], 0⟩] scope pos) en (mi.bnd2 fun ds c => lcVR me (f0 c) ds) φ := fun B σ G H S Q q => by
  refine pe_to (pe_lc (own := [(x, i)]) g.calm g.nd pi_w hblk (fun s H0 C cl fp => pg_name g.nd hN (hx s H0 C cl fp) (hf s H0 C cl fp)) (fun _ _ _ _ _ => pts_nil) pe_wb hs) ?_
  refine hi B σ G H S _ (wp_mono (wp_bnd.mp q) (fun r0 hd J G1 H1 l0 S1 wk => ?_) fun _ z => z)
  obtain ⟨ds, cc⟩ := r0
  have hd : Post X W eE B (lcVR me (f0 cc) ds) _ := hd
  rw [h0] at S1
  generalize f0 cc = c0 at *
  unfold lcVR at hd
  by_cases hln : ds.length ≤ 16000000
  · rw [if_pos hln] at hd
    intro D hD
    have hB := S1.h0 hD
    have hno := S1.noOwn hD
    refine ⟨fun i' m H' => m = ds.length - i' ∧ i' ≤ ds.length ∧ ∃ G' acc dn c, Le G1 G' ∧ St8 X.K B (φ c) σ G' H' ∧ H' D = some (.lst acc) ∧ G' D = none ∧ NoOwn (φ c) D ∧ RpAll X.K G' acc dn ∧ acc.length ≤ i' ∧ Post X W eE B (lcV me c (ds.drop i')) (fun r => ∀ p vs G2 H2, Le G G2 → St8 X.K B (φ r.2) σ G2 H2 → B.H0 p = none → NoOwn (φ r.2) p → G2 p = none → H2 p = some (.lst vs) → RpAll X.K G2 vs (dn ++ r.1) → Q (.ref p) H2),
      ⟨_, rfl, Nat.zero_le _, G1, [], [], c0, Le.refl _, ?_, upd_same, S1.lk.kn D hD, ?_, .nil, Nat.le_refl _, hd⟩, ?_⟩
    · exact S1.grow (Grow.own S1.lk hD)
    · exact hno
    · rintro i' m H' ⟨rfl, hi', G', acc, dn, c, l1, S', hA, gA, no, rA, lA, p⟩
      by_cases hlt : i' < ds.length
      · rw [List.drop_eq_getElem_cons hlt] at p
        obtain ⟨go, yl⟩ := wk.go i' ds[i'] (List.getElem?_eq_getElem hlt) G' H' l1 S'.lk
        refine .inr ⟨go, fun H3 => ∃ G3 acc dn c, Le G1 G3 ∧ St8 X.K B (φ c) σ G3 H3 ∧ H3 D = some (.lst acc) ∧ G3 D = none ∧ NoOwn (φ c) D ∧ RpAll X.K G3 acc dn ∧ acc.length ≤ i' + 1 ∧ Post X W eE B (lcV me c (ds.drop (i' + 1))) (fun r => ∀ p vs G2 H2, Le G G2 → St8 X.K B (φ r.2) σ G2 H2 → B.H0 p = none → NoOwn (φ r.2) p → G2 p = none → H2 p = some (.lst vs) → RpAll X.K G2 vs (dn ++ r.1) → Q (.ref p) H2),
          fun H3 ⟨G3, acc, dn, c, h⟩ => ⟨ds.length - (i' + 1), by omega, rfl, hlt, G3, acc, dn, c, h⟩, fun xv H4 y => ?_⟩
        obtain ⟨G4, w4, r4⟩ := yl xv H4 y
        have hA4 : H4 D = some (.lst acc) := w4.h _ _ hA
        have gA4 : G4 D = none := w4.cl D gA ⟨_, hA, trivial⟩
        have S6 := ((S'.grow w4).wipe (hc c)).set (i := i) r4
        refine ⟨wipe_set_self, ?_⟩
        show wEb X scope elt _ H4 _
        intro s0 H0' C cl fp
        refine he c ds[i'] s0 H0' C cl fp (B.with_ G4 D (.lst acc)) _ G4 H4 (S6.with_ hA4 gA4 (NoOwn.set no)) _ (wp_mono (wp_noE (wp_bnd.mp p)) (fun r hr v G7 H7 l7 S7 r7 => ?_) fun _ z => z.elim)
        obtain ⟨S8, no8, hA7⟩ := S7.unwith (S'.es.fr.grow w4) hB
        have gA7 : G7 D = none := S7.es.fr.cl D gA4 ⟨_, upd_same, trivial⟩
        have S9 : St8 X.K B (φ r.2) σ G7 H7 := by
          have z := (S8.unset (hc r.2)).wipe (hc r.2)
          rw [wipe_set_self] at z
          exact z.unwipe
        have no9 : NoOwn (φ r.2) D := fun j b qq c e => by
          refine no8 j b qq c ?_
          have nj : i ≠ j := fun z => by
            subst z
            rw [clr_at (hc r.2) (List.mem_singleton.mpr rfl)] at e; cases e
          show ((φ r.2).set i (some (.v ds[i'])))[j]? = _
          rw [List.getElem?_set_ne nj]
          exact e
        refine ⟨acc, hA7, Nat.lt_of_le_of_lt lA (Nat.lt_of_lt_of_le hlt (size_ok hln)), G7, acc ++ [v], dn ++ [r.1], r.2, l1.trans (w4.g.trans l7), S9.mutD hB no9 gA7, upd_same, gA7, no9, (rA.up (w4.g.trans l7)).app (.cons r7 .nil), by rw [List.length_append]; show _ + 1 ≤ _; omega, ?_⟩
        refine wp_mono (wp_bnd.mp hr) (fun s hs p vs G2 H2 a1 a2 a3 a4 a5 a6 a7 => hs p vs G2 H2 a1 a2 a3 a4 a5 a6 ?_) fun _ z => z
        show RpAll X.K G2 vs (dn ++ (r.1 :: s.1))
        have e : dn ++ (r.1 :: s.1) = dn ++ [r.1] ++ s.1 := by simp
        rw [e]; exact a7
      · have ei : i' = ds.length := by omega
        subst ei
        rw [List.drop_length] at p
        have p : ∀ p vs G2 H2, Le G G2 → St8 X.K B (φ c) σ G2 H2 → B.H0 p = none → NoOwn (φ c) p → G2 p = none → H2 p = some (.lst vs) → RpAll X.K G2 vs (dn ++ []) → Q (.ref p) H2 := p
        exact .inl ⟨wk.stop G' H' l1 S'.lk, p D acc G' H' (l0.trans l1) S' hB no gA hA (by rw [List.append_nil]; exact rA)⟩
  · rw [if_neg hln] at hd
    exact hd.elim
end
end Wk
set_option maxHeartbeats 4000000
/-! Wk35: how many unlike ints a list holds, len(set(xs)). -/
namespace Wk
open PySem PySem.Spec PyProof.Rows L2
/-- how many unlike ones -/
def cntI (ns : List Int) : Nat := (firstMet (fun i => ns.getD i 0) ns.length).length
def D.lenSet : D → Option D
  | .lst xs => (intsD xs).bind fun ns => if ns.length ≤ 4000 then some (.int (cntI ns : Nat)) else none
  | _ => none
def rLenSet (K : PySem.W.Frag) (x : V) (H : Hp) (Q : VK) : Prop := ∃ (l : Addr) (ns : List Int), x = .ref l ∧ SqL K H l (ns.map V.int) ∧ ns.length ≤ 4000 ∧ Q (.int (cntI ns : Nat)) H
theorem cntI_le (ns : List Int) : cntI ns ≤ ns.length := by
  have key : ∀ i, (firstMet (fun i => ns.getD i 0) i).length ≤ i := fun i => by
    induction i with
    | zero => exact Nat.le_refl _
    | succ i ih =>
      rw [firstMet_succ]
      unfold step_dedup
      split
      · omega
      · rw [List.length_append, List.length_singleton]; omega
  exact key _
section
variable {X : Cx} {W : WN} {eE : En} {en : En} {ec : Nat → Addr}
theorem pe_lenSet {a : Expr} {ta : TE} {p p2 q pos : Pos} (hc : X.calm = true) (hg : Gl X "len") (hm : X.mg "len" = none) (hg2 : Gl X "set") (hm2 : X.mg "set" = none) (ha : PE X a ta)
    (na : starEach [a] X.env = (false, eval a X.env) :: starEach [] X.env := by rfl) : PE X (.Call (.Name "len" p) [.Call (.Name "set" p2) [a] [] q] [] pos) (fun σ H Q => ta σ H fun x H1 => rLenSet X.K x H1 Q) := by
  refine ⟨fun pins s σ H Q I h => ?_⟩
  refine Call_ (ld_blt I hg hm PySem.boot_len ?_)
  refine PyProof.Rows.callWith_builtin1 (PyProof.Rows.args_cons ?_ rfl) rfl rfl
  refine Call_ (ld_blt I hg2 hm2 PyProof.Rows.boot_set ?_)
  refine PyProof.Rows.callWith_type1 (PyProof.Rows.args_cons (thn (ha.run pins s σ H _ I h) fun v s1 ⟨x, H1, I1, r1, q1⟩ => PyProof.Rows.args_nil ?_) na) na rfl
  obtain ⟨l, ns, rfl, hq, hl, q1⟩ := q1
  cases r1
  obtain ⟨its, r, pl, hz⟩ := I1.list hq
  have hlen : its.toArray.size = ns.length := by rw [List.size_toArray, ← r.length, List.length_map]
  refine call_set_list (I1.ok.hd hc) pl.isList (ns := ns) (by simpa using RZ.intsAre_vals r) (by rw [hlen]; unfold scanBound; omega) fun h' tk hS hk => ?_
  refine PyProof.Rows.args_nil ?_
  rw [hlen] at hS
  have hb := cntI_le ns
  unfold cntI at hb q1
  generalize firstMet (fun i => ns.getD i 0) ns.length = fm at hS hb q1
  obtain ⟨o, es, ep, t, ho, hex, hd, _, _, _, hf, hn⟩ := hS
  have I2 : Inv X pins σ H1 { s1 with heap := h', toks := tk } := I1.kept fun b o e => hk b o (Heap.lt_size e) e
  exact call_len_set ho hex hd hf (by rw [hn] <;> omega) ⟨.int (fm.length : Nat), H1, I2.tok _, ⟨_, by rw [hn]⟩, q1⟩
theorem xp_lenSet {a : Expr} {m : R D} {p p2 q pos : Pos} (g : Go X ec W) (h : XP X W a en m) (hm : X.mg "len" = none) (hm2 : X.mg "set" = none) (hg : Gl X "len" := by rfl) (hg2 : Gl X "set" := by rfl) (na : starEach [a] X.env = (false, eval a X.env) :: starEach [] X.env := by rfl) :
    XP X W (.Call (.Name "len" p) [.Call (.Name "set" p2) [a] [] q] [] pos) en (m.bnd fun d => R.of (D.lenSet d)) := fun σ G H S Q k => by
  refine pe_to (pe_lenSet g.calm hg hm hg2 hm2 pe_w na) (h σ G H S _ (wp_mono (wp_bnd.mp k) (fun d hd v G1 H1 w1 r1 => ?_) fun _ z => z))
  obtain ⟨d', e, hd⟩ := wp_of hd
  cases d with
  | lst xs =>
    obtain ⟨ns, e1, e2⟩ := Option.bind_eq_some_iff.mp (show (intsD xs).bind _ = some d' from e)
    split at e2
    · rename_i hl
      cases e2
      cases r1 with
      | lst h1 r1 =>
        have := ints_rp e1 r1
        subst this
        exact ⟨_, ns, rfl, .inl (w1.up.le _ _ rfl h1), hl, keepQ w1.up (fun v G3 H3 w3 r3 => hd v G3 H3 (w1.trans w3) r3) (.int _)⟩
    · cases e2
  | _ => cases e
end
theorem cnt_ge {ns : List Int} : ∀ i, i ≤ ns.length → ((firstMet (fun i => ns.getD i 0) i).length = i ↔ (ns.take i).Nodup) ∧ ∀ x, x ∈ firstMet (fun i => ns.getD i 0) i ↔ x ∈ ns.take i := fun i => by
  induction i with
  | zero => intro _; exact ⟨⟨fun _ => List.nodup_nil, fun _ => rfl⟩, fun x => by rw [List.take_zero]; exact Iff.rfl⟩
  | succ i ih =>
    intro hi
    obtain ⟨h1, h2⟩ := ih (by omega)
    have hl : (firstMet (fun i => ns.getD i 0) i).length ≤ i := by
      have key : ∀ i, (firstMet (fun i => ns.getD i 0) i).length ≤ i := fun i => by
        induction i with
        | zero => exact Nat.le_refl _
        | succ i ih =>
          rw [firstMet_succ]
          unfold step_dedup
          split
          · omega
          · rw [List.length_append, List.length_singleton]; omega
      exact key i
    have et : ns.take (i + 1) = ns.take i ++ [ns.getD i 0] := by
      rw [List.take_add_one, List.getElem?_eq_getElem (by omega), List.getD_eq_getElem?_getD, List.getElem?_eq_getElem (by omega)]
      rfl
    rw [firstMet_succ, et]
    unfold step_dedup
    by_cases c : (firstMet (fun i => ns.getD i 0) i).any (· == ns.getD i 0) = true
    · rw [if_pos c]
      have hm : ns.getD i 0 ∈ ns.take i := by
        obtain ⟨y, hy, e⟩ := List.any_eq_true.mp c
        have : y = ns.getD i 0 := eq_of_beq e
        rw [← this]
        exact (h2 y).mp hy
      refine ⟨⟨fun e => by omega, fun nd => ?_⟩, fun x => ?_⟩
      · have := (List.nodup_append.mp nd).2.2 _ hm _ (List.mem_singleton.mpr rfl)
        exact absurd rfl this
      · rw [h2, List.mem_append, List.mem_singleton]
        exact ⟨.inl, fun h => h.elim id fun e => e ▸ hm⟩
    · rw [if_neg c]
      have hm : ns.getD i 0 ∉ ns.take i := fun h => c (List.any_eq_true.mpr ⟨_, (h2 _).mpr h, beq_self_eq_true _⟩)
      refine ⟨?_, fun x => ?_⟩
      · rw [List.length_append, List.nodup_append]
        constructor
        · intro e
          refine ⟨h1.mp (by simpa using e), by simp, fun a ha b hb => ?_⟩
          rw [List.mem_singleton] at hb
          subst hb
          exact fun e => hm (e ▸ ha)
        · intro nd
          have := h1.mpr nd.1
          simpa using this
      · rw [List.mem_append, h2, List.mem_append]
/-- as many unlike ones as there are: none is there twice -/
theorem cntI_nodup (ns : List Int) : cntI ns = ns.length ↔ ns.Nodup := by
  have := (cnt_ge (ns := ns) ns.length (Nat.le_refl _)).1
  rwa [List.take_length] at this
end Wk
set_option maxHeartbeats 4000000
/-! Wk36: the least and the greatest of a row of ints, list or tuple. -/
namespace Wk
open PySem PySem.Spec PyProof.Rows L2
def minF : List Int → Int
  | [] => 0
  | n :: ns => ns.foldl min n
def maxF : List Int → Int
  | [] => 0
  | n :: ns => ns.foldl max n
theorem minF_is : ∀ {ns : List Int}, ns ≠ [] → minF ns ∈ ns ∧ ∀ y ∈ ns, minF ns ≤ y
  | [], h => absurd rfl h
  | n :: ns, _ => by
    have key : ∀ (ns : List Int) (n : Int), (ns.foldl min n = n ∨ ns.foldl min n ∈ ns) ∧ ns.foldl min n ≤ n ∧ ∀ y ∈ ns, ns.foldl min n ≤ y := fun ns => by
      induction ns with
      | nil => intro n; exact ⟨.inl rfl, Int.le_refl _, fun y hy => by cases hy⟩
      | cons x ns ih =>
        intro n
        obtain ⟨h1, h2, h3⟩ := ih (min n x)
        rw [List.foldl_cons]
        refine ⟨?_, by omega, fun y hy => ?_⟩
        · rcases h1 with h1 | h1
          · rw [h1]
            rcases (show min n x = n ∨ min n x = x by omega) with e | e
            · exact .inl e
            · rw [e]; exact .inr List.mem_cons_self
          · exact .inr (List.mem_cons_of_mem _ h1)
        · rcases List.mem_cons.mp hy with rfl | hy
          · omega
          · exact h3 y hy
    obtain ⟨h1, h2, h3⟩ := key ns n
    refine ⟨?_, fun y hy => ?_⟩
    · rcases h1 with h1 | h1
      · show ns.foldl min n ∈ _; rw [h1]; exact List.mem_cons_self
      · exact List.mem_cons_of_mem _ h1
    · rcases List.mem_cons.mp hy with rfl | hy
      · exact h2
      · exact h3 y hy
theorem maxF_is : ∀ {ns : List Int}, ns ≠ [] → maxF ns ∈ ns ∧ ∀ y ∈ ns, y ≤ maxF ns
  | [], h => absurd rfl h
  | n :: ns, _ => by
    have key : ∀ (ns : List Int) (n : Int), (ns.foldl max n = n ∨ ns.foldl max n ∈ ns) ∧ n ≤ ns.foldl max n ∧ ∀ y ∈ ns, y ≤ ns.foldl max n := fun ns => by
      induction ns with
      | nil => intro n; exact ⟨.inl rfl, Int.le_refl _, fun y hy => by cases hy⟩
      | cons x ns ih =>
        intro n
        obtain ⟨h1, h2, h3⟩ := ih (max n x)
        rw [List.foldl_cons]
        refine ⟨?_, by omega, fun y hy => ?_⟩
        · rcases h1 with h1 | h1
          · rw [h1]
            rcases (show max n x = n ∨ max n x = x by omega) with e | e
            · exact .inl e
            · rw [e]; exact .inr List.mem_cons_self
          · exact .inr (List.mem_cons_of_mem _ h1)
        · rcases List.mem_cons.mp hy with rfl | hy
          · omega
          · exact h3 y hy
    obtain ⟨h1, h2, h3⟩ := key ns n
    refine ⟨?_, fun y hy => ?_⟩
    · rcases h1 with h1 | h1
      · show ns.foldl max n ∈ _; rw [h1]; exact List.mem_cons_self
      · exact List.mem_cons_of_mem _ h1
    · rcases List.mem_cons.mp hy with rfl | hy
      · exact h2
      · exact h3 y hy
def D.minT : List D → Option D
  | [.tup xs] => (intsD xs).bind fun ns => if ns = [] then none else some (.int (minF ns))
  | _ => none
def D.maxT : List D → Option D
  | [.tup xs] => (intsD xs).bind fun ns => if ns = [] then none else some (.int (maxF ns))
  | _ => none
def rMinT (K : PySem.W.Frag) : List V → Hp → VK → Prop := fun vs H Q => ∃ (a : Addr) (n : Int) (ns : List Int), vs = [.ref a] ∧ SqT K H a ((n :: ns).map V.int) ∧ Q (.int (ns.foldl min n)) H
def rMaxT (K : PySem.W.Frag) : List V → Hp → VK → Prop := fun vs H Q => ∃ (a : Addr) (n : Int) (ns : List Int), vs = [.ref a] ∧ SqT K H a ((n :: ns).map V.int) ∧ Q (.int (ns.foldl max n)) H
theorem rd_ints (h : Heap) : ∀ {vs : List Value} {xs : List Int}, IntsAre vs xs → ReadsAll h vs (xs.map PyData.int) []
  | _, _, .nil => .nil
  | _, _, .cons n t r => .cons (as := []) (bs := []) (.int n t) (rd_ints h r)
theorem alike_ints (xs : List Int) : PySem.W.AlikeAll (xs.map PyData.int) := by
  refine ⟨fun x hx y hy => ?_, fun x hx => ?_⟩
  · obtain ⟨a, _, rfl⟩ := List.mem_map.mp hx
    obtain ⟨b, _, rfl⟩ := List.mem_map.mp hy
    rfl
  · obtain ⟨a, _, rfl⟩ := List.mem_map.mp hx
    intro e; cases e
theorem depth_ints : ∀ xs : List Int, PyData.depthAll (xs.map PyData.int) ≤ 1
  | [] => by simp [PyData.depthAll]
  | x :: xs => by
    have := depth_ints xs
    simp only [List.map_cons, PyData.depthAll, PyData.depth]
    omega
section
variable {X : Cx}
theorem call_minT (hc : X.calm = true) (hu : X.A.units + 64 < cLine) : CallR X (.builtin "min") (rMinT X.K) := by
  intro pins s σ H vs us Q I r h
  obtain ⟨a, n, ns, rfl, hs, q⟩ := h
  obtain ⟨its, rv, hl, _⟩ := I.tuple hs
  rw [Vals.ref1 r]
  have hi := rd_ints s.heap rv.ints
  have hd := depth_ints (n :: ns)
  refine PySem.W.min_tuple_data (I.ok.hd hc) hl (x := .int n) (xs := ns.map .int) (as := []) (by simpa using hi) (alike_ints (n :: ns)) (by rw [List.map_cons] at hd; omega) fun i v h' tk bs hv rd hk => ?_
  rw [PySem.W.minD_ints] at rd
  cases rd
  exact ⟨.int _, H, I.kept hk, ⟨_, rfl⟩, q⟩
theorem call_maxT (hc : X.calm = true) (hu : X.A.units + 64 < cLine) : CallR X (.builtin "max") (rMaxT X.K) := by
  intro pins s σ H vs us Q I r h
  obtain ⟨a, n, ns, rfl, hs, q⟩ := h
  obtain ⟨its, rv, hl, _⟩ := I.tuple hs
  rw [Vals.ref1 r]
  have hi := rd_ints s.heap rv.ints
  have hd := depth_ints (n :: ns)
  refine PySem.W.max_tuple_data (I.ok.hd hc) hl (x := .int n) (xs := ns.map .int) (as := []) (by simpa using hi) (alike_ints (n :: ns)) (by rw [List.map_cons] at hd; omega) fun i v h' tk bs hv rd hk => ?_
  rw [PySem.W.maxD_ints] at rd
  cases rd
  exact ⟨.int _, H, I.kept hk, ⟨_, rfl⟩, q⟩
end
theorem d_minT {K : PySem.W.Frag} : CallD K (rMinT K) D.minT := fun G H xs ds d l r e Q q => by
  unfold D.minT at e
  split at e
  · obtain ⟨ns, e1, e2⟩ := Option.bind_eq_some_iff.mp e
    split at e2
    · cases e2
    · rename_i hn
      cases e2
      cases r with
      | cons a b =>
        cases b
        cases a with
        | tup h1 r1 =>
          have := ints_rp e1 r1
          subst this
          cases ns with
          | nil => exact absurd rfl hn
          | cons n ns => exact ⟨_, n, ns, rfl, l.le.seqT h1, keepQ l q (.int _)⟩
  · cases e
theorem d_maxT {K : PySem.W.Frag} : CallD K (rMaxT K) D.maxT := fun G H xs ds d l r e Q q => by
  unfold D.maxT at e
  split at e
  · obtain ⟨ns, e1, e2⟩ := Option.bind_eq_some_iff.mp e
    split at e2
    · cases e2
    · rename_i hn
      cases e2
      cases r with
      | cons a b =>
        cases b
        cases a with
        | tup h1 r1 =>
          have := ints_rp e1 r1
          subst this
          cases ns with
          | nil => exact absurd rfl hn
          | cons n ns => exact ⟨_, n, ns, rfl, l.le.seqT h1, keepQ l q (.int _)⟩
  · cases e
end Wk
set_option maxHeartbeats 4000000
/-! Wk37: tuple(reversed(range(..))). -/
namespace Wk
open PySem PySem.Spec PyProof.Rows L2
theorem nolen_rit : typeLookup (.type "range_iterator") "__len__" = pure none := by rw [typeLookup_type, builtinLookup_eq_fast]; kernel_rfl
theorem hint_rit : typeLookup (.type "range_iterator") "__length_hint__" = pure (some (.builtin "range_iterator.__length_hint__")) := by rw [typeLookup_type, builtinLookup_eq_fast]; kernel_rfl
theorem slot_rit_hint : Slot "range_iterator" "__length_hint__" "range_iterator.__length_hint__" :=
  .of (owner := "range_iterator") (n := "__length_hint__") (by rw [typeLookup_type, builtinLookup_eq_fast]; kernel_rfl) (by decide +kernel) (by decide +kernel) (by decide +kernel)
    (by first | exact .inl (by decide +kernel) | exact .inr (by decide +kernel)) (by rw [isSubtype_type]; kernel_rfl)
theorem entry_rit_hint : entryFor table "range_iterator.__length_hint__" = some Builtin.«range_iterator.__length_hint__» := entryFor_of_tree (by kernel_rfl)
section
variable {prog : Program} {w : World} {A : Around} {E : Value → Shared → Prop} {s : Shared}
theorem call_rit_hint {it : Addr} {x left step : Int} {Q : Value → Shared → Prop} (hit : IsRangeIter s.heap it x left step) (h : Q (.int left s.toks) { s with toks := s.toks + 1 }) :
    wpAny (model prog w) A (call (.builtin "range_iterator.__length_hint__") [.ref it]) Q E s := by
  have hT : s.TypeIs (.ref it) "range_iterator" := ⟨_, hit, rfl⟩
  refine wpAny_call_entry slot_rit_hint hT entry_rit_hint ?_ (F.args_range_iterator_length_hint_1 _)
  unfold Builtin.«range_iterator.__length_hint__»
  refine wpAny_bind (wpAny_of_eq (a := Value.ref it) (by rfl) ?_)
  refine wpAny_bind (wpAny_field hit rfl (i := 1) rfl ?_)
  show wpAny _ _ (mkInt left >>= fun v => ret v) _ _ s
  exact wpAny_bind (wpAny_mkInt (wpAny_pure ⟨_, rfl, h⟩))
theorem collect_rit {it : Addr} {a c : Int} {n : Nat} {Q : List Value → Shared → Prop} (hh : A.handled = none) (hit : IsRangeIter s.heap it a n c) (hn : n ≤ sizeLine)
    (hQ : ∀ (h' : Heap) (tk : Nat) (acc : Array Value), (∀ b o, b ≠ it → s.heap.get? b = some o → h'.get? b = some o) → ItemsOf (fun i v => ∃ t, v = .int (a + i * c) t) acc n → Q acc.toList { s with heap := h', toks := tk }) :
    wpAny (model prog w) A (collect (.ref it)) Q E s := by
  have W := (Walks.range (prog := prog) (w := w) (A := A.in1) hh it a c n).toS
  have hSi : s.heap.objs.size ≠ it := Nat.ne_of_gt (Heap.lt_size hit)
  have hSf : s.heap.objs.size ∉ [it] := by simp only [List.mem_cons, List.not_mem_nil, or_false]; exact hSi
  unfold collect
  refine wpAny_bind (wpAny_runValue (codeAny_builtin F.entry_proto_collect ?_))
  rw [Around.under_plainId F.plain_proto_collect _]
  show wpAny _ A.in1 (newList [] >>= fun l' => again (.builtin "list.__iadd__" ⟨[l', .ref it], []⟩)) _ _ s
  refine wpAny_bind (wpAny_newObj_type ?_)
  refine wpAny_pure ⟨plainId_quiet F.plain_list_iadd _, codeAny_builtin F.entry_list_iadd ?_⟩
  rw [Around.under_plainId F.plain_list_iadd _]
  have hS₁ : (s.heap.push { cls := .type "list", data := .seq ([] : List Value).toArray }).get? s.heap.objs.size = some { cls := .type "list", data := .seq ([] : List Value).toArray } := Heap.get?_push_size _ rfl
  have hit1 : IsRangeIter (s.heap.push { cls := .type "list", data := .seq ([] : List Value).toArray }) it a n c := Heap.get?_push_of_some _ hit
  have hT : ({ s with heap := s.heap.push { cls := .type "list", data := .seq ([] : List Value).toArray } } : Shared).TypeIs (.ref it) "range_iterator" := ⟨_, hit1, rfl⟩
  have h1 : Builtin.List.listSameRef (.ref s.heap.objs.size) (.ref it) = false := by simp [Builtin.List.listSameRef, hSi]
  show wpAny _ A.in1 (Builtin.List.listExtendWith (.ref s.heap.objs.size) (.ref it) (.ref s.heap.objs.size)) _ _ _
  unfold Builtin.List.listExtendWith
  refine wpAny_bind (wpAny_typeOf hT ?_)
  rw [if_neg (by rw [h1]; decide)]
  refine wpAny_bind (wpAny_pyIter_rangeiter (s := { s with heap := s.heap.push { cls := .type "list", data := .seq ([] : List Value).toArray } }) hit1 ?_)
  refine wpAny_bind (wpAny_holding ?_)
  unfold Builtin.List.listLengthHint
  refine wpAny_bind (wpAny_specialOf hT nolen_rit ?_)
  show wpAny _ A.in1 (specialOf (Value.ref it) (Str.ofString "__length_hint__") >>= _) _ _ _
  refine wpAny_bind (wpAny_specialOf hT hint_rit ?_)
  generalize hid : ("range_iterator.__length_hint__" : String) = id0
  wp_delta
  rw [show splitId id0 = some ("range_iterator", "__length_hint__") from by subst hid; decide +kernel]
  subst hid
  refine wpAny_bind (wpAny_isInstance (b := true) hT (by rw [isSubtype_type]; kernel_rfl) ?_)
  show wpAny _ A.in1 (call (.builtin "range_iterator.__length_hint__") [.ref it] >>= _) _ _ _
  refine wpAny_bind (call_rit_hint hit1 ?_)
  refine wpAny_bind (wpAny_of_eq (a := some (n : Int)) (by rfl) ?_)
  have tl : Builtin.List.listTooLong (n : Int).toNat = false := by
    unfold Builtin.List.listTooLong
    rw [Int.toNat_natCast]
    exact decide_eq_false (by omega)
  dsimp only
  rw [tl, if_neg (by decide)]
  refine wpAny_pure ?_
  rw [if_neg (by decide)]
  have e0 : ((n : Nat) : Int) - ((0 : Nat) : Int) = (n : Int) := by omega
  have e9 : a + ((0 : Nat) : Int) * c = a := by simp
  have hst : IsRangeIter (s.heap.push { cls := .type "list", data := .seq ([] : List Value).toArray }) it (a + ((0 : Nat) : Int) * c) (((n : Nat) : Int) - ((0 : Nat) : Int)) c := by rw [e0, e9]; exact hit1
  refine wpAny_pure ⟨plainId_quiet F.plain_extend_loop _, codeAny_extend_loopS W hn _ hSf _ n 0 _ _ _ rfl (Nat.zero_le _) hst hS₁ (ItemsOf.nil _) fun s' acc' c' hm hS' hacc => ?_⟩
  show wpAny _ A (load s.heap.objs.size >>= _) _ _ s'
  refine wpAny_bind (wpAny_load hS' ?_)
  refine wpAny_pure ?_
  rw [Moved.eq_with hm]
  refine hQ s'.heap s'.toks acc' (fun b o hb e => hm.heap b o (fun hmem => ?_) (Heap.get?_push_of_some _ e)) hacc
  rcases List.mem_cons.mp hmem with e' | hmem
  · exact absurd (Heap.lt_size e) (by rw [e']; exact Nat.lt_irrefl _)
  · exact hb (List.mem_singleton.mp hmem)
theorem code_tuple_new_rit {it : Addr} {a c : Int} {n : Nat} {Q₁ : Value → Shared → Prop} (hh : A.handled = none) (hit : IsRangeIter s.heap it a n c) (hn : n ≤ sizeLine)
    (h : ∀ (h' : Heap) (tk : Nat) (acc : Array Value), (∀ b o, b ≠ it → s.heap.get? b = some o → h'.get? b = some o) → ItemsOf (fun i v => ∃ t, v = .int (a + i * c) t) acc n →
      Q₁ (.ref h'.objs.size) { s with heap := h'.push { cls := .type "tuple", data := .seq acc }, toks := tk }) :
    codeAny (model prog w) A (.call (.builtin "tuple.__new__") ⟨[.type "tuple", .ref it], []⟩) (wants Q₁ E) s := by
  refine codeAny_of_tree ?_
  show wpAny _ A.in1 (do checkBuiltinCall "tuple.__new__" ⟨[.type "tuple", .ref it], []⟩; again (.builtin "tuple.__new__" ⟨[.type "tuple", .ref it], []⟩)) _ _ s
  refine wpAny_bind (wpAny_of_eq (F.newCall_tuple_1 _) (wpAny_pure ⟨plainId_quiet F.plain_tuple_new _, codeAny_builtin F.entry_tuple_new ?_⟩))
  rw [Around.under_plainId F.plain_tuple_new _]
  have hsub := sub_tuple_self
  have hinit := init_tuple_lookup
  have hmh := madeHere_tuple
  have hTI : s.TypeIs (.ref it) "range_iterator" := ⟨_, hit, rfl⟩
  have hh1 : A.in1.handled = none := hh
  wp_walk using wpAny_typeOf hTI, collect_rit (A := A.in1) hh1 hit hn
  intro h' tk acc hk hacc
  show wpAny _ _ (Builtin.Tuple.tupleExact acc.toList.toArray >>= fun v => ret v) _ _ _
  unfold Builtin.Tuple.tupleExact
  refine wpAny_bind (wpAny_newObj_type ?_ (by show acc.toList.toArray.size ≤ sizeLine; simp only [Array.toArray_toList]; rw [hacc.1]; exact hn))
  refine wpAny_pure ?_
  have e : acc.toList.toArray = acc := by simp
  rw [e]
  exact h h' tk acc hk hacc
theorem call_tuple_rit {it : Addr} {a c : Int} {n : Nat} {Q : Value → Shared → Prop} (hh : A.handled = none) (hit : IsRangeIter s.heap it a n c) (hn : n ≤ sizeLine)
    (hQ : ∀ (h' : Heap) (tk : Nat) (acc : Array Value), (∀ b o, b ≠ it → s.heap.get? b = some o → h'.get? b = some o) → ItemsOf (fun i v => ∃ t, v = .int (a + i * c) t) acc n →
      Q (.ref h'.objs.size) { s with heap := h'.push { cls := .type "tuple", data := .seq acc }, toks := tk }) :
    wpAny (model prog w) A (call (.type "tuple") [.ref it]) Q E s := by
  refine callType_codes (Q₁ := fun obj s₁ => s₁.TypeIs obj "tuple" ∧ Q obj s₁) F.called_tuple (F.typeCall_tuple_1 _) F.entry_object_init
    (code_tuple_new_rit (A := A.in1) hh hit hn fun h' tk acc hk hacc => ⟨⟨_, Heap.get?_push_size _ rfl, rfl⟩, hQ h' tk acc hk hacc⟩) fun obj s₁ h₁ => ?_
  exact ⟨h₁.1, F.args_object_init_2 obj _, object_init_meets F.called_tuple.init.lookup F.called_tuple.made (by decide) prog w A.in1 _ s₁ ⟨h₁.1, rfl, h₁.2⟩⟩
end
/-- a .. b - 1 from its end -/
def rgW (a b : Int) : List V := (List.range (b - a).toNat).map fun i => V.int (b - 1 - (i : Nat))
def upW (a b : Int) : List D := (List.range (b - a).toNat).map fun i => D.int (b - 1 - (i : Nat))
def rgLW (i j : Int) : Option (List D) := if -1000000 < i ∧ i < 1000000 ∧ -1000000 < j ∧ j < 1000000 then some (upW i j) else none
theorem rgW_length (a b : Int) : (rgW a b).length = (b - a).toNat := by unfold rgW; rw [List.length_map, List.length_range]
theorem vals_rgW {a b x : Int} {acc : Array Value} (hx : 0 < (b - a).toNat → x = b - 1) (h : ItemsOf (fun i v => ∃ t, v = .int (x + i * (-1)) t) acc (b - a).toNat) : Vals (rgW a b) acc.toList := by
  have e : acc.toList.length = (b - a).toNat := by rw [Array.length_toList]; exact h.1
  unfold rgW
  rw [← e]
  refine vals_of_get acc.toList _ fun j u hj => ?_
  obtain ⟨t, rfl⟩ := h.2 j u (by rw [← hj, Array.getElem?_toList])
  have hl : j < acc.toList.length := (List.getElem?_eq_some_iff.mp hj).1
  refine ⟨t, ?_⟩
  rw [hx (by omega)]
  congr 1
  omega
theorem rp_upW {K : PySem.W.Frag} {G : Hp} (i j : Int) : RpAll K G (rgW i j) (upW i j) := by
  unfold rgW upW
  generalize List.range (j - i).toNat = l
  induction l with
  | nil => exact .nil
  | cons x l ih => exact .cons (.int _) ih
theorem rgLW_some {i j : Int} {ds : List D} (h : rgLW i j = some ds) : ds = upW i j ∧ RgOk i j := by
  unfold rgLW at h
  split at h
  · rename_i z
    cases h
    exact ⟨rfl, by omega, by omega, by omega, by omega, by omega⟩
  · cases h
section
variable {X : Cx} {W : WN} {en : En} {ec : Nat → Addr}
theorem pe_tupRevRg {e : Expr} {te : L2.St → Hp → (Int → Int → Hp → Prop) → Prop} {p p2 pos pos2 : Pos} (hc : X.calm = true) (hg : Gl X "tuple") (hm : X.mg "tuple" = none) (hg2 : Gl X "reversed") (hm2 : X.mg "reversed" = none) (he : PRg X e te)
    (hs : starEach [e] X.env = (false, eval e X.env) :: starEach [] X.env := by rfl)
    (hs2 : starEach [.Call (.Name "reversed" p2) [e] [] pos2] X.env = (false, eval (.Call (.Name "reversed" p2) [e] [] pos2) X.env) :: starEach [] X.env := by rfl) :
    PE X (.Call (.Name "tuple" p) [.Call (.Name "reversed" p2) [e] [] pos2] [] pos) (fun σ H Q => te σ H fun a b H1 => RgOk a b ∧ ∀ q, H1 q = none → Q (.ref q) (upd H1 q (.tup (rgW a b)))) := by
  refine ⟨fun pins s σ H Q I h => ?_⟩
  refine Call_ (ld_blt I hg hm boot_tuple (PyProof.Rows.callWith_type1 (args_cons (Call_ (ld_blt I hg2 hm2 PyProof.Rows.boot_reversed (PyProof.Rows.callWith_type1 (args_cons (thn (he pins s σ H _ I h) fun x s1 ⟨r, a, b, t, u, v, H1, ex, hr, I1, ok, q⟩ => args_nil ?_) hs) hs rfl))) hs2) hs2 rfl))
  subst ex
  obtain ⟨b1, b2, b3, b4, b5⟩ := ok
  have hn : Builtin.Range.rangeSize a b 1 = (((b - a).toNat : Nat) : Int) := rangeSize_nat a b
  refine call_reversed_range hr (smallRev_one b1 b2 b3 b4) (args_nil ?_)
  have k0 : ∀ c o, s1.heap.get? c = some o → (s1.heap.push (rngRevObj a b 1)).get? c = some o := fun c o e => Heap.get?_push_of_some _ e
  have I2 : Inv X pins σ H1 { s1 with heap := s1.heap.push (rngRevObj a b 1) } := I1.kept (t' := s1.toks) k0
  obtain ⟨f0, f1, f2, f3, f4, f5⟩ := I1.fpOk (H' := H1) (b := s1.heap.objs.size) (Nat.le_refl _) (I1.hok.fresh (Nat.le_refl _))
  have hz : (b - a).toNat ≤ sizeLine := by rw [sizeLine_eq]; omega
  have hit : IsRangeIter (s1.heap.push (rngRevObj a b 1)) s1.heap.objs.size (a + (((b - a).toNat : Nat) : Int) - 1) (((b - a).toNat : Nat) : Int) (-1) := by
    have e1 : a + (((b - a).toNat : Nat) : Int) - 1 = a + (Builtin.Range.rangeSize a b 1 - 1) * 1 := by rw [hn]; omega
    rw [e1, ← hn]
    exact Heap.get?_push_size _ rfl
  refine call_tuple_rit (s := { s1 with heap := s1.heap.push (rngRevObj a b 1) }) (I1.ok.hd hc) hit hz fun h' tk acc hk hi => ?_
  have I3 : Inv X pins σ H1 { s1 with heap := h', toks := tk } := I2.turned (t' := tk) (fun b o hb e => hk b o hb e) f0 f1 f3 f4 f5
  refine ⟨.ref h'.objs.size, upd H1 h'.objs.size (.tup (rgW a b)), I3.laid (t' := tk) (fun c o e => Heap.get?_push_of_some _ e) (Nat.le_refl _) (show ObjOk X.prog X.w _ _ _ (.tup (rgW a b)) from ⟨?_, acc.toList, vals_rgW (fun _ => by omega) hi, ?_⟩), rfl, q _ (I3.hok.fresh (Nat.le_refl _))⟩
  · rw [rgW_length]; exact hz
  · rw [Array.toArray_toList]; exact IsTup.new _ _
theorem xp_trgW {e : Expr} {p p2 pos pos2 : Pos} {mr : R (Int × Int)} (g : Go X ec W) (hm : X.mg "tuple" = none) (hm2 : X.mg "reversed" = none) (h : XR X W e en mr) (hg : Gl X "tuple" := by rfl) (hg2 : Gl X "reversed" := by rfl)
    (hs : starEach [e] X.env = (false, eval e X.env) :: starEach [] X.env := by rfl)
    (hs2 : starEach [.Call (.Name "reversed" p2) [e] [] pos2] X.env = (false, eval (.Call (.Name "reversed" p2) [e] [] pos2) X.env) :: starEach [] X.env := by rfl) :
    XP X W (.Call (.Name "tuple" p) [.Call (.Name "reversed" p2) [e] [] pos2] [] pos) en (mr.bnd2 fun i j => (R.of (rgLW i j)).bnd fun ds => .ok (.tup ds)) := fun σ G H S Q q => by
  obtain ⟨t, ht, h⟩ := h
  refine pe_to (pe_tupRevRg g.calm hg hm hg2 hm2 ht hs hs2) (h σ G H S _ (wp_mono (wp_bnd.mp q) (fun r hr G1 H1 w1 => ?_) fun _ z => z))
  obtain ⟨ds, e1, hd⟩ := wp_of (wp_bnd.mp hr)
  obtain ⟨rfl, ok⟩ := rgLW_some e1
  refine ⟨ok, fun p hp => ?_⟩
  have w2 := Grow.new (o := .tup (rgW r.1 r.2)) w1.up hp rfl
  exact hd _ _ _ (w1.trans w2) (.tup (.inl (.inl upd_same)) (rp_upW _ _))
end
end Wk
set_option maxHeartbeats 4000000
/-! Wk38: zip of two lists or of two tuples, walked by two names. -/
namespace Wk
open PySem PySem.Spec PyProof.Rows L2
def zL (xs ys : List D) : List D := (List.range (min xs.length ys.length)).map fun i => .tup [xs.getD i .non, ys.getD i .non]
def D.zipD : List D → Option (List D)
  | [.lst xs, .lst ys] => some (zL xs ys)
  | [.tup xs, .tup ys] => some (zL xs ys)
  | _ => none
theorem zL_at {xs ys : List D} {i : Nat} {d : D} (e : (zL xs ys)[i]? = some d) : ∃ (i1 : i < xs.length) (i2 : i < ys.length), d = .tup [xs[i], ys[i]] := by
  have ll : (zL xs ys).length = min xs.length ys.length := by unfold zL; simp
  have hi : i < min xs.length ys.length := by rw [← ll]; exact (List.getElem?_eq_some_iff.mp e).1
  have i1 : i < xs.length := by omega
  have i2 : i < ys.length := by omega
  refine ⟨i1, i2, ?_⟩
  unfold zL at e
  rw [List.getElem?_map, List.getElem?_range hi] at e
  simp only [Option.map_some, Option.some.injEq] at e
  rw [← e, List.getD_eq_getElem?_getD, List.getD_eq_getElem?_getD, List.getElem?_eq_getElem i1, List.getElem?_eq_getElem i2]
  rfl
theorem wlk_Z {K : PySem.W.Frag} {G : Hp} {a b : Addr} {xs ys : List V} {ds es : List D} (h1 : Rd G a (.lst xs)) (h2 : Rd G b (.lst ys)) (r1 : RpAll K G xs ds) (r2 : RpAll K G ys es) : Wlk K (Itz K a b) G (zL ds es) := by
  have ll : (zL ds es).length = min ds.length es.length := by unfold zL; simp
  refine ⟨fun G' H' l lk => ⟨xs, ys, .inl (lk.le _ _ rfl (l _ _ rfl h1)), .inl (lk.le _ _ rfl (l _ _ rfl h2)), by rw [ll, r1.len, r2.len]; omega⟩, fun i d e G' H' l lk => ?_⟩
  obtain ⟨i1, i2, rfl⟩ := zL_at e
  obtain ⟨x, ex, rx⟩ := (r1.up l).get (List.getElem?_eq_getElem i1)
  obtain ⟨y, ey, ry⟩ := (r2.up l).get (List.getElem?_eq_getElem i2)
  have q1 : SqL K H' a xs := .inl (lk.le _ _ rfl (l _ _ rfl h1))
  have q2 : SqL K H' b ys := .inl (lk.le _ _ rfl (l _ _ rfl h2))
  refine ⟨⟨xs, ys, x, y, q1, q2, ex, ey⟩, ?_⟩
  rintro v H'' ⟨T1, x', y', rfl, n1, rfl, f1, f2⟩
  have e1 : x' = x := Option.some.inj ((f1 _ q1).symm.trans ex)
  have e2 : y' = y := Option.some.inj ((f2 _ q2).symm.trans ey)
  subst e1; subst e2
  have w1 := Grow.new (o := .tup [x', y']) lk n1 rfl
  exact ⟨_, w1, .tup (.inl (.inl upd_same)) (.cons (rx.up w1.g) (.cons (ry.up w1.g) .nil))⟩
theorem wlk_ZT {K : PySem.W.Frag} {G : Hp} {a b : Addr} {xs ys : List V} {ds es : List D} (h1 : SqT K G a xs) (h2 : SqT K G b ys) (r1 : RpAll K G xs ds) (r2 : RpAll K G ys es) : Wlk K (RZ.ItzT K a b) G (zL ds es) := by
  have ll : (zL ds es).length = min ds.length es.length := by unfold zL; simp
  refine ⟨fun G' H' l lk => ⟨xs, ys, lk.le.seqT (l.seqT h1), lk.le.seqT (l.seqT h2), by rw [ll, r1.len, r2.len]; omega⟩, fun i d e G' H' l lk => ?_⟩
  obtain ⟨i1, i2, rfl⟩ := zL_at e
  obtain ⟨x, ex, rx⟩ := (r1.up l).get (List.getElem?_eq_getElem i1)
  obtain ⟨y, ey, ry⟩ := (r2.up l).get (List.getElem?_eq_getElem i2)
  have q1 : SqT K H' a xs := lk.le.seqT (l.seqT h1)
  have q2 : SqT K H' b ys := lk.le.seqT (l.seqT h2)
  refine ⟨⟨xs, ys, x, y, q1, q2, ex, ey⟩, ?_⟩
  rintro v H'' ⟨T1, x', y', rfl, n1, rfl, f1, f2⟩
  have e1 : x' = x := Option.some.inj ((f1 _ q1).symm.trans ex)
  have e2 : y' = y := Option.some.inj ((f2 _ q2).symm.trans ey)
  subst e1; subst e2
  have w1 := Grow.new (o := .tup [x', y']) lk n1 rfl
  exact ⟨_, w1, .tup (.inl (.inl upd_same)) (.cons (rx.up w1.g) (.cons (ry.up w1.g) .nil))⟩
section
variable {X : Cx} {W : WN} {en : En} {a b : Expr} {ms : R (List D)} {pos : Pos}
theorem xi_zip {p tpos : Pos} {elts : List Expr} {kk : Nat} (hm : X.mg "zip" = none) (ha : XA X W [a, b] en ms) (hg : Gl X "zip" := by rfl)
    (hs : starEach [a, b] X.env = (false, eval a X.env) :: starEach [b] X.env := by rfl) (hpl : (backTo pos (starEach [b] X.env)).any (·.1) = false := by rfl) :
    XI X W (.Tuple elts kk tpos) (.Call (.Name "zip" p) [a, b] [] pos) en (ms.bnd fun ds => R.of (D.zipD ds)) := fun σ G H S Q h => by
  refine pi_to (RZ.pi_zipA hg hm pa_w hs hpl) (ha σ G H S _ (wp_mono (wp_bnd.mp h) (fun ds hd vs G1 H1 w1 r1 => ?_) fun _ z => z))
  obtain ⟨l, e, hd⟩ := wp_of hd
  unfold D.zipD at e
  split at e
  · cases e
    cases r1 with
    | cons r1 r2 =>
      cases r2 with
      | cons r2 r3 =>
        cases r3
        cases r1 with
        | lst a1 b1 =>
          cases r2 with
          | lst a2 b2 => exact ⟨_, _, _, _, rfl, .inl ⟨.inl (w1.up.le _ _ rfl a1), .inl (w1.up.le _ _ rfl a2), hd _ G1 H1 w1 (wlk_Z a1 a2 b1 b2)⟩⟩
  · cases e
    cases r1 with
    | cons r1 r2 =>
      cases r2 with
      | cons r2 r3 =>
        cases r3
        cases r1 with
        | tup a1 b1 =>
          cases r2 with
          | tup a2 b2 => exact ⟨_, _, _, _, rfl, .inr ⟨w1.up.le.seqT a1, w1.up.le.seqT a2, hd _ G1 H1 w1 (wlk_ZT a1 a2 b1 b2)⟩⟩
  · cases e
end
end Wk
set_option maxHeartbeats 4000000
/-! Wk39: a comprehension that changes something, given to a name. -/
namespace Wk
open PySem PySem.Spec PyProof.Rows L2
section
variable {X : Cx} {W : WN} {eE : En} {en : En} {ec : Nat → Addr} {pos : Pos} {γ δ : Type} {φ : γ → En} {ψ : δ → En}
theorem lcV_run {i : Nat} {x : Str} {p : Pos} {it elt : Expr} {scope : Scope} {mi : R (List D × δ)} {me : γ → D → R (D × γ)} (g : Go X ec W) (hi : XIV X W eE (.Name x p) it en mi ψ) (f0 : δ → γ) (he : ∀ c d, BV X scope elt ((φ c).set i (some (.v d))) (me c d) (fun c' => (φ c').set i (some (.v d)))) (h0 : ∀ c, ψ c = φ (f0 c) := by intro _; rfl) (hblk : BlkOk X.N X.env.scope scope [(x, i)]) (hc : ∀ c, clr (φ c) [i] = true := by intro _; rfl)
    (hN : X.N[i]? = some x := by rfl) (hx : ∀ (s : Shared) (H0 : Hp) (C : Addr) (cl : List (Str × Addr)) (fp : List Addr), Loc (X.blk s H0 scope (compEnvC scope cl C X.env) fp).env.scope x := by intros; first | exact Or.inl rfl | exact Or.inr rfl)
    (hf : ∀ (s : Shared) (H0 : Hp) (C : Addr) (cl : List (Str × Addr)) (fp : List Addr), (X.blk s H0 scope (compEnvC scope cl C X.env) fp).fn x = true ∨ (X.blk s H0 scope (compEnvC scope cl C X.env) fp).env.scope.names.lookup x = some .local := by intros; first | exact .inl rfl | exact .inr rfl)
    (hs : ∀ x, foldedSetIterable it X.env x = pure x := by intro _; rfl) : ∀ B σ G H, St8 X.K B en σ G H → ∀ Q : VK, Post X W eE B (mi.bnd2 fun ds c => lcVR me (f0 c) ds) (fun r => ∀ p vs G2 H2, Le G G2 → St8 X.K B (φ r.2) σ G2 H2 → B.H0 p = none → NoOwn (φ r.2) p → G2 p = none → H2 p = some (.lst vs) → RpAll X.K G2 vs r.1 → Q (.ref p) H2) → tLc (wI X (.Name x p) it) (gName i) tYes (wEb X scope elt) (List.map (fun x => x.2) [(x, i)]) σ H Q := fun B σ G H S Q q => by
  refine hi B σ G H S _ (wp_mono (wp_bnd.mp q) (fun r0 hd J G1 H1 l0 S1 wk => ?_) fun _ z => z)
  obtain ⟨ds, cc⟩ := r0
  have hd : Post X W eE B (lcVR me (f0 cc) ds) _ := hd
  rw [h0] at S1
  generalize f0 cc = c0 at *
  unfold lcVR at hd
  by_cases hln : ds.length ≤ 16000000
  · rw [if_pos hln] at hd
    intro D hD
    have hB := S1.h0 hD
    have hno := S1.noOwn hD
    refine ⟨fun i' m H' => m = ds.length - i' ∧ i' ≤ ds.length ∧ ∃ G' acc dn c, Le G1 G' ∧ St8 X.K B (φ c) σ G' H' ∧ H' D = some (.lst acc) ∧ G' D = none ∧ NoOwn (φ c) D ∧ RpAll X.K G' acc dn ∧ acc.length ≤ i' ∧ Post X W eE B (lcV me c (ds.drop i')) (fun r => ∀ p vs G2 H2, Le G G2 → St8 X.K B (φ r.2) σ G2 H2 → B.H0 p = none → NoOwn (φ r.2) p → G2 p = none → H2 p = some (.lst vs) → RpAll X.K G2 vs (dn ++ r.1) → Q (.ref p) H2),
      ⟨_, rfl, Nat.zero_le _, G1, [], [], c0, Le.refl _, ?_, upd_same, S1.lk.kn D hD, ?_, .nil, Nat.le_refl _, hd⟩, ?_⟩
    · exact S1.grow (Grow.own S1.lk hD)
    · exact hno
    · rintro i' m H' ⟨rfl, hi', G', acc, dn, c, l1, S', hA, gA, no, rA, lA, p⟩
      by_cases hlt : i' < ds.length
      · rw [List.drop_eq_getElem_cons hlt] at p
        obtain ⟨go, yl⟩ := wk.go i' ds[i'] (List.getElem?_eq_getElem hlt) G' H' l1 S'.lk
        refine .inr ⟨go, fun H3 => ∃ G3 acc dn c, Le G1 G3 ∧ St8 X.K B (φ c) σ G3 H3 ∧ H3 D = some (.lst acc) ∧ G3 D = none ∧ NoOwn (φ c) D ∧ RpAll X.K G3 acc dn ∧ acc.length ≤ i' + 1 ∧ Post X W eE B (lcV me c (ds.drop (i' + 1))) (fun r => ∀ p vs G2 H2, Le G G2 → St8 X.K B (φ r.2) σ G2 H2 → B.H0 p = none → NoOwn (φ r.2) p → G2 p = none → H2 p = some (.lst vs) → RpAll X.K G2 vs (dn ++ r.1) → Q (.ref p) H2),
          fun H3 ⟨G3, acc, dn, c, h⟩ => ⟨ds.length - (i' + 1), by omega, rfl, hlt, G3, acc, dn, c, h⟩, fun xv H4 y => ?_⟩
        obtain ⟨G4, w4, r4⟩ := yl xv H4 y
        have hA4 : H4 D = some (.lst acc) := w4.h _ _ hA
        have gA4 : G4 D = none := w4.cl D gA ⟨_, hA, trivial⟩
        have S6 := ((S'.grow w4).wipe (hc c)).set (i := i) r4
        refine ⟨wipe_set_self, ?_⟩
        show wEb X scope elt _ H4 _
        intro s0 H0' C cl fp
        refine he c ds[i'] s0 H0' C cl fp (B.with_ G4 D (.lst acc)) _ G4 H4 (S6.with_ hA4 gA4 (NoOwn.set no)) _ (wp_mono (wp_noE (wp_bnd.mp p)) (fun r hr v G7 H7 l7 S7 r7 => ?_) fun _ z => z.elim)
        obtain ⟨S8, no8, hA7⟩ := S7.unwith (S'.es.fr.grow w4) hB
        have gA7 : G7 D = none := S7.es.fr.cl D gA4 ⟨_, upd_same, trivial⟩
        have S9 : St8 X.K B (φ r.2) σ G7 H7 := by
          have z := (S8.unset (hc r.2)).wipe (hc r.2)
          rw [wipe_set_self] at z
          exact z.unwipe
        have no9 : NoOwn (φ r.2) D := fun j b qq c e => by
          refine no8 j b qq c ?_
          have nj : i ≠ j := fun z => by
            subst z
            rw [clr_at (hc r.2) (List.mem_singleton.mpr rfl)] at e; cases e
          show ((φ r.2).set i (some (.v ds[i'])))[j]? = _
          rw [List.getElem?_set_ne nj]
          exact e
        refine ⟨acc, hA7, Nat.lt_of_le_of_lt lA (Nat.lt_of_lt_of_le hlt (size_ok hln)), G7, acc ++ [v], dn ++ [r.1], r.2, l1.trans (w4.g.trans l7), S9.mutD hB no9 gA7, upd_same, gA7, no9, (rA.up (w4.g.trans l7)).app (.cons r7 .nil), by rw [List.length_append]; show _ + 1 ≤ _; omega, ?_⟩
        refine wp_mono (wp_bnd.mp hr) (fun s hs p vs G2 H2 a1 a2 a3 a4 a5 a6 a7 => hs p vs G2 H2 a1 a2 a3 a4 a5 a6 ?_) fun _ z => z
        show RpAll X.K G2 vs (dn ++ (r.1 :: s.1))
        have e : dn ++ (r.1 :: s.1) = dn ++ [r.1] ++ s.1 := by simp
        rw [e]; exact a7
      · have ei : i' = ds.length := by omega
        subst ei
        rw [List.drop_length] at p
        have p : ∀ p vs G2 H2, Le G G2 → St8 X.K B (φ c) σ G2 H2 → B.H0 p = none → NoOwn (φ c) p → G2 p = none → H2 p = some (.lst vs) → RpAll X.K G2 vs (dn ++ []) → Q (.ref p) H2 := p
        exact .inl ⟨wk.stop G' H' l1 S'.lk, p D acc G' H' (l0.trans l1) S' hB no gA hA (by rw [List.append_nil]; exact rA)⟩
  · rw [if_neg hln] at hd
    exact hd.elim
theorem xb_letLcV {i j : Nat} {x y : Str} {p py posc : Pos} {it elt : Expr} {scope : Scope} {mi : R (List D × δ)} {me : γ → D → R (D × γ)} {ω : Type} {rest : List Stmt} {T : Bs → ω → Ends → Prop} {k : List D → γ → R ω} (g : Go X ec W) (χ : Addr → List D → γ → En) (hi : XIV X W eE (.Name x p) it en mi ψ) (f0 : δ → γ) (he : ∀ c d, BV X scope elt ((φ c).set i (some (.v d))) (me c d) (fun c' => (φ c').set i (some (.v d)))) (hk : ∀ a d c, XB X W eE rest (χ a d c) (k d c) T) (h0 : ∀ c, ψ c = φ (f0 c) := by intro _; rfl) (hblk : BlkOk X.N X.env.scope scope [(x, i)]) (hc : ∀ c, clr (φ c) [i] = true := by intro _; rfl)
    (hNy : X.N[j]? = some y := by rfl) (hφ : ∀ a d c, (φ c).set j (some (.o false a (.l d))) = χ a d c := by intro _ _ _; rfl)
    (hyl : X.env.scope.names.lookup y = some .local := by rfl) (hsw : swapsWith (.ListComp elt [⟨.Name x p, it, [], 0⟩] scope posc) (some (.Name y py)) pos.line X.env = pure true := by exact sw_true rfl rfl rfl (by decide +kernel))
    (hN : X.N[i]? = some x := by rfl) (hx : ∀ (s : Shared) (H0 : Hp) (C : Addr) (cl : List (Str × Addr)) (fp : List Addr), Loc (X.blk s H0 scope (compEnvC scope cl C X.env) fp).env.scope x := by intros; first | exact Or.inl rfl | exact Or.inr rfl)
    (hf : ∀ (s : Shared) (H0 : Hp) (C : Addr) (cl : List (Str × Addr)) (fp : List Addr), (X.blk s H0 scope (compEnvC scope cl C X.env) fp).fn x = true ∨ (X.blk s H0 scope (compEnvC scope cl C X.env) fp).env.scope.names.lookup x = some .local := by intros; first | exact .inl rfl | exact .inr rfl)
    (hs : ∀ x, foldedSetIterable it X.env x = pure x := by intro _; rfl) : XB X W eE (.Assign [.Name y py] (.ListComp elt [⟨.Name x p, it, [], 0⟩] scope posc) pos :: rest) en ((mi.bnd2 fun ds c => lcVR me (f0 c) ds).bnd2 k) T := fun B σ G H S D q => by
  refine pss_to (pss_cons (ps_setLc (own := [(x, i)]) g.calm g.nd hNy hyl hsw pi_w hblk (fun s H0 C cl fp => pg_name g.nd hN (hx s H0 C cl fp) (hf s H0 C cl fp)) (fun _ _ _ _ _ => pts_nil) pe_wb hs) pss_w) ?_
  unfold tSeq tAsg
  refine lcV_run g hi f0 he h0 hblk hc hN hx hf hs B σ G H S _ (wp_mono (wp_bnd.mp q) (fun d hd a vs G2 H2 l S2 hb no gp ep r => ?_) fun _ z => z)
  have := S2.setO (i := j) (p := a) (ds := d.1) no hb gp ⟨vs, ep, r⟩
  rw [hφ] at this
  exact hk a d.1 d.2 B _ G2 H2 this D hd
end
end Wk
set_option maxHeartbeats 4000000
/-! Wk40: a def that changes its list and hands it back; a comprehension with a test over what such a def hands back. -/
namespace Wk
open PySem PySem.Spec PyProof.Rows L2
/-- the argument is a list of the asker's, which is handed back -/
def spIOS (K : PySem.W.Frag) (ec : Nat → Addr) (f : List D → R (List D)) : Sp := fun vs H Q E => ∃ G p us c, Lk G H ∧ vs = [.ref p] ∧ G p = none ∧ H p = some (.lst us) ∧ RpAll K G us c ∧
  wp (f c) (fun r => ∀ us' G2 H2, GrowX p G H G2 H2 → H2 p = some (.lst us') → RpAll K G2 us' r → Q (.ref p) H2) (fun c => ∀ G2 H2, GrowX p G H G2 H2 → E (.ref (ec c)) none H2)
def rIS (K : PySem.W.Frag) (p : Addr) : Hp → List D → V → Hp → Hp → Prop := fun _ r v G H => v = .ref p ∧ ∃ us, H p = some (.lst us) ∧ RpAll K G us r
section
variable {P : Program} {w : World} {K : PySem.W.Frag} {mg : Str → Option Value} {base : Heap} {ec : Nat → Addr}
theorem fn_okIOS {x qual : Str} {st : Stmt} {f : Addr} {fd : FuncData} {N ps : List Str} {k : Nat} {fm : List D → R (List D)} (F : Fun K x qual st f fd) (S : FnScope N ps (defScope st)) (hn : ps.length = 1)
    (body : ∀ (cdv : Value) (A : Around) (outer : List Env) (s : Shared) (H : Hp) (E : XK), Room k (A.deeper (envOfC qual (defScope st) s.heap.objs.size f cdv)) →
      Go (cxOf (L2.CX P w) P w K mg base N qual (defScope st) f cdv A outer s H E) ec (fun c _ H => E (.ref (ec c)) none H) → ∀ (p : Addr) (c : List D),
      XB (cxOf (L2.CX P w) P w K mg base N qual (defScope st) f cdv A outer s H E) (fun c _ H => E (.ref (ec c)) none H) [] (defBody st) (en1 N p c []) (fm c) (TR (rIS K p))) :
    FnOk P w K mg base (L2.CX P w) (k + 1) f fd ps (spIOS K ec fm) := by
  refine F.okX S (fun vs H Q E h => ?_) (fun cdv A outer s H vs Q E hr h => ?_)
  · obtain ⟨G, p, us, c, l, rfl, _⟩ := h
    rw [hn]; rfl
  · obtain ⟨G, p, us, c, l, rfl, gp, hp, ru, q⟩ := h
    have g : Go (cxOf (L2.CX P w) P w K mg base N qual (defScope st) f cdv A outer s H E) ec (fun c _ H => E (.ref (ec c)) none H) :=
      ⟨rfl, passes_of rfl, S.nd, (takes_of (E := E) rfl rfl rfl rfl).imp fun cls d σ H' ⟨c, e1, e2, e3⟩ => by rw [e1, e2]; exact e3⟩
    have b := body cdv A outer s H E hr g p c
    exact ⟨_, pss_w, b ⟨G, H, [p]⟩ (L2.start N (.ref p :: [])) G H (st_start1 l gp hp ru .nil) _ (wp_mono q (fun o ho v G2 H2 f8 ⟨rr, us', h1, h2⟩ => by rw [rr]; exact ho us' G2 H2 f8.toGrowX h1 h2) fun c hc σ G2 H2 es => hc G2 H2 es.fr.toGrowX)⟩
end
section
variable {X : Cx} {W : WN} {eE : En} {en : En} {ec : Nat → Addr} {pos : Pos} {γ δ ω : Type} {φ : γ → En} {ψ : δ → En} {T : Bs → ω → Ends → Prop} {rest : List Stmt}
/-- the argument's list is handed back -/
theorem xb_retIOS {i : Nat} {x : Str} {q : Addr} {px : Pos} {ds : List D} (he : en[i]? = some (some (.o true q (.l ds)))) (hN : X.N[i]? = some x := by rfl) (hv : Vis X.env.scope x := by first | exact Or.inl rfl | exact Or.inr (Or.inl rfl) | exact Or.inr (Or.inr rfl))
    (hd : (x == ("__debug__" : Str)) = false := by decide) (hcd : (x == ("__classdict__" : Str)) = false := by decide) : XB X W eE [.Return (some (.Name x px)) pos] en (.ok ds) (TR (rIS X.K q)) := fun B σ G H S D k => by
  obtain ⟨v, e1, rfl, gp, vs, hp, r⟩ := S.es.atL he
  exact pss_to (pss_one (ps_ret (pe_var hN hv hd hcd))) ⟨_, e1, k _ G H S.es.fr ⟨rfl, vs, hp, r⟩⟩
/-- f(x), x one's own list that f may change and hands back: data from now on -/
theorem xv_ios {i : Nat} {q : Addr} {cn : List D} {x y : Str} {p py : Pos} {k : Nat} {f : Addr} {fd : FuncData} {ps : List Str} {fm : List D → R (List D)} (g : Go X ec W) (F : FnOk X.prog X.w X.K X.mg X.base (L2.CX X.prog X.w) k f fd ps (spIOS X.K ec fm)) (hr : Room k X.A) (hm : X.mg x = some (.ref f)) (hk : PySem.W.keepIn X.K (.ref f) = true) (hb : Binds X.K fd ps [])
    (χ : List D → En) (hy : en[i]? = some (some (.o false q (.l cn))) := by rfl) (hχ : ∀ o, en.set i (some (.v (.lst o))) = χ o := by intro _; rfl)
    (hN : X.N[i]? = some y := by rfl) (hv : Vis X.env.scope y := by first | exact Or.inl rfl | exact Or.inr (Or.inl rfl) | exact Or.inr (Or.inr rfl)) (hd : (y == ("__debug__" : Str)) = false := by decide) (hcd : (y == ("__classdict__" : Str)) = false := by decide)
    (hg : Gl X x := by rfl) (hdb : (x == ("__debug__" : Str)) = false := by decide) (h1 : starEach [.Name y py] X.env = (false, eval (.Name y py) X.env) :: starEach [] X.env := by rfl) (h2 : (backTo pos (starEach [] X.env)).any (·.1) = false := by rfl) :
    XV X W [] (.Call (.Name x p) [.Name y py] [] pos) en ((fm cn).bnd fun l => .ok (.lst l, l)) χ := fun B σ G H S Q h => by
  obtain ⟨v0, e0, rfl, _⟩ := S.es.at_ i _ hy
  refine pe_to (pe_callS F hr hg hm hk hb (fun σ => passAt g.tk σ) (pa_cons (pe_var hN hv hd hcd) pa_w h1) hdb h1 h2) ⟨.ref q, e0, ?_⟩
  refine (xa_nil (X := X) (W := W)) σ G H S.sl _ ?_
  intro vs G1 H1 w1 r1
  cases r1
  have S1 := S.grow w1
  obtain ⟨_, gq, us, hq, ru⟩ := st_at S1 hy
  refine ⟨G1, q, us, cn, S1.lk, rfl, gq, hq, ru, wp_mono (wp_bnd.mp h) (fun o ho us' G2 H2 w2 h2 ru2 => ?_) fun c hc G2 H2 w2 => ⟨c, rfl, rfl, hc σ G2 H2 ?_⟩⟩
  · have S2 := S1.growX hy w2 h2 ru2
    have hi : i < en.length := (List.getElem?_eq_some_iff.mp hy).1
    obtain ⟨G3, l3, S3⟩ := S2.frz (i := i) (p := q) (ds := o) (by rw [List.getElem?_set_self hi])
    rw [List.set_set] at S3
    obtain ⟨v, e1, r⟩ := S3.es.at_ i (.v (.lst o)) (by rw [List.getElem?_set_self hi])
    rw [e0] at e1
    cases e1
    rw [hχ] at S3
    exact ho _ G3 H2 ((w1.g.trans w2.g).trans l3) S3 r
  · have fr := S1.es.fr
    have hbq := (S1.es.own i false q _ hy).1
    refine ⟨⟨w2.up, fr.le0.trans w2.g, fun a u n eu => ?_, fun a n => w2.there a (fr.there a n), fun a n => w2.thM a (fr.thM a n), fun a n mm => w2.cl a (fr.cl a n mm) (fr.thM a mm)⟩, fun i dv e => by simp at e, fun i j b b' p p' c c' e => by simp at e, fun i b p c e => by simp at e⟩
    have na : a ≠ q := fun z => by
      subst z
      rw [if_neg Bool.false_ne_true] at hbq; rw [hbq] at eu; cases eu
    exact w2.h a u na (fr.keep a u n eu)
/-- a comprehension's run, its walk given -/
theorem lc_core {elt : Expr} {scope : Scope} {g : TG} {tt : TT} {vs : List Nat} {f : En → D → Option En} {mt : D → R Bool} {me : D → R D} (ht : TgL X.K g vs f) (hc : clr en vs = true)
    (hb : ∀ d (P : Bool → Prop) (E : Nat → Prop), wp (mt d) P E → ∃ e', f en d = some e' ∧ (∀ σ G H, Sl X.K e' σ G H → ∀ Q : Bool → Hp → Prop, wp (mt d) (fun b => ∀ G2 H2, Grow G H G2 H2 → Q b H2) (fun _ => False) → tt σ H Q) ∧ BP X scope elt e' (me d))
    (σ : L2.St) (G H : Hp) (S : Sl X.K en σ G H) (J : It) (ds : List D) (wk : Wlk X.K J G ds) (Q : VK) (E : Nat → Prop) (hd : wp (lcIR mt me ds) (fun ys => NewL X.K G H ys Q) E) : tLc (fun _ _ K => K J H) g tt (wEb X scope elt) vs σ H Q := by
  unfold lcIR at hd
  by_cases hln : ds.length ≤ 16000000
  · rw [if_pos hln] at hd
    intro D hD
    have hpD : H D = none := hD
    refine ⟨fun i m H' => m = ds.length - i ∧ i ≤ ds.length ∧ ∃ G' acc dn, Grow G H G' H' ∧ H' D = some (.lst acc) ∧ G' D = none ∧ RpAll X.K G' acc dn ∧ acc.length ≤ i ∧ wp (lcI mt me (ds.drop i)) (fun ys => NewL X.K G H (dn ++ ys) Q) E,
      ⟨_, rfl, Nat.zero_le _, G, [], [], Grow.own S.le hD, upd_same, S.le.kn D hD, .nil, Nat.le_refl _, hd⟩, ?_⟩
    rintro i m H' ⟨rfl, hi', G', acc, dn, w', hA, gA, rA, lA, p⟩
    by_cases hlt : i < ds.length
    · rw [List.drop_eq_getElem_cons hlt] at p
      obtain ⟨go, yl⟩ := wk.go i ds[i] (List.getElem?_eq_getElem hlt) G' H' w'.g w'.up
      refine .inr ⟨go, fun H3 => ∃ G3 acc dn, Grow G H G3 H3 ∧ H3 D = some (.lst acc) ∧ G3 D = none ∧ RpAll X.K G3 acc dn ∧ acc.length ≤ i + 1 ∧ wp (lcI mt me (ds.drop (i + 1))) (fun ys => NewL X.K G H (dn ++ ys) Q) E,
        fun H3 ⟨G3, acc, dn, h⟩ => ⟨ds.length - (i + 1), by omega, rfl, hlt, G3, acc, dn, h⟩, fun x H4 y => ?_⟩
      obtain ⟨G4, w4, r4⟩ := yl x H4 y
      have p1 := wp_bnd.mp p
      have p2 := wp_noE p1
      obtain ⟨e', ef, ht', hp'⟩ := hb ds[i] _ _ p2
      have wA := w'.trans w4
      have S4 : Sl X.K en (wipe σ vs) G4 H4 := (S.grow wA).wipe hc
      refine ht en (wipe σ vs) G4 H4 S4 ds[i] x e' r4 ef _ fun σ5 S5 hw => ⟨?_, ?_⟩
      · rw [hw]; exact wipe_wipe _ _ fun _ h => h
      · refine ht' σ5 G4 H4 S5 _ (wp_mono p2 (fun b hb G5 H5 w5 => ?_) fun _ z => z)
        have nD4 : ∀ {G5 H5 : Hp}, Grow G4 H4 G5 H5 → H5 D = some (.lst acc) ∧ G5 D = none := fun {G5 H5} w5 =>
          ⟨w5.h _ _ (w4.h _ _ hA), w5.cl D (w4.cl D gA ⟨_, hA, trivial⟩) ⟨_, w4.h _ _ hA, trivial⟩⟩
        cases b with
        | false =>
          show ∃ G3 acc dn, _
          exact ⟨G5, acc, dn, wA.trans w5, (nD4 w5).1, (nD4 w5).2, rA.up (w4.g.trans w5.g), by omega, hb⟩
        | true =>
          show wEb X scope elt σ5 H5 _
          intro s0 H0 C cl fp
          refine hp' s0 H0 C cl fp σ5 G5 H5 (S5.grow w5) _ (wp_mono (wp_noE (wp_bnd.mp hb)) (fun d hd v G6 H6 w6 r6 => ?_) fun _ z => z.elim)
          have n6 := nD4 (w5.trans w6)
          refine ⟨acc, n6.1, Nat.lt_of_le_of_lt lA (Nat.lt_of_lt_of_le hlt (size_ok hln)), G6, acc ++ [v], dn ++ [d], ((wA.trans w5).trans w6).mutD hD n6.2, upd_same, n6.2, (rA.up (w4.g.trans (w5.g.trans w6.g))).app (.cons r6 .nil), by rw [List.length_append]; show _ + 1 ≤ _; omega, ?_⟩
          refine wp_mono (wp_bnd.mp hd) (fun ys hy => ?_) fun _ z => z
          show NewL X.K G H (dn ++ [d] ++ ys) Q
          rw [List.append_assoc]
          exact hy
    · have ei : i = ds.length := by omega
      subst ei
      rw [List.drop_length] at p
      have p : NewL X.K G H (dn ++ []) Q := p
      rw [List.append_nil] at p
      exact .inl ⟨wk.stop G' H' w'.g w'.up, p D acc G' H' w' hpD gA hA rA⟩
  · rw [if_neg hln] at hd
    exact hd.elim
/-- a comprehension with tests over what changes something while it is made, given to a name -/
theorem xb_letLcGV [Inhabited γ] {j : Nat} {y : Str} {py : Pos} {tg it elt : Expr} {ifs : List Expr} {scope : Scope} {posc : Pos} {own : List (Str × Nat)} {gg : TG} {tt : TT} {mi : R (List D × γ)} {mt : γ → D → R Bool} {me : γ → D → R D} {k : List D → γ → R ω} (g : Go X ec W) (χ : Addr → List D → γ → En) (hi : XIV X W eE tg it en mi φ) (b : ∀ c, LcB X scope (φ c) tg elt ifs own gg tt (mt c) (me c))
    (hk : ∀ a ds c, XB X W eE rest (χ a ds c) (k ds c) T) (hblk : BlkOk X.N X.env.scope scope own) (hNy : X.N[j]? = some y := by rfl) (hφ : ∀ a ds c, (φ c).set j (some (.o false a (.l ds))) = χ a ds c := by intro _ _ _; rfl)
    (hyl : X.env.scope.names.lookup y = some .local := by rfl) (hsw : swapsWith (.ListComp elt [⟨tg, it, ifs, 0⟩] scope posc) (some (.Name y py)) pos.line X.env = pure true := by exact sw_true rfl rfl rfl (by decide +kernel))
    (hs : ∀ x, foldedSetIterable it X.env x = pure x := by intro _; rfl) : XB X W eE (.Assign [.Name y py] (.ListComp elt [⟨tg, it, ifs, 0⟩] scope posc) pos :: rest) en (mi.bnd2 fun ds c => (lcIR (mt c) (me c) ds).bnd fun l => k l c) T := fun B σ G H S D q => by
  refine pss_to (pss_cons (ps_setLc g.calm g.nd hNy hyl hsw pi_w hblk (b default).pg (b default).pt pe_wb hs) pss_w) ?_
  unfold tSeq tAsg
  refine hi B σ G H S _ (wp_mono (wp_bnd.mp q) (fun r0 hd J G1 H1 l0 S1 wk => ?_) fun _ z => z)
  obtain ⟨ds, c⟩ := r0
  obtain ⟨f, h1, h2⟩ := (b c).tl
  refine lc_core h1 (b c).cl h2 σ G1 H1 S1.sl J ds wk (fun x H1 => gName j x σ H1 { nx := wB X rest D, rt := D.rt, bk := D.bk, ct := D.ct : Ends }.nx) _ (wp_mono (wp_bnd.mp hd) (fun l hl a vs G2 H2 w hp gp ep r => ?_) fun _ z => z)
  have := (S1.grow w).setO (i := j) (p := a) (ds := l) (S1.noOwn hp) (S1.h0 hp) gp ⟨vs, ep, r⟩
  rw [hφ] at this
  exact hk a l c B _ G2 H2 this D hl
end
end Wk
set_option maxHeartbeats 4000000
/-! Wk41: sorted of a tuple of ints. -/
namespace SrtO
open PySem PyProof.Rows Srt
section
variable {prog : Program} {w : World} {A : Around} {E : Value → Shared → Prop} {s : Shared}
theorem collect_tupW {l : Addr} {vs : List Value} {Q : List Value → Shared → Prop} (hl : IsTup s.heap l vs.toArray)
    (h : Q vs { s with heap := (s.heap.push (seqObj "list" #[] 0)).update s.heap.objs.size (Obj.mapSeq (· ++ vs.toArray)) }) (hsz : vs.length ≤ sizeLine := by size_fits) :
    wpAny (model prog w) A (collect (.ref l)) Q E s := by
  obtain ⟨o, ho, hc, n, hd⟩ := id hl
  unfold collect
  refine wpAny_bind (wpAny_runValue (codeAny_builtin entry_proto_collect' ?_))
  show wpAny _ _ (do again (.builtin "list.__iadd__" ⟨[← newList [], .ref l], []⟩)) _ _ s
  refine wpAny_bind (wpAny_newList (wpAny_pure ⟨Code.quiet_builtin _ (by decide +kernel), codeAny_builtin entry_list_iadd' ?_⟩))
  show wpAny _ _ (Builtin.List.listExtendWith (.ref s.heap.objs.size) (.ref l) (.ref s.heap.objs.size)) _ _ { s with heap := s.heap.push (seqObj "list" #[] 0) }
  unfold Builtin.List.listExtendWith
  have ho' : (s.heap.push (seqObj "list" #[] 0)).get? l = some o := Heap.get?_push_of_some _ ho
  refine wpAny_bind (wpAny_typeOf (T := "tuple") ⟨o, ho', hc⟩ ?_)
  have ht : (Value.type "tuple" == Value.type "tuple") = true := by rfl
  rw [if_pos (by rw [ht]; simp)]
  refine wpAny_bind (listItems_at ho' hd ?_)
  refine wpAny_bind (listItems_at (xs := #[]) (n := 0) (Heap.get?_push_size _ rfl) rfl ?_)
  rw [if_neg (by simp)]
  refine wpAny_bind (listUpdate_at (xs := #[]) (n := 0) (Heap.get?_push_size _ rfl) rfl ?_ (Nat.zero_le _) (by show (#[] ++ vs.toArray).size ≤ sizeLine + 1; simp only [Array.size_append, List.size_toArray, List.length_nil]; omega))
  refine wpAny_pure ?_
  show wpAny (model prog w) A (do
      let o ← load s.heap.objs.size
      match o.data with
      | .seq xs _ => pure xs.toList
      | _ => unsupported "internal:collect") Q E { s with heap := (s.heap.push (seqObj "list" #[] 0)).update s.heap.objs.size (Obj.mapSeq (· ++ vs.toArray)) }
  refine wpAny_bind (wpAny_load (get?_update_seq (Heap.get?_push_size _ rfl) _) ?_)
  show wpAny _ _ (pure ((#[] : Array Value) ++ vs.toArray).toList) Q E _
  rw [show ((#[] : Array Value) ++ vs.toArray).toList = vs by simp]
  exact wpAny_pure h
theorem sorted_ordW {l : Addr} {vs : List Value} {ltv : Value → Value → Bool} {Q : Value → Shared → Prop} (O : Swo ltv) (hl : IsTup s.heap l vs.toArray) (hz : vs.length ≤ sizeLine)
    (hS : 2 ≤ vs.length → ∀ (h₁ : Heap) (a : Addr), h₁.get? a = some (seqObj "list" vs.toArray 0) → (∀ b o, s.heap.get? b = some o → b ≠ a ∧ h₁.get? b = some o) → SortableO prog w A.in1.in1 { s with heap := h₁ } a vs ltv)
    (h : ∀ out : List Value, Srtd ltv out → Stb ltv out vs → Q (.ref (s.heap.objs.size + 1)) { s with heap := sortedAll s.heap vs out.toArray }) :
    wpAny (model prog w) A (call (.builtin "sorted") [.ref l]) Q E s := by
  refine Calls.call_function_entry kind_sorted plain_sorted entry_sorted (args_sorted1 _) ?_
  unfold Builtin.«sorted»
  refine wpAny_bind (m := checkCount "sorted" 1 1 _) (wpAny_pure ?_)
  refine wpAny_bind (collect_tupW hl ?_ hz)
  refine wpAny_bind (wpAny_newList ?_ hz)
  have hsz : ((s.heap.push (seqObj "list" #[] 0)).update s.heap.objs.size (Obj.mapSeq (· ++ vs.toArray))).objs.size = s.heap.objs.size + 1 := by
    rw [Heap.size_update, size_push']
  have hoL : (((s.heap.push (seqObj "list" #[] 0)).update s.heap.objs.size (Obj.mapSeq (· ++ vs.toArray))).push (seqObj "list" vs.toArray 0)).get? (s.heap.objs.size + 1) = some (seqObj "list" vs.toArray 0) := by
    rw [← hsz]; exact Heap.get?_push_size _ rfl
  have keep : ∀ b o, s.heap.get? b = some o → b ≠ s.heap.objs.size + 1 ∧ (((s.heap.push (seqObj "list" #[] 0)).update s.heap.objs.size (Obj.mapSeq (· ++ vs.toArray))).push (seqObj "list" vs.toArray 0)).get? b = some o := fun b o q => by
    have hlt : b < s.heap.objs.size := Heap.lt_size q
    refine ⟨Nat.ne_of_lt (Nat.lt_succ_of_lt hlt), Heap.get?_push_of_some _ ?_⟩
    rw [Heap.get?_update_ne _ _ _ _ (Nat.ne_of_lt hlt)]
    exact Heap.get?_push_of_some _ q
  show wpAny _ _ _ _ _ { s with heap := ((s.heap.push (seqObj "list" #[] 0)).update s.heap.objs.size (Obj.mapSeq (· ++ vs.toArray))).push (seqObj "list" vs.toArray 0) }
  rw [hsz]
  refine wpAny_bind (wpAny_holding (wpAny_call_entry slot_list_sort ⟨_, hoL, rfl⟩ entry_list_sort (list_sort_ord O hoL hz (fun h2 => hS h2 _ _ hoL keep) fun out hs hb => ⟨_, rfl, ?_⟩) (args_list_sort _)))
  exact wpAny_pure ⟨_, rfl, h out hs hb⟩
end
end SrtO
namespace Wk
open PySem PySem.Spec PyProof.Rows L2
/-- sorted(xs), xs a tuple of ints -/
def rSortedW (K : PySem.W.Frag) : List V → Hp → VK → Prop := fun vs H Q => ∃ (a : Addr) (ns : List Int), vs = [V.ref a] ∧ SqT K H a (ns.map V.int) ∧
  ∀ (ns' : List Int) (p : Addr), ns'.Perm ns → ns'.Pairwise (· ≤ ·) → H p = none → Q (.ref p) (upd H p (.lst (ns'.map V.int)))
def D.sortedW : List D → Option (List D)
  | [.tup xs] => (intsD xs).map fun ns => (sortI ns).map .int
  | [.tux xs] => (intsD xs).map fun ns => (sortI ns).map .int
  | _ => none
section
variable {X : Cx} {K : PySem.W.Frag}
theorem cr_sortedW : CallR X (.builtin "sorted") (rSortedW X.K) := by
  intro pins s σ H vs us Q I r h
  obtain ⟨a, ns, rfl, hs, q⟩ := h
  obtain ⟨its, rv, hl, hz⟩ := I.tuple hs
  rw [Vals.ref1 r]
  have hi := rv.ints
  refine SrtO.sorted_ordW SrtO.swo_int hl (by rw [← rv.length]; exact hz) (fun h2 h₁ a' _ _ => SrtO.ints_sortable hi h2) fun out h1 h2 => ?_
  obtain ⟨k1, k2, k3⟩ := SrtO.ints_out hi h1 h2
  obtain ⟨ep, he'⟩ := PyProof.Rows.sortedAll_at s.heap its out.toArray
  have hlen : ((out.map SrtO.iv).map V.int).length ≤ sizeLine := by
    rw [List.length_map, k2.length_eq]
    rw [List.length_map] at hz
    exact hz
  exact ⟨.ref _, upd H (s.heap.objs.size + 1) (.lst ((out.map SrtO.iv).map V.int)), I.laid (t' := s.toks) (fun _ _ => PyProof.Rows.sortedAll_old) (Nat.le_succ _) ⟨hlen, out, ep, vals_of_ints k1, he'⟩, rfl, q _ _ k2 k3 (I.hok.fresh (Nat.le_succ _))⟩
theorem d_sortedW : CallN K (rSortedW K) D.sortedW := fun G H xs ds d l r e Q q => by
  unfold D.sortedW at e
  split at e
  · obtain ⟨ns, e1, rfl⟩ := Option.map_eq_some_iff.mp e
    cases r with
    | cons a b =>
      cases b
      cases a with
      | tup h1 r1 =>
        have := ints_rp e1 r1
        subst this
        refine ⟨_, ns, rfl, l.le.seqT h1, fun ns' p hp hs hn => ?_⟩
        have e : ns' = sortI ns := srt_eq (hp.trans (sortI_perm ns).symm) hs (sortI_srt ns)
        rw [e]
        exact newL l hn (all_ints _) q
  · obtain ⟨ns, e1, rfl⟩ := Option.map_eq_some_iff.mp e
    cases r with
    | cons a b =>
      cases b
      cases a with
      | tux h1 r1 =>
        have := ints_rp e1 r1
        subst this
        refine ⟨_, ns, rfl, l.le.seqT (.inl h1.1), fun ns' p hp hs hn => ?_⟩
        have e : ns' = sortI ns := srt_eq (hp.trans (sortI_perm ns).symm) hs (sortI_srt ns)
        rw [e]
        exact newL l hn (all_ints _) q
  · cases e
end
end Wk
set_option maxHeartbeats 4000000
/-! Wk42: in a tuple of tuples; index in a tuple of ints; enumerate of a tuple. -/
namespace Wk
open PySem PySem.Spec PyProof.Rows L2
section
variable {X : Cx} {K : PySem.W.Frag}
/-- x in y, y a tuple of data of any depth -/
def rInDT (K : PySem.W.Frag) : R2 := fun x y H Q => ∃ d ds, Dp K H x d ∧ Dp K H y (.tuple ds) ∧ SeqAt.shaped d = true ∧ SeqAt.shaped (.tuple ds) = true ∧ d.depth ≤ 62 ∧ Q (.bl (ds.any fun z => PyData.eqv z d)) H
def rNotInDT (K : PySem.W.Frag) : R2 := fun x y H Q => ∃ d ds, Dp K H x d ∧ Dp K H y (.tuple ds) ∧ SeqAt.shaped d = true ∧ SeqAt.shaped (.tuple ds) = true ∧ d.depth ≤ 62 ∧ Q (.bl (!ds.any fun z => PyData.eqv z d)) H
theorem o_inT (hu : X.A.units + 64 < cLine) : OpR X (compareOp .In) (rInDT X.K) := by
  intro pins s σ H x y v u Q I rx ry h
  obtain ⟨d, ds, hd, he, sd, se, dd, q⟩ := h
  obtain ⟨as, r1⟩ := Dp.reads I d x v hd rx
  obtain ⟨bs, r2⟩ := Dp.reads I (.tuple ds) y u he ry
  exact SeqAt.in_tuple_reads r2 r1 (SeqAt.canLay_of_shaped se) (SeqAt.canLay_of_shaped sd) (by have := Nat.min_le_right (PyData.depthAll ds) d.depth; omega) ⟨.bl _, H, I, rfl, q⟩
theorem o_notinT (hu : X.A.units + 64 < cLine) : OpR X (compareOp .NotIn) (rNotInDT X.K) := by
  intro pins s σ H x y v u Q I rx ry h
  obtain ⟨d, ds, hd, he, sd, se, dd, q⟩ := h
  obtain ⟨as, r1⟩ := Dp.reads I d x v hd rx
  obtain ⟨bs, r2⟩ := Dp.reads I (.tuple ds) y u he ry
  exact SeqAt.notIn_tuple_reads r2 r1 (SeqAt.canLay_of_shaped se) (SeqAt.canLay_of_shaped sd) (by have := Nat.min_le_right (PyData.depthAll ds) d.depth; omega) ⟨.bl _, H, I, rfl, q⟩
def D.inT (x y : D) : Option Bool := match y with
  | .tup ys => (D.py x).bind fun a => (D.pys ys).bind fun b => if SeqAt.shaped a = true ∧ SeqAt.shaped (.tuple b) = true ∧ a.depth ≤ 62 then some (b.any fun z => PyData.eqv z a) else none
  | _ => none
def D.notinT (x y : D) : Option Bool := (D.inT x y).map fun b => !b
theorem d_inT : OpD K (rInDT K) (fun x y => (D.inT x y).map .bl) := fun G H x y dx dy d l rx ry e Q q => by
  obtain ⟨b, e1, rfl⟩ := Option.map_eq_some_iff.mp e
  unfold D.inT at e1
  split at e1
  · simp only [Option.bind_eq_some_iff] at e1
    obtain ⟨a, ea, c, ec, e1⟩ := e1
    split at e1
    · rename_i hs
      cases e1
      exact ⟨a, c, Rp.dp l rx ea, Rp.dp l ry (by simp only [D.py, ec]; rfl), hs.1, hs.2.1, hs.2.2, keepQ l q (.bl _)⟩
    · cases e1
  · cases e1
theorem d_notinT : OpD K (rNotInDT K) (fun x y => (D.notinT x y).map .bl) := fun G H x y dx dy d l rx ry e Q q => by
  obtain ⟨b0, e0, rfl⟩ := Option.map_eq_some_iff.mp e
  obtain ⟨b, e1, rfl⟩ := Option.map_eq_some_iff.mp e0
  obtain ⟨a, c, h1, h2, h3, h4, h7, b', h5, h6⟩ := d_inT (K := K) G H x y dx dy (.bl b) l rx ry (by show Option.map D.bl _ = _; rw [e1]; rfl) (fun v H2 => ∃ b', v = .bl b' ∧ Q (.bl (!b')) H2) (fun v G2 H2 w r => by cases r; exact ⟨_, rfl, q _ G2 H2 w (.bl _)⟩)
  cases h5; exact ⟨a, c, h1, h2, h3, h4, h7, h6⟩
/-- t.index(x), ints -/
theorem mt_tup_indexI : MtR X "tuple.index" (fun x xs H Q => ∃ p, ∃ ys : List Int, ∃ z j, x = .ref p ∧ xs = [.int z] ∧ SqT X.K H p (ys.map V.int) ∧ ys[j]? = some z ∧ (∀ m, m < j → ys[m]? ≠ some z) ∧ Q (.int (j : Nat)) H) := by
  intro pins s σ H x xs v us Q I rx rs h
  obtain ⟨p, ys, z, j, rfl, rfl, hq, hy, hno, q⟩ := h
  cases rx
  have fl : (ys.map V.int).all flatV = true := by
    rw [List.all_map]; exact List.all_eq_true.mpr fun _ _ => rfl
  obtain ⟨u, rfl, t, rfl⟩ := vals1 rs
  obtain ⟨its, r, pl, hz⟩ := I.tuple hq
  obtain ⟨⟨cls, dd, dt, sl⟩, ho, hc, n, hd⟩ := pl
  simp only at hc hd
  subst hc
  subst hd
  have hl : its.toArray.size = ys.length := by rw [List.size_toArray, ← r.length, List.length_map]
  have hj : j < its.toArray.size := by rw [hl]; exact (List.getElem?_eq_some_iff.mp hy).1
  have at' : ∀ (m : Nat) (hm : m < its.toArray.size), ∃ y t', ys[m]? = some y ∧ its.toArray[m] = Value.int y t' := fun m hm => by
    have hm' : m < ys.length := by rw [← hl]; exact hm
    obtain ⟨w, hw, t', hw'⟩ := r.get (i := m) (x := .int ys[m]) (by simp [hm'])
    refine ⟨ys[m], t', List.getElem?_eq_getElem hm', ?_⟩
    have e := (List.getElem?_eq_some_iff.mp hw).2
    rw [← hw', ← e]
    simp
  refine call_meets PySem.F.slot_tuple_index ⟨_, ho, rfl⟩ PySem.F.entry_tuple_index (PySem.F.args_tuple_index_2 _ _) (TI.tuple_indexAt p its.toArray n dd sl (.int z t) (eqU (.int z)) j hj ?_ ?_)
    ⟨ho, fun w hw => mem_eqAt (x := .int z) ⟨t, rfl⟩ rfl r fl w (by simpa using hw), ⟨.int (j : Nat), H, I.tok _, ⟨_, rfl⟩, q⟩⟩
  · obtain ⟨y, t', h1, h2⟩ := at' j hj
    rw [hy] at h1
    cases h1
    rw [h2]
    show (z == z) = true
    exact beq_self_eq_true z
  · intro m hm hmj
    obtain ⟨y, t', h1, h2⟩ := at' m hm
    rw [h2]
    show (y == z) = false
    exact beq_eq_false_iff_ne.mpr fun e => hno m hmj (by rw [h1, e])
end
def D.tpl : D → Option (List D)
  | .tux xs => some xs
  | _ => none
section
variable {X : Cx} {W : WN} {eE : En} {en : En} {ec : Nat → Addr} {pos : Pos} {a b : Expr}
def tTix (r : V → List V → Hp → VK → Prop) (to : TE) (t : TA) : TE := fun σ H Q => to σ H fun x H1 => (∃ p xs, x = .ref p ∧ XTu H1 p xs) ∧ t σ H1 fun vs H2 => r x vs H2 Q
theorem pe_tix {o : Expr} {e : Expr} {es : List Expr} {apos cpos : Pos} {r : V → List V → Hp → VK → Prop} {to : TE} {t : TA} (hm : MtR X "tuple.index" r) (ho : PE X o to) (ha : PA X (e :: es) t)
    (hbase : attributeBase o "index" X.env (eval o X.env) = eval o X.env := by rfl)
    (hfew : ((backTo cpos (starEach (e :: es) X.env)).all (fun x => !x.1) && (backToKw cpos (keywordEach [] X.env)).all (fun x => x.1.isSome)
      && decide ((e :: es).length + ([] : List Keyword).length + (if ([] : List Keyword).isEmpty then 0 else 1) < 30)) = true := by rfl)
    (hline : (apos.endLine == cpos.line) = true := by rfl) (hs : starEach (e :: es) X.env = (false, eval e X.env) :: starEach es X.env := by rfl) (hplain : (backTo cpos (starEach es X.env)).any (·.1) = false := by rfl) :
    PE X (.Call (.Attribute o "index" apos) (e :: es) [] cpos) (tTix r to t) := by
  refine ⟨fun pins s σ H Q I h => ?_⟩
  refine wpAny_Call_method_late hbase hfew hline rfl (thn (ho.run pins s σ H _ I h) fun v s1 ⟨x, H1, I1, r1, ty, q1⟩ => ?_)
  obtain ⟨p, xs, rfl, _, ob, h1, h2, h3⟩ := ty
  obtain rfl : v = .ref p := by cases r1; rfl
  have hg : s1.heap.get? p = some ob := by
    rcases h1 with z | ⟨u, z⟩
    · exact (I1.hok p _ z).1
    · exact (I1.hok p _ z).2.1
  refine ⟨"tuple", "tuple.index", PySem.F.plainAttrs_tuple, PySem.F.slot_tuple_index, PySem.F.type_tuple_index, ⟨ob, hg, h2⟩, fun a e => ?_, ?_⟩
  · cases e; exact ⟨ob, hg, h3⟩
  have hA := ha.run cpos pins s1 σ H1 _ I1 q1
  rw [hs] at hA ⊢
  refine Calls.callWith_builtin (by show (false || (backTo cpos (starEach es X.env)).any (·.1)) = false; rw [hplain] <;> rfl) (Calls.evalArgs_plain ?_)
  exact thn hA fun us s2 ⟨vs, H2, I2, r2, q2⟩ => hm pins s2 σ H2 _ vs _ us Q I2 r1 r2 q2
theorem xp_indexT {ma mb : R D} {pa pc : Pos} (ha : XP X W a en ma) (hb : XP X W b en mb)
    (hbase : attributeBase a "index" X.env (eval a X.env) = eval a X.env := by rfl)
    (hfew : ((backTo pc (starEach [b] X.env)).all (fun x => !x.1) && (backToKw pc (keywordEach [] X.env)).all (fun x => x.1.isSome)
      && decide (([b] : List Expr).length + ([] : List Keyword).length + (if ([] : List Keyword).isEmpty then 0 else 1) < 30)) = true := by rfl)
    (hline : (pa.endLine == pc.line) = true := by rfl) (hs : starEach [b] X.env = (false, eval b X.env) :: starEach [] X.env := by rfl) (hplain : (backTo pc (starEach [] X.env)).any (·.1) = false := by rfl) :
    XP X W (.Call (.Attribute a "index" pa) [b] [] pc) en (ma.bnd fun x => (R.of x.tpl).bnd fun xs => mb.bnd fun y => R.of (idxD xs y)) := fun σ G H S Q k => by
  refine pe_to (pe_tix mt_tup_indexI pe_w (pa_cons pe_w pa_nil hs) hbase hfew hline hs hplain) (ha σ G H S _ (wp_mono (wp_bnd.mp k) (fun x hx v G1 H1 w1 r1 => ?_) fun _ z => z))
  obtain ⟨xs, ex, hx⟩ := wp_of (wp_bnd.mp hx)
  cases x <;> cases ex
  cases r1 with
  | @tux p vs _ h1 r1 =>
    refine ⟨⟨p, vs, rfl, h1.up w1.up.le⟩, ?_⟩
    refine hb σ G1 H1 (S.grow w1) _ (wp_mono (wp_bnd.mp hx) (fun y hy u G2 H2 w2 r2 => ?_) fun _ z G2 H2 w => z G2 H2 (w1.trans w))
    obtain ⟨d, e, hd⟩ := wp_of hy
    unfold idxD at e
    split at e
    · rename_i y'
      obtain ⟨ns, e1, e2⟩ := Option.bind_eq_some_iff.mp e
      obtain ⟨j, e3, rfl⟩ := Option.map_eq_some_iff.mp e2
      cases r2
      have ev := ints_rp e1 r1
      subst ev
      obtain ⟨h2, h3⟩ := idxI_some e3
      refine ⟨p, ns, y', j, rfl, rfl, .inl (w2.up.le _ _ rfl (w2.g _ _ rfl h1.1)), h2, fun m hm z => ?_, hd _ G2 H2 (w1.trans w2) (.int _)⟩
      exact h3 m y' hm z rfl
    · cases e
end
end Wk
set_option maxHeartbeats 4000000
/-! Wk43: enumerate of a tuple. -/
namespace PySem
open Sem (wp)
open AutoSeq1 (wpAny_loadPart')
theorem meets_enumerate_newW (l : Addr) (items : Array Value) (n : Nat) (dct : Option Addr) (sl : Array (Option Value)) :
    Meets (Builtin.«enumerate.__new__» ⟨[.type "enumerate", .ref l], []⟩) (fun _ R s => s.heap.get? l = some { cls := .type "tuple", dict := dct, data := .seq items n, slots := sl } ∧
      R (.ok (.ret (.ref (s.heap.push { cls := .type "tuple_iterator", data := .fields #[.ref l, .int 0 0] }).objs.size)))
        { s with heap := (s.heap.push { cls := .type "tuple_iterator", data := .fields #[.ref l, .int 0 0] }).push { cls := .type "enumerate", data := .fields #[.none, .bool false, .ref s.heap.objs.size, rawInt 0, .none, .none] } }) :=
  .of_wp fun prog w A R s h => by
    obtain ⟨hp, g, d, tk, os⟩ := s; obtain ⟨hl, h⟩ := h
    have hsub := sub_enumerate
    have hL : Heap.IsTuple (Shared.heap ⟨hp, g, d, tk, os⟩) l items := ⟨_, hl, rfl, n, rfl⟩
    wp_walk using wpAny_loadPart' hl
    refine wpAny_stack_any fun st => wpAny_pure ?_
    split
    · rename_i c _ _ _ _ _
      cases (c == Value.type "enumerate")
      · wp_walk using wpAny_loadPart' hl, wpAny_pyIter_tuple hL
        exact ⟨_, rfl, h⟩
      · wp_walk using wpAny_loadPart' hl, wpAny_pyIter_tuple hL
        exact ⟨_, rfl, h⟩
    · wp_walk using wpAny_loadPart' hl, wpAny_pyIter_tuple hL
      exact ⟨_, rfl, h⟩
section
variable {prog : Program} {w : World} {A : Around} {E : Value → Shared → Prop} {s : Shared}
theorem call_enumerate_tupW {l : Addr} {items : Array Value} {Q : Value → Shared → Prop} (hL : s.heap.IsTuple l items)
    (h : ∀ h', IsEnum h' (s.heap.objs.size + 1) s.heap.objs.size 0 .none → h'.IsTupleIter s.heap.objs.size l 0 → h'.objs.size = s.heap.objs.size + 2 →
      (∀ b o, s.heap.get? b = some o → h'.get? b = some o) → Q (.ref (s.heap.objs.size + 1)) { s with heap := h' }) :
    wpAny (model prog w) A (call (.type "enumerate") [.ref l]) Q E s := by
  obtain ⟨⟨c, dct, dt, sl⟩, hl, hc, n, hd⟩ := hL
  replace hc : c = .type "tuple" := hc
  replace hd : dt = .seq items n := hd
  subst hc hd
  refine callType_new F.called_enumerate (by decide) (F.typeCall_enumerate_1 _) (F.newCall_enumerate_1 _) (fun obj => F.args_object_init_2 obj _) F.entry_enumerate_new
    (meets_enumerate_newW l items n dct sl) ⟨hl, ?_⟩
  have hz : (s.heap.push { cls := .type "tuple_iterator", data := .fields #[.ref l, .int 0 0] }).objs.size = s.heap.objs.size + 1 := Heap.size_push ..
  show _ ∧ _
  rw [hz]
  have he : IsEnum ((s.heap.push { cls := .type "tuple_iterator", data := .fields #[.ref l, .int 0 0] }).push
      { cls := .type "enumerate", data := .fields #[.none, .bool false, .ref s.heap.objs.size, rawInt 0, .none, .none] }) (s.heap.objs.size + 1) s.heap.objs.size 0 .none := by
    have := Heap.get?_push_size (s.heap.push { cls := .type "tuple_iterator", data := .fields #[.ref l, .int 0 0] })
      (o := { cls := .type "enumerate", data := .fields #[.none, .bool false, .ref s.heap.objs.size, rawInt 0, .none, .none] }) rfl
    rw [hz] at this; exact this
  refine ⟨⟨_, he, rfl⟩, h _ he ⟨_, Heap.get?_push_of_some _ (Heap.get?_push_size _ rfl), rfl, rfl⟩ (by rw [Heap.size_push, hz]) fun b o x => Heap.get?_push_of_some _ (Heap.get?_push_of_some _ x)⟩
theorem wpAny_pyNext_enum_endW {e it l : Addr} {i : Nat} {items : Array Value} {old : Value} {Q : Option Value → Shared → Prop} (hh : A.handled = none)
    (he : IsEnum s.heap e it i old) (hit : s.heap.IsTupleIter it l i) (hl : s.heap.IsTuple l items) (hx : items[i]? = none)
    (hQ : ∀ h', Heap.ExtBut it s.heap h' → Q none { s with heap := h' }) : wpAny (model prog w) A (pyNext (.ref e)) Q E s := by
  have hT : s.TypeIs (.ref e) "enumerate" := ⟨_, he, rfl⟩
  unfold pyNext
  refine wpAny_bind (wpAny_attempt (wpAny_callSpecial?_slot (name := Str.ofString "__next__") hT F.slot_enumerate_next
    (wpAny_call_entry F.slot_enumerate_next hT F.entry_enumerate_next ?_ (F.args_enumerate_next_1 _))))
  show wpAny _ _ (field (.ref e) 2 >>= _) _ _ _
  refine wpAny_bind (wpAny_field he rfl (x := .ref it) rfl ?_)
  refine wpAny_bind (wpAny_nextOf_tuple_end hh hit hl hx fun h' x he' hx' => ?_)
  obtain ⟨o, ho, hc⟩ := hx'
  refine wpAny_bind (wpAny_isInstance (T := "StopIteration") (b := true) ⟨o, ho, hc⟩ isSubtype_stop ?_)
  exact wpAny_pure (hQ _ he')
end
end PySem
namespace L2
open PySem PySem.Spec PyProof.Rows
/-- the tuple at a, each item in a new pair -/
def IteW (K : PySem.W.Frag) (a : Addr) : It :=
  ⟨fun i H => ∃ (xs : List V) (x : V), SqT K H a xs ∧ xs[i]? = some x, fun i H v H' => ∃ T x, v = .ref T ∧ H T = none ∧ H' = upd H T (.tup [.int (i : Nat), x]) ∧ ∀ xs, SqT K H a xs → xs[i]? = some x, fun i H => ∃ xs : List V, SqT K H a xs ∧ xs.length ≤ i⟩
theorem turn_enumW {P : Program} {w : World} {K : PySem.W.Frag} {elts : List Expr} {kk : Nat} {tpos : Pos} (a e it : Addr) :
    Turn P w K (.Tuple elts kk tpos) (IteW K a) [e, it] e (fun i h => (∃ old, IsEnum h e it ((i : Nat) : Int) old) ∧ h.IsTupleIter it a i ∧ e ≠ it) where
  mem := by simp
  obj := fun i h st b hb => by
    obtain ⟨⟨old, he⟩, ⟨o, ho, hc, hd⟩, _⟩ := st
    have e' : b = e ∨ b = it := by simpa using hb
    rcases e' with z | z
    · rw [z]; exact ⟨_, he, fun v q => nomatch q⟩
    · rw [z]; exact ⟨o, ho, fun v q => by rw [hd] at q; cases q⟩
  keep := fun i h h' st k => let ⟨⟨old, he⟩, hi, hne⟩ := st; ⟨⟨old, k e (by simp) _ he⟩, hi.at fun o q => k it (by simp) o q, hne⟩
  item := by
    intro X hP hw hK hc i pins s σ H E I hf st hg
    subst hP hw hK
    obtain ⟨⟨old, he⟩, hit, hne⟩ := st
    obtain ⟨xs, x, hq, hx⟩ := hg
    obtain ⟨its, rv, p, hz⟩ := I.tuple hq
    obtain ⟨u, hu, ru⟩ := rv.get hx
    have hel : e < s.heap.objs.size := Heap.lt_size he
    have hil : it < s.heap.objs.size := by obtain ⟨_, q, _⟩ := hit; exact Heap.lt_size q
    have hta : a ≠ it := fun z => by
      subst z
      obtain ⟨o, q, c, _⟩ := hit
      obtain ⟨o', q', c', _⟩ := p
      rw [q] at q'; cases q'; rw [c] at c'; injection c' with c'; exact absurd c' (by decide)
    have hea : e ≠ a := fun z => by
      subst z
      obtain ⟨o', q', c', _⟩ := p
      rw [he] at q'; cases q'; injection c' with c'; exact absurd c' (by decide)
    have hil2 : i < its.toArray.size := by
      have := (List.getElem?_eq_some_iff.mp hu).1
      simpa using this
    refine wpAny_pyNext_enum_itemD (Draws.tuple (A := X.A.in1) (I.ok.hd hc) it a hta its.toArray) he ⟨hit, p⟩ hil2 hne (by simp [hne, hea]) fun u' h' tk hu' ho hit' hT hsz hk => ?_
    obtain ⟨hit', _⟩ := hit'
    have eu : u' = u := by
      have : its[i]? = some u' := by simpa using hu'
      rw [hu] at this; cases this; rfl
    subst eu
    refine ⟨_, rfl, wpAny_letOwnedTupleGo_enum (s := { s with heap := h', toks := tk + 1 }) ho fun h'' he' sb => ?_⟩
    have hT2 : h''.get? s.heap.objs.size = some { cls := .type "tuple", data := .seq #[.int i tk, u'] } := (sb.2 _ (Nat.ne_of_gt hel)).trans hT
    have new : ObjOk X.prog X.w (upd H s.heap.objs.size (.tup [.int (i : Nat), x])) h'' s.heap.objs.size (.tup [.int (i : Nat), x]) :=
      ⟨by show 2 ≤ sizeLine; decide, [.int i tk, u'], .cons ⟨_, rfl⟩ (.cons ru .nil), ⟨_, hT2, rfl, _, rfl⟩⟩
    have I1 : Inv X pins σ (upd H s.heap.objs.size (.tup [.int (i : Nat), x])) { s with heap := h'', toks := tk + 1 } :=
      I.turnedNew (ch := [e, it]) (fun b ob hb q => (sb.2 b (fun z => hb (by simp [z]))).trans (hk b ob (fun z => hb (by simp [z])) (fun z => hb (by simp [z])) q)) hf (Nat.le_refl _) new
    refine ⟨.ref s.heap.objs.size, _, I1, rfl, ⟨_, x, rfl, I.hok.fresh (Nat.le_refl _), rfl, fun ys hy => by rw [I.tuple_inj hy hq]; exact hx⟩, ⟨⟨u', ?_⟩, hit'.at fun o q => (sb.2 it (Ne.symm hne)).trans q, hne⟩, fun b hb => ?_⟩
    · have e1 : ((i + 1 : Nat) : Int) = (i : Int) + 1 := by omega
      rw [e1]; exact he'
    · have hb' : b < s.heap.objs.size := by
        have e' : b = e ∨ b = it := by simpa using hb
        rcases e' with z | z
        · rw [z]; exact hel
        · rw [z]; exact hil
      rw [upd_ne (Nat.ne_of_lt hb')]
      exact (hf b hb).1
  done := by
    intro X hP hw hK hc i pins s σ H E I hf st hg
    subst hP hw hK
    obtain ⟨⟨old, he⟩, hit, hne⟩ := st
    obtain ⟨xs, hq, hx⟩ := hg
    obtain ⟨its, rv, p, hz⟩ := I.tuple hq
    obtain ⟨f0, f1, f2, f3, f4, f5⟩ := hf it (by simp)
    have hl := rv.length
    exact wpAny_pyNext_enum_endW (I.ok.hd hc) he hit p (by simp; omega) fun h' eb => ⟨rfl, I.turned (t' := s.toks) (fun b o hb q => eb b o hb q) f0 f1 f3 f4 f5⟩
  self := fun A i s Q E st h => let ⟨⟨_, he⟩, _⟩ := st; wpAny_pyIter_enum he h
def iEnumW (K : PySem.W.Frag) (ta : TA) : TI := fun σ H R => ta σ H fun vs H1 => ∃ a xs, vs = [.ref a] ∧ SqT K H1 a xs ∧ R (IteW K a) H1
theorem pi_enumW {X : Cx} {e : Expr} {ta : TA} {p pos tpos : Pos} {elts : List Expr} {kk : Nat} (hg : Gl X "enumerate") (hm : X.mg "enumerate" = none) (ha : PA X [e] ta) (hs : starEach [e] X.env = [(false, eval e X.env)] := by rfl) :
    PI X (.Tuple elts kk tpos) (.Call (.Name "enumerate" p) [e] [] pos) (iEnumW X.K ta) := by
  refine ⟨fun pins s σ H R I h => ?_⟩
  refine Call_ (ld_blt I hg hm boot_enumerate (PyProof.Rows.callWith_type1 (thn (ha.run pos pins s σ H _ I h) fun us s1 ⟨vs, H1, I1, r1, q1⟩ => ?_) hs rfl))
  obtain ⟨a, xs, ex, hq, q⟩ := q1
  subst ex
  cases r1 with
  | cons r rr =>
    cases rr
    cases r
    obtain ⟨its, rv, p', hz⟩ := I1.tuple hq
    refine call_enumerate_tupW p' fun h' he hit hsz hk => wpAny_pyIter_enum he ?_
    have I2 : Inv X pins σ H1 { s1 with heap := h' } := I1.kept (t' := s1.toks) hk
    refine ⟨s1.heap.objs.size + 1, [s1.heap.objs.size + 1, s1.heap.objs.size], _, _, H1, rfl, I2, turn_enumW a (s1.heap.objs.size + 1) s1.heap.objs.size, ⟨⟨.none, he⟩, hit, Nat.succ_ne_self _⟩, fun b hb => ?_, q⟩
    have e' : b = s1.heap.objs.size + 1 ∨ b = s1.heap.objs.size := by simpa using hb
    have hle : s1.heap.objs.size ≤ b := by
      rcases e' with z | z
      · rw [z]; exact Nat.le_add_right _ _
      · rw [z]; exact Nat.le_refl _
    exact I1.fpOk hle (I1.hok.fresh hle)
end L2
namespace Wk
open PySem PySem.Spec PyProof.Rows L2
theorem wlk_EW {K : PySem.W.Frag} {G : Hp} {p : Addr} {vs : List V} {ds : List D} (h : SqT K G p vs) (r : RpAll K G vs ds) : Wlk K (IteW K p) G (enumD ds) := by
  refine ⟨fun G' H' l k => ⟨vs, k.le.seqT (l.seqT h), ?_⟩, fun i d e G' H' l k => ?_⟩
  · rw [r.len]; unfold enumD; simp
  · unfold enumD at e
    rw [List.getElem?_mapIdx] at e
    obtain ⟨d0, e0, rfl⟩ := Option.map_eq_some_iff.mp e
    obtain ⟨u, hu, ru⟩ := r.get e0
    have hq : SqT K H' p vs := k.le.seqT (l.seqT h)
    refine ⟨⟨vs, u, hq, hu⟩, fun x H'' y => ?_⟩
    obtain ⟨T, x', rfl, hT, rfl, y⟩ := y
    have := y vs hq
    rw [hu] at this; cases this
    have w := Grow.new (o := .tup [.int (i : Nat), u]) k hT rfl
    exact ⟨_, w, .tup (.inl (.inl upd_same)) (.cons (.int _) (.cons ((ru.up l).up w.g) .nil))⟩
def D.enumT : D → Option (List D)
  | .tup xs => some (enumD xs)
  | .tux xs => some (enumD xs)
  | _ => none
section
variable {X : Cx} {W : WN} {eE : En} {en : En} {ec : Nat → Addr} {pos : Pos} {a b : Expr} {ma : R D}
theorem xi_enumT {p tpos : Pos} {elts : List Expr} {kk : Nat} (hm : X.mg "enumerate" = none) (h : XP X W a en ma) (hg : Gl X "enumerate" := by rfl) (hs : starEach [a] X.env = [(false, eval a X.env)] := by rfl) : XI X W (.Tuple elts kk tpos) (.Call (.Name "enumerate" p) [a] [] pos) en (ma.bnd fun x => R.of x.enumT) := fun σ G H S Q k => by
  refine pi_to (pi_enumW hg hm pa_w hs) (xa_1 h hs σ G H S _ (wp_bnd.mpr (wp_mono (wp_bnd.mp k) (fun d hd vs G1 H1 w1 r1 => ?_) fun _ z => z)))
  obtain ⟨ds, e, hd⟩ := wp_of hd
  unfold D.enumT at e
  split at e
  · cases e
    cases r1 with
    | cons r1 r2 =>
      cases r2
      cases r1 with
      | tup h1 r => exact ⟨_, _, rfl, w1.up.le.seqT h1, hd _ G1 H1 w1 (wlk_EW h1 r)⟩
  · cases e
    cases r1 with
    | cons r1 r2 =>
      cases r2
      cases r1 with
      | tux h1 r => exact ⟨_, _, rfl, w1.up.le.seqT (.inl h1.1), hd _ G1 H1 w1 (wlk_EW (.inl h1.1) r)⟩
  · cases e
end
@[simp] theorem s_enumT {xs : List D} : D.enumT (.tup xs) = some (enumD xs) := by exact id rfl
@[simp] theorem s_enumX {xs : List D} : D.enumT (.tux xs) = some (enumD xs) := by exact id rfl
end Wk
set_option maxHeartbeats 4000000
/-! Wk44: tuples that are known to have no dict of their own (so that a method of theirs can be called). -/
namespace Wk
open PySem PySem.Spec PyProof.Rows L2 HT
/-- a new tuple, its object known -/
def NewX (xs : List V) (H : Hp) (Q : VK) : Prop := ∀ p (ob : Obj), H p = none → ob.cls = .type "tuple" → ob.dict = none → Q (.ref p) (upd H p (.frz ob (.tup xs)))
theorem newX {K : PySem.W.Frag} {G H : Hp} {vs : List V} {ds : List D} {Q : VK} (l : Lk G H) (r : RpAll K G vs ds) (q : ∀ v G2 H2, Grow G H G2 H2 → Rp K G2 v (.tux ds) → Q v H2) : NewX vs H Q := fun p ob hp hc hd => by
  have w := Grow.new (o := .frz ob (.tup vs)) l hp rfl
  exact q _ _ _ w (.tux ⟨.inr ⟨ob, upd_same⟩, ob, .inl upd_same, hc, hd⟩ (r.up w.g))
section
variable {X : Cx}
def tTupX (t : TA) : TE := fun σ H Q => t σ H fun xs H1 => xs.length ≤ sizeLine ∧ NewX xs H1 Q
theorem pe_tupX {es : List Expr} {x1 : Nat} {pos : Pos} {t : TA} (h : PA X es t) : PE X (.Tuple es x1 pos) (tTupX t) := by
  refine ⟨fun pins s σ H Q I hq => ?_⟩
  refine wpAny_Tuple_spliced (thn (h.run pos pins s σ H _ I hq) fun us s1 ⟨xs, H1, I1, r, z, q⟩ => ⟨by rw [← r.length]; exact z, ?_⟩)
  have hf : H1 s1.heap.objs.size = none := I1.hok.fresh (Nat.le_refl _)
  refine ⟨.ref s1.heap.objs.size, upd H1 s1.heap.objs.size (.frz { cls := .type "tuple", data := .seq us.toArray } (.tup xs)), I1.laid (t' := s1.toks) (fun b u e => Heap.get?_push_of_some _ e) (Nat.le_refl _) ?_, rfl, q _ _ hf rfl rfl⟩
  exact ⟨Heap.get?_push_size _ rfl, z, us, r, ⟨_, Heap.get?_push_size _ rfl, rfl, _, rfl⟩⟩
def rTupLX (K : PySem.W.Frag) : List V → Hp → VK → Prop := fun xs H Q => ∃ p ys, xs = [.ref p] ∧ SqL K H p ys ∧ NewX ys H Q
theorem call_tuple_ofX : CallR X (.type "tuple") (rTupLX X.K) := by
  intro pins s σ H xs us Q I r h
  obtain ⟨p, ys, rfl, hq, q⟩ := h
  obtain ⟨u, rfl, rx⟩ := vals1 r
  cases rx
  obtain ⟨its, r', pl, hz⟩ := I.list hq
  have hlen := r'.length
  refine call_tuple_list pl.isList (fun h' kp => ?_) (by simp only [List.size_toArray] <;> omega)
  have I1 : Inv X pins σ H { s with heap := h' } := I.kept (t' := s.toks) kp
  have I2 : Inv X pins σ (upd H h'.objs.size (.frz { cls := .type "tuple", data := .seq its.toArray } (.tup ys))) { s with heap := h'.push { cls := .type "tuple", data := .seq its.toArray } } :=
    I1.laid (t' := s.toks) (fun b o e => Heap.get?_push_of_some _ e) (Nat.le_refl _) (show ObjOk X.prog X.w _ _ _ (.frz _ (.tup ys)) from ⟨Heap.get?_push_size _ rfl, hz, its, r', IsTup.new _ _⟩)
  exact ⟨.ref h'.objs.size, _, I2, rfl, q _ _ (I1.hok.fresh (Nat.le_refl _)) rfl rfl⟩
def rCatX (K : PySem.W.Frag) : R2 := fun x y H Q => ∃ a b xs ys, x = .ref a ∧ y = .ref b ∧ SqT K H a xs ∧ SqT K H b ys ∧ xs.length + ys.length ≤ sizeLine ∧
  (xs = [] → Q (.ref b) H) ∧ (xs ≠ [] → ys = [] → Q (.ref a) H) ∧ (xs ≠ [] → ys ≠ [] → NewX (xs ++ ys) H Q)
theorem op_catX : OpR X (binaryOp .Add) (rCatX X.K) := by
  intro pins s σ H x y v u Q I rx ry h
  obtain ⟨a, b, xs, ys, rfl, rfl, ha, hb, hz, q0, q1, q2⟩ := h
  cases rx
  cases ry
  obtain ⟨its, r1, p1, _⟩ := I.tuple ha
  obtain ⟨its2, r2, p2, _⟩ := I.tuple hb
  by_cases hx : xs = []
  · subst hx
    cases r1
    exact cat_tup0 p1 p2 ⟨.ref b, H, I, rfl, q0 rfl⟩
  · refine HT.cat_tup p1 p2 (fun z => hx (r1.nil_iff.mp z)) (fun z => ⟨.ref a, H, I, rfl, q1 hx (r2.nil_iff.mp z)⟩) (fun z => ?_) (by rw [← r1.length, ← r2.length]; exact hz)
    refine ⟨.ref s.heap.objs.size, _, I.laid (t' := s.toks) (o := .frz { cls := .type "tuple", data := .seq (its ++ its2).toArray } (.tup (xs ++ ys))) (fun b ob q => Heap.get?_push_of_some _ q) (Nat.le_refl _) ?_, rfl, q2 hx (fun w => z (r2.nil_iff.mpr w)) _ _ (I.hok.fresh (Nat.le_refl _)) rfl rfl⟩
    exact ⟨Heap.get?_push_size _ rfl, by rw [List.length_append]; exact hz, _, r1.append r2, IsTup.new _ _⟩
def rSlX (K : PySem.W.Frag) : V → Option Int → Option Int → Hp → VK → Prop := fun x lo hi H Q => ∃ a xs, x = .ref a ∧ SqT K H a xs ∧
  (HT.sIx xs.length 0 lo = 0 ∧ HT.sIx xs.length xs.length hi = xs.length → Q (.ref a) H) ∧ (¬ (HT.sIx xs.length 0 lo = 0 ∧ HT.sIx xs.length xs.length hi = xs.length) → NewX (cutV xs lo hi) H Q)
theorem sl_tupX : SlR X (rSlX X.K) := by
  intro pins s σ H x v vl vu lo hi sl Q I rx hs pl pu h
  obtain ⟨a, xs, rfl, hx, q1, q2⟩ := h
  cases rx
  obtain ⟨its, r, ht, hz⟩ := I.tuple hx
  have hlen : its.toArray.size = xs.length := by rw [List.size_toArray]; exact r.length.symm
  refine ⟨"tuple", _, PyProof.Rows.slot_tuple_getitem.lookup, ht.typeIs, ?_⟩
  by_cases hw : HT.sIx xs.length 0 lo = 0 ∧ HT.sIx xs.length xs.length hi = xs.length
  · exact getItem_tuple_whole ht hs pl pu (by rw [hlen]; exact hw) ⟨.ref a, H, I, rfl, q1 hw⟩
  · refine HT.getItem_tuple_cut ht hs pl pu (by rw [hlen]; exact hw) ?_ (by rw [hlen]; exact hz)
    rw [hlen]
    refine ⟨.ref s.heap.objs.size, _, I.laid (t' := s.toks) (o := .frz { cls := .type "tuple", data := .seq ((its.toArray.toList.drop (sIx xs.length 0 lo)).take (sIx xs.length xs.length hi - sIx xs.length 0 lo)).toArray } (.tup (cutV xs lo hi))) (fun b ob q => Heap.get?_push_of_some _ q) (Nat.le_refl _) ?_, rfl, q2 hw _ _ (I.hok.fresh (Nat.le_refl _)) rfl rfl⟩
    exact ⟨Heap.get?_push_size _ rfl, Nat.le_trans (cutV_length xs lo hi) hz, _, (r.drop (HT.sIx xs.length 0 lo)).take (HT.sIx xs.length xs.length hi - HT.sIx xs.length 0 lo), IsTup.new _ _⟩
def tTupRgX (te : L2.St → Hp → (Int → Int → Hp → Prop) → Prop) : TE := fun σ H Q => te σ H fun a b H1 => RgOk a b ∧ NewX (rgV a b) H1 Q
theorem pe_tupRgX {e : Expr} {te : L2.St → Hp → (Int → Int → Hp → Prop) → Prop} {p pos : Pos} (hc : X.calm = true) (hg : Gl X "tuple") (hm : X.mg "tuple" = none) (he : PRg X e te) (na : starEach [e] X.env = (false, eval e X.env) :: starEach [] X.env := by rfl) : PE X (.Call (.Name "tuple" p) [e] [] pos) (tTupRgX te) := by
  refine ⟨fun pins s σ H Q I h => ?_⟩
  refine Call_ (ld_blt I hg hm boot_tuple (PyProof.Rows.callWith_type1 (args_cons (thn (he pins s σ H _ I h) fun x s1 ⟨r, a, b, t, u, v, H1, ex, hr, I1, ok, q⟩ => args_nil ?_) na) na))
  subst ex
  obtain ⟨b1, b2, b3, b4, b5⟩ := ok
  refine call_tuple_range (n := (b - a).toNat) (I1.ok.hd hc) hr (small_one b1 b2 b3 b4) (rangeSize_nat a b) b5 fun h' tk acc hk hi => ?_
  have I2 : Inv X pins σ H1 { s1 with heap := h', toks := tk } := I1.kept hk
  refine ⟨.ref h'.objs.size, upd H1 h'.objs.size (.frz { cls := .type "tuple", data := .seq acc } (.tup (rgV a b))), I2.laid (t' := tk) (fun c o e => Heap.get?_push_of_some _ e) (Nat.le_refl _) (show ObjOk X.prog X.w _ _ _ (.frz _ (.tup (rgV a b))) from ⟨Heap.get?_push_size _ rfl, ?_, acc.toList, vals_rg hi, ?_⟩), rfl, q _ _ (I2.hok.fresh (Nat.le_refl _)) rfl rfl⟩
  · rw [rgV_length, sizeLine_eq]; omega
  · rw [Array.toArray_toList]; exact IsTup.new _ _
def tBackX (K : PySem.W.Frag) (te : TE) : TE := fun σ H Q => te σ H fun x H1 => ∃ a xs, x = .ref a ∧ SqT K H1 a xs ∧ NewX xs.reverse H1 Q
theorem pe_backX {e : Expr} {pos : Pos} {te : TE} {k : Nat} {p1 p2 p3 : Pos} (he : PE X e te) : PE X (.Subscript e (.Slice none none (some (.UnaryOp .USub (.Constant (.int 1) k p1) p2)) p3) pos) (tBackX X.K te) := by
  refine ⟨fun pins s σ H Q I h => Subscript_ (thn (he.run pins s σ H _ I h) fun v s1 ⟨x, H1, I1, r1, a, xs, ex, hx, q⟩ => ?_)⟩
  subst ex
  cases r1
  have hst : PO X (some (.UnaryOp .USub (.Constant (.int 1) k p1) p2)) (tPart (tUn (rU fun i => .int (-i)) (tC (.int 1)))) := po_some (pe_un un_neg pe_int)
  refine wpAny_Slice (thn (po_none.run pins s1 σ H1 (fun o H2 => o = none ∧ H2 = H1) I1 ⟨rfl, rfl⟩) fun vl s2 ⟨l, H2, I2, pl, el, e2⟩ => ?_)
  subst el e2
  refine thn (po_none.run pins s2 σ H2 (fun o H3 => o = none ∧ H3 = H2) I2 ⟨rfl, rfl⟩) fun vu s3 ⟨u, H3, I3, pu, eu, e3⟩ => ?_
  subst eu e3
  refine thn (hst.run pins s3 σ H3 (fun o H4 => o = some (-1) ∧ H4 = H3) I3 ⟨1, rfl, -1, rfl, rfl, rfl⟩) fun vs s4 ⟨o, H4, I4, ps, eo, e4⟩ => ?_
  subst eo e4
  have I5 : Inv X pins σ H4 { s4 with heap := s4.heap.push { cls := .type "slice", data := .fields #[vl, vu, vs] } } := I4.kept (t' := s4.toks) fun b ob q => Heap.get?_push_of_some _ q
  obtain ⟨its, r, ht, hz⟩ := I5.tuple hx
  have hlen := r.length
  show wpAny (model X.prog X.w) X.A (subscriptTail e (.Slice none none (some (.UnaryOp .USub (.Constant (.int 1) k p1) p2)) p3) (.ref a) (.ref s4.heap.objs.size)) (EP X pins σ Q) X.xe { s4 with heap := s4.heap.push { cls := .type "slice", data := .fields #[vl, vu, vs] } }
  refine tail_any (ops := [.ref a, .ref s4.heap.objs.size]) ht.typeIs (PyProof.Rows.slot_tuple_getitem.lookup) ?_ (by with_unfolding_all rfl)
  refine get_tup_back ht (Heap.IsSliceOf.new _ vl vu vs) pl pu ps ?_ (by rw [List.size_toArray]; omega)
  exact ⟨.ref _, _, I5.laid (t' := s4.toks) (o := .frz { cls := .type "tuple", data := .seq its.toArray.toList.reverse.toArray } (.tup xs.reverse)) (fun b ob q => Heap.get?_push_of_some _ q) (Nat.le_refl _) ⟨Heap.get?_push_size _ rfl, by rw [List.length_reverse]; exact hz, _, r.reverse, IsTup.new _ _⟩, rfl, q _ _ (I5.hok.fresh (Nat.le_refl _)) rfl rfl⟩
end
/-! data -/
def D.toTux : List D → Option D
  | [.lst xs] => some (.tux xs)
  | _ => none
def D.addX : D → D → Option D
  | .tux xs, .tux ys => if xs.length + ys.length ≤ 16000000 then some (.tux (xs ++ ys)) else none
  | _, _ => none
def D.cutX : D → Option Int → Option Int → Option D
  | .tux xs, lo, hi => some (.tux (cutD xs lo hi))
  | _, _, _ => none
def D.backX : D → Option D
  | .tux xs => some (.tux xs.reverse)
  | _ => none
section
variable {K : PySem.W.Frag}
theorem d_tux : CallD K (rTupLX K) D.toTux := fun G H xs ds d l r e Q q => by
  unfold D.toTux at e
  split at e
  · cases e
    cases r with
    | cons a b =>
      cases b
      cases a with
      | lst h1 r1 => exact ⟨_, _, rfl, .inl (l.le _ _ rfl h1), newX l r1 q⟩
  · cases e
theorem d_addX : OpD K (rCatX K) D.addX := fun G H x y dx dy d l rx ry e Q q => by
  unfold D.addX at e
  split at e
  · split at e
    · rename_i xs ys hz
      cases e
      cases rx with
      | @tux a vs _ h1 r1 =>
        cases ry with
        | @tux b us _ h2 r2 =>
          refine ⟨_, _, _, _, rfl, rfl, l.le.seqT (.inl h1.1), l.le.seqT (.inl h2.1), size_ok (by rw [r1.len, r2.len]; exact hz), fun z => ?_, fun z1 z2 => ?_, fun z1 z2 => newX l (r1.app r2) q⟩
          · subst z
            cases r1
            exact keepQ l q (.tux h2 r2)
          · subst z2
            cases r2
            rw [List.append_nil] at q
            exact keepQ l q (.tux h1 r1)
    · cases e
  · cases e
end
section
variable {X : Cx} {W : WN} {eE : En} {en : En} {ec : Nat → Addr} {pos : Pos} {a b e : Expr} {ma mb : R D}
theorem xp_tupX {es : List Expr} {j : Nat} {ms : R (List D)} (ha : XA X W es en ms) : XP X W (.Tuple es j pos) en (ms.bnd fun ds => R.of ((fits ds).map .tux)) := fun σ G H S Q h => by
  refine pe_to (pe_tupX pa_w) (ha σ G H S _ (wp_mono (wp_bnd.mp h) (fun ds hd vs G1 H1 w1 r1 => ?_) fun _ z => z))
  obtain ⟨es, e, hd'⟩ := wp_of hd
  obtain ⟨es', e', rfl⟩ := Option.map_eq_some_iff.mp e
  obtain ⟨rfl, hl⟩ := fits_some e'
  exact ⟨size_ok (by rw [r1.len]; exact hl), newX w1.up r1 fun v G2 H2 w2 r2 => hd' v G2 H2 (w1.trans w2) r2⟩
theorem xp_tupOX {i : Nat} {b : Bool} {p : Addr} {px pc : Pos} {ds : List D} {x : Str} (hm : X.mg "tuple" = none) (he : en[i]? = some (some (.o b p (.l ds))) := by rfl) (hg : Gl X "tuple" := by rfl) (hN : X.N[i]? = some x := by rfl) (hv : Vis X.env.scope x := by first | exact Or.inl rfl | exact Or.inr (Or.inl rfl) | exact Or.inr (Or.inr rfl))
    (hd : (x == ("__debug__" : Str)) = false := by decide) (hcd : (x == ("__classdict__" : Str)) = false := by decide) (hs : starEach [.Name x px] X.env = (false, eval (.Name x px) X.env) :: starEach [] X.env := by rfl) (hp2 : (backTo pos (starEach [] X.env)).any (·.1) = false := by rfl) : XP X W (.Call (.Name "tuple" pc) [.Name x px] [] pos) en (.ok (.tux ds)) := fun σ G H S Q k => by
  obtain ⟨e1, vs, hp, r⟩ := own_var S he
  exact pe_to (pe_callTy call_tuple_ofX hg hm (by decide +kernel) (pa_cons (pe_var hN hv hd hcd) pa_nil hs) (by decide) (by decide) hs hp2) ⟨.ref p, e1, p, vs, rfl, .inl (.inl hp), newX S.le r k⟩
variable {lo hi : Option Expr} {ml mh : R (Option Int)} {p2 : Pos}
theorem xp_cutX (ha : XP X W a en ma) (hl : XO X W lo en ml) (hh : XO X W hi en mh) : XP X W (.Subscript a (.Slice lo hi none p2) pos) en (ma.bnd fun x => ml.bnd fun l => mh.bnd fun h => R.of (x.cutX l h)) := fun σ G H S Q k => by
  refine pe_to (pe_slice sl_tupX pe_w po_w po_w) (ha σ G H S _ (wp_mono (wp_bnd.mp k) (fun x hx v G1 H1 w1 r1 => ?_) fun _ z => z))
  refine hl σ G1 H1 (S.grow w1) _ (wp_mono (wp_bnd.mp hx) (fun l hl' G2 H2 w2 => ?_) fun _ z G2 H2 w => z G2 H2 (w1.trans w))
  refine hh σ G2 H2 ((S.grow w1).grow w2) _ (wp_mono (wp_bnd.mp hl') (fun h hh' G3 H3 w3 => ?_) fun _ z G3 H3 w => z G3 H3 ((w1.trans w2).trans w))
  obtain ⟨d, e, hd⟩ := wp_of hh'
  unfold D.cutX at e
  split at e
  · rename_i xs
    cases e
    have w := (w1.trans w2).trans w3
    cases r1 with
    | @tux a vs _ h1 r1 =>
      have r3 := r1.up (w2.g.trans w3.g)
      refine ⟨a, vs, rfl, (w3.up.le.seqT ((w2.g.trans w3.g).seqT (.inl h1.1))), fun z => ?_, fun _ => newX w3.up (r3.cut l h) fun v G4 H4 w4 r4 => hd v G4 H4 (w.trans w4) r4⟩
      refine hd _ _ _ w ?_
      have e1 : cutD xs l h = xs := by
        unfold cutD
        rw [← r1.len, z.1, z.2, Nat.sub_zero, List.drop_zero, r1.len, List.take_length]
      rw [e1]
      exact .tux (h1.up (w2.g.trans w3.g)) r3
  · cases e
theorem xp_trgX {p : Pos} {mr : R (Int × Int)} (g : Go X ec W) (hm : X.mg "tuple" = none) (h : XR X W e en mr) (hg : Gl X "tuple" := by rfl) (na : starEach [e] X.env = (false, eval e X.env) :: starEach [] X.env := by rfl) : XP X W (.Call (.Name "tuple" p) [e] [] pos) en (mr.bnd2 fun i j => (R.of (rgL i j)).bnd fun ds => .ok (.tux ds)) := fun σ G H S Q q => by
  obtain ⟨t, ht, h⟩ := h
  refine pe_to (pe_tupRgX g.calm hg hm ht na) (h σ G H S _ (wp_mono (wp_bnd.mp q) (fun r hr G1 H1 w1 => ?_) fun _ z => z))
  obtain ⟨ds, e1, hd⟩ := wp_of (wp_bnd.mp hr)
  obtain ⟨rfl, ok⟩ := rgL_some e1
  exact ⟨ok, newX w1.up (rp_upD _ _) fun v G2 H2 w2 r2 => hd v G2 H2 (w1.trans w2) r2⟩
theorem xp_backX {m : R D} {k : Nat} {p1 p2 p3 : Pos} (h : XP X W e en m) : XP X W (.Subscript e (.Slice none none (some (.UnaryOp .USub (.Constant (.int 1) k p1) p2)) p3) pos) en (m.bnd fun d => R.of d.backX) := fun σ G H S Q q => by
  refine pe_to (pe_backX pe_w) (h σ G H S _ (wp_mono (wp_bnd.mp q) (fun d hd v G1 H1 w1 r1 => ?_) fun _ z => z))
  obtain ⟨d', e1, hd⟩ := wp_of hd
  unfold D.backX at e1
  split at e1
  · cases e1
    cases r1 with
    | @tux _ vs _ h1 r => exact ⟨_, _, rfl, w1.up.le.seqT (.inl h1.1), newX w1.up r.rev fun v G2 H2 w2 r2 => hd v G2 H2 (w1.trans w2) r2⟩
  · cases e1
end
end Wk
set_option maxHeartbeats 4000000
/-! Wk45: dicts as data, and of one's own. -/
namespace Wk
open PySem PySem.Spec PyProof.Rows L2

/-! plain dicts -/
section
variable {κ α : Type} [DecidableEq κ]
def kvGet (m : List (κ × α)) (k : κ) : Option α := match m with
  | [] => none
  | x :: r => if x.1 = k then some x.2 else kvGet r k
def kvPut (m : List (κ × α)) (k : κ) (v : α) : List (κ × α) := match m with
  | [] => [(k, v)]
  | x :: r => if x.1 = k then (x.1, v) :: r else x :: kvPut r k v
def kvDrop (m : List (κ × α)) (k : κ) : List (κ × α) := m.filter fun x => decide (x.1 ≠ k)
def kvMerge (m more : List (κ × α)) : List (κ × α) := more.foldl (fun a x => kvPut a x.1 x.2) m
theorem kvGet_mem {m : List (κ × α)} {k : κ} {v : α} (h : kvGet m k = some v) : (k, v) ∈ m := by
  induction m with
  | nil => cases h
  | cons x r ih =>
    unfold kvGet at h
    by_cases e : x.1 = k
    · rw [if_pos e] at h; cases h; subst e; exact List.mem_cons_self
    · rw [if_neg e] at h; exact List.mem_cons_of_mem _ (ih h)
theorem kvGet_none {m : List (κ × α)} {k : κ} : kvGet m k = none ↔ k ∉ m.map (·.1) := by
  induction m with
  | nil => simp [kvGet]
  | cons x r ih =>
    unfold kvGet
    by_cases e : x.1 = k
    · rw [if_pos e]; simp [e]
    · rw [if_neg e, ih]; simp [Ne.symm e]
theorem kvPut_keys {m : List (κ × α)} {k : κ} {v : α} : (kvPut m k v).map (·.1) = if k ∈ m.map (·.1) then m.map (·.1) else m.map (·.1) ++ [k] := by
  induction m with
  | nil => rfl
  | cons x r ih =>
    unfold kvPut
    by_cases e : x.1 = k
    · rw [if_pos e]; simp [e]
    · rw [if_neg e, List.map_cons, ih]
      have : (k ∈ (x :: r).map (·.1)) ↔ k ∈ r.map (·.1) := by simp [Ne.symm e]
      by_cases c : k ∈ r.map (·.1)
      · rw [if_pos c, if_pos (this.mpr c)]; rfl
      · rw [if_neg c, if_neg (fun z => c (this.mp z))]; rfl
theorem kvPut_nd {m : List (κ × α)} {k : κ} {v : α} (h : (m.map (·.1)).Nodup) : ((kvPut m k v).map (·.1)).Nodup := by
  rw [kvPut_keys]
  split
  · exact h
  · exact nd_snoc h (by assumption)
theorem kvDrop_nd {m : List (κ × α)} {k : κ} (h : (m.map (·.1)).Nodup) : ((kvDrop m k).map (·.1)).Nodup := (List.filter_sublist.map _).nodup h
theorem kvMerge_nd : ∀ {more m : List (κ × α)}, (m.map (·.1)).Nodup → ((kvMerge m more).map (·.1)).Nodup
  | [], m, h => h
  | x :: r, m, h => kvMerge_nd (more := r) (kvPut_nd h)
theorem kvPut_len {m : List (κ × α)} {k : κ} {v : α} : (kvPut m k v).length ≤ m.length + 1 := by
  have := congrArg List.length (kvPut_keys (m := m) (k := k) (v := v))
  rw [List.length_map] at this
  rw [this]
  split <;> simp
end
section
variable {K : PySem.W.Frag} {G : Hp} {κ : Type}
theorem kvrp_nil {m : List (κ × D)} : KvRp K G [] m → m = [] := fun h => by
  have := h.1
  cases m with
  | nil => rfl
  | cons x r => simp at this
theorem kvrp_cons {x : κ × V} {y : κ × D} {r : List (κ × V)} {m : List (κ × D)} : KvRp K G (x :: r) (y :: m) ↔ x.1 = y.1 ∧ Rp K G x.2 y.2 ∧ KvRp K G r m := by
  constructor
  · intro h
    have h1 := h.1
    rw [List.map_cons, List.map_cons] at h1
    injection h1 with a b
    have h2 := h.2
    rw [List.map_cons, List.map_cons] at h2
    cases h2 with
    | cons c d => exact ⟨a, c, b, d⟩
  · rintro ⟨a, c, b, d⟩
    exact ⟨by rw [List.map_cons, List.map_cons, a, b], by rw [List.map_cons, List.map_cons]; exact .cons c d⟩
theorem KvRp.len {r : List (κ × V)} {m : List (κ × D)} (h : KvRp K G r m) : r.length = m.length := by
  have := congrArg List.length h.1; simpa using this
theorem KvRp.app {r r' : List (κ × V)} {m m' : List (κ × D)} (h : KvRp K G r m) (h' : KvRp K G r' m') : KvRp K G (r ++ r') (m ++ m') :=
  ⟨by rw [List.map_append, List.map_append, h.1, h'.1], by rw [List.map_append, List.map_append]; exact h.2.app h'.2⟩
variable [DecidableEq κ]
theorem KvRp.get : ∀ {r : List (κ × V)} {m : List (κ × D)} {k : κ}, KvRp K G r m → (kvGet m k = none ∧ valV r k = none) ∨ ∃ d v, kvGet m k = some d ∧ valV r k = some v ∧ Rp K G v d
  | [], m, k, h => by rw [kvrp_nil h]; exact .inl ⟨rfl, rfl⟩
  | x :: r, [], k, h => by have := h.1; simp at this
  | x :: r, y :: m, k, h => by
    obtain ⟨a, b, c⟩ := kvrp_cons.mp h
    unfold kvGet
    by_cases e : y.1 = k
    · rw [if_pos e, valV_pos (by rw [a]; exact e)]; exact .inr ⟨_, _, rfl, rfl, b⟩
    · rw [if_neg e, valV_neg (by rw [a]; exact e)]; exact c.get
theorem putK_cons (x : κ × V) (r : List (κ × V)) (k : κ) (v : V) (nd : ((x :: r).map (·.1)).Nodup) : putK (x :: r) k v = if x.1 = k then (x.1, v) :: r else x :: putK r k v := by
  unfold putK
  by_cases e : x.1 = k
  · rw [if_pos (by simp [e]), if_pos e, List.map_cons, if_pos e]
    congr 1
    have : ∀ y ∈ r, y.1 ≠ k := fun y hy z => by
      rw [List.map_cons, List.nodup_cons] at nd
      exact nd.1 (by rw [e, ← z]; exact List.mem_map_of_mem hy)
    conv => rhs; rw [← List.map_id r]
    exact List.map_congr_left fun y hy => by rw [if_neg (this y hy)]; rfl
  · rw [if_neg e, List.any_cons]
    simp only [e, decide_false, Bool.false_or]
    by_cases c : (r.any fun kv => decide (kv.1 = k)) = true
    · rw [if_pos c, if_pos c, List.map_cons, if_neg e]
    · rw [if_neg c, if_neg c]; rfl
theorem KvRp.put : ∀ {r : List (κ × V)} {m : List (κ × D)} {k : κ} {v : V} {d : D}, KvRp K G r m → (m.map (·.1)).Nodup → Rp K G v d → KvRp K G (putK r k v) (kvPut m k d)
  | [], m, k, v, d, h, _, b => by
    rw [kvrp_nil h]
    exact ⟨rfl, .cons b .nil⟩
  | x :: r, [], k, v, d, h, _, _ => by have := h.1; simp at this
  | x :: r, y :: m, k, v, d, h, nd, b => by
    obtain ⟨a, b', c⟩ := kvrp_cons.mp h
    rw [putK_cons x r k v (by rw [h.1]; exact nd)]
    unfold kvPut
    rw [a]
    by_cases e : y.1 = k
    · rw [if_pos e, if_pos e]; exact kvrp_cons.mpr ⟨rfl, b, c⟩
    · rw [if_neg e, if_neg e]
      rw [List.map_cons, List.nodup_cons] at nd
      exact kvrp_cons.mpr ⟨a, b', c.put nd.2 b⟩
theorem KvRp.drop : ∀ {r : List (κ × V)} {m : List (κ × D)} {k : κ}, KvRp K G r m → KvRp K G (dropK r k) (kvDrop m k)
  | [], m, k, h => by rw [kvrp_nil h]; exact ⟨rfl, .nil⟩
  | x :: r, [], k, h => by have := h.1; simp at this
  | x :: r, y :: m, k, h => by
    obtain ⟨a, b', c⟩ := kvrp_cons.mp h
    unfold dropK kvDrop
    rw [List.filter_cons, List.filter_cons, a]
    by_cases e : y.1 = k
    · rw [if_neg (by simp [e]), if_neg (by simp [e])]; exact c.drop
    · rw [if_pos (by simp [e]), if_pos (by simp [e])]; exact kvrp_cons.mpr ⟨a, b', c.drop⟩
theorem KvRp.merge {more : List (Key × V)} {m2 : List (Key × D)} (h2 : KvRp K G more m2) : ∀ {r : List (Key × V)} {m : List (Key × D)}, KvRp K G r m → (m.map (·.1)).Nodup → KvRp K G (mergeK r more) (kvMerge m m2) := by
  induction more generalizing m2 with
  | nil => intro r m h _; rw [kvrp_nil h2]; exact h
  | cons x more ih =>
    intro r m h nd
    cases m2 with
    | nil => have := h2.1; simp at this
    | cons y m2 =>
      obtain ⟨a, b, c⟩ := kvrp_cons.mp h2
      show KvRp K G (mergeK (putK r x.1 x.2) more) (kvMerge (kvPut m y.1 y.2) m2)
      rw [a]
      exact ih c (h.put nd b) (kvPut_nd nd)
end

/-! dicts as data -/
abbrev KD := List (Key × D)
def dK' (m : KD) : D := .dK (m.map (·.1)) (m.map (·.2))
def D.kvs : D → Option KD
  | .dK ks ds => some (ks.zip ds)
  | _ => none
def D.key : D → Option Key
  | .int i => some (.inl i)
  | .str x => some (.inr x)
  | _ => none
def D.ofKey : Key → D
  | .inl i => .int i
  | .inr x => .str x
theorem kvs_dK (m : KD) : (dK' m).kvs = some m := by
  show some _ = _
  rw [← zip_split m]
def D.dget (x y : D) : Option D := x.kvs.bind fun m => y.key.bind fun k => kvGet m k
def D.dgetOr (x y z : D) : Option D := x.kvs.bind fun m => y.key.bind fun k => some ((kvGet m k).getD z)
def D.dhas (y x : D) : Option Bool := x.kvs.bind fun m => y.key.map fun k => (kvGet m k).isSome
def D.dhasnt (y x : D) : Option Bool := (D.dhas y x).map fun b => !b
section
variable {K : PySem.W.Frag} {G H : Hp}
theorem rp_key {d : D} {v : V} {k : Key} (r : Rp K G v d) (e : d.key = some k) : v = kV k := by
  cases d <;> cases e <;> cases r <;> rfl
theorem rp_ofKey {k : Key} : Rp K G (kV k) (D.ofKey k) := by
  cases k with
  | inl i => exact .int i
  | inr x => exact .str x
theorem zip_fst {α β : Type} : ∀ {as : List α} {bs : List β}, as.length = bs.length → (as.zip bs).map (·.1) = as
  | [], [], _ => rfl
  | a :: as, b :: bs, h => by rw [List.zip_cons_cons, List.map_cons, zip_fst (by simpa using h)]
theorem zip_snd {α β : Type} : ∀ {as : List α} {bs : List β}, as.length = bs.length → (as.zip bs).map (·.2) = bs
  | [], [], _ => rfl
  | a :: as, b :: bs, h => by rw [List.zip_cons_cons, List.map_cons, zip_snd (by simpa using h)]
theorem rp_kvs {d : D} {v : V} {m : KD} (r : Rp K G v d) (e : d.kvs = some m) : ∃ a kvs, v = .ref a ∧ Rd G a (.dK kvs) ∧ KvRp K G kvs m ∧ (m.map (·.1)).Nodup := by
  cases d <;> cases e
  cases r with
  | @dK a kvs ks vs ds h1 h2 h3 h4 h5 =>
    subst h2
    have hl := h5.len
    refine ⟨a, _, rfl, h1, ⟨?_, ?_⟩, ?_⟩
    · rw [zip_fst h3, zip_fst (h3.trans hl)]
    · rw [zip_snd h3, zip_snd (h3.trans hl)]; exact h5
    · rw [zip_fst (h3.trans hl)]; exact h4
theorem rp_dK {a : Addr} {kvs : List (Key × V)} {m : KD} (h : Rd G a (.dK kvs)) (r : KvRp K G kvs m) (nd : (m.map (·.1)).Nodup) : Rp K G (.ref a) (dK' m) := by
  refine .dK h (vs := kvs.map (·.2)) ?_ ?_ nd r.2
  · rw [← r.1]; exact zip_split kvs
  · have := congrArg List.length r.1; simp at this ⊢; omega
theorem Lk.rdK {a : Addr} {kvs : List (Key × V)} (l : Lk G H) (h : Rd G a (.dK kvs)) : Rd H a (.dK kvs) := l.le _ _ rfl h
end
section
variable {X : Cx} {W : WN} {eE : En} {en : En} {ec : Nat → Addr} {pos : Pos} {γ δ ω : Type} {φ : γ → En} {a b c e o i : Expr} {ma mb mc mo mi mx : R D} {T : Bs → ω → Ends → Prop} {rest : List Stmt}
/-- x[k], x a dict -/
theorem xp_dget (hu : X.A.units + 64 < cLine) (ho : XP X W o en mo) (hi : XP X W i en mi) (hs : NoSl i) : XP X W (.Subscript o i pos) en (mo.bnd fun x => mi.bnd fun y => R.of (D.dget x y)) := fun σ G H S Q h => by
  refine pe_to (pe_dget (by omega) pe_w pe_w hs) (ho σ G H S _ (wp_mono (wp_bnd.mp h) (fun x hx v G1 H1 w1 r1 => ?_) fun _ z => z))
  refine hi σ G1 H1 (S.grow w1) _ (wp_mono (wp_bnd.mp hx) (fun y hy u G2 H2 w2 r2 => ?_) fun _ z G2 H2 w => z G2 H2 (w1.trans w))
  obtain ⟨d, e, hd⟩ := wp_of hy
  obtain ⟨m, e1, e2⟩ := Option.bind_eq_some_iff.mp e
  obtain ⟨k, e3, e4⟩ := Option.bind_eq_some_iff.mp e2
  obtain ⟨a, kvs, rfl, h1, h2, h3⟩ := rp_kvs (r1.up w2.g) e1
  have := rp_key r2 e3
  subst this
  rcases h2.get (k := k) with ⟨z, _⟩ | ⟨d', v', z1, z2, z3⟩
  · rw [z] at e4; cases e4
  · rw [z1] at e4; cases e4
    exact ⟨a, v', rfl, .inl ⟨kvs, k, w2.up.rdK h1, rfl, z2.symm⟩, hd v' G2 H2 (w1.trans w2) z3⟩
/-- x.get(k, d) -/
theorem xp_dgetOr {pa : Pos} (hu : X.A.units + 64 < cLine) (ho : XP X W o en mo) (hi : XP X W i en mi) (he : XP X W e en mx) (hm : M2 X o "get" pa i e pos := by exact ⟨rfl, rfl, rfl, rfl⟩) :
    XP X W (.Call (.Attribute o "get" pa) [i, e] [] pos) en (mo.bnd fun x => (R.of x.kvs).bnd fun m => mi.bnd fun y => mx.bnd fun z => (R.of y.key).bnd fun k => .ok ((kvGet m k).getD z)) := fun σ G H S Q h => by
  refine pe_to (pe_dget2 (by omega) pe_w pe_w pe_w hm) (ho σ G H S _ (wp_mono (wp_bnd.mp h) (fun x hx v G1 H1 w1 r1 => ?_) fun _ z => z))
  obtain ⟨m, e1, hx⟩ := wp_of (wp_bnd.mp hx)
  obtain ⟨a, kvs, rfl, h1, h2, h3⟩ := rp_kvs r1 e1
  refine ⟨a, rfl, .inl ⟨kvs, w1.up.rdK h1⟩, hi σ G1 H1 (S.grow w1) _ (wp_mono (wp_bnd.mp hx) (fun y hy u G2 H2 w2 r2 => ?_) fun _ z G2 H2 w => z G2 H2 (w1.trans w))⟩
  refine he σ G2 H2 ((S.grow w1).grow w2) _ (wp_mono (wp_bnd.mp hy) (fun z hz t G3 H3 w3 r3 => ?_) fun _ z G2 H2 w => z G2 H2 ((w1.trans w2).trans w))
  obtain ⟨k, e3, hd⟩ := wp_of (wp_bnd.mp hz)
  have := rp_key r2 e3
  subst this
  refine ⟨valV kvs k, .inl ⟨kvs, k, w3.up.rdK ((w2.g.trans w3.g) _ _ rfl h1), rfl, rfl⟩, ?_⟩
  have hd : ∀ v G4 H4, Grow G H G4 H4 → Rp X.K G4 v ((kvGet m k).getD z) → Q v H4 := hd
  refine hd _ G3 H3 ((w1.trans w2).trans w3) ?_
  rcases (h2.up (w2.g.trans w3.g)).get (k := k) with ⟨z1, z2⟩ | ⟨d', v', z1, z2, z3⟩
  · rw [z1, z2]; exact r3
  · rw [z1, z2]; exact z3
/-- k in x -/
theorem xt_din (hu : X.A.units + 64 < cLine) (hi : XP X W i en mi) (ho : XP X W o en mo) (h1 : behindInMarks .In o = false := by rfl) : XT X W (.Compare i [.In] [o] pos) en (mi.bnd fun y => mo.bnd fun x => R.of (D.dhas y x)) := fun σ G H S Q h => by
  refine pt_to (pt_cmp (pc_din (by omega) pe_w pe_w) h1) (hi σ G H S _ (wp_mono (wp_bnd.mp h) (fun y hy u G1 H1 w1 r1 => ?_) fun _ z => z))
  refine ho σ G1 H1 (S.grow w1) _ (wp_mono (wp_bnd.mp hy) (fun x hx v G2 H2 w2 r2 => ?_) fun _ z G2 H2 w => z G2 H2 (w1.trans w))
  obtain ⟨b, e, hd⟩ := wp_of hx
  obtain ⟨m, e1, e2⟩ := Option.bind_eq_some_iff.mp e
  obtain ⟨k, e3, e4⟩ := Option.map_eq_some_iff.mp e2
  obtain ⟨a, kvs, rfl, h1, h2, h3⟩ := rp_kvs r2 e1
  have := rp_key r1 e3
  subst this
  refine ⟨a, valV kvs k, rfl, .inl ⟨kvs, k, w2.up.rdK h1, rfl, rfl⟩, b, ?_, hd G2 H2 (w1.trans w2)⟩
  rw [← e4]
  rcases h2.get (k := k) with ⟨z1, z2⟩ | ⟨d', v', z1, z2, z3⟩
  · rw [z1, z2]; rfl
  · rw [z1, z2]; rfl
theorem xt_dnotin (hu : X.A.units + 64 < cLine) (hi : XP X W i en mi) (ho : XP X W o en mo) (h1 : behindInMarks .NotIn o = false := by rfl) : XT X W (.Compare i [.NotIn] [o] pos) en (mi.bnd fun y => mo.bnd fun x => R.of (D.dhasnt y x)) := fun σ G H S Q h => by
  refine pt_to (pt_cmp (pc_dnotin (by omega) pe_w pe_w) h1) (hi σ G H S _ (wp_mono (wp_bnd.mp h) (fun y hy u G1 H1 w1 r1 => ?_) fun _ z => z))
  refine ho σ G1 H1 (S.grow w1) _ (wp_mono (wp_bnd.mp hy) (fun x hx v G2 H2 w2 r2 => ?_) fun _ z G2 H2 w => z G2 H2 (w1.trans w))
  obtain ⟨b, e, hd⟩ := wp_of hx
  obtain ⟨b', e0, rfl⟩ := Option.map_eq_some_iff.mp e
  obtain ⟨m, e1, e2⟩ := Option.bind_eq_some_iff.mp e0
  obtain ⟨k, e3, e4⟩ := Option.map_eq_some_iff.mp e2
  obtain ⟨a, kvs, rfl, h1, h2, h3⟩ := rp_kvs r2 e1
  have := rp_key r1 e3
  subst this
  refine ⟨a, valV kvs k, rfl, .inl ⟨kvs, k, w2.up.rdK h1, rfl, rfl⟩, !b', ?_, hd G2 H2 (w1.trans w2)⟩
  rw [← e4]
  rcases h2.get (k := k) with ⟨z1, z2⟩ | ⟨d', v', z1, z2, z3⟩
  · rw [z1, z2]; rfl
  · rw [z1, z2]; rfl
/-! what is told of a dict -/
def D.lenK : List D → Option D
  | [x] => x.kvs.map fun m => .int m.length
  | _ => none
def rLenK : List V → Hp → VK → Prop := fun xs H Q => ∃ a kvs, xs = [V.ref a] ∧ Rd H a (.dK kvs) ∧ Q (.int (kvs.length : Nat)) H
theorem c_lenK : CallR X (.builtin "len") rLenK := fun pins s σ H xs us Q I r h => by
  obtain ⟨a, kvs, rfl, ha, q⟩ := h
  obtain ⟨u, rfl, ru⟩ := vals1 r
  cases ru
  exact L2.d_len I ha fun t s' I' => ⟨V.int (kvs.length : Nat), H, I', ⟨t, rfl⟩, q⟩
theorem d_lenK {K : PySem.W.Frag} : CallD K rLenK D.lenK := fun G H xs ds d l r e Q q => by
  unfold D.lenK at e
  split at e
  · obtain ⟨m, e1, rfl⟩ := Option.map_eq_some_iff.mp e
    cases r with
    | cons a b =>
      cases b
      obtain ⟨p, kvs, rfl, h1, h2, h3⟩ := rp_kvs a e1
      exact ⟨p, kvs, rfl, l.rdK h1, by rw [h2.len]; exact keepQ l q (.int _)⟩
  · cases e
def keyI : List Key → Option (List Int)
  | [] => some []
  | .inl i :: r => (keyI r).map (i :: ·)
  | .inr _ :: _ => none
theorem keyI_map : ∀ {ks : List Key} {is : List Int}, keyI ks = some is → ks = is.map Sum.inl
  | [], is, h => by cases h; rfl
  | .inl i :: r, is, h => by
    obtain ⟨is', e, rfl⟩ := Option.map_eq_some_iff.mp h
    rw [keyI_map e]; rfl
  | .inr _ :: _, is, h => by cases h
theorem keyI_of : ∀ is : List Int, keyI (is.map Sum.inl) = some is
  | [] => rfl
  | i :: is => by show (keyI (is.map Sum.inl)).map _ = _; rw [keyI_of is]; rfl
/-- sorted(x): its keys, rising -/
def D.sortedK : List D → Option (List D)
  | [x] => x.kvs.bind fun m => (keyI (m.map (·.1))).bind fun is => if is.length < 64 then some ((sortI is).map .int) else none
  | _ => none
def rSortK : List V → Hp → VK → Prop := fun xs H Q => ∃ (a : Addr) (kvs : List (Key × V)) (ks : List Int), xs = [.ref a] ∧ Rd H a (.dK kvs) ∧ kvs.map (·.1) = ks.map Sum.inl ∧ ks.length < 64 ∧
  ∀ (ys : List Int) (p : Addr), ys.Perm ks → ys.Pairwise (· ≤ ·) → H p = none → Q (.ref p) (upd H p (.lst (ys.map V.int)))
theorem cr_sortK (hc : X.calm = true) : CallR X (.builtin "sorted") rSortK := call_sortedDI hc
theorem d_sortedK {K : PySem.W.Frag} : CallN K rSortK D.sortedK := fun G H xs ds d l r e Q q => by
  unfold D.sortedK at e
  split at e
  · obtain ⟨m, e1, e2⟩ := Option.bind_eq_some_iff.mp e
    obtain ⟨is, e3, e4⟩ := Option.bind_eq_some_iff.mp e2
    split at e4
    · rename_i hl
      cases e4
      cases r with
      | cons a b =>
        cases b
        obtain ⟨p, kvs, rfl, h1, h2, h3⟩ := rp_kvs a e1
        refine ⟨p, kvs, is, rfl, l.rdK h1, h2.1.trans (keyI_map e3), hl, fun ys p' hp hs hn => ?_⟩
        have : ys = sortI is := srt_eq (hp.trans (sortI_perm is).symm) hs (sortI_srt is)
        rw [this]
        exact newL l hn (all_ints _) q
    · cases e4
  · cases e
end
end Wk
set_option maxHeartbeats 4000000
/-! Wk46: new dicts, dicts of one's own changed, walked, handed to defs. -/
namespace Wk
open PySem PySem.Spec PyProof.Rows L2

section
variable (X : Cx) (W : WN)
/-- a new dict, the asker's own -/
def XK (e : Expr) (en : En) (m : R KD) : Prop := ∀ σ G H, Sl X.K en σ G H → ∀ Q : VK,
  wp m (fun kd => ∀ p kvs G2 H2, Grow G H G2 H2 → H p = none → G2 p = none → H2 p = some (.dK kvs) → KvRp X.K G2 kvs kd → (kd.map (·.1)).Nodup → Q (.ref p) H2) (fun c => ∀ G2 H2, Grow G H G2 H2 → W c σ H2) → wE X e σ H Q
end
section
variable {X : Cx} {W : WN} {eE : En} {en : En} {ec : Nat → Addr} {pos : Pos} {γ δ ω α : Type} {φ : γ → En} {a b c e o i : Expr} {ma mb mc mo mi mx : R D} {T : Bs → ω → Ends → Prop} {rest : List Stmt}
theorem st_atK {B : Bs} {σ : L2.St} {G H : Hp} {i : Nat} {b : Bool} {p : Addr} {m : KD} (S : St8 X.K B en σ G H) (he : en[i]? = some (some (.o b p (.k m)))) : σ[i]? = some (some (.ref p)) ∧ G p = none ∧ ∃ kvs, H p = some (.dK kvs) ∧ KvRp X.K G kvs m ∧ (m.map (·.1)).Nodup := by
  obtain ⟨v, e, rfl, g, vs, h, r, nd⟩ := S.es.atK he
  exact ⟨e, g, vs, h, r, nd⟩
/-- a new object is known from now on -/
theorem Grow.know {G H G2 H2 : Hp} {p : Addr} {o : HO} (w : Grow G H G2 H2) (hp : H p = none) (gp : G2 p = none) (e : H2 p = some o) : Grow G H (upd G2 p o) H2 :=
  ⟨w.g.trans (Le.upd gp), w.up.know gp e, w.h, fun a n m => by rw [upd_ne (fun z => m.ne (by rw [z]; exact hp))]; exact w.cl a n m⟩
/-- as data -/
theorem xk_xp {m : R KD} (h : XK X W e en m) : XP X W e en (m.bnd fun kd => .ok (dK' kd)) := fun σ G H S Q k => by
  refine h σ G H S Q (wp_mono (wp_bnd.mp k) (fun kd hd p kvs G2 H2 w hp gp e2 r nd => ?_) fun _ z => z)
  have l : Le G2 (upd G2 p (.dK kvs)) := Le.upd gp
  have hd : ∀ v G3 H3, Grow G H G3 H3 → Rp X.K G3 v (dK' kd) → Q v H3 := hd
  exact hd _ _ _ (w.know hp gp e2) (rp_dK (.inl upd_same) (r.up l) nd)
/-- {} -/
theorem xk_new : XK X W (.Dict [] [] pos) en (.ok []) := fun σ G H S Q h => by
  refine pe_to pe_dnewK fun p hp => ?_
  have h : ∀ p kvs G2 H2, Grow G H G2 H2 → H p = none → G2 p = none → H2 p = some (.dK kvs) → KvRp X.K G2 kvs [] → (([] : KD).map (·.1)).Nodup → Q (.ref p) H2 := h
  exact h p [] G _ (Grow.own S.le hp) hp (S.le.kn p hp) upd_same ⟨rfl, .nil⟩ .nil
/-- {k: v} -/
theorem xk_1 (ha : XP X W a en ma) (hb : XP X W b en mb) : XK X W (.Dict [some a] [b] pos) en (ma.bnd fun x => mb.bnd fun y => (R.of x.key).bnd fun k => .ok (kvMerge [] [(k, y)])) := fun σ G H S Q q => by
  refine pe_to (pe_disp (pps_cons pe_w pe_w pps_nil) rfl rfl (by simp) (by show 1 ≤ 15; decide)) (fun p hp => ?_)
  have w0 := Grow.own (o := .dK []) S.le hp
  have g0 : G p = none := S.le.kn p hp
  refine ha σ G _ (S.grow w0) _ (wp_mono (wp_bnd.mp q) (fun d1 q v1 G1 H1 w1 r1 => ?_) fun _ z G2 H2 w => z G2 H2 (w0.trans w))
  refine hb σ G1 H1 ((S.grow w0).grow w1) _ (wp_mono (wp_bnd.mp q) (fun d2 q v2 G2 H2 w2 r2 => ?_) fun _ z G2 H2 w => z G2 H2 ((w0.trans w1).trans w))
  obtain ⟨k, ek, q⟩ := wp_of (wp_bnd.mp q)
  have := rp_key (r1.up w2.g) ek
  subst this
  have w' := w1.trans w2
  refine ⟨w'.h _ _ upd_same, [(k, v2)], rfl, by show 1 ≤ 15; decide, ?_⟩
  have q : ∀ p kvs G2 H2, Grow G H G2 H2 → H p = none → G2 p = none → H2 p = some (.dK kvs) → KvRp X.K G2 kvs (kvMerge [] [(k, d2)]) → ((kvMerge [] [(k, d2)]).map (·.1)).Nodup → Q (.ref p) H2 := q
  have gp := w'.cl p g0 ⟨_, upd_same, trivial⟩
  exact q p _ G2 _ (Grow.put (w0.trans w') hp gp) hp gp upd_same (KvRp.merge ⟨rfl, .cons r2 .nil⟩ ⟨rfl, .nil⟩ .nil) (kvMerge_nd .nil)
/-- {k: v, k2: v2} -/
theorem xk_2 {e1 e2 e3 e4 : Expr} {m1 m2 m3 m4 : R D} (h1 : XP X W e1 en m1) (h2 : XP X W e2 en m2) (h3 : XP X W e3 en m3) (h4 : XP X W e4 en m4) : XK X W (.Dict [some e1, some e3] [e2, e4] pos) en (m1.bnd fun x => m2.bnd fun y => m3.bnd fun z => m4.bnd fun t => (R.of x.key).bnd fun k => (R.of z.key).bnd fun k2 => .ok (kvMerge [] [(k, y), (k2, t)])) := fun σ G H S Q q => by
  refine pe_to (pe_disp (pps_cons pe_w pe_w (pps_cons pe_w pe_w pps_nil)) rfl rfl (by simp) (by show 2 ≤ 15; decide)) (fun p hp => ?_)
  have w0 := Grow.own (o := .dK []) S.le hp
  have g0 : G p = none := S.le.kn p hp
  refine h1 σ G _ (S.grow w0) _ (wp_mono (wp_bnd.mp q) (fun d1 q v1 G1 H1 w1 r1 => ?_) fun _ z G2 H2 w => z G2 H2 (w0.trans w))
  refine h2 σ G1 H1 ((S.grow w0).grow w1) _ (wp_mono (wp_bnd.mp q) (fun d2 q v2 G2 H2 w2 r2 => ?_) fun _ z G2 H2 w => z G2 H2 ((w0.trans w1).trans w))
  refine h3 σ G2 H2 (((S.grow w0).grow w1).grow w2) _ (wp_mono (wp_bnd.mp q) (fun d3 q v3 G3 H3 w3 r3 => ?_) fun _ z G2 H2 w => z G2 H2 (((w0.trans w1).trans w2).trans w))
  refine h4 σ G3 H3 ((((S.grow w0).grow w1).grow w2).grow w3) _ (wp_mono (wp_bnd.mp q) (fun d4 q v4 G4 H4 w4 r4 => ?_) fun _ z G2 H2 w => z G2 H2 ((((w0.trans w1).trans w2).trans w3).trans w))
  obtain ⟨k, ek, q⟩ := wp_of (wp_bnd.mp q)
  obtain ⟨k2, ek2, q⟩ := wp_of (wp_bnd.mp q)
  have t1 := rp_key r1 ek
  have t2 := rp_key r3 ek2
  subst t1
  subst t2
  have w' := ((w1.trans w2).trans w3).trans w4
  refine ⟨w'.h _ _ upd_same, [(k, v2), (k2, v4)], rfl, by show 2 ≤ 15; decide, ?_⟩
  have q : ∀ p kvs G2 H2, Grow G H G2 H2 → H p = none → G2 p = none → H2 p = some (.dK kvs) → KvRp X.K G2 kvs (kvMerge [] [(k, d2), (k2, d4)]) → ((kvMerge [] [(k, d2), (k2, d4)]).map (·.1)).Nodup → Q (.ref p) H2 := q
  have gp := w'.cl p g0 ⟨_, upd_same, trivial⟩
  exact q p _ G4 _ (Grow.put (w0.trans w') hp gp) hp gp upd_same (KvRp.merge ⟨rfl, .cons (r2.up (w3.g.trans w4.g)) (.cons r4 .nil)⟩ ⟨rfl, .nil⟩ .nil) (kvMerge_nd .nil)
/-- x = a new dict -/
theorem xk_run {m : R KD} (h : XK X W e en m) {B : Bs} {σ : L2.St} {G H : Hp} (S : St8 X.K B en σ G H) (we : Wk0 eE en) {Q : VK} (k : Post X W eE B m (fun kd => ∀ p kvs G2 H2, Le G G2 → St8 X.K B en σ G2 H2 → H p = none → G2 p = none → H2 p = some (.dK kvs) → KvRp X.K G2 kvs kd → (kd.map (·.1)).Nodup → Q (.ref p) H2)) : wE X e σ H Q :=
  h σ G H S.sl Q (wp_mono k (fun d hd p vs G2 H2 w hp gp e r => hd p vs G2 H2 w.g (S.grow w) hp gp e r) fun c hc G2 H2 w => hc σ G2 H2 ((S.grow w).es.weak we))
theorem xb_letK {i : Nat} {x : Str} {p : Pos} {m : R KD} {k : KD → R ω} (g : Go X ec W) (φ : Addr → KD → En) (h : XK X W e en m) (hk : ∀ a ds, XB X W eE rest (φ a ds) (k ds) T) (hi : X.N[i]? = some x := by rfl) (hφ : ∀ a ds, en.set i (some (.o false a (.k ds))) = φ a ds := by intro _ _; rfl)
    (hx : Loc X.env.scope x := by first | exact Or.inl rfl | exact Or.inr rfl) (we : Wk0 eE en := by first | exact wk0_nil | exact wk0_refl | assumption | exact Wkn.wk0 (by repeat' first | exact Wkn.nil | apply Wkn.k | apply Wkn.d)) (hs : swapsWith e (some (.Name x p)) pos.line X.env = pure false := by first | exact swaps_no rfl | exact swapsS_no rfl | rfl)
    (hf : X.fn x = true ∨ X.env.scope.names.lookup x = some .local := by first | exact .inl rfl | exact .inr rfl) : XB X W eE (.Assign [.Name x p] e pos :: rest) en (m.bnd k) T := fun B σ G H S D q => by
  refine pss_to (pss_cons (ps_set g.nd hi hx pe_w hs hf) pss_w) (xk_run h S we (wp_mono (wp_bnd.mp q) (fun d hd a vs G2 H2 l S2 hp gp ep r nd => ?_) fun _ z => z))
  refine hk a d B _ G2 H2 ?_ D hd
  have := S2.setK (i := i) (p := a) (m := d) (S.noOwn hp) (S.h0 hp) gp ⟨vs, ep, r, nd⟩
  rw [hφ] at this; exact this
/-- an owned dict is data from now on -/
theorem xb_frzK {i : Nat} {p : Addr} {ds : KD} {m : R ω} (φ : En) (h : XB X W eE rest φ m T) (he : en[i]? = some (some (.o false p (.k ds))) := by rfl) (hφ : en.set i (some (.v (dK' ds))) = φ := by rfl) : XB X W eE rest en m T := fun B σ G H S D q => by
  obtain ⟨G2, l, S2⟩ := S.frzK he
  have S2 : St8 X.K B (en.set i (some (.v (dK' ds)))) σ G2 H := S2
  rw [hφ] at S2
  exact h B σ G2 H S2 D q
/-! an owned dict read -/
theorem xp_borK {i : Nat} {b : Bool} {p : Addr} {ds : KD} {e : Expr} {m : R D} (φ : En) (h : XP X W e φ m) (he : en[i]? = some (some (.o b p (.k ds))) := by rfl) (hφ : en.set i (some (.v (dK' ds))) = φ := by rfl) : XP X W e en (m.bnd fun d => R.of d.flat) := fun σ G H S Q k => by
  obtain ⟨G', S', w'⟩ := borrowK S he
  have S' : Sl X.K (en.set i (some (.v (dK' ds)))) σ G' H := S'
  rw [hφ] at S'
  refine h σ G' H S' Q (wp_mono (wp_bnd.mp k) (fun d hd v G2 H2 w r => ?_) fun c hc G2 H2 w => hc _ H2 (w' G2 H2 w))
  obtain ⟨d', e', hd3⟩ := wp_of hd
  obtain ⟨rfl, r'⟩ := flat_rp (G' := hidG G2 p) e' r
  exact hd3 v _ H2 (w' G2 H2 w) r'
theorem xt_borK {i : Nat} {b : Bool} {p : Addr} {ds : KD} {e : Expr} {m : R Bool} (φ : En) (h : XT X W e φ m) (he : en[i]? = some (some (.o b p (.k ds))) := by rfl) (hφ : en.set i (some (.v (dK' ds))) = φ := by rfl) : XT X W e en m := fun σ G H S Q k => by
  obtain ⟨G', S', w'⟩ := borrowK S he
  have S' : Sl X.K (en.set i (some (.v (dK' ds)))) σ G' H := S'
  rw [hφ] at S'
  exact h σ G' H S' Q (wp_mono k (fun b hb G2 H2 w => hb _ H2 (w' G2 H2 w)) fun c hc G2 H2 w => hc _ H2 (w' G2 H2 w))
/-! an owned dict changed -/
def KDfit (m : KD) : Option KD := if m.length < 16000000 then some m else none
theorem kdfit {m m' : KD} (h : KDfit m = some m') : m' = m ∧ m.length < 16000000 := by
  unfold KDfit at h
  split at h
  · rename_i z; exact ⟨(Option.some.inj h).symm, z⟩
  · cases h
/-- x[k] = v -/
theorem xb_putK {i : Nat} {b : Bool} {p : Addr} {px ps' : Pos} {ds : KD} {x : Str} {a e : Expr} {ma me : R D} {k : KD → R ω} (hu : X.A.units + 64 < cLine) (φ : KD → En) (h : XP X W e en me) (ha : XP X W a en ma) (hk : ∀ ds, XB X W eE rest (φ ds) (k ds) T) (he : en[i]? = some (some (.o b p (.k ds))) := by rfl) (hφ : ∀ ds, en.set i (some (.o b p (.k ds))) = φ ds := by intro _; rfl) (we : Wk0 eE en := by first | exact wk0_nil | exact wk0_refl | assumption | exact Wkn.wk0 (by repeat' first | exact Wkn.nil | apply Wkn.k | apply Wkn.d))
    (hN : X.N[i]? = some x := by rfl) (hv : Vis X.env.scope x := by first | exact Or.inl rfl | exact Or.inr (Or.inl rfl) | exact Or.inr (Or.inr rfl)) (hd : (x == ("__debug__" : Str)) = false := by decide) (hcd : (x == ("__classdict__" : Str)) = false := by decide)
    (hs : swapsWith e (some (.Subscript (.Name x px) a ps')) pos.line X.env = pure false := by first | exact swaps_no rfl | rfl) :
    XB X W eE (.Assign [.Subscript (.Name x px) a ps'] e pos :: rest) en (me.bnd fun d => ma.bnd fun j => (R.of (j.key.bind fun q => (KDfit ds).map fun m => kvPut m q d)).bnd k) T := fun B σ G H S D q => by
  refine pss_to (pss_cons (ps_dput (by omega) (pe_var hN hv hd hcd) pe_w pe_w hs) pss_w) ?_
  refine xp_run h S we (wp_mono (wp_bnd.mp q) (fun d hd' v G1 H1 l1 S1 r1 => ?_) fun _ z => z)
  obtain ⟨e1, _, _, _, _⟩ := st_atK S1 he
  refine ⟨.ref p, e1, ?_⟩
  refine xp_run ha S1 we (wp_mono (wp_bnd.mp hd') (fun j hj u G2 H2 l2 S2 r2 => ?_) fun _ z => z)
  obtain ⟨ds', e2, hd2⟩ := wp_of (wp_bnd.mp hj)
  obtain ⟨kk, ek, e3⟩ := Option.bind_eq_some_iff.mp e2
  obtain ⟨m, em, rfl⟩ := Option.map_eq_some_iff.mp e3
  obtain ⟨rfl, hz⟩ := kdfit em
  have := rp_key r2 ek
  subst this
  obtain ⟨_, _, kvs, hp3, r3, nd⟩ := st_atK S2 he
  refine ⟨p, _, rfl, .inl ⟨kvs, kk, hp3, rfl, by have := size_ok (n := kvs.length + 1) (by rw [r3.len]; omega); omega, rfl⟩, ?_⟩
  have S3 := S2.mutK (kvs := putK kvs kk v) he (r3.put nd (r1.up l2)) (kvPut_nd nd)
  rw [hφ] at S3
  exact hk _ B σ _ _ S3 D hd2
/-- x.pop(k) -/
theorem xb_popK {i : Nat} {b : Bool} {p : Addr} {px pa pc : Pos} {ds : KD} {x : Str} {a : Expr} {ma : R D} {k : KD → R ω} (φ : KD → En) (ha : XP X W a en ma) (hk : ∀ ds, XB X W eE rest (φ ds) (k ds) T) (he : en[i]? = some (some (.o b p (.k ds))) := by rfl) (hφ : ∀ ds, en.set i (some (.o b p (.k ds))) = φ ds := by intro _; rfl) (we : Wk0 eE en := by first | exact wk0_nil | exact wk0_refl | assumption | exact Wkn.wk0 (by repeat' first | exact Wkn.nil | apply Wkn.k | apply Wkn.d))
    (hN : X.N[i]? = some x := by rfl) (hv : Vis X.env.scope x := by first | exact Or.inl rfl | exact Or.inr (Or.inl rfl) | exact Or.inr (Or.inr rfl)) (hd : (x == ("__debug__" : Str)) = false := by decide) (hcd : (x == ("__classdict__" : Str)) = false := by decide)
    (hm : M1 X (.Name x px) "pop" pa a pc := by exact ⟨rfl, rfl, rfl, rfl⟩) (hs : swapsWith (.Call (.Attribute (.Name x px) "pop" pa) [a] [] pc) none pos.line X.env = pure false := by first | exact swaps_no rfl | rfl) :
    XB X W eE (.Expr (.Call (.Attribute (.Name x px) "pop" pa) [a] [] pc) pos :: rest) en (ma.bnd fun j => (R.of (j.key.bind fun q => if (kvGet ds q).isSome = true then some (kvDrop ds q) else none)).bnd k) T := fun B σ G H S D q => by
  refine pss_to (pss_cons (ps_expr (pe_dpop1 (pe_var hN hv hd hcd) pe_w hm) hs) pss_w) ?_
  obtain ⟨e1, _, kvs0, h0, _, _⟩ := st_atK S he
  refine ⟨.ref p, e1, p, rfl, .inl ⟨kvs0, .inl h0⟩, ?_⟩
  refine xp_run ha S we (wp_mono (wp_bnd.mp q) (fun j hj u G2 H2 l2 S2 r2 => ?_) fun _ z => z)
  obtain ⟨ds', e2, hd2⟩ := wp_of (wp_bnd.mp hj)
  obtain ⟨kk, ek, e3⟩ := Option.bind_eq_some_iff.mp e2
  split at e3
  · rename_i hsome
    cases e3
    have := rp_key r2 ek
    subst this
    obtain ⟨_, _, kvs, hp3, r3, nd⟩ := st_atK S2 he
    rcases r3.get (k := kk) with ⟨z, _⟩ | ⟨d', v', z1, z2, z3⟩
    · rw [z] at hsome; cases hsome
    · refine ⟨kvs, kk, v', hp3, rfl, z2, ?_⟩
      have S3 := S2.mutK (kvs := dropK kvs kk) he r3.drop (kvDrop_nd nd)
      rw [hφ] at S3
      exact hk _ B σ _ _ S3 D hd2
  · cases e3
end
/-! ### defs that change a dict of the asker's -/
section
variable {K : PySem.W.Frag}
/-- the first argument is a dict of the asker's; nothing is handed back -/
def spKO (K : PySem.W.Frag) (ec : Nat → Addr) (n : Nat) (f : KD → List D → R KD) : Sp := fun vs H Q E => ∃ G p ws kvs c ds, Lk G H ∧ vs = .ref p :: ws ∧ G p = none ∧ H p = some (.dK kvs) ∧ KvRp K G kvs c ∧ (c.map (·.1)).Nodup ∧ RpAll K G ws ds ∧ ds.length = n ∧
  wp (f c ds) (fun r => ∀ kvs' G2 H2, GrowX p G H G2 H2 → H2 p = some (.dK kvs') → KvRp K G2 kvs' r → (r.map (·.1)).Nodup → Q .non H2) (fun c => ∀ G2 H2, GrowX p G H G2 H2 → E (.ref (ec c)) none H2)
def en1K (N : List Str) (p : Addr) (c : KD) (ds : List D) : En := some (.o true p (.k c)) :: (ds.map (fun d => some (.v d)) ++ List.replicate (N.length - (ds.length + 1)) none)
theorem st_start1O {G H : Hp} {p : Addr} {c : OO} {ws : List V} {ds : List D} {N : List Str} (l : Lk G H) (o : OwnRp K G H p c) (hs : c.sub = []) (r : RpAll K G ws ds) : St8 K ⟨G, H, [p]⟩ (some (.o true p c) :: (ds.map (fun d => some (.v d)) ++ List.replicate (N.length - (ds.length + 1)) none)) (L2.start N (.ref p :: ws)) G H := by
  have hl := r.len
  have only : ∀ (i : Nat) (dv : DV), (some (DV.o true p c) :: (ds.map (fun d => some (DV.v d)) ++ List.replicate (N.length - (ds.length + 1)) none))[i]? = some (some dv) → (i = 0 ∧ dv = .o true p c) ∨ ∃ j d, i = j + 1 ∧ ds[j]? = some d ∧ dv = .v d := fun i dv e => by
    cases i with
    | zero => cases e; exact .inl ⟨rfl, rfl⟩
    | succ j =>
      right
      have e : (ds.map (fun d => some (DV.v d)) ++ List.replicate (N.length - (ds.length + 1)) none)[j]? = some (some dv) := e
      by_cases hi : j < ds.length
      · rw [List.getElem?_append_left (by simpa using hi), List.getElem?_map] at e
        cases z : ds[j]? with
        | none => rw [z] at e; cases e
        | some d => rw [z] at e; cases e; exact ⟨j, d, rfl, z, rfl⟩
      · rw [List.getElem?_append_right (by simpa using hi), List.getElem?_replicate] at e
        split at e <;> cases e
  refine ⟨⟨⟨l, Le.refl _, fun _ _ _ e => e, fun _ n => n, fun _ n => n, fun _ n _ => n⟩, fun i dv e => ?_, fun i j b b' q q' c1 c2 e e' zz => ?_, fun i b q c1 e => ?_⟩, ?_⟩
  · rcases only i dv e with ⟨rfl, rfl⟩ | ⟨j, d, rfl, e1, rfl⟩
    · exact ⟨.ref p, rfl, rfl, o⟩
    · obtain ⟨v, e2, r2⟩ := r.get e1
      refine ⟨v, ?_, r2⟩
      have hi : j < ws.length := (List.getElem?_eq_some_iff.mp e2).1
      show (ws.map some ++ _)[j]? = _
      rw [List.getElem?_append_left (by simpa using hi), List.getElem?_map, e2]
      rfl
  · rcases only i _ e with ⟨rfl, z⟩ | ⟨_, _, _, _, z⟩
    · rcases only j _ e' with ⟨rfl, z⟩ | ⟨_, _, _, _, z⟩
      · rfl
      · cases z
    · cases z
  · rcases only i _ e with ⟨rfl, z⟩ | ⟨_, _, _, _, z⟩
    · cases z; exact ⟨by simp, fun x hx => by rw [hs] at hx; cases hx⟩
    · cases z
  · unfold L2.start
    simp [hl]
variable {P : Program} {w : World} {mg : Str → Option Value} {base : Heap} {ec : Nat → Addr}
theorem fn_okKO {x qual : Str} {st : Stmt} {f : Addr} {fd : FuncData} {N ps : List Str} {k n : Nat} {fm : KD → List D → R KD} (F : Fun K x qual st f fd) (S : FnScope N ps (defScope st)) (hn : ps.length = n + 1)
    (body : ∀ (cdv : Value) (A : Around) (outer : List Env) (s : Shared) (H : Hp) (E : L2.XK), Room k (A.deeper (envOfC qual (defScope st) s.heap.objs.size f cdv)) →
      Go (cxOf (L2.CX P w) P w K mg base N qual (defScope st) f cdv A outer s H E) ec (fun c _ H => E (.ref (ec c)) none H) → ∀ (p : Addr) (c : KD) (ds : List D), ds.length = n →
      XB (cxOf (L2.CX P w) P w K mg base N qual (defScope st) f cdv A outer s H E) (fun c _ H => E (.ref (ec c)) none H) [] (defBody st) (en1K N p c ds) (fm c ds) (TN K (fun m e => e[0]? = some (some (.o true p (.k m)))))) :
    FnOk P w K mg base (L2.CX P w) (k + 1) f fd ps (spKO K ec n fm) := by
  refine F.okX S (fun vs H Q E h => ?_) (fun cdv A outer s H vs Q E hr h => ?_)
  · obtain ⟨G, p, ws, us, c, ds, l, rfl, gp, hp, ru, nd, r, e, _⟩ := h
    rw [List.length_cons, r.len, e, hn]
  · obtain ⟨G, p, ws, us, c, ds, l, rfl, gp, hp, ru, nd, r, e, q⟩ := h
    have g : Go (cxOf (L2.CX P w) P w K mg base N qual (defScope st) f cdv A outer s H E) ec (fun c _ H => E (.ref (ec c)) none H) :=
      ⟨rfl, passes_of rfl, S.nd, (takes_of (E := E) rfl rfl rfl rfl).imp fun cls d σ H' ⟨c, e1, e2, e3⟩ => by rw [e1, e2]; exact e3⟩
    have b := body cdv A outer s H E hr g p c ds e
    have st : St8 K ⟨G, H, [p]⟩ (en1K N p c ds) (L2.start N (.ref p :: ws)) G H := st_start1O l (own_k.mpr ⟨gp, us, hp, ru, nd⟩) rfl r
    refine ⟨_, pss_w, b ⟨G, H, [p]⟩ (L2.start N (.ref p :: ws)) G H st _ (wp_mono q (fun o ho e2 σ2 G2 H2 he S2 => ?_) fun c hc σ G2 H2 es => hc G2 H2 es.fr.toGrowX)⟩
    obtain ⟨_, _, _, _, kvs', h1, h2, h3⟩ := S2.es.atK he
    exact ho kvs' G2 H2 S2.es.fr.toGrowX h1 h2 h3
end
section
variable {X : Cx} {W : WN} {eE : En} {en : En} {ec : Nat → Addr} {pos : Pos} {γ δ ω α : Type} {φ : γ → En} {a b c e : Expr} {es : List Expr} {T : Bs → ω → Ends → Prop} {rest : List Stmt}
/-- f(x, ..) as a statement, x one's own dict that f may change -/
theorem xb_callKO {i : Nat} {bb : Bool} {q : Addr} {cn : KD} {x y : Str} {p py : Pos} {k n : Nat} {f : Addr} {fd : FuncData} {ps : List Str} {fm : KD → List D → R KD} {m : R (List D)} {kk : KD → R ω} (g : Go X ec W) (F : FnOk X.prog X.w X.K X.mg X.base (L2.CX X.prog X.w) k f fd ps (spKO X.K ec n fm)) (hr : Room k X.A) (hm : X.mg x = some (.ref f)) (hk : PySem.W.keepIn X.K (.ref f) = true) (hb : Binds X.K fd ps [])
    (χ : KD → En) (ha : XA X W es en m) (hln : ∀ c ds P E, wp (fm c ds) P E → ds.length = n) (hkk : ∀ o, XB X W [] rest (χ o) (kk o) T) (hy : en[i]? = some (some (.o bb q (.k cn))) := by rfl) (hχ : ∀ o, en.set i (some (.o bb q (.k o))) = χ o := by intro _; rfl)
    (hN : X.N[i]? = some y := by rfl) (hv : Vis X.env.scope y := by first | exact Or.inl rfl | exact Or.inr (Or.inl rfl) | exact Or.inr (Or.inr rfl)) (hd : (y == ("__debug__" : Str)) = false := by decide) (hcd : (y == ("__classdict__" : Str)) = false := by decide)
    (hg : Gl X x := by rfl) (hdb : (x == ("__debug__" : Str)) = false := by decide) (h1 : starEach (.Name y py :: es) X.env = (false, eval (.Name y py) X.env) :: starEach es X.env := by rfl) (h2 : (backTo pos (starEach (.Name y py :: es) X.env)).any (·.1) = false := by rfl) {pos2 : Pos} (h3 : (backTo pos (starEach es X.env)).any (·.1) = false := by rfl)
    (hs : swapsWith (.Call (.Name x p) (.Name y py :: es) [] pos) none pos2.line X.env = pure false := by first | exact swaps_no rfl | rfl) :
    XB X W [] (.Expr (.Call (.Name x p) (.Name y py :: es) [] pos) pos2 :: rest) en (m.bnd fun r => (fm cn r).bnd kk) T := fun B σ G H S D h => by
  obtain ⟨e0, _⟩ := st_atK S hy
  refine pss_to (pss_cons (ps_expr (pe_callS F hr hg hm hk hb (fun σ => passAt g.tk σ) (pa_cons (pe_var hN hv hd hcd) pa_w h1) hdb h1 h3) hs) pss_w) ⟨.ref q, e0, ha σ G H S.sl _ ?_⟩
  have h' := wp_bnd.mp h
  cases em : m with
  | ok r =>
    rw [em] at h'
    intro vs G1 H1 w1 r1
    have S1 := S.grow w1
    obtain ⟨_, gq, us, hq, ru, nd⟩ := st_atK S1 hy
    have h' := wp_bnd.mp h'
    refine ⟨G1, q, vs, us, cn, r, S1.lk, rfl, gq, hq, ru, nd, r1, hln _ _ _ _ h', wp_mono h' (fun o ho us' G2 H2 w2 h2 ru2 nd2 => ?_) fun c hc G2 H2 w2 => ⟨c, rfl, rfl, hc σ G2 H2 ?_⟩⟩
    · have S2 := S1.growXO hy w2 (own_k.mpr ⟨w2.cl q gq ⟨_, hq, trivial⟩, us', h2, ru2, nd2⟩)
      rw [hχ] at S2
      exact hkk o B σ G2 H2 S2 D ho
    · have S2 := S1.es.fr
      have hbq := S1.es.own i bb q _ hy
      refine ⟨⟨w2.up, S2.le0.trans w2.g, fun a u n eu => ?_, fun a n => w2.there a (S2.there a n), fun a n => w2.thM a (S2.thM a n), fun a n mm => w2.cl a (S2.cl a n mm) (S2.thM a mm)⟩, fun i dv e => by simp at e, fun i j b b' p p' c c' e => by simp at e, fun i b p c e => by simp at e⟩
      have na : a ≠ q := fun z => by
        subst z
        rcases hbq.any fp_top with z | z
        · exact n z
        · rw [z] at eu; cases eu
      exact w2.h a u na (S2.keep a u n eu)
  | err c =>
    rw [em] at h'
    exact fun G2 H2 w => h' σ G2 H2 ((S.grow w).es.weak wk0_nil)
  | bad => rw [em] at h'; exact h'.elim
end
end Wk
set_option maxHeartbeats 4000000
/-! Wk47: for over the keys of a dict that is data. -/
namespace Wk
open PySem PySem.Spec PyProof.Rows L2

/-- what errs is not known -/
def R.quiet {α : Type} (m : R α) : R α := match m with
  | .ok a => .ok a
  | _ => .bad
@[simp] theorem quiet_ok {α : Type} (a : α) : (R.ok a).quiet = .ok a := by exact id rfl
theorem wp_quiet {α : Type} {m : R α} {P : α → Prop} {E : Nat → Prop} (h : wp m.quiet P E) : wp m P (fun _ => False) := by
  cases m with
  | ok a => exact h
  | err c => exact h.elim
  | bad => exact h.elim
theorem upd_self {H : Hp} {a : Addr} {o : HO} (h : H a = some o) : upd H a o = H := by
  funext b
  unfold upd
  split
  · subst_vars; exact h.symm
  · rfl
/-- a dict's object -/
def IsDk (o : HO) : Prop := (∃ kvs, o = .dK kvs) ∨ ∃ kvs, o = .dT kvs
theorem IsDk.noT {o : HO} (h : IsDk o) {xs : List V} (e : o = .tup xs) : False := by
  rcases h with ⟨_, rfl⟩ | ⟨_, rfl⟩ <;> cases e
theorem IsDk.noF {o u : HO} {ob : Obj} (h : IsDk o) (e : o = .frz ob u) : False := by
  rcases h with ⟨_, rfl⟩ | ⟨_, rfl⟩ <;> cases e
theorem IsDk.pl {o : HO} (h : IsDk o) : plainO o = true := by rcases h with ⟨_, rfl⟩ | ⟨_, rfl⟩ <;> rfl
theorem IsDk.plf {o : HO} {ob : Obj} (h : IsDk o) : plainO (.frz ob o) = false := by rcases h with ⟨_, rfl⟩ | ⟨_, rfl⟩ <;> rfl
theorem IsDk.mut {o : HO} (h : IsDk o) : Mut (some o) := by rcases h with ⟨_, rfl⟩ | ⟨_, rfl⟩ <;> trivial
theorem IsDk.mu {o : HO} (h : IsDk o) : Mu o := by rcases h with ⟨_, rfl⟩ | ⟨_, rfl⟩ <;> trivial
/-- o, or o locked -/
def Lkd (o u : HO) : Prop := u = o ∨ ∃ ob, u = .frz ob o
theorem Lkd.mu {o u : HO} (h : IsDk o) (l : Lkd o u) : Mu u := by
  rcases l with rfl | ⟨_, rfl⟩
  · exact h.mu
  · trivial
theorem Lkd.rd {o u : HO} {H : Hp} {a : Addr} (l : Lkd o u) : Rd (upd H a u) a o := by
  rcases l with rfl | ⟨ob, rfl⟩
  · exact .inl upd_same
  · exact .inr ⟨ob, upd_same⟩
/-- what a locked dict may be read as -/
theorem Lkd.only {o u v : HO} {H : Hp} {a : Addr} (hd : IsDk o) (l : Lkd o u) (h : H a = some u) (r : Rd H a v) (p : plainO v = true) : v = o := by
  rcases l with rfl | ⟨ob, rfl⟩
  · rcases r with r | ⟨x, r⟩
    · rw [h] at r; cases r; rfl
    · rw [h] at r; exact (hd.noF (Option.some.inj r)).elim
  · rcases r with r | ⟨x, r⟩
    · rw [h] at r; cases r; rw [hd.plf] at p; cases p
    · rw [h] at r; cases r; rfl
section
variable {K : PySem.W.Frag} {B : Bs} {en : En} {σ : L2.St} {G H : Hp} {a : Addr} {o u u' : HO}
theorem Lk.relock (l : Lk G H) (hd : IsDk o) (lu : Lkd o u) (lu' : Lkd o u') (h : H a = some u) : Lk G (upd H a u') := by
  refine ⟨⟨fun b v p r => ?_, fun b xs r => ?_⟩, fun b n => ?_⟩
  · by_cases e : b = a
    · subst e
      rw [lu.only hd h (l.le b v p r) p]
      exact lu'.rd
    · rcases l.le b v p r with z | ⟨x, z⟩
      · exact .inl (by rw [upd_ne e]; exact z)
      · exact .inr ⟨x, by rw [upd_ne e]; exact z⟩
  · have e : b ≠ a := fun z => by
      subst z
      have := l.le.tp b xs r
      rw [h] at this
      have := Option.some.inj this
      rcases lu with rfl | ⟨_, rfl⟩
      · exact hd.noT this
      · cases this
    rw [upd_ne e]; exact l.le.tp b xs r
  · by_cases e : b = a
    · subst e; rw [upd_same] at n; cases n
    · rw [upd_ne e] at n; exact l.kn b n
theorem St8.noOwnG (s : St8 K B en σ G H) (g : G a ≠ none) : NoOwn en a := fun j b q c e m => by
  obtain ⟨v, _, _, r⟩ := s.es.at_ j _ e
  exact g (r.fpG m)
theorem St8.relAt (s : St8 K B en σ G H) (g : G a ≠ none) (i : Nat) (dv : DV) (e : en[i]? = some (some dv)) : ∃ v, σ[i]? = some (some v) ∧ RpV K G (upd H a u') v dv := by
  obtain ⟨v, e1, r⟩ := s.es.at_ i dv e
  refine ⟨v, e1, ?_⟩
  cases dv with
  | v d => exact r
  | o b2 q c => exact ⟨r.1, r.2.other (s.noOwnG g i b2 q c e)⟩
/-- locked, or let go -/
theorem St8.lockS (s : St8 K B en σ G H) (hd : IsDk o) (lu : Lkd o u) (lu' : Lkd o u') (h : H a = some u) (g : G a ≠ none) : St8 K (B.with_ G a u') en σ G (upd H a u') := by
  refine ⟨⟨⟨s.es.fr.up.relock hd lu lu' h, Le.refl _, fun b v n e => ?_, fun b n => ?_, fun b n => ?_, fun b n m => n⟩, s.relAt g, s.es.ones, fun i b q c e => ?_⟩, s.len⟩
  · have e : upd B.H0 a u' b = some v := e
    by_cases ea : b = a
    · subst ea; rw [upd_same] at e ⊢; exact e
    · rw [upd_ne ea] at e ⊢
      exact s.es.fr.keep b v (fun z => n (List.mem_filter.mpr ⟨z, by simpa using ea⟩)) e
  · by_cases ea : b = a
    · rw [ea, upd_same]; intro z; cases z
    · have n : upd B.H0 a u' b ≠ none := n
      rw [upd_ne ea] at n ⊢
      exact s.es.fr.there b n
  · by_cases ea : b = a
    · exact ⟨u', by rw [ea, upd_same], lu'.mu hd⟩
    · obtain ⟨v, x, y⟩ := n
      have x : upd B.H0 a u' b = some v := x
      rw [upd_ne ea] at x
      obtain ⟨v', x', y'⟩ := s.es.fr.thM b ⟨v, x, y⟩
      exact ⟨v', by rw [upd_ne ea]; exact x', y'⟩
  · have no' := s.noOwnG g i b q c e
    obtain ⟨h1, h2⟩ := s.es.own i b q c e
    refine ⟨?_, fun x hx => ?_⟩
    · have nq : q ≠ a := fun z => no' (by rw [← z]; exact fp_top)
      cases b with
      | true => exact List.mem_filter.mpr ⟨h1, by simpa using nq⟩
      | false =>
        show upd B.H0 a u' q = none
        rw [upd_ne nq]; exact h1
    · have na : x.1 ≠ a := fun z => no' (by rw [← z]; exact List.mem_cons_of_mem _ (List.mem_map_of_mem hx))
      rcases h2 x hx with z | z
      · exact .inl ⟨z.1, List.mem_filter.mpr ⟨z.2, by simpa using na⟩⟩
      · right
        show upd B.H0 a u' x.1 = none
        rw [upd_ne na]; exact z
theorem St8.unlockS {G4 H4 : Hp} (f : Fr8 B G4 H4) (h4 : H4 a = some u) (g4 : G4 a ≠ none) (hd : IsDk o) (lu : Lkd o u) (lu' : Lkd o u') (s : St8 K (B.with_ G4 a u') en σ G H) (g : G a ≠ none) : H a = some u' ∧ St8 K B en σ G (upd H a u) := by
  have ha : H a = some u' := s.es.fr.keep a u' (fun z => absurd (List.mem_filter.mp z).2 (by simp)) (by show upd B.H0 a u' a = _; rw [upd_same])
  refine ⟨ha, ⟨⟨⟨s.es.fr.up.relock hd lu' lu ha, f.le0.trans s.es.fr.le0, fun b v n e => ?_, fun b n => ?_, fun b n => ?_, fun b n m => ?_⟩, s.relAt g, s.es.ones, fun i b q c e => ?_⟩, s.len⟩⟩
  · by_cases ea : b = a
    · subst ea
      have := f.keep b v n e
      rw [h4] at this
      rw [upd_same]; exact this
    · rw [upd_ne ea]
      exact s.es.fr.keep b v (fun z => n (List.mem_filter.mp z).1) (by show upd B.H0 a u' b = _; rw [upd_ne ea]; exact e)
  · by_cases ea : b = a
    · rw [ea, upd_same]; intro z; cases z
    · rw [upd_ne ea]
      exact s.es.fr.there b (by show upd B.H0 a u' b ≠ _; rw [upd_ne ea]; exact n)
  · by_cases ea : b = a
    · exact ⟨u, by rw [ea, upd_same], lu.mu hd⟩
    · obtain ⟨v, x, y⟩ := n
      obtain ⟨v', x', y'⟩ := s.es.fr.thM b ⟨v, by show upd B.H0 a u' b = _; rw [upd_ne ea]; exact x, y⟩
      exact ⟨v', by rw [upd_ne ea]; exact x', y'⟩
  · have ea : b ≠ a := fun z => by rw [z] at n m; exact g4 (f.cl a n m)
    obtain ⟨v, x, y⟩ := m
    exact s.es.fr.cl b (f.cl b n ⟨v, x, y⟩) ⟨v, by show upd B.H0 a u' b = _; rw [upd_ne ea]; exact x, y⟩
  · obtain ⟨h1, h2⟩ := s.es.own i b q c e
    have un : ∀ b, upd B.H0 a u' b = none → B.H0 b = none := fun b z => by
      by_cases eq : b = a
      · rw [eq, upd_same] at z; cases z
      · rw [upd_ne eq] at z; exact z
    refine ⟨?_, fun x hx => ?_⟩
    · cases b with
      | true => exact (List.mem_filter.mp h1).1
      | false => exact un q h1
    · rcases h2 x hx with z | z
      · exact .inl ⟨z.1, (List.mem_filter.mp z.2).1⟩
      · exact .inr (un _ z)
end
def D.keysD (d : D) : Option (List D) := d.kvs.map fun m => m.map fun x => D.ofKey x.1
section
variable {X : Cx} {W : WN} {eE : En} {en : En} {ec : Nat → Addr} {pos : Pos} {α : Type}
theorem kvrp_at {K : PySem.W.Frag} {G : Hp} {κ : Type} {kvs : List (κ × V)} {m : List (κ × D)} (h : KvRp K G kvs m) {i : Nat} {k : κ} {v : V} (e : kvs[i]? = some (k, v)) : ∃ d, m[i]? = some (k, d) ∧ Rp K G v d := by
  have h1 := congrArg (fun l => l[i]?) h.1
  simp only [List.getElem?_map, e, Option.map_some] at h1
  cases hm : m[i]? with
  | none => rw [hm] at h1; cases h1
  | some x =>
    rw [hm] at h1
    have h1 := Option.some.inj h1
    have e2 : (kvs.map (·.2))[i]? = some v := by rw [List.getElem?_map, e]; rfl
    obtain ⟨d, e3, r⟩ := h.2.getV e2
    rw [List.getElem?_map, hm] at e3
    have e3 := Option.some.inj e3
    obtain ⟨x1, x2⟩ := x
    have h1 : k = x1 := h1
    have e3 : x2 = d := e3
    subst h1
    subst e3
    exact ⟨_, rfl, r⟩
def keysOf (m : KD) : List Wk.D := m.map fun x => D.ofKey x.1
/-- the loop, the dict locked -/
theorem for_keys {i : Nat} {body : List Stmt} {L : α → En → Prop} {step : α → Wk.D → R α} {a0 : α} {e0 : En} {d : Addr} {ob : Obj} {kvs : List (Key × V)} {m : KD} {D : Ends} (h0 : L a0 e0) (w0 : Wkn e0 en)
    (hb : ∀ a e d, L a e → XB X W eE body (e.set i (some (.v d))) (step a d) (TN X.K L)) {B : Bs} {σ : L2.St} {G H : Hp} (S : St8 X.K B en σ G H) (hB : B.H0 d = some (.frz ob (.dK kvs))) (hio : d ∉ B.io) (hk : KvRp X.K G kvs m)
    (q : wp (foldR step a0 (keysOf m)) (fun a => TN X.K L B a D) (fun _ => False)) :
    ∃ W' : Nat → Nat → L2.St → Hp → Prop, (∃ n, W' 0 n σ H) ∧ ∀ j n σ' H', W' j n σ' H' → ((Itk d ob kvs).stop j H' ∧ D.nx σ' H') ∨ ((Itk d ob kvs).go j H' ∧ ∃ Nx : L2.St → Hp → Prop, (∀ σ3 H3, Nx σ3 H3 → ∃ n', n' < n ∧ W' (j + 1) n' σ3 H3) ∧ ∀ xv H4, (Itk d ob kvs).yld j H' xv H4 → gName i xv σ' H4 fun σ5 H5 => wB X body { D with nx := Nx, ct := Nx, bk := D.nx } σ5 H5) := by
  have hlen : kvs.length = (keysOf m).length := by unfold keysOf; rw [List.length_map]; exact hk.len
  refine ⟨fun j n σ' H' => n = kvs.length - j ∧ ∃ a e G', L a e ∧ St8 X.K B e σ' G' H' ∧ j ≤ kvs.length ∧ wp (foldR step a ((keysOf m).drop j)) (fun a => TN X.K L B a D) (fun _ => False), ⟨_, rfl, a0, e0, G, h0, S.weak w0, Nat.zero_le _, q⟩, ?_⟩
  rintro j n σ' H' ⟨rfl, a, e, G', hL', S', hj, p⟩
  have hd' : H' d = some (.frz ob (.dK kvs)) := S'.es.fr.keep d _ hio hB
  by_cases hlt : j < kvs.length
  · have hlt2 : j < (keysOf m).length := by omega
    rw [List.drop_eq_getElem_cons hlt2] at p
    refine .inr ⟨⟨hd', hlt⟩, fun σ3 H3 => ∃ a e G3, L a e ∧ St8 X.K B e σ3 G3 H3 ∧ wp (foldR step a ((keysOf m).drop (j + 1))) (fun a => TN X.K L B a D) (fun _ => False), fun σ3 H3 ⟨a3, e3, G3, h1, h2, h4⟩ => ⟨kvs.length - (j + 1), by omega, rfl, a3, e3, G3, h1, h2, hlt, h4⟩, fun xv H4 y => ?_⟩
    obtain ⟨rfl, k, v, e1, rfl⟩ := y
    obtain ⟨dd, e2, _⟩ := kvrp_at hk e1
    have e3 : (keysOf m)[j] = Wk.D.ofKey k := by
      have : (keysOf m)[j]? = some (Wk.D.ofKey k) := by unfold keysOf; rw [List.getElem?_map, e2]; rfl
      rw [List.getElem?_eq_getElem hlt2] at this
      exact Option.some.inj this
    rw [e3] at p
    have p' := wp_bnd.mp p
    refine tg_name B e σ' G' _ S' (Wk.D.ofKey k) (kV k) _ rp_ofKey rfl _ fun σ5 S5 => ?_
    exact hb a e _ hL' B σ5 G' _ S5 _ (wp_mono p' (fun a6 ho e6 σ6 G6 H6 hL6 S6 => ⟨a6, e6, G6, hL6, S6, ho⟩) fun _ z => z.elim)
  · have ej : j = kvs.length := by omega
    subst ej
    rw [hlen, List.drop_length] at p
    exact .inl ⟨⟨hd', Nat.le_refl _⟩, p e σ' G' H' hL' S'⟩
/-- for x in y: y a dict that is data -/
theorem xs_forK {i j : Nat} {x y : Str} {p py : Pos} {dd : Wk.D} {body : List Stmt} {L : α → En → Prop} {step : α → Wk.D → R α} {a0 : α} {e0 : En} (Gx : Go X ec W) (h0 : L a0 e0) (w0 : Wkn e0 en)
    (hb : ∀ a e d, L a e → XB X W eE body (e.set i (some (.v d))) (step a d) (TN X.K L)) (hj : en[j]? = some (some (.v dd)) := by rfl) (hN : X.N[i]? = some x := by rfl) (hx : Loc X.env.scope x := by first | exact Or.inl rfl | exact Or.inr rfl) (hf : X.fn x = true ∨ X.env.scope.names.lookup x = some .local := by first | exact .inl rfl | exact .inr rfl)
    (hNy : X.N[j]? = some y := by rfl) (hv : Vis X.env.scope y := by first | exact Or.inl rfl | exact Or.inr (Or.inl rfl) | exact Or.inr (Or.inr rfl)) (hdb : (y == ("__debug__" : Str)) = false := by decide) (hcd : (y == ("__classdict__" : Str)) = false := by decide)
    (hs : ∀ x, foldedSetIterable (.Name y py) X.env x = pure x := by intro _; rfl) : XS X W eE (.For (.Name x p) (.Name y py) body [] pos) en ((R.of (D.kvs dd)).bnd fun m => (foldR step a0 (keysOf m)).quiet) (TN X.K L) := fun B σ G H S D q => by
  obtain ⟨m, em, q⟩ := wp_of (wp_bnd.mp q)
  have q := wp_quiet q
  obtain ⟨v, e1, r⟩ := S.es.at_ j _ hj
  obtain ⟨d, kvs, rfl, rd, hk, nd⟩ := rp_kvs r em
  have hdk : IsDk (.dK kvs) := .inl ⟨_, rfl⟩
  have gd : G d ≠ none := by rcases rd with z | ⟨_, z⟩ <;> (rw [z]; intro y; cases y)
  have rdH := S.es.fr.up.rdK rd
  have run : ∀ (ob : Obj) (u : HO) (D2 : Ends), H d = some u → Lkd (.dK kvs) u → (∀ (σ2 : L2.St) (H2 : Hp), H2 d = some (.frz ob (.dK kvs)) → D.nx σ2 (upd H2 d u) → D2.nx σ2 H2) →
      tFor (iKeys (tVar j)) (gName i) (wB X body) D2 σ (upd H d (.frz ob (.dK kvs))) := fun ob u D2 hu lu hD2 => by
    refine ⟨_, e1, d, ob, rfl, .inl ⟨kvs, upd_same, ?_⟩⟩
    refine for_keys (D := D2) h0 w0 hb (S.lockS hdk lu (.inr ⟨ob, rfl⟩) hu gd) (by show upd B.H0 d _ d = _; rw [upd_same]) (fun z => absurd (List.mem_filter.mp z).2 (by simp)) hk ?_
    refine wp_mono q (fun a ha e2 σ2 G2 H2 hL2 S2 => ?_) fun _ z => z
    have g2 : G2 d ≠ none := by
      have := S2.es.fr.le0 _ _ rfl rd
      rcases this with z | ⟨_, z⟩ <;> (rw [z]; intro y; cases y)
    obtain ⟨hl, S3⟩ := St8.unlockS S.es.fr hu gd hdk lu (.inr ⟨ob, rfl⟩) S2 g2
    exact hD2 σ2 H2 hl (ha e2 σ2 G2 _ hL2 S3)
  rcases rdH with z | ⟨ob, z⟩
  · exact ps_to (ps_lock (ps_for Gx.po Gx.calm (pi_keys (pe_var hNy hv hdb hcd)) (pg_name Gx.nd hN hx hf) pss_w hs)) ⟨d, _, z, trivial, fun ob => run ob _ _ z (.inl rfl) fun σ2 H2 h1 h2 => ⟨h1, h2⟩⟩
  · have e2 := run ob _ D z (.inr ⟨ob, rfl⟩) fun σ2 H2 h1 h2 => by rw [upd_self h1] at h2; exact h2
    rw [upd_self z] at e2
    exact ps_to (ps_for Gx.po Gx.calm (pi_keys (pe_var hNy hv hdb hcd)) (pg_name Gx.nd hN hx hf) pss_w hs) e2
end
end Wk
set_option maxHeartbeats 4000000
/-! Wk48: dict(..), the least and the greatest key. -/
namespace Wk
open PySem PySem.Spec PyProof.Rows L2

def NewK (K : PySem.W.Frag) (G H : Hp) (kd : KD) (Q : VK) : Prop := ∀ p kvs G2 H2, Grow G H G2 H2 → H p = none → G2 p = none → H2 p = some (.dK kvs) → KvRp K G2 kvs kd → (kd.map (·.1)).Nodup → Q (.ref p) H2
def CallK (K : PySem.W.Frag) (r : List V → Hp → VK → Prop) (f : List D → Option KD) : Prop := ∀ G H xs ds d, Lk G H → RpAll K G xs ds → f ds = some d → ∀ Q : VK, NewK K G H d Q → r xs H Q
theorem NewK.up {K : PySem.W.Frag} {G H G1 H1 : Hp} {ds : KD} {Q : VK} (w : Grow G H G1 H1) (h : NewK K G H ds Q) : NewK K G1 H1 ds Q := fun p vs G2 H2 w2 hp gp e r nd =>
  h p vs G2 H2 (w.trans w2) (Option.eq_none_iff_forall_ne_some.mpr fun o z => by rw [w.h p o z] at hp; cases hp) gp e r nd
theorem newK {K : PySem.W.Frag} {G H : Hp} {Q : VK} {kd : KD} {kvs : List (Key × V)} {p : Addr} (l : Lk G H) (hp : H p = none) (r : KvRp K G kvs kd) (nd : (kd.map (·.1)).Nodup) (q : NewK K G H kd Q) : Q (.ref p) (upd H p (.dK kvs)) :=
  q p kvs G _ (Grow.own l hp) hp (l.kn p hp) upd_same r nd
section
variable {X : Cx} {W : WN} {eE : En} {en : En} {ec : Nat → Addr} {pos : Pos} {γ δ ω α : Type} {φ : γ → En} {a b c e o i : Expr} {es : List Expr} {ma mb mc mo mi mx : R D} {T : Bs → ω → Ends → Prop} {rest : List Stmt}
theorem xk_callTy {x : Str} {id : String} {e : Expr} {es : List Expr} {r : List V → Hp → VK → Prop} {f : List D → Option KD} {ms : R (List D)} {p : Pos} (hc : CallR X (.type id) r) (hf : CallK X.K r f) (hg : Gl X x) (hm : X.mg x = none) (hv : bootBuiltins x = some (.type id))
    (ha : XA X W (e :: es) en ms) (hn : x ≠ "__name__" := by decide) (hdb : (x == ("__debug__" : Str)) = false := by decide) (h1 : starEach (e :: es) X.env = (false, eval e X.env) :: starEach es X.env := by rfl) (h2 : (backTo pos (starEach es X.env)).any (·.1) = false := by rfl) :
    XK X W (.Call (.Name x p) (e :: es) [] pos) en (ms.bnd fun ds => R.of (f ds)) := fun σ G H S Q h => by
  refine pe_to (pe_callTy hc hg hm hv pa_w hn hdb h1 h2) (ha σ G H S _ (wp_mono (wp_bnd.mp h) (fun ds hd vs G1 H1 w1 r1 => ?_) fun _ z => z))
  obtain ⟨d, e, hd⟩ := wp_of hd
  exact hf G1 H1 vs ds d w1.up r1 e Q (NewK.up w1 hd)
/-! dict(xs), xs a tuple of pairs whose object is known -/
def rDictX (K : PySem.W.Frag) : List V → Hp → VK → Prop := fun xs H Q => ∃ (a : Addr) (ob : Obj) (ps : List Addr) (kvs : List (Key × V)), xs = [.ref a] ∧ SqT K H a (ps.map V.ref) ∧ (Rd H a (.frz ob (.tup (ps.map V.ref))) ∨ K.lookup a = some ob) ∧ ob.cls = .type "tuple" ∧ ob.dict = none ∧ Paired (fun p kv => SqT K H p [kV kv.1, kv.2]) ps kvs ∧
    ∀ p, H p = none → Q (.ref p) (upd H p (.dK (mergeK [] kvs)))
theorem call_dictPX (hcalm : X.calm = true) : CallR X (.type "dict") (rDictX X.K) := fun pins s σ H xs us Q I r q => by
  obtain ⟨a, ob, ps, kvs, rfl, hr, hx, hcl, hdn, hp, q⟩ := q
  obtain ⟨u, rfl, ru⟩ := vals1 r
  cases ru
  have hob : s.heap.get? a = some ob := by
    rcases hx with (z | ⟨u, z⟩) | z
    · exact (I.hok a _ z).1
    · exact (I.hok a _ z).2.1
    · exact I.kIn a ob z
  obtain ⟨its, rv, ⟨o2, ho2, _, n, hdat⟩, hz⟩ := I.tuple hr
  rw [hob] at ho2
  have ho2 := Option.some.inj ho2
  subst ho2
  have ei := refs_at rv
  subst ei
  rw [List.length_map] at hz
  obtain ⟨prs, rel, hl, hpr⟩ := pairs_of I hp
  have key : ∀ (j : Nat) (q : Key × Value), prs[j]? = some q → ∃ u, keyIs q.1 u = true ∧ ps[j]?.isSome = true ∧ IsTup s.heap (ps.getD j 0) #[u, q.2] := fun j q e => by
    obtain ⟨b, u, e1, e2, e3⟩ := hpr j q e
    refine ⟨u, e3, by rw [e1]; rfl, ?_⟩
    rw [List.getD_eq_getElem?_getD, e1]; exact e2
  have kk : ∀ j : Nat, ∃ u, ∀ q, prs[j]? = some q → keyIs q.1 u = true ∧ IsTup s.heap (ps.getD j 0) #[u, q.2] := fun j => by
    cases e : prs[j]? with
    | none => exact ⟨.none, fun q z => by cases z⟩
    | some q => obtain ⟨u, h1, _, h3⟩ := key j q e; exact ⟨u, fun q' z => by cases z; exact ⟨h1, h3⟩⟩
  obtain ⟨uf, huf⟩ := Classical.axiomOfChoice kk
  let pv : List (Value × Value) := prs.zipIdx.map fun x => (uf x.2, x.1.2)
  have pvl : pv.length = prs.length := by simp [pv]
  have pva : ∀ (j : Nat) k v, pv[j]? = some (k, v) → ∃ q, prs[j]? = some q ∧ k = uf j ∧ v = q.2 := fun j k v e => by
    simp only [pv, List.getElem?_map, List.getElem?_zipIdx, Option.map_map] at e
    obtain ⟨q, h1, h2⟩ := Option.map_eq_some_iff.mp e
    simp at h2
    exact ⟨q, h1, h2.1.symm, h2.2.symm⟩
  refine PySem.call_dict_pairs (knd := mixKind X.prog X.w) (kvs := prs) (PairArg.tuple a (ps.map Value.ref).toArray (fun j => ps.getD j 0) pv) (I.ok.hd hcalm) ⟨⟨ob, n, hob, hcl, hdn, hdat⟩, by simp [pvl, hl], fun j k v e => ?_⟩ ⟨pvl.symm, fun j key v e => ?_⟩ (by rw [pvl, hl]; exact hz) fun h' tk hd' k => ?_
  · obtain ⟨q, h1, rfl, rfl⟩ := pva j k v e
    have hj : j < ps.length := by rw [← hl]; exact (List.getElem?_eq_some_iff.mp h1).1
    refine ⟨?_, .inl (huf j q h1).2⟩
    simp [hj]
  · obtain ⟨q, h1, rfl, rfl⟩ := pva j key v e
    exact ⟨q.1, h1, (huf j q h1).1⟩
  · have hm : (s.heap.objs.size == sysModules) = false := beq_eq_false_iff_ne.mpr (Nat.ne_of_gt I.big)
    have hlen : (mergeK [] kvs).length ≤ sizeLine := by
      refine Nat.le_trans (length_mergeK kvs []) ?_
      rw [List.length_nil, Nat.zero_add, rel.length, hl]
      exact hz
    have ok : ObjOk X.prog X.w (upd H s.heap.objs.size (.dK (mergeK [] kvs))) h' s.heap.objs.size (.dK (mergeK [] kvs)) := ⟨hlen, hm, merged [] prs, KV.merge rel .nil, hd'⟩
    exact ⟨.ref s.heap.objs.size, upd H s.heap.objs.size (.dK (mergeK [] kvs)), I.laid (t' := tk) (fun b o => k b o (by simp)) (Nat.le_refl _) ok, rfl, q _ (I.hok.fresh (Nat.le_refl _))⟩
/-- the pairs told by data -/
def D.pair : D → Option (Key × D)
  | .tup [x, y] => x.key.map fun k => (k, y)
  | .tux [x, y] => x.key.map fun k => (k, y)
  | _ => none
def D.pairs : List D → Option KD
  | [] => some []
  | x :: r => x.pair.bind fun p => (D.pairs r).map fun q => p :: q
def D.toDict : List D → Option KD
  | [.dK ks ds] => some (ks.zip ds)
  | [.lst ps] => (D.pairs ps).map fun m => kvMerge [] m
  | [.tux ps] => (D.pairs ps).map fun m => kvMerge [] m
  | _ => none
theorem pair_rp {K : PySem.W.Frag} {G : Hp} {x : D} {v : V} {k : Key} {d : D} (r : Rp K G v x) (e : x.pair = some (k, d)) : ∃ p w, v = .ref p ∧ SqT K G p [kV k, w] ∧ Rp K G w d := by
  unfold D.pair at e
  split at e
  · obtain ⟨k', e1, e2⟩ := Option.map_eq_some_iff.mp e
    cases e2
    cases r with
    | tup h1 h2 =>
      cases h2 with
      | cons ra rb =>
        cases rb with
        | cons rc rd =>
          cases rd
          have := rp_key ra e1
          subst this
          exact ⟨_, _, rfl, h1, rc⟩
  · obtain ⟨k', e1, e2⟩ := Option.map_eq_some_iff.mp e
    cases e2
    cases r with
    | tux h1 h2 =>
      cases h2 with
      | cons ra rb =>
        cases rb with
        | cons rc rd =>
          cases rd
          have := rp_key ra e1
          subst this
          exact ⟨_, _, rfl, .inl h1.1, rc⟩
  · cases e
theorem pairs_rp {K : PySem.W.Frag} {G H : Hp} (l : Lk G H) : ∀ {ps : List D} {vs : List V} {m : KD}, RpAll K G vs ps → D.pairs ps = some m → ∃ as kvs, vs = as.map V.ref ∧ Paired (fun p (kv : Key × V) => SqT K H p [kV kv.1, kv.2]) as kvs ∧ KvRp K G kvs m
  | [], vs, m, r, e => by
    cases r
    cases e
    exact ⟨[], [], rfl, .nil, rfl, .nil⟩
  | x :: ps, vs, m, r, e => by
    obtain ⟨⟨k, d⟩, e1, e2⟩ := Option.bind_eq_some_iff.mp e
    obtain ⟨m', e3, rfl⟩ := Option.map_eq_some_iff.mp e2
    cases r with
    | cons ra rb =>
      obtain ⟨p, w, rfl, h1, h2⟩ := pair_rp ra e1
      obtain ⟨as, kvs, rfl, h3, h4⟩ := pairs_rp l rb e3
      exact ⟨p :: as, (k, w) :: kvs, rfl, .cons (l.le.seqT h1) h3, kvrp_cons.mpr ⟨rfl, h2, h4⟩⟩
def rDictA (K : PySem.W.Frag) : List V → Hp → VK → Prop := fun xs H Q => ((∃ (a : Addr) (kvs : List (Key × V)), xs = [.ref a] ∧ Rd H a (.dK kvs) ∧ ∀ p, H p = none → Q (.ref p) (upd H p (.dK kvs))) ∨
  (∃ (a : Addr) (ps : List Addr) (kvs : List (Key × V)), xs = [.ref a] ∧ SqL K H a (ps.map V.ref) ∧ Paired (fun p kv => SqT K H p [kV kv.1, kv.2]) ps kvs ∧ ∀ p, H p = none → Q (.ref p) (upd H p (.dK (mergeK [] kvs))))) ∨ rDictX K xs H Q
theorem cr_dictA (hc : X.calm = true) : CallR X (.type "dict") (rDictA X.K) := (call_dictD.or (call_dictP hc)).or (call_dictPX hc)
theorem d_dictA {K : PySem.W.Frag} : CallK K (rDictA K) D.toDict := fun G H xs ds d l r e Q q => by
  unfold D.toDict at e
  split at e
  · rename_i ks ds'
    cases e
    cases r with
    | cons ra rb =>
      cases rb
      obtain ⟨a, kvs, rfl, h1, h2, h3⟩ := rp_kvs ra rfl
      exact .inl (.inl ⟨a, kvs, rfl, l.rdK h1, fun p hp => newK l hp h2 h3 q⟩)
  · obtain ⟨m, e1, rfl⟩ := Option.map_eq_some_iff.mp e
    cases r with
    | cons ra rb =>
      cases rb
      cases ra with
      | lst h1 h2 =>
        obtain ⟨as, kvs, rfl, h3, h4⟩ := pairs_rp l h2 e1
        exact .inl (.inr ⟨_, as, kvs, rfl, .inl (l.le _ _ rfl h1), h3, fun p hp => newK l hp (KvRp.merge (m := []) h4 ⟨rfl, .nil⟩ .nil) (kvMerge_nd (m := []) .nil) q⟩)
  · obtain ⟨m, e1, rfl⟩ := Option.map_eq_some_iff.mp e
    cases r with
    | cons ra rb =>
      cases rb
      cases ra with
      | tux h1 h2 =>
        obtain ⟨as, kvs, rfl, h3, h4⟩ := pairs_rp l h2 e1
        obtain ⟨h1a, ob, h1b, h1c, h1d⟩ := h1
        exact .inr ⟨_, ob, as, kvs, rfl, .inl (l.le _ _ rfl h1a), .inl (l.le _ _ rfl h1b), h1c, h1d, h3, fun p hp => newK l hp (KvRp.merge (m := []) h4 ⟨rfl, .nil⟩ .nil) (kvMerge_nd (m := []) .nil) q⟩
  · cases e
/-! min(x), max(x) of a dict's keys -/
def rBestK (up : Bool) : List V → Hp → VK → Prop := fun vs H Q => ∃ (a : Addr) (kvs : List (Key × V)) (is : List Int), vs = [V.ref a] ∧ Rd H a (.dK kvs) ∧ kvs.map (·.1) = is.map Sum.inl ∧ is ≠ [] ∧ ∀ m, m ∈ is → (∀ j ∈ is, if up = true then j ≤ m else m ≤ j) → Q (.int m) H
theorem cr_bestK (up : Bool) (hc : X.calm = true) : CallR X (.builtin (if up = true then "max" else "min")) (rBestK up) := fun pins s σ H vs us Q I r h => by
  obtain ⟨a, kvs, is, rfl, ha, hv, hne, q⟩ := h
  obtain ⟨u, rfl, ru⟩ := vals1 r
  cases ru
  obtain ⟨_, hsys, xs, rel, dof⟩ := dk_rd I.hok ha
  obtain ⟨ep, dat⟩ := dof.dictAt
  have hlt : a < s.heap.objs.size := by obtain ⟨_, _, z, _⟩ := dat; exact Heap.lt_size z
  have hkeys : xs.map (·.1) = is.map Sum.inl := by rw [← KV.keys rel]; exact hv
  have hl : xs.length = is.length := by simpa using congrArg List.length hkeys
  have hpos : 0 < xs.length := by rw [hl]; exact List.length_pos_iff.mpr hne
  have isint : ∀ (j : Nat) (v : Value), (∃ k x, xs[j]? = some (k, x) ∧ (mixKind X.prog X.w).is k v = true) → ∃ t, v = Value.int (is.getD j 0) t := by
    rintro j v ⟨k, x, h1, h2⟩
    have h3 := congrArg (fun l => l[j]?) hkeys
    simp only [List.getElem?_map, h1, Option.map_some] at h3
    obtain ⟨n, h4, h5⟩ := Option.map_eq_some_iff.mp h3.symm
    subst h5
    obtain ⟨t, rfl⟩ := Value.isInt_shape (k := n) (v := v) h2
    exact ⟨t, by rw [List.getD_eq_getElem?_getD, h4]; rfl⟩
  have fin : ∀ (b : Nat) (h' : Heap) (tk : Nat) (t : Tok), b < is.length → (∀ j, j < is.length → if up = true then is.getD j 0 ≤ is.getD b 0 else is.getD b 0 ≤ is.getD j 0) → (∀ c o, c ∉ [s.heap.objs.size] → s.heap.get? c = some o → h'.get? c = some o) → EP X pins σ Q (Value.int (is.getD b 0) t) { s with heap := h', toks := tk } := fun b h' tk t hb hbest hk => by
    refine ⟨.int _, H, I.kept (t' := tk) fun c o z => hk c o (fun m => ?_) z, ⟨t, rfl⟩, q _ ?_ fun j hj => ?_⟩
    · rw [List.mem_singleton.mp m] at z
      exact absurd (Heap.lt_size z) (Nat.lt_irrefl _)
    · rw [List.getD_eq_getElem?_getD, List.getElem?_eq_getElem hb]; exact List.getElem_mem hb
    · obtain ⟨n, hn, rfl⟩ := List.mem_iff_getElem.mp hj
      have := hbest n hn
      have e : is.getD n 0 = is[n] := by rw [List.getD_eq_getElem?_getD, List.getElem?_eq_getElem hn]; rfl
      rw [e] at this; exact this
  have dk := Walks.dictKeys (knd := mixKind X.prog X.w) (A := X.A.in1) (I.ok.hd hc) s.heap.objs.size a (Nat.ne_of_lt hlt) xs ep
  cases up with
  | true =>
    refine call_max_walk (wpAny_pyIter_dict (knd := mixKind X.prog X.w) hsys dat ⟨_, _, _, _, _, _, _, rfl, dk, ⟨⟨_, Heap.get?_push_size _ rfl, rfl, rfl⟩, dat.keep fun b u e => Heap.get?_push_of_some _ e⟩, fun b hb => ?_, hpos, CmpOf.ints_gt (fun i => is.getD i 0) isint, fun v h' tk hP hk => ?_⟩)
    · show b < (s.heap.push _).objs.size
      rw [Heap.size_push]
      rcases List.mem_cons.mp hb with e | hb
      · rw [e]; exact Nat.lt_succ_self _
      · rw [List.mem_singleton.mp hb]; exact Nat.lt_succ_of_lt hlt
    · obtain ⟨t, rfl⟩ := isint _ v hP
      obtain ⟨b1, b2⟩ := argBest_gt (fun i => is.getD i 0) (xs.length - 1)
      exact fin _ h' tk t (by omega) (fun j hj => by rw [if_pos rfl]; exact b2 j (by omega)) fun c o m z => hk c o m (Heap.get?_push_of_some _ z)
  | false =>
    refine call_min_walk (wpAny_pyIter_dict (knd := mixKind X.prog X.w) hsys dat ⟨_, _, _, _, _, _, _, rfl, dk, ⟨⟨_, Heap.get?_push_size _ rfl, rfl, rfl⟩, dat.keep fun b u e => Heap.get?_push_of_some _ e⟩, fun b hb => ?_, hpos, CmpOf.ints_lt (fun i => is.getD i 0) isint, fun v h' tk hP hk => ?_⟩)
    · show b < (s.heap.push _).objs.size
      rw [Heap.size_push]
      rcases List.mem_cons.mp hb with e | hb
      · rw [e]; exact Nat.lt_succ_self _
      · rw [List.mem_singleton.mp hb]; exact Nat.lt_succ_of_lt hlt
    · obtain ⟨t, rfl⟩ := isint _ v hP
      obtain ⟨b1, b2⟩ := argBest_lt (fun i => is.getD i 0) (xs.length - 1)
      exact fin _ h' tk t (by omega) (fun j hj => by rw [if_neg (by simp)]; exact b2 j (by omega)) fun c o m z => hk c o m (Heap.get?_push_of_some _ z)
def D.bestK (up : Bool) : List D → Option D
  | [x] => x.kvs.bind fun m => (keyI (m.map (·.1))).bind fun is => if is = [] then none else some (.int (if up = true then maxI is else minI is))
  | _ => none
theorem d_bestK {K : PySem.W.Frag} (up : Bool) : CallD K (rBestK up) (D.bestK up) := fun G H xs ds d l r e Q q => by
  unfold D.bestK at e
  split at e
  · obtain ⟨m, e1, e2⟩ := Option.bind_eq_some_iff.mp e
    obtain ⟨is, e3, e4⟩ := Option.bind_eq_some_iff.mp e2
    split at e4
    · cases e4
    · rename_i hne
      cases e4
      cases r with
      | cons a b =>
        cases b
        obtain ⟨p, kvs, rfl, h1, h2, h3⟩ := rp_kvs a e1
        refine ⟨p, kvs, is, rfl, l.rdK h1, h2.1.trans (keyI_map e3), hne, fun n hn hb => ?_⟩
        have : n = if up = true then maxI is else minI is := by
          cases up with
          | true =>
            obtain ⟨z1, z2⟩ := maxI_is hne
            rw [if_pos rfl]
            exact Int.le_antisymm (z2 n hn) (hb _ z1)
          | false =>
            obtain ⟨z1, z2⟩ := minI_is hne
            rw [if_neg (by simp)]
            exact Int.le_antisymm (hb _ z1) (z2 n hn)
        rw [this]
        exact keepQ l q (.int _)
  · cases e
end
end Wk
set_option maxHeartbeats 4000000
/-! Wk49: a list of lists, all of one's own. -/
namespace Wk
open PySem PySem.Spec PyProof.Rows L2

def OO.n (as : List Addr) (dss : List (List D)) : OO := ⟨.rl as dss.length, as.zip (dss.map Cell.l)⟩
theorem zip_fst' {α β : Type} : ∀ {as : List α} {bs : List β}, as.length = bs.length → (as.zip bs).map (·.1) = as
  | [], [], _ => rfl
  | a :: as, b :: bs, h => by rw [List.zip_cons_cons, List.map_cons, zip_fst' (by simpa using h)]
theorem fp_n {p : Addr} {as : List Addr} {dss : List (List D)} (h : as.length = dss.length) : (OO.n as dss).fp p = p :: as := by
  show p :: (as.zip (dss.map Cell.l)).map (·.1) = _
  rw [zip_fst' (by rw [List.length_map]; exact h)]
theorem zip_mem {α β : Type} {as : List α} {bs : List β} {x : α × β} (h : x ∈ as.zip bs) : ∃ i : Nat, as[i]? = some x.1 ∧ bs[i]? = some x.2 := by
  obtain ⟨i, hi, e⟩ := List.mem_iff_getElem.mp h
  rw [List.getElem_zip] at e
  rw [List.length_zip] at hi
  refine ⟨i, ?_, ?_⟩
  · rw [List.getElem?_eq_getElem (by omega), ← e]
  · rw [List.getElem?_eq_getElem (by omega), ← e]
theorem mem_zip {α β : Type} {as : List α} {bs : List β} {i : Nat} {a : α} {b : β} (h1 : as[i]? = some a) (h2 : bs[i]? = some b) : (a, b) ∈ as.zip bs := by
  refine List.mem_iff_getElem?.mpr ⟨i, ?_⟩
  rw [List.getElem?_zip_eq_some]
  exact ⟨h1, h2⟩
section
variable {K : PySem.W.Frag} {G H G2 H2 : Hp}
theorem own_n {p : Addr} {as : List Addr} {dss : List (List D)} : OwnRp K G H p (OO.n as dss) ↔ (p :: as).Nodup ∧ as.length = dss.length ∧ G p = none ∧ H p = some (.lst (as.map V.ref)) ∧ ∀ (i : Nat) (a : Addr) (ds : List D), as[i]? = some a → dss[i]? = some ds → Cl K G H a (.l ds) := by
  constructor
  · rintro ⟨h1, ⟨g, o, e, rfl, hl⟩, h3⟩
    rw [fp_n hl] at h1
    exact ⟨h1, hl, g, e, fun i a ds ea ed => h3 _ (mem_zip ea (by rw [List.getElem?_map, ed]; rfl))⟩
  · rintro ⟨h1, hl, g, e, h3⟩
    refine ⟨by rw [fp_n hl]; exact h1, ⟨g, _, e, rfl, hl⟩, fun x hx => ?_⟩
    obtain ⟨i, e1, e2⟩ := zip_mem hx
    rw [List.getElem?_map] at e2
    obtain ⟨ds, e3, e4⟩ := Option.map_eq_some_iff.mp e2
    rw [← e4]
    exact h3 i _ ds e1 e3
/-! what one owns is known from now on -/
noncomputable def knowS (G H : Hp) (A : List Addr) : Hp := fun a => if a ∈ A then H a else G a
theorem knowS_in {A : List Addr} {a : Addr} (h : a ∈ A) : knowS G H A a = H a := if_pos h
theorem knowS_out {A : List Addr} {a : Addr} (h : a ∉ A) : knowS G H A a = G a := if_neg h
theorem Le.knowS {A : List Addr} (hA : ∀ a ∈ A, G a = none) : Le G (knowS G H A) := Le.of fun a o e => by
  rw [knowS_out (fun z => by rw [hA a z] at e; cases e)]; exact e
theorem Lk.knowS {A : List Addr} (l : Lk G H) (hA : ∀ a ∈ A, H a ≠ none) : Lk (knowS G H A) H := by
  refine ⟨⟨fun a u pu ru => ?_, fun a xs r => ?_⟩, fun a n => ?_⟩
  · by_cases m : a ∈ A
    · rcases ru with z | ⟨x, z⟩
      · rw [knowS_in m] at z; exact .inl z
      · rw [knowS_in m] at z; exact .inr ⟨x, z⟩
    · refine l.le a u pu ?_
      rcases ru with z | ⟨x, z⟩
      · rw [knowS_out m] at z; exact .inl z
      · rw [knowS_out m] at z; exact .inr ⟨x, z⟩
  · by_cases m : a ∈ A
    · rw [knowS_in m] at r; exact r
    · rw [knowS_out m] at r; exact l.le.tp a xs r
  · rw [knowS_out (fun z => hA a z n)]; exact l.kn a n
theorem OwnRp.knowS {q : Addr} {c : OO} {A : List Addr} (h : OwnRp K G H q c) (hA : ∀ a ∈ A, G a = none) (n : ∀ a ∈ A, a ∉ c.fp q) : OwnRp K (knowS G H A) H q c :=
  h.go (Le.knowS hA) (fun a m u e => e) fun a m => by rw [knowS_out (fun z => n a z m)]; exact h.fpG m
/-- forget it again -/
noncomputable def hidS (G : Hp) (A : List Addr) : Hp := fun a => if a ∈ A then none else G a
theorem hidS_in {A : List Addr} {a : Addr} (h : a ∈ A) : hidS G A a = none := if_pos h
theorem hidS_out {A : List Addr} {a : Addr} (h : a ∉ A) : hidS G A a = G a := if_neg h
theorem Grow.hidS {A : List Addr} (hA : ∀ a ∈ A, G a = none ∧ Mt H a) (w : Grow (knowS G H A) H G2 H2) : Grow G H (hidS G2 A) H2 := by
  have l := Le.knowS (H := H) fun a m => (hA a m).1
  refine ⟨⟨fun a u pu ru => ?_, fun a xs ru => ?_⟩, ⟨⟨fun a u pu ru => ?_, fun a xs ru => ?_⟩, fun a n => ?_⟩, w.h, fun a n m => ?_⟩
  · have na : a ∉ A := fun z => by
      rcases ru with y | ⟨_, y⟩ <;> (rw [(hA a z).1] at y; cases y)
    rcases w.g a u pu (l a u pu ru) with z | ⟨x, z⟩
    · exact .inl (by rw [hidS_out na]; exact z)
    · exact .inr ⟨x, by rw [hidS_out na]; exact z⟩
  · have na : a ∉ A := fun z => by rw [(hA a z).1] at ru; cases ru
    rw [hidS_out na]; exact w.g.tp a xs (l.tp a xs ru)
  · have na : a ∉ A := fun z => by
      rcases ru with y | ⟨_, y⟩ <;> (rw [hidS_in z] at y; cases y)
    refine w.up.le a u pu ?_
    rcases ru with z | ⟨x, z⟩
    · rw [hidS_out na] at z; exact .inl z
    · rw [hidS_out na] at z; exact .inr ⟨x, z⟩
  · have na : a ∉ A := fun z => by rw [hidS_in z] at ru; cases ru
    rw [hidS_out na] at ru; exact w.up.le.tp a xs ru
  · by_cases m : a ∈ A
    · rw [hidS_in m]
    · rw [hidS_out m]; exact w.up.kn a n
  · by_cases z : a ∈ A
    · rw [hidS_in z]
    · rw [hidS_out z]; exact w.cl a (by rw [knowS_out z]; exact n) m
end
section
variable {K : PySem.W.Frag} {B : Bs} {en : En} {σ : L2.St} {G H : Hp}
/-- an owned object with all in it is data from now on -/
theorem St8.frzS {i : Nat} {p : Addr} {c : OO} {d : D} (s : St8 K B en σ G H) (e : en[i]? = some (some (.o false p c))) (hr : ∀ G', Le G G' → (∀ a ∈ c.fp p, G' a = H a) → Rp K G' (.ref p) d) : ∃ G2, Le G G2 ∧ St8 K B (en.set i (some (.v d))) σ G2 H := by
  obtain ⟨v0, e0, rfl, r⟩ := s.es.at_ i _ e
  have hA : ∀ a ∈ c.fp p, G a = none ∧ Mt H a := fun a m => ⟨r.fpG m, r.fpT m⟩
  have ow := s.es.own i false p c e
  have l := Le.knowS (H := H) fun a m => (hA a m).1
  refine ⟨knowS G H (c.fp p), l, ⟨⟨⟨s.es.fr.up.knowS fun a m => (hA a m).2.ne, s.es.fr.le0.trans l, s.es.fr.keep, s.es.fr.there, s.es.fr.thM, fun a n m => ?_⟩, fun j dv ej => ?_, fun j k b b' q1 q2 c1 c2 ej ek z => ?_, fun j b q c1 ej => ?_⟩, by simp [s.len]⟩⟩
  · rw [knowS_out (fun z => m.ne (ow.own z))]; exact s.es.fr.cl a n m
  · rcases get_set ej with ⟨rfl, e1⟩ | ⟨n, fj⟩
    · cases e1; exact ⟨_, e0, hr _ l fun a m => knowS_in m⟩
    · obtain ⟨u, x, y⟩ := s.es.at_ j dv fj
      refine ⟨u, x, ?_⟩
      cases dv with
      | v d => exact Rp.up l y
      | o b2 q c2 => exact ⟨y.1, y.2.knowS (fun a m => (hA a m).1) fun a m z => n (s.es.ones j i _ _ _ _ _ _ fj e ⟨a, z, m⟩)⟩
  · rcases get_set ej with ⟨rfl, e1⟩ | ⟨n, fj⟩
    · cases e1
    · rcases get_set ek with ⟨rfl, e1⟩ | ⟨n', fk⟩
      · cases e1
      · exact s.es.ones j k _ _ _ _ _ _ fj fk z
  · rcases get_set ej with ⟨rfl, e1⟩ | ⟨n, fj⟩
    · cases e1
    · exact s.es.own j _ q _ fj
/-- .. for a while -/
theorem borrowS {i : Nat} {b : Bool} {p : Addr} {c : OO} {d : D} (S : Sl K en σ G H) (he : en[i]? = some (some (.o b p c))) (hr : ∀ G', Le G G' → (∀ a ∈ c.fp p, G' a = H a) → Rp K G' (.ref p) d) :
    ∃ G', Sl K (en.set i (some (.v d))) σ G' H ∧ ∀ G2 H2, Grow G' H G2 H2 → Grow G H (hidS G2 (c.fp p)) H2 := by
  obtain ⟨v0, e0, rfl, r⟩ := S.at_ i _ he
  have hA : ∀ a ∈ c.fp p, G a = none ∧ Mt H a := fun a m => ⟨r.fpG m, r.fpT m⟩
  have l := Le.knowS (H := H) fun a m => (hA a m).1
  refine ⟨knowS G H (c.fp p), ⟨S.le.knowS fun a m => (hA a m).2.ne, by simp [S.len], fun j dv ej => ?_, fun j k b b' q q' c c' ej ek zz => ?_⟩, fun G2 H2 w => w.hidS hA⟩
  · rcases get_set ej with ⟨rfl, e1⟩ | ⟨n, fj⟩
    · cases e1; exact ⟨_, e0, hr _ l fun a m => knowS_in m⟩
    · obtain ⟨u, x, y⟩ := S.at_ j dv fj
      refine ⟨u, x, ?_⟩
      cases dv with
      | v d => exact Rp.up l y
      | o b2 q c2 => exact ⟨y.1, y.2.knowS (fun a m => (hA a m).1) fun a m z => n (S.ones j i _ _ _ _ _ _ fj he ⟨a, z, m⟩)⟩
  · rcases get_set ej with ⟨rfl, e1⟩ | ⟨n, fj⟩
    · cases e1
    · rcases get_set ek with ⟨rfl, e1⟩ | ⟨n', fk⟩
      · cases e1
      · exact S.ones j k _ _ _ _ _ _ fj fk zz
def dN (dss : List (List D)) : D := .lst (dss.map D.lst)
theorem rpall_n {as : List Addr} {dss : List (List D)} (hl : as.length = dss.length) (h : ∀ (i : Nat) (a : Addr) (ds : List D), as[i]? = some a → dss[i]? = some ds → Rp K G (.ref a) (.lst ds)) : RpAll K G (as.map V.ref) (dss.map D.lst) := by
  induction as generalizing dss with
  | nil =>
    cases dss with
    | nil => exact .nil
    | cons x r => simp at hl
  | cons a as ih =>
    cases dss with
    | nil => simp at hl
    | cons x r => exact .cons (h 0 a x rfl rfl) (ih (by simpa using hl) fun i a ds e1 e2 => h (i + 1) a ds (by simpa using e1) (by simpa using e2))
theorem OwnRp.rpN {p : Addr} {as : List Addr} {dss : List (List D)} {G' : Hp} (h : OwnRp K G H p (OO.n as dss)) (l : Le G G') (hk : ∀ a ∈ (OO.n as dss).fp p, G' a = H a) : Rp K G' (.ref p) (dN dss) := by
  obtain ⟨_, hl, _, hp, h3⟩ := own_n.mp h
  rw [fp_n hl] at hk
  refine .lst (.inl (by rw [hk p List.mem_cons_self]; exact hp)) (rpall_n hl fun i a ds e1 e2 => ?_)
  obtain ⟨_, o, e3, vs, rfl, r⟩ := h3 i a ds e1 e2
  exact .lst (.inl (by rw [hk a (List.mem_cons_of_mem _ (List.mem_of_getElem? e1))]; exact e3)) (r.up l)
theorem Es.atN {i : Nat} {b : Bool} {p : Addr} {c : OO} (s : Es K B en σ G H) (h : en[i]? = some (some (.o b p c))) : σ[i]? = some (some (.ref p)) ∧ OwnRp K G H p c := by
  obtain ⟨v, e, rfl, r⟩ := s.at_ i _ h
  exact ⟨e, r⟩
end
def NewN (K : PySem.W.Frag) (G H : Hp) (dss : List (List D)) (Q : VK) : Prop := ∀ p as G2 H2, Grow G H G2 H2 → (∀ a ∈ p :: as, H a = none) → OwnRp K G2 H2 p (OO.n as dss) → Q (.ref p) H2
/-- a new list of new lists is handed back -/
def rNN (K : PySem.W.Frag) : Hp → List (List D) → V → Hp → Hp → Prop := fun H0 dss v G H => ∃ p as, v = .ref p ∧ (∀ a ∈ p :: as, H0 a = none) ∧ OwnRp K G H p (OO.n as dss)
section
variable (X : Cx) (W : WN)
def XNN (e : Expr) (en : En) (m : R (List (List D))) : Prop := ∀ σ G H, Sl X.K en σ G H → ∀ Q : VK,
  wp m (fun dss => NewN X.K G H dss Q) (fun c => ∀ G2 H2, Grow G H G2 H2 → W c σ H2) → wE X e σ H Q
end
section
variable {X : Cx} {W : WN} {eE : En} {en : En} {ec : Nat → Addr} {pos : Pos} {γ δ ω α : Type} {φ : γ → En} {a b c e o i : Expr} {es : List Expr} {ma mb mc mo mi mx : R D} {T : Bs → ω → Ends → Prop} {rest : List Stmt}
theorem xnn_run {m : R (List (List D))} (h : XNN X W e en m) {B : Bs} {σ : L2.St} {G H : Hp} (S : St8 X.K B en σ G H) (we : Wk0 eE en) {Q : VK} (k : Post X W eE B m (fun dss => ∀ p as G2 H2, Le G G2 → St8 X.K B en σ G2 H2 → (∀ a ∈ p :: as, H a = none) → OwnRp X.K G2 H2 p (OO.n as dss) → Q (.ref p) H2)) : wE X e σ H Q :=
  h σ G H S.sl Q (wp_mono k (fun d hd p as G2 H2 w hp o => hd p as G2 H2 w.g (S.grow w) hp o) fun c hc G2 H2 w => hc σ G2 H2 ((S.grow w).es.weak we))
/-- as data -/
theorem xnn_xp {m : R (List (List D))} (h : XNN X W e en m) : XP X W e en (m.bnd fun dss => .ok (dN dss)) := fun σ G H S Q k => by
  refine h σ G H S Q (wp_mono (wp_bnd.mp k) (fun dss hd p as G2 H2 w hn o => ?_) fun _ z => z)
  have hd : ∀ v G3 H3, Grow G H G3 H3 → Rp X.K G3 v (dN dss) → Q v H3 := hd
  obtain ⟨_, hl, _⟩ := own_n.mp o
  have hn' : ∀ a ∈ (OO.n as dss).fp p, H a = none := by rw [fp_n hl]; exact hn
  have hA : ∀ a ∈ (OO.n as dss).fp p, G2 a = none ∧ Mt H2 a := fun a m => ⟨o.fpG m, o.fpT m⟩
  have l := Le.knowS (H := H2) fun a m => (hA a m).1
  refine hd _ (knowS G2 H2 ((OO.n as dss).fp p)) H2 ⟨w.g.trans l, w.up.knowS fun a m => (hA a m).2.ne, w.h, fun a n m => ?_⟩ (o.rpN l fun a m => knowS_in m)
  rw [knowS_out (fun z => m.ne (hn' a z))]; exact w.cl a n m
/-- x = a new list of new lists -/
theorem xb_letNN {i : Nat} {x : Str} {p : Pos} {m : R (List (List D))} {k : List (List D) → R ω} (g : Go X ec W) (φ : Addr → List Addr → List (List D) → En) (h : XNN X W e en m) (hk : ∀ a as ds, XB X W eE rest (φ a as ds) (k ds) T) (hi : X.N[i]? = some x := by rfl) (hφ : ∀ a as ds, en.set i (some (.o false a (OO.n as ds))) = φ a as ds := by intro _ _ _; rfl)
    (hx : Loc X.env.scope x := by first | exact Or.inl rfl | exact Or.inr rfl) (we : Wk0 eE en := by first | exact wk0_nil | exact wk0_refl | assumption | exact Wkn.wk0 (by repeat' first | exact Wkn.nil | apply Wkn.k | apply Wkn.d)) (hs : swapsWith e (some (.Name x p)) pos.line X.env = pure false := by first | exact swaps_no rfl | exact swapsS_no rfl | rfl)
    (hf : X.fn x = true ∨ X.env.scope.names.lookup x = some .local := by first | exact .inl rfl | exact .inr rfl) : XB X W eE (.Assign [.Name x p] e pos :: rest) en (m.bnd k) T := fun B σ G H S D q => by
  refine pss_to (pss_cons (ps_set g.nd hi hx pe_w hs hf) pss_w) (xnn_run h S we (wp_mono (wp_bnd.mp q) (fun d hd a as G2 H2 l S2 hn o => ?_) fun _ z => z))
  refine hk a as d B _ G2 H2 ?_ D hd
  have hl := (own_n.mp o).2.1
  have := S2.setOS (i := i) (c := OO.n as d) (S.sl.noOwnS (A := (OO.n as d).fp a) (by rw [fp_n hl]; exact hn)) (by rw [fp_n hl]; exact fun b m => S.h0 (hn b m)) o
  rw [hφ] at this; exact this
/-- all that is owned is data from now on -/
theorem xb_frzN {i : Nat} {p : Addr} {as : List Addr} {dss : List (List D)} {m : R ω} (φ : En) (h : XB X W eE rest φ m T) (he : en[i]? = some (some (.o false p (OO.n as dss))) := by rfl) (hφ : en.set i (some (.v (dN dss))) = φ := by rfl) : XB X W eE rest en m T := fun B σ G H S D q => by
  obtain ⟨_, r⟩ := S.es.atN he
  obtain ⟨G2, l, S2⟩ := S.frzS he fun G' l hk => r.rpN l hk
  rw [hφ] at S2
  exact h B σ G2 H S2 D q
theorem xp_borN {i : Nat} {b : Bool} {p : Addr} {as : List Addr} {dss : List (List D)} {e : Expr} {m : R D} (φ : En) (h : XP X W e φ m) (he : en[i]? = some (some (.o b p (OO.n as dss))) := by rfl) (hφ : en.set i (some (.v (dN dss))) = φ := by rfl) : XP X W e en (m.bnd fun d => R.of d.flat) := fun σ G H S Q k => by
  obtain ⟨v0, e0, rfl, r⟩ := S.at_ i _ he
  obtain ⟨G', S', w'⟩ := borrowS S he fun G' l hk => r.rpN l hk
  rw [hφ] at S'
  refine h σ G' H S' Q (wp_mono (wp_bnd.mp k) (fun d hd v G2 H2 w r => ?_) fun c hc G2 H2 w => hc _ H2 (w' G2 H2 w))
  obtain ⟨d', e', hd3⟩ := wp_of hd
  obtain ⟨rfl, r'⟩ := flat_rp (G' := hidS G2 ((OO.n as dss).fp p)) e' r
  exact hd3 v _ H2 (w' G2 H2 w) r'
theorem xt_borN {i : Nat} {b : Bool} {p : Addr} {as : List Addr} {dss : List (List D)} {e : Expr} {m : R Bool} (φ : En) (h : XT X W e φ m) (he : en[i]? = some (some (.o b p (OO.n as dss))) := by rfl) (hφ : en.set i (some (.v (dN dss))) = φ := by rfl) : XT X W e en m := fun σ G H S Q k => by
  obtain ⟨v0, e0, rfl, r⟩ := S.at_ i _ he
  obtain ⟨G', S', w'⟩ := borrowS S he fun G' l hk => r.rpN l hk
  rw [hφ] at S'
  exact h σ G' H S' Q (wp_mono k (fun b hb G2 H2 w => hb _ H2 (w' G2 H2 w)) fun c hc G2 H2 w => hc _ H2 (w' G2 H2 w))
/-- an empty list of one's own may get lists of its own -/
theorem xb_asN {i : Nat} {p : Addr} {m : R ω} (φ : En) (h : XB X W eE rest φ m T) (he : en[i]? = some (some (.o false p (.l []))) := by rfl) (hφ : en.set i (some (.o false p (OO.n [] []))) = φ := by rfl) : XB X W eE rest en m T := fun B σ G H S D q => by
  obtain ⟨v0, e0, rfl, g0, vs, hp, r⟩ := S.es.atL he
  have ev : vs = [] := by cases r; rfl
  subst ev
  have S2 := S.mut (c' := OO.n [] []) (o := .lst []) he trivial (own_n.mpr ⟨by simp, rfl, g0, upd_same, fun i a ds e => by simp at e⟩)
  rw [upd_self hp, hφ] at S2
  exact h B σ G H S2 D q
/-- return x, x a list of lists of one's own -/
theorem xb_retNN {i : Nat} {x : Str} {p : Addr} {px : Pos} {as : List Addr} {dss : List (List D)} (he : en[i]? = some (some (.o false p (OO.n as dss)))) (hN : X.N[i]? = some x := by rfl) (hv : Vis X.env.scope x := by first | exact Or.inl rfl | exact Or.inr (Or.inl rfl) | exact Or.inr (Or.inr rfl))
    (hd : (x == ("__debug__" : Str)) = false := by decide) (hcd : (x == ("__classdict__" : Str)) = false := by decide) : XB X W eE [.Return (some (.Name x px)) pos] en (.ok dss) (TR (rNN X.K)) := fun B σ G H S D q => by
  obtain ⟨e1, r⟩ := S.es.atN he
  have ow := S.es.own i false p _ he
  have hl := (own_n.mp r).2.1
  exact pss_to (pss_one (ps_ret (pe_var hN hv hd hcd))) ⟨_, e1, q _ G H S.es.fr ⟨p, as, rfl, fun a m => ow.own (by rw [fp_n hl]; exact m), r⟩⟩
theorem xb_retXNN {m : R (List (List D))} (h : XNN X W e en m) (we : Wk0 eE en := by first | exact wk0_nil | exact wk0_refl | assumption | exact Wkn.wk0 (by repeat' first | exact Wkn.nil | apply Wkn.k | apply Wkn.d)) : XB X W eE [.Return (some e) pos] en m (TR (rNN X.K)) := fun B σ G H S D q =>
  pss_to (pss_one (ps_ret pe_w)) (xnn_run h S we (wp_mono q (fun d hd p as G2 H2 l S2 hn o => hd _ G2 H2 S2.es.fr ⟨p, as, rfl, fun a m => S.h0 (hn a m), o⟩) fun _ z => z))
theorem xnn_call {x : Str} {p : Pos} {e : Expr} {es : List Expr} {k n : Nat} {f : Addr} {fd : FuncData} {ps : List Str} {fm : List D → R (List (List D))} {ms : R (List D)} (g : Go X ec W) (F : FnOk X.prog X.w X.K X.mg X.base (L2.CX X.prog X.w) k f fd ps (spR X.K ec (rNN X.K) n fm)) (hr : Room k X.A) (hm : X.mg x = some (.ref f)) (hk : PySem.W.keepIn X.K (.ref f) = true) (hb : Binds X.K fd ps [])
    (ha : XA X W (e :: es) en ms) (hln : ∀ ds P E, wp (fm ds) P E → ds.length = n) (hg : Gl X x := by rfl) (hdb : (x == ("__debug__" : Str)) = false := by decide) (h1 : starEach (e :: es) X.env = (false, eval e X.env) :: starEach es X.env := by rfl) (h2 : (backTo pos (starEach es X.env)).any (·.1) = false := by rfl) :
    XNN X W (.Call (.Name x p) (e :: es) [] pos) en (ms.bnd fm) := fun σ G H S Q h => by
  refine pe_to (pe_callS F hr hg hm hk hb (fun σ => passAt g.tk σ) pa_w hdb h1 h2) (ha σ G H S _ ?_)
  have h' := wp_bnd.mp h
  cases em : ms with
  | ok ds =>
    rw [em] at h'
    refine fun vs G1 H1 w1 r1 => ⟨G1, ds, w1.up, r1, hln ds _ _ h', wp_mono h' (fun d hd v G2 H2 w2 r2 => ?_) fun c hc G2 H2 w2 => ⟨c, rfl, rfl, hc G2 H2 (w1.trans w2)⟩⟩
    obtain ⟨p, as, rfl, hn, o⟩ := r2
    refine hd p as G2 H2 (w1.trans w2) (fun a m => ?_) o
    have := hn a m
    cases z : H a with
    | none => rfl
    | some o => rw [w1.h a o z] at this; cases this
  | err c => rw [em] at h'; exact fun G2 H2 w => h' G2 H2 w
  | bad => rw [em] at h'; exact h'.elim
end
end Wk
set_option maxHeartbeats 4000000
/-! Wk50: lists of lists of one's own: made, changed, walked. -/
namespace Wk
open PySem PySem.Spec PyProof.Rows L2

section
variable {K : PySem.W.Frag} {B : Bs} {en : En} {σ : L2.St} {G H : Hp}
theorem getElem?_app {α : Type} {l : List α} {x y : α} {i : Nat} (h : (l ++ [x])[i]? = some y) : l[i]? = some y ∨ (i = l.length ∧ y = x) := by
  by_cases c : i < l.length
  · rw [List.getElem?_append_left c] at h; exact .inl h
  · rw [List.getElem?_append_right (by omega)] at h
    have : i - l.length = 0 := by
      cases z : i - l.length with
      | zero => rfl
      | succ n => rw [z] at h; simp at h
    rw [this] at h
    have h := Option.some.inj h
    exact .inr ⟨by omega, h.symm⟩
/-- one more list in it -/
theorem OwnRp.appN {q p : Addr} {as : List Addr} {dss : List (List D)} {vs : List V} {ds : List D} (o : OwnRp K G H q (OO.n as dss)) (hp : p ∉ q :: as) (gp : G p = none) (ep : H p = some (.lst vs)) (r : RpAll K G vs ds) : OwnRp K G (upd H q (.lst ((as ++ [p]).map V.ref))) q (OO.n (as ++ [p]) (dss ++ [ds])) := by
  obtain ⟨nd, hl, g, hq, h3⟩ := own_n.mp o
  have hpq : p ≠ q := fun z => hp (by rw [z]; exact List.mem_cons_self)
  have hpa : p ∉ as := fun z => hp (List.mem_cons_of_mem _ z)
  rw [List.nodup_cons] at nd
  refine own_n.mpr ⟨?_, by simp [hl], g, upd_same, fun i a d e1 e2 => ?_⟩
  · rw [List.nodup_cons]
    refine ⟨fun z => ?_, nd_snoc nd.2 hpa⟩
    rcases List.mem_append.mp z with z | z
    · exact nd.1 z
    · exact hpq (List.mem_singleton.mp z).symm
  · rcases getElem?_app e1 with f1 | ⟨f1, f1'⟩
    · rcases getElem?_app e2 with f2 | ⟨f2, _⟩
      · have na : a ≠ q := fun z => nd.1 (by rw [← z]; exact List.mem_of_getElem? f1)
        exact (h3 i a d f1 f2).go (Le.refl _) (fun o e => by rw [upd_ne na]; exact e) (h3 i a d f1 f2).1
      · have := (List.getElem?_eq_some_iff.mp f1).1; omega
    · rcases getElem?_app e2 with f2 | ⟨_, f2⟩
      · have := (List.getElem?_eq_some_iff.mp f2).1; omega
      · subst f1'
        subst f2
        exact ⟨gp, _, by rw [upd_ne hpq]; exact ep, vs, rfl, r⟩
/-- a list in it changed -/
theorem OwnRp.setN {q a : Addr} {as : List Addr} {dss : List (List D)} {us : List V} {ds : List D} {n : Nat} (o : OwnRp K G H q (OO.n as dss)) (e : as[n]? = some a) (r : RpAll K G us ds) : OwnRp K G (upd H a (.lst us)) q (OO.n as (dss.set n ds)) := by
  obtain ⟨nd, hl, g, hq, h3⟩ := own_n.mp o
  have nd' := List.nodup_cons.mp nd
  have hqa : q ≠ a := fun z => nd'.1 (by rw [z]; exact List.mem_of_getElem? e)
  refine own_n.mpr ⟨nd, by simp [hl], g, by rw [upd_ne hqa]; exact hq, fun i b d e1 e2 => ?_⟩
  have hn : n < as.length := (List.getElem?_eq_some_iff.mp e).1
  by_cases c : i = n
  · subst c
    rw [e] at e1
    cases e1
    rw [List.getElem?_set_self (by omega)] at e2
    cases e2
    obtain ⟨x, hx⟩ : ∃ x, dss[i]? = some x := ⟨_, List.getElem?_eq_getElem (by omega)⟩
    exact ⟨(h3 i a x e hx).1, _, upd_same, us, rfl, r⟩
  · rw [List.getElem?_set_ne (fun z => c z.symm)] at e2
    have nb : b ≠ a := fun z => by
      subst z
      have h1 := (List.getElem?_eq_some_iff.mp e1).1
      exact c (List.getElem_inj (h₀ := h1) (h₁ := hn) nd'.2 |>.mp (by rw [(List.getElem?_eq_some_iff.mp e1).2, (List.getElem?_eq_some_iff.mp e).2]))
    exact (h3 i b d e1 e2).go (Le.refl _) (fun o z => by rw [upd_ne nb]; exact z) (h3 i b d e1 e2).1
theorem OwnRp.atN {q : Addr} {as : List Addr} {dss : List (List D)} {ds : List D} {n : Nat} (o : OwnRp K G H q (OO.n as dss)) (e : dss[n]? = some ds) : ∃ a vs, as[n]? = some a ∧ H a = some (.lst vs) ∧ RpAll K G vs ds ∧ G a = none ∧ a ∈ (OO.n as dss).fp q := by
  obtain ⟨nd, hl, g, hq, h3⟩ := own_n.mp o
  have hn : n < as.length := by rw [hl]; exact (List.getElem?_eq_some_iff.mp e).1
  obtain ⟨g1, _, e2, vs, rfl, r⟩ := h3 n as[n] ds (List.getElem?_eq_getElem hn) e
  exact ⟨_, vs, List.getElem?_eq_getElem hn, e2, r, g1, by rw [fp_n hl]; exact List.mem_cons_of_mem _ (List.getElem_mem hn)⟩
end
def BN (X : Cx) (scope : Scope) (e : Expr) (en : En) (m : R (List D)) : Prop := ∀ (s : Shared) (H0 : Hp) (C : Addr) (cl : List (Str × Addr)) (fp : List Addr), XN (X.blk s H0 scope (compEnvC scope cl C X.env) fp) W0 e en m
def lcNN (f : D → R (List D)) : List D → R (List (List D))
  | [] => .ok []
  | d :: ds => (noE (f d)).bnd fun y => (lcNN f ds).bnd fun ys => .ok (y :: ys)
def lcNR (f : D → R (List D)) (ds : List D) : R (List (List D)) := if ds.length ≤ 16000000 then lcNN f ds else .bad
section
variable {X : Cx} {W : WN} {eE : En} {en : En} {ec : Nat → Addr} {pos : Pos} {γ δ ω α : Type} {φ : γ → En} {a b c e o : Expr} {es : List Expr} {ma mb mc mo mi' mx : R D} {T : Bs → ω → Ends → Prop} {rest : List Stmt}
theorem lcn_run {tg it elt : Expr} {scope : Scope} {vs : List Nat} {i : Nat} {mi : R (List D)} {me : D → R (List D)} (hi : XI X W tg it en mi) (hc : clr en [i] = true)
    (hb : ∀ d, BN X scope elt (en.set i (some (.v d))) (me d))
    (σ : L2.St) (G H : Hp) (S : Sl X.K en σ G H) (Q : VK) (q : wp (mi.bnd fun ds => lcNR me ds) (fun ys => NewN X.K G H ys Q) (fun c => ∀ G2 H2, Grow G H G2 H2 → W c σ H2)) : tLc (wI X tg it) (gName i) tYes (wEb X scope elt) [i] σ H Q := by
  refine hi σ G H S _ (wp_mono (wp_bnd.mp q) (fun ds hd J G1 H1 w1 wk => ?_) fun _ z => z)
  unfold lcNR at hd
  by_cases hln : ds.length ≤ 16000000
  · rw [if_pos hln] at hd
    intro D hD
    have pre : ∀ {a}, H1 a = none → H a = none := fun {a} h => Option.eq_none_iff_forall_ne_some.mpr fun o z => by rw [w1.h a o z] at h; cases h
    have o0 : OwnRp X.K G1 (upd H1 D (.lst [])) D (OO.n [] []) := own_n.mpr ⟨by simp, rfl, w1.up.kn D hD, upd_same, fun i a ds e => by simp at e⟩
    refine ⟨fun j m H' => m = ds.length - j ∧ j ≤ ds.length ∧ ∃ G' as dn, Grow G1 H1 G' H' ∧ (∀ a ∈ as, H1 a = none) ∧ OwnRp X.K G' H' D (OO.n as dn) ∧ as.length ≤ j ∧ wp (lcNN me (ds.drop j)) (fun ys => NewN X.K G H (dn ++ ys) Q) (fun c => ∀ G2 H2, Grow G H G2 H2 → W c σ H2),
      ⟨_, rfl, Nat.zero_le _, G1, [], [], Grow.own w1.up hD, by simp, o0, Nat.le_refl _, hd⟩, ?_⟩
    rintro j m H' ⟨rfl, hj, G', as, dn, w', hn, oA, lA, p⟩
    obtain ⟨nd, hl, gA, hA, _⟩ := own_n.mp oA
    by_cases hlt : j < ds.length
    · rw [List.drop_eq_getElem_cons hlt] at p
      obtain ⟨go, yl⟩ := wk.go j ds[j] (List.getElem?_eq_getElem hlt) G' H' w'.g w'.up
      refine .inr ⟨go, fun H3 => ∃ G3 as dn, Grow G1 H1 G3 H3 ∧ (∀ a ∈ as, H1 a = none) ∧ OwnRp X.K G3 H3 D (OO.n as dn) ∧ as.length ≤ j + 1 ∧ wp (lcNN me (ds.drop (j + 1))) (fun ys => NewN X.K G H (dn ++ ys) Q) (fun c => ∀ G2 H2, Grow G H G2 H2 → W c σ H2),
        fun H3 ⟨G3, as, dn, h⟩ => ⟨ds.length - (j + 1), by omega, rfl, hlt, G3, as, dn, h⟩, fun x H4 y => ?_⟩
      obtain ⟨G4, w4, r4⟩ := yl x H4 y
      have p1 := wp_noE (wp_bnd.mp p)
      have wA := w'.trans w4
      have S4 : Sl X.K en (wipe σ [i]) G4 H4 := ((S.grow w1).grow wA).wipe hc
      refine tl_name en (wipe σ [i]) G4 H4 S4 ds[j] x _ r4 rfl _ fun σ5 S5 hw => ⟨?_, ?_⟩
      · rw [hw]; exact wipe_wipe _ _ fun _ h => h
      · show wEb X scope elt σ5 H4 _
        intro s0 H0 C cl fp
        refine hb ds[j] s0 H0 C cl fp σ5 G4 H4 S5 _ (wp_mono p1 (fun d hd p6 vs G6 H6 w6 hp6 gp6 ep6 r6 => ?_) fun _ z => z.elim)
        have o6 := (oA.grow w4).grow w6
        have fr : ∀ a ∈ D :: as, H4 a ≠ none := fun a m => by
          have := ((oA.grow w4).fpT (a := a) (by rw [fp_n hl]; exact m)).ne
          exact this
        have hp' : p6 ∉ D :: as := fun m => fr p6 m hp6
        have hn1 : H1 p6 = none := Option.eq_none_iff_forall_ne_some.mpr fun o z => by rw [wA.h p6 o z] at hp6; cases hp6
        have w46 := wA.trans w6
        refine ⟨as.map V.ref, (own_n.mp o6).2.2.2.1, by rw [List.length_map]; exact Nat.lt_of_le_of_lt lA (Nat.lt_of_lt_of_le hlt (size_ok hln)), G6, as ++ [p6], dn ++ [d], ?_, fun a m => ?_, ?_, by rw [List.length_append]; show _ + 1 ≤ _; omega, ?_⟩
        · exact w46.mutD hD (o6.fpG fp_top)
        · rcases List.mem_append.mp m with z | z
          · exact hn a z
          · rw [List.mem_singleton.mp z]; exact hn1
        · have := o6.appN hp' gp6 ep6 r6
          rw [List.map_append] at this
          exact this
        · refine wp_mono (wp_bnd.mp hd) (fun ys hy => ?_) fun _ z => z
          show NewN X.K G H (dn ++ [d] ++ ys) Q
          rw [List.append_assoc]
          exact hy
    · have ej : j = ds.length := by omega
      subst ej
      rw [List.drop_length] at p
      have p : NewN X.K G H (dn ++ []) Q := p
      rw [List.append_nil] at p
      refine .inl ⟨wk.stop G' H' w'.g w'.up, p D as G' H' (w1.trans w') (fun a m => ?_) oA⟩
      rcases List.mem_cons.mp m with rfl | m
      · exact pre hD
      · exact pre (hn a m)
  · rw [if_neg hln] at hd; exact hd.elim
/-- [[..] for x in it] -/
theorem xnn_lc {i : Nat} {x : Str} {p : Pos} {it elt : Expr} {scope : Scope} {mi : R (List D)} {me : D → R (List D)} (g : Go X ec W) (hi : XI X W (.Name x p) it en mi) (he : ∀ d, BN X scope elt (en.set i (some (.v d))) (me d)) (hblk : BlkOk X.N X.env.scope scope [(x, i)]) (hc : clr en [i] = true := by rfl)
    (hN : X.N[i]? = some x := by rfl) (hx : ∀ (s : Shared) (H0 : Hp) (C : Addr) (cl : List (Str × Addr)) (fp : List Addr), Loc (X.blk s H0 scope (compEnvC scope cl C X.env) fp).env.scope x := by intros; first | exact Or.inl rfl | exact Or.inr rfl)
    (hf : ∀ (s : Shared) (H0 : Hp) (C : Addr) (cl : List (Str × Addr)) (fp : List Addr), (X.blk s H0 scope (compEnvC scope cl C X.env) fp).fn x = true ∨ (X.blk s H0 scope (compEnvC scope cl C X.env) fp).env.scope.names.lookup x = some .local := by intros; first | exact .inl rfl | exact .inr rfl)
    (hs : ∀ x, foldedSetIterable it X.env x = pure x := by intro _; rfl) : XNN X W (.ListComp elt [⟨.Name x p, it, [], 0⟩] scope pos) en (mi.bnd fun ds => lcNR me ds) := fun σ G H S Q q => by
  refine pe_to (pe_lc (own := [(x, i)]) g.calm g.nd pi_w hblk (fun s H0 C cl fp => pg_name g.nd hN (hx s H0 C cl fp) (hf s H0 C cl fp)) (fun _ _ _ _ _ => pts_nil) pe_wb hs) ?_
  exact lcn_run (vs := [i]) hi hc he σ G H S Q q
/-- y = [[..] for x in it] -/
theorem xb_letLcNN {i j : Nat} {x y : Str} {p py posc : Pos} {it elt : Expr} {scope : Scope} {mi : R (List D)} {me : D → R (List D)} {k : List (List D) → R ω} (g : Go X ec W) (φ : Addr → List Addr → List (List D) → En) (hi : XI X W (.Name x p) it en mi) (he : ∀ d, BN X scope elt (en.set i (some (.v d))) (me d)) (hk : ∀ a as ds, XB X W eE rest (φ a as ds) (k ds) T) (hblk : BlkOk X.N X.env.scope scope [(x, i)]) (hc : clr en [i] = true := by rfl)
    (hφ : ∀ a as ds, en.set j (some (.o false a (OO.n as ds))) = φ a as ds := by intro _ _ _; rfl) (we : Wk0 eE en := by first | exact wk0_nil | exact wk0_refl | assumption | exact Wkn.wk0 (by repeat' first | exact Wkn.nil | apply Wkn.k | apply Wkn.d))
    (hN : X.N[i]? = some x := by rfl) (hNy : X.N[j]? = some y := by rfl) (hx : ∀ (s : Shared) (H0 : Hp) (C : Addr) (cl : List (Str × Addr)) (fp : List Addr), Loc (X.blk s H0 scope (compEnvC scope cl C X.env) fp).env.scope x := by intros; first | exact Or.inl rfl | exact Or.inr rfl)
    (hf : ∀ (s : Shared) (H0 : Hp) (C : Addr) (cl : List (Str × Addr)) (fp : List Addr), (X.blk s H0 scope (compEnvC scope cl C X.env) fp).fn x = true ∨ (X.blk s H0 scope (compEnvC scope cl C X.env) fp).env.scope.names.lookup x = some .local := by intros; first | exact .inl rfl | exact .inr rfl)
    (hyl : X.env.scope.names.lookup y = some .local := by rfl) (hsw : swapsWith (.ListComp elt [⟨.Name x p, it, [], 0⟩] scope posc) (some (.Name y py)) pos.line X.env = pure true := by exact sw_true rfl rfl rfl (by decide +kernel))
    (hs : ∀ x, foldedSetIterable it X.env x = pure x := by intro _; rfl) : XB X W eE (.Assign [.Name y py] (.ListComp elt [⟨.Name x p, it, [], 0⟩] scope posc) pos :: rest) en ((mi.bnd fun ds => lcNR me ds).bnd k) T := fun B σ G H S D q => by
  refine pss_to (pss_cons (ps_setLc (own := [(x, i)]) g.calm g.nd hNy hyl hsw pi_w hblk (fun s H0 C cl fp => pg_name g.nd hN (hx s H0 C cl fp) (hf s H0 C cl fp)) (fun _ _ _ _ _ => pts_nil) pe_wb hs) pss_w) ?_
  unfold tSeq tAsg
  refine lcn_run (vs := [i]) hi hc he σ G H S.sl _ ?_
  refine wp_mono (wp_bnd.mp q) (fun d hd a as G2 H2 w hn o => ?_) fun c hc G2 H2 w => hc σ G2 H2 ((S.grow w).es.weak we)
  have hl := (own_n.mp o).2.1
  have := (S.grow w).setOS (i := j) (c := OO.n as d) (S.sl.noOwnS (A := (OO.n as d).fp a) (by rw [fp_n hl]; exact hn)) (by rw [fp_n hl]; exact fun b m => S.h0 (hn b m)) o
  rw [hφ] at this
  exact hk a as d B _ G2 H2 this D hd
/-! changed -/
def idxN (dss : List (List D)) (j : D) : Option Nat := match j with
  | .int i => ixN dss.length i
  | _ => none
def setDN (dss : List (List D)) (n : Nat) (l d : D) : Option (List (List D)) := (dss[n]?).bind fun ds => (setD ds l d).map fun ds' => dss.set n ds'
theorem atI_get {α : Type} {xs : List α} {i : Int} {n : Nat} (h : ixN xs.length i = some n) : atI xs i = xs[n]? := by
  unfold atI; rw [h]; rfl
theorem ixN_lt {n k : Nat} {i : Int} (h : ixN n i = some k) : k < n := (ixN_seq h).2.1
theorem idxN_at {K : PySem.W.Frag} {G H : Hp} {q : Addr} {as : List Addr} {dss : List (List D)} {j : D} {n : Nat} {v : V} (o : OwnRp K G H q (OO.n as dss)) (e : idxN dss j = some n) (r : Rp K G v j) : ∃ i a, v = .int i ∧ as[n]? = some a ∧ atI (as.map V.ref) i = some (.ref a) := by
  unfold idxN at e
  split at e
  · rename_i i
    cases r
    have hl := (own_n.mp o).2.1
    have hn : n < dss.length := ixN_lt e
    refine ⟨i, as[n]'(by omega), rfl, List.getElem?_eq_getElem _, ?_⟩
    rw [atI_get (n := n) (by rw [List.length_map, hl]; exact e), List.getElem?_map, List.getElem?_eq_getElem (by omega)]; rfl
  · cases e
/-- x[i][j] = v -/
theorem xb_putN {i : Nat} {b : Bool} {p : Addr} {px p1 ps' : Pos} {as : List Addr} {dss : List (List D)} {x : Str} {a1 a2 e : Expr} {m1 m2 me : R D} {k : List (List D) → R ω} (g : Go X ec W) (φ : List (List D) → En) (h : XP X W e en me) (h1 : XP X W a1 en m1) (h2 : XP X W a2 en m2) (hk : ∀ ds, XB X W eE rest (φ ds) (k ds) T) (he : en[i]? = some (some (.o b p (OO.n as dss))) := by rfl) (hφ : ∀ ds, en.set i (some (.o b p (OO.n as ds))) = φ ds := by intro _; rfl) (we : Wk0 eE en := by first | exact wk0_nil | exact wk0_refl | assumption | exact Wkn.wk0 (by repeat' first | exact Wkn.nil | apply Wkn.k | apply Wkn.d))
    (hN : X.N[i]? = some x := by rfl) (hv : Vis X.env.scope x := by first | exact Or.inl rfl | exact Or.inr (Or.inl rfl) | exact Or.inr (Or.inr rfl)) (hd : (x == ("__debug__" : Str)) = false := by decide) (hcd : (x == ("__classdict__" : Str)) = false := by decide)
    (hpl : PlainIx a1 := by exact fun _ _ => rfl)
    (h0 : ∀ v, assign (.Subscript (.Subscript (.Name x px) a1 p1) a2 ps') X.env v = (do
      let ov ← holding [v] (eval (.Subscript (.Name x px) a1 p1) X.env)
      let iv ← holding [v, ov] (eval a2 X.env)
      standAt ps'
      holding [v, ov, iv] (setItem ov iv v)
      release [v, ov, iv] []) := by intro _; rfl)
    (q1 : swapsWithSole [.Subscript (.Subscript (.Name x px) a1 p1) a2 ps'] e pos.line X.env = pure false := by first | exact swaps_no rfl | exact swapsS_no rfl | rfl) (q2 : swappedStores [.Subscript (.Subscript (.Name x px) a1 p1) a2 ps'] e X.env = pure none := by rfl) (q3 : (assignEach [.Subscript (.Subscript (.Name x px) a1 p1) a2 ps'] X.env).map (·.2) = [assign (.Subscript (.Subscript (.Name x px) a1 p1) a2 ps') X.env] := by rfl) :
    XB X W eE (.Assign [.Subscript (.Subscript (.Name x px) a1 p1) a2 ps'] e pos :: rest) en (me.bnd fun d => m1.bnd fun j => (R.of (idxN dss j)).bnd fun n => m2.bnd fun l => (R.of (setDN dss n l d)).bnd k) T := fun B σ G H S D q => by
  refine pss_to (pss_cons (ps_asg pe_w (pg_sub (pe_ix ix_list (pe_var hN hv hd hcd) pe_w hpl) pe_w set_list h0) q1 q2 q3) pss_w) ?_
  refine xp_run h S we (wp_mono (wp_bnd.mp q) (fun d hd' v G1 H1 l1 S1 r1 => ?_) fun _ z => z)
  obtain ⟨e1, o1⟩ := S1.es.atN he
  refine ⟨.ref p, e1, ?_⟩
  refine xp_run h1 S1 we (wp_mono (wp_bnd.mp hd') (fun j hj u G2 H2 l2 S2 r2 => ?_) fun _ z => z)
  obtain ⟨_, o2⟩ := S2.es.atN he
  obtain ⟨n, en', hn⟩ := wp_of (wp_bnd.mp hj)
  obtain ⟨i', a, rfl, ea, ei⟩ := idxN_at o2 en' r2
  refine ⟨p, _, i', _, rfl, rfl, .inl (.inl (own_n.mp o2).2.2.2.1), ei, ?_⟩
  refine xp_run h2 S2 we (wp_mono (wp_bnd.mp hn) (fun l hl u2 G3 H3 l3 S3 r3 => ?_) fun _ z => z)
  obtain ⟨dss', e5, hd2⟩ := wp_of (wp_bnd.mp hl)
  obtain ⟨ds, e6, e7⟩ := Option.bind_eq_some_iff.mp e5
  obtain ⟨ds', e8, rfl⟩ := Option.map_eq_some_iff.mp e7
  obtain ⟨_, o3⟩ := S3.es.atN he
  obtain ⟨a', vs, ea', hva, rva, ga, ma⟩ := o3.atN e6
  have : a' = a := by rw [ea] at ea'; exact (Option.some.inj ea').symm
  subst this
  unfold setD at e8
  split at e8
  · rename_i j'
    obtain ⟨n', e9, rfl⟩ := Option.map_eq_some_iff.mp e8
    cases r3
    refine ⟨a', vs, _, n', rfl, rfl, hva, by rw [rva.len]; exact e9, ?_⟩
    have o4 := o3.setN (us := vs.set n' v) ea (rva.set (r1.up (l2.trans l3)) n')
    have hfp : (OO.n as (dss.set n (ds.set n' d))).fp p = (OO.n as dss).fp p := by
      rw [fp_n (own_n.mp o4).2.1, fp_n (own_n.mp o3).2.1]
    have S4 := S3.mutQ (c' := OO.n as (dss.set n (ds.set n' d))) he ma (fun b m => by rw [hfp] at m; exact m) (by trivial) o4
    rw [hφ] at S4
    exact hk _ B σ _ _ S4 D hd2
  · cases e8
/-- x.append(a new list) -/
theorem xb_appN {i : Nat} {p : Addr} {px pa pc : Pos} {as : List Addr} {dss : List (List D)} {x : Str} {a : Expr} {m : R (List D)} {k : List (List D) → R ω} (φ : List Addr → List (List D) → En) (ha : XN X W a en m) (hk : ∀ as ds, XB X W eE rest (φ as ds) (k ds) T) (he : en[i]? = some (some (.o false p (OO.n as dss))) := by rfl) (hφ : ∀ as ds, en.set i (some (.o false p (OO.n as ds))) = φ as ds := by intro _ _; rfl) (we : Wk0 eE en := by first | exact wk0_nil | exact wk0_refl | assumption | exact Wkn.wk0 (by repeat' first | exact Wkn.nil | apply Wkn.k | apply Wkn.d))
    (hN : X.N[i]? = some x := by rfl) (hv : Vis X.env.scope x := by first | exact Or.inl rfl | exact Or.inr (Or.inl rfl) | exact Or.inr (Or.inr rfl)) (hd : (x == ("__debug__" : Str)) = false := by decide) (hcd : (x == ("__classdict__" : Str)) = false := by decide)
    (hbase : attributeBase (.Name x px) "append" X.env (eval (.Name x px) X.env) = eval (.Name x px) X.env := by rfl)
    (hfew : ((backTo pc (starEach [a] X.env)).all (fun x => !x.1) && (backToKw pc (keywordEach [] X.env)).all (fun x => x.1.isSome)
      && decide (([a] : List Expr).length + ([] : List Keyword).length + (if ([] : List Keyword).isEmpty then 0 else 1) < 30)) = true := by rfl)
    (hline : (pa.endLine == pc.line) = true := by rfl) (hs : starEach [a] X.env = (false, eval a X.env) :: starEach [] X.env := by rfl) (hplain : (backTo pc (starEach [] X.env)).any (·.1) = false := by rfl)
    (hsw : swapsWith (.Call (.Attribute (.Name x px) "append" pa) [a] [] pc) none pos.line X.env = pure false := by first | exact swaps_no rfl | exact swapsS_no rfl | rfl) :
    XB X W eE (.Expr (.Call (.Attribute (.Name x px) "append" pa) [a] [] pc) pos :: rest) en (m.bnd fun d => (R.of (fits (dss ++ [d]))).bnd k) T := fun B σ G H S D q => by
  refine pss_to (pss_cons (ps_expr (pe_bm PySem.F.plainAttrs_list PySem.F.slot_list_append PySem.F.type_list_append mt_append (pe_var hN hv hd hcd) (pa_cons pe_w pa_nil hs) hbase hfew hline hs hplain) hsw) pss_w) ?_
  obtain ⟨e1, o⟩ := S.es.atN he
  refine ⟨.ref p, e1, .inl ⟨rfl, _, .inl (.inl (own_n.mp o).2.2.2.1)⟩, ?_⟩
  refine xn_run ha S we (wp_mono (wp_bnd.mp q) (fun d hd' p1 vs G1 H1 l1 S1 hp1 gp1 ep1 r1 => ?_) fun _ z => z)
  obtain ⟨dss', e2, hd2⟩ := wp_of (wp_bnd.mp hd')
  obtain ⟨rfl, hz⟩ := fits_some e2
  obtain ⟨_, o1⟩ := S1.es.atN he
  have hl := (own_n.mp o1).2.1
  have hp' : p1 ∉ p :: as := fun m => by
    have := (o.fpT (a := p1) (by rw [fp_n hl]; exact m)).ne
    exact this hp1
  have o2 := o1.appN hp' gp1 ep1 r1
  refine ⟨p, _, _, rfl, rfl, (own_n.mp o1).2.2.2.1, by rw [List.length_map, hl]; rw [List.length_append] at hz; have := size_ok hz; exact Nat.lt_of_succ_le this, ?_⟩
  have hB := S.h0 hp1
  have ow := S1.es.own i false p _ he
  have S2 : St8 X.K B (en.set i (some (.o false p (OO.n (as ++ [p1]) (dss ++ [d]))))) σ G1 (upd H1 p (.lst ((as ++ [p1]).map V.ref))) := by
    have g0 := o1.fpG fp_top
    refine ⟨⟨⟨S1.es.fr.up.mutQ g0, S1.es.fr.le0, fun b u n eu => ?_, fun b n => ?_, fun b n => ?_, S1.es.fr.cl⟩, fun j dv ej => ?_, fun j k b b' q1 q2 c1 c2 ej ek z => ?_, fun j b q1 c1 ej => ?_⟩, by simp [S1.len]⟩
    · have nb : b ≠ p := fun z => by rw [z, show B.H0 p = none from ow.1] at eu; cases eu
      rw [upd_ne nb]; exact S1.es.fr.keep b u n eu
    · by_cases z : b = p
      · rw [z, upd_same]; intro y; cases y
      · rw [upd_ne z]; exact S1.es.fr.there b n
    · by_cases z : b = p
      · exact ⟨.lst ((as ++ [p1]).map V.ref), by rw [z, upd_same], trivial⟩
      · obtain ⟨u, y1, y2⟩ := S1.es.fr.thM b n
        exact ⟨u, by rw [upd_ne z]; exact y1, y2⟩
    · rcases get_set ej with ⟨rfl, e1'⟩ | ⟨n, fj⟩
      · cases e1'; exact ⟨_, e1, rfl, o2⟩
      · obtain ⟨u, x, y⟩ := S1.es.at_ j dv fj
        refine ⟨u, x, ?_⟩
        cases dv with
        | v d => exact y
        | o b2 q2 c2 => exact ⟨y.1, y.2.other fun z => n (S1.es.ones j i _ _ _ _ _ _ fj he ⟨p, z, fp_top⟩)⟩
    · have other : ∀ {j : Nat} {b : Bool} {q : Addr} {c : OO}, j ≠ i → en[j]? = some (some (.o b q c)) → ∀ a, a ∈ (OO.n (as ++ [p1]) (dss ++ [d])).fp p → a ∉ c.fp q := fun {j b q c} nj fj a m z => by
        rw [fp_n (own_n.mp o2).2.1] at m
        rcases List.mem_cons.mp m with rfl | m
        · exact nj (S1.es.ones j i _ _ _ _ _ _ fj he ⟨_, z, fp_top⟩)
        · rcases List.mem_append.mp m with m | m
          · exact nj (S1.es.ones j i _ _ _ _ _ _ fj he ⟨a, z, by rw [fp_n hl]; exact List.mem_cons_of_mem _ m⟩)
          · rw [List.mem_singleton.mp m] at z
            exact S.noOwn hp1 j b q c fj z
      obtain ⟨a', z1, z2⟩ := z
      rcases get_set ej with ⟨rfl, e1'⟩ | ⟨n, fj⟩
      · cases e1'
        rcases get_set ek with ⟨rfl, e1'⟩ | ⟨n', fk⟩
        · rfl
        · exact absurd z2 (other n' fk a' z1)
      · rcases get_set ek with ⟨rfl, e1'⟩ | ⟨n', fk⟩
        · cases e1'; exact absurd z1 (other n fj a' z2)
        · exact S1.es.ones j k _ _ _ _ _ _ fj fk ⟨a', z1, z2⟩
    · rcases get_set ej with ⟨rfl, e1'⟩ | ⟨n, fj⟩
      · cases e1'
        refine ⟨ow.1, fun x hx => .inr ?_⟩
        have m : x.1 ∈ (OO.n (as ++ [p1]) (dss ++ [d])).fp p := List.mem_cons_of_mem _ (List.mem_map_of_mem hx)
        rw [fp_n (own_n.mp o2).2.1] at m
        rcases List.mem_cons.mp m with z | m
        · rw [z]; exact ow.1
        · rcases List.mem_append.mp m with m | m
          · exact ow.own (by rw [fp_n hl]; exact List.mem_cons_of_mem _ m)
          · rw [List.mem_singleton.mp m]; exact hB
      · exact S1.es.own j _ q1 _ fj
  rw [hφ] at S2
  have e3 : as.map V.ref ++ [.ref p1] = (as ++ [p1]).map V.ref := by simp
  rw [e3]
  exact hk _ _ B σ _ _ S2 D hd2
/-- x[i].append(e) -/
theorem xb_appIN {i : Nat} {b : Bool} {p : Addr} {px p1 pa pc : Pos} {as : List Addr} {dss : List (List D)} {x : Str} {a1 a : Expr} {m1 m : R D} {k : List (List D) → R ω} (φ : List (List D) → En) (h1 : XP X W a1 en m1) (ha : XP X W a en m) (hk : ∀ ds, XB X W eE rest (φ ds) (k ds) T) (he : en[i]? = some (some (.o b p (OO.n as dss))) := by rfl) (hφ : ∀ ds, en.set i (some (.o b p (OO.n as ds))) = φ ds := by intro _; rfl) (we : Wk0 eE en := by first | exact wk0_nil | exact wk0_refl | assumption | exact Wkn.wk0 (by repeat' first | exact Wkn.nil | apply Wkn.k | apply Wkn.d))
    (hN : X.N[i]? = some x := by rfl) (hv : Vis X.env.scope x := by first | exact Or.inl rfl | exact Or.inr (Or.inl rfl) | exact Or.inr (Or.inr rfl)) (hd : (x == ("__debug__" : Str)) = false := by decide) (hcd : (x == ("__classdict__" : Str)) = false := by decide) (hpl : PlainIx a1 := by exact fun _ _ => rfl)
    (hbase : attributeBase (.Subscript (.Name x px) a1 p1) "append" X.env (eval (.Subscript (.Name x px) a1 p1) X.env) = eval (.Subscript (.Name x px) a1 p1) X.env := by rfl)
    (hfew : ((backTo pc (starEach [a] X.env)).all (fun x => !x.1) && (backToKw pc (keywordEach [] X.env)).all (fun x => x.1.isSome)
      && decide (([a] : List Expr).length + ([] : List Keyword).length + (if ([] : List Keyword).isEmpty then 0 else 1) < 30)) = true := by rfl)
    (hline : (pa.endLine == pc.line) = true := by rfl) (hs : starEach [a] X.env = (false, eval a X.env) :: starEach [] X.env := by rfl) (hplain : (backTo pc (starEach [] X.env)).any (·.1) = false := by rfl)
    (hsw : swapsWith (.Call (.Attribute (.Subscript (.Name x px) a1 p1) "append" pa) [a] [] pc) none pos.line X.env = pure false := by first | exact swaps_no rfl | exact swapsS_no rfl | rfl) :
    XB X W eE (.Expr (.Call (.Attribute (.Subscript (.Name x px) a1 p1) "append" pa) [a] [] pc) pos :: rest) en (m1.bnd fun j => (R.of (idxN dss j)).bnd fun n => m.bnd fun d => (R.of ((dss[n]?).bind fun ds => (appD ds d).map fun ds' => dss.set n ds')).bnd k) T := fun B σ G H S D q => by
  refine pss_to (pss_cons (ps_expr (pe_bm PySem.F.plainAttrs_list PySem.F.slot_list_append PySem.F.type_list_append mt_append (pe_ix ix_list (pe_var hN hv hd hcd) pe_w hpl) (pa_cons pe_w pa_nil hs) hbase hfew hline hs hplain) hsw) pss_w) ?_
  obtain ⟨e1, o1⟩ := S.es.atN he
  refine ⟨.ref p, e1, xp_run h1 S we (wp_mono (wp_bnd.mp q) (fun j hj u G2 H2 l2 S2 r2 => ?_) fun _ z => z)⟩
  obtain ⟨_, o2⟩ := S2.es.atN he
  obtain ⟨n, en', hn⟩ := wp_of (wp_bnd.mp hj)
  obtain ⟨i', a, rfl, ea, ei⟩ := idxN_at o2 en' r2
  have hlt : n < dss.length := by rw [← (own_n.mp o2).2.1]; exact (List.getElem?_eq_some_iff.mp ea).1
  obtain ⟨a0, vs0, ea0, hva0, _⟩ := o2.atN (List.getElem?_eq_getElem hlt)
  have : a0 = a := by rw [ea] at ea0; exact (Option.some.inj ea0).symm
  subst this
  refine ⟨p, _, i', _, rfl, rfl, .inl (.inl (own_n.mp o2).2.2.2.1), ei, .inl ⟨rfl, vs0, .inl (.inl hva0)⟩, ?_⟩
  refine xp_run ha S2 we (wp_mono (wp_bnd.mp hn) (fun l hl u2 G3 H3 l3 S3 r3 => ?_) fun _ z => z)
  obtain ⟨dss', e5, hd2⟩ := wp_of (wp_bnd.mp hl)
  obtain ⟨ds, e6, e7⟩ := Option.bind_eq_some_iff.mp e5
  obtain ⟨ds', e8, rfl⟩ := Option.map_eq_some_iff.mp e7
  obtain ⟨_, o3⟩ := S3.es.atN he
  obtain ⟨a', vs, ea', hva, rva, ga, ma⟩ := o3.atN e6
  have : a' = a0 := by rw [ea] at ea'; exact (Option.some.inj ea').symm
  subst this
  refine m_app G3 H3 a' vs ds u2 l ds' S3.lk hva rva r3 e8 (fun _ H1 => wB X rest D σ H1) fun us r' => ?_
  have o4 := o3.setN (us := us) ea r'
  have hfp : (OO.n as (dss.set n ds')).fp p = (OO.n as dss).fp p := by
    rw [fp_n (own_n.mp o4).2.1, fp_n (own_n.mp o3).2.1]
  have S4 := S3.mutQ (c' := OO.n as (dss.set n ds')) he ma (fun b m => by rw [hfp] at m; exact m) (by trivial) o4
  rw [hφ] at S4
  exact hk _ B σ _ _ S4 D hd2
end
end Wk
set_option maxHeartbeats 4000000
/-! Wk51: for over a list of lists of one's own, each list taken out for its turn. -/
namespace Wk
open PySem PySem.Spec PyProof.Rows L2

/-- all but the list at a -/
def OO.nh (as : List Addr) (dss : List (List D)) (a : Addr) : OO := ⟨.rl as dss.length, (as.zip (dss.map Cell.l)).filter fun x => decide (x.1 ≠ a)⟩
section
variable {K : PySem.W.Frag} {B : Bs} {en : En} {σ : L2.St} {G H : Hp}
theorem nh_fp {q a : Addr} {as : List Addr} {dss : List (List D)} (hl : as.length = dss.length) (hq : q ≠ a) {x : Addr} : x ∈ (OO.nh as dss a).fp q ↔ x ∈ q :: as ∧ x ≠ a := by
  unfold OO.nh OO.fp
  simp only [List.mem_cons, List.mem_map, List.mem_filter, decide_eq_true_eq]
  constructor
  · rintro (rfl | ⟨y, ⟨h1, h2⟩, rfl⟩)
    · exact ⟨.inl rfl, hq⟩
    · obtain ⟨i, e1, _⟩ := zip_mem h1
      exact ⟨.inr (List.mem_of_getElem? e1), h2⟩
  · rintro ⟨rfl | h, n⟩
    · exact .inl rfl
    · obtain ⟨i, hi, e⟩ := List.mem_iff_getElem.mp h
      right
      refine ⟨(x, Cell.l (dss[i]'(by omega))), ⟨mem_zip (i := i) (by rw [List.getElem?_eq_getElem hi, e]) (by rw [List.getElem?_map, List.getElem?_eq_getElem (by omega)]; rfl), n⟩, rfl⟩
theorem own_nh {q a : Addr} {as : List Addr} {dss : List (List D)} {n : Nat} (o : OwnRp K G H q (OO.n as dss)) (e : as[n]? = some a) : OwnRp K G H q (OO.nh as dss a) := by
  have hl := (own_n.mp o).2.1
  have nd := (own_n.mp o).1
  refine ⟨?_, o.2.1, fun x hx => o.2.2 x (List.mem_filter.mp hx).1⟩
  have s : ((OO.nh as dss a).fp q).Sublist (q :: as) := by
    have : ((as.zip (dss.map Cell.l)).filter fun x => decide (x.1 ≠ a)).map (·.1) |>.Sublist as := by
      have h := (List.filter_sublist (p := fun x => decide (x.1 ≠ a)) (l := as.zip (dss.map Cell.l))).map (·.1)
      rw [zip_fst' (by rw [List.length_map]; exact hl)] at h
      exact h
    exact this.cons₂ q
  exact s.nodup nd
theorem own_hn {q a : Addr} {as : List Addr} {dss : List (List D)} {n : Nat} {ds : List D} (o : OwnRp K G H q (OO.nh as dss a)) (nd : (q :: as).Nodup) (e : as[n]? = some a) (c : Cl K G H a (.l ds)) : OwnRp K G H q (OO.n as (dss.set n ds)) := by
  obtain ⟨_, ⟨g, ob, e1, rfl, hl⟩, h3⟩ := o
  have hn := (List.getElem?_eq_some_iff.mp e).1
  refine own_n.mpr ⟨nd, by simp [hl], g, e1, fun i b d f1 f2 => ?_⟩
  by_cases c1 : i = n
  · subst c1
    rw [e] at f1
    cases f1
    rw [List.getElem?_set_self (by omega)] at f2
    cases f2
    exact c
  · rw [List.getElem?_set_ne (fun z => c1 z.symm)] at f2
    have nb : b ≠ a := fun z => by
      subst z
      have h1 := (List.getElem?_eq_some_iff.mp f1).1
      exact c1 (List.getElem_inj (h₀ := h1) (h₁ := hn) (List.nodup_cons.mp nd).2 |>.mp (by rw [(List.getElem?_eq_some_iff.mp f1).2, (List.getElem?_eq_some_iff.mp e).2]))
    exact h3 _ (List.mem_filter.mpr ⟨mem_zip f1 (by rw [List.getElem?_map, f2]; rfl), by simpa using nb⟩)
/-- a list is taken out -/
theorem St8.take {i j : Nat} {q a : Addr} {as : List Addr} {dss : List (List D)} {ds : List D} {n : Nat} (s : St8 K B en σ G H) (hij : i ≠ j) (he : en[j]? = some (some (.o false q (OO.n as dss)))) (ea : as[n]? = some a) (ed : dss[n]? = some ds) :
    St8 K B ((en.set j (some (.o false q (OO.nh as dss a)))).set i (some (.o false a (.l ds)))) (σ.set i (some (.ref a))) G H := by
  obtain ⟨e1, o⟩ := s.es.atN he
  have hl := (own_n.mp o).2.1
  have nd := (own_n.mp o).1
  have ow := s.es.own j false q _ he
  have hqa : q ≠ a := fun z => (List.nodup_cons.mp nd).1 (by rw [z]; exact List.mem_of_getElem? ea)
  have ca := (own_n.mp o).2.2.2.2 n a ds ea ed
  have mem : ∀ x, x ∈ (OO.nh as dss a).fp q → x ∈ (OO.n as dss).fp q := fun x m => by rw [fp_n hl]; exact ((nh_fp hl hqa).mp m).1
  have ma : a ∈ (OO.n as dss).fp q := by rw [fp_n hl]; exact List.mem_cons_of_mem _ (List.mem_of_getElem? ea)
  have hj : j < en.length := (List.getElem?_eq_some_iff.mp he).1
  have cases3 : ∀ (k : Nat) (dv : DV), ((en.set j (some (.o false q (OO.nh as dss a)))).set i (some (.o false a (.l ds))))[k]? = some (some dv) → (k = i ∧ dv = .o false a (.l ds)) ∨ (k = j ∧ k ≠ i ∧ dv = .o false q (OO.nh as dss a)) ∨ (k ≠ i ∧ k ≠ j ∧ en[k]? = some (some dv)) := fun k dv e => by
    rcases get_set e with ⟨rfl, z⟩ | ⟨nk, f⟩
    · cases z; exact .inl ⟨rfl, rfl⟩
    · rcases get_set f with ⟨rfl, z⟩ | ⟨nk2, f2⟩
      · cases z; exact .inr (.inl ⟨rfl, nk, rfl⟩)
      · exact .inr (.inr ⟨nk, nk2, f2⟩)
  refine ⟨⟨s.es.fr, fun k dv e => ?_, fun k l b b' p p' c c' e e' z => ?_, fun k b p c e => ?_⟩, by simp [s.len]⟩
  · rcases cases3 k dv e with ⟨rfl, rfl⟩ | ⟨rfl, nk, rfl⟩ | ⟨nk, nk2, f⟩
    · have hi : k < σ.length := by
        rw [s.len]
        have := (List.getElem?_eq_some_iff.mp e).1
        simpa using this
      exact ⟨_, List.getElem?_set_self hi, rfl, ⟨by simp [OO.fp], ca, fun x hx => by cases hx⟩⟩
    · exact ⟨.ref q, by rw [List.getElem?_set_ne (Ne.symm nk)]; exact e1, rfl, own_nh o ea⟩
    · obtain ⟨u, x, y⟩ := s.es.at_ k dv f
      exact ⟨u, by rw [List.getElem?_set_ne (Ne.symm nk)]; exact x, y⟩
  · obtain ⟨x, z1, z2⟩ := z
    have no_a : a ∉ (OO.nh as dss a).fp q := fun m => ((nh_fp hl hqa).mp m).2 rfl
    rcases cases3 k _ e with ⟨rfl, h1⟩ | ⟨rfl, nk, h1⟩ | ⟨nk, nk2, f⟩ <;> rcases cases3 l _ e' with ⟨rfl, h2⟩ | ⟨rfl, nl, h2⟩ | ⟨nl, nl2, f'⟩
    · rfl
    · cases h1; cases h2
      rw [fp_l z1] at z2; exact absurd z2 no_a
    · cases h1
      rw [fp_l z1] at z2
      exact absurd (s.es.ones l j _ _ _ _ _ _ f' he ⟨a, z2, ma⟩) nl2
    · cases h1; cases h2
      rw [fp_l z2] at z1; exact absurd z1 no_a
    · rfl
    · cases h1
      exact absurd (s.es.ones l k _ _ _ _ _ _ f' he ⟨x, z2, mem x z1⟩) nl2
    · cases h2
      rw [fp_l z2] at z1
      exact absurd (s.es.ones k j _ _ _ _ _ _ f he ⟨a, z1, ma⟩) nk2
    · cases h2
      exact absurd (s.es.ones k l _ _ _ _ _ _ f he ⟨x, z1, mem x z2⟩) nk2
    · exact s.es.ones k l _ _ _ _ _ _ f f' ⟨x, z1, z2⟩
  · rcases cases3 k _ e with ⟨rfl, h1⟩ | ⟨rfl, nk, h1⟩ | ⟨nk, nk2, f⟩
    · cases h1; exact ⟨ow.own ma, fun x hx => by cases hx⟩
    · cases h1; exact ⟨ow.1, fun x hx => ow.2 x (List.mem_filter.mp hx).1⟩
    · exact s.es.own k b p c f
/-- and put back -/
theorem St8.putBack {i j : Nat} {q a : Addr} {as : List Addr} {dss : List (List D)} {ds : List D} {n : Nat} (hij : i ≠ j) (hj : j < en.length) (hi : en[i]? = some none) (nd : (q :: as).Nodup) (hl : as.length = dss.length) (ea : as[n]? = some a)
    (s : St8 K B ((en.set j (some (.o false q (OO.nh as dss a)))).set i (some (.o false a (.l ds)))) σ G H) : St8 K B (en.set j (some (.o false q (OO.n as (dss.set n ds))))) σ G H := by
  have hlen : i < en.length := (List.getElem?_eq_some_iff.mp hi).1
  have hei : ((en.set j (some (.o false q (OO.nh as dss a)))).set i (some (.o false a (.l ds))))[i]? = some (some (.o false a (.l ds))) := by rw [List.getElem?_set_self (by simpa using hlen)]
  have hej : ((en.set j (some (.o false q (OO.nh as dss a)))).set i (some (.o false a (.l ds))))[j]? = some (some (.o false q (OO.nh as dss a))) := by rw [List.getElem?_set_ne hij, List.getElem?_set_self hj]
  obtain ⟨e1, oj⟩ := s.es.atN hej
  obtain ⟨e2, oi⟩ := s.es.atN hei
  have owj := s.es.own j false q _ hej
  have owi := s.es.own i false a _ hei
  have hqa : q ≠ a := fun z => (List.nodup_cons.mp nd).1 (by rw [z]; exact List.mem_of_getElem? ea)
  have on := own_hn oj nd ea oi.2.1
  have hl2 : as.length = (dss.set n ds).length := by simp [hl]
  have mem : ∀ x, x ∈ (OO.n as (dss.set n ds)).fp q → x = a ∨ x ∈ (OO.nh as dss a).fp q := fun x m => by
    rw [fp_n hl2] at m
    by_cases c : x = a
    · exact .inl c
    · exact .inr ((nh_fp hl hqa).mpr ⟨m, c⟩)
  have cases2 : ∀ (k : Nat) (dv : DV), (en.set j (some (.o false q (OO.n as (dss.set n ds)))))[k]? = some (some dv) → (k = j ∧ dv = .o false q (OO.n as (dss.set n ds))) ∨ (k ≠ j ∧ k ≠ i ∧ ((en.set j (some (.o false q (OO.nh as dss a)))).set i (some (.o false a (.l ds))))[k]? = some (some dv)) := fun k dv e => by
    rcases get_set e with ⟨rfl, z⟩ | ⟨nk, f⟩
    · cases z; exact .inl ⟨rfl, rfl⟩
    · have nki : k ≠ i := fun z => by rw [z, hi] at f; cases f
      exact .inr ⟨nk, nki, by rw [List.getElem?_set_ne (Ne.symm nki), List.getElem?_set_ne (Ne.symm nk)]; exact f⟩
  refine ⟨⟨s.es.fr, fun k dv e => ?_, fun k l b b' p p' c c' e e' z => ?_, fun k b p c e => ?_⟩, by have := s.len; simpa using this⟩
  · rcases cases2 k dv e with ⟨rfl, rfl⟩ | ⟨nk, nki, f⟩
    · exact ⟨_, e1, rfl, on⟩
    · exact s.es.at_ k dv f
  · obtain ⟨x, z1, z2⟩ := z
    rcases cases2 k _ e with ⟨rfl, h1⟩ | ⟨nk, nki, f⟩ <;> rcases cases2 l _ e' with ⟨rfl, h2⟩ | ⟨nl, nli, f'⟩
    · rfl
    · cases h1
      rcases mem x z1 with rfl | m
      · exact absurd (s.es.ones l i _ _ _ _ _ _ f' hei ⟨_, z2, fp_top⟩) nli
      · exact absurd (s.es.ones l k _ _ _ _ _ _ f' hej ⟨_, z2, m⟩) nl
    · cases h2
      rcases mem x z2 with rfl | m
      · exact absurd (s.es.ones k i _ _ _ _ _ _ f hei ⟨_, z1, fp_top⟩) nki
      · exact absurd (s.es.ones k l _ _ _ _ _ _ f hej ⟨_, z1, m⟩) nk
    · exact s.es.ones k l _ _ _ _ _ _ f f' ⟨x, z1, z2⟩
  · rcases cases2 k _ e with ⟨rfl, h1⟩ | ⟨nk, nki, f⟩
    · cases h1
      refine ⟨owj.1, fun x hx => .inr ?_⟩
      have m : x.1 ∈ (OO.n as (dss.set n ds)).fp q := List.mem_cons_of_mem _ (List.mem_map_of_mem hx)
      rcases mem _ m with z | z
      · rw [z]; exact owi.1
      · exact owj.own z
    · exact s.es.own k b p c f
end
def mapNN (f : List D → R (List D)) : List (List D) → R (List (List D))
  | [] => .ok []
  | d :: ds => (f d).bnd fun y => (mapNN f ds).bnd fun ys => .ok (y :: ys)
section
variable {X : Cx} {W : WN} {eE : En} {en : En} {ec : Nat → Addr} {pos : Pos} {ω : Type} {T : Bs → ω → Ends → Prop} {rest : List Stmt}
/-- for x in y: y a list of lists of one's own, each one changed in its turn -/
theorem xs_forN {i j : Nat} {q : Addr} {as : List Addr} {dss : List (List D)} {x y : Str} {p py : Pos} {body : List Stmt} {step : List D → R (List D)} (Gx : Go X ec W) (he : en[j]? = some (some (.o false q (OO.n as dss))))
    (hb : ∀ a c ds, XB X W eE body ((en.set j (some (.o false q c))).set i (some (.o false a (.l ds)))) (step ds) (TN X.K fun ds' e => e = (en.set j (some (.o false q c))).set i (some (.o false a (.l ds'))))) (hij : i ≠ j := by decide) (hi : en[i]? = some none := by rfl)
    (hN : X.N[i]? = some x := by rfl) (hNy : X.N[j]? = some y := by rfl) (hv : Vis X.env.scope y := by first | exact Or.inl rfl | exact Or.inr (Or.inl rfl) | exact Or.inr (Or.inr rfl)) (hd : (y == ("__debug__" : Str)) = false := by decide) (hcd : (y == ("__classdict__" : Str)) = false := by decide)
    (hx : Loc X.env.scope x := by first | exact Or.inl rfl | exact Or.inr rfl)
    (hs : ∀ x, foldedSetIterable (.Name y py) X.env x = pure x := by intro _; rfl) (hf : X.fn x = true ∨ X.env.scope.names.lookup x = some .local := by first | exact .inl rfl | exact .inr rfl) : XS X W eE (.For (.Name x p) (.Name y py) body [] pos) en (mapNN step dss) (TN X.K fun dss' e => e = en.set j (some (.o false q (OO.n as dss')))) := fun B σ G H S D k => by
  obtain ⟨e1, o0⟩ := S.es.atN he
  have nd := (own_n.mp o0).1
  have hlen0 := (own_n.mp o0).2.1
  have hj : j < en.length := (List.getElem?_eq_some_iff.mp he).1
  refine ps_to (ps_for Gx.po Gx.calm (pi_any (pe_var hNy hv hd hcd)) (pg_name Gx.nd hN hx hf) pss_w hs) ⟨.ref _, e1, _, rfl, .inl ⟨⟨_, .inl (.inl (own_n.mp o0).2.2.2.1)⟩, ?_⟩⟩
  refine ⟨fun n m σ' H' => m = dss.length - n ∧ n ≤ dss.length ∧ ∃ dn G', dn.length = n ∧ St8 X.K B (en.set j (some (.o false q (OO.n as (dn ++ dss.drop n))))) σ' G' H' ∧ wp (mapNN step (dss.drop n)) (fun ys => TN X.K (fun dss' e => e = en.set j (some (.o false q (OO.n as dss')))) B (dn ++ ys) D) (fun c => ∀ σ G H, Es X.K B eE σ G H → W c σ H), ⟨_, rfl, Nat.zero_le _, [], G, rfl, ?_, k⟩, ?_⟩
  · have : en.set j (some (.o false q (OO.n as dss))) = en := by
      have h2 := (List.getElem?_eq_some_iff.mp he).2
      rw [← h2]; exact List.set_getElem_self hj
    show St8 X.K B (en.set j (some (.o false q (OO.n as dss)))) σ G H
    rw [this]; exact S
  · rintro n m σ' H' ⟨rfl, hn, dn, G', hdn, S', p⟩
    have hej : (en.set j (some (.o false q (OO.n as (dn ++ dss.drop n)))))[j]? = some (some (.o false q (OO.n as (dn ++ dss.drop n)))) := List.getElem?_set_self hj
    obtain ⟨_, o1⟩ := S'.es.atN hej
    have hp1 := (own_n.mp o1).2.2.2.1
    have hl1 := (own_n.mp o1).2.1
    by_cases hlt : n < dss.length
    · have hna : n < as.length := by omega
      have edr : (dn ++ dss.drop n)[n]? = some dss[n] := by
        rw [List.getElem?_append_right (by omega), hdn, Nat.sub_self, List.getElem?_drop]; simp [hlt]
      rw [List.drop_eq_getElem_cons hlt] at p
      refine .inr ⟨⟨_, .ref as[n], .inl (.inl hp1), by rw [List.getElem?_map, List.getElem?_eq_getElem hna]; rfl⟩, fun σ3 H3 => ∃ dn G3, dn.length = n + 1 ∧ St8 X.K B (en.set j (some (.o false q (OO.n as (dn ++ dss.drop (n + 1)))))) σ3 G3 H3 ∧ wp (mapNN step (dss.drop (n + 1))) (fun ys => TN X.K (fun dss' e => e = en.set j (some (.o false q (OO.n as dss')))) B (dn ++ ys) D) (fun c => ∀ σ G H, Es X.K B eE σ G H → W c σ H), fun σ3 H3 ⟨d3, G3, h1, h2, h3⟩ => ⟨dss.length - (n + 1), by omega, rfl, hlt, d3, G3, h1, h2, h3⟩, fun xv H4 y => ?_⟩
      obtain ⟨rfl, y⟩ := y
      have := y _ (.inl (.inl hp1))
      rw [List.getElem?_map, List.getElem?_eq_getElem hna] at this
      cases this
      have S5 := S'.take (i := i) hij hej (List.getElem?_eq_getElem hna) edr
      rw [List.set_set] at S5
      have p' := wp_bnd.mp p
      refine hb as[n] (OO.nh as (dn ++ dss.drop n) as[n]) dss[n] B _ G' _ S5 _ (wp_mono p' (fun ds' hds' e6 σ6 G6 H6 he6 S6 => ?_) fun _ z => z)
      subst he6
      have S7 := St8.putBack hij hj hi nd hl1 (List.getElem?_eq_getElem hna) S6
      refine ⟨dn ++ [ds'], G6, by simp [hdn], ?_, ?_⟩
      · have e7 : (dn ++ dss.drop n).set n ds' = dn ++ [ds'] ++ dss.drop (n + 1) := by
          rw [List.set_append_right _ _ (by omega), hdn, Nat.sub_self, List.drop_eq_getElem_cons hlt, List.set_cons_zero, List.append_assoc]; rfl
        rw [e7] at S7
        exact S7
      · refine wp_mono (wp_bnd.mp hds') (fun ys hy => ?_) fun _ z => z
        have hy : TN X.K (fun dss' e => e = en.set j (some (.o false q (OO.n as dss')))) B (dn ++ (ds' :: ys)) D := hy
        rw [List.append_assoc]
        exact hy
    · have en' : n = dss.length := by omega
      subst en'
      rw [List.drop_length] at p
      have p : TN X.K (fun dss' e => e = en.set j (some (.o false q (OO.n as dss')))) B (dn ++ []) D := p
      rw [List.append_nil] at p
      refine .inl ⟨⟨_, .inl (.inl hp1), by rw [List.length_map]; omega⟩, p _ σ' G' H' rfl ?_⟩
      rw [List.drop_length, List.append_nil] at S'
      exact S'
end
end Wk
set_option maxHeartbeats 4000000
/-! Wk52: dicts with whole numbers in them, compared. -/
namespace Wk
open PySem PySem.Spec PyProof.Rows L2

def kiV (m : List (Key × Int)) : List (Key × V) := m.map fun x => (x.1, V.int x.2)
def eqKI (m n : List (Key × Int)) : Bool := m.length == n.length && m.all fun x => decide (kvGet n x.1 = some x.2)
theorem kiV_get (m : List (Key × Int)) (k : Key) : valV (kiV m) k = (kvGet m k).map V.int := by
  induction m with
  | nil => rfl
  | cons x r ih =>
    show valV ((x.1, V.int x.2) :: kiV r) k = _
    unfold kvGet
    by_cases e : x.1 = k
    · rw [valV_pos (by exact e), if_pos e]; rfl
    · rw [valV_neg (by exact e), if_neg e]; exact ih
theorem hitsKI {A : Around} {s : Shared} {n : List (Key × Int)} {vb : List (Key × Value)} (rb : KV (kiV n) vb) : ∀ {m : List (Key × Int)} {va : List (Key × Value)}, KV (kiV m) va → PySem.W.KeqHits A s vb va (m.all fun x => decide (kvGet n x.1 = some x.2))
  | [], va, ra => by cases ra; exact .nil
  | x :: m, va, ra => by
    cases ra with
    | @cons _ y _ ys h t =>
      obtain ⟨h1, t1, h2⟩ := h
      have ih := hitsKI (A := A) (s := s) rb t
      have hv := rb.val x.1
      rw [kiV_get] at hv
      obtain ⟨yk, yv⟩ := y
      have h1 : x.1 = yk := h1
      have h2 : yv = Value.int x.2 t1 := h2
      subst h1
      subst h2
      rw [List.all_cons]
      cases z : kvGet n x.1 with
      | none =>
        rw [z] at hv
        have : valueAt vb x.1 = none := RelO.none_of hv
        have e : (decide ((none : Option Int) = some x.2) && m.all fun x => decide (kvGet n x.1 = some x.2)) = false := by simp
        rw [e]
        exact .miss this
      | some j =>
        rw [z] at hv
        obtain ⟨w, hw, t2, rfl⟩ := RelO.some_of (v := V.int j) hv
        have e : decide (some j = some x.2) = decide (x.2 = j) := by
          by_cases c : x.2 = j
          · simp [c]
          · simp [c, Ne.symm c]
        rw [e]
        have q := SeqAt.EqAt.int_int (A := A) (s := s) x.2 t1 j t2
        rw [Bool.beq_eq_decide_eq] at q
        exact .hit hw q ih
section
variable {X : Cx}
def rEqKI (ne : Bool) : R2 := fun x y H Q => ∃ a b m n, x = .ref a ∧ y = .ref b ∧ Rd H a (.dK (kiV m)) ∧ Rd H b (.dK (kiV n)) ∧ Q (.bl (ne ^^ eqKI m n)) H
theorem op_eqKI (hu : X.A.units + 64 < cLine) : OpR X (compareOp .Eq) (rEqKI false) := fun pins s σ H x y v u Q I rx ry h => by
  obtain ⟨a, b, m, n, rfl, rfl, ea, eb, q⟩ := h
  cases rx
  cases ry
  obtain ⟨_, ya, va, ra, da⟩ := dk_rd I.hok ea
  obtain ⟨_, yb, vb, rb, db⟩ := dk_rd I.hok eb
  refine PySem.W.keq_eq (knd := mixKind X.prog X.w) ya yb da db (by omega) (fun _ => hitsKI rb ra) (fin_bl I q ?_)
  have h1 : va.length = m.length := by rw [← ra.length]; simp [kiV]
  have h2 : vb.length = n.length := by rw [← rb.length]; simp [kiV]
  rw [h1, h2]; simp [eqKI]
theorem op_neKI (hu : X.A.units + 64 < cLine) : OpR X (compareOp .NotEq) (rEqKI true) := fun pins s σ H x y v u Q I rx ry h => by
  obtain ⟨a, b, m, n, rfl, rfl, ea, eb, q⟩ := h
  cases rx
  cases ry
  obtain ⟨_, ya, va, ra, da⟩ := dk_rd I.hok ea
  obtain ⟨_, yb, vb, rb, db⟩ := dk_rd I.hok eb
  refine PySem.W.keq_ne (knd := mixKind X.prog X.w) ya yb da db (by omega) (fun _ => hitsKI rb ra) (fin_bl I q ?_)
  have h1 : va.length = m.length := by rw [← ra.length]; simp [kiV]
  have h2 : vb.length = n.length := by rw [← rb.length]; simp [kiV]
  rw [h1, h2]; simp [eqKI]
end
def KDint : KD → Option (List (Key × Int))
  | [] => some []
  | (k, .int i) :: r => (KDint r).map fun q => (k, i) :: q
  | _ :: _ => none
theorem kdint_rp {K : PySem.W.Frag} {G : Hp} : ∀ {m : KD} {kvs : List (Key × V)} {n : List (Key × Int)}, KvRp K G kvs m → KDint m = some n → kvs = kiV n
  | [], kvs, n, r, e => by
    cases e
    have := r.1
    cases kvs with
    | nil => rfl
    | cons x y => simp at this
  | (k, d) :: m, kvs, n, r, e => by
    cases d <;> simp only [KDint, Option.map_eq_some_iff, reduceCtorEq] at e
    obtain ⟨q, e1, rfl⟩ := e
    cases kvs with
    | nil => have := r.1; simp at this
    | cons x y =>
      obtain ⟨h1, h2, h3⟩ := kvrp_cons.mp r
      cases x
      cases h2
      have h1 : _ = k := h1
      subst h1
      rw [kdint_rp h3 e1]; rfl
def D.eqK (x y : D) : Option Bool := x.kvs.bind fun m => y.kvs.bind fun n => (KDint m).bind fun a => (KDint n).map fun b => eqKI a b
def D.neK (x y : D) : Option Bool := (D.eqK x y).map fun b => !b
theorem d_eqK' {K : PySem.W.Frag} (ne : Bool) : OpD K (rEqKI ne) (fun x y => ((D.eqK x y).map fun b => ne ^^ b).map .bl) := fun G H x y dx dy d l rx ry e Q q => by
  obtain ⟨b', e0, rfl⟩ := Option.map_eq_some_iff.mp e
  obtain ⟨b, e1, rfl⟩ := Option.map_eq_some_iff.mp e0
  obtain ⟨m, e2, e3⟩ := Option.bind_eq_some_iff.mp e1
  obtain ⟨n, e4, e5⟩ := Option.bind_eq_some_iff.mp e3
  obtain ⟨a, e6, e7⟩ := Option.bind_eq_some_iff.mp e5
  obtain ⟨c, e8, rfl⟩ := Option.map_eq_some_iff.mp e7
  obtain ⟨p1, kvs1, rfl, h1, h2, _⟩ := rp_kvs rx e2
  obtain ⟨p2, kvs2, rfl, h3, h4, _⟩ := rp_kvs ry e4
  have t1 := kdint_rp h2 e6
  have t2 := kdint_rp h4 e8
  subst t1
  subst t2
  exact ⟨p1, p2, a, c, rfl, rfl, l.rdK h1, l.rdK h3, keepQ l q (.bl _)⟩
theorem d_eqK {K : PySem.W.Frag} : OpD K (rEqKI false) (fun x y => (D.eqK x y).map .bl) := fun G H x y dx dy d l rx ry e Q q => by
  refine d_eqK' false G H x y dx dy d l rx ry ?_ Q q
  rw [← e]; show Option.map D.bl (Option.map _ (D.eqK dx dy)) = Option.map D.bl (D.eqK dx dy); cases D.eqK dx dy <;> simp
theorem d_neK {K : PySem.W.Frag} : OpD K (rEqKI true) (fun x y => (D.neK x y).map .bl) := fun G H x y dx dy d l rx ry e Q q => by
  refine d_eqK' true G H x y dx dy d l rx ry ?_ Q q
  rw [← e]; show Option.map D.bl (Option.map _ (D.eqK dx dy)) = Option.map D.bl (D.neK dx dy); unfold D.neK; cases D.eqK dx dy <;> simp
end Wk
set_option maxHeartbeats 4000000
/-! Wk53: dict of a constant, small things for the printer. -/
namespace Wk
open PySem PySem.Spec PyProof.Rows L2

/-- a module's constant ((i, j),) -/
def OneOk (K : PySem.W.Frag) (mg : Str → Option Value) (x : Str) (i j : Int) : Prop := ∃ (a b : Addr) (n n2 : Nat) (t1 t2 : Tok) (s1 s2 : Array (Option Value)), mg x = some (.ref a) ∧ K.lookup a = some ⟨.type "tuple", none, .seq #[.ref b] n, s1⟩ ∧ K.lookup b = some ⟨.type "tuple", none, .seq #[.int i t1, .int j t2] n2, s2⟩
section
variable {X : Cx} {W : WN} {en : En} {ec : Nat → Addr} {pos : Pos}
/-- dict(ONE) -/
theorem xk_dictC {x : Str} {i j : Int} {p px : Pos} (g : Go X ec W) (h : OneOk X.K X.mg x i j) (hm : X.mg "dict" = none) (hg : Gl X "dict" := by rfl) (hx : Gl X x := by rfl) (hd : (x == ("__debug__" : Str)) = false := by decide)
    (h1 : starEach [.Name x px] X.env = (false, eval (.Name x px) X.env) :: starEach [] X.env := by rfl) (h2 : (backTo pos (starEach [] X.env)).any (·.1) = false := by rfl) : XK X W (.Call (.Name "dict" p) [.Name x px] [] pos) en (.ok [(.inl i, .int j)]) := fun σ G H S Q q => by
  obtain ⟨a, b, n, n2, t1, t2, s1, s2, h3, h4, h5⟩ := h
  have sq : SqT X.K H a [V.ref b] := .inr ⟨_, _, _, h4, rfl, rfl, by simp [sizeLine_eq], .cons rfl .nil⟩
  have sq2 : SqT X.K H b [.int i, .int j] := .inr ⟨_, _, _, h5, rfl, rfl, by simp [sizeLine_eq], .cons ⟨_, rfl⟩ (.cons ⟨_, rfl⟩ .nil)⟩
  have q : NewK X.K G H [(.inl i, .int j)] Q := q
  refine pe_to (pe_callTy (call_dictPX g.calm) hg hm (by decide +kernel) (pa_cons (pe_glob hx h3 (v := .ref a) rfl hd) pa_nil h1) (by decide) (by decide) h1 h2) ⟨a, _, [b], [(.inl i, .int j)], rfl, sq, .inr h4, rfl, rfl, .cons sq2 .nil, fun p hp => ?_⟩
  exact newK (kvs := mergeK [] [(.inl i, .int j)]) S.le hp (KvRp.merge (m := []) (m2 := [(.inl i, .int j)]) ⟨rfl, .cons (.int j) .nil⟩ ⟨rfl, .nil⟩ .nil) (kvMerge_nd (m := []) .nil) q
end
section
variable {X : Cx} {W : WN} {eE : En} {en en' : En} {ec : Nat → Addr} {pos : Pos} {ω : Type} {T : Bs → ω → Ends → Prop} {rest st : List Stmt}
theorem xb_wk {m : R ω} (w : Wkn en' en) (h : XB X W eE st en' m T) : XB X W eE st en m T := fun B σ G H S D q => h B σ G H (S.weak w) D q
/-- x = [] -/
theorem xb_letNil {i : Nat} {x : Str} {p pl : Pos} {m : R ω} (g : Go X ec W) (φ : Addr → En) (hk : ∀ a, XB X W eE rest (φ a) m T) (hi : X.N[i]? = some x := by rfl) (hφ : ∀ a, en.set i (some (.o false a (.l []))) = φ a := by intro _; rfl)
    (hx : Loc X.env.scope x := by first | exact Or.inl rfl | exact Or.inr rfl) (we : Wk0 eE en := by first | exact wk0_nil | exact wk0_refl | assumption | exact Wkn.wk0 (by repeat' first | exact Wkn.nil | apply Wkn.k | apply Wkn.d)) (hs : swapsWith (.List [] pl) (some (.Name x p)) pos.line X.env = pure false := by first | exact swaps_no rfl | exact swapsS_no rfl | rfl)
    (hf : X.fn x = true ∨ X.env.scope.names.lookup x = some .local := by first | exact .inl rfl | exact .inr rfl) : XB X W eE (.Assign [.Name x p] (.List [] pl) pos :: rest) en m T := fun B σ G H S D q => by
  refine xb_letN (k := fun ds => match ds with | [] => m | _ => .bad) g (fun a ds => en.set i (some (.o false a (.l ds)))) (xn_lst xa_nil) (fun a ds => ?_) hi (fun _ _ => rfl) hx we hs hf B σ G H S D q
  cases ds with
  | nil => rw [hφ]; exact hk a
  | cons x y => exact fun B σ G H S D q => q.elim
/-- x.clear(), x not used behind it -/
theorem xb_clearN {i : Nat} {p : Addr} {px pa pc : Pos} {as : List Addr} {dss : List (List D)} {x : Str} {m : R ω} (φ : En) (hk : XB X W eE rest φ m T) (he : en[i]? = some (some (.o false p (OO.n as dss))) := by rfl) (hφ : en.set i none = φ := by rfl)
    (hN : X.N[i]? = some x := by rfl) (hv : Vis X.env.scope x := by first | exact Or.inl rfl | exact Or.inr (Or.inl rfl) | exact Or.inr (Or.inr rfl)) (hd : (x == ("__debug__" : Str)) = false := by decide) (hcd : (x == ("__classdict__" : Str)) = false := by decide)
    (hbase : attributeBase (.Name x px) "clear" X.env (eval (.Name x px) X.env) = eval (.Name x px) X.env := by rfl) (hline : (pa.endLine == pc.line) = true := by rfl)
    (hsw : swapsWith (.Call (.Attribute (.Name x px) "clear" pa) [] [] pc) none pos.line X.env = pure false := by first | exact swaps_no rfl | exact swapsS_no rfl | rfl) : XB X W eE (.Expr (.Call (.Attribute (.Name x px) "clear" pa) [] [] pc) pos :: rest) en m T := fun B σ G H S D q => by
  obtain ⟨e1, o⟩ := S.es.atN he
  have hp := (own_n.mp o).2.2.2.1
  have ow := S.es.own i false p _ he
  refine pss_to (pss_cons (ps_expr (pe_bm0 PySem.F.plainAttrs_list PySem.F.slot_list_clear PySem.F.type_list_clear mt_clear (pe_var hN hv hd hcd) hbase hline) hsw) pss_w) ⟨.ref p, e1, .inl ⟨rfl, _, .inl (.inl hp)⟩, p, _, rfl, rfl, hp, ?_⟩
  have S1 : St8 X.K B φ σ G H := by
    rw [← hφ]
    refine ⟨S.es.weak fun j dv e => ?_, by simp [S.len]⟩
    rcases get_set e with ⟨_, z⟩ | ⟨_, f⟩
    · cases z
    · exact f
  refine hk B σ _ _ (S1.mutD (o := .lst []) ow.1 (fun j b q' c e m => ?_) (o.fpG fp_top)) D q
  rw [← hφ] at e
  rcases get_set e with ⟨_, z⟩ | ⟨n, f⟩
  · cases z
  · exact n (S.es.ones j i _ _ _ _ _ _ f he ⟨p, m, fp_top⟩)
/-- f(), a def that raises nothing -/
theorem xp_call0 {x : Str} {p : Pos} {k : Nat} {f : Addr} {fd : FuncData} {fm : List D → R D} (g : Go X ec W) (F : FnOk X.prog X.w X.K X.mg X.base (L2.CX X.prog X.w) k f fd [] (spR X.K ec (rP X.K) 0 fm)) (hr : Room k X.A) (hm : X.mg x = some (.ref f)) (hk : PySem.W.keepIn X.K (.ref f) = true) (hb : Binds X.K fd [] [])
    (hg : Gl X x := by rfl) (hdb : (x == ("__debug__" : Str)) = false := by decide) : XP X W (.Call (.Name x p) [] [] pos) en (fm []).quiet := fun σ G H S Q h => by
  refine pe_to (pe_call0 (E := fun _ _ _ => False) F hr hg hm hk hb .nil (passes_call g.tk fun _ _ _ _ z => z.elim) hdb) ⟨G, [], S.le, .nil, rfl, wp_mono (wp_quiet h) (fun d hd v G2 H2 w r => hd v G2 H2 w r) fun _ z => z.elim⟩
end
def D.shl : D → D → Option D
  | .int i, .int j => if 0 ≤ j ∧ j ≤ 1000000 ∧ i.natAbs < 2 ^ 64 then some (.int (i * 2 ^ j.toNat)) else none
  | _, _ => none
def D.shr : D → D → Option D
  | .int i, .int j => if 0 ≤ j then some (.int (i / 2 ^ j.toNat)) else none
  | _, _ => none
theorem d_shl {K : PySem.W.Frag} : OpD K (rI CPow fun i j => .int (i * 2 ^ j.toNat)) D.shl := fun G H x y dx dy d l rx ry e Q q => by
  unfold D.shl at e
  split at e
  · split at e
    · rename_i hz
      cases e; cases rx; cases ry; exact ⟨_, _, rfl, rfl, hz, keepQ l q (.int _)⟩
    · cases e
  · cases e
theorem d_shr {K : PySem.W.Frag} : OpD K (rI (fun _ j => 0 ≤ j) fun i j => .int (i / 2 ^ j.toNat)) D.shr := fun G H x y dx dy d l rx ry e Q q => by
  unfold D.shr at e
  split at e
  · split at e
    · rename_i hz
      cases e; cases rx; cases ry; exact ⟨_, _, rfl, rfl, hz, keepQ l q (.int _)⟩
    · cases e
  · cases e
/-- a def of which nothing is known -/
theorem fn_bad {P : Program} {w : World} {K : PySem.W.Frag} {mg : Str → Option Value} {base : Heap} {ec : Nat → Addr} {ω : Type} {x qual : Str} {st : Stmt} {f : Addr} {fd : FuncData} {N ps : List Str} {k n : Nat} {Rr : Hp → ω → V → Hp → Hp → Prop} {fm : List D → R ω} (F : Fun K x qual st f fd) (S : FnScope N ps (defScope st)) (hn : ps.length = n) (hb : ∀ ds, fm ds = .bad) :
    FnOk P w K mg base (L2.CX P w) (k + 1) f fd ps (spR K ec Rr n fm) := by
  refine F.okX S (fun vs H Q E h => ?_) (fun cdv A outer s H vs Q E hr h => ?_)
  · obtain ⟨G, ds, l, r, e, _⟩ := h
    rw [r.len, e, hn]
  · obtain ⟨G, ds, l, r, e, q⟩ := h
    rw [hb] at q
    exact q.elim
def apK1 (f : KD → D → R KD) (c : KD) : List D → R KD
  | [x] => f c x
  | _ => .bad
def apK2 (f : KD → D → D → R KD) (c : KD) : List D → R KD
  | [x, y] => f c x y
  | _ => .bad
theorem lnK2 {f : KD → D → D → R KD} (c : KD) (ds : List D) (P : KD → Prop) (E : Nat → Prop) (h : wp (apK2 f c ds) P E) : ds.length = 2 := by
  match ds, h with
  | [_, _], _ => rfl
end Wk
set_option maxHeartbeats 4000000
/-! Wk54: for with three names; comprehensions over one's own list. -/
namespace Wk
open PySem PySem.Spec PyProof.Rows L2

section
variable {X : Cx} {W : WN} {eE : En} {en : En} {ec : Nat → Addr} {pos : Pos} {α β ω : Type} {T : Bs → ω → Ends → Prop} {rest : List Stmt}
theorem xs_for3O {i j l : Nat} {x y z : Str} {p p' p'' p2 : Pos} {k : Nat} {it : Expr} {body : List Stmt} {L : α → En → Prop} {Rr : Hp → β → V → Hp → Hp → Prop} {step : α → D → D → D → R (Out α β)} {mi : R (List D)} {a0 : α} {e0 : En} (g : Go X ec W) (hi : XI X W (.Tuple [.Name x p, .Name y p', .Name z p''] k p2) it en mi) (h0 : L a0 e0) (w0 : Wkn e0 en)
    (hb : ∀ a e d d' d'', L a e → XB X W eE body (((e.set i (some (.v d))).set j (some (.v d'))).set l (some (.v d''))) (step a d d' d'') (TO X.K L Rr)) (hN : X.N[i]? = some x := by rfl) (hN' : X.N[j]? = some y := by rfl) (hN'' : X.N[l]? = some z := by rfl) (hx : Loc X.env.scope x := by first | exact Or.inl rfl | exact Or.inr rfl) (hx' : Loc X.env.scope y := by first | exact Or.inl rfl | exact Or.inr rfl) (hx'' : Loc X.env.scope z := by first | exact Or.inl rfl | exact Or.inr rfl)
    (we : Wk0 eE en := by first | exact wk0_nil | exact wk0_refl | assumption | exact Wkn.wk0 (by repeat' first | exact Wkn.nil | apply Wkn.k | apply Wkn.d)) (hs : ∀ x, foldedSetIterable it X.env x = pure x := by intro _; rfl) (hf : X.fn x = true ∨ X.env.scope.names.lookup x = some .local := by first | exact .inl rfl | exact .inr rfl) (hf' : X.fn y = true ∨ X.env.scope.names.lookup y = some .local := by first | exact .inl rfl | exact .inr rfl) (hf'' : X.fn z = true ∨ X.env.scope.names.lookup z = some .local := by first | exact .inl rfl | exact .inr rfl)
    (hn : (assignEach [.Name x p, .Name y p', .Name z p''] X.env).length = 3 := by rfl) (hst : (assignEach [.Name x p, .Name y p', .Name z p''] X.env).findIdx? (·.1) = none := by rfl)
    (h1 : (assignEach [.Name x p, .Name y p', .Name z p''] X.env).map (·.2) = assign (.Name x p) X.env :: (assignEach [.Name y p', .Name z p''] X.env).map (·.2) := by rfl) (h2 : (assignEach [.Name y p', .Name z p''] X.env).map (·.2) = assign (.Name y p') X.env :: (assignEach [.Name z p''] X.env).map (·.2) := by rfl) (h3 : (assignEach [.Name z p''] X.env).map (·.2) = assign (.Name z p'') X.env :: (assignEach [] X.env).map (·.2) := by rfl) :
    XS X W eE (.For (.Tuple [.Name x p, .Name y p', .Name z p''] k p2) it body [] pos) en (mi.bnd fun ds => loopR (fun a d => (R.of d.three).bnd fun q => step a q.1 q.2.1 q.2.2) a0 ds) (TO X.K L Rr) :=
  for_core g (pg_tup g.calm (pgs_cons (pg_name g.nd hN hx hf) (pgs_cons (pg_name g.nd hN' hx' hf') (pgs_cons (pg_name g.nd hN'' hx'' hf'') pgs_nil h3) h2) h1) hn hst) tg_three hi h0 w0 (fun a e d P E hL hw => by
    obtain ⟨(q : D × D × D), e1, e2⟩ := wp_of (wp_bnd.mp hw)
    refine ⟨((e.set i (some (.v q.1))).set j (some (.v q.2.1))).set l (some (.v q.2.2)), by rw [e1]; rfl, ?_⟩
    rw [e1]
    exact hb a e q.1 q.2.1 q.2.2 hL) we hs
theorem xs_for3 {i j l : Nat} {x y z : Str} {p p' p'' p2 : Pos} {k : Nat} {it : Expr} {body : List Stmt} {L : α → En → Prop} {step : α → D → D → D → R α} {mi : R (List D)} {a0 : α} {e0 : En} (g : Go X ec W) (hi : XI X W (.Tuple [.Name x p, .Name y p', .Name z p''] k p2) it en mi) (h0 : L a0 e0) (w0 : Wkn e0 en)
    (hb : ∀ a e d d' d'', L a e → XB X W eE body (((e.set i (some (.v d))).set j (some (.v d'))).set l (some (.v d''))) (step a d d' d'') (TN X.K L)) (hN : X.N[i]? = some x := by rfl) (hN' : X.N[j]? = some y := by rfl) (hN'' : X.N[l]? = some z := by rfl) (hx : Loc X.env.scope x := by first | exact Or.inl rfl | exact Or.inr rfl) (hx' : Loc X.env.scope y := by first | exact Or.inl rfl | exact Or.inr rfl) (hx'' : Loc X.env.scope z := by first | exact Or.inl rfl | exact Or.inr rfl)
    (we : Wk0 eE en := by first | exact wk0_nil | exact wk0_refl | assumption | exact Wkn.wk0 (by repeat' first | exact Wkn.nil | apply Wkn.k | apply Wkn.d)) (hs : ∀ x, foldedSetIterable it X.env x = pure x := by intro _; rfl) (hf : X.fn x = true ∨ X.env.scope.names.lookup x = some .local := by first | exact .inl rfl | exact .inr rfl) (hf' : X.fn y = true ∨ X.env.scope.names.lookup y = some .local := by first | exact .inl rfl | exact .inr rfl) (hf'' : X.fn z = true ∨ X.env.scope.names.lookup z = some .local := by first | exact .inl rfl | exact .inr rfl)
    (hn : (assignEach [.Name x p, .Name y p', .Name z p''] X.env).length = 3 := by rfl) (hst : (assignEach [.Name x p, .Name y p', .Name z p''] X.env).findIdx? (·.1) = none := by rfl)
    (h1 : (assignEach [.Name x p, .Name y p', .Name z p''] X.env).map (·.2) = assign (.Name x p) X.env :: (assignEach [.Name y p', .Name z p''] X.env).map (·.2) := by rfl) (h2 : (assignEach [.Name y p', .Name z p''] X.env).map (·.2) = assign (.Name y p') X.env :: (assignEach [.Name z p''] X.env).map (·.2) := by rfl) (h3 : (assignEach [.Name z p''] X.env).map (·.2) = assign (.Name z p'') X.env :: (assignEach [] X.env).map (·.2) := by rfl) :
    XS X W eE (.For (.Tuple [.Name x p, .Name y p', .Name z p''] k p2) it body [] pos) en (mi.bnd fun ds => foldR (fun a d => (R.of d.three).bnd fun q => (fun x y z => step a x y z) q.1 q.2.1 q.2.2) a0 ds) (TN X.K L) := fun B σ G H S D q => by
  refine xs_for3O (β := Empty) (Rr := fun _ _ _ _ _ => False) (step := fun a x y z => (step a x y z).bnd fun a' => .ok (.nx a')) g hi h0 w0 (fun a e d d' d'' hL B σ G H S D q => hb a e d d' d'' hL B σ G H S D (wp_mono (wp_bnd.mp q) (fun _ z => z) fun _ z => z)) hN hN' hN'' hx hx' hx'' we hs hf hf' hf'' hn hst h1 h2 h3 B σ G H S D ?_
  refine wp_bnd.mpr (wp_mono (wp_bnd.mp q) (fun ds hd => ?_) fun _ z => z)
  have e : (fun (a : α) (d : Wk.D) => (R.of d.three).bnd fun q => (step a q.1 q.2.1 q.2.2).bnd fun a' => R.ok (Out.nx (β := Empty) a')) = fun a d => ((R.of d.three).bnd fun q => step a q.1 q.2.1 q.2.2).bnd fun a' => .ok (.nx a') := by
    funext a d; rw [bnd_assoc]
  rw [e, fold_loop]
  exact wp_bnd.mpr hd
end
end Wk
set_option maxHeartbeats 4000000
/-! Wk55: a comprehension over the keys of a dict that is data. -/
namespace Wk
open PySem PySem.Spec PyProof.Rows L2
section
variable {K : PySem.W.Frag} {B : Bs} {en : En} {σ : L2.St} {G H : Hp} {a : Addr} {o u u' : HO}
theorem Sl.noOwnG (s : Sl K en σ G H) (g : G a ≠ none) : NoOwn en a := fun j b q c e m => by
  obtain ⟨v, _, _, r⟩ := s.at_ j _ e
  exact g (r.fpG m)
theorem Sl.lockS (s : Sl K en σ G H) (hd : IsDk o) (lu : Lkd o u) (lu' : Lkd o u') (h : H a = some u) (g : G a ≠ none) : Sl K en σ G (upd H a u') := by
  refine ⟨s.le.relock hd lu lu' h, s.len, fun i dv e => ?_, s.ones⟩
  obtain ⟨v, e1, r⟩ := s.at_ i dv e
  refine ⟨v, e1, ?_⟩
  cases dv with
  | v d => exact r
  | o b2 q c => exact ⟨r.1, r.2.other (s.noOwnG g i b2 q c e)⟩
end
section
variable {X : Cx} {W : WN} {en : En} {ec : Nat → Addr} {pos : Pos}
/-- a comprehension's run, its walk given -/
theorem lc_coreK {elt : Expr} {scope : Scope} {g : TG} {tt : TT} {vs : List Nat} {f : En → D → Option En} {mt : D → R Bool} {me : D → R D} (ht : TgL X.K g vs f) (hc : clr en vs = true)
    (hb : ∀ d (P : Bool → Prop) (E : Nat → Prop), wp (mt d) P E → ∃ e', f en d = some e' ∧ (∀ σ G H, Sl X.K e' σ G H → ∀ Q : Bool → Hp → Prop, wp (mt d) (fun b => ∀ G2 H2, Grow G H G2 H2 → Q b H2) (fun _ => False) → tt σ H Q) ∧ BP X scope elt e' (me d))
    (σ : L2.St) (G H : Hp) (S : Sl X.K en σ G H) (J : It) (ds : List D) (wstop : ∀ G' H', Grow G H G' H' → J.stop ds.length H') (wgo : ∀ (i : Nat) (d : D), ds[i]? = some d → ∀ G' H', Grow G H G' H' → J.go i H' ∧ ∀ x H4, J.yld i H' x H4 → ∃ G4, Grow G' H' G4 H4 ∧ Rp X.K G4 x d) (Q : VK) (E : Nat → Prop) (hd : wp (lcIR mt me ds) (fun ys => NewL X.K G H ys Q) E) : tLc (fun _ _ K => K J H) g tt (wEb X scope elt) vs σ H Q := by
  unfold lcIR at hd
  by_cases hln : ds.length ≤ 16000000
  · rw [if_pos hln] at hd
    intro D hD
    have hpD : H D = none := hD
    refine ⟨fun i m H' => m = ds.length - i ∧ i ≤ ds.length ∧ ∃ G' acc dn, Grow G H G' H' ∧ H' D = some (.lst acc) ∧ G' D = none ∧ RpAll X.K G' acc dn ∧ acc.length ≤ i ∧ wp (lcI mt me (ds.drop i)) (fun ys => NewL X.K G H (dn ++ ys) Q) E,
      ⟨_, rfl, Nat.zero_le _, G, [], [], Grow.own S.le hD, upd_same, S.le.kn D hD, .nil, Nat.le_refl _, hd⟩, ?_⟩
    rintro i m H' ⟨rfl, hi', G', acc, dn, w', hA, gA, rA, lA, p⟩
    by_cases hlt : i < ds.length
    · rw [List.drop_eq_getElem_cons hlt] at p
      obtain ⟨go, yl⟩ := wgo i ds[i] (List.getElem?_eq_getElem hlt) G' H' w'
      refine .inr ⟨go, fun H3 => ∃ G3 acc dn, Grow G H G3 H3 ∧ H3 D = some (.lst acc) ∧ G3 D = none ∧ RpAll X.K G3 acc dn ∧ acc.length ≤ i + 1 ∧ wp (lcI mt me (ds.drop (i + 1))) (fun ys => NewL X.K G H (dn ++ ys) Q) E,
        fun H3 ⟨G3, acc, dn, h⟩ => ⟨ds.length - (i + 1), by omega, rfl, hlt, G3, acc, dn, h⟩, fun x H4 y => ?_⟩
      obtain ⟨G4, w4, r4⟩ := yl x H4 y
      have p1 := wp_bnd.mp p
      have p2 := wp_noE p1
      obtain ⟨e', ef, ht', hp'⟩ := hb ds[i] _ _ p2
      have wA := w'.trans w4
      have S4 : Sl X.K en (wipe σ vs) G4 H4 := (S.grow wA).wipe hc
      refine ht en (wipe σ vs) G4 H4 S4 ds[i] x e' r4 ef _ fun σ5 S5 hw => ⟨?_, ?_⟩
      · rw [hw]; exact wipe_wipe _ _ fun _ h => h
      · refine ht' σ5 G4 H4 S5 _ (wp_mono p2 (fun b hb G5 H5 w5 => ?_) fun _ z => z)
        have nD4 : ∀ {G5 H5 : Hp}, Grow G4 H4 G5 H5 → H5 D = some (.lst acc) ∧ G5 D = none := fun {G5 H5} w5 =>
          ⟨w5.h _ _ (w4.h _ _ hA), w5.cl D (w4.cl D gA ⟨_, hA, trivial⟩) ⟨_, w4.h _ _ hA, trivial⟩⟩
        cases b with
        | false =>
          show ∃ G3 acc dn, _
          exact ⟨G5, acc, dn, wA.trans w5, (nD4 w5).1, (nD4 w5).2, rA.up (w4.g.trans w5.g), by omega, hb⟩
        | true =>
          show wEb X scope elt σ5 H5 _
          intro s0 H0 C cl fp
          refine hp' s0 H0 C cl fp σ5 G5 H5 (S5.grow w5) _ (wp_mono (wp_noE (wp_bnd.mp hb)) (fun d hd v G6 H6 w6 r6 => ?_) fun _ z => z.elim)
          have n6 := nD4 (w5.trans w6)
          refine ⟨acc, n6.1, Nat.lt_of_le_of_lt lA (Nat.lt_of_lt_of_le hlt (size_ok hln)), G6, acc ++ [v], dn ++ [d], ((wA.trans w5).trans w6).mutD hD n6.2, upd_same, n6.2, (rA.up (w4.g.trans (w5.g.trans w6.g))).app (.cons r6 .nil), by rw [List.length_append]; show _ + 1 ≤ _; omega, ?_⟩
          refine wp_mono (wp_bnd.mp hd) (fun ys hy => ?_) fun _ z => z
          show NewL X.K G H (dn ++ [d] ++ ys) Q
          rw [List.append_assoc]
          exact hy
    · have ei : i = ds.length := by omega
      subst ei
      rw [List.drop_length] at p
      have p : NewL X.K G H (dn ++ []) Q := p
      rw [List.append_nil] at p
      exact .inl ⟨wstop G' H' w', p D acc G' H' w' hpD gA hA rA⟩
  · rw [if_neg hln] at hd
    exact hd.elim

/-- [e for x in y]: y a dict that is data -/
theorem xn_lcK {i j : Nat} {x y : Str} {p py : Pos} {elt : Expr} {scope : Scope} {dd : D} {me : D → R D} (g : Go X ec W) (he : ∀ d, BP X scope elt (en.set i (some (.v d))) (me d)) (hblk : BlkOk X.N X.env.scope scope [(x, i)]) (hj : en[j]? = some (some (.v dd)) := by rfl) (hc : clr en [i] = true := by rfl)
    (hN : X.N[i]? = some x := by rfl) (hx : ∀ (s : Shared) (H0 : Hp) (C : Addr) (cl : List (Str × Addr)) (fp : List Addr), Loc (X.blk s H0 scope (compEnvC scope cl C X.env) fp).env.scope x := by intros; first | exact Or.inl rfl | exact Or.inr rfl)
    (hf : ∀ (s : Shared) (H0 : Hp) (C : Addr) (cl : List (Str × Addr)) (fp : List Addr), (X.blk s H0 scope (compEnvC scope cl C X.env) fp).fn x = true ∨ (X.blk s H0 scope (compEnvC scope cl C X.env) fp).env.scope.names.lookup x = some .local := by intros; first | exact .inl rfl | exact .inr rfl)
    (hNy : X.N[j]? = some y := by rfl) (hv : Vis X.env.scope y := by first | exact Or.inl rfl | exact Or.inr (Or.inl rfl) | exact Or.inr (Or.inr rfl)) (hdb : (y == ("__debug__" : Str)) = false := by decide) (hcd : (y == ("__classdict__" : Str)) = false := by decide)
    (hs : ∀ x, foldedSetIterable (.Name y py) X.env x = pure x := by intro _; rfl) : XN X W (.ListComp elt [⟨.Name x p, .Name y py, [], 0⟩] scope pos) en ((R.of (D.kvs dd)).bnd fun m => lcR me (keysOf m)) := fun σ G H S Q q => by
  obtain ⟨m, em, q⟩ := wp_of (wp_bnd.mp q)
  obtain ⟨v, e1, r⟩ := S.at_ j _ hj
  obtain ⟨d, kvs, rfl, rd, hk, nd⟩ := rp_kvs r em
  have hdk : IsDk (.dK kvs) := .inl ⟨_, rfl⟩
  have gd : G d ≠ none := by rcases rd with z | ⟨_, z⟩ <;> (rw [z]; intro y; cases y)
  have rdH := S.le.rdK rd
  have hlen : kvs.length = (keysOf m).length := by unfold keysOf; rw [List.length_map]; exact hk.len
  have run : ∀ (ob : Obj) (H1 : Hp) (Q1 : VK) (E : Nat → Prop), H1 d = some (.frz ob (.dK kvs)) → Sl X.K en σ G H1 → wp (lcR me (keysOf m)) (fun ys => NewL X.K G H1 ys Q1) E →
      tLc (iKeys (tVar j)) (gName i) tYes (wEb X scope elt) [i] σ H1 Q1 := by
    intro ob H1 Q1 E h1 S1 q1
    refine ⟨_, e1, d, ob, rfl, .inl ⟨kvs, h1, ?_⟩⟩
    refine lc_coreK (mt := fun _ => .ok true) (E := E) tl_name hc (fun d P E _ => ⟨_, rfl, fun σ G H S Q k => k G H (Grow.refl S.le), he d⟩) σ G H1 S1 (Itk d ob kvs) (keysOf m) (fun G' H' w => ?_) (fun n dv e G' H' w => ?_) Q1 ?_
    · exact ⟨w.h _ _ h1, by omega⟩
    · have hn : n < (keysOf m).length := (List.getElem?_eq_some_iff.mp e).1
      refine ⟨⟨w.h _ _ h1, by omega⟩, fun x H4 y => ?_⟩
      obtain ⟨rfl, k, v, e2, rfl⟩ := y
      obtain ⟨dd', e3, _⟩ := kvrp_at hk e2
      have e4 : dv = D.ofKey k := by
        have : (keysOf m)[n]? = some (D.ofKey k) := by unfold keysOf; rw [List.getElem?_map, e3]; rfl
        rw [e] at this
        exact Option.some.inj this
      rw [e4]
      exact ⟨G', Grow.refl w.up, rp_ofKey⟩
    · rw [lcIR_true]; exact q1
  rcases rdH with z | ⟨ob, z⟩
  · refine pe_to (pe_lock (pe_lc (own := [(x, i)]) g.calm g.nd (pi_keys (pe_var hNy hv hdb hcd)) hblk (fun s H0 C cl fp => pg_name g.nd hN (hx s H0 C cl fp) (hf s H0 C cl fp)) (fun _ _ _ _ _ => pts_nil) pe_wb hs)) ⟨d, _, z, trivial, fun ob => ?_⟩
    refine run ob _ _ _ upd_same (S.lockS hdk (.inl rfl) (.inr ⟨ob, rfl⟩) z gd) (wp_mono q (fun ys hy => ?_) fun _ z => z)
    intro p vs G2 H2 w hp g2 h2 r2
    have hpd : p ≠ d := fun e => by rw [e, upd_same] at hp; cases hp
    have hH2 : H2 d = some (.frz ob (.dK kvs)) := w.h _ _ upd_same
    refine ⟨hH2, hy p vs G2 _ ⟨w.g, w.up.relock hdk (.inr ⟨ob, rfl⟩) (.inl rfl) hH2, fun a o e => ?_, fun a n mm => ?_⟩ (by rw [upd_ne hpd] at hp; exact hp) g2 (by rw [upd_ne hpd]; exact h2) r2⟩
    · by_cases ea : a = d
      · rw [ea] at e ⊢; rw [upd_same, ← z]; exact e
      · rw [upd_ne ea]; exact w.h a o (by rw [upd_ne ea]; exact e)
    · have ea : a ≠ d := fun e => gd (by rw [← e]; exact n)
      obtain ⟨v, x, y⟩ := mm
      exact w.cl a n ⟨v, by rw [upd_ne ea]; exact x, y⟩
  · exact pe_to (pe_lc (own := [(x, i)]) g.calm g.nd (pi_keys (pe_var hNy hv hdb hcd)) hblk (fun s H0 C cl fp => pg_name g.nd hN (hx s H0 C cl fp) (hf s H0 C cl fp)) (fun _ _ _ _ _ => pts_nil) pe_wb hs) (run ob _ _ _ z S q)
end
end Wk
set_option maxHeartbeats 4000000
/-! Wk56: True in a list of answers. -/
namespace Wk
open PySem PySem.Spec PyProof.Rows L2
theorem bools_rpV {K : PySem.W.Frag} {G : Hp} : ∀ {ds : List D} {vs : List V} {l : List Bool}, bools ds = some l → RpAll K G vs ds → vs = l.map V.bl
  | [], _, _, e, h => by cases e; cases h; rfl
  | d :: ds, _, _, e, h => by
    cases d <;> simp only [bools] at e
    all_goals first | (cases e; done) | skip
    obtain ⟨l, e1, rfl⟩ := Option.map_eq_some_iff.mp e
    cases h with
    | cons a c => cases a; rw [bools_rpV e1 c]; rfl
theorem inV_bl {i : Bool} : ∀ l : List Bool, inV (.bl i) (l.map V.bl) = l.contains i
  | [] => rfl
  | j :: l => by
    have h := inV_bl (i := i) l
    unfold inV at h ⊢
    rw [List.map_cons, List.any_cons, h, List.contains_cons]
    cases i <;> cases j <;> rfl
theorem flat_bl (l : List Bool) : (l.map V.bl).all flatV = true := by simp [flatV]
def D.inB (x y : D) : Option Bool := match x, y with
  | .bl i, .lst xs => (bools xs).map fun l => l.contains i
  | _, _ => none
theorem d_inB {K : PySem.W.Frag} : OpD K (rIn K false) (fun x y => (D.inB x y).map .bl) := fun G H x y dx dy d l rx ry e Q q => by
  obtain ⟨b, e1, rfl⟩ := Option.map_eq_some_iff.mp e
  unfold D.inB at e1
  split at e1
  · obtain ⟨ns, e2, rfl⟩ := Option.map_eq_some_iff.mp e1
    cases rx
    cases ry with
    | lst h1 r1 =>
      have ev := bools_rpV e2 r1
      subst ev
      exact ⟨_, _, rfl, .inl (.inl (l.le _ _ rfl h1)), rfl, flat_bl _, by rw [inV_bl]; exact keepQ l q (.bl _)⟩
  · cases e1
end Wk
set_option maxHeartbeats 4000000
namespace Lw
open PySem PySem.Spec PyProof.Rows L2 Wk
def topS (i : Nat) : Stmt := PySem.Challenge.pw_loopwright_k49_pieces_and_windings.main.body.getD i (.Pass ⟨0, 0, 0, 0⟩)
structure Ad where
  a_is_letter : Addr
  fd_is_letter : FuncData
  a_looked : Addr
  fd_looked : FuncData
  a_exchanged : Addr
  fd_exchanged : FuncData
  a_order_by : Addr
  fd_order_by : FuncData
  a_order_of : Addr
  fd_order_of : FuncData
  a_sign_of : Addr
  fd_sign_of : FuncData
  a_pieces : Addr
  fd_pieces : FuncData
  a_turns : Addr
  fd_turns : FuncData
  a_piece_numbers : Addr
  fd_piece_numbers : FuncData
  a_meetings : Addr
  fd_meetings : FuncData
  a_windings : Addr
  fd_windings : FuncData
  a__law_state : Addr
  fd__law_state : FuncData
  a__law_take : Addr
  fd__law_take : FuncData
  a__law_letter : Addr
  fd__law_letter : FuncData
  a__law_plait : Addr
  fd__law_plait : FuncData
  a__law_whole : Addr
  fd__law_whole : FuncData
  a__law_sign : Addr
  fd__law_sign : FuncData
  a__law_strands : Addr
  fd__law_strands : FuncData
  a__law_pieces : Addr
  fd__law_pieces : FuncData
  a__law_windings : Addr
  fd__law_windings : FuncData
  a_law : Addr
  fd_law : FuncData
  ec : Nat → Addr
abbrev s_is_letter : Stmt := topS 6
abbrev s_looked : Stmt := topS 7
abbrev s_exchanged : Stmt := topS 8
abbrev s_order_by : Stmt := topS 9
abbrev s_order_of : Stmt := topS 10
abbrev s_sign_of : Stmt := topS 12
abbrev s_pieces : Stmt := topS 14
abbrev s_turns : Stmt := topS 15
abbrev s_piece_numbers : Stmt := topS 16
abbrev s_meetings : Stmt := topS 17
abbrev s_windings : Stmt := topS 18
abbrev s__law_state : Stmt := topS 20
abbrev s__law_take : Stmt := topS 21
abbrev s__law_letter : Stmt := topS 22
abbrev s__law_plait : Stmt := topS 23
abbrev s__law_whole : Stmt := topS 24
abbrev s__law_sign : Stmt := topS 25
abbrev s__law_strands : Stmt := topS 26
abbrev s__law_pieces : Stmt := topS 27
abbrev s__law_windings : Stmt := topS 28
abbrev s_law : Stmt := topS 29
structure Txt (K : PySem.W.Frag) (mg : Str → Option Value) (A : Ad) : Prop where
  F_is_letter : Fun K "is_letter" "is_letter" s_is_letter A.a_is_letter A.fd_is_letter
  m_is_letter : mg "is_letter" = some (.ref A.a_is_letter)
  b_is_letter : Binds K A.fd_is_letter ["letter", "strands"] []
  F_looked : Fun K "looked" "looked" s_looked A.a_looked A.fd_looked
  m_looked : mg "looked" = some (.ref A.a_looked)
  b_looked : Binds K A.fd_looked ["plait"] []
  F_exchanged : Fun K "exchanged" "exchanged" s_exchanged A.a_exchanged A.fd_exchanged
  m_exchanged : mg "exchanged" = some (.ref A.a_exchanged)
  b_exchanged : Binds K A.fd_exchanged ["places", "at"] []
  F_order_by : Fun K "order_by" "order_by" s_order_by A.a_order_by A.fd_order_by
  m_order_by : mg "order_by" = some (.ref A.a_order_by)
  b_order_by : Binds K A.fd_order_by ["strands", "word"] []
  F_order_of : Fun K "order_of" "order_of" s_order_of A.a_order_of A.fd_order_of
  m_order_of : mg "order_of" = some (.ref A.a_order_of)
  b_order_of : Binds K A.fd_order_of ["plait"] []
  F_sign_of : Fun K "sign_of" "sign_of" s_sign_of A.a_sign_of A.fd_sign_of
  m_sign_of : mg "sign_of" = some (.ref A.a_sign_of)
  b_sign_of : Binds K A.fd_sign_of ["letter"] []
  F_pieces : Fun K "pieces" "pieces" s_pieces A.a_pieces A.fd_pieces
  m_pieces : mg "pieces" = some (.ref A.a_pieces)
  b_pieces : Binds K A.fd_pieces ["plait"] []
  F_turns : Fun K "turns" "turns" s_turns A.a_turns A.fd_turns
  m_turns : mg "turns" = some (.ref A.a_turns)
  b_turns : Binds K A.fd_turns ["plait"] []
  F_piece_numbers : Fun K "piece_numbers" "piece_numbers" s_piece_numbers A.a_piece_numbers A.fd_piece_numbers
  m_piece_numbers : mg "piece_numbers" = some (.ref A.a_piece_numbers)
  b_piece_numbers : Binds K A.fd_piece_numbers ["plait"] []
  F_meetings : Fun K "meetings" "meetings" s_meetings A.a_meetings A.fd_meetings
  m_meetings : mg "meetings" = some (.ref A.a_meetings)
  b_meetings : Binds K A.fd_meetings ["plait"] []
  F_windings : Fun K "windings" "windings" s_windings A.a_windings A.fd_windings
  m_windings : mg "windings" = some (.ref A.a_windings)
  b_windings : Binds K A.fd_windings ["plait"] []
  F__law_state : Fun K "_law_state" "_law_state" s__law_state A.a__law_state A.fd__law_state
  m__law_state : mg "_law_state" = some (.ref A.a__law_state)
  b__law_state : Binds K A.fd__law_state ["script", "k"] []
  F__law_take : Fun K "_law_take" "_law_take" s__law_take A.a__law_take A.fd__law_take
  m__law_take : mg "_law_take" = some (.ref A.a__law_take)
  b__law_take : Binds K A.fd__law_take ["state", "many"] []
  F__law_letter : Fun K "_law_letter" "_law_letter" s__law_letter A.a__law_letter A.fd__law_letter
  m__law_letter : mg "_law_letter" = some (.ref A.a__law_letter)
  b__law_letter : Binds K A.fd__law_letter ["state", "strands"] []
  F__law_plait : Fun K "_law_plait" "_law_plait" s__law_plait A.a__law_plait A.fd__law_plait
  m__law_plait : mg "_law_plait" = some (.ref A.a__law_plait)
  b__law_plait : Binds K A.fd__law_plait ["state", "most", "longest"] []
  F__law_whole : Fun K "_law_whole" "_law_whole" s__law_whole A.a__law_whole A.fd__law_whole
  m__law_whole : mg "_law_whole" = some (.ref A.a__law_whole)
  b__law_whole : Binds K A.fd__law_whole ["found"] []
  F__law_sign : Fun K "_law_sign" "_law_sign" s__law_sign A.a__law_sign A.fd__law_sign
  m__law_sign : mg "_law_sign" = some (.ref A.a__law_sign)
  b__law_sign : Binds K A.fd__law_sign ["letter"] []
  F__law_strands : Fun K "_law_strands" "_law_strands" s__law_strands A.a__law_strands A.fd__law_strands
  m__law_strands : mg "_law_strands" = some (.ref A.a__law_strands)
  b__law_strands : Binds K A.fd__law_strands ["plait"] []
  F__law_pieces : Fun K "_law_pieces" "_law_pieces" s__law_pieces A.a__law_pieces A.fd__law_pieces
  m__law_pieces : mg "_law_pieces" = some (.ref A.a__law_pieces)
  b__law_pieces : Binds K A.fd__law_pieces ["plait"] []
  F__law_windings : Fun K "_law_windings" "_law_windings" s__law_windings A.a__law_windings A.fd__law_windings
  m__law_windings : mg "_law_windings" = some (.ref A.a__law_windings)
  b__law_windings : Binds K A.fd__law_windings ["plait"] []
  F_law : Fun K "law" "law" s_law A.a_law A.fd_law
  m_law : mg "law" = some (.ref A.a_law)
  b_law : Binds K A.fd_law ["script"] []
  n_abs : mg "abs" = none
  n_len : mg "len" = none
  n_range : mg "range" = none
  n_list : mg "list" = none
  n_tuple : mg "tuple" = none
  n_min : mg "min" = none
  n_sorted : mg "sorted" = none
  n_sum : mg "sum" = none
  n_enumerate : mg "enumerate" = none
  n_max : mg "max" = none
  n_int : mg "int" = none
  n_isinstance : mg "isinstance" = none
  n_bool : mg "bool" = none
  n_all : mg "all" = none
  c_MOST_STRANDS : ∃ u, mg "MOST_STRANDS" = some u ∧ RelV (.int (6)) u
  c_MOST_LETTERS : ∃ u, mg "MOST_LETTERS" = some u ∧ RelV (.int (16)) u
  e_NoPlait : ErrOk K mg "NoPlait" (A.ec 0)
section
variable {P : Program} {w : World} {K : PySem.W.Frag} {mg : Str → Option Value} {base : Heap} {A : Ad}
theorem sc_is_letter : FnScope ["letter", "strands"] ["letter", "strands"] (defScope s_is_letter) := ⟨rfl, rfl, rfl, by decide +kernel, rfl, by decide +kernel, by decide +kernel⟩
@[irreducible] def f_is_letter (x_letter : D) (x_strands : D) : R D := ((R.ok x_letter).bnd fun x => (R.ok (D.int 0)).bnd fun y => R.of ((fun x y => (D.ne x y).map D.bl) x y)).bnd fun x => (R.of (D.bool x)).bnd fun t => if t = true then ((((R.ok x_letter).bnd fun x => .ok [x]).bnd fun ds => R.of (D.abs ds)).bnd fun x => (R.ok x_strands).bnd fun y => R.of ((fun x y => (D.lt x y).map D.bl) x y)) else .ok (D.bl false)
theorem ok_is_letter (T : Txt K mg A) : FnOk P w K mg base (L2.CX P w) 1 A.a_is_letter A.fd_is_letter ["letter", "strands"] (spR K A.ec (rP K) 2 (ap2 f_is_letter)) := by
  refine fn_ok T.F_is_letter sc_is_letter rfl fun cdv A' outer s H E hr g ds hd => ?_
  match ds, hd with
  | [x_letter, x_strands], _ => show XB _ _ [] _ [some (.v x_letter), some (.v x_strands)] (f_is_letter x_letter x_strands) _; unfold f_is_letter; exact (xb_ret (xp_and (xp_cmp (o_ne hr.units) d_ne (nomark _) (xp_var (i := 0) rfl) xp_int) (xp_one (xp_cmp op_lt d_lt (nomark _) (xp_callB call_abs d_abs (by rfl) T.n_abs (by decide +kernel) (xa_1 (xp_var (i := 0) rfl))) (xp_var (i := 1) rfl)))))
theorem sc_looked : FnScope ["plait", "strands", "word", "letter"] ["plait"] (defScope s_looked) := ⟨rfl, rfl, rfl, by decide +kernel, rfl, by decide +kernel, by decide +kernel⟩
@[irreducible] def f_looked (x_plait : D) : R D := R.bU2 (R.ok x_plait) fun x_strands_1 x_word_2 => ((((R.ok (D.int 1)).bnd fun x => (R.ok x_strands_1).bnd fun y => (R.of (D.le x y)).bnd fun t => if t = true then (R.ok (D.int (6))).bnd fun z => R.of (D.le y z) else .ok false).bnd fun x => .ok (!x)).bnd fun x => if x = true then .ok true else (((R.ok x_word_2).bnd fun x => .ok [x]).bnd fun ds => R.of (D.len ds)).bnd fun x => (R.ok (D.int (16))).bnd fun y => R.of (D.gt x y)).bnd fun b => if b = true then .err 0 else (((R.ok x_word_2).bnd fun d => R.of (D.seq d)).bnd fun ds => foldR (fun (a4 : Unit) d5 => (((((R.ok d5).bnd fun x => (R.ok x_strands_1).bnd fun y => .ok [x, y]).bnd (ap2 f_is_letter)).bnd fun d => R.of (D.bool d)).bnd fun x => .ok (!x)).bnd fun b => if b = true then .err 0 else .ok ()) () ds).bnd fun a6 => ((R.ok x_word_2).bnd fun x => .ok [x]).bnd fun ds => R.of (D.len ds)
theorem ok_looked (T : Txt K mg A) : FnOk P w K mg base (L2.CX P w) 2 A.a_looked A.fd_looked ["plait"] (spR K A.ec (rP K) 1 (ap1 f_looked)) := by
  refine fn_ok T.F_looked sc_looked rfl fun cdv A' outer s H E hr g ds hd => ?_
  match ds, hd with
  | [x_plait], _ => show XB _ _ [] _ [some (.v x_plait), none, none, none] (f_looked x_plait) _; unfold f_looked; exact (xb_two (i := 1) (j := 2) g (fun x_strands_1 x_word_2 => [some (.v x_plait), some (.v x_strands_1), some (.v x_word_2), none]) (xp_var (i := 0) rfl) fun x_strands_1 x_word_2 => (xb_ifE (xt_w (xw_or (xt_not (xt_chain op_le op_le d_le d_le xp_int (xp_var (i := 1) rfl) (xp_cI T.c_MOST_STRANDS) (pt_chain op_le op_le pe_w pe_w pe_w))) (xw_or1 (xt_cmp op_gt d_gt (nomark _) (xp_callB c_len d_len (by rfl) T.n_len (by decide +kernel) (xa_1 (xp_var (i := 2) rfl))) (xp_cI T.c_MOST_LETTERS))))) (xb_rse g T.e_NoPlait) (xb_seq (L := (fun (a4 : Unit) (e : En) => e = [some (.v x_plait), some (.v x_strands_1), some (.v x_word_2), none])) (xs_for (i := 3) (L := (fun (a4 : Unit) (e : En) => e = [some (.v x_plait), some (.v x_strands_1), some (.v x_word_2), none])) (a0 := ()) (e0 := [some (.v x_plait), some (.v x_strands_1), some (.v x_word_2), none]) (step := fun (a4 : Unit) d5 => (((((R.ok d5).bnd fun x => (R.ok x_strands_1).bnd fun y => .ok [x, y]).bnd (ap2 f_is_letter)).bnd fun d => R.of (D.bool d)).bnd fun x => .ok (!x)).bnd fun b => if b = true then .err 0 else .ok ()) g (xi_seq (xp_var (i := 2) rfl)) rfl (.k (.k (.k (.k .nil)))) (by rintro a4 _ d5 rfl; exact (xb_ifE (xt_not (xt_val (xp_call g (ok_is_letter T) (hr.mono (by decide)) T.m_is_letter T.F_is_letter.kp T.b_is_letter (xa_2 (xp_var (i := 3) rfl) (xp_var (i := 1) rfl)) lnA2))) (xb_rse g T.e_NoPlait) (xb_end rfl (.k (.k (.k (.d .nil)))))))) (by rintro a6 _ rfl; exact (xb_ret (xp_callB c_len d_len (by rfl) T.n_len (by decide +kernel) (xa_1 (xp_var (i := 2) rfl))))))))
theorem sc_exchanged : FnScope ["places", "at", "place"] ["places", "at"] (defScope s_exchanged) := ⟨rfl, rfl, rfl, by decide +kernel, rfl, by decide +kernel, by decide +kernel⟩
@[irreducible] def f_exchanged (x_places : D) (x_at : D) : R D := (((R.ok x_places).bnd fun d => R.of (D.seq d)).bnd fun ds => lcR (fun d1 => (R.ok x_at).bnd fun k1 => ((R.ok x_at).bnd fun x => (R.ok (D.int 1)).bnd fun y => R.of (D.addI x y)).bnd fun v1 => ((R.ok x_at).bnd fun x => (R.ok (D.int 1)).bnd fun y => R.of (D.addI x y)).bnd fun k2 => (R.ok x_at).bnd fun v2 => (R.of (D.toI k1)).bnd fun a => (R.of (D.toI k2)).bnd fun b => (R.ok d1).bnd fun k => (R.ok d1).bnd fun d => R.of (D.get2 a v1 b v2 k d)) ds).bnd fun z => .ok (D.lst z)
theorem ok_exchanged (T : Txt K mg A) : FnOk P w K mg base (L2.CX P w) 1 A.a_exchanged A.fd_exchanged ["places", "at"] (spR K A.ec (rP K) 2 (ap2 f_exchanged)) := by
  refine fn_ok T.F_exchanged sc_exchanged rfl fun cdv A' outer s H E hr g ds hd => ?_
  match ds, hd with
  | [x_places, x_at], _ => show XB _ _ [] _ [some (.v x_places), some (.v x_at), none] (f_exchanged x_places x_at) _; unfold f_exchanged; exact (xb_ret (xn_xp (xn_lc (i := 2) (hblk := (blkOk_by (N := ["places", "at", "place"]) (sc := defScope s_exchanged) (by decide +kernel))) g (xi_seq (xp_var (i := 0) rfl)) (fun d1 => fun s0 H0 C0 cl0 fp0 => (xp_get2 hr.units (xp_var (i := 1) rfl) (xp_op o_add d_add (xp_var (i := 1) rfl) xp_int) (xp_op o_add d_add (xp_var (i := 1) rfl) xp_int) (xp_var (i := 1) rfl) (xp_var (i := 2) rfl) (xp_var (i := 2) rfl))))))
theorem sc_order_by : FnScope ["strands", "word", "places", "letter"] ["strands", "word"] (defScope s_order_by) := ⟨rfl, rfl, rfl, by decide +kernel, rfl, by decide +kernel, by decide +kernel⟩
@[irreducible] def f_order_by (x_strands : D) (x_word : D) : R D := ((((R.ok x_strands).bnd fun x => (R.of (D.toI x)).bnd fun i => .ok ((0 : Int), i)).bnd2 fun i j => R.of (rgL i j)).bnd fun z => .ok (D.lst z)).bnd fun x_places_1 => (((R.ok x_word).bnd fun d => R.of (D.seq d)).bnd fun ds => foldR (fun (a3 : D) d4 => (((R.ok a3).bnd fun x => ((((R.ok d4).bnd fun x => .ok [x]).bnd fun ds => R.of (D.abs ds)).bnd fun x => (R.ok (D.int 1)).bnd fun y => R.of (D.sub x y)).bnd fun y => .ok [x, y]).bnd (ap2 f_exchanged)).bnd fun x_places_5 => .ok x_places_5) x_places_1 ds).bnd fun a7 => ((R.ok a7).bnd fun x => .ok [x]).bnd fun ds => R.of (D.toTup ds)
theorem ok_order_by (T : Txt K mg A) : FnOk P w K mg base (L2.CX P w) 2 A.a_order_by A.fd_order_by ["strands", "word"] (spR K A.ec (rP K) 2 (ap2 f_order_by)) := by
  refine fn_ok T.F_order_by sc_order_by rfl fun cdv A' outer s H E hr g ds hd => ?_
  match ds, hd with
  | [x_strands, x_word], _ => show XB _ _ [] _ [some (.v x_strands), some (.v x_word), none, none] (f_order_by x_strands x_word) _; unfold f_order_by; exact (xb_let (i := 2) g (fun x_places_1 => [some (.v x_strands), some (.v x_word), some (.v x_places_1), none]) (xn_xp (xn_lrg g T.n_list (xr_1 T.n_range (xp_var (i := 0) rfl)))) fun x_places_1 => (xb_seq (L := (fun (a3 : D) (e : En) => e = [some (.v x_strands), some (.v x_word), some (.v a3), none])) (xs_for (i := 3) (L := (fun (a3 : D) (e : En) => e = [some (.v x_strands), some (.v x_word), some (.v a3), none])) (a0 := x_places_1) (e0 := [some (.v x_strands), some (.v x_word), some (.v x_places_1), none]) (step := fun (a3 : D) d4 => (((R.ok a3).bnd fun x => ((((R.ok d4).bnd fun x => .ok [x]).bnd fun ds => R.of (D.abs ds)).bnd fun x => (R.ok (D.int 1)).bnd fun y => R.of (D.sub x y)).bnd fun y => .ok [x, y]).bnd (ap2 f_exchanged)).bnd fun x_places_5 => .ok x_places_5) g (xi_seq (xp_var (i := 1) rfl)) rfl (.k (.k (.k (.k .nil)))) (by rintro a3 _ d4 rfl; exact (xb_let (i := 2) g (fun x_places_5 => [some (.v x_strands), some (.v x_word), some (.v x_places_5), some (.v d4)]) (xp_call g (ok_exchanged T) (hr.mono (by decide)) T.m_exchanged T.F_exchanged.kp T.b_exchanged (xa_2 (xp_var (i := 2) rfl) (xp_op op_sub d_sub (xp_callB call_abs d_abs (by rfl) T.n_abs (by decide +kernel) (xa_1 (xp_var (i := 3) rfl))) xp_int)) lnA2) fun x_places_5 => (xb_end rfl (.k (.k (.k (.d .nil)))))))) (by rintro a7 _ rfl; exact (xb_ret (xp_callTy call_tuple_of d_tup (by rfl) T.n_tuple (by decide +kernel) (xa_1 (xp_var (i := 2) rfl)))))))
theorem sc_order_of : FnScope ["plait"] ["plait"] (defScope s_order_of) := ⟨rfl, rfl, rfl, by decide +kernel, rfl, by decide +kernel, by decide +kernel⟩
@[irreducible] def f_order_of (x_plait : D) : R D := (((R.ok x_plait).bnd fun x => .ok [x]).bnd (ap1 f_looked)).bnd fun _ => (((R.ok x_plait).bnd fun x => (R.ok (D.int 0)).bnd fun y => R.of (D.ix x y)).bnd fun x => ((R.ok x_plait).bnd fun x => (R.ok (D.int 1)).bnd fun y => R.of (D.ix x y)).bnd fun y => .ok [x, y]).bnd (ap2 f_order_by)
theorem ok_order_of (T : Txt K mg A) : FnOk P w K mg base (L2.CX P w) 3 A.a_order_of A.fd_order_of ["plait"] (spR K A.ec (rP K) 1 (ap1 f_order_of)) := by
  refine fn_ok T.F_order_of sc_order_of rfl fun cdv A' outer s H E hr g ds hd => ?_
  match ds, hd with
  | [x_plait], _ => show XB _ _ [] _ [some (.v x_plait)] (f_order_of x_plait) _; unfold f_order_of; exact (xb_drop (xp_call g (ok_looked T) (hr.mono (by decide)) T.m_looked T.F_looked.kp T.b_looked (xa_1 (xp_var (i := 0) rfl)) lnA1) (xb_ret (xp_call g (ok_order_by T) (hr.mono (by decide)) T.m_order_by T.F_order_by.kp T.b_order_by (xa_2 (xp_ix o_ix d_ix (fun _ _ => rfl) (xp_var (i := 0) rfl) xp_int) (xp_ix o_ix d_ix (fun _ _ => rfl) (xp_var (i := 0) rfl) xp_int)) lnA2)))
theorem sc_sign_of : FnScope ["letter"] ["letter"] (defScope s_sign_of) := ⟨rfl, rfl, rfl, by decide +kernel, rfl, by decide +kernel, by decide +kernel⟩
@[irreducible] def f_sign_of (x_letter : D) : R D := ((R.ok x_letter).bnd fun x => (R.ok (D.int 0)).bnd fun y => R.of (D.gt x y)).bnd fun b => if b = true then R.ok (D.int 1) else (R.ok (D.int 1)).bnd fun x => R.of (D.neg x)
theorem ok_sign_of (T : Txt K mg A) : FnOk P w K mg base (L2.CX P w) 1 A.a_sign_of A.fd_sign_of ["letter"] (spR K A.ec (rP K) 1 (ap1 f_sign_of)) := by
  refine fn_ok T.F_sign_of sc_sign_of rfl fun cdv A' outer s H E hr g ds hd => ?_
  match ds, hd with
  | [x_letter], _ => show XB _ _ [] _ [some (.v x_letter)] (f_sign_of x_letter) _; unfold f_sign_of; exact (xb_ifR (xt_cmp op_gt d_gt (nomark _) (xp_var (i := 0) rfl) xp_int) (xb_ret xp_int) (xb_ret (xp_un un_neg d_neg xp_int)))
theorem sc_pieces : FnScope ["plait", "there", "found", "place", "row"] ["plait"] (defScope s_pieces) := ⟨rfl, rfl, rfl, by decide +kernel, rfl, by decide +kernel, by decide +kernel⟩
@[irreducible] def f_pieces (x_plait : D) : R (List (List D)) := (((R.ok x_plait).bnd fun x => .ok [x]).bnd (ap1 f_order_of)).bnd fun x_there_1 => (((((R.ok x_there_1).bnd fun x => .ok [x]).bnd fun ds => R.of (D.len ds)).bnd fun x => R.of (rg1 x)).bnd fun ds => foldR (fun (a6 : List (List D)) d7 => (((R.ok d7).bnd fun x => .ok [x]).bnd fun ds => R.of (fits ds)).bnd fun x_row_8 => (whileN (fun (a10 : List D) => ((R.ok x_there_1).bnd fun x => (((R.ok (D.int 1)).bnd fun x => R.of (D.neg x)).bnd fun y => R.of (D.ix (D.lst a10) y)).bnd fun y => R.of (D.ix x y)).bnd fun x => (R.ok d7).bnd fun y => R.of (D.ne x y)) (fun (a10 : List D) => ((R.ok x_there_1).bnd fun x => (((R.ok (D.int 1)).bnd fun x => R.of (D.neg x)).bnd fun y => R.of (D.ix (D.lst a10) y)).bnd fun y => R.of (D.ix x y)).bnd fun d => (R.of (appD a10 d)).bnd fun x_row_11 => .ok x_row_11) 1000000 x_row_8).bnd fun a12 => (((((R.ok (D.lst a12)).bnd fun x => .ok [x]).bnd fun ds => R.of (D.min1 ds)).bnd fun x => (R.ok d7).bnd fun y => R.of (D.eq x y)).bnd fun b => if b = true then (((R.ok (D.lst a12)).bnd fun x => .ok [x]).bnd fun ds => R.of (D.sorted ds)).bnd fun d => (R.of (fits (a6 ++ [d]))).bnd fun x_found_13 => .ok x_found_13 else .ok a6).bnd fun a15 => .ok a15) [] ds).bnd fun a16 => .ok a16
theorem ok_pieces (T : Txt K mg A) : FnOk P w K mg base (L2.CX P w) 4 A.a_pieces A.fd_pieces ["plait"] (spR K A.ec (rNN K) 1 (ap1 f_pieces)) := by
  refine fn_ok T.F_pieces sc_pieces rfl fun cdv A' outer s H E hr g ds hd => ?_
  match ds, hd with
  | [x_plait], _ => show XB _ _ [] _ [some (.v x_plait), none, none, none, none] (f_pieces x_plait) _; unfold f_pieces; exact (xb_let (i := 1) g (fun x_there_1 => [some (.v x_plait), some (.v x_there_1), none, none, none]) (xp_call g (ok_order_of T) (hr.mono (by decide)) T.m_order_of T.F_order_of.kp T.b_order_of (xa_1 (xp_var (i := 0) rfl)) lnA1) fun x_there_1 => (xb_letNil (i := 2) g (fun p4 => [some (.v x_plait), some (.v x_there_1), some (.o false p4 (.l [])), none, none]) fun p4 => (xb_asN (i := 2) [some (.v x_plait), some (.v x_there_1), some (.o false p4 (OO.n [] [])), none, none] (xb_seq (L := (fun (a6 : List (List D)) (e : En) => ∃ (as_found : List Addr), e = [some (.v x_plait), some (.v x_there_1), some (.o false p4 (OO.n as_found a6)), none, none])) (xs_for (i := 3) (L := (fun (a6 : List (List D)) (e : En) => ∃ (as_found : List Addr), e = [some (.v x_plait), some (.v x_there_1), some (.o false p4 (OO.n as_found a6)), none, none])) (a0 := []) (e0 := [some (.v x_plait), some (.v x_there_1), some (.o false p4 (OO.n [] [])), none, none]) (step := fun (a6 : List (List D)) d7 => (((R.ok d7).bnd fun x => .ok [x]).bnd fun ds => R.of (fits ds)).bnd fun x_row_8 => (whileN (fun (a10 : List D) => ((R.ok x_there_1).bnd fun x => (((R.ok (D.int 1)).bnd fun x => R.of (D.neg x)).bnd fun y => R.of (D.ix (D.lst a10) y)).bnd fun y => R.of (D.ix x y)).bnd fun x => (R.ok d7).bnd fun y => R.of (D.ne x y)) (fun (a10 : List D) => ((R.ok x_there_1).bnd fun x => (((R.ok (D.int 1)).bnd fun x => R.of (D.neg x)).bnd fun y => R.of (D.ix (D.lst a10) y)).bnd fun y => R.of (D.ix x y)).bnd fun d => (R.of (appD a10 d)).bnd fun x_row_11 => .ok x_row_11) 1000000 x_row_8).bnd fun a12 => (((((R.ok (D.lst a12)).bnd fun x => .ok [x]).bnd fun ds => R.of (D.min1 ds)).bnd fun x => (R.ok d7).bnd fun y => R.of (D.eq x y)).bnd fun b => if b = true then (((R.ok (D.lst a12)).bnd fun x => .ok [x]).bnd fun ds => R.of (D.sorted ds)).bnd fun d => (R.of (fits (a6 ++ [d]))).bnd fun x_found_13 => .ok x_found_13 else .ok a6).bnd fun a15 => .ok a15) g (xi_range1 T.n_range (xp_callB c_len d_len (by rfl) T.n_len (by decide +kernel) (xa_1 (xp_var (i := 1) rfl)))) ⟨_, rfl⟩ (.k (.k (.k (.k (.k .nil))))) (by rintro a6 _ d7 ⟨as_found, rfl⟩; exact (xb_letN (i := 4) g (fun p9 x_row_8 => [some (.v x_plait), some (.v x_there_1), some (.o false p4 (OO.n as_found a6)), some (.v d7), some (.o false p9 (.l x_row_8))]) (xn_lst (xa_1 (xp_var (i := 3) rfl))) fun p9 x_row_8 => (xb_seq (L := (fun (a10 : List D) (e : En) => e = [some (.v x_plait), some (.v x_there_1), some (.o false p4 (OO.n as_found a6)), some (.v d7), some (.o false p9 (.l a10))])) (xs_while (L := (fun (a10 : List D) (e : En) => e = [some (.v x_plait), some (.v x_there_1), some (.o false p4 (OO.n as_found a6)), some (.v d7), some (.o false p9 (.l a10))])) (a0 := x_row_8) (e0 := [some (.v x_plait), some (.v x_there_1), some (.o false p4 (OO.n as_found a6)), some (.v d7), some (.o false p9 (.l x_row_8))]) (test := fun (a10 : List D) => ((R.ok x_there_1).bnd fun x => (((R.ok (D.int 1)).bnd fun x => R.of (D.neg x)).bnd fun y => R.of (D.ix (D.lst a10) y)).bnd fun y => R.of (D.ix x y)).bnd fun x => (R.ok d7).bnd fun y => R.of (D.ne x y)) (step := fun (a10 : List D) => ((R.ok x_there_1).bnd fun x => (((R.ok (D.int 1)).bnd fun x => R.of (D.neg x)).bnd fun y => R.of (D.ix (D.lst a10) y)).bnd fun y => R.of (D.ix x y)).bnd fun d => (R.of (appD a10 d)).bnd fun x_row_11 => .ok x_row_11) (N := 1000000) g rfl (.k (.k (.k (.k (.k .nil))))) (by rintro a10 _ rfl; exact (xt_cmp (o_ne hr.units) d_ne (nomark _) (xp_ix o_ix d_ix (fun _ _ => rfl) (xp_var (i := 1) rfl) (xp_ixO (i := 4) (xp_un un_neg d_neg xp_int))) (xp_var (i := 3) rfl))) (by rintro a10 _ rfl; exact (xb_mut (i := 4) PySem.F.slot_list_append PySem.F.type_list_append mt_append m_app (fun x_row_11 => [some (.v x_plait), some (.v x_there_1), some (.o false p4 (OO.n as_found a6)), some (.v d7), some (.o false p9 (.l x_row_11))]) (xp_ix o_ix d_ix (fun _ _ => rfl) (xp_var (i := 1) rfl) (xp_ixO (i := 4) (xp_un un_neg d_neg xp_int))) fun x_row_11 => (xb_end rfl (.k (.k (.k (.k (.k .nil))))))))) (by rintro a12 _ rfl; exact (xb_seq (L := (fun (a15 : List (List D)) (e : En) => ∃ (as_found : List Addr), e = [some (.v x_plait), some (.v x_there_1), some (.o false p4 (OO.n as_found a15)), some (.v d7), none])) (xs_if (xt_bor (i := 4) [some (.v x_plait), some (.v x_there_1), some (.o false p4 (OO.n as_found a6)), some (.v d7), some (.v (D.lst a12))] (xt_cmp (o_eq hr.units) d_eq (nomark _) (xp_callB (cr_min rfl) d_min1 (by rfl) T.n_min (by decide +kernel) (xa_1 (xp_var (i := 4) rfl))) (xp_var (i := 3) rfl))) (xb_frz (i := 4) [some (.v x_plait), some (.v x_there_1), some (.o false p4 (OO.n as_found a6)), some (.v d7), some (.v (D.lst a12))] (xb_appN (i := 2) (fun as14 x_found_13 => [some (.v x_plait), some (.v x_there_1), some (.o false p4 (OO.n as14 x_found_13)), some (.v d7), some (.v (D.lst a12))]) (xn_callB cr_sortedI d_sorted (by rfl) T.n_sorted (by decide +kernel) (xa_1 (xp_var (i := 4) rfl))) fun as14 x_found_13 => (xb_end (e' := [some (.v x_plait), some (.v x_there_1), some (.o false p4 (OO.n as14 x_found_13)), some (.v d7), none]) ⟨_, rfl⟩ (.k (.k (.k (.k (.d .nil)))))))) (xb_end (e' := [some (.v x_plait), some (.v x_there_1), some (.o false p4 (OO.n as_found a6)), some (.v d7), none]) ⟨_, rfl⟩ (.k (.k (.k (.k (.d .nil))))))) (by rintro a15 _ ⟨as_found, rfl⟩; exact (xb_end (e' := [some (.v x_plait), some (.v x_there_1), some (.o false p4 (OO.n as_found a15)), none, none]) ⟨_, rfl⟩ (.k (.k (.k (.d (.k .nil))))))))))))) (by rintro a16 _ ⟨as_found, rfl⟩; exact (xb_retNN (i := 2) rfl))))))
theorem sc_turns : FnScope ["plait", "letter"] ["plait"] (defScope s_turns) := ⟨rfl, rfl, rfl, by decide +kernel, rfl, by decide +kernel, by decide +kernel⟩
@[irreducible] def f_turns (x_plait : D) : R D := (((R.ok x_plait).bnd fun x => .ok [x]).bnd (ap1 f_looked)).bnd fun _ => ((((((R.ok x_plait).bnd fun x => (R.ok (D.int 1)).bnd fun y => R.of (D.ix x y)).bnd fun d => R.of (D.seq d)).bnd fun ds => lcR (fun d1 => ((R.ok d1).bnd fun x => .ok [x]).bnd (ap1 f_sign_of)) ds).bnd fun z => .ok (D.lst z)).bnd fun x => .ok [x]).bnd fun ds => R.of (D.sum_ ds)
theorem ok_turns (T : Txt K mg A) : FnOk P w K mg base (L2.CX P w) 3 A.a_turns A.fd_turns ["plait"] (spR K A.ec (rP K) 1 (ap1 f_turns)) := by
  refine fn_ok T.F_turns sc_turns rfl fun cdv A' outer s H E hr g ds hd => ?_
  match ds, hd with
  | [x_plait], _ => show XB _ _ [] _ [some (.v x_plait), none] (f_turns x_plait) _; unfold f_turns; exact (xb_drop (xp_call g (ok_looked T) (hr.mono (by decide)) T.m_looked T.F_looked.kp T.b_looked (xa_1 (xp_var (i := 0) rfl)) lnA1) (xb_ret (xp_callB (cr_sum rfl) d_sum (by rfl) T.n_sum (by decide +kernel) (xa_1 (xn_xp (xn_lc (i := 1) (hblk := (blkOk_by (N := ["plait", "letter"]) (sc := defScope s_turns) (by decide +kernel))) g (xi_seq (xp_ix o_ix d_ix (fun _ _ => rfl) (xp_var (i := 0) rfl) xp_int)) (fun d1 => fun s0 H0 C0 cl0 fp0 => (xp_call (g.blk s0 H0 C0 cl0 fp0) (ok_sign_of T) (hr.mono (by decide)) T.m_sign_of T.F_sign_of.kp T.b_sign_of (xa_1 (xp_var (i := 1) rfl)) lnA1))))))))
theorem sc_piece_numbers : FnScope ["plait", "found", "number", "places", "place"] ["plait"] (defScope s_piece_numbers) := ⟨rfl, rfl, rfl, by decide +kernel, rfl, by decide +kernel, by decide +kernel⟩
@[irreducible] def f_piece_numbers (x_plait : D) : R (List D) := (((((R.ok (D.int 0)).bnd fun x => .ok [x]).bnd fun ds => R.of (fits ds)).bnd fun z => .ok (D.lst z)).bnd fun x => ((R.ok x_plait).bnd fun x => (R.ok (D.int 0)).bnd fun y => R.of (D.ix x y)).bnd fun y => R.of (D.rep x y)).bnd fun x_found_1 => ((((((R.ok x_plait).bnd fun x => .ok [x]).bnd (ap1 f_pieces)).bnd fun q => .ok (dN q)).bnd fun x => R.of (D.enum x)).bnd fun ds => foldR (fun (a3 : List D) d => (R.of (D.two d)).bnd fun q => (fun d4 d5 => (((R.ok d5).bnd fun d => R.of (D.seq d)).bnd fun ds => foldR (fun (a6 : List D) d7 => (R.ok d4).bnd fun d => (R.ok d7).bnd fun j => (R.of (setD a6 j d)).bnd fun x_found_8 => .ok x_found_8) a3 ds).bnd fun a9 => .ok a9) q.1 q.2) x_found_1 ds).bnd fun a10 => .ok a10
theorem ok_piece_numbers (T : Txt K mg A) : FnOk P w K mg base (L2.CX P w) 5 A.a_piece_numbers A.fd_piece_numbers ["plait"] (spR K A.ec (rN K) 1 (ap1 f_piece_numbers)) := by
  refine fn_ok T.F_piece_numbers sc_piece_numbers rfl fun cdv A' outer s H E hr g ds hd => ?_
  match ds, hd with
  | [x_plait], _ => show XB _ _ [] _ [some (.v x_plait), none, none, none, none] (f_piece_numbers x_plait) _; unfold f_piece_numbers; exact (xb_letN (i := 1) g (fun p2 x_found_1 => [some (.v x_plait), some (.o false p2 (.l x_found_1)), none, none, none]) (xn_two d_rep (xn_xp (xn_lst (xa_1 xp_int))) (xp_ix o_ix d_ix (fun _ _ => rfl) (xp_var (i := 0) rfl) xp_int) (pe_op op_repR pe_w pe_w)) fun p2 x_found_1 => (xb_seq (L := (fun (a3 : List D) (e : En) => e = [some (.v x_plait), some (.o false p2 (.l a3)), none, none, none])) (xs_for2 (i := 2) (j := 3) (L := (fun (a3 : List D) (e : En) => e = [some (.v x_plait), some (.o false p2 (.l a3)), none, none, none])) (a0 := x_found_1) (e0 := [some (.v x_plait), some (.o false p2 (.l x_found_1)), none, none, none]) (step := fun (a3 : List D) d4 d5 => (((R.ok d5).bnd fun d => R.of (D.seq d)).bnd fun ds => foldR (fun (a6 : List D) d7 => (R.ok d4).bnd fun d => (R.ok d7).bnd fun j => (R.of (setD a6 j d)).bnd fun x_found_8 => .ok x_found_8) a3 ds).bnd fun a9 => .ok a9) g (xi_enum T.n_enumerate (xnn_xp (xnn_call g (ok_pieces T) (hr.mono (by decide)) T.m_pieces T.F_pieces.kp T.b_pieces (xa_1 (xp_var (i := 0) rfl)) lnA1))) rfl (.k (.k (.k (.k (.k .nil))))) (by rintro a3 _ d4 d5 rfl; exact (xb_seq (L := (fun (a6 : List D) (e : En) => e = [some (.v x_plait), some (.o false p2 (.l a6)), some (.v d4), some (.v d5), none])) (xs_for (i := 4) (L := (fun (a6 : List D) (e : En) => e = [some (.v x_plait), some (.o false p2 (.l a6)), some (.v d4), some (.v d5), none])) (a0 := a3) (e0 := [some (.v x_plait), some (.o false p2 (.l a3)), some (.v d4), some (.v d5), none]) (step := fun (a6 : List D) d7 => (R.ok d4).bnd fun d => (R.ok d7).bnd fun j => (R.of (setD a6 j d)).bnd fun x_found_8 => .ok x_found_8) g (xi_seq (xp_var (i := 3) rfl)) rfl (.k (.k (.k (.k (.k .nil))))) (by rintro a6 _ d7 rfl; exact (xb_put (i := 1) (fun x_found_8 => [some (.v x_plait), some (.o false p2 (.l x_found_8)), some (.v d4), some (.v d5), some (.v d7)]) (xp_var (i := 2) rfl) (xp_var (i := 4) rfl) fun x_found_8 => (xb_end rfl (.k (.k (.k (.k (.d .nil))))))))) (by rintro a9 _ rfl; exact (xb_end rfl (.k (.k (.d (.d (.k .nil)))))))))) (by rintro a10 _ rfl; exact (xb_retO (i := 1) rfl))))
theorem sc_meetings : FnScope ["plait", "here", "found", "letter", "at"] ["plait"] (defScope s_meetings) := ⟨rfl, rfl, rfl, by decide +kernel, rfl, by decide +kernel, by decide +kernel⟩
@[irreducible] def f_meetings (x_plait : D) : R D := (((R.ok x_plait).bnd fun x => .ok [x]).bnd (ap1 f_piece_numbers)).bnd fun x_here_1 => ((R.ok []).bnd fun ds => R.of (fits ds)).bnd fun x_found_3 => ((((R.ok x_plait).bnd fun x => (R.ok (D.int 1)).bnd fun y => R.of (D.ix x y)).bnd fun d => R.of (D.seq d)).bnd fun ds => foldR (fun (a5 : List D × List D) d6 => ((((R.ok d6).bnd fun x => .ok [x]).bnd fun ds => R.of (D.abs ds)).bnd fun x => (R.ok (D.int 1)).bnd fun y => R.of (D.sub x y)).bnd fun x_at_7 => ((((((((R.ok x_at_7).bnd fun d => (R.of (D.toI d)).bnd fun i => .ok (some i)).bnd fun l => (((R.ok x_at_7).bnd fun x => (R.ok (D.int 2)).bnd fun y => R.of (D.addI x y)).bnd fun d => (R.of (D.toI d)).bnd fun i => .ok (some i)).bnd fun h => .ok (cutD a5.1 l h)).bnd fun z => .ok (D.lst z)).bnd fun x => .ok [x]).bnd fun ds => R.of (D.min1 ds)).bnd fun x => ((((((R.ok x_at_7).bnd fun d => (R.of (D.toI d)).bnd fun i => .ok (some i)).bnd fun l => (((R.ok x_at_7).bnd fun x => (R.ok (D.int 2)).bnd fun y => R.of (D.addI x y)).bnd fun d => (R.of (D.toI d)).bnd fun i => .ok (some i)).bnd fun h => .ok (cutD a5.1 l h)).bnd fun z => .ok (D.lst z)).bnd fun x => .ok [x]).bnd fun ds => R.of (D.max1 ds)).bnd fun y => (((R.ok d6).bnd fun x => .ok [x]).bnd (ap1 f_sign_of)).bnd fun z => .ok [x, y, z]).bnd fun ds => R.of ((fits ds).map D.tup)).bnd fun d => (R.of (appD a5.2 d)).bnd fun x_found_9 => (((((R.ok x_at_7).bnd fun x => (R.ok (D.int 1)).bnd fun y => R.of (D.addI x y)).bnd fun y => R.of (D.ix (D.lst a5.1) y)).bnd fun x => ((R.ok x_at_7).bnd fun y => R.of (D.ix (D.lst a5.1) y)).bnd fun y => .ok [x, y]).bnd fun ds => R.of ((fits ds).map D.tup)).bnd fun d => (R.of (D.two d)).bnd fun q => (R.ok x_at_7).bnd fun j => (R.of (setD a5.1 j q.1)).bnd fun l => ((R.ok x_at_7).bnd fun x => (R.ok (D.int 1)).bnd fun y => R.of (D.addI x y)).bnd fun j' => (R.of (setD l j' q.2)).bnd fun x_here_10 => .ok (x_here_10, x_found_9)) (x_here_1, x_found_3) ds).bnd fun a12 => .ok (D.lst a12.2)
theorem ok_meetings (T : Txt K mg A) : FnOk P w K mg base (L2.CX P w) 6 A.a_meetings A.fd_meetings ["plait"] (spR K A.ec (rP K) 1 (ap1 f_meetings)) := by
  refine fn_ok T.F_meetings sc_meetings rfl fun cdv A' outer s H E hr g ds hd => ?_
  match ds, hd with
  | [x_plait], _ => show XB _ _ [] _ [some (.v x_plait), none, none, none, none] (f_meetings x_plait) _; unfold f_meetings; exact (xb_letN (i := 1) g (fun p2 x_here_1 => [some (.v x_plait), some (.o false p2 (.l x_here_1)), none, none, none]) (xn_call g (ok_piece_numbers T) (hr.mono (by decide)) T.m_piece_numbers T.F_piece_numbers.kp T.b_piece_numbers (xa_1 (xp_var (i := 0) rfl)) lnA1) fun p2 x_here_1 => (xb_letN (i := 2) g (fun p4 x_found_3 => [some (.v x_plait), some (.o false p2 (.l x_here_1)), some (.o false p4 (.l x_found_3)), none, none]) (xn_lst xa_nil) fun p4 x_found_3 => (xb_seq (L := (fun (a5 : List D × List D) (e : En) => e = [some (.v x_plait), some (.o false p2 (.l a5.1)), some (.o false p4 (.l a5.2)), none, none])) (xs_for (i := 3) (L := (fun (a5 : List D × List D) (e : En) => e = [some (.v x_plait), some (.o false p2 (.l a5.1)), some (.o false p4 (.l a5.2)), none, none])) (a0 := (x_here_1, x_found_3)) (e0 := [some (.v x_plait), some (.o false p2 (.l x_here_1)), some (.o false p4 (.l x_found_3)), none, none]) (step := fun (a5 : List D × List D) d6 => ((((R.ok d6).bnd fun x => .ok [x]).bnd fun ds => R.of (D.abs ds)).bnd fun x => (R.ok (D.int 1)).bnd fun y => R.of (D.sub x y)).bnd fun x_at_7 => ((((((((R.ok x_at_7).bnd fun d => (R.of (D.toI d)).bnd fun i => .ok (some i)).bnd fun l => (((R.ok x_at_7).bnd fun x => (R.ok (D.int 2)).bnd fun y => R.of (D.addI x y)).bnd fun d => (R.of (D.toI d)).bnd fun i => .ok (some i)).bnd fun h => .ok (cutD a5.1 l h)).bnd fun z => .ok (D.lst z)).bnd fun x => .ok [x]).bnd fun ds => R.of (D.min1 ds)).bnd fun x => ((((((R.ok x_at_7).bnd fun d => (R.of (D.toI d)).bnd fun i => .ok (some i)).bnd fun l => (((R.ok x_at_7).bnd fun x => (R.ok (D.int 2)).bnd fun y => R.of (D.addI x y)).bnd fun d => (R.of (D.toI d)).bnd fun i => .ok (some i)).bnd fun h => .ok (cutD a5.1 l h)).bnd fun z => .ok (D.lst z)).bnd fun x => .ok [x]).bnd fun ds => R.of (D.max1 ds)).bnd fun y => (((R.ok d6).bnd fun x => .ok [x]).bnd (ap1 f_sign_of)).bnd fun z => .ok [x, y, z]).bnd fun ds => R.of ((fits ds).map D.tup)).bnd fun d => (R.of (appD a5.2 d)).bnd fun x_found_9 => (((((R.ok x_at_7).bnd fun x => (R.ok (D.int 1)).bnd fun y => R.of (D.addI x y)).bnd fun y => R.of (D.ix (D.lst a5.1) y)).bnd fun x => ((R.ok x_at_7).bnd fun y => R.of (D.ix (D.lst a5.1) y)).bnd fun y => .ok [x, y]).bnd fun ds => R.of ((fits ds).map D.tup)).bnd fun d => (R.of (D.two d)).bnd fun q => (R.ok x_at_7).bnd fun j => (R.of (setD a5.1 j q.1)).bnd fun l => ((R.ok x_at_7).bnd fun x => (R.ok (D.int 1)).bnd fun y => R.of (D.addI x y)).bnd fun j' => (R.of (setD l j' q.2)).bnd fun x_here_10 => .ok (x_here_10, x_found_9)) g (xi_seq (xp_ix o_ix d_ix (fun _ _ => rfl) (xp_var (i := 0) rfl) xp_int)) rfl (.k (.k (.k (.k (.k .nil))))) (by rintro a5 _ d6 rfl; exact (xb_let (i := 4) g (fun x_at_7 => [some (.v x_plait), some (.o false p2 (.l a5.1)), some (.o false p4 (.l a5.2)), some (.v d6), some (.v x_at_7)]) (xp_op op_sub d_sub (xp_callB call_abs d_abs (by rfl) T.n_abs (by decide +kernel) (xa_1 (xp_var (i := 3) rfl))) xp_int) fun x_at_7 => (xb_mut (i := 2) PySem.F.slot_list_append PySem.F.type_list_append mt_append m_app (fun x_found_9 => [some (.v x_plait), some (.o false p2 (.l a5.1)), some (.o false p4 (.l x_found_9)), some (.v d6), some (.v x_at_7)]) (xp_tup (xa_3 (xp_callB (cr_min rfl) d_min1 (by rfl) T.n_min (by decide +kernel) (xa_1 (xn_xp (xn_cutO (i := 1) (xo_some (xp_var (i := 4) rfl)) (xo_some (xp_op o_add d_add (xp_var (i := 4) rfl) xp_int)))))) (xp_callB (cr_max rfl) d_max1 (by rfl) T.n_max (by decide +kernel) (xa_1 (xn_xp (xn_cutO (i := 1) (xo_some (xp_var (i := 4) rfl)) (xo_some (xp_op o_add d_add (xp_var (i := 4) rfl) xp_int)))))) (xp_call g (ok_sign_of T) (hr.mono (by decide)) T.m_sign_of T.F_sign_of.kp T.b_sign_of (xa_1 (xp_var (i := 3) rfl)) lnA1))) fun x_found_9 => (xb_twoPut (i := 1) g (fun c11 => [some (.v x_plait), some (.o false p2 (.l c11)), some (.o false p4 (.l x_found_9)), some (.v d6), some (.v x_at_7)]) (xp_tup (xa_2 (xp_ixO (i := 1) (xp_op o_add d_add (xp_var (i := 4) rfl) xp_int)) (xp_ixO (i := 1) (xp_var (i := 4) rfl)))) (xp_var (i := 4) rfl) (fun c11 => (xp_op o_add d_add (xp_var (i := 4) rfl) xp_int)) fun x_here_10 => (xb_end rfl (.k (.k (.k (.d (.d .nil))))))))))) (by rintro a12 _ rfl; exact (xb_retOP (i := 2) rfl)))))
theorem sc_windings : FnScope ["plait", "many", "met", "found", "one", "other", "signs", "first", "second", "sign"] ["plait"] (defScope s_windings) := ⟨rfl, rfl, rfl, by decide +kernel, rfl, by decide +kernel, by decide +kernel⟩
@[irreducible] def f_windings (x_plait : D) : R (List D) := ((((((R.ok x_plait).bnd fun x => .ok [x]).bnd (ap1 f_pieces)).bnd fun q => .ok (dN q)).bnd fun x => .ok [x]).bnd fun ds => R.of (D.len ds)).bnd fun x_many_1 => (((R.ok x_plait).bnd fun x => .ok [x]).bnd (ap1 f_meetings)).bnd fun x_met_3 => ((R.ok []).bnd fun ds => R.of (fits ds)).bnd fun x_found_5 => (((R.ok x_many_1).bnd fun x => R.of (rg1 x)).bnd fun ds => foldR (fun (a7 : List D) d8 => ((((R.ok d8).bnd fun x => (R.ok (D.int 1)).bnd fun y => R.of (D.addI x y)).bnd fun x => (R.ok x_many_1).bnd fun y => R.of (rg2 x y)).bnd fun ds => foldR (fun (a9 : List D) d10 => (((R.ok x_met_3).bnd fun d => R.of (D.seq d)).bnd fun ds => lcIR (fun d => (R.of (D.three d)).bnd fun q => (fun d13 d14 d15 => (((R.ok d13).bnd fun x => (R.ok d14).bnd fun y => .ok [x, y]).bnd fun ds => R.of ((fits ds).map D.tup)).bnd fun x => (((R.ok d8).bnd fun x => (R.ok d10).bnd fun y => .ok [x, y]).bnd fun ds => R.of ((fits ds).map D.tup)).bnd fun y => R.of (D.eq x y)) q.1 q.2.1 q.2.2) (fun d => (R.of (D.three d)).bnd fun q => (fun d13 d14 d15 => R.ok d15) q.1 q.2.1 q.2.2) ds).bnd fun x_signs_11 => (((R.ok d8).bnd fun x => (R.ok d10).bnd fun y => ((((R.ok (D.lst x_signs_11)).bnd fun x => .ok [x]).bnd fun ds => R.of (D.sum_ ds)).bnd fun x => (R.ok (D.int 2)).bnd fun y => R.of (D.div x y)).bnd fun z => .ok [x, y, z]).bnd fun ds => R.of ((fits ds).map D.tup)).bnd fun d => (R.of (appD a9 d)).bnd fun x_found_16 => .ok x_found_16) a7 ds).bnd fun a17 => .ok a17) x_found_5 ds).bnd fun a18 => .ok a18
theorem ok_windings (T : Txt K mg A) : FnOk P w K mg base (L2.CX P w) 7 A.a_windings A.fd_windings ["plait"] (spR K A.ec (rN K) 1 (ap1 f_windings)) := by
  refine fn_ok T.F_windings sc_windings rfl fun cdv A' outer s H E hr g ds hd => ?_
  match ds, hd with
  | [x_plait], _ => show XB _ _ [] _ [some (.v x_plait), none, none, none, none, none, none, none, none, none] (f_windings x_plait) _; unfold f_windings; exact (xb_let (i := 1) g (fun x_many_1 => [some (.v x_plait), some (.v x_many_1), none, none, none, none, none, none, none, none]) (xp_callB c_len d_len (by rfl) T.n_len (by decide +kernel) (xa_1 (xnn_xp (xnn_call g (ok_pieces T) (hr.mono (by decide)) T.m_pieces T.F_pieces.kp T.b_pieces (xa_1 (xp_var (i := 0) rfl)) lnA1)))) fun x_many_1 => (xb_let (i := 2) g (fun x_met_3 => [some (.v x_plait), some (.v x_many_1), some (.v x_met_3), none, none, none, none, none, none, none]) (xp_call g (ok_meetings T) (hr.mono (by decide)) T.m_meetings T.F_meetings.kp T.b_meetings (xa_1 (xp_var (i := 0) rfl)) lnA1) fun x_met_3 => (xb_letN (i := 3) g (fun p6 x_found_5 => [some (.v x_plait), some (.v x_many_1), some (.v x_met_3), some (.o false p6 (.l x_found_5)), none, none, none, none, none, none]) (xn_lst xa_nil) fun p6 x_found_5 => (xb_seq (L := (fun (a7 : List D) (e : En) => e = [some (.v x_plait), some (.v x_many_1), some (.v x_met_3), some (.o false p6 (.l a7)), none, none, none, none, none, none])) (xs_for (i := 4) (L := (fun (a7 : List D) (e : En) => e = [some (.v x_plait), some (.v x_many_1), some (.v x_met_3), some (.o false p6 (.l a7)), none, none, none, none, none, none])) (a0 := x_found_5) (e0 := [some (.v x_plait), some (.v x_many_1), some (.v x_met_3), some (.o false p6 (.l x_found_5)), none, none, none, none, none, none]) (step := fun (a7 : List D) d8 => ((((R.ok d8).bnd fun x => (R.ok (D.int 1)).bnd fun y => R.of (D.addI x y)).bnd fun x => (R.ok x_many_1).bnd fun y => R.of (rg2 x y)).bnd fun ds => foldR (fun (a9 : List D) d10 => (((R.ok x_met_3).bnd fun d => R.of (D.seq d)).bnd fun ds => lcIR (fun d => (R.of (D.three d)).bnd fun q => (fun d13 d14 d15 => (((R.ok d13).bnd fun x => (R.ok d14).bnd fun y => .ok [x, y]).bnd fun ds => R.of ((fits ds).map D.tup)).bnd fun x => (((R.ok d8).bnd fun x => (R.ok d10).bnd fun y => .ok [x, y]).bnd fun ds => R.of ((fits ds).map D.tup)).bnd fun y => R.of (D.eq x y)) q.1 q.2.1 q.2.2) (fun d => (R.of (D.three d)).bnd fun q => (fun d13 d14 d15 => R.ok d15) q.1 q.2.1 q.2.2) ds).bnd fun x_signs_11 => (((R.ok d8).bnd fun x => (R.ok d10).bnd fun y => ((((R.ok (D.lst x_signs_11)).bnd fun x => .ok [x]).bnd fun ds => R.of (D.sum_ ds)).bnd fun x => (R.ok (D.int 2)).bnd fun y => R.of (D.div x y)).bnd fun z => .ok [x, y, z]).bnd fun ds => R.of ((fits ds).map D.tup)).bnd fun d => (R.of (appD a9 d)).bnd fun x_found_16 => .ok x_found_16) a7 ds).bnd fun a17 => .ok a17) g (xi_range1 T.n_range (xp_var (i := 1) rfl)) rfl (.k (.k (.k (.k (.k (.k (.k (.k (.k (.k .nil)))))))))) (by rintro a7 _ d8 rfl; exact (xb_seq (L := (fun (a9 : List D) (e : En) => e = [some (.v x_plait), some (.v x_many_1), some (.v x_met_3), some (.o false p6 (.l a9)), some (.v d8), none, none, none, none, none])) (xs_for (i := 5) (L := (fun (a9 : List D) (e : En) => e = [some (.v x_plait), some (.v x_many_1), some (.v x_met_3), some (.o false p6 (.l a9)), some (.v d8), none, none, none, none, none])) (a0 := a7) (e0 := [some (.v x_plait), some (.v x_many_1), some (.v x_met_3), some (.o false p6 (.l a7)), some (.v d8), none, none, none, none, none]) (step := fun (a9 : List D) d10 => (((R.ok x_met_3).bnd fun d => R.of (D.seq d)).bnd fun ds => lcIR (fun d => (R.of (D.three d)).bnd fun q => (fun d13 d14 d15 => (((R.ok d13).bnd fun x => (R.ok d14).bnd fun y => .ok [x, y]).bnd fun ds => R.of ((fits ds).map D.tup)).bnd fun x => (((R.ok d8).bnd fun x => (R.ok d10).bnd fun y => .ok [x, y]).bnd fun ds => R.of ((fits ds).map D.tup)).bnd fun y => R.of (D.eq x y)) q.1 q.2.1 q.2.2) (fun d => (R.of (D.three d)).bnd fun q => (fun d13 d14 d15 => R.ok d15) q.1 q.2.1 q.2.2) ds).bnd fun x_signs_11 => (((R.ok d8).bnd fun x => (R.ok d10).bnd fun y => ((((R.ok (D.lst x_signs_11)).bnd fun x => .ok [x]).bnd fun ds => R.of (D.sum_ ds)).bnd fun x => (R.ok (D.int 2)).bnd fun y => R.of (D.div x y)).bnd fun z => .ok [x, y, z]).bnd fun ds => R.of ((fits ds).map D.tup)).bnd fun d => (R.of (appD a9 d)).bnd fun x_found_16 => .ok x_found_16) g (xi_range2 T.n_range (xp_op o_add d_add (xp_var (i := 4) rfl) xp_int) (xp_var (i := 1) rfl)) rfl (.k (.k (.k (.k (.k (.k (.k (.k (.k (.k .nil)))))))))) (by rintro a9 _ d10 rfl; exact (xb_letLcG (j := 6) g (fun p12 x_signs_11 => [some (.v x_plait), some (.v x_many_1), some (.v x_met_3), some (.o false p6 (.l a9)), some (.v d8), some (.v d10), some (.o false p12 (.l x_signs_11)), none, none, none]) (xi_seq (xp_var (i := 2) rfl)) (by exact (lcb3I (i0 := 7) (i1 := 8) (i2 := 9) (mt := fun d13 d14 d15 => (((R.ok d13).bnd fun x => (R.ok d14).bnd fun y => .ok [x, y]).bnd fun ds => R.of ((fits ds).map D.tup)).bnd fun x => (((R.ok d8).bnd fun x => (R.ok d10).bnd fun y => .ok [x, y]).bnd fun ds => R.of ((fits ds).map D.tup)).bnd fun y => R.of (D.eq x y)) (me := fun d13 d14 d15 => R.ok d15) g (fun d13 d14 d15 => fun s0 H0 C0 cl0 fp0 => (xt_cmp (o_eq hr.units) d_eq (nomark _) (xp_tup (xa_2 (xp_var (i := 7) rfl) (xp_var (i := 8) rfl))) (xp_tup (xa_2 (xp_var (i := 4) rfl) (xp_var (i := 5) rfl))))) (fun d13 d14 d15 => fun s0 H0 C0 cl0 fp0 => (xp_var (i := 9) rfl)))) (fun p12 x_signs_11 => (xb_frz (i := 6) [some (.v x_plait), some (.v x_many_1), some (.v x_met_3), some (.o false p6 (.l a9)), some (.v d8), some (.v d10), some (.v (D.lst x_signs_11)), none, none, none] (xb_mut (i := 3) PySem.F.slot_list_append PySem.F.type_list_append mt_append m_app (fun x_found_16 => [some (.v x_plait), some (.v x_many_1), some (.v x_met_3), some (.o false p6 (.l x_found_16)), some (.v d8), some (.v d10), some (.v (D.lst x_signs_11)), none, none, none]) (xp_tup (xa_3 (xp_var (i := 4) rfl) (xp_var (i := 5) rfl) (xp_op op_fdivW d_div (xp_callB (cr_sum rfl) d_sum (by rfl) T.n_sum (by decide +kernel) (xa_1 (xp_var (i := 6) rfl))) xp_int))) fun x_found_16 => (xb_end rfl (.k (.k (.k (.k (.k (.d (.d (.k (.k (.k .nil)))))))))))))) (blkOk_by (N := ["plait", "many", "met", "found", "one", "other", "signs", "first", "second", "sign"]) (sc := defScope s_windings) (by decide +kernel))))) (by rintro a17 _ rfl; exact (xb_end rfl (.k (.k (.k (.k (.d (.k (.k (.k (.k (.k .nil))))))))))))))) (by rintro a18 _ rfl; exact (xb_retO (i := 3) rfl))))))
theorem sc__law_state : FnScope ["script", "k", "cell"] ["script", "k"] (defScope s__law_state) := ⟨rfl, rfl, rfl, by decide +kernel, rfl, by decide +kernel, by decide +kernel⟩
@[irreducible] def f__law_state (x_script : D) (x_k : D) : R (List D) := (R.ok (D.int 0)).bnd fun x_cell_1 => (((R.ok x_k).bnd fun x => (((R.ok x_script).bnd fun x => .ok [x]).bnd fun ds => R.of (D.len ds)).bnd fun y => R.of (D.lt x y)).bnd fun b => if b = true then ((R.ok x_script).bnd fun x => (R.ok x_k).bnd fun y => R.of (D.ix x y)).bnd fun x_cell_3 => .ok x_cell_3 else .ok x_cell_1).bnd fun a5 => ((R.ok a5).bnd fun x => ((R.ok (D.int 10)).bnd fun x => (R.ok (D.int 18)).bnd fun y => R.of (D.pow x y)).bnd fun y => R.of (D.ge x y)).bnd fun b => if b = true then (((R.ok a5).bnd fun x => ((R.ok (D.int 10)).bnd fun x => (R.ok (D.int 18)).bnd fun y => R.of (D.pow x y)).bnd fun y => R.of (D.sub x y)).bnd fun x => (R.ok (D.int 1)).bnd fun y => .ok [x, y]).bnd fun ds => R.of (fits ds) else ((((R.ok a5).bnd fun x => ((R.ok (D.int 7919)).bnd fun x => (R.ok x_k).bnd fun y => R.of (D.mul x y)).bnd fun y => R.of (D.addI x y)).bnd fun x => (R.ok (D.int 2147483647)).bnd fun y => R.of (D.mod x y)).bnd fun x => (R.ok (D.int 0)).bnd fun y => .ok [x, y]).bnd fun ds => R.of (fits ds)
theorem ok__law_state (T : Txt K mg A) : FnOk P w K mg base (L2.CX P w) 1 A.a__law_state A.fd__law_state ["script", "k"] (spR K A.ec (rN K) 2 (ap2 f__law_state)) := by
  refine fn_ok T.F__law_state sc__law_state rfl fun cdv A' outer s H E hr g ds hd => ?_
  match ds, hd with
  | [x_script, x_k], _ => show XB _ _ [] _ [some (.v x_script), some (.v x_k), none] (f__law_state x_script x_k) _; unfold f__law_state; exact (xb_let (i := 2) g (fun x_cell_1 => [some (.v x_script), some (.v x_k), some (.v x_cell_1)]) xp_int fun x_cell_1 => (xb_seq (L := (fun (a5 : D) (e : En) => e = [some (.v x_script), some (.v x_k), some (.v a5)])) (xs_if (xt_cmp op_lt d_lt (nomark _) (xp_var (i := 1) rfl) (xp_callB c_len d_len (by rfl) T.n_len (by decide +kernel) (xa_1 (xp_var (i := 0) rfl)))) (xb_let (i := 2) g (fun x_cell_3 => [some (.v x_script), some (.v x_k), some (.v x_cell_3)]) (xp_ix o_ix d_ix (fun _ _ => rfl) (xp_var (i := 0) rfl) (xp_var (i := 1) rfl)) fun x_cell_3 => (xb_end rfl (.k (.k (.k .nil))))) (xb_end rfl (.k (.k (.k .nil))))) (by rintro a5 _ rfl; exact (xb_ifR (xt_cmp op_ge d_ge (nomark _) (xp_var (i := 2) rfl) (xp_op op_pow d_pow xp_int xp_int)) (xb_retN (xn_lst (xa_2 (xp_op op_sub d_sub (xp_var (i := 2) rfl) (xp_op op_pow d_pow xp_int xp_int)) xp_int))) (xb_retN (xn_lst (xa_2 (xp_op op_mod d_mod (xp_op o_add d_add (xp_var (i := 2) rfl) (xp_op op_mul d_mul xp_int (xp_var (i := 1) rfl))) xp_int) xp_int)))))))
theorem sc__law_take : FnScope ["state", "many", "found", "mixed"] ["state", "many"] (defScope s__law_take) := ⟨rfl, rfl, rfl, by decide +kernel, rfl, by decide +kernel, by decide +kernel⟩
@[irreducible] def f__law_take (x_state : List D) (x_many : D) : R (D × List D) := ((((R.ok (D.int 1)).bnd fun y => R.of (D.ix (D.lst x_state) y)).bnd fun x => (R.ok (D.int 1)).bnd fun y => R.of (D.eq x y)).bnd fun x => if x = true then ((R.ok (D.int 0)).bnd fun y => R.of (D.ix (D.lst x_state) y)).bnd fun x => (R.ok (D.int 0)).bnd fun y => R.of (D.gt x y) else .ok false).bnd fun b => if b = true then (((R.ok (D.int 0)).bnd fun y => R.of (D.ix (D.lst x_state) y)).bnd fun x => (R.ok x_many).bnd fun y => R.of (D.mod x y)).bnd fun x_found_1 => (((R.ok (D.int 0)).bnd fun y => R.of (D.ix (D.lst x_state) y)).bnd fun x => (R.ok x_many).bnd fun y => R.of (D.div x y)).bnd fun d => (R.ok (D.int 0)).bnd fun j => (R.of (setD x_state j d)).bnd fun x_state_3 => (R.ok x_found_1).bnd fun d => .ok (d, x_state_3) else (R.ok (D.int 0)).bnd fun d => (R.ok (D.int 1)).bnd fun j => (R.of (setD x_state j d)).bnd fun x_state_4 => (((((R.ok (D.int 0)).bnd fun y => R.of (D.ix (D.lst x_state_4) y)).bnd fun x => (R.ok (D.int 48271)).bnd fun y => R.of (D.mul x y)).bnd fun x => (R.ok (D.int 69621)).bnd fun y => R.of (D.addI x y)).bnd fun x => (R.ok (D.int 2147483647)).bnd fun y => R.of (D.mod x y)).bnd fun d => (R.ok (D.int 0)).bnd fun j => (R.of (setD x_state_4 j d)).bnd fun x_state_5 => (((((R.ok (D.int 0)).bnd fun y => R.of (D.ix (D.lst x_state_5) y)).bnd fun x => ((R.ok (D.int 0)).bnd fun y => R.of (D.ix (D.lst x_state_5) y)).bnd fun y => R.of (D.mul x y)).bnd fun x => ((R.ok (D.int 16807)).bnd fun x => ((R.ok (D.int 0)).bnd fun y => R.of (D.ix (D.lst x_state_5) y)).bnd fun y => R.of (D.mul x y)).bnd fun y => R.of (D.addI x y)).bnd fun x => (R.ok (D.int 2147483629)).bnd fun y => R.of (D.mod x y)).bnd fun x_mixed_6 => ((((R.ok x_mixed_6).bnd fun x => (R.ok x_mixed_6).bnd fun y => R.of (D.mul x y)).bnd fun x => ((R.ok (D.int 39373)).bnd fun x => (R.ok x_mixed_6).bnd fun y => R.of (D.mul x y)).bnd fun y => R.of (D.addI x y)).bnd fun x => (R.ok (D.int 2147483587)).bnd fun y => R.of (D.mod x y)).bnd fun x_mixed_8 => (((R.ok x_mixed_8).bnd fun x => (R.ok (D.int 8)).bnd fun y => R.of (D.div x y)).bnd fun x => (R.ok x_many).bnd fun y => R.of (D.mod x y)).bnd fun d => .ok (d, x_state_5)
theorem ok__law_take (T : Txt K mg A) : FnOk P w K mg base (L2.CX P w) 1 A.a__law_take A.fd__law_take ["state", "many"] (spIO K A.ec 1 (apI1 f__law_take)) := by
  refine fn_okIO T.F__law_take sc__law_take rfl fun cdv A' outer s H E hr g p_ x_state ds hd => ?_
  match ds, hd with
  | [x_many], _ => show XB _ _ [] _ [some (.o true p_ (.l x_state)), some (.v x_many), none, none] (f__law_take x_state x_many) _; unfold f__law_take; exact (xb_ifR (xt_w (xw_and (xt_cmp (o_eq hr.units) d_eq (nomark _) (xp_ixO (i := 0) xp_int) xp_int) (xw_and1 (xt_cmp op_gt d_gt (nomark _) (xp_ixO (i := 0) xp_int) xp_int)))) (xb_let (i := 2) g (fun x_found_1 => [some (.o true p_ (.l x_state)), some (.v x_many), some (.v x_found_1), none]) (xp_op op_mod d_mod (xp_ixO (i := 0) xp_int) (xp_var (i := 1) rfl)) fun x_found_1 => (xb_put (i := 0) (fun x_state_3 => [some (.o true p_ (.l x_state_3)), some (.v x_many), some (.v x_found_1), none]) (xp_op op_fdivW d_div (xp_ixO (i := 0) xp_int) (xp_var (i := 1) rfl)) xp_int fun x_state_3 => (xb_retIOP (i := 0) (xp_var (i := 2) rfl)))) (xb_put (i := 0) (fun x_state_4 => [some (.o true p_ (.l x_state_4)), some (.v x_many), none, none]) xp_int xp_int fun x_state_4 => (xb_put (i := 0) (fun x_state_5 => [some (.o true p_ (.l x_state_5)), some (.v x_many), none, none]) (xp_op op_mod d_mod (xp_op o_add d_add (xp_op op_mul d_mul (xp_ixO (i := 0) xp_int) xp_int) xp_int) xp_int) xp_int fun x_state_5 => (xb_let (i := 3) g (fun x_mixed_6 => [some (.o true p_ (.l x_state_5)), some (.v x_many), none, some (.v x_mixed_6)]) (xp_op op_mod d_mod (xp_op o_add d_add (xp_op op_mul d_mul (xp_ixO (i := 0) xp_int) (xp_ixO (i := 0) xp_int)) (xp_op op_mul d_mul xp_int (xp_ixO (i := 0) xp_int))) xp_int) fun x_mixed_6 => (xb_let (i := 3) g (fun x_mixed_8 => [some (.o true p_ (.l x_state_5)), some (.v x_many), none, some (.v x_mixed_8)]) (xp_op op_mod d_mod (xp_op o_add d_add (xp_op op_mul d_mul (xp_var (i := 3) rfl) (xp_var (i := 3) rfl)) (xp_op op_mul d_mul xp_int (xp_var (i := 3) rfl))) xp_int) fun x_mixed_8 => (xb_retIOP (i := 0) (xp_op op_mod d_mod (xp_op op_fdivW d_div (xp_var (i := 3) rfl) xp_int) (xp_var (i := 1) rfl))))))))
theorem sc__law_letter : FnScope ["state", "strands", "number"] ["state", "strands"] (defScope s__law_letter) := ⟨rfl, rfl, rfl, by decide +kernel, rfl, by decide +kernel, by decide +kernel⟩
@[irreducible] def f__law_letter (x_state : List D) (x_strands : D) : R (D × List D) := ((((R.ok (D.int 2)).bnd fun x => ((R.ok x_strands).bnd fun x => (R.ok (D.int 1)).bnd fun y => R.of (D.sub x y)).bnd fun y => R.of (D.mul x y)).bnd fun x => .ok [x]).bnd fun r => apI1 f__law_take x_state r).bnd2 fun x_number_1 c4 => ((((((R.ok (D.int 1)).bnd fun x => ((R.ok (D.int 1)).bnd fun x => R.of (D.neg x)).bnd fun y => .ok [x, y]).bnd fun ds => R.of (fits ds)).bnd fun z => .ok (D.lst z)).bnd fun x => ((R.ok x_number_1).bnd fun x => (R.ok (D.int 2)).bnd fun y => R.of (D.mod x y)).bnd fun y => R.of (D.ix x y)).bnd fun x => ((R.ok (D.int 1)).bnd fun x => ((R.ok x_number_1).bnd fun x => (R.ok (D.int 2)).bnd fun y => R.of (D.div x y)).bnd fun y => R.of (D.addI x y)).bnd fun y => R.of (D.mul x y)).bnd fun d => .ok (d, c4)
theorem ok__law_letter (T : Txt K mg A) : FnOk P w K mg base (L2.CX P w) 2 A.a__law_letter A.fd__law_letter ["state", "strands"] (spIO K A.ec 1 (apI1 f__law_letter)) := by
  refine fn_okIO T.F__law_letter sc__law_letter rfl fun cdv A' outer s H E hr g p_ x_state ds hd => ?_
  match ds, hd with
  | [x_strands], _ => show XB _ _ [] _ [some (.o true p_ (.l x_state)), some (.v x_strands), none] (f__law_letter x_state x_strands) _; unfold f__law_letter; exact (xb_letV (i := 2) (φ := (fun (c5 : List D) => ([some (.o true p_ (.l c5)), some (.v x_strands), none] : En))) g (fun x_number_1 c4 => [some (.o true p_ (.l c4)), some (.v x_strands), some (.v x_number_1)]) (xv_io (i := 0) g (ok__law_take T) (hr.mono (by decide)) T.m__law_take T.F__law_take.kp T.b__law_take (fun c3 => [some (.o true p_ (.l c3)), some (.v x_strands), none]) (xa_1 (xp_op op_mul d_mul xp_int (xp_op op_sub d_sub (xp_var (i := 1) rfl) xp_int))) lnI1) fun x_number_1 c4 => (xb_retIOP (i := 0) (xp_op op_mul d_mul (xp_ix o_ix d_ix (fun _ _ => rfl) (xn_xp (xn_lst (xa_2 xp_int (xp_un un_neg d_neg xp_int)))) (xp_op op_mod d_mod (xp_var (i := 2) rfl) xp_int)) (xp_op o_add d_add xp_int (xp_op op_fdivW d_div (xp_var (i := 2) rfl) xp_int)))))
theorem sc__law_plait : FnScope ["state", "most", "longest", "strands", "word", "k"] ["state", "most", "longest"] (defScope s__law_plait) := ⟨rfl, rfl, rfl, by decide +kernel, rfl, by decide +kernel, by decide +kernel⟩
@[irreducible] def f__law_plait (x_state : List D) (x_most : D) (x_longest : D) : R (D × List D) := (((R.ok (D.int 1)).bnd fun x => ((((((((((R.ok (D.int 12)).bnd fun x => (R.ok x_most).bnd fun y => R.of (D.mul x y)).bnd fun x => .ok [x]).bnd fun r => apI1 f__law_take x_state r).bnd2 fun x c4 => (R.ok (D.int 1)).bnd fun y => .ok ((x, y), c4)).bnd2 fun q c => (R.of (D.addI q.1 q.2)).bnd fun d => .ok (d, c)).bnd2 fun x c5 => ((R.ok (D.int 12)).bnd fun x => (R.ok x_most).bnd fun y => R.of (D.mul x y)).bnd fun y => .ok ((x, y), c5)).bnd2 fun q c => (R.of (D.mod q.1 q.2)).bnd fun d => .ok (d, c)).bnd2 fun x c6 => (R.ok (D.int 12)).bnd fun y => .ok ((x, y), c6)).bnd2 fun q c => (R.of (D.div q.1 q.2)).bnd fun d => .ok (d, c)).bnd2 fun y c => .ok ((x, y), c)).bnd2 fun q c => (R.of (D.addI q.1 q.2)).bnd fun d => .ok (d, c)).bnd2 fun x_strands_1 c7 => ((R.ok []).bnd fun ds => R.of (fits ds)).bnd fun x_word_8 => (((((((((R.ok x_longest).bnd fun x => (R.ok (D.int 1)).bnd fun y => R.of (D.addI x y)).bnd fun x => .ok [x]).bnd fun r => apI1 f__law_take c7 r).bnd2 fun x c13 => ((((R.ok x_strands_1).bnd fun x => (R.ok (D.int 1)).bnd fun y => R.of ((fun x y => (D.gt x y).map D.bl) x y)).bnd fun x => .ok [x]).bnd fun ds => R.of (D.toInt ds)).bnd fun y => .ok ((x, y), c13)).bnd2 fun q c => (R.of (D.mul q.1 q.2)).bnd fun d => .ok (d, c)).bnd2 fun x c14 => ((R.ok []).bnd fun d => R.ok (d, c14)).bnd2 fun xs c' => .ok (x :: xs, c')).bnd2 fun ds c => (R.of (rgA ds)).bnd fun l => .ok (l, c)).bnd2 fun ds c16 => foldR (fun (a17 : List D × List D) d18 => (((R.ok x_strands_1).bnd fun x => .ok [x]).bnd fun r => apI1 f__law_letter a17.1 r).bnd2 fun d c21 => (R.of (appD a17.2 d)).bnd fun x_word_19 => (((((((R.ok (D.int 4)).bnd fun x => .ok [x]).bnd fun r => apI1 f__law_take c21 r).bnd2 fun x c27 => (R.ok (D.int 0)).bnd fun y => .ok ((x, y), c27)).bnd2 fun q c => (R.of (D.eq q.1 q.2)).bnd fun d => .ok (d, c)).bnd2 fun b c28 => if b = true then (((((R.ok (D.lst x_word_19)).bnd fun x => .ok [x]).bnd fun ds => R.of (D.len ds)).bnd fun d => R.of (D.flat d)).bnd fun x => (R.ok (D.int 1)).bnd fun y => R.of (D.gt x y)).bnd fun y => .ok (y, c28) else .ok (false, c28)).bnd2 fun b c30 => if b = true then ((((((((R.ok (D.int 2)).bnd fun x => R.of (D.neg x)).bnd fun y => R.of (D.ix (D.lst x_word_19) y)).bnd fun x => ((R.ok (D.int 0)).bnd fun x => (((R.ok (D.int 2)).bnd fun x => R.of (D.neg x)).bnd fun y => R.of (D.ix (D.lst x_word_19) y)).bnd fun y => R.of (D.sub x y)).bnd fun y => .ok [x, y]).bnd fun ds => R.of (fits ds)).bnd fun z => .ok (D.lst z)).bnd fun x => (((R.ok (D.int 2)).bnd fun x => .ok [x]).bnd fun r => apI1 f__law_take c30 r).bnd2 fun y c => .ok ((x, y), c)).bnd fun q => (R.of (D.ix q.1.1 q.1.2)).bnd fun d => .ok (d, q.2)).bnd2 fun d c32 => ((R.ok (D.int 1)).bnd fun x => R.of (D.neg x)).bnd fun j => (R.of (setD x_word_19 j d)).bnd fun x_word_33 => .ok (c32, x_word_33) else .ok (c30, x_word_19)).bnd fun a35 => .ok (a35.1, a35.2)) (c16, x_word_8) ds).bnd fun a38 => (((R.ok x_strands_1).bnd fun x => (R.ok (D.tup a38.2)).bnd fun y => .ok [x, y]).bnd fun ds => R.of ((fits ds).map D.tup)).bnd fun d => .ok (d, a38.1)
theorem ok__law_plait (T : Txt K mg A) : FnOk P w K mg base (L2.CX P w) 3 A.a__law_plait A.fd__law_plait ["state", "most", "longest"] (spIO K A.ec 2 (apI2 f__law_plait)) := by
  refine fn_okIO T.F__law_plait sc__law_plait rfl fun cdv A' outer s H E hr g p_ x_state ds hd => ?_
  match ds, hd with
  | [x_most, x_longest], _ => show XB _ _ [] _ [some (.o true p_ (.l x_state)), some (.v x_most), some (.v x_longest), none, none, none] (f__law_plait x_state x_most x_longest) _; unfold f__law_plait; exact (xb_letV (i := 3) (φ := (fun (c40 : List D) => ([some (.o true p_ (.l c40)), some (.v x_most), some (.v x_longest), none, none, none] : En))) g (fun x_strands_1 c7 => [some (.o true p_ (.l c7)), some (.v x_most), some (.v x_longest), some (.v x_strands_1), none, none]) (xv_op o_add d_add (x2_pv xp_int (xv_op op_fdivW d_div (x2_vp (xv_op op_mod d_mod (x2_vp (xv_op o_add d_add (x2_vp (xv_io (i := 0) g (ok__law_take T) (hr.mono (by decide)) T.m__law_take T.F__law_take.kp T.b__law_take (fun c3 => [some (.o true p_ (.l c3)), some (.v x_most), some (.v x_longest), none, none, none]) (xa_1 (xp_op op_mul d_mul xp_int (xp_var (i := 1) rfl))) lnI1) fun c4 => xp_int)) fun c5 => (xp_op op_mul d_mul xp_int (xp_var (i := 1) rfl)))) fun c6 => xp_int)))) fun x_strands_1 c7 => (xb_letN (i := 4) g (fun p9 x_word_8 => [some (.o true p_ (.l c7)), some (.v x_most), some (.v x_longest), some (.v x_strands_1), some (.o false p9 (.l x_word_8)), none]) (xn_lst xa_nil) fun p9 x_word_8 => (xb_seq (L := (fun (a17 : List D × List D) (e : En) => e = [some (.o true p_ (.l a17.1)), some (.v x_most), some (.v x_longest), some (.v x_strands_1), some (.o false p9 (.l a17.2)), none])) (xs_forV (i := 5) (φ := (fun (c39 : List D) => ([some (.o true p_ (.l c39)), some (.v x_most), some (.v x_longest), some (.v x_strands_1), some (.o false p9 (.l x_word_8)), none] : En))) (L := (fun (a17 : List D × List D) (e : En) => e = [some (.o true p_ (.l a17.1)), some (.v x_most), some (.v x_longest), some (.v x_strands_1), some (.o false p9 (.l a17.2)), none])) (a0 := fun (c16 : List D) => (c16, x_word_8)) (e0 := fun (c16 : List D) => [some (.o true p_ (.l c16)), some (.v x_most), some (.v x_longest), some (.v x_strands_1), some (.o false p9 (.l x_word_8)), none]) (step := fun (a17 : List D × List D) d18 => (((R.ok x_strands_1).bnd fun x => .ok [x]).bnd fun r => apI1 f__law_letter a17.1 r).bnd2 fun d c21 => (R.of (appD a17.2 d)).bnd fun x_word_19 => (((((((R.ok (D.int 4)).bnd fun x => .ok [x]).bnd fun r => apI1 f__law_take c21 r).bnd2 fun x c27 => (R.ok (D.int 0)).bnd fun y => .ok ((x, y), c27)).bnd2 fun q c => (R.of (D.eq q.1 q.2)).bnd fun d => .ok (d, c)).bnd2 fun b c28 => if b = true then (((((R.ok (D.lst x_word_19)).bnd fun x => .ok [x]).bnd fun ds => R.of (D.len ds)).bnd fun d => R.of (D.flat d)).bnd fun x => (R.ok (D.int 1)).bnd fun y => R.of (D.gt x y)).bnd fun y => .ok (y, c28) else .ok (false, c28)).bnd2 fun b c30 => if b = true then ((((((((R.ok (D.int 2)).bnd fun x => R.of (D.neg x)).bnd fun y => R.of (D.ix (D.lst x_word_19) y)).bnd fun x => ((R.ok (D.int 0)).bnd fun x => (((R.ok (D.int 2)).bnd fun x => R.of (D.neg x)).bnd fun y => R.of (D.ix (D.lst x_word_19) y)).bnd fun y => R.of (D.sub x y)).bnd fun y => .ok [x, y]).bnd fun ds => R.of (fits ds)).bnd fun z => .ok (D.lst z)).bnd fun x => (((R.ok (D.int 2)).bnd fun x => .ok [x]).bnd fun r => apI1 f__law_take c30 r).bnd2 fun y c => .ok ((x, y), c)).bnd fun q => (R.of (D.ix q.1.1 q.1.2)).bnd fun d => .ok (d, q.2)).bnd2 fun d c32 => ((R.ok (D.int 1)).bnd fun x => R.of (D.neg x)).bnd fun j => (R.of (setD x_word_19 j d)).bnd fun x_word_33 => .ok (c32, x_word_33) else .ok (c30, x_word_19)).bnd fun a35 => .ok (a35.1, a35.2)) g (xiv_range1 T.n_range (xav_v (xv_op op_mul d_mul (x2_vp (xv_io (i := 0) g (ok__law_take T) (hr.mono (by decide)) T.m__law_take T.F__law_take.kp T.b__law_take (fun c12 => [some (.o true p_ (.l c12)), some (.v x_most), some (.v x_longest), some (.v x_strands_1), some (.o false p9 (.l x_word_8)), none]) (xa_1 (xp_op o_add d_add (xp_var (i := 2) rfl) xp_int)) lnI1) fun c13 => (xp_callTy call_int1 d_int (by rfl) T.n_int (by decide +kernel) (xa_1 (xp_cmp op_gt d_gt (nomark _) (xp_var (i := 3) rfl) xp_int))))) fun c14 => xav_of (φ := (fun (c15 : List D) => ([some (.o true p_ (.l c15)), some (.v x_most), some (.v x_longest), some (.v x_strands_1), some (.o false p9 (.l x_word_8)), none] : En))) (cc := c14) xa_nil)) (fun c16 => rfl) (fun c16 => (.k (.k (.k (.k (.k (.k .nil))))))) (by rintro a17 _ d18 rfl; exact (xb_mutV (i := 4) (φ := (fun (c37 : List D) => ([some (.o true p_ (.l c37)), some (.v x_most), some (.v x_longest), some (.v x_strands_1), some (.o false p9 (.l a17.2)), some (.v d18)] : En))) PySem.F.slot_list_append PySem.F.type_list_append mt_append m_app (fun c21 => a17.2) (fun x_word_19 c21 => [some (.o true p_ (.l c21)), some (.v x_most), some (.v x_longest), some (.v x_strands_1), some (.o false p9 (.l x_word_19)), some (.v d18)]) (xv_io (i := 0) g (ok__law_letter T) (hr.mono (by decide)) T.m__law_letter T.F__law_letter.kp T.b__law_letter (fun c20 => [some (.o true p_ (.l c20)), some (.v x_most), some (.v x_longest), some (.v x_strands_1), some (.o false p9 (.l a17.2)), some (.v d18)]) (xa_1 (xp_var (i := 3) rfl)) lnI1) fun x_word_19 c21 => (xb_seq (L := (fun (a35 : List D × List D) (e : En) => e = [some (.o true p_ (.l a35.1)), some (.v x_most), some (.v x_longest), some (.v x_strands_1), some (.o false p9 (.l a35.2)), some (.v d18)])) (xs_ifV (φ := (fun (c36 : List D) => ([some (.o true p_ (.l c36)), some (.v x_most), some (.v x_longest), some (.v x_strands_1), some (.o false p9 (.l x_word_19)), some (.v d18)] : En))) (xtv_w (xwv_andV (xtv_cmp (o_eq hr.units) d_eq (nomark _) (x2_vp (xv_io (i := 0) g (ok__law_take T) (hr.mono (by decide)) T.m__law_take T.F__law_take.kp T.b__law_take (fun c26 => [some (.o true p_ (.l c26)), some (.v x_most), some (.v x_longest), some (.v x_strands_1), some (.o false p9 (.l x_word_19)), some (.v d18)]) (xa_1 xp_int) lnI1) fun c27 => xp_int)) fun c28 => (xw_and1 (xt_cmp op_gt d_gt (nomark _) (xp_bor (i := 4) [some (.o true p_ (.l c28)), some (.v x_most), some (.v x_longest), some (.v x_strands_1), some (.v (D.lst x_word_19)), some (.v d18)] (xp_callB c_len d_len (by rfl) T.n_len (by decide +kernel) (xa_1 (xp_var (i := 4) rfl)))) xp_int)))) (fun c30 => (xb_putV (i := 4) (φ := (fun (c34 : List D) => ([some (.o true p_ (.l c34)), some (.v x_most), some (.v x_longest), some (.v x_strands_1), some (.o false p9 (.l x_word_19)), some (.v d18)] : En))) (cn := fun (c32 : List D) => x_word_19) (fun x_word_33 c32 => [some (.o true p_ (.l c32)), some (.v x_most), some (.v x_longest), some (.v x_strands_1), some (.o false p9 (.l x_word_33)), some (.v d18)]) (xv_ix o_ix d_ix (fun _ _ => rfl) (x2_pv (xn_xp (xn_lst (xa_2 (xp_ixO (i := 4) (xp_un un_neg d_neg xp_int)) (xp_op op_sub d_sub xp_int (xp_ixO (i := 4) (xp_un un_neg d_neg xp_int)))))) (xv_io (i := 0) g (ok__law_take T) (hr.mono (by decide)) T.m__law_take T.F__law_take.kp T.b__law_take (fun c31 => [some (.o true p_ (.l c31)), some (.v x_most), some (.v x_longest), some (.v x_strands_1), some (.o false p9 (.l x_word_19)), some (.v d18)]) (xa_1 xp_int) lnI1))) (fun c32 => (xp_un un_neg d_neg xp_int)) fun x_word_33 c32 => (xb_end rfl (.k (.k (.k (.k (.k (.k .nil))))))))) (fun c30 => (xb_end rfl (.k (.k (.k (.k (.k (.k .nil))))))))) (by rintro a35 _ rfl; exact (xb_end rfl (.k (.k (.k (.k (.k (.d .nil)))))))))))) (by rintro a38 _ rfl; exact (xb_retIOP (i := 0) (xp_tup (xa_2 (xp_var (i := 3) rfl) (xp_tupO (i := 4) T.n_tuple))))))))
theorem sc__law_whole : FnScope ["found"] ["found"] (defScope s__law_whole) := ⟨rfl, rfl, rfl, by decide +kernel, rfl, by decide +kernel, by decide +kernel⟩
@[irreducible] def f__law_whole (x_found : D) : R D := ((R.ok x_found).bnd fun d => R.of (D.isT "int" d)).bnd fun x => (R.of (D.bool x)).bnd fun t => if t = true then (((R.ok x_found).bnd fun d => R.of (D.isT "bool" d)).bnd fun x => (R.of (D.bool x)).bnd fun t => .ok (D.bl (!t))) else .ok (D.bl false)
theorem ok__law_whole (T : Txt K mg A) : FnOk P w K mg base (L2.CX P w) 1 A.a__law_whole A.fd__law_whole ["found"] (spR K A.ec (rP K) 1 (ap1 f__law_whole)) := by
  refine fn_ok T.F__law_whole sc__law_whole rfl fun cdv A' outer s H E hr g ds hd => ?_
  match ds, hd with
  | [x_found], _ => show XB _ _ [] _ [some (.v x_found)] (f__law_whole x_found) _; unfold f__law_whole; exact (xb_ret (xp_and (xp_isT T.n_isinstance T.n_int (by decide +kernel) (xp_var (i := 0) rfl)) (xp_one (xp_not (xp_isT T.n_isinstance T.n_bool (by decide +kernel) (xp_var (i := 0) rfl))))))
theorem sc__law_sign : FnScope ["letter"] ["letter"] (defScope s__law_sign) := ⟨rfl, rfl, rfl, by decide +kernel, rfl, by decide +kernel, by decide +kernel⟩
@[irreducible] def f__law_sign (x_letter : D) : R D := (((((R.ok (D.int 1)).bnd fun x => R.of (D.neg x)).bnd fun x => (R.ok (D.int 1)).bnd fun y => .ok [x, y]).bnd fun ds => R.of (fits ds)).bnd fun z => .ok (D.lst z)).bnd fun x => ((((R.ok x_letter).bnd fun x => (R.ok (D.int 0)).bnd fun y => R.of ((fun x y => (D.gt x y).map D.bl) x y)).bnd fun x => .ok [x]).bnd fun ds => R.of (D.toInt ds)).bnd fun y => R.of (D.ix x y)
theorem ok__law_sign (T : Txt K mg A) : FnOk P w K mg base (L2.CX P w) 1 A.a__law_sign A.fd__law_sign ["letter"] (spR K A.ec (rP K) 1 (ap1 f__law_sign)) := by
  refine fn_ok T.F__law_sign sc__law_sign rfl fun cdv A' outer s H E hr g ds hd => ?_
  match ds, hd with
  | [x_letter], _ => show XB _ _ [] _ [some (.v x_letter)] (f__law_sign x_letter) _; unfold f__law_sign; exact (xb_ret (xp_ix o_ix d_ix (fun _ _ => rfl) (xn_xp (xn_lst (xa_2 (xp_un un_neg d_neg xp_int) xp_int))) (xp_callTy call_int1 d_int (by rfl) T.n_int (by decide +kernel) (xa_1 (xp_cmp op_gt d_gt (nomark _) (xp_var (i := 0) rfl) xp_int)))))
theorem sc__law_strands : FnScope ["plait", "here", "met", "letter", "at"] ["plait"] (defScope s__law_strands) := ⟨rfl, rfl, rfl, by decide +kernel, rfl, by decide +kernel, by decide +kernel⟩
@[irreducible] def f__law_strands (x_plait : D) : R D := (((((R.ok x_plait).bnd fun x => (R.ok (D.int 0)).bnd fun y => R.of (D.ix x y)).bnd fun x => (R.of (D.toI x)).bnd fun i => .ok ((0 : Int), i)).bnd2 fun i j => R.of (rgL i j)).bnd fun z => .ok (D.lst z)).bnd fun x_here_1 => ((R.ok []).bnd fun ds => R.of (fits ds)).bnd fun x_met_3 => ((((R.ok x_plait).bnd fun x => (R.ok (D.int 1)).bnd fun y => R.of (D.ix x y)).bnd fun d => R.of (D.seq d)).bnd fun ds => foldR (fun (a5 : D × List D) d6 => ((((R.ok d6).bnd fun x => .ok [x]).bnd fun ds => R.of (D.abs ds)).bnd fun x => (R.ok (D.int 1)).bnd fun y => R.of (D.sub x y)).bnd fun x_at_7 => ((((R.ok a5.1).bnd fun x => (R.ok x_at_7).bnd fun y => R.of (D.ix x y)).bnd fun x => ((R.ok a5.1).bnd fun x => ((R.ok x_at_7).bnd fun x => (R.ok (D.int 1)).bnd fun y => R.of (D.addI x y)).bnd fun y => R.of (D.ix x y)).bnd fun y => (((R.ok d6).bnd fun x => .ok [x]).bnd (ap1 f__law_sign)).bnd fun z => .ok [x, y, z]).bnd fun ds => R.of ((fits ds).map D.tup)).bnd fun d => (R.of (appD a5.2 d)).bnd fun x_met_9 => (((((((R.ok a5.1).bnd fun x => (R.ok none).bnd fun l => ((R.ok x_at_7).bnd fun d => (R.of (D.toI d)).bnd fun i => .ok (some i)).bnd fun h => R.of (D.cutL x l h)).bnd fun z => .ok (D.lst z)).bnd fun x => (((((R.ok a5.1).bnd fun x => ((R.ok x_at_7).bnd fun x => (R.ok (D.int 1)).bnd fun y => R.of (D.addI x y)).bnd fun y => R.of (D.ix x y)).bnd fun x => ((R.ok a5.1).bnd fun x => (R.ok x_at_7).bnd fun y => R.of (D.ix x y)).bnd fun y => .ok [x, y]).bnd fun ds => R.of (fits ds)).bnd fun z => .ok (D.lst z)).bnd fun y => R.of (D.cat x y)).bnd fun z => .ok (D.lst z)).bnd fun x => (((R.ok a5.1).bnd fun x => (((R.ok x_at_7).bnd fun x => (R.ok (D.int 2)).bnd fun y => R.of (D.addI x y)).bnd fun d => (R.of (D.toI d)).bnd fun i => .ok (some i)).bnd fun l => (R.ok none).bnd fun h => R.of (D.cutL x l h)).bnd fun z => .ok (D.lst z)).bnd fun y => R.of (D.cat x y)).bnd fun z => .ok (D.lst z)).bnd fun x_here_10 => .ok (x_here_10, x_met_9)) (x_here_1, x_met_3) ds).bnd fun a12 => ((R.ok a12.1).bnd fun x => (R.ok (D.lst a12.2)).bnd fun y => .ok [x, y]).bnd fun ds => R.of ((fits ds).map D.tup)
theorem ok__law_strands (T : Txt K mg A) : FnOk P w K mg base (L2.CX P w) 2 A.a__law_strands A.fd__law_strands ["plait"] (spR K A.ec (rP K) 1 (ap1 f__law_strands)) := by
  refine fn_ok T.F__law_strands sc__law_strands rfl fun cdv A' outer s H E hr g ds hd => ?_
  match ds, hd with
  | [x_plait], _ => show XB _ _ [] _ [some (.v x_plait), none, none, none, none] (f__law_strands x_plait) _; unfold f__law_strands; exact (xb_let (i := 1) g (fun x_here_1 => [some (.v x_plait), some (.v x_here_1), none, none, none]) (xn_xp (xn_lrg g T.n_list (xr_1 T.n_range (xp_ix o_ix d_ix (fun _ _ => rfl) (xp_var (i := 0) rfl) xp_int)))) fun x_here_1 => (xb_letN (i := 2) g (fun p4 x_met_3 => [some (.v x_plait), some (.v x_here_1), some (.o false p4 (.l x_met_3)), none, none]) (xn_lst xa_nil) fun p4 x_met_3 => (xb_seq (L := (fun (a5 : D × List D) (e : En) => e = [some (.v x_plait), some (.v a5.1), some (.o false p4 (.l a5.2)), none, none])) (xs_for (i := 3) (L := (fun (a5 : D × List D) (e : En) => e = [some (.v x_plait), some (.v a5.1), some (.o false p4 (.l a5.2)), none, none])) (a0 := (x_here_1, x_met_3)) (e0 := [some (.v x_plait), some (.v x_here_1), some (.o false p4 (.l x_met_3)), none, none]) (step := fun (a5 : D × List D) d6 => ((((R.ok d6).bnd fun x => .ok [x]).bnd fun ds => R.of (D.abs ds)).bnd fun x => (R.ok (D.int 1)).bnd fun y => R.of (D.sub x y)).bnd fun x_at_7 => ((((R.ok a5.1).bnd fun x => (R.ok x_at_7).bnd fun y => R.of (D.ix x y)).bnd fun x => ((R.ok a5.1).bnd fun x => ((R.ok x_at_7).bnd fun x => (R.ok (D.int 1)).bnd fun y => R.of (D.addI x y)).bnd fun y => R.of (D.ix x y)).bnd fun y => (((R.ok d6).bnd fun x => .ok [x]).bnd (ap1 f__law_sign)).bnd fun z => .ok [x, y, z]).bnd fun ds => R.of ((fits ds).map D.tup)).bnd fun d => (R.of (appD a5.2 d)).bnd fun x_met_9 => (((((((R.ok a5.1).bnd fun x => (R.ok none).bnd fun l => ((R.ok x_at_7).bnd fun d => (R.of (D.toI d)).bnd fun i => .ok (some i)).bnd fun h => R.of (D.cutL x l h)).bnd fun z => .ok (D.lst z)).bnd fun x => (((((R.ok a5.1).bnd fun x => ((R.ok x_at_7).bnd fun x => (R.ok (D.int 1)).bnd fun y => R.of (D.addI x y)).bnd fun y => R.of (D.ix x y)).bnd fun x => ((R.ok a5.1).bnd fun x => (R.ok x_at_7).bnd fun y => R.of (D.ix x y)).bnd fun y => .ok [x, y]).bnd fun ds => R.of (fits ds)).bnd fun z => .ok (D.lst z)).bnd fun y => R.of (D.cat x y)).bnd fun z => .ok (D.lst z)).bnd fun x => (((R.ok a5.1).bnd fun x => (((R.ok x_at_7).bnd fun x => (R.ok (D.int 2)).bnd fun y => R.of (D.addI x y)).bnd fun d => (R.of (D.toI d)).bnd fun i => .ok (some i)).bnd fun l => (R.ok none).bnd fun h => R.of (D.cutL x l h)).bnd fun z => .ok (D.lst z)).bnd fun y => R.of (D.cat x y)).bnd fun z => .ok (D.lst z)).bnd fun x_here_10 => .ok (x_here_10, x_met_9)) g (xi_seq (xp_ix o_ix d_ix (fun _ _ => rfl) (xp_var (i := 0) rfl) xp_int)) rfl (.k (.k (.k (.k (.k .nil))))) (by rintro a5 _ d6 rfl; exact (xb_let (i := 4) g (fun x_at_7 => [some (.v x_plait), some (.v a5.1), some (.o false p4 (.l a5.2)), some (.v d6), some (.v x_at_7)]) (xp_op op_sub d_sub (xp_callB call_abs d_abs (by rfl) T.n_abs (by decide +kernel) (xa_1 (xp_var (i := 3) rfl))) xp_int) fun x_at_7 => (xb_mut (i := 2) PySem.F.slot_list_append PySem.F.type_list_append mt_append m_app (fun x_met_9 => [some (.v x_plait), some (.v a5.1), some (.o false p4 (.l x_met_9)), some (.v d6), some (.v x_at_7)]) (xp_tup (xa_3 (xp_ix o_ix d_ix (fun _ _ => rfl) (xp_var (i := 1) rfl) (xp_var (i := 4) rfl)) (xp_ix o_ix d_ix (fun _ _ => rfl) (xp_var (i := 1) rfl) (xp_op o_add d_add (xp_var (i := 4) rfl) xp_int)) (xp_call g (ok__law_sign T) (hr.mono (by decide)) T.m__law_sign T.F__law_sign.kp T.b__law_sign (xa_1 (xp_var (i := 3) rfl)) lnA1))) fun x_met_9 => (xb_let (i := 1) g (fun x_here_10 => [some (.v x_plait), some (.v x_here_10), some (.o false p4 (.l x_met_9)), some (.v d6), some (.v x_at_7)]) (xn_xp (xn_two d_cat (xn_xp (xn_two d_cat (xn_xp (xn_cut (xp_var (i := 1) rfl) xo_none (xo_some (xp_var (i := 4) rfl)))) (xn_xp (xn_lst (xa_2 (xp_ix o_ix d_ix (fun _ _ => rfl) (xp_var (i := 1) rfl) (xp_op o_add d_add (xp_var (i := 4) rfl) xp_int)) (xp_ix o_ix d_ix (fun _ _ => rfl) (xp_var (i := 1) rfl) (xp_var (i := 4) rfl))))) (pe_op op_catR pe_w pe_w))) (xn_xp (xn_cut (xp_var (i := 1) rfl) (xo_some (xp_op o_add d_add (xp_var (i := 4) rfl) xp_int)) xo_none)) (pe_op op_catR pe_w pe_w))) fun x_here_10 => (xb_end rfl (.k (.k (.k (.d (.d .nil))))))))))) (by rintro a12 _ rfl; exact (xb_frz (i := 2) [some (.v x_plait), some (.v a12.1), some (.v (D.lst a12.2)), none, none] (xb_ret (xp_tup (xa_2 (xp_var (i := 1) rfl) (xp_var (i := 2) rfl)))))))))
theorem sc__law_pieces : FnScope ["plait", "ends", "mark", "turn", "place", "low", "found", "other"] ["plait"] (defScope s__law_pieces) := ⟨rfl, rfl, rfl, by decide +kernel, rfl, by decide +kernel, by decide +kernel⟩
@[irreducible] def f__law_pieces (x_plait : D) : R D := ((((R.ok x_plait).bnd fun x => .ok [x]).bnd (ap1 f__law_strands)).bnd fun x => (R.ok (D.int 0)).bnd fun y => R.of (D.ix x y)).bnd fun x_ends_1 => ((((R.ok x_plait).bnd fun x => (R.ok (D.int 0)).bnd fun y => R.of (D.ix x y)).bnd fun x => (R.of (D.toI x)).bnd fun i => .ok ((0 : Int), i)).bnd2 fun i j => R.of (rgL i j)).bnd fun x_mark_3 => ((((R.ok x_plait).bnd fun x => (R.ok (D.int 0)).bnd fun y => R.of (D.ix x y)).bnd fun x => R.of (rg1 x)).bnd fun ds => foldR (fun (a5 : List D) d6 => ((((R.ok x_plait).bnd fun x => (R.ok (D.int 0)).bnd fun y => R.of (D.ix x y)).bnd fun x => R.of (rg1 x)).bnd fun ds => foldR (fun (a7 : List D) d8 => ((((R.ok d8).bnd fun y => R.of (D.ix (D.lst a7) y)).bnd fun x => (((R.ok x_ends_1).bnd fun x => (R.ok d8).bnd fun y => R.of (D.ix x y)).bnd fun y => R.of (D.ix (D.lst a7) y)).bnd fun y => .ok [x, y]).bnd fun ds => R.of (D.min2 ds)).bnd fun x_low_9 => (R.ok x_low_9).bnd fun d => (R.ok d8).bnd fun j => (R.of (setD a7 j d)).bnd fun x_mark_11 => (R.ok x_low_9).bnd fun d => ((R.ok x_ends_1).bnd fun x => (R.ok d8).bnd fun y => R.of (D.ix x y)).bnd fun j => (R.of (setD x_mark_11 j d)).bnd fun x_mark_12 => .ok x_mark_12) a5 ds).bnd fun a13 => .ok a13) x_mark_3 ds).bnd fun a14 => ((R.ok []).bnd fun ds => R.of (fits ds)).bnd fun x_found_15 => ((((R.ok x_plait).bnd fun x => (R.ok (D.int 0)).bnd fun y => R.of (D.ix x y)).bnd fun x => R.of (rg1 x)).bnd fun ds => foldR (fun (a17 : List D) d18 => ((((R.ok d18).bnd fun y => R.of (D.ix (D.lst a14) y)).bnd fun x => (R.ok d18).bnd fun y => R.of (D.eq x y)).bnd fun b => if b = true then (((((R.ok x_plait).bnd fun x => (R.ok (D.int 0)).bnd fun y => R.of (D.ix x y)).bnd fun x => R.of (rg1 x)).bnd fun ds => lcIR (fun d20 => ((R.ok d20).bnd fun y => R.of (D.ix (D.lst a14) y)).bnd fun x => (R.ok d18).bnd fun y => R.of (D.eq x y)) (fun d20 => R.ok d20) ds).bnd fun z => .ok (D.lst z)).bnd fun d => (R.of (appD a17 d)).bnd fun x_found_19 => .ok x_found_19 else .ok a17).bnd fun a21 => .ok a21) x_found_15 ds).bnd fun a22 => .ok (D.lst a22)
theorem ok__law_pieces (T : Txt K mg A) : FnOk P w K mg base (L2.CX P w) 3 A.a__law_pieces A.fd__law_pieces ["plait"] (spR K A.ec (rP K) 1 (ap1 f__law_pieces)) := by
  refine fn_ok T.F__law_pieces sc__law_pieces rfl fun cdv A' outer s H E hr g ds hd => ?_
  match ds, hd with
  | [x_plait], _ => show XB _ _ [] _ [some (.v x_plait), none, none, none, none, none, none, none] (f__law_pieces x_plait) _; unfold f__law_pieces; exact (xb_let (i := 1) g (fun x_ends_1 => [some (.v x_plait), some (.v x_ends_1), none, none, none, none, none, none]) (xp_ix o_ix d_ix (fun _ _ => rfl) (xp_call g (ok__law_strands T) (hr.mono (by decide)) T.m__law_strands T.F__law_strands.kp T.b__law_strands (xa_1 (xp_var (i := 0) rfl)) lnA1) xp_int) fun x_ends_1 => (xb_letN (i := 2) g (fun p4 x_mark_3 => [some (.v x_plait), some (.v x_ends_1), some (.o false p4 (.l x_mark_3)), none, none, none, none, none]) (xn_lrg g T.n_list (xr_1 T.n_range (xp_ix o_ix d_ix (fun _ _ => rfl) (xp_var (i := 0) rfl) xp_int))) fun p4 x_mark_3 => (xb_seq (L := (fun (a5 : List D) (e : En) => e = [some (.v x_plait), some (.v x_ends_1), some (.o false p4 (.l a5)), none, none, none, none, none])) (xs_for (i := 3) (L := (fun (a5 : List D) (e : En) => e = [some (.v x_plait), some (.v x_ends_1), some (.o false p4 (.l a5)), none, none, none, none, none])) (a0 := x_mark_3) (e0 := [some (.v x_plait), some (.v x_ends_1), some (.o false p4 (.l x_mark_3)), none, none, none, none, none]) (step := fun (a5 : List D) d6 => ((((R.ok x_plait).bnd fun x => (R.ok (D.int 0)).bnd fun y => R.of (D.ix x y)).bnd fun x => R.of (rg1 x)).bnd fun ds => foldR (fun (a7 : List D) d8 => ((((R.ok d8).bnd fun y => R.of (D.ix (D.lst a7) y)).bnd fun x => (((R.ok x_ends_1).bnd fun x => (R.ok d8).bnd fun y => R.of (D.ix x y)).bnd fun y => R.of (D.ix (D.lst a7) y)).bnd fun y => .ok [x, y]).bnd fun ds => R.of (D.min2 ds)).bnd fun x_low_9 => (R.ok x_low_9).bnd fun d => (R.ok d8).bnd fun j => (R.of (setD a7 j d)).bnd fun x_mark_11 => (R.ok x_low_9).bnd fun d => ((R.ok x_ends_1).bnd fun x => (R.ok d8).bnd fun y => R.of (D.ix x y)).bnd fun j => (R.of (setD x_mark_11 j d)).bnd fun x_mark_12 => .ok x_mark_12) a5 ds).bnd fun a13 => .ok a13) g (xi_range1 T.n_range (xp_ix o_ix d_ix (fun _ _ => rfl) (xp_var (i := 0) rfl) xp_int)) rfl (.k (.k (.k (.k (.k (.k (.k (.k .nil)))))))) (by rintro a5 _ d6 rfl; exact (xb_seq (L := (fun (a7 : List D) (e : En) => e = [some (.v x_plait), some (.v x_ends_1), some (.o false p4 (.l a7)), some (.v d6), none, none, none, none])) (xs_for (i := 4) (L := (fun (a7 : List D) (e : En) => e = [some (.v x_plait), some (.v x_ends_1), some (.o false p4 (.l a7)), some (.v d6), none, none, none, none])) (a0 := a5) (e0 := [some (.v x_plait), some (.v x_ends_1), some (.o false p4 (.l a5)), some (.v d6), none, none, none, none]) (step := fun (a7 : List D) d8 => ((((R.ok d8).bnd fun y => R.of (D.ix (D.lst a7) y)).bnd fun x => (((R.ok x_ends_1).bnd fun x => (R.ok d8).bnd fun y => R.of (D.ix x y)).bnd fun y => R.of (D.ix (D.lst a7) y)).bnd fun y => .ok [x, y]).bnd fun ds => R.of (D.min2 ds)).bnd fun x_low_9 => (R.ok x_low_9).bnd fun d => (R.ok d8).bnd fun j => (R.of (setD a7 j d)).bnd fun x_mark_11 => (R.ok x_low_9).bnd fun d => ((R.ok x_ends_1).bnd fun x => (R.ok d8).bnd fun y => R.of (D.ix x y)).bnd fun j => (R.of (setD x_mark_11 j d)).bnd fun x_mark_12 => .ok x_mark_12) g (xi_range1 T.n_range (xp_ix o_ix d_ix (fun _ _ => rfl) (xp_var (i := 0) rfl) xp_int)) rfl (.k (.k (.k (.k (.k (.k (.k (.k .nil)))))))) (by rintro a7 _ d8 rfl; exact (xb_let (i := 5) g (fun x_low_9 => [some (.v x_plait), some (.v x_ends_1), some (.o false p4 (.l a7)), some (.v d6), some (.v d8), some (.v x_low_9), none, none]) (xp_callB (call_min2 rfl) d_min2 (by rfl) T.n_min (by decide +kernel) (xa_2 (xp_ixO (i := 2) (xp_var (i := 4) rfl)) (xp_ixO (i := 2) (xp_ix o_ix d_ix (fun _ _ => rfl) (xp_var (i := 1) rfl) (xp_var (i := 4) rfl))))) fun x_low_9 => (xb_put (i := 2) (fun x_mark_11 => [some (.v x_plait), some (.v x_ends_1), some (.o false p4 (.l x_mark_11)), some (.v d6), some (.v d8), some (.v x_low_9), none, none]) (xp_var (i := 5) rfl) (xp_var (i := 4) rfl) fun x_mark_11 => (xb_put (i := 2) (fun x_mark_12 => [some (.v x_plait), some (.v x_ends_1), some (.o false p4 (.l x_mark_12)), some (.v d6), some (.v d8), some (.v x_low_9), none, none]) (xp_var (i := 5) rfl) (xp_ix o_ix d_ix (fun _ _ => rfl) (xp_var (i := 1) rfl) (xp_var (i := 4) rfl)) fun x_mark_12 => (xb_end rfl (.k (.k (.k (.k (.d (.d (.k (.k .nil)))))))))))))) (by rintro a13 _ rfl; exact (xb_end rfl (.k (.k (.k (.d (.k (.k (.k (.k .nil))))))))))))) (by rintro a14 _ rfl; exact (xb_letN (i := 6) g (fun p16 x_found_15 => [some (.v x_plait), some (.v x_ends_1), some (.o false p4 (.l a14)), none, none, none, some (.o false p16 (.l x_found_15)), none]) (xn_lst xa_nil) fun p16 x_found_15 => (xb_seq (L := (fun (a17 : List D) (e : En) => e = [some (.v x_plait), some (.v x_ends_1), some (.o false p4 (.l a14)), none, none, none, some (.o false p16 (.l a17)), none])) (xs_for (i := 4) (L := (fun (a17 : List D) (e : En) => e = [some (.v x_plait), some (.v x_ends_1), some (.o false p4 (.l a14)), none, none, none, some (.o false p16 (.l a17)), none])) (a0 := x_found_15) (e0 := [some (.v x_plait), some (.v x_ends_1), some (.o false p4 (.l a14)), none, none, none, some (.o false p16 (.l x_found_15)), none]) (step := fun (a17 : List D) d18 => ((((R.ok d18).bnd fun y => R.of (D.ix (D.lst a14) y)).bnd fun x => (R.ok d18).bnd fun y => R.of (D.eq x y)).bnd fun b => if b = true then (((((R.ok x_plait).bnd fun x => (R.ok (D.int 0)).bnd fun y => R.of (D.ix x y)).bnd fun x => R.of (rg1 x)).bnd fun ds => lcIR (fun d20 => ((R.ok d20).bnd fun y => R.of (D.ix (D.lst a14) y)).bnd fun x => (R.ok d18).bnd fun y => R.of (D.eq x y)) (fun d20 => R.ok d20) ds).bnd fun z => .ok (D.lst z)).bnd fun d => (R.of (appD a17 d)).bnd fun x_found_19 => .ok x_found_19 else .ok a17).bnd fun a21 => .ok a21) g (xi_range1 T.n_range (xp_ix o_ix d_ix (fun _ _ => rfl) (xp_var (i := 0) rfl) xp_int)) rfl (.k (.k (.k (.k (.k (.k (.k (.k .nil)))))))) (by rintro a17 _ d18 rfl; exact (xb_seq (L := (fun (a21 : List D) (e : En) => e = [some (.v x_plait), some (.v x_ends_1), some (.o false p4 (.l a14)), none, some (.v d18), none, some (.o false p16 (.l a21)), none])) (xs_if (xt_cmp (o_eq hr.units) d_eq (nomark _) (xp_ixO (i := 2) (xp_var (i := 4) rfl)) (xp_var (i := 4) rfl)) (xb_mut (i := 6) PySem.F.slot_list_append PySem.F.type_list_append mt_append m_app (fun x_found_19 => [some (.v x_plait), some (.v x_ends_1), some (.o false p4 (.l a14)), none, some (.v d18), none, some (.o false p16 (.l x_found_19)), none]) (xn_xp (xn_lcI (i := 7) (hblk := (blkOk_by (N := ["plait", "ends", "mark", "turn", "place", "low", "found", "other"]) (sc := defScope s__law_pieces) (by decide +kernel))) g (xi_range1 T.n_range (xp_ix o_ix d_ix (fun _ _ => rfl) (xp_var (i := 0) rfl) xp_int)) (fun d20 => fun s0 H0 C0 cl0 fp0 => (xt_cmp (o_eq hr.units) d_eq (nomark _) (xp_ixO (i := 2) (xp_var (i := 7) rfl)) (xp_var (i := 4) rfl))) (fun d20 => fun s0 H0 C0 cl0 fp0 => (xp_var (i := 7) rfl)))) fun x_found_19 => (xb_end rfl (.k (.k (.k (.k (.k (.k (.k (.k .nil)))))))))) (xb_end rfl (.k (.k (.k (.k (.k (.k (.k (.k .nil)))))))))) (by rintro a21 _ rfl; exact (xb_end rfl (.k (.k (.k (.k (.d (.k (.k (.k .nil))))))))))))) (by rintro a22 _ rfl; exact (xb_retOP (i := 6) rfl))))))))
theorem sc__law_windings : FnScope ["plait", "some", "met", "found", "one", "other", "total", "first", "second", "sign", "ways"] ["plait"] (defScope s__law_windings) := ⟨rfl, rfl, rfl, by decide +kernel, rfl, by decide +kernel, by decide +kernel⟩
@[irreducible] def f__law_windings (x_plait : D) : R D := (((R.ok x_plait).bnd fun x => .ok [x]).bnd (ap1 f__law_pieces)).bnd fun x_some_1 => ((((R.ok x_plait).bnd fun x => .ok [x]).bnd (ap1 f__law_strands)).bnd fun x => (R.ok (D.int 1)).bnd fun y => R.of (D.ix x y)).bnd fun x_met_3 => ((R.ok []).bnd fun ds => R.of (fits ds)).bnd fun x_found_5 => (((((R.ok x_some_1).bnd fun x => .ok [x]).bnd fun ds => R.of (D.len ds)).bnd fun x => R.of (rg1 x)).bnd fun ds => foldR (fun (a7 : List D) d8 => ((((R.ok d8).bnd fun x => (R.ok (D.int 1)).bnd fun y => R.of (D.addI x y)).bnd fun x => (((R.ok x_some_1).bnd fun x => .ok [x]).bnd fun ds => R.of (D.len ds)).bnd fun y => R.of (rg2 x y)).bnd fun ds => foldR (fun (a9 : List D) d10 => (R.ok (D.int 0)).bnd fun x_total_11 => (((R.ok x_met_3).bnd fun d => R.of (D.seq d)).bnd fun ds => foldR (fun (a13 : D) d => (R.of (D.three d)).bnd fun q => (fun d14 d15 d16 => ((((((R.ok d14).bnd fun x => ((R.ok x_some_1).bnd fun x => (R.ok d8).bnd fun y => R.of (D.ix x y)).bnd fun y => R.of ((fun x y => (D.in_ x y).map D.bl) x y)).bnd fun x => (R.of (D.bool x)).bnd fun t => if t = true then ((R.ok d15).bnd fun x => ((R.ok x_some_1).bnd fun x => (R.ok d10).bnd fun y => R.of (D.ix x y)).bnd fun y => R.of ((fun x y => (D.in_ x y).map D.bl) x y)) else .ok (D.bl false)).bnd fun x => (((R.ok d15).bnd fun x => ((R.ok x_some_1).bnd fun x => (R.ok d8).bnd fun y => R.of (D.ix x y)).bnd fun y => R.of ((fun x y => (D.in_ x y).map D.bl) x y)).bnd fun x => (R.of (D.bool x)).bnd fun t => if t = true then ((R.ok d14).bnd fun x => ((R.ok x_some_1).bnd fun x => (R.ok d10).bnd fun y => R.of (D.ix x y)).bnd fun y => R.of ((fun x y => (D.in_ x y).map D.bl) x y)) else .ok (D.bl false)).bnd fun y => .ok [x, y]).bnd fun ds => R.of (fits ds)).bnd fun z => .ok (D.lst z)).bnd fun x_ways_17 => ((R.ok a13).bnd fun x => ((R.ok d16).bnd fun x => ((((R.ok (D.bl true)).bnd fun x => (R.ok x_ways_17).bnd fun y => R.of ((fun x y => (D.inB x y).map D.bl) x y)).bnd fun x => .ok [x]).bnd fun ds => R.of (D.toInt ds)).bnd fun y => R.of (D.mul x y)).bnd fun y => R.of (D.addI x y)).bnd fun x_total_19 => .ok x_total_19) q.1 q.2.1 q.2.2) x_total_11 ds).bnd fun a21 => (((R.ok d8).bnd fun x => (R.ok d10).bnd fun y => ((R.ok a21).bnd fun x => (R.ok (D.int 2)).bnd fun y => R.of (D.div x y)).bnd fun z => .ok [x, y, z]).bnd fun ds => R.of ((fits ds).map D.tup)).bnd fun d => (R.of (appD a9 d)).bnd fun x_found_22 => .ok x_found_22) a7 ds).bnd fun a23 => .ok a23) x_found_5 ds).bnd fun a24 => .ok (D.lst a24)
theorem ok__law_windings (T : Txt K mg A) : FnOk P w K mg base (L2.CX P w) 4 A.a__law_windings A.fd__law_windings ["plait"] (spR K A.ec (rP K) 1 (ap1 f__law_windings)) := by
  refine fn_ok T.F__law_windings sc__law_windings rfl fun cdv A' outer s H E hr g ds hd => ?_
  match ds, hd with
  | [x_plait], _ => show XB _ _ [] _ [some (.v x_plait), none, none, none, none, none, none, none, none, none, none] (f__law_windings x_plait) _; unfold f__law_windings; exact (xb_let (i := 1) g (fun x_some_1 => [some (.v x_plait), some (.v x_some_1), none, none, none, none, none, none, none, none, none]) (xp_call g (ok__law_pieces T) (hr.mono (by decide)) T.m__law_pieces T.F__law_pieces.kp T.b__law_pieces (xa_1 (xp_var (i := 0) rfl)) lnA1) fun x_some_1 => (xb_let (i := 2) g (fun x_met_3 => [some (.v x_plait), some (.v x_some_1), some (.v x_met_3), none, none, none, none, none, none, none, none]) (xp_ix o_ix d_ix (fun _ _ => rfl) (xp_call g (ok__law_strands T) (hr.mono (by decide)) T.m__law_strands T.F__law_strands.kp T.b__law_strands (xa_1 (xp_var (i := 0) rfl)) lnA1) xp_int) fun x_met_3 => (xb_letN (i := 3) g (fun p6 x_found_5 => [some (.v x_plait), some (.v x_some_1), some (.v x_met_3), some (.o false p6 (.l x_found_5)), none, none, none, none, none, none, none]) (xn_lst xa_nil) fun p6 x_found_5 => (xb_seq (L := (fun (a7 : List D) (e : En) => e = [some (.v x_plait), some (.v x_some_1), some (.v x_met_3), some (.o false p6 (.l a7)), none, none, none, none, none, none, none])) (xs_for (i := 4) (L := (fun (a7 : List D) (e : En) => e = [some (.v x_plait), some (.v x_some_1), some (.v x_met_3), some (.o false p6 (.l a7)), none, none, none, none, none, none, none])) (a0 := x_found_5) (e0 := [some (.v x_plait), some (.v x_some_1), some (.v x_met_3), some (.o false p6 (.l x_found_5)), none, none, none, none, none, none, none]) (step := fun (a7 : List D) d8 => ((((R.ok d8).bnd fun x => (R.ok (D.int 1)).bnd fun y => R.of (D.addI x y)).bnd fun x => (((R.ok x_some_1).bnd fun x => .ok [x]).bnd fun ds => R.of (D.len ds)).bnd fun y => R.of (rg2 x y)).bnd fun ds => foldR (fun (a9 : List D) d10 => (R.ok (D.int 0)).bnd fun x_total_11 => (((R.ok x_met_3).bnd fun d => R.of (D.seq d)).bnd fun ds => foldR (fun (a13 : D) d => (R.of (D.three d)).bnd fun q => (fun d14 d15 d16 => ((((((R.ok d14).bnd fun x => ((R.ok x_some_1).bnd fun x => (R.ok d8).bnd fun y => R.of (D.ix x y)).bnd fun y => R.of ((fun x y => (D.in_ x y).map D.bl) x y)).bnd fun x => (R.of (D.bool x)).bnd fun t => if t = true then ((R.ok d15).bnd fun x => ((R.ok x_some_1).bnd fun x => (R.ok d10).bnd fun y => R.of (D.ix x y)).bnd fun y => R.of ((fun x y => (D.in_ x y).map D.bl) x y)) else .ok (D.bl false)).bnd fun x => (((R.ok d15).bnd fun x => ((R.ok x_some_1).bnd fun x => (R.ok d8).bnd fun y => R.of (D.ix x y)).bnd fun y => R.of ((fun x y => (D.in_ x y).map D.bl) x y)).bnd fun x => (R.of (D.bool x)).bnd fun t => if t = true then ((R.ok d14).bnd fun x => ((R.ok x_some_1).bnd fun x => (R.ok d10).bnd fun y => R.of (D.ix x y)).bnd fun y => R.of ((fun x y => (D.in_ x y).map D.bl) x y)) else .ok (D.bl false)).bnd fun y => .ok [x, y]).bnd fun ds => R.of (fits ds)).bnd fun z => .ok (D.lst z)).bnd fun x_ways_17 => ((R.ok a13).bnd fun x => ((R.ok d16).bnd fun x => ((((R.ok (D.bl true)).bnd fun x => (R.ok x_ways_17).bnd fun y => R.of ((fun x y => (D.inB x y).map D.bl) x y)).bnd fun x => .ok [x]).bnd fun ds => R.of (D.toInt ds)).bnd fun y => R.of (D.mul x y)).bnd fun y => R.of (D.addI x y)).bnd fun x_total_19 => .ok x_total_19) q.1 q.2.1 q.2.2) x_total_11 ds).bnd fun a21 => (((R.ok d8).bnd fun x => (R.ok d10).bnd fun y => ((R.ok a21).bnd fun x => (R.ok (D.int 2)).bnd fun y => R.of (D.div x y)).bnd fun z => .ok [x, y, z]).bnd fun ds => R.of ((fits ds).map D.tup)).bnd fun d => (R.of (appD a9 d)).bnd fun x_found_22 => .ok x_found_22) a7 ds).bnd fun a23 => .ok a23) g (xi_range1 T.n_range (xp_callB c_len d_len (by rfl) T.n_len (by decide +kernel) (xa_1 (xp_var (i := 1) rfl)))) rfl (.k (.k (.k (.k (.k (.k (.k (.k (.k (.k (.k .nil))))))))))) (by rintro a7 _ d8 rfl; exact (xb_seq (L := (fun (a9 : List D) (e : En) => e = [some (.v x_plait), some (.v x_some_1), some (.v x_met_3), some (.o false p6 (.l a9)), some (.v d8), none, none, none, none, none, none])) (xs_for (i := 5) (L := (fun (a9 : List D) (e : En) => e = [some (.v x_plait), some (.v x_some_1), some (.v x_met_3), some (.o false p6 (.l a9)), some (.v d8), none, none, none, none, none, none])) (a0 := a7) (e0 := [some (.v x_plait), some (.v x_some_1), some (.v x_met_3), some (.o false p6 (.l a7)), some (.v d8), none, none, none, none, none, none]) (step := fun (a9 : List D) d10 => (R.ok (D.int 0)).bnd fun x_total_11 => (((R.ok x_met_3).bnd fun d => R.of (D.seq d)).bnd fun ds => foldR (fun (a13 : D) d => (R.of (D.three d)).bnd fun q => (fun d14 d15 d16 => ((((((R.ok d14).bnd fun x => ((R.ok x_some_1).bnd fun x => (R.ok d8).bnd fun y => R.of (D.ix x y)).bnd fun y => R.of ((fun x y => (D.in_ x y).map D.bl) x y)).bnd fun x => (R.of (D.bool x)).bnd fun t => if t = true then ((R.ok d15).bnd fun x => ((R.ok x_some_1).bnd fun x => (R.ok d10).bnd fun y => R.of (D.ix x y)).bnd fun y => R.of ((fun x y => (D.in_ x y).map D.bl) x y)) else .ok (D.bl false)).bnd fun x => (((R.ok d15).bnd fun x => ((R.ok x_some_1).bnd fun x => (R.ok d8).bnd fun y => R.of (D.ix x y)).bnd fun y => R.of ((fun x y => (D.in_ x y).map D.bl) x y)).bnd fun x => (R.of (D.bool x)).bnd fun t => if t = true then ((R.ok d14).bnd fun x => ((R.ok x_some_1).bnd fun x => (R.ok d10).bnd fun y => R.of (D.ix x y)).bnd fun y => R.of ((fun x y => (D.in_ x y).map D.bl) x y)) else .ok (D.bl false)).bnd fun y => .ok [x, y]).bnd fun ds => R.of (fits ds)).bnd fun z => .ok (D.lst z)).bnd fun x_ways_17 => ((R.ok a13).bnd fun x => ((R.ok d16).bnd fun x => ((((R.ok (D.bl true)).bnd fun x => (R.ok x_ways_17).bnd fun y => R.of ((fun x y => (D.inB x y).map D.bl) x y)).bnd fun x => .ok [x]).bnd fun ds => R.of (D.toInt ds)).bnd fun y => R.of (D.mul x y)).bnd fun y => R.of (D.addI x y)).bnd fun x_total_19 => .ok x_total_19) q.1 q.2.1 q.2.2) x_total_11 ds).bnd fun a21 => (((R.ok d8).bnd fun x => (R.ok d10).bnd fun y => ((R.ok a21).bnd fun x => (R.ok (D.int 2)).bnd fun y => R.of (D.div x y)).bnd fun z => .ok [x, y, z]).bnd fun ds => R.of ((fits ds).map D.tup)).bnd fun d => (R.of (appD a9 d)).bnd fun x_found_22 => .ok x_found_22) g (xi_range2 T.n_range (xp_op o_add d_add (xp_var (i := 4) rfl) xp_int) (xp_callB c_len d_len (by rfl) T.n_len (by decide +kernel) (xa_1 (xp_var (i := 1) rfl)))) rfl (.k (.k (.k (.k (.k (.k (.k (.k (.k (.k (.k .nil))))))))))) (by rintro a9 _ d10 rfl; exact (xb_let (i := 6) g (fun x_total_11 => [some (.v x_plait), some (.v x_some_1), some (.v x_met_3), some (.o false p6 (.l a9)), some (.v d8), some (.v d10), some (.v x_total_11), none, none, none, none]) xp_int fun x_total_11 => (xb_seq (L := (fun (a13 : D) (e : En) => e = [some (.v x_plait), some (.v x_some_1), some (.v x_met_3), some (.o false p6 (.l a9)), some (.v d8), some (.v d10), some (.v a13), none, none, none, none])) (xs_for3 (i := 7) (j := 8) (l := 9) (L := (fun (a13 : D) (e : En) => e = [some (.v x_plait), some (.v x_some_1), some (.v x_met_3), some (.o false p6 (.l a9)), some (.v d8), some (.v d10), some (.v a13), none, none, none, none])) (a0 := x_total_11) (e0 := [some (.v x_plait), some (.v x_some_1), some (.v x_met_3), some (.o false p6 (.l a9)), some (.v d8), some (.v d10), some (.v x_total_11), none, none, none, none]) (step := fun (a13 : D) d14 d15 d16 => ((((((R.ok d14).bnd fun x => ((R.ok x_some_1).bnd fun x => (R.ok d8).bnd fun y => R.of (D.ix x y)).bnd fun y => R.of ((fun x y => (D.in_ x y).map D.bl) x y)).bnd fun x => (R.of (D.bool x)).bnd fun t => if t = true then ((R.ok d15).bnd fun x => ((R.ok x_some_1).bnd fun x => (R.ok d10).bnd fun y => R.of (D.ix x y)).bnd fun y => R.of ((fun x y => (D.in_ x y).map D.bl) x y)) else .ok (D.bl false)).bnd fun x => (((R.ok d15).bnd fun x => ((R.ok x_some_1).bnd fun x => (R.ok d8).bnd fun y => R.of (D.ix x y)).bnd fun y => R.of ((fun x y => (D.in_ x y).map D.bl) x y)).bnd fun x => (R.of (D.bool x)).bnd fun t => if t = true then ((R.ok d14).bnd fun x => ((R.ok x_some_1).bnd fun x => (R.ok d10).bnd fun y => R.of (D.ix x y)).bnd fun y => R.of ((fun x y => (D.in_ x y).map D.bl) x y)) else .ok (D.bl false)).bnd fun y => .ok [x, y]).bnd fun ds => R.of (fits ds)).bnd fun z => .ok (D.lst z)).bnd fun x_ways_17 => ((R.ok a13).bnd fun x => ((R.ok d16).bnd fun x => ((((R.ok (D.bl true)).bnd fun x => (R.ok x_ways_17).bnd fun y => R.of ((fun x y => (D.inB x y).map D.bl) x y)).bnd fun x => .ok [x]).bnd fun ds => R.of (D.toInt ds)).bnd fun y => R.of (D.mul x y)).bnd fun y => R.of (D.addI x y)).bnd fun x_total_19 => .ok x_total_19) g (xi_seq (xp_var (i := 2) rfl)) rfl (.k (.k (.k (.k (.k (.k (.k (.k (.k (.k (.k .nil))))))))))) (by rintro a13 _ d14 d15 d16 rfl; exact (xb_let (i := 10) g (fun x_ways_17 => [some (.v x_plait), some (.v x_some_1), some (.v x_met_3), some (.o false p6 (.l a9)), some (.v d8), some (.v d10), some (.v a13), some (.v d14), some (.v d15), some (.v d16), some (.v x_ways_17)]) (xn_xp (xn_lst (xa_2 (xp_and (xp_cmp o_in d_in (by rfl) (xp_var (i := 7) rfl) (xp_ix o_ix d_ix (fun _ _ => rfl) (xp_var (i := 1) rfl) (xp_var (i := 4) rfl))) (xp_one (xp_cmp o_in d_in (by rfl) (xp_var (i := 8) rfl) (xp_ix o_ix d_ix (fun _ _ => rfl) (xp_var (i := 1) rfl) (xp_var (i := 5) rfl))))) (xp_and (xp_cmp o_in d_in (by rfl) (xp_var (i := 8) rfl) (xp_ix o_ix d_ix (fun _ _ => rfl) (xp_var (i := 1) rfl) (xp_var (i := 4) rfl))) (xp_one (xp_cmp o_in d_in (by rfl) (xp_var (i := 7) rfl) (xp_ix o_ix d_ix (fun _ _ => rfl) (xp_var (i := 1) rfl) (xp_var (i := 5) rfl)))))))) fun x_ways_17 => (xb_let (i := 6) g (fun x_total_19 => [some (.v x_plait), some (.v x_some_1), some (.v x_met_3), some (.o false p6 (.l a9)), some (.v d8), some (.v d10), some (.v x_total_19), some (.v d14), some (.v d15), some (.v d16), some (.v x_ways_17)]) (xp_op o_add d_add (xp_var (i := 6) rfl) (xp_op op_mul d_mul (xp_var (i := 9) rfl) (xp_callTy call_int1 d_int (by rfl) T.n_int (by decide +kernel) (xa_1 (xp_cmp o_in d_inB (by rfl) xp_bl (xp_var (i := 10) rfl)))))) fun x_total_19 => (xb_end rfl (.k (.k (.k (.k (.k (.k (.k (.d (.d (.d (.d .nil)))))))))))))))) (by rintro a21 _ rfl; exact (xb_mut (i := 3) PySem.F.slot_list_append PySem.F.type_list_append mt_append m_app (fun x_found_22 => [some (.v x_plait), some (.v x_some_1), some (.v x_met_3), some (.o false p6 (.l x_found_22)), some (.v d8), some (.v d10), some (.v a21), none, none, none, none]) (xp_tup (xa_3 (xp_var (i := 4) rfl) (xp_var (i := 5) rfl) (xp_op op_fdivW d_div (xp_var (i := 6) rfl) xp_int))) fun x_found_22 => (xb_end rfl (.k (.k (.k (.k (.k (.d (.d (.k (.k (.k (.k .nil)))))))))))))))))) (by rintro a23 _ rfl; exact (xb_end rfl (.k (.k (.k (.k (.d (.k (.k (.k (.k (.k (.k .nil)))))))))))))))) (by rintro a24 _ rfl; exact (xb_retOP (i := 3) rfl))))))
theorem sc_law : FnScope ["script", "plait", "told", "letter", "turn", "found", "some", "one", "number"] ["script"] (defScope s_law) := ⟨rfl, rfl, rfl, by decide +kernel, rfl, by decide +kernel, by decide +kernel⟩
@[irreducible] def f_law (x_script : D) : R D := ((((R.ok x_script).bnd fun x => (R.ok (D.int 0)).bnd fun y => .ok [x, y]).bnd (ap2 f__law_state)).bnd fun c => ((R.ok (D.int 6)).bnd fun x => (R.ok (D.int 12)).bnd fun y => .ok [x, y]).bnd fun ds => ((apI2 f__law_plait) c ds).bnd2 fun o _ => .ok o).bnd fun x_plait_1 => (((R.ok x_plait_1).bnd fun x => .ok [x]).bnd (ap1 f_turns)).bnd fun x_told_3 => ((((((R.ok x_told_3).bnd fun x => .ok [x]).bnd (ap1 f__law_whole)).bnd fun d => R.of (D.bool d)).bnd fun x => .ok (!x)).bnd fun x => if x = true then .ok true else (R.ok x_told_3).bnd fun x => (((((((R.ok x_plait_1).bnd fun x => (R.ok (D.int 1)).bnd fun y => R.of (D.ix x y)).bnd fun d => R.of (D.seq d)).bnd fun ds => lcR (fun d5 => ((R.ok d5).bnd fun x => .ok [x]).bnd (ap1 f__law_sign)) ds).bnd fun z => .ok (D.lst z)).bnd fun x => .ok [x]).bnd fun ds => R.of (D.sum_ ds)).bnd fun y => R.of (D.ne x y)).bnd fun b => if b = true then R.ok (D.bl false) else (((R.ok (D.int 2)).bnd fun x => R.of (rg1 x)).bnd fun ds => loopR (fun (a6 : Unit) d7 => (((R.ok x_plait_1).bnd fun x => .ok [x]).bnd (ap1 f_pieces)).bnd fun x_found_8 => (((R.ok x_plait_1).bnd fun x => .ok [x]).bnd (ap1 f_windings)).bnd fun x_some_11 => (((((R.ok (dN x_found_8)).bnd fun d => R.of (D.isT "list" d)).bnd fun d => R.of (D.bool d)).bnd fun x => .ok (!x)).bnd fun x => if x = true then .ok true else (R.ok (dN x_found_8)).bnd fun x => (((R.ok x_plait_1).bnd fun x => .ok [x]).bnd (ap1 f__law_pieces)).bnd fun y => R.of (D.ne x y)).bnd fun b => if b = true then (R.ok (D.bl false)).bnd fun d => .ok (.rt d) else (((((R.ok (D.lst x_some_11)).bnd fun d => R.of (D.isT "list" d)).bnd fun d => R.of (D.bool d)).bnd fun x => .ok (!x)).bnd fun x => if x = true then .ok true else (R.ok (D.lst x_some_11)).bnd fun x => (((R.ok x_plait_1).bnd fun x => .ok [x]).bnd (ap1 f__law_windings)).bnd fun y => R.of (D.ne x y)).bnd fun b => if b = true then (R.ok (D.bl false)).bnd fun d => .ok (.rt d) else ((R.ok x_some_11).bnd fun ds => loopR (fun (a13 : Unit) d14 => (((((R.ok d14).bnd fun d => R.of (D.isT "tuple" d)).bnd fun d => R.of (D.bool d)).bnd fun x => .ok (!x)).bnd fun x => if x = true then .ok true else (((((((R.ok d14).bnd fun d => R.of (D.seq d)).bnd fun ds => lcR (fun d15 => ((R.ok d15).bnd fun x => .ok [x]).bnd (ap1 f__law_whole)) ds).bnd fun z => .ok (D.lst z)).bnd fun x => .ok [x]).bnd fun ds => R.of (D.all_ ds)).bnd fun d => R.of (D.bool d)).bnd fun x => .ok (!x)).bnd fun b => if b = true then (R.ok (D.bl false)).bnd fun d => .ok (.rt d) else .ok (.nx ())) () ds).tho fun a16 => (R.ok (D.int 0)).bnd fun j => (R.of (idxN x_found_8 j)).bnd fun n => (R.ok (D.int 0)).bnd fun d => (R.of ((x_found_8[n]?).bind fun ds => (appD ds d).map fun ds' => x_found_8.set n ds')).bnd fun x_found_17 => ((R.ok []).bnd fun ds => R.of (fits ds)).bnd fun d => (R.of (fits (x_found_17 ++ [d]))).bnd fun x_found_18 => ((R.ok []).bnd fun ds => R.of ((fits ds).map D.tup)).bnd fun d => (R.of (appD x_some_11 d)).bnd fun x_some_20 => .ok (.nx ())) () ds).thr fun a21 => R.ok (D.bl true)
theorem ok_law (T : Txt K mg A) : FnOk P w K mg base (L2.CX P w) 8 A.a_law A.fd_law ["script"] (spR K A.ec (rP K) 1 (ap1 f_law)) := by
  refine fn_ok T.F_law sc_law rfl fun cdv A' outer s H E hr g ds hd => ?_
  match ds, hd with
  | [x_script], _ => show XB _ _ [] _ [some (.v x_script), none, none, none, none, none, none, none, none] (f_law x_script) _; unfold f_law; exact (xb_let (i := 1) g (fun x_plait_1 => [some (.v x_script), some (.v x_plait_1), none, none, none, none, none, none, none]) (xp_ioT g (ok__law_plait T) (hr.mono (by decide)) T.m__law_plait T.F__law_plait.kp T.b__law_plait (xn_call g (ok__law_state T) (hr.mono (by decide)) T.m__law_state T.F__law_state.kp T.b__law_state (xa_2 (xp_var (i := 0) rfl) xp_int) lnA2) (xa_2 xp_int xp_int) lnI2) fun x_plait_1 => (xb_let (i := 2) g (fun x_told_3 => [some (.v x_script), some (.v x_plait_1), some (.v x_told_3), none, none, none, none, none, none]) (xp_call g (ok_turns T) (hr.mono (by decide)) T.m_turns T.F_turns.kp T.b_turns (xa_1 (xp_var (i := 1) rfl)) lnA1) fun x_told_3 => (xb_ifR (xt_w (xw_or (xt_not (xt_val (xp_call g (ok__law_whole T) (hr.mono (by decide)) T.m__law_whole T.F__law_whole.kp T.b__law_whole (xa_1 (xp_var (i := 2) rfl)) lnA1))) (xw_or1 (xt_cmp (o_ne hr.units) d_ne (nomark _) (xp_var (i := 2) rfl) (xp_callB (cr_sum rfl) d_sum (by rfl) T.n_sum (by decide +kernel) (xa_1 (xn_xp (xn_lc (i := 3) (hblk := (blkOk_by (N := ["script", "plait", "told", "letter", "turn", "found", "some", "one", "number"]) (sc := defScope s_law) (by decide +kernel))) g (xi_seq (xp_ix o_ix d_ix (fun _ _ => rfl) (xp_var (i := 1) rfl) xp_int)) (fun d5 => fun s0 H0 C0 cl0 fp0 => (xp_call (g.blk s0 H0 C0 cl0 fp0) (ok__law_sign T) (hr.mono (by decide)) T.m__law_sign T.F__law_sign.kp T.b__law_sign (xa_1 (xp_var (i := 3) rfl)) lnA1)))))))))) (xb_ret xp_bl) (xb_seqR (L := (fun (a6 : Unit) (e : En) => e = [some (.v x_script), some (.v x_plait_1), some (.v x_told_3), none, none, none, none, none, none])) (xs_forO (i := 4) (L := (fun (a6 : Unit) (e : En) => e = [some (.v x_script), some (.v x_plait_1), some (.v x_told_3), none, none, none, none, none, none])) (a0 := ()) (e0 := [some (.v x_script), some (.v x_plait_1), some (.v x_told_3), none, none, none, none, none, none]) (Rr := (rP _)) (step := fun (a6 : Unit) d7 => (((R.ok x_plait_1).bnd fun x => .ok [x]).bnd (ap1 f_pieces)).bnd fun x_found_8 => (((R.ok x_plait_1).bnd fun x => .ok [x]).bnd (ap1 f_windings)).bnd fun x_some_11 => (((((R.ok (dN x_found_8)).bnd fun d => R.of (D.isT "list" d)).bnd fun d => R.of (D.bool d)).bnd fun x => .ok (!x)).bnd fun x => if x = true then .ok true else (R.ok (dN x_found_8)).bnd fun x => (((R.ok x_plait_1).bnd fun x => .ok [x]).bnd (ap1 f__law_pieces)).bnd fun y => R.of (D.ne x y)).bnd fun b => if b = true then (R.ok (D.bl false)).bnd fun d => .ok (.rt d) else (((((R.ok (D.lst x_some_11)).bnd fun d => R.of (D.isT "list" d)).bnd fun d => R.of (D.bool d)).bnd fun x => .ok (!x)).bnd fun x => if x = true then .ok true else (R.ok (D.lst x_some_11)).bnd fun x => (((R.ok x_plait_1).bnd fun x => .ok [x]).bnd (ap1 f__law_windings)).bnd fun y => R.of (D.ne x y)).bnd fun b => if b = true then (R.ok (D.bl false)).bnd fun d => .ok (.rt d) else ((R.ok x_some_11).bnd fun ds => loopR (fun (a13 : Unit) d14 => (((((R.ok d14).bnd fun d => R.of (D.isT "tuple" d)).bnd fun d => R.of (D.bool d)).bnd fun x => .ok (!x)).bnd fun x => if x = true then .ok true else (((((((R.ok d14).bnd fun d => R.of (D.seq d)).bnd fun ds => lcR (fun d15 => ((R.ok d15).bnd fun x => .ok [x]).bnd (ap1 f__law_whole)) ds).bnd fun z => .ok (D.lst z)).bnd fun x => .ok [x]).bnd fun ds => R.of (D.all_ ds)).bnd fun d => R.of (D.bool d)).bnd fun x => .ok (!x)).bnd fun b => if b = true then (R.ok (D.bl false)).bnd fun d => .ok (.rt d) else .ok (.nx ())) () ds).tho fun a16 => (R.ok (D.int 0)).bnd fun j => (R.of (idxN x_found_8 j)).bnd fun n => (R.ok (D.int 0)).bnd fun d => (R.of ((x_found_8[n]?).bind fun ds => (appD ds d).map fun ds' => x_found_8.set n ds')).bnd fun x_found_17 => ((R.ok []).bnd fun ds => R.of (fits ds)).bnd fun d => (R.of (fits (x_found_17 ++ [d]))).bnd fun x_found_18 => ((R.ok []).bnd fun ds => R.of ((fits ds).map D.tup)).bnd fun d => (R.of (appD x_some_11 d)).bnd fun x_some_20 => .ok (.nx ())) g (xi_range1 T.n_range xp_int) rfl (.k (.k (.k (.k (.k (.k (.k (.k (.k .nil))))))))) (by rintro a6 _ d7 rfl; exact (xb_letNN (i := 5) g (fun p9 as10 x_found_8 => [some (.v x_script), some (.v x_plait_1), some (.v x_told_3), none, some (.v d7), some (.o false p9 (OO.n as10 x_found_8)), none, none, none]) (xnn_call g (ok_pieces T) (hr.mono (by decide)) T.m_pieces T.F_pieces.kp T.b_pieces (xa_1 (xp_var (i := 1) rfl)) lnA1) fun p9 as10 x_found_8 => (xb_letN (i := 6) g (fun p12 x_some_11 => [some (.v x_script), some (.v x_plait_1), some (.v x_told_3), none, some (.v d7), some (.o false p9 (OO.n as10 x_found_8)), some (.o false p12 (.l x_some_11)), none, none]) (xn_call g (ok_windings T) (hr.mono (by decide)) T.m_windings T.F_windings.kp T.b_windings (xa_1 (xp_var (i := 1) rfl)) lnA1) fun p12 x_some_11 => (xb_ifO (xt_w (xw_or (xt_not (xt_borN (i := 5) [some (.v x_script), some (.v x_plait_1), some (.v x_told_3), none, some (.v d7), some (.v (dN x_found_8)), some (.o false p12 (.l x_some_11)), none, none] (xt_val (xp_isT T.n_isinstance T.n_list (by decide +kernel) (xp_var (i := 5) rfl))))) (xw_or1 (xt_borN (i := 5) [some (.v x_script), some (.v x_plait_1), some (.v x_told_3), none, some (.v d7), some (.v (dN x_found_8)), some (.o false p12 (.l x_some_11)), none, none] (xt_cmp (o_ne hr.units) d_ne (nomark _) (xp_var (i := 5) rfl) (xp_call g (ok__law_pieces T) (hr.mono (by decide)) T.m__law_pieces T.F__law_pieces.kp T.b__law_pieces (xa_1 (xp_var (i := 1) rfl)) lnA1)))))) (xb_ret xp_bl) (xb_ifO (xt_w (xw_or (xt_not (xt_bor (i := 6) [some (.v x_script), some (.v x_plait_1), some (.v x_told_3), none, some (.v d7), some (.o false p9 (OO.n as10 x_found_8)), some (.v (D.lst x_some_11)), none, none] (xt_val (xp_isT T.n_isinstance T.n_list (by decide +kernel) (xp_var (i := 6) rfl))))) (xw_or1 (xt_bor (i := 6) [some (.v x_script), some (.v x_plait_1), some (.v x_told_3), none, some (.v d7), some (.o false p9 (OO.n as10 x_found_8)), some (.v (D.lst x_some_11)), none, none] (xt_cmp (o_ne hr.units) d_ne (nomark _) (xp_var (i := 6) rfl) (xp_call g (ok__law_windings T) (hr.mono (by decide)) T.m__law_windings T.F__law_windings.kp T.b__law_windings (xa_1 (xp_var (i := 1) rfl)) lnA1)))))) (xb_ret xp_bl) (xb_seqO (L := (fun (a13 : Unit) (e : En) => e = [some (.v x_script), some (.v x_plait_1), some (.v x_told_3), none, some (.v d7), some (.o false p9 (OO.n as10 x_found_8)), some (.o false p12 (.l x_some_11)), none, none])) (xs_forOwnO (i := 7) (i0 := 6) (L := (fun (a13 : Unit) (e : En) => e = [some (.v x_script), some (.v x_plait_1), some (.v x_told_3), none, some (.v d7), some (.o false p9 (OO.n as10 x_found_8)), some (.o false p12 (.l x_some_11)), none, none])) (a0 := ()) (e0 := [some (.v x_script), some (.v x_plait_1), some (.v x_told_3), none, some (.v d7), some (.o false p9 (OO.n as10 x_found_8)), some (.o false p12 (.l x_some_11)), none, none]) (Rr := (rP _)) (step := fun (a13 : Unit) d14 => (((((R.ok d14).bnd fun d => R.of (D.isT "tuple" d)).bnd fun d => R.of (D.bool d)).bnd fun x => .ok (!x)).bnd fun x => if x = true then .ok true else (((((((R.ok d14).bnd fun d => R.of (D.seq d)).bnd fun ds => lcR (fun d15 => ((R.ok d15).bnd fun x => .ok [x]).bnd (ap1 f__law_whole)) ds).bnd fun z => .ok (D.lst z)).bnd fun x => .ok [x]).bnd fun ds => R.of (D.all_ ds)).bnd fun d => R.of (D.bool d)).bnd fun x => .ok (!x)).bnd fun b => if b = true then (R.ok (D.bl false)).bnd fun d => .ok (.rt d) else .ok (.nx ())) g rfl (.k (.k (.k (.k (.k (.k (.k (.k (.k .nil))))))))) (by rintro a13 _ d14 rfl; exact (xb_ifO (xt_w (xw_or (xt_not (xt_val (xp_isT T.n_isinstance T.n_tuple (by decide +kernel) (xp_var (i := 7) rfl)))) (xw_or1 (xt_not (xt_val (xp_callB (cr_all rfl) d_all (by rfl) T.n_all (by decide +kernel) (xa_1 (xn_xp (xn_lc (i := 8) (hblk := (blkOk_by (N := ["script", "plait", "told", "letter", "turn", "found", "some", "one", "number"]) (sc := defScope s_law) (by decide +kernel))) g (xi_seq (xp_var (i := 7) rfl)) (fun d15 => fun s0 H0 C0 cl0 fp0 => (xp_call (g.blk s0 H0 C0 cl0 fp0) (ok__law_whole T) (hr.mono (by decide)) T.m__law_whole T.F__law_whole.kp T.b__law_whole (xa_1 (xp_var (i := 8) rfl)) lnA1))))))))))) (xb_ret xp_bl) (xb_endO rfl (.k (.k (.k (.k (.k (.k (.k (.d (.k .nil)))))))))))) (hL := by rintro _ _ rfl; rfl)) (by rintro a16 _ rfl; exact (xb_appIN (i := 5) (fun x_found_17 => [some (.v x_script), some (.v x_plait_1), some (.v x_told_3), none, some (.v d7), some (.o false p9 (OO.n as10 x_found_17)), some (.o false p12 (.l x_some_11)), none, none]) xp_int xp_int fun x_found_17 => (xb_appN (i := 5) (fun as19 x_found_18 => [some (.v x_script), some (.v x_plait_1), some (.v x_told_3), none, some (.v d7), some (.o false p9 (OO.n as19 x_found_18)), some (.o false p12 (.l x_some_11)), none, none]) (xn_lst xa_nil) fun as19 x_found_18 => (xb_mut (i := 6) PySem.F.slot_list_append PySem.F.type_list_append mt_append m_app (fun x_some_20 => [some (.v x_script), some (.v x_plait_1), some (.v x_told_3), none, some (.v d7), some (.o false p9 (OO.n as19 x_found_18)), some (.o false p12 (.l x_some_20)), none, none]) (xp_tup xa_nil) fun x_some_20 => (xb_endO rfl (.k (.k (.k (.k (.d (.d (.d (.k (.k .nil))))))))))))))))))))) (by rintro a21 _ rfl; exact (xb_ret xp_bl))))))
end
/-! pieces of loops, by kernel over all orders of up to six places -/
def rowsP (m : Nat) : Nat → List (List Int)
  | 0 => [[]]
  | k + 1 => (rowsP m k).flatMap fun r => ((List.range m).filter fun c => !(r.any fun y => decide (y = ((c : Nat) : Int)))).map fun c => r ++ [((c : Nat) : Int)]
def pcB (x_there_1 : D) : R (List (List D)) := (((((R.ok x_there_1).bnd fun x => .ok [x]).bnd fun ds => R.of (D.len ds)).bnd fun x => R.of (rg1 x)).bnd fun ds => foldR (fun (a6 : List (List D)) d7 => (((R.ok d7).bnd fun x => .ok [x]).bnd fun ds => R.of (fits ds)).bnd fun x_row_8 => (whileN (fun (a10 : List D) => ((R.ok x_there_1).bnd fun x => (((R.ok (D.int 1)).bnd fun x => R.of (D.neg x)).bnd fun y => R.of (D.ix (D.lst a10) y)).bnd fun y => R.of (D.ix x y)).bnd fun x => (R.ok d7).bnd fun y => R.of (D.ne x y)) (fun (a10 : List D) => ((R.ok x_there_1).bnd fun x => (((R.ok (D.int 1)).bnd fun x => R.of (D.neg x)).bnd fun y => R.of (D.ix (D.lst a10) y)).bnd fun y => R.of (D.ix x y)).bnd fun d => (R.of (appD a10 d)).bnd fun x_row_11 => .ok x_row_11) 1000000 x_row_8).bnd fun a12 => (((((R.ok (D.lst a12)).bnd fun x => .ok [x]).bnd fun ds => R.of (D.min1 ds)).bnd fun x => (R.ok d7).bnd fun y => R.of (D.eq x y)).bnd fun b => if b = true then (((R.ok (D.lst a12)).bnd fun x => .ok [x]).bnd fun ds => R.of (D.sorted ds)).bnd fun d => (R.of (fits (a6 ++ [d]))).bnd fun x_found_13 => .ok x_found_13 else .ok a6).bnd fun a15 => .ok a15) [] ds).bnd fun a16 => .ok a16
def pnB (x_n x_pcs : D) : R (List D) := (((((R.ok (D.int 0)).bnd fun x => .ok [x]).bnd fun ds => R.of (fits ds)).bnd fun z => .ok (D.lst z)).bnd fun x => (R.ok x_n).bnd fun y => R.of (D.rep x y)).bnd fun x_found_1 => (((R.ok x_pcs).bnd fun x => R.of (D.enum x)).bnd fun ds => foldR (fun (a3 : List D) d => (R.of (D.two d)).bnd fun q => (fun d4 d5 => (((R.ok d5).bnd fun d => R.of (D.seq d)).bnd fun ds => foldR (fun (a6 : List D) d7 => (R.ok d4).bnd fun d => (R.ok d7).bnd fun j => (R.of (setD a6 j d)).bnd fun x_found_8 => .ok x_found_8) a3 ds).bnd fun a9 => .ok a9) q.1 q.2) x_found_1 ds).bnd fun a10 => .ok a10
def lpB (x_plait : D) (x_ends_1 : D) : R D := ((((R.ok x_plait).bnd fun x => (R.ok (D.int 0)).bnd fun y => R.of (D.ix x y)).bnd fun x => (R.of (D.toI x)).bnd fun i => .ok ((0 : Int), i)).bnd2 fun i j => R.of (rgL i j)).bnd fun x_mark_3 => ((((R.ok x_plait).bnd fun x => (R.ok (D.int 0)).bnd fun y => R.of (D.ix x y)).bnd fun x => R.of (rg1 x)).bnd fun ds => foldR (fun (a5 : List D) d6 => ((((R.ok x_plait).bnd fun x => (R.ok (D.int 0)).bnd fun y => R.of (D.ix x y)).bnd fun x => R.of (rg1 x)).bnd fun ds => foldR (fun (a7 : List D) d8 => ((((R.ok d8).bnd fun y => R.of (D.ix (D.lst a7) y)).bnd fun x => (((R.ok x_ends_1).bnd fun x => (R.ok d8).bnd fun y => R.of (D.ix x y)).bnd fun y => R.of (D.ix (D.lst a7) y)).bnd fun y => .ok [x, y]).bnd fun ds => R.of (D.min2 ds)).bnd fun x_low_9 => (R.ok x_low_9).bnd fun d => (R.ok d8).bnd fun j => (R.of (setD a7 j d)).bnd fun x_mark_11 => (R.ok x_low_9).bnd fun d => ((R.ok x_ends_1).bnd fun x => (R.ok d8).bnd fun y => R.of (D.ix x y)).bnd fun j => (R.of (setD x_mark_11 j d)).bnd fun x_mark_12 => .ok x_mark_12) a5 ds).bnd fun a13 => .ok a13) x_mark_3 ds).bnd fun a14 => ((R.ok []).bnd fun ds => R.of (fits ds)).bnd fun x_found_15 => ((((R.ok x_plait).bnd fun x => (R.ok (D.int 0)).bnd fun y => R.of (D.ix x y)).bnd fun x => R.of (rg1 x)).bnd fun ds => foldR (fun (a17 : List D) d18 => ((((R.ok d18).bnd fun y => R.of (D.ix (D.lst a14) y)).bnd fun x => (R.ok d18).bnd fun y => R.of (D.eq x y)).bnd fun b => if b = true then (((((R.ok x_plait).bnd fun x => (R.ok (D.int 0)).bnd fun y => R.of (D.ix x y)).bnd fun x => R.of (rg1 x)).bnd fun ds => lcIR (fun d20 => ((R.ok d20).bnd fun y => R.of (D.ix (D.lst a14) y)).bnd fun x => (R.ok d18).bnd fun y => R.of (D.eq x y)) (fun d20 => R.ok d20) ds).bnd fun z => .ok (D.lst z)).bnd fun d => (R.of (appD a17 d)).bnd fun x_found_19 => .ok x_found_19 else .ok a17).bnd fun a21 => .ok a21) x_found_15 ds).bnd fun a22 => .ok (D.lst a22)
def decL : List (List D) → Option (List (List Int))
  | [] => some []
  | d :: ds => match intsD d, decL ds with
    | some a, some b => some (a :: b)
    | _, _ => none
def decD : D → Option (List (List Int))
  | .lst ds => go ds
  | _ => none
where go : List D → Option (List (List Int))
  | [] => some []
  | .lst d :: ds => match intsD d, go ds with
    | some a, some b => some (a :: b)
    | _, _ => none
  | _ :: _ => none
def invA (n : Nat) (A : List Int) : List Int := (List.range n).map fun s => ((A.idxOf ((s : Nat) : Int) : Nat) : Int)
/-- the numbers of pieces: those of the places -/
def pnOk (n : Nat) (ps : List (List Int)) : R (List D) → Bool
  | .ok hs => match intsD hs with
    | some h => decide (h.length = n) && decide (ps.length ≤ n) && (List.range n).all fun s => (List.range ps.length).all fun i => decide (((s : Nat) : Int) ∈ ps.getD i []) == decide (h.getD s 0 = (i : Nat))
    | none => false
  | _ => false
def lpOk (ps : List (List Int)) : R D → Bool
  | .ok d => decide (decD d = some ps)
  | _ => false
def pcOk (n : Nat) (A : List Int) : R (List (List D)) → Bool
  | .ok dss => match decL dss with
    | some ps => decide (1 ≤ ps.length) && ps.all (fun p => decide (p.length ≤ n)) && pnOk n ps (pnB (.int (n : Nat)) (dN dss)) && lpOk ps (lpB (.tup [.int (n : Nat), .tup []]) (.lst (A.map .int)))
    | none => false
  | _ => false
def chkA (n : Nat) (A : List Int) : Bool := pcOk n A (pcB (.tup ((invA n A).map .int)))
theorem chk_1 : (rowsP 1 1).all (chkA 1) = true := by decide +kernel
theorem chk_2 : (rowsP 2 2).all (chkA 2) = true := by decide +kernel
theorem chk_3 : (rowsP 3 3).all (chkA 3) = true := by decide +kernel
theorem chk_4 : (rowsP 4 4).all (chkA 4) = true := by decide +kernel
theorem chk_5 : (rowsP 5 5).all (chkA 5) = true := by decide +kernel
def chunk6 (i : Nat) : List (List Int) := ((rowsP 6 6).drop (60 * i)).take 60
theorem len_6 : (rowsP 6 6).length = 720 := by decide +kernel
theorem chk_6_0 : (chunk6 0).all (chkA 6) = true := by decide +kernel
theorem chk_6_1 : (chunk6 1).all (chkA 6) = true := by decide +kernel
theorem chk_6_2 : (chunk6 2).all (chkA 6) = true := by decide +kernel
theorem chk_6_3 : (chunk6 3).all (chkA 6) = true := by decide +kernel
theorem chk_6_4 : (chunk6 4).all (chkA 6) = true := by decide +kernel
theorem chk_6_5 : (chunk6 5).all (chkA 6) = true := by decide +kernel
theorem chk_6_6 : (chunk6 6).all (chkA 6) = true := by decide +kernel
theorem chk_6_7 : (chunk6 7).all (chkA 6) = true := by decide +kernel
theorem chk_6_8 : (chunk6 8).all (chkA 6) = true := by decide +kernel
theorem chk_6_9 : (chunk6 9).all (chkA 6) = true := by decide +kernel
theorem chk_6_10 : (chunk6 10).all (chkA 6) = true := by decide +kernel
theorem chk_6_11 : (chunk6 11).all (chkA 6) = true := by decide +kernel
theorem chk_6 : (rowsP 6 6).all (chkA 6) = true := List.all_eq_true.mpr fun r hr => by
  obtain ⟨k, hk, rfl⟩ := List.getElem_of_mem hr
  rw [len_6] at hk
  have key : ∀ i, 60 * i ≤ k → k < 60 * i + 60 → (rowsP 6 6)[k]'(by rw [len_6]; exact hk) ∈ chunk6 i := fun i h1 h2 => by
    unfold chunk6
    refine List.mem_iff_getElem.mpr ⟨k - 60 * i, by rw [List.length_take, List.length_drop, len_6]; omega, ?_⟩
    rw [List.getElem_take, List.getElem_drop]
    congr 1; omega
  have : k / 60 = 0 ∨ k / 60 = 1 ∨ k / 60 = 2 ∨ k / 60 = 3 ∨ k / 60 = 4 ∨ k / 60 = 5 ∨ k / 60 = 6 ∨ k / 60 = 7 ∨ k / 60 = 8 ∨ k / 60 = 9 ∨ k / 60 = 10 ∨ k / 60 = 11 := by omega
  rcases this with e | e | e | e | e | e | e | e | e | e | e | e
  · exact List.all_eq_true.mp chk_6_0 _ (key 0 (by omega) (by omega))
  · exact List.all_eq_true.mp chk_6_1 _ (key 1 (by omega) (by omega))
  · exact List.all_eq_true.mp chk_6_2 _ (key 2 (by omega) (by omega))
  · exact List.all_eq_true.mp chk_6_3 _ (key 3 (by omega) (by omega))
  · exact List.all_eq_true.mp chk_6_4 _ (key 4 (by omega) (by omega))
  · exact List.all_eq_true.mp chk_6_5 _ (key 5 (by omega) (by omega))
  · exact List.all_eq_true.mp chk_6_6 _ (key 6 (by omega) (by omega))
  · exact List.all_eq_true.mp chk_6_7 _ (key 7 (by omega) (by omega))
  · exact List.all_eq_true.mp chk_6_8 _ (key 8 (by omega) (by omega))
  · exact List.all_eq_true.mp chk_6_9 _ (key 9 (by omega) (by omega))
  · exact List.all_eq_true.mp chk_6_10 _ (key 10 (by omega) (by omega))
  · exact List.all_eq_true.mp chk_6_11 _ (key 11 (by omega) (by omega))
/-! what is drawn -/
/-- a state that numbers are drawn from -/
def Dr (s : List D) : Prop := ∃ a b : Int, s = [.int a, .int b] ∧ 0 ≤ a
theorem f_state (ns : List Int) (k : Nat) (hk : ns.length < 16000000) : ∃ s, f__law_state (.frl (ns.map D.int)) (.int k) = .ok s ∧ Dr s := by
  unfold f__law_state
  have hp : D.pow (.int 10) (.int 18) = some (.int 1000000000000000000) := rfl
  have key : ∀ i : Int, ∃ s, (((R.ok (D.int i)).bnd fun x => ((R.ok (D.int 10)).bnd fun x => (R.ok (D.int 18)).bnd fun y => R.of (D.pow x y)).bnd fun y => R.of (D.ge x y)).bnd fun b => if b = true then (((R.ok (D.int i)).bnd fun x => ((R.ok (D.int 10)).bnd fun x => (R.ok (D.int 18)).bnd fun y => R.of (D.pow x y)).bnd fun y => R.of (D.sub x y)).bnd fun x => (R.ok (D.int 1)).bnd fun y => .ok [x, y]).bnd fun ds => R.of (fits ds) else ((((R.ok (D.int i)).bnd fun x => ((R.ok (D.int 7919)).bnd fun x => (R.ok (D.int k)).bnd fun y => R.of (D.mul x y)).bnd fun y => R.of (D.addI x y)).bnd fun x => (R.ok (D.int 2147483647)).bnd fun y => R.of (D.mod x y)).bnd fun x => (R.ok (D.int 0)).bnd fun y => .ok [x, y]).bnd fun ds => R.of (fits ds)) = .ok s ∧ Dr s := fun i => by
    simp only [bnd_ok, hp, of_some, s_ge, s_sub, s_fits2, s_mul (show -(2 ^ 64) < (7919 : Int) ∧ (7919 : Int) < 2 ^ 64 by decide), s_add, s_mod (show (0 : Int) < 2147483647 by decide)]
    by_cases h : (1000000000000000000 : Int) ≤ i
    · exact ⟨[.int (i - 1000000000000000000), .int 1], by simp only [h, decide_true, if_true], _, _, rfl, by omega⟩
    · exact ⟨[.int ((i + 7919 * k) % 2147483647), .int 0], by simp only [h, decide_false, Bool.false_eq_true, if_false], _, _, rfl, Int.emod_nonneg _ (by decide)⟩
  have : ∃ i : Int, ((((R.ok (D.int k)).bnd fun x => (((R.ok (D.frl (ns.map D.int))).bnd fun x => .ok [x]).bnd fun ds => R.of (D.len ds)).bnd fun y => R.of (D.lt x y)).bnd fun b => if b = true then ((R.ok (D.frl (ns.map D.int))).bnd fun x => (R.ok (D.int k)).bnd fun y => R.of (D.ix x y)).bnd fun x_cell_3 => .ok x_cell_3 else .ok (D.int 0)) : R D) = .ok (D.int i) := by
    simp only [bnd_ok, s_lenF, of_some, List.length_map, s_lt]
    by_cases h : (k : Int) < ns.length
    · refine ⟨ns[k]'(by omega), ?_⟩
      simp only [h, decide_true, if_true, s_ixF, atI_map]
      rw [atI_k (List.getElem?_eq_getElem (by omega))]
      rfl
    · exact ⟨0, by simp [h]⟩
  obtain ⟨i, e⟩ := this
  obtain ⟨s, e2, h⟩ := key i
  refine ⟨s, ?_, h⟩
  rw [← e2]
  simp only [bnd_ok] at e ⊢
  rw [e]
  rfl
theorem is_take {s : List D} (hs : Dr s) {m : Int} (hm : 0 < m) (hm2 : m < 1000000000000) : Is (f__law_take s (.int m)) fun r => ∃ x : Int, r.1 = .int x ∧ 0 ≤ x ∧ x < m ∧ Dr r.2 := by
  obtain ⟨a, b, rfl, ha⟩ := hs
  have set0 : ∀ (x y d : D), setD [x, y] (.int 0) d = some [d, y] := fun _ _ _ => rfl
  have set1 : ∀ (x y d : D), setD [x, y] (.int 1) d = some [x, d] := fun _ _ _ => rfl
  unfold f__law_take
  have p1 : (0 : Int) < 2147483647 := by decide
  have p2 : (0 : Int) < 2147483629 := by decide
  have p3 : (0 : Int) < 2147483587 := by decide
  have low : Is ((R.ok (D.int 0)).bnd fun d => (R.ok (D.int 1)).bnd fun j => (R.of (setD [D.int a, D.int b] j d)).bnd fun x_state_4 => (((((R.ok (D.int 0)).bnd fun y => R.of (D.ix (D.lst x_state_4) y)).bnd fun x => (R.ok (D.int 48271)).bnd fun y => R.of (D.mul x y)).bnd fun x => (R.ok (D.int 69621)).bnd fun y => R.of (D.addI x y)).bnd fun x => (R.ok (D.int 2147483647)).bnd fun y => R.of (D.mod x y)).bnd fun d => (R.ok (D.int 0)).bnd fun j => (R.of (setD x_state_4 j d)).bnd fun x_state_5 => (((((R.ok (D.int 0)).bnd fun y => R.of (D.ix (D.lst x_state_5) y)).bnd fun x => ((R.ok (D.int 0)).bnd fun y => R.of (D.ix (D.lst x_state_5) y)).bnd fun y => R.of (D.mul x y)).bnd fun x => ((R.ok (D.int 16807)).bnd fun x => ((R.ok (D.int 0)).bnd fun y => R.of (D.ix (D.lst x_state_5) y)).bnd fun y => R.of (D.mul x y)).bnd fun y => R.of (D.addI x y)).bnd fun x => (R.ok (D.int 2147483629)).bnd fun y => R.of (D.mod x y)).bnd fun x_mixed_6 => ((((R.ok x_mixed_6).bnd fun x => (R.ok x_mixed_6).bnd fun y => R.of (D.mul x y)).bnd fun x => ((R.ok (D.int 39373)).bnd fun x => (R.ok x_mixed_6).bnd fun y => R.of (D.mul x y)).bnd fun y => R.of (D.addI x y)).bnd fun x => (R.ok (D.int 2147483587)).bnd fun y => R.of (D.mod x y)).bnd fun x_mixed_8 => (((R.ok x_mixed_8).bnd fun x => (R.ok (D.int 8)).bnd fun y => R.of (D.div x y)).bnd fun x => (R.ok (D.int m)).bnd fun y => R.of (D.mod x y)).bnd fun d => .ok (d, x_state_5)) fun r => ∃ x : Int, r.1 = .int x ∧ 0 ≤ x ∧ x < m ∧ Dr r.2 := by
    simp only [bnd_ok, of_some, set1, s_ixL, atI_0, s_mulR (show (-(2 ^ 64) : Int) < 48271 ∧ (48271 : Int) < 2 ^ 64 by decide), s_add, s_mod p1, set0]
    generalize hu : (a * 48271 + 69621) % 2147483647 = u
    have u0 : 0 ≤ u := by rw [← hu]; exact Int.emod_nonneg _ (by decide)
    have u1 : u < 2147483647 := by rw [← hu]; exact Int.emod_lt_of_pos _ p1
    simp only [s_mul (show (-(2 ^ 64) : Int) < u ∧ u < 2 ^ 64 by omega), s_mul (show (-(2 ^ 64) : Int) < 16807 ∧ (16807 : Int) < 2 ^ 64 by decide), s_add, of_some, bnd_ok, s_mod p2]
    generalize hv : (u * u + 16807 * u) % 2147483629 = v
    have v0 : 0 ≤ v := by rw [← hv]; exact Int.emod_nonneg _ (by decide)
    have v1 : v < 2147483629 := by rw [← hv]; exact Int.emod_lt_of_pos _ p2
    simp only [s_mul (show (-(2 ^ 64) : Int) < v ∧ v < 2 ^ 64 by omega), s_mul (show (-(2 ^ 64) : Int) < 39373 ∧ (39373 : Int) < 2 ^ 64 by decide), s_add, of_some, bnd_ok, s_mod p3]
    generalize hw : (v * v + 39373 * v) % 2147483587 = w
    simp only [s_div (show (0 : Int) < 8 by decide) (by decide), s_mod hm, of_some, bnd_ok]
    exact is_ok ⟨_, rfl, Int.emod_nonneg _ (by omega), Int.emod_lt_of_pos _ hm, u, 0, rfl, u0⟩
  simp only [bnd_ok] at low ⊢
  simp only [s_ixL, atI_1, atI_0, of_some, bnd_ok, s_eqI] at low ⊢
  by_cases h1 : b = 1
  · by_cases h2 : 0 < a
    · simp only [h1, h2, decide_true, if_true, s_gt, of_some, bnd_ok, s_mod hm, s_div hm hm2, set0]
      exact is_ok ⟨_, rfl, Int.emod_nonneg _ (by omega), Int.emod_lt_of_pos _ hm, _, _, rfl, Int.ediv_nonneg ha (by omega)⟩
    · simp only [h1, h2, decide_true, decide_false, if_true, s_gt, of_some, bnd_ok, Bool.false_eq_true, if_false]
      simpa only [h1] using low
  · simp only [h1, decide_false, Bool.false_eq_true, if_false, bnd_ok]
    exact low
theorem atI_m2 {t : List Int} {y x : Int} : atI ((t ++ [y, x]).map D.int) (-2) = some (.int y) := by
  unfold atI ixN
  simp only [List.map_append, List.map_cons, List.map_nil, List.length_append, List.length_map, List.length_cons, List.length_nil]
  rw [if_neg (by decide), if_pos (by omega)]
  show (List.map D.int t ++ [D.int y, D.int x])[_]? = _
  rw [show ((-2 : Int) + ((t.length + (0 + 1 + 1) : Nat) : Int)).toNat = t.length by omega]
  simp
/-! plaits that are drawn -/
/-- letters of so many strands -/
def Lt (n : Int) (w : List Int) : Prop := ∀ x ∈ w, x ≠ 0 ∧ -n < x ∧ x < n
theorem is_letter2 {s : List D} (hs : Dr s) {n : Int} (hn : 2 ≤ n) (hn2 : n < 1000) : Is (f__law_letter s (.int n)) fun r => ∃ x : Int, r.1 = .int x ∧ (x ≠ 0 ∧ -n < x ∧ x < n) ∧ Dr r.2 := by
  unfold f__law_letter
  simp only [bnd_ok, s_sub, of_some, s_mul (show -(2 ^ 64) < (2 : Int) ∧ (2 : Int) < 2 ^ 64 by decide), s_apI1]
  refine is_bnd2 (is_take hs (by omega) (by omega)) fun _ s1 ⟨x, ex, x0, x1, h1⟩ => ?_
  dsimp only at ex h1
  subst ex
  simp only [bnd_ok, s_neg, of_some, s_fits2, s_mod (show (0 : Int) < 2 by decide), s_div (show (0 : Int) < 2 by decide) (by decide), s_add, s_ixL]
  obtain h | h : x % 2 = 0 ∨ x % 2 = 1 := by omega
  · rw [h]
    simp only [atI_0, of_some, bnd_ok, s_mul (show -(2 ^ 64) < (1 : Int) ∧ (1 : Int) < 2 ^ 64 by decide)]
    exact is_ok ⟨_, rfl, by omega, h1⟩
  · rw [h]
    simp only [atI_1, of_some, bnd_ok, s_mul (show -(2 ^ 64) < (-1 : Int) ∧ (-1 : Int) < 2 ^ 64 by decide)]
    exact is_ok ⟨_, rfl, by omega, h1⟩
theorem is_plait {s : List D} (hs : Dr s) {m c : Int} (hm : 1 ≤ m) (hm2 : m < 100) (hc : 0 ≤ c) (hc2 : c < 1000) : Is (f__law_plait s (.int m) (.int c)) fun r => ∃ (n : Int) (w : List Int), r.1 = plD n w ∧ 1 ≤ n ∧ n ≤ m ∧ (w.length : Int) ≤ c ∧ Lt n w ∧ Dr r.2 := by
  unfold f__law_plait
  simp only [bnd_ok, s_mul (show -(2 ^ 64) < (12 : Int) ∧ (12 : Int) < 2 ^ 64 by decide), of_some, s_apI1, as_22, as_2b, as_b2, as_bb]
  refine is_bnd2 (is_take hs (by omega) (by omega)) fun _ s1 ⟨x, ex, x0, x1, h1⟩ => ?_
  dsimp only at ex h1
  subst ex
  have d0 : (0 : Int) < 12 * m := by omega
  simp only [bnd_ok, bnd2_ok, s_add, of_some, s_mod d0, s_div (show (0 : Int) < 12 by decide) (by decide), s_fits0]
  have q0 : 0 ≤ (x + 1) % (12 * m) := Int.emod_nonneg _ (by omega)
  have q1 : (x + 1) % (12 * m) < 12 * m := Int.emod_lt_of_pos _ d0
  generalize (x + 1) % (12 * m) = q at q0 q1
  have hn : 1 ≤ 1 + q / 12 ∧ 1 + q / 12 ≤ m := by omega
  generalize 1 + q / 12 = n at hn
  refine is_bnd2 (is_take h1 (by omega) (by omega)) fun _ s2 ⟨y, ey, y0, y1, h2⟩ => ?_
  dsimp only at ey h2
  subst ey
  simp only [bnd_ok, bnd2_ok, s_gt, of_some, Option.map_some, s_toIntB]
  have hk : ∃ k : Nat, D.mul (.int y) (.int (if decide (1 < n) = true then 1 else 0)) = some (.int k) ∧ (k : Int) ≤ c ∧ (n ≤ 1 → k = 0) := by
    rw [s_mul (by omega)]
    by_cases h : 1 < n
    · exact ⟨y.toNat, by simp [h]; omega, by omega, by omega⟩
    · exact ⟨0, by simp [h], by omega, fun _ => rfl⟩
  obtain ⟨k, ek, kc, kn⟩ := hk
  simp only [ek, of_some, bnd_ok, bnd2_ok, s_rgA, s_rg1 (show (0 : Int) ≤ (k : Int) by omega) (by omega), Int.toNat_natCast]
  refine is_bnd (is_foldN (fun j (a : List D × List D) => Dr a.1 ∧ ∃ w : List Int, a.2 = w.map D.int ∧ w.length = j ∧ Lt n w) ⟨h2, [], rfl, rfl, fun x hx => by simp at hx⟩ fun j a hj ⟨h3, w, ew, wl, lw⟩ => ?_) ?_
  · obtain ⟨s3, _⟩ := a
    dsimp only at ew h3
    subst ew
    have n2 : 2 ≤ n := by
      by_cases z : n ≤ 1
      · have := kn z; omega
      · omega
    simp only []
    refine is_bnd2 (is_letter2 h3 n2 (by omega)) fun _ s4 ⟨l, el, tl, h4⟩ => ?_
    dsimp only at el h4
    subst el
    rw [s_app (by simp; omega)]
    simp only [of_some, bnd_ok]
    refine is_bnd2 (is_take h4 (by decide) (by decide)) fun _ s5 ⟨z, ez, z0, z1, h5⟩ => ?_
    dsimp only at ez h5
    subst ez
    simp only [s_eqI, of_some, bnd_ok, bnd2_ok]
    have e0 : w.map D.int ++ [D.int l] = (w ++ [l]).map D.int := by simp
    have tail : Lt n (w ++ [l]) := fun x hx => (List.mem_append.mp hx).elim (lw x) fun h => by simp at h; rw [h]; exact tl
    rw [e0]
    by_cases c1 : z = 0
    · simp only [c1, decide_true, if_true, s_lenL, List.length_map, of_some, s_flatI, bnd_ok, bnd2_ok, s_gt]
      by_cases c2 : (1 : Int) < (((w ++ [l]).length : Nat) : Int)
      · simp only [c2, decide_true, if_true]
        obtain ⟨t, v, rfl⟩ : ∃ t v, w = t ++ [v] := by
          rcases List.eq_nil_or_concat w with rfl | ⟨t, v, rfl⟩
          · simp at c2
          · exact ⟨t, v, by simp⟩
        have tv := lw v (by simp)
        have e1 : atI ((t ++ [v] ++ [l]).map D.int) (-2) = some (.int v) := by
          have := atI_m2 (t := t) (y := v) (x := l)
          simpa using this
        simp only [s_neg, of_some, bnd_ok, s_ixL, e1, s_sub, s_fits2, as_2b, as_bb]
        refine is_bnd2 (is_take h5 (by decide) (by decide)) fun _ s6 ⟨u, eu, u0, u1, h6⟩ => ?_
        dsimp only at eu h6
        subst eu
        have set1 : ∀ d, setD ((t ++ [v] ++ [l]).map D.int) (.int (-1)) (.int d) = some ((t ++ [v] ++ [d]).map D.int) := fun d => by
          have hx : ixN ((t ++ [v] ++ [l]).map D.int).length (-1) = some (t.length + 1) := by
            unfold ixN
            rw [if_neg (by decide), if_pos (by simp; omega)]
            simp
            omega
          show (ixN _ (-1)).map _ = _
          rw [hx]
          simp
        obtain rfl | rfl : u = 0 ∨ u = 1 := by omega
        · simp only [s_ixL, atI_0, of_some, bnd_ok, bnd2_ok, set1]
          refine is_ok ⟨h6, t ++ [v] ++ [v], rfl, by simp at wl ⊢; omega, ?_⟩
          intro x hx
          simp at hx
          rcases hx with hx | rfl
          · exact lw x (by simp [hx])
          · exact tv
        · simp only [s_ixL, atI_1, of_some, bnd_ok, bnd2_ok, set1]
          refine is_ok ⟨h6, t ++ [v] ++ [0 - v], rfl, by simp at wl ⊢; omega, ?_⟩
          intro x hx
          simp at hx
          rcases hx with hx | rfl | rfl
          · exact lw x (by simp [hx])
          · exact tv
          · omega
      · simp only [c2, decide_false, Bool.false_eq_true, if_false, bnd_ok]
        exact is_ok ⟨h5, w ++ [l], rfl, by simp [wl], tail⟩
    · simp only [c1, decide_false, Bool.false_eq_true, if_false, bnd2_ok, bnd_ok]
      exact is_ok ⟨h5, w ++ [l], rfl, by simp [wl], tail⟩
  · rintro ⟨s3, _⟩ ⟨h3, w, rfl, wl, lw⟩
    simp only [bnd_ok, s_fits2, of_some, Option.map_some]
    exact is_ok ⟨n, w, rfl, hn.1, hn.2, by omega, lw, h3⟩
def ab (l : Int) : Int := if l < 0 then -l else l
theorem s_ab {x : Int} : D.abs [.int x] = some (.int (ab x)) := by exact id rfl
theorem foldU_ok {α : Type} {step : Unit → D → R Unit} {g : α → D} (xs : List α) (e : ∀ x ∈ xs, step () (g x) = .ok ()) : foldR step () (xs.map g) = .ok () := by
  rw [foldR_ok (t := fun _ _ => ()) xs () fun x hx b => e x hx]
theorem f_letter {x n : Int} : f_is_letter (.int x) (.int n) = .ok (.bl (decide (x ≠ 0 ∧ -n < x ∧ x < n))) := by
  unfold f_is_letter
  by_cases h : x = 0
  · simp [h]
  · have e : decide ((if x < 0 then -x else x) < n) = decide (x ≠ 0 ∧ -n < x ∧ x < n) := decide_eq_decide.mpr (by split <;> omega)
    simp [h] at e ⊢
    exact e
theorem f_look {n : Int} {w : List Int} (hn : 1 ≤ n) (hn2 : n ≤ 6) (hw : w.length ≤ 16) (hl : Lt n w) : f_looked (plD n w) = .ok (.int w.length) := by
  unfold f_looked plD
  simp [hn, hn2, show ¬ (16 : Int) < w.length by omega]
  rw [foldU_ok w]
  · simp
  · intro x hx
    simp [f_letter, hl x hx]
/-! where a strand comes -/
def swp (p l : Int) : Int := if ab l = p then p - 1 else if ab l = p + 1 then p + 1 else p
def ordL (n : Nat) (w : List Int) : List Int := (List.range n).map fun s => w.foldl swp (s : Nat)
theorem ordL_len (n : Nat) (w : List Int) : (ordL n w).length = n := by simp [ordL]
theorem f_exch (ps : List Int) (at_ : Int) (hz : ps.length ≤ 16000000) : f_exchanged (.lst (ps.map .int)) (.int at_) = .ok (.lst ((ps.map fun p => if p = at_ + 1 then at_ else if p = at_ then at_ + 1 else p).map .int)) := by
  unfold f_exchanged
  simp
  rw [lcR_ok (h := fun p => D.int (if p = at_ + 1 then at_ else if p = at_ then at_ + 1 else p)) ps hz fun p _ => by
    simp [D.get2]
    split
    · rfl
    · split <;> rfl]
  rw [bnd_ok]
  congr 2
theorem f_ordby (n : Int) (hn : 0 ≤ n) (hn2 : n < 1000000) (w : List Int) : f_order_by (.int n) (.tup (w.map .int)) = .ok (.tup ((ordL n.toNat w).map .int)) := by
  unfold f_order_by
  obtain ⟨k, rfl⟩ : ∃ k : Nat, n = k := ⟨n.toNat, by omega⟩
  simp only [bnd_ok, s_toI, of_some, bnd2_ok, rgL_n (show k < 1000000 by omega), s_seqT, Int.toNat_natCast]
  refine of_is (is_bnd (is_fold (fun done b => b = D.lst ((ordL k done).map D.int)) ?_ fun done x b hx hd e => ?_) fun b e => ?_)
  · simp [ordL]
  · subst e
    simp
    rw [f_exch _ _ (by rw [ordL_len]; omega)]
    refine is_ok ?_
    congr 2
    simp only [ordL, List.map_map]
    refine List.map_congr_left fun s _ => ?_
    simp only [Function.comp, List.foldl_append, List.foldl_cons, List.foldl_nil]
    generalize done.foldl swp _ = p
    simp only [swp, ab]
    split <;> split <;> first | rfl | omega | (split <;> first | rfl | omega | (split <;> first | rfl | omega))
  · subst e
    exact is_ok (by simp)
theorem f_ordof {n : Int} {w : List Int} (hn : 1 ≤ n) (hn2 : n ≤ 6) (hw : w.length ≤ 16) (hl : Lt n w) : f_order_of (plD n w) = .ok (.tup ((ordL n.toNat w).map .int)) := by
  unfold f_order_of
  simp [f_look hn hn2 hw hl]
  simp [plD, f_ordby n (by omega) (by omega) w]
theorem sIx_some {n k d : Nat} : HT.sIx n d (some (k : Int)) = min k n := by
  show (if (k : Int) < 0 then ((k : Int) + (n : Int)).toNat else min (k : Int).toNat n) = _
  rw [if_neg (by omega), Int.toNat_natCast]
theorem cutD_mid {α : Type} {f : α → D} {w : List α} {k j : Nat} : Wk.cutD (w.map f) (some (k : Int)) (some (j : Int)) = ((w.drop k).take (j - k)).map f := by
  unfold Wk.cutD
  rw [sIx_some, sIx_some, List.length_map, List.map_take, List.map_drop]
  by_cases h : k ≤ w.length
  · rw [Nat.min_eq_left h]
    by_cases h2 : j ≤ w.length
    · rw [Nat.min_eq_left h2]
    · rw [Nat.min_eq_right (by omega), List.take_of_length_le (by simp), List.take_of_length_le (by simp; omega)]
  · rw [List.drop_of_length_le (by simp; omega), List.drop_of_length_le (by simp; omega)]
    simp
theorem cutD_far {α : Type} {f : α → D} {w : List α} {k : Nat} : Wk.cutD (w.map f) (some (k : Int)) none = (w.drop k).map f := by
  unfold Wk.cutD
  rw [sIx_some, HT.sIx_none, List.length_map, List.map_drop]
  by_cases h : k ≤ w.length
  · rw [Nat.min_eq_left h, List.take_of_length_le (by simp)]
  · rw [List.drop_of_length_le (by simp; omega), List.drop_of_length_le (by simp; omega)]
    simp
theorem cut_mid {α : Type} {f : α → D} {w : List α} {k j : Nat} : D.cut (.tup (w.map f)) (some (k : Int)) (some (j : Int)) = some (.tup (((w.drop k).take (j - k)).map f)) := by
  show some (D.tup (Wk.cutD _ _ _)) = _
  rw [cutD_mid]
theorem cut_far {α : Type} {f : α → D} {w : List α} {k : Nat} : D.cut (.tup (w.map f)) (some (k : Int)) none = some (.tup ((w.drop k).map f)) := by
  show some (D.tup (Wk.cutD _ _ _)) = _
  rw [cutD_far]
theorem lcI_ok {α : Type} {t : D → R Bool} {f : D → R D} {g h : α → D} {p : α → Bool} : ∀ (xs : List α), (∀ x ∈ xs, t (g x) = .ok (p x)) → (∀ x ∈ xs, f (g x) = .ok (h x)) → lcI t f (xs.map g) = .ok ((xs.filter p).map h)
  | [], _, _ => rfl
  | x :: xs, e1, e2 => by
    have ih := lcI_ok xs (fun y hy => e1 y (by simp [hy])) fun y hy => e2 y (by simp [hy])
    simp only [List.map_cons, lcI, e1 x (by simp), noE_ok, bnd_ok, List.filter_cons]
    cases p x with
    | true => simp [e2 x (by simp), ih]
    | false => simp [ih]
theorem lcIR_ok {α : Type} {t : D → R Bool} {f : D → R D} {g h : α → D} {p : α → Bool} (xs : List α) (hz : xs.length ≤ 16000000) (e1 : ∀ x ∈ xs, t (g x) = .ok (p x)) (e2 : ∀ x ∈ xs, f (g x) = .ok (h x)) : lcIR t f (xs.map g) = .ok ((xs.filter p).map h) := by
  unfold lcIR
  rw [if_pos (by simpa using hz), lcI_ok xs e1 e2]
/-! pieces and where they cross (from pcs2, meets, winds of the old chain) -/
theorem swp_in {n p l : Int} (hl : l ≠ 0 ∧ -n < l ∧ l < n) (hp : 0 ≤ p ∧ p < n) : 0 ≤ swp p l ∧ swp p l < n := by
  have : 1 ≤ ab l ∧ ab l < n := by unfold ab; split <;> omega
  unfold swp
  split <;> (try split) <;> omega
theorem fold_in {n : Int} : ∀ {w : List Int} {p : Int}, Lt n w → (0 ≤ p ∧ p < n) → 0 ≤ w.foldl swp p ∧ w.foldl swp p < n
  | [], _, _, h => h
  | l :: w, _, lw, h => fold_in (w := w) (fun x hx => lw x (by simp [hx])) (swp_in (lw l (by simp)) h)
theorem swp_two' (p l : Int) : swp (swp p l) l = p := by
  unfold swp
  generalize ab l = a
  repeat' split
  all_goals omega
theorem fold_inj : ∀ {w : List Int} {p q : Int}, w.foldl swp p = w.foldl swp q → p = q
  | [], _, _, h => h
  | l :: w, p, q, h => by
    have := fold_inj (w := w) (p := swp p l) (q := swp q l) h
    have := congrArg (fun x => swp x l) this
    simpa only [swp_two'] using this
theorem all_get {α : Type} {f : α → Bool} {l : List α} (h : l.all f = true) {x : α} (hx : x ∈ l) : f x = true := List.all_eq_true.mp h _ hx
theorem intsD_eq : ∀ {ds : List D} {ns : List Int}, intsD ds = some ns → ds = ns.map .int
  | [], ns, h => by cases h; rfl
  | d :: ds, ns, h => by
    cases d with
    | int i =>
      have h : (intsD ds).map (i :: ·) = some ns := h
      obtain ⟨m, e, rfl⟩ := Option.map_eq_some_iff.mp h
      rw [intsD_eq e]; rfl
    | _ => cases h
def mtS : List D × List D → D → R (List D × List D) := fun (a5 : List D × List D) d6 => ((((R.ok d6).bnd fun x => .ok [x]).bnd fun ds => R.of (D.abs ds)).bnd fun x => (R.ok (D.int 1)).bnd fun y => R.of (D.sub x y)).bnd fun x_at_7 => ((((((((R.ok x_at_7).bnd fun d => (R.of (D.toI d)).bnd fun i => .ok (some i)).bnd fun l => (((R.ok x_at_7).bnd fun x => (R.ok (D.int 2)).bnd fun y => R.of (D.addI x y)).bnd fun d => (R.of (D.toI d)).bnd fun i => .ok (some i)).bnd fun h => .ok (cutD a5.1 l h)).bnd fun z => .ok (D.lst z)).bnd fun x => .ok [x]).bnd fun ds => R.of (D.min1 ds)).bnd fun x => ((((((R.ok x_at_7).bnd fun d => (R.of (D.toI d)).bnd fun i => .ok (some i)).bnd fun l => (((R.ok x_at_7).bnd fun x => (R.ok (D.int 2)).bnd fun y => R.of (D.addI x y)).bnd fun d => (R.of (D.toI d)).bnd fun i => .ok (some i)).bnd fun h => .ok (cutD a5.1 l h)).bnd fun z => .ok (D.lst z)).bnd fun x => .ok [x]).bnd fun ds => R.of (D.max1 ds)).bnd fun y => (((R.ok d6).bnd fun x => .ok [x]).bnd (ap1 f_sign_of)).bnd fun z => .ok [x, y, z]).bnd fun ds => R.of ((fits ds).map D.tup)).bnd fun d => (R.of (appD a5.2 d)).bnd fun x_found_9 => (((((R.ok x_at_7).bnd fun x => (R.ok (D.int 1)).bnd fun y => R.of (D.addI x y)).bnd fun y => R.of (D.ix (D.lst a5.1) y)).bnd fun x => ((R.ok x_at_7).bnd fun y => R.of (D.ix (D.lst a5.1) y)).bnd fun y => .ok [x, y]).bnd fun ds => R.of ((fits ds).map D.tup)).bnd fun d => (R.of (D.two d)).bnd fun q => (R.ok x_at_7).bnd fun j => (R.of (setD a5.1 j q.1)).bnd fun l => ((R.ok x_at_7).bnd fun x => (R.ok (D.int 1)).bnd fun y => R.of (D.addI x y)).bnd fun j' => (R.of (setD l j' q.2)).bnd fun x_here_10 => .ok (x_here_10, x_found_9)
def trD (t : Int × Int × Int) : D := .tup [.int t.1, .int t.2.1, .int t.2.2]
def swH (l : Int) (h : List Int) : List Int := (h.set (ab l - 1).toNat (h.getD ((ab l - 1).toNat + 1) 0)).set ((ab l - 1).toNat + 1) (h.getD (ab l - 1).toNat 0)
def mtL (l : Int) (h : List Int) : Int × Int × Int := (minI [h.getD (ab l - 1).toNat 0, h.getD ((ab l - 1).toNat + 1) 0], maxI [h.getD (ab l - 1).toNat 0, h.getD ((ab l - 1).toNat + 1) 0], if 0 < l then 1 else -1)
def mts : List Int → List Int → List (Int × Int × Int)
  | _, [] => []
  | h, l :: w => mtL l h :: mts (swH l h) w
theorem swH_len (l : Int) (h : List Int) : (swH l h).length = h.length := by simp [swH]
theorem cutI {h : List Int} {k : Nat} (hk : k + 1 < h.length) : ∃ t x y r, h = t ++ x :: y :: r ∧ t.length = k := by
  refine ⟨h.take k, h[k], h[k + 1], h.drop (k + 2), ?_, by simp; omega⟩
  conv => lhs; rw [← List.take_append_drop k h, List.drop_eq_getElem_cons (by omega), List.drop_eq_getElem_cons (by omega)]
theorem at_parts {t : List Int} {x y : Int} {r : List Int} : (t ++ x :: y :: r).getD t.length 0 = x ∧ (t ++ x :: y :: r).getD (t.length + 1) 0 = y := by
  constructor
  · simp
  · rw [List.getD_eq_getElem?_getD, List.getElem?_append_right (by omega)]; simp
theorem swH_parts {l : Int} {t : List Int} {x y : Int} {r : List Int} (h : (ab l - 1).toNat = t.length) : swH l (t ++ x :: y :: r) = t ++ y :: x :: r := by
  unfold swH
  rw [h, at_parts.1, at_parts.2]
  simp [List.set_append]
theorem f_sg {x : Int} : f_sign_of (.int x) = .ok (.int (if 0 < x then 1 else -1)) := by
  unfold f_sign_of
  by_cases h : 0 < x
  · simp [h]
  · simp [h]
theorem set_int {h : List Int} {k : Nat} {x : Int} (hk : k < h.length) : setD (h.map .int) (.int (k : Nat)) (.int x) = some ((h.set k x).map .int) := by
  show (ixN _ _).map _ = _
  have : ixN (h.map D.int).length (k : Int) = some k := by
    unfold ixN
    rw [if_pos (by omega), if_pos (by simp; omega)]
    simp
  rw [this, List.map_set]
  rfl
theorem mtS_is {n : Nat} {l : Int} (hl : l ≠ 0 ∧ -(n : Int) < l ∧ l < n) (hn : n ≤ 1000) {h : List Int} (hh : h.length = n) {acc : List D} (ha : acc.length ≤ 1000) : mtS (h.map .int, acc) (.int l) = .ok ((swH l h).map .int, acc ++ [trD (mtL l h)]) := by
  have a1 : 1 ≤ ab l ∧ ab l < n := by unfold ab; split <;> omega
  obtain ⟨k, ek⟩ : ∃ k : Nat, ab l - 1 = k := ⟨(ab l - 1).toNat, by omega⟩
  have e0 : (ab l - 1).toNat = k := by omega
  have hk : k + 1 < h.length := by omega
  have ix0 : D.ix (.lst (h.map .int)) (.int (k : Nat)) = some (.int (h.getD k 0)) := by
    show atI _ _ = _
    exact atI_k (by simp [show k < h.length by omega])
  have ix1 : D.ix (.lst (h.map .int)) (.int ((k : Int) + 1)) = some (.int (h.getD (k + 1) 0)) := by
    show atI _ ((k + 1 : Nat) : Int) = _
    exact atI_k (by simp [hk])
  have ct : cutD (h.map .int) (some (k : Int)) (some ((k : Int) + 2)) = [h.getD k 0, h.getD (k + 1) 0].map .int := by
    have := cutD_mid (f := D.int) (w := h) (k := k) (j := k + 2)
    rw [show ((k : Int) + 2) = ((k + 2 : Nat) : Int) by omega, this]
    congr 1
    obtain ⟨t, x, y, r, rfl, rfl⟩ := cutI hk
    rw [at_parts.1, at_parts.2, show t.length + 2 - t.length = 2 by omega, List.drop_left]
    rfl
  have mi : ∀ v : List Int, v ≠ [] → D.min1 [.lst (v.map .int)] = some (.int (minI v)) := fun v hv => by
    show (intsD _).bind _ = _
    rw [Wk.ints_map]
    exact if_neg hv
  have ma : ∀ v : List Int, v ≠ [] → D.max1 [.lst (v.map .int)] = some (.int (maxI v)) := fun v hv => by
    show (intsD _).bind _ = _
    rw [Wk.ints_map]
    exact if_neg hv
  have s2 : setD ((h.set k (h.getD (k + 1) 0)).map .int) (.int ((k : Int) + 1)) (.int (h.getD k 0)) = some (((h.set k (h.getD (k + 1) 0)).set (k + 1) (h.getD k 0)).map .int) := by
    have := set_int (h := h.set k (h.getD (k + 1) 0)) (k := k + 1) (x := h.getD k 0) (by simpa using hk)
    rwa [show (((k + 1 : Nat)) : Int) = (k : Int) + 1 by omega] at this
  unfold mtS swH mtL
  rw [e0]
  simp only [bnd_ok, s_ab, of_some, s_sub, ek, s_toI, s_add, ct, mi _ (List.cons_ne_nil _ _), ma _ (List.cons_ne_nil _ _), s_ap1, f_sg, s_fits3, Option.map_some, s_app (show acc.length < 16000000 by omega), ix0, ix1, s_fits2, s_two, set_int (show k < h.length by omega), s2]
  rfl
theorem mts_fold {n : Nat} (hn : n ≤ 1000) : ∀ (w : List Int) {h : List Int} {acc : List D}, Lt n w → h.length = n → acc.length + w.length ≤ 1000 → foldR mtS (h.map .int, acc) (w.map .int) = .ok ((w.foldl (fun h l => swH l h) h).map .int, acc ++ (mts h w).map trD)
  | [], h, acc, _, _, _ => by simp [foldR, mts]
  | l :: w, h, acc, lw, hh, hl => by
    have hl : acc.length + (w.length + 1) ≤ 1000 := hl
    show (mtS _ _).bnd _ = _
    rw [mtS_is (lw l (by simp)) hn hh (by omega)]
    show foldR mtS _ _ = _
    rw [mts_fold hn w (fun x hx => lw x (by simp [hx])) (by rw [swH_len]; exact hh) (by simp; omega)]
    simp [mts]
def sm (a b : Int) (ts : List (Int × Int × Int)) : Int := ((ts.filter fun t => decide (t.1 = a ∧ t.2.1 = b)).map fun t => t.2.2).sum
def wn (m : Nat) (ts : List (Int × Int × Int)) : List (Int × Int × Int) := (List.range m).flatMap fun a => (List.range (m - (a + 1))).map fun j => ((a : Nat), ((a + 1 + j : Nat) : Int), sm (a : Nat) ((a + 1 + j : Nat) : Int) ts / 2)
theorem wn_len (m : Nat) (hm : m ≤ 6) (ts : List (Int × Int × Int)) : (wn m ts).length ≤ 15 := by
  unfold wn
  rw [List.length_flatMap]
  simp only [List.length_map, List.length_range]
  have : m = 0 ∨ m = 1 ∨ m = 2 ∨ m = 3 ∨ m = 4 ∨ m = 5 ∨ m = 6 := by omega
  rcases this with rfl | rfl | rfl | rfl | rfl | rfl | rfl <;> decide
theorem lc3 {a b : Int} {ts : List (Int × Int × Int)} (hl : ts.length ≤ 1000) : lcIR (fun d => (R.of (D.three d)).bnd fun q => (((R.ok q.1).bnd fun x => (R.ok q.2.1).bnd fun y => .ok [x, y]).bnd fun ds => R.of ((fits ds).map D.tup)).bnd fun x => (((R.ok (D.int a)).bnd fun x => (R.ok (D.int b)).bnd fun y => .ok [x, y]).bnd fun ds => R.of ((fits ds).map D.tup)).bnd fun y => R.of (D.eq x y)) (fun d => (R.of (D.three d)).bnd fun q => R.ok q.2.2) (ts.map trD) = .ok (((ts.filter fun t => decide (t.1 = a ∧ t.2.1 = b)).map fun t => t.2.2).map .int) := by
  rw [lcIR_ok (p := fun t => decide (t.1 = a ∧ t.2.1 = b)) (h := fun t => D.int t.2.2) ts (by omega) (fun t _ => by
    have : D.eq (.tup [.int t.1, .int t.2.1]) (.tup [.int a, .int b]) = some (decide (t.1 = a ∧ t.2.1 = b)) := by
      have := s_eqT (v := [t.1, t.2.1]) (w := [a, b])
      simpa using this
    simp only [trD, s_three, of_some, bnd_ok, s_fits2, Option.map_some, this]) fun t _ => by simp only [trD, s_three, of_some, bnd_ok]]
  rw [List.map_map]; rfl
theorem sm_cons (a b : Int) (u : Int × Int × Int) (ts : List (Int × Int × Int)) : sm a b (u :: ts) = (if u.1 = a ∧ u.2.1 = b then u.2.2 else 0) + sm a b ts := by
  unfold sm
  rw [List.filter_cons]
  by_cases h : u.1 = a ∧ u.2.1 = b
  · rw [if_pos h, if_pos (decide_eq_true h)]; simp
  · rw [if_neg h, if_neg (by simpa using h)]; simp
theorem mts_len : ∀ (w h : List Int), (mts h w).length = w.length
  | [], _ => rfl
  | l :: w, h => by simp [mts, mts_len w]
theorem mem_rowsP {m : Nat} : ∀ {k : Nat} (r : List Int), r.length = k → (∀ x ∈ r, 0 ≤ x ∧ x < m) → r.Nodup → r ∈ rowsP m k
  | 0, r, h, _, _ => by
    have : r = [] := List.length_eq_zero_iff.mp h
    subst this
    simp [rowsP]
  | k + 1, r, h, hr, nd => by
    have ne : r ≠ [] := fun e => by subst e; simp at h
    obtain ⟨s, x, rfl⟩ : ∃ s x, r = s ++ [x] := ⟨r.dropLast, r.getLast ne, (List.dropLast_concat_getLast ne).symm⟩
    have hx := hr x (by simp)
    obtain ⟨n1, n2, n3⟩ := List.nodup_append.mp nd
    refine List.mem_flatMap.mpr ⟨s, mem_rowsP s (by simpa using h) (fun y hy => hr y (by simp [hy])) n1, List.mem_map.mpr ⟨x.toNat, List.mem_filter.mpr ⟨List.mem_range.mpr (by omega), ?_⟩, ?_⟩⟩
    · have e : s.any (fun y => decide (y = ((x.toNat : Nat) : Int))) = false := List.any_eq_false.mpr fun y hy => by
        have := n3 y hy x (by simp)
        simp; omega
      rw [e]; rfl
    · rw [show ((x.toNat : Nat) : Int) = x by omega]
def arr (h : List Int) (w : List Int) : List Int := w.foldl (fun h l => swH l h) h
def iot (n : Nat) : List Int := (List.range n).map fun k => ((k : Nat) : Int)
theorem swH_perm {l : Int} {h : List Int} (hl : (ab l - 1).toNat + 1 < h.length) : (swH l h).Perm h := by
  obtain ⟨t, x, y, r, rfl, e⟩ := cutI hl
  rw [swH_parts e.symm]
  exact List.Perm.append_left t (List.Perm.swap x y r)
theorem swH_at {l : Int} {h : List Int} {n : Nat} (hh : h.length = n) (hl : l ≠ 0 ∧ -(n : Int) < l ∧ l < n) {p : Int} (hp : 0 ≤ p ∧ p < n) : (swH l h).getD (swp p l).toNat 0 = h.getD p.toNat 0 := by
  have a1 : 1 ≤ ab l ∧ ab l < n := by unfold ab; split <;> omega
  obtain ⟨k, ek⟩ : ∃ k : Nat, ab l - 1 = k := ⟨(ab l - 1).toNat, by omega⟩
  have e0 : (ab l - 1).toNat = k := by omega
  unfold swH swp
  rw [e0]
  have gs : ∀ (h : List Int) (i : Nat) (x : Int) (j : Nat), i < h.length → (h.set i x).getD j 0 = if j = i then x else h.getD j 0 := fun h i x j hi => by
    rw [List.getD_eq_getElem?_getD, List.getElem?_set, List.getD_eq_getElem?_getD]
    by_cases c : i = j
    · subst c; simp [hi]
    · rw [if_neg c, if_neg (Ne.symm c)]
  rw [gs _ (k + 1) _ _ (by simp; omega), gs _ k _ _ (by omega)]
  repeat' split
  all_goals first | omega | (congr 1; omega) | skip
theorem arr_len : ∀ (w h : List Int), (arr h w).length = h.length
  | [], _ => rfl
  | l :: w, h => (arr_len w (swH l h)).trans (swH_len l h)
theorem arr_perm {n : Nat} : ∀ (w h : List Int), h.length = n → Lt n w → (arr h w).Perm h
  | [], _, _, _ => List.Perm.refl _
  | l :: w, h, hh, lw => by
    have hl := lw l (by simp)
    have a1 : 1 ≤ ab l ∧ ab l < n := by unfold ab; split <;> omega
    exact (arr_perm w (swH l h) ((swH_len l h).trans hh) fun x hx => lw x (by simp [hx])).trans (swH_perm (by omega))
theorem arr_at {n : Nat} : ∀ (w h : List Int), h.length = n → Lt n w → ∀ p : Int, 0 ≤ p ∧ p < n → (arr h w).getD (w.foldl swp p).toNat 0 = h.getD p.toNat 0
  | [], _, _, _, p, _ => rfl
  | l :: w, h, hh, lw, p, hp => by
    have hl := lw l (by simp)
    show (arr (swH l h) w).getD (w.foldl swp (swp p l)).toNat 0 = _
    rw [arr_at w (swH l h) ((swH_len l h).trans hh) (fun x hx => lw x (by simp [hx])) _ (swp_in hl hp), swH_at hh hl hp]
theorem iot_at {n s : Nat} (h : s < n) : (iot n).getD s 0 = s := by
  unfold iot; rw [List.getD_eq_getElem?_getD, List.getElem?_map, List.getElem?_range h]; rfl
theorem iot_len (n : Nat) : (iot n).length = n := by unfold iot; simp
theorem iot_nd (n : Nat) : (iot n).Nodup := by
  unfold iot List.Nodup
  rw [List.pairwise_map]
  exact List.Pairwise.imp (fun {a b} h e => h (by omega)) (List.nodup_range (n := n))
theorem mem_iot {n : Nat} {x : Int} : x ∈ iot n ↔ 0 ≤ x ∧ x < n := by
  unfold iot
  rw [List.mem_map]
  constructor
  · rintro ⟨k, hk, rfl⟩; have := List.mem_range.mp hk; omega
  · intro h; exact ⟨x.toNat, List.mem_range.mpr (by omega), by omega⟩
theorem ix_atI {r : List Int} (nd : r.Nodup) {i : Nat} (h : i < r.length) : r.idxOf (r.getD i 0) = i := by
  have e : r.getD i 0 = r[i] := by simp [h]
  have h1 := List.idxOf_lt_length_iff.mpr (List.getElem_mem h)
  rw [e]
  exact (List.getElem_inj nd).mp (List.getElem_idxOf h1)
theorem inv_arr {n : Nat} {w : List Int} (lw : Lt n w) : invA n (arr (iot n) w) = ordL n w := by
  unfold invA ordL
  refine List.map_congr_left fun s hs => ?_
  have hs := List.mem_range.mp hs
  have hp := fold_in lw (show 0 ≤ ((s : Nat) : Int) ∧ ((s : Nat) : Int) < n by omega)
  have e := arr_at w (iot n) (iot_len n) lw s (by omega)
  rw [Int.toNat_natCast, iot_at hs] at e
  have nd : (arr (iot n) w).Nodup := (arr_perm w (iot n) (iot_len n) lw).nodup_iff.mpr (iot_nd n)
  have := ix_atI nd (i := (w.foldl swp s).toNat) (by rw [arr_len, iot_len]; omega)
  rw [e] at this
  rw [this]; omega
theorem chk_any {n : Nat} {w : List Int} (n1 : 1 ≤ (n : Int)) (n2 : (n : Int) ≤ 6) (lw : Lt n w) : chkA n (arr (iot n) w) = true := by
  have pm := arr_perm w (iot n) (iot_len n) lw
  have h : arr (iot n) w ∈ rowsP n n := mem_rowsP _ (by rw [arr_len, iot_len]) (fun x hx => mem_iot.mp (pm.mem_iff.mp hx)) (pm.nodup_iff.mpr (iot_nd n))
  have : n = 1 ∨ n = 2 ∨ n = 3 ∨ n = 4 ∨ n = 5 ∨ n = 6 := by omega
  rcases this with rfl | rfl | rfl | rfl | rfl | rfl
  · exact all_get (f := chkA 1) chk_1 h
  · exact all_get (f := chkA 2) chk_2 h
  · exact all_get (f := chkA 3) chk_3 h
  · exact all_get (f := chkA 4) chk_4 h
  · exact all_get (f := chkA 5) chk_5 h
  · exact all_get (f := chkA 6) chk_6 h
theorem decL_eq : ∀ {dss : List (List D)} {ps : List (List Int)}, decL dss = some ps → dss = ps.map fun p => p.map D.int
  | [], ps, h => by cases h; rfl
  | d :: ds, ps, h => by
    unfold decL at h
    cases e1 : intsD d with
    | none => rw [e1] at h; cases h
    | some a =>
      cases e2 : decL ds with
      | none => rw [e1, e2] at h; cases h
      | some b =>
        rw [e1, e2] at h
        cases h
        rw [intsD_eq e1, decL_eq e2]; rfl
theorem decG_eq : ∀ {ds : List D} {ps : List (List Int)}, decD.go ds = some ps → ds = ps.map fun p => D.lst (p.map D.int)
  | [], ps, h => by cases h; rfl
  | d :: ds, ps, h => by
    cases d with
    | lst d =>
      have h : (match intsD d, decD.go ds with
        | some a, some b => some (a :: b)
        | _, _ => none) = some ps := h
      cases e1 : intsD d with
      | none => rw [e1] at h; cases h
      | some a =>
        cases e2 : decD.go ds with
        | none => rw [e1, e2] at h; cases h
        | some b =>
          rw [e1, e2] at h
          cases h
          rw [intsD_eq e1, decG_eq e2]; rfl
    | _ => cases h
theorem decD_eq {d : D} {ps : List (List Int)} (h : decD d = some ps) : d = .lst (ps.map fun p => D.lst (p.map D.int)) := by
  cases d with
  | lst ds => rw [decG_eq (show decD.go ds = some ps from h)]
  | _ => cases h
/-- the pieces, the numbers of the places, the law's own pieces -/
theorem pcs_of {n : Nat} {w : List Int} (n1 : 1 ≤ (n : Int)) (n2 : (n : Int) ≤ 6) (lw : Lt n w) : ∃ (ps : List (List Int)) (h : List Int), pcB (.tup ((ordL n w).map .int)) = .ok (ps.map fun p => p.map D.int) ∧ pnB (.int n) (dN (ps.map fun p => p.map D.int)) = .ok (h.map .int) ∧ h.length = n ∧ 1 ≤ ps.length ∧ ps.length ≤ n ∧ (∀ p ∈ ps, p.length ≤ n) ∧ (∀ s, s < n → ∀ i, i < ps.length → (((s : Nat) : Int) ∈ ps.getD i [] ↔ h.getD s 0 = (i : Nat))) ∧ lpB (.tup [.int n, .tup []]) (.lst ((arr (iot n) w).map .int)) = .ok (.lst (ps.map fun p => D.lst (p.map D.int))) := by
  have c := chk_any n1 n2 lw
  unfold chkA at c
  rw [inv_arr lw] at c
  cases e : pcB (.tup ((ordL n w).map .int)) with
  | err _ => rw [e] at c; cases c
  | bad => rw [e] at c; cases c
  | ok dss =>
    rw [e] at c
    unfold pcOk at c
    dsimp only at c
    cases e1 : decL dss with
    | none => rw [e1] at c; cases c
    | some ps =>
      rw [e1] at c
      simp only [Bool.and_eq_true, decide_eq_true_eq] at c
      obtain ⟨⟨⟨c1, c0⟩, c2⟩, c3⟩ := c
      have ed := decL_eq e1
      subst ed
      cases e2 : pnB (.int n) (dN (ps.map fun p => p.map D.int)) with
      | err _ => rw [e2] at c2; cases c2
      | bad => rw [e2] at c2; cases c2
      | ok hs =>
        rw [e2] at c2
        unfold pnOk at c2
        dsimp only at c2
        cases e3 : intsD hs with
        | none => rw [e3] at c2; cases c2
        | some h =>
          rw [e3] at c2
          simp only [Bool.and_eq_true, decide_eq_true_eq, List.all_eq_true, List.mem_range, beq_iff_eq] at c2
          obtain ⟨⟨h1, h2⟩, h3⟩ := c2
          cases e4 : lpB (.tup [.int n, .tup []]) (.lst ((arr (iot n) w).map .int)) with
          | err _ => rw [e4] at c3; cases c3
          | bad => rw [e4] at c3; cases c3
          | ok d =>
            rw [e4] at c3
            have c3 : decide (decD d = some ps) = true := c3
            rw [decide_eq_true_eq] at c3
            refine ⟨ps, h, rfl, ?_, h1, c1, h2, fun p hp => of_decide_eq_true (List.all_eq_true.mp c0 p hp), fun s hs i hi => ?_, ?_⟩
            · rw [e2, intsD_eq e3]
            · have := h3 s hs i hi
              exact decide_eq_decide.mp this
            · rw [decD_eq c3]
/-! windings, run -/
theorem foldR_app {β : Type} {step : β → D → R β} : ∀ (xs ys : List D) (b : β), foldR step b (xs ++ ys) = (foldR step b xs).bnd fun c => foldR step c ys
  | [], ys, b => rfl
  | x :: xs, ys, b => by
    show (step b x).bnd _ = ((step b x).bnd _).bnd _
    cases step b x with
    | ok c => exact foldR_app xs ys c
    | err _ => rfl
    | bad => rfl
theorem foldR_snoc {β : Type} {step : β → D → R β} (xs : List D) (b : β) (f : Nat → D) (k : Nat) : foldR step b (xs ++ [k].map f) = (foldR step b xs).bnd fun c => step c (f k) := by
  rw [foldR_app]
  congr 1
  funext c
  show (step c (f k)).bnd _ = _
  cases step c (f k) <;> rfl
theorem foldR_app2 {γ : Type} {step : List D → D → R (List D)} {out : γ → D} {enc : Nat → D} {F : Nat → γ} {acc : List γ} (q : Nat) (h : ∀ j, j < q → ∀ acc' : List γ, acc'.length ≤ acc.length + q → step (acc'.map out) (enc j) = .ok ((acc' ++ [F j]).map out)) : foldR step (acc.map out) ((List.range q).map enc) = .ok ((acc ++ (List.range q).map F).map out) := by
  have go : ∀ k, k ≤ q → foldR step (acc.map out) ((List.range k).map enc) = .ok ((acc ++ (List.range k).map F).map out) := by
    intro k
    induction k with
    | zero => intro _; show R.ok _ = R.ok _; simp
    | succ k ih =>
      intro hk
      rw [List.range_succ, List.map_append, foldR_snoc, ih (by omega), bnd_ok]
      rw [h k (by omega) _ (by simp; omega)]
      simp [List.map_append]
  exact go q (Nat.le_refl _)
theorem loops2 {γ : Type} {m : Nat} {step : List D → D → R (List D)} {out : γ → D} {F : Nat → Nat → γ} (hm : m ≤ 6) (hs : ∀ k, k < m → ∀ acc : List γ, acc.length ≤ 100 → step (acc.map out) (.int (k : Nat)) = .ok ((acc ++ (List.range (m - (k + 1))).map fun j => F k (k + 1 + j)).map out)) : foldR step [] ((List.range m).map fun k => D.int (k : Nat)) = .ok (((List.range m).flatMap fun a => (List.range (m - (a + 1))).map fun j => F a (a + 1 + j)).map out) := by
  have go : ∀ k, k ≤ m → ((List.range k).flatMap fun a => (List.range (m - (a + 1))).map fun j => F a (a + 1 + j)).length ≤ 6 * k ∧ foldR step [] ((List.range k).map fun k => D.int (k : Nat)) = .ok (((List.range k).flatMap fun a => (List.range (m - (a + 1))).map fun j => F a (a + 1 + j)).map out) := by
    intro k
    induction k with
    | zero => intro _; exact ⟨by simp, rfl⟩
    | succ k ih =>
      intro hk
      obtain ⟨i1, i2⟩ := ih (by omega)
      refine ⟨?_, ?_⟩
      · rw [List.range_succ, List.flatMap_append, List.length_append]
        simp only [List.flatMap_cons, List.flatMap_nil, List.append_nil, List.length_map, List.length_range]
        omega
      · rw [List.range_succ, List.map_append, foldR_snoc, i2, bnd_ok, hs k (by omega) _ (by omega)]
        rw [List.flatMap_append]
        simp [List.map_append]
  exact (go m (Nat.le_refl _)).2
theorem ru {k m : Nat} (hk : k < m) (hm : m ≤ 6) : rg2 (.int ((k + 1 : Nat) : Int)) (.int (m : Nat)) = some ((List.range (m - (k + 1))).map fun j => D.int ((k + 1 + j : Nat) : Int)) := by
  rw [s_rg2 (by omega) (by omega)]
  unfold upD
  rw [show ((m : Int) - ((k + 1 : Nat) : Int)).toNat = m - (k + 1) by omega]
  congr 1
theorem f_pcs {n : Nat} {w : List Int} (n1 : 1 ≤ (n : Int)) (n2 : (n : Int) ≤ 6) (wl : w.length ≤ 16) (lw : Lt n w) : f_pieces (plD n w) = pcB (.tup ((ordL n w).map .int)) := by
  have e : ((R.ok (plD n w)).bnd fun x => .ok [x]).bnd (ap1 f_order_of) = .ok (.tup ((ordL n w).map .int)) := by
    simp only [bnd_ok, s_ap1, f_ordof n1 n2 wl lw, Int.toNat_natCast]
  unfold f_pieces pcB
  rw [e, bnd_ok]
theorem f_pcn {n : Nat} {w : List Int} {p : List (List D)} (h : f_pieces (plD n w) = .ok p) : f_piece_numbers (plD n w) = pnB (.int n) (dN p) := by
  have e1 : ((R.ok (plD n w)).bnd fun x => (R.ok (D.int 0)).bnd fun y => R.of (D.ix x y)) = R.ok (.int n) := rfl
  have e2 : (((R.ok (plD n w)).bnd fun x => .ok [x]).bnd (ap1 f_pieces)).bnd (fun q => .ok (dN q)) = .ok (dN p) := by
    simp only [bnd_ok, s_ap1, h]
  unfold f_piece_numbers pnB
  rw [e1, e2]; try rfl
theorem wn_eq (m : Nat) (ts : List (Int × Int × Int)) : wn m ts = (List.range m).flatMap fun a => (List.range (m - (a + 1))).map fun j => (fun (a b : Nat) => (((a : Nat) : Int), ((b : Nat) : Int), sm (a : Nat) (b : Nat) ts / 2)) a (a + 1 + j) := rfl
theorem f_wnd {n : Nat} {w : List Int} (n1 : 1 ≤ (n : Int)) (n2 : (n : Int) ≤ 6) (wl : w.length ≤ 16) (lw : Lt n w) {ps : List (List Int)} {h : List Int} (e1 : pcB (.tup ((ordL n w).map .int)) = .ok (ps.map fun p => p.map D.int)) (e2 : pnB (.int n) (dN (ps.map fun p => p.map D.int)) = .ok (h.map .int)) (hl : h.length = n) (pl : ps.length ≤ n) : f_windings (plD n w) = .ok ((wn ps.length (mts h w)).map trD) := by
  have ep : f_pieces (plD n w) = .ok (ps.map fun p => p.map D.int) := (f_pcs n1 (by omega) wl lw).trans e1
  have en : f_piece_numbers (plD n w) = .ok (h.map .int) := (f_pcn ep).trans e2
  have em : f_meetings (plD n w) = .ok (.lst ((mts h w).map trD)) := by
    have e := mts_fold (show n ≤ 1000 by omega) w (acc := []) lw hl (by simp; omega)
    have a1 : ((R.ok (plD n w)).bnd fun x => .ok [x]).bnd (ap1 f_piece_numbers) = .ok (h.map .int) := by simp only [bnd_ok, s_ap1, en]
    have a2 : (((R.ok (plD n w)).bnd fun x => (R.ok (D.int 1)).bnd fun y => R.of (D.ix x y)).bnd fun d => R.of (D.seq d)) = .ok (w.map .int) := by
      have px1 : D.ix (plD n w) (.int 1) = some (.tup (w.map .int)) := rfl
      simp only [bnd_ok, px1, of_some, s_seqT]
    have a3 : ((R.ok []).bnd fun ds : List D => R.of (fits ds)) = .ok [] := by simp only [bnd_ok, s_fits0, of_some]
    unfold f_meetings
    rw [a1, bnd_ok, a3, bnd_ok, a2, bnd_ok]
    unfold mtS at e
    rw [e, bnd_ok, List.nil_append]
  have dl : D.len [dN (ps.map fun p => p.map D.int)] = some (.int (ps.length : Nat)) := by
    show D.len [.lst _] = _
    rw [s_lenL]; simp
  have tl : (mts h w).length ≤ 16 := by rw [mts_len]; exact wl
  unfold f_windings
  simp only [bnd_ok, s_ap1, ep, dl, of_some, em, s_fits0, s_rg1 (show (0 : Int) ≤ (ps.length : Int) by omega) (show (ps.length : Int) < 16000000 by omega), Int.toNat_natCast, s_seqL]
  rw [loops2 (out := trD) (F := fun a b => (((a : Nat) : Int), ((b : Nat) : Int), sm (a : Nat) (b : Nat) (mts h w) / 2)) (by omega) fun k hk acc ha => ?_]
  · rfl
  · have a1 : D.addI (.int (k : Nat)) (.int 1) = some (.int ((k + 1 : Nat) : Int)) := rfl
    simp only [a1, of_some, bnd_ok, ru hk (show ps.length ≤ 6 by omega)]
    rw [foldR_app2 (out := trD) (F := fun j => (((k : Nat) : Int), ((k + 1 + j : Nat) : Int), sm (k : Nat) ((k + 1 + j : Nat) : Int) (mts h w) / 2)) _ fun j hj acc' ha' => ?_]
    · rfl
    · have z := lc3 (a := ((k : Nat) : Int)) (b := ((k + 1 + j : Nat) : Int)) (ts := mts h w) (by omega)
      simp only [bnd_ok] at z
      simp only [z, bnd_ok, s_sum, of_some, s_div (show (0 : Int) < 2 by decide) (show (2 : Int) < 1000000000000 by decide), s_fits3, Option.map_some]
      rw [s_app (by simp; omega)]
      show R.ok _ = R.ok _
      rw [List.map_append]; rfl
theorem cutL_to {α : Type} {f : α → D} {w : List α} {k : Nat} : D.cutL (.lst (w.map f)) none (some (k : Int)) = some ((w.take k).map f) := by
  have := cut_to (f := f) (w := w) (k := k)
  unfold D.cut at this
  injection this with this
  injection this with this
  show some _ = some _
  rw [this]
theorem cutL_from {α : Type} {f : α → D} {w : List α} {k : Nat} (h : k ≤ w.length) : D.cutL (.lst (w.map f)) (some (k : Int)) none = some ((w.drop k).map f) := by
  have := cut_from (f := f) (w := w) (k := k) h
  unfold D.cut at this
  injection this with this
  injection this with this
  show some _ = some _
  rw [this]
theorem s_cat {xs ys : List D} (h : xs.length + ys.length ≤ 16000000) : D.cat (.lst xs) (.lst ys) = some (xs ++ ys) := by
  show (if _ then _ else _) = _
  rw [if_pos h]
/-! the law's strands and windings -/
theorem f_lsign {x : Int} : f__law_sign (.int x) = .ok (.int (if 0 < x then 1 else -1)) := by
  unfold f__law_sign
  have nn : D.neg (.int 1) = some (.int (-1)) := rfl
  by_cases h : 0 < x
  · simp only [bnd_ok, nn, of_some, s_fits2, s_gt, h, decide_true, Option.map_some, s_toIntB, if_true]; rfl
  · simp only [bnd_ok, nn, of_some, s_fits2, s_gt, h, decide_false, Option.map_some, s_toIntB, Bool.false_eq_true, if_false]; rfl
/-- who meets: strand, strand, sign -/
def lmt : List Int → List Int → List (Int × Int × Int)
  | _, [] => []
  | h, l :: w => (h.getD (ab l - 1).toNat 0, h.getD ((ab l - 1).toNat + 1) 0, if 0 < l then 1 else -1) :: lmt (swH l h) w
theorem lmt_len : ∀ (w h : List Int), (lmt h w).length = w.length
  | [], _ => rfl
  | l :: w, h => by simp [lmt, lmt_len w]
def lsS : D × List D → D → R (D × List D) := fun (a5 : D × List D) d6 => ((((R.ok d6).bnd fun x => .ok [x]).bnd fun ds => R.of (D.abs ds)).bnd fun x => (R.ok (D.int 1)).bnd fun y => R.of (D.sub x y)).bnd fun x_at_7 => ((((R.ok a5.1).bnd fun x => (R.ok x_at_7).bnd fun y => R.of (D.ix x y)).bnd fun x => ((R.ok a5.1).bnd fun x => ((R.ok x_at_7).bnd fun x => (R.ok (D.int 1)).bnd fun y => R.of (D.addI x y)).bnd fun y => R.of (D.ix x y)).bnd fun y => (((R.ok d6).bnd fun x => .ok [x]).bnd (ap1 f__law_sign)).bnd fun z => .ok [x, y, z]).bnd fun ds => R.of ((fits ds).map D.tup)).bnd fun d => (R.of (appD a5.2 d)).bnd fun x_met_9 => (((((((R.ok a5.1).bnd fun x => (R.ok none).bnd fun l => ((R.ok x_at_7).bnd fun d => (R.of (D.toI d)).bnd fun i => .ok (some i)).bnd fun h => R.of (D.cutL x l h)).bnd fun z => .ok (D.lst z)).bnd fun x => (((((R.ok a5.1).bnd fun x => ((R.ok x_at_7).bnd fun x => (R.ok (D.int 1)).bnd fun y => R.of (D.addI x y)).bnd fun y => R.of (D.ix x y)).bnd fun x => ((R.ok a5.1).bnd fun x => (R.ok x_at_7).bnd fun y => R.of (D.ix x y)).bnd fun y => .ok [x, y]).bnd fun ds => R.of (fits ds)).bnd fun z => .ok (D.lst z)).bnd fun y => R.of (D.cat x y)).bnd fun z => .ok (D.lst z)).bnd fun x => (((R.ok a5.1).bnd fun x => (((R.ok x_at_7).bnd fun x => (R.ok (D.int 2)).bnd fun y => R.of (D.addI x y)).bnd fun d => (R.of (D.toI d)).bnd fun i => .ok (some i)).bnd fun l => (R.ok none).bnd fun h => R.of (D.cutL x l h)).bnd fun z => .ok (D.lst z)).bnd fun y => R.of (D.cat x y)).bnd fun z => .ok (D.lst z)).bnd fun x_here_10 => .ok (x_here_10, x_met_9)
theorem lsS_is {n : Nat} {l : Int} (hl : l ≠ 0 ∧ -(n : Int) < l ∧ l < n) (hn : n ≤ 1000) {h : List Int} (hh : h.length = n) {acc : List D} (ha : acc.length ≤ 1000) : lsS (.lst (h.map .int), acc) (.int l) = .ok (.lst ((swH l h).map .int), acc ++ [trD (h.getD (ab l - 1).toNat 0, h.getD ((ab l - 1).toNat + 1) 0, if 0 < l then 1 else -1)]) := by
  have a1 : 1 ≤ ab l ∧ ab l < n := by unfold ab; split <;> omega
  obtain ⟨k, ek⟩ : ∃ k : Nat, ab l - 1 = k := ⟨(ab l - 1).toNat, by omega⟩
  have e0 : (ab l - 1).toNat = k := by omega
  have hk : k + 1 < h.length := by omega
  have ix0 : D.ix (.lst (h.map .int)) (.int (k : Nat)) = some (.int (h.getD k 0)) := by
    show atI _ _ = _
    exact atI_k (by simp [show k < h.length by omega])
  have ix1 : D.ix (.lst (h.map .int)) (.int ((k : Int) + 1)) = some (.int (h.getD (k + 1) 0)) := by
    show atI _ ((k + 1 : Nat) : Int) = _
    exact atI_k (by simp [hk])
  have c1 : D.cutL (.lst (h.map .int)) none (some (k : Int)) = some ((h.take k).map .int) := cutL_to
  have c2 : D.cutL (.lst (h.map .int)) (some ((k : Int) + 2)) none = some ((h.drop (k + 2)).map .int) := by
    rw [show (k : Int) + 2 = ((k + 2 : Nat) : Int) by omega]
    exact cutL_from (by omega)
  have d1 : D.cat (.lst ((h.take k).map .int)) (.lst [.int (h.getD (k + 1) 0), .int (h.getD k 0)]) = some ((h.take k ++ [h.getD (k + 1) 0, h.getD k 0]).map .int) := by
    rw [s_cat (by simp; omega)]; simp
  have d2 : D.cat (.lst ((h.take k ++ [h.getD (k + 1) 0, h.getD k 0]).map .int)) (.lst ((h.drop (k + 2)).map .int)) = some ((h.take k ++ [h.getD (k + 1) 0, h.getD k 0] ++ h.drop (k + 2)).map .int) := by
    rw [s_cat (by simp; omega)]; simp
  have es : h.take k ++ [h.getD (k + 1) 0, h.getD k 0] ++ h.drop (k + 2) = swH l h := by
    obtain ⟨t, x, y, r, rfl, rfl⟩ := cutI hk
    rw [swH_parts e0, at_parts.1, at_parts.2]
    simp
  unfold lsS
  simp only [bnd_ok, s_ab, of_some, s_sub, ek, s_toI, s_add, ix0, ix1, s_ap1, f_lsign, s_fits3, Option.map_some, s_app (show acc.length < 16000000 by omega), s_fits2, c1, c2, d1, d2, es]
  try rw [e0]
  rfl
theorem ls_fold {n : Nat} (hn : n ≤ 1000) : ∀ (w : List Int) {h : List Int} {acc : List D}, Lt n w → h.length = n → acc.length + w.length ≤ 1000 → foldR lsS (.lst (h.map .int), acc) (w.map .int) = .ok (.lst ((arr h w).map .int), acc ++ (lmt h w).map trD)
  | [], h, acc, _, _, _ => by simp [foldR, lmt, arr]
  | l :: w, h, acc, lw, hh, hl => by
    have hl : acc.length + (w.length + 1) ≤ 1000 := hl
    show (lsS _ _).bnd _ = _
    rw [lsS_is (lw l (by simp)) hn hh (by omega)]
    show foldR lsS _ _ = _
    rw [ls_fold hn w (fun x hx => lw x (by simp [hx])) (by rw [swH_len]; exact hh) (by simp; omega)]
    simp [lmt, arr]
theorem f_strands {n : Nat} (hn : n ≤ 6) {w : List Int} (lw : Lt n w) (wl : w.length ≤ 16) : f__law_strands (plD n w) = .ok (.tup [.lst ((arr (iot n) w).map .int), .lst ((lmt (iot n) w).map trD)]) := by
  unfold f__law_strands
  have i0 : D.ix (plD n w) (.int 0) = some (.int (n : Nat)) := rfl
  have i1 : D.ix (plD n w) (.int 1) = some (.tup (w.map .int)) := rfl
  have ei : ((List.range n).map fun k => D.int (k : Nat)) = (iot n).map .int := by unfold iot; rw [List.map_map]; rfl
  have e := ls_fold (show n ≤ 1000 by omega) w (acc := []) lw (iot_len n) (by simp; omega)
  unfold lsS at e
  simp only [bnd_ok, i0, i1, of_some, s_toI, bnd2_ok, rgL_n (show n < 1000000 by omega), ei, s_fits0, s_seqT]
  simp only [bnd_ok, s_fits0] at e
  rw [e]
  simp only [bnd_ok, s_fits2, Option.map_some, of_some, List.nil_append]
/-- the pieces by numbers: a strand's number -/
theorem mts_lmt (φ : Int → Int) : ∀ (w h : List Int), (∀ l ∈ w, l ≠ 0 ∧ -(h.length : Int) < l ∧ l < h.length) → mts (h.map φ) w = (lmt h w).map fun t => (minI [φ t.1, φ t.2.1], maxI [φ t.1, φ t.2.1], t.2.2)
  | [], _, _ => rfl
  | l :: w, h, lw => by
    have hl := lw l (by simp)
    have a1 : 1 ≤ ab l ∧ ab l < h.length := by unfold ab; split <;> omega
    have g : ∀ k, k < h.length → (h.map φ).getD k 0 = φ (h.getD k 0) := fun k hk => by simp [List.getD_eq_getElem?_getD, List.getElem?_eq_getElem hk]
    have es : swH l (h.map φ) = (swH l h).map φ := by
      unfold swH
      rw [g _ (by omega), g _ (by omega), List.map_set, List.map_set]
    show mtL l (h.map φ) :: mts (swH l (h.map φ)) w = _
    rw [es, mts_lmt φ w (swH l h) (by rw [swH_len]; exact fun x hx => lw x (by simp [hx]))]
    show _ = (_, _, _) :: _
    congr 1
    unfold mtL
    rw [g _ (by omega), g _ (by omega)]
theorem lmt_in {n : Nat} : ∀ (w h : List Int), h.length = n → Lt n w → (∀ x ∈ h, 0 ≤ x ∧ x < n) → ∀ t ∈ lmt h w, (0 ≤ t.1 ∧ t.1 < n) ∧ (0 ≤ t.2.1 ∧ t.2.1 < n) ∧ (t.2.2 = 1 ∨ t.2.2 = -1)
  | [], _, _, _, _, t, ht => by cases ht
  | l :: w, h, hh, lw, hx, t, ht => by
    have hl := lw l (by simp)
    have a1 : 1 ≤ ab l ∧ ab l < n := by unfold ab; split <;> omega
    have g : ∀ k, k < h.length → h.getD k 0 ∈ h := fun k hk => by simp [List.getD_eq_getElem?_getD, List.getElem?_eq_getElem hk]
    rcases List.mem_cons.mp ht with rfl | ht
    · refine ⟨hx _ (g _ (by omega)), hx _ (g _ (by omega)), ?_⟩
      dsimp only
      split <;> simp
    · exact lmt_in w (swH l h) ((swH_len l h).trans hh) (fun x hx => lw x (by simp [hx])) (fun x hx' => hx x ((swH_perm (by omega)).mem_iff.mp hx')) t ht
/-- the law's sum -/
def lsum (P Q : List Int) (ts : List (Int × Int × Int)) (x : Int) : Int := ts.foldl (fun a t => a + t.2.2 * (if (t.1 ∈ P ∧ t.2.1 ∈ Q) ∨ (t.2.1 ∈ P ∧ t.1 ∈ Q) then 1 else 0)) x
theorem min2I (a b : Int) : minI [a, b] = if b < a then b else a := rfl
theorem max2I (a b : Int) : maxI [a, b] = if a < b then b else a := rfl
theorem lsum_sm {n : Nat} {P Q : List Int} {φ : Int → Int} {a b : Int} (hab : a < b) (hP : ∀ x : Int, 0 ≤ x ∧ x < n → (x ∈ P ↔ φ x = a)) (hQ : ∀ x : Int, 0 ≤ x ∧ x < n → (x ∈ Q ↔ φ x = b)) : ∀ (ts : List (Int × Int × Int)) (x : Int), (∀ t ∈ ts, (0 ≤ t.1 ∧ t.1 < n) ∧ (0 ≤ t.2.1 ∧ t.2.1 < n) ∧ (t.2.2 = 1 ∨ t.2.2 = -1)) → lsum P Q ts x = x + sm a b (ts.map fun t => (minI [φ t.1, φ t.2.1], maxI [φ t.1, φ t.2.1], t.2.2))
  | [], x, _ => by show x = x + 0; omega
  | t :: ts, x, h => by
    obtain ⟨h1, h2, h3⟩ := h t (by simp)
    show lsum P Q ts (x + t.2.2 * _) = _
    rw [lsum_sm hab hP hQ ts _ fun u hu => h u (by simp [hu]), List.map_cons, sm_cons]
    have e : (if (t.1 ∈ P ∧ t.2.1 ∈ Q) ∨ (t.2.1 ∈ P ∧ t.1 ∈ Q) then (1 : Int) else 0) = if minI [φ t.1, φ t.2.1] = a ∧ maxI [φ t.1, φ t.2.1] = b then 1 else 0 := by
      have p1 := hP _ h1
      have p2 := hP _ h2
      have q1 := hQ _ h1
      have q2 := hQ _ h2
      rw [min2I, max2I]
      by_cases c : (t.1 ∈ P ∧ t.2.1 ∈ Q) ∨ (t.2.1 ∈ P ∧ t.1 ∈ Q)
      · rw [if_pos c]
        rw [p1, p2, q1, q2] at c
        rw [if_pos]
        constructor <;> split <;> omega
      · rw [if_neg c]
        rw [p1, p2, q1, q2] at c
        rw [if_neg]
        intro z
        apply c
        obtain ⟨z1, z2⟩ := z
        split at z1 <;> split at z2 <;> omega
    rw [e]
    dsimp only
    split <;> omega
theorem f_whole {i : Int} : f__law_whole (.int i) = .ok (.bl true) := by
  unfold f__law_whole
  simp
theorem lpB_pl {n : Int} {w : List Int} (e : D) : lpB (plD n w) e = lpB (.tup [.int n, .tup []]) e := by
  have i0 : D.ix (plD n w) (.int 0) = some (.int n) := rfl
  have i1 : D.ix (.tup [.int n, .tup []]) (.int 0) = some (.int n) := rfl
  unfold lpB
  simp only [bnd_ok, i0, i1, of_some]
theorem f_lpieces {n : Nat} (hn : n ≤ 6) {w : List Int} (lw : Lt n w) (wl : w.length ≤ 16) : f__law_pieces (plD n w) = lpB (.tup [.int n, .tup []]) (.lst ((arr (iot n) w).map .int)) := by
  have i0 : ∀ a b : D, D.ix (.tup [a, b]) (.int 0) = some a := fun _ _ => rfl
  rw [← lpB_pl (w := w)]
  have e : (((R.ok (plD n w)).bnd fun x => .ok [x]).bnd (ap1 f__law_strands)).bnd (fun x => (R.ok (D.int 0)).bnd fun y => R.of (D.ix x y)) = .ok (.lst ((arr (iot n) w).map .int)) := by
    simp only [bnd_ok, s_ap1, f_strands hn lw wl, i0, of_some]
  unfold f__law_pieces lpB
  rw [e, bnd_ok]
theorem s_inI {x : Int} {p : List Int} : D.in_ (.int x) (.lst (p.map .int)) = some (decide (x ∈ p)) := by
  show (intsD _).map _ = _
  rw [Wk.ints_map, Option.map_some]
  congr 1
  by_cases c : x ∈ p
  · rw [decide_eq_true c]; exact List.contains_iff_mem.mpr c
  · rw [decide_eq_false c]
    cases e : p.contains x with
    | false => rfl
    | true => exact absurd (List.contains_iff_mem.mp e) c
theorem s_inB2 (a b : Bool) : D.inB (.bl true) (.lst [.bl a, .bl b]) = some (a || b) := by
  cases a <;> cases b <;> rfl
theorem f_lwind {n : Nat} (hn : n ≤ 6) {w : List Int} (lw : Lt n w) (wl : w.length ≤ 16) {ps : List (List Int)} {h : List Int} (hl : h.length = n) (pl : ps.length ≤ n) (hs : ∀ s, s < n → ∀ i, i < ps.length → (((s : Nat) : Int) ∈ ps.getD i [] ↔ h.getD s 0 = (i : Nat))) (e4 : lpB (.tup [.int n, .tup []]) (.lst ((arr (iot n) w).map .int)) = .ok (.lst (ps.map fun p => D.lst (p.map D.int)))) : f__law_windings (plD n w) = .ok (.lst ((wn ps.length (mts h w)).map trD)) := by
  have i1 : ∀ a b : D, D.ix (.tup [a, b]) (.int 1) = some b := fun _ _ => rfl
  have el : (D.len [.lst (ps.map fun p => D.lst (p.map D.int))]) = some (.int (ps.length : Nat)) := by rw [s_lenL]; simp
  have px : ∀ k, k < ps.length → D.ix (.lst (ps.map fun p => D.lst (p.map D.int))) (.int (k : Nat)) = some (.lst ((ps.getD k []).map .int)) := fun k hk => by
    show atI _ _ = _
    exact atI_k (by simp [List.getD_eq_getElem?_getD, List.getElem?_eq_getElem hk])
  have em : mts h w = (lmt (iot n) w).map fun t => (minI [h.getD t.1.toNat 0, h.getD t.2.1.toNat 0], maxI [h.getD t.1.toNat 0, h.getD t.2.1.toNat 0], t.2.2) := by
    have := mts_lmt (fun x => h.getD x.toNat 0) w (iot n) (by rw [iot_len]; exact lw)
    have eh : (iot n).map (fun x => h.getD x.toNat 0) = h := by
      refine List.ext_getElem (by simp [iot_len, hl]) fun i h1 h2 => ?_
      have hi : i < n := by omega
      simp [iot, h2]
    rw [eh] at this
    exact this
  have tin := lmt_in w (iot n) (iot_len n) lw fun x hx => mem_iot.mp hx
  unfold f__law_windings
  simp only [bnd_ok, s_ap1, f_lpieces hn lw wl, e4, f_strands hn lw wl, i1, of_some, s_fits0, el, s_rg1 (show (0 : Int) ≤ (ps.length : Int) by omega) (show (ps.length : Int) < 16000000 by omega), Int.toNat_natCast]
  rw [loops2 (out := trD) (F := fun a b => (((a : Nat) : Int), ((b : Nat) : Int), sm (a : Nat) (b : Nat) (mts h w) / 2)) (by omega) fun k hk acc ha => ?_]
  · rfl
  · have a1 : D.addI (.int (k : Nat)) (.int 1) = some (.int ((k + 1 : Nat) : Int)) := rfl
    simp only [a1, of_some, bnd_ok, ru hk (show ps.length ≤ 6 by omega)]
    rw [foldR_app2 (out := trD) (F := fun j => (((k : Nat) : Int), ((k + 1 + j : Nat) : Int), sm (k : Nat) ((k + 1 + j : Nat) : Int) (mts h w) / 2)) _ fun j hj acc' ha' => ?_]
    · rfl
    · have hj2 : k + 1 + j < ps.length := by omega
      simp only [s_seqL, of_some, bnd_ok, px k hk, px (k + 1 + j) hj2]
      have fold : ∀ (ts : List (Int × Int × Int)) (x : Int) (st : D → D → R D), (∀ t ∈ ts, t.2.2 = 1 ∨ t.2.2 = -1) → (∀ t : Int × Int × Int, (t.2.2 = 1 ∨ t.2.2 = -1) → ∀ x : Int, st (.int x) (trD t) = .ok (.int (x + t.2.2 * (if (t.1 ∈ ps.getD k [] ∧ t.2.1 ∈ ps.getD (k + 1 + j) []) ∨ (t.2.1 ∈ ps.getD k [] ∧ t.1 ∈ ps.getD (k + 1 + j) []) then 1 else 0)))) → foldR st (.int x) (ts.map trD) = .ok (.int (lsum (ps.getD k []) (ps.getD (k + 1 + j) []) ts x)) := by
        intro ts
        induction ts with
        | nil => intro x st _ _; rfl
        | cons t ts ih =>
          intro x st h1 h2
          show (st _ _).bnd _ = _
          rw [h2 t (h1 t (by simp)), bnd_ok]
          exact ih _ st (fun u hu => h1 u (by simp [hu])) h2
      rw [fold (lmt (iot n) w) 0 _ (fun t ht => (tin t ht).2.2) fun t ht x => ?_]
      · have ls := lsum_sm (n := n) (φ := fun x => h.getD x.toNat 0) (a := ((k : Nat) : Int)) (b := ((k + 1 + j : Nat) : Int)) (P := ps.getD k []) (Q := ps.getD (k + 1 + j) []) (by omega) (fun x hx => by
          have := hs x.toNat (by omega) k hk
          rwa [show ((x.toNat : Nat) : Int) = x by omega] at this) (fun x hx => by
          have := hs x.toNat (by omega) (k + 1 + j) hj2
          rwa [show ((x.toNat : Nat) : Int) = x by omega] at this) (lmt (iot n) w) 0 tin
        rw [ls, Int.zero_add, ← em]
        simp only [bnd_ok, s_div (show (0 : Int) < 2 by decide) (show (2 : Int) < 1000000000000 by decide), of_some, s_fits3, Option.map_some]
        rw [s_app (by simp; omega)]
        show R.ok _ = R.ok _
        rw [List.map_append]; rfl
      · have th : D.three (trD t) = some (.int t.1, .int t.2.1, .int t.2.2) := rfl
        have ml : ∀ b : Bool, D.mul (.int t.2.2) (.int (if b then 1 else 0)) = some (.int (t.2.2 * (if b then 1 else 0))) := fun b => by
          show (if _ then _ else _) = _
          rw [if_pos (.inl (by omega))]
        simp only [th, of_some, bnd_ok, s_inI, Option.map_some, s_bool]
        have cnd : ∀ p q : Prop, ∀ [Decidable p] [Decidable q], (if decide p = true then R.ok (D.bl (decide q)) else R.ok (D.bl false)) = R.ok (D.bl (decide p && decide q)) := fun p q _ _ => by
          by_cases c : p
          · rw [decide_eq_true c, if_pos rfl]; rfl
          · rw [decide_eq_false c, if_neg (by decide)]; rfl
        simp only [cnd, bnd_ok, s_fits2, of_some, s_inB2, Option.map_some, s_toIntB, ml, s_add]
        have ee : (decide (t.1 ∈ ps.getD k []) && decide (t.2.1 ∈ ps.getD (k + 1 + j) []) || decide (t.2.1 ∈ ps.getD k []) && decide (t.1 ∈ ps.getD (k + 1 + j) [])) = decide ((t.1 ∈ ps.getD k [] ∧ t.2.1 ∈ ps.getD (k + 1 + j) []) ∨ (t.2.1 ∈ ps.getD k [] ∧ t.1 ∈ ps.getD (k + 1 + j) [])) := by
          simp only [Bool.decide_or, Bool.decide_and]
        rw [ee]
        by_cases c : ((t.1 ∈ ps.getD k [] ∧ t.2.1 ∈ ps.getD (k + 1 + j) []) ∨ (t.2.1 ∈ ps.getD k [] ∧ t.1 ∈ ps.getD (k + 1 + j) []))
        · rw [decide_eq_true c, if_pos c]; rfl
        · rw [decide_eq_false c, if_neg c]; rfl
theorem f_trn {n : Nat} {w : List Int} (n1 : 1 ≤ (n : Int)) (n2 : (n : Int) ≤ 6) (wl : w.length ≤ 16) (lw : Lt n w) : f_turns (plD n w) = .ok (.int (w.map fun l => if 0 < l then (1 : Int) else -1).sum) := by
  unfold f_turns
  have i1 : D.ix (plD n w) (.int 1) = some (.tup (w.map .int)) := rfl
  have e2 : ∀ w : List Int, w.map (fun l => D.int (if 0 < l then 1 else -1)) = (w.map fun l => if 0 < l then (1 : Int) else -1).map D.int := fun w => by rw [List.map_map]; rfl
  simp only [bnd_ok, s_ap1, f_look n1 n2 wl lw, i1, of_some, s_seqT]
  rw [lcR_ok (h := fun l => D.int (if 0 < l then 1 else -1)) w (by omega) fun l hl => by simp only [f_sg]]
  simp only [bnd_ok, e2, s_sum, of_some]
theorem nbs_nest : ∀ ps : List (List Int), D.nbs (ps.map fun p => D.lst (p.map .int)) 1 = true
  | [] => rfl
  | p :: ps => by
    have := nbs_nest ps
    have h0 := nb_llst p 0
    simp only [List.map_cons, D.nbs, h0, this]; rfl
theorem ne_nest (ps : List (List Int)) : D.ne (.lst (ps.map fun p => D.lst (p.map .int))) (.lst (ps.map fun p => D.lst (p.map .int))) = some false := by
  classical
  have nb : (D.lst (ps.map fun p => D.lst (p.map .int))).nb 2 = true := by simp [D.nb, nbs_nest]
  unfold D.ne
  rw [eq_nb 2 nb nb (by decide) ⟨_, .inr rfl⟩]
  simp
theorem nbs_tr : ∀ ts : List (Int × Int × Int), D.nbs (ts.map trD) 1 = true
  | [] => rfl
  | t :: ts => by
    have := nbs_tr ts
    simp only [List.map_cons, D.nbs, this]; rfl
theorem ne_tr (ts : List (Int × Int × Int)) : D.ne (.lst (ts.map trD)) (.lst (ts.map trD)) = some false := by
  classical
  have nb : (D.lst (ts.map trD)).nb 2 = true := by simp [D.nb, nbs_tr]
  unfold D.ne
  rw [eq_nb 2 nb nb (by decide) ⟨_, .inr rfl⟩]
  simp
theorem holds (ns : List Int) (hn : ns.length ≤ 63) : f_law (.frl (ns.map D.int)) = .ok (.bl true) := by
  obtain ⟨s, es, hs⟩ := f_state ns 0 (by omega)
  have es : f__law_state (.frl (ns.map D.int)) (.int 0) = .ok s := es
  obtain ⟨⟨q, s1⟩, ep, n0, w, e1, n1, n2, wl, lw, h1⟩ := is_plait hs (m := 6) (c := 12) (by decide) (by decide) (by decide) (by decide)
  dsimp only at e1 h1
  subst e1
  obtain ⟨n, rfl⟩ : ∃ n : Nat, n0 = n := ⟨n0.toNat, by omega⟩
  unfold f_law
  simp only [bnd_ok, s_ap2, es, apI2, ep, bnd2_ok]
  have wl2 : w.length ≤ 16 := by omega
  obtain ⟨ps, h, p1, p2, hl, k1, k2, kp, hs', p3⟩ := pcs_of n1 n2 lw
  have ep := (f_pcs n1 n2 wl2 lw).trans p1
  have ew := f_wnd n1 n2 wl2 lw p1 p2 hl k2
  have el := (f_lpieces (show n ≤ 6 by omega) lw wl2).trans p3
  have elw := f_lwind (show n ≤ 6 by omega) lw wl2 hl k2 hs' p3
  have i1 : D.ix (plD n w) (.int 1) = some (.tup (w.map .int)) := rfl
  have e2 : ∀ w : List Int, w.map (fun l => D.int (if 0 < l then 1 else -1)) = (w.map fun l => if 0 < l then (1 : Int) else -1).map D.int := fun w => by rw [List.map_map]; rfl
  have r2 : rg1 (.int 2) = some ((List.range 2).map fun k => D.int (k : Nat)) := rfl
  have dnl : dN (ps.map fun p => p.map D.int) = .lst (ps.map fun p => D.lst (p.map D.int)) := by unfold dN; rw [List.map_map]; rfl
  have nei : ∀ i : Int, D.ne (.int i) (.int i) = some false := fun i => by simp [D.ne, D.eq]
  simp only [bnd_ok, s_ap1, f_trn n1 n2 wl2 lw, f_whole, of_some, s_bool, Bool.not_true, Bool.false_eq_true, if_false, i1, s_seqT]
  rw [lcR_ok (h := fun l => D.int (if 0 < l then 1 else -1)) w (by omega) fun l hl => by simp only [f_lsign]]
  simp only [bnd_ok, e2, s_sum, of_some, nei, Bool.false_eq_true, if_false, r2, ep, ew, dnl, s_isTL, s_bool, Bool.not_true, el, ne_nest, elw, ne_tr]
  rw [loopU_ok]
  · rfl
  · intro k _
    rw [loopU_ok (g := trD)]
    · obtain ⟨p, ps', rfl⟩ : ∃ p ps', ps = p :: ps' := by
        cases ps with
        | nil => simp at k1
        | cons p ps' => exact ⟨p, ps', rfl⟩
      have ix : idxN ((p :: ps').map fun p => p.map D.int) (.int 0) = some 0 := by
        show ixN _ _ = _
        unfold ixN
        rw [if_pos (by decide), if_pos (by simp)]; rfl
      have g0 : ((p :: ps').map fun p => p.map D.int)[0]? = some (p.map D.int) := rfl
      have ap0 : ∀ (xs : List D) (d : D), xs.length < 16000000 → appD xs d = some (xs ++ [d]) := fun xs d h => s_app h
      have kp0 := kp p (by simp)
      have tl : (wn (p :: ps').length (mts h w)).length ≤ 15 := wn_len _ (by omega) _
      have ft : ∀ xs : List (List D), xs.length ≤ 16000000 → fits xs = some xs := fun xs h => if_pos h
      simp only [s_thoN, ix, of_some, bnd_ok, g0, Option.bind_some, ap0 (p.map D.int) (.int 0) (by simp; omega), Option.map_some, s_fits0]
      rw [ft _ (by simp at k2 ⊢; omega)]
      simp only [of_some, bnd_ok]
      have f0 : (fits ([] : List D)).map D.tup = some (.tup []) := rfl
      rw [ap0 _ _ (by simp at tl ⊢; omega), of_some, bnd_ok]
    · intro t ht
      have it : D.isT "tuple" (trD t) = some (.bl true) := rfl
      have sq : D.seq (trD t) = some ([t.1, t.2.1, t.2.2].map D.int) := rfl
      simp only [it, of_some, bnd_ok, s_bool, Bool.not_true, Bool.false_eq_true, if_false, sq]
      rw [lcR_ok (h := fun _ => D.bl true) [t.1, t.2.1, t.2.2] (by simp) fun x _ => by simp only [f_whole]]
      rfl
theorem all_mk {P : Program} {w : World} {K : PySem.W.Frag} {h : Heap} {mg : Str → Option Value} {fa : Addr} (X : K.In h) (G : h.Ns mainGlobals mg) (hfa : mg "law" = some (.ref fa))
    (hl : ∀ (ns : List Int), ns.length ≤ 63 → f_law (.frl (ns.map D.int)) = .ok (.bl true))
    {f0 f1 f2 f3 f4 f5 f6 f7 f8 f9 f10 f11 f12 f13 f14 f15 f16 f17 f18 f19 f20 C0 : Addr} {od0 an0 od1 an1 od2 an2 od3 an3 od4 an4 od5 an5 od6 an6 od7 an7 od8 an8 od9 an9 od10 an10 od11 an11 od12 an12 od13 an13 od14 an14 od15 an15 od16 an16 od17 an17 od18 an18 od19 an19 od20 an20 : Option Addr} {sl0 sl1 sl2 sl3 sl4 sl5 sl6 sl7 sl8 sl9 sl10 sl11 sl12 sl13 sl14 sl15 sl16 sl17 sl18 sl19 sl20 : Array (Option Value)}
    {oc0 kV0 dc0 pm0 cd0 ct0 oc1 kV1 dc1 pm1 cd1 ct1 oc2 kV2 dc2 pm2 cd2 ct2 oc3 kV3 dc3 pm3 cd3 ct3 oc4 kV4 dc4 pm4 cd4 ct4 oc5 kV5 dc5 pm5 cd5 ct5 oc6 kV6 dc6 pm6 cd6 ct6 oc7 kV7 dc7 pm7 cd7 ct7 oc8 kV8 dc8 pm8 cd8 ct8 oc9 kV9 dc9 pm9 cd9 ct9 oc10 kV10 dc10 pm10 cd10 ct10 oc11 kV11 dc11 pm11 cd11 ct11 oc12 kV12 dc12 pm12 cd12 ct12 oc13 kV13 dc13 pm13 cd13 ct13 oc14 kV14 dc14 pm14 cd14 ct14 oc15 kV15 dc15 pm15 cd15 ct15 oc16 kV16 dc16 pm16 cd16 ct16 oc17 kV17 dc17 pm17 cd17 ct17 oc18 kV18 dc18 pm18 cd18 ct18 oc19 kV19 dc19 pm19 cd19 ct19 oc20 kV20 dc20 pm20 cd20 ct20 : Value}
    (a0 : PySem.W.nsIn K mainGlobals "is_letter" = some (some (.ref f0))) (l0 : K.lookup f0 = some ⟨oc0, od0, .func (PySem.W.fnOf "is_letter" "is_letter" (defArgs s_is_letter) (defBody s_is_letter) (defScope s_is_letter) .none kV0 dc0 pm0 an0 cd0 ct0), sl0⟩) (c0 : PySem.W.codeIn K cd0 "is_letter" = true) (k0 : PySem.W.keepIn K (.ref f0) = true)
    (a1 : PySem.W.nsIn K mainGlobals "looked" = some (some (.ref f1))) (l1 : K.lookup f1 = some ⟨oc1, od1, .func (PySem.W.fnOf "looked" "looked" (defArgs s_looked) (defBody s_looked) (defScope s_looked) .none kV1 dc1 pm1 an1 cd1 ct1), sl1⟩) (c1 : PySem.W.codeIn K cd1 "looked" = true) (k1 : PySem.W.keepIn K (.ref f1) = true)
    (a2 : PySem.W.nsIn K mainGlobals "exchanged" = some (some (.ref f2))) (l2 : K.lookup f2 = some ⟨oc2, od2, .func (PySem.W.fnOf "exchanged" "exchanged" (defArgs s_exchanged) (defBody s_exchanged) (defScope s_exchanged) .none kV2 dc2 pm2 an2 cd2 ct2), sl2⟩) (c2 : PySem.W.codeIn K cd2 "exchanged" = true) (k2 : PySem.W.keepIn K (.ref f2) = true)
    (a3 : PySem.W.nsIn K mainGlobals "order_by" = some (some (.ref f3))) (l3 : K.lookup f3 = some ⟨oc3, od3, .func (PySem.W.fnOf "order_by" "order_by" (defArgs s_order_by) (defBody s_order_by) (defScope s_order_by) .none kV3 dc3 pm3 an3 cd3 ct3), sl3⟩) (c3 : PySem.W.codeIn K cd3 "order_by" = true) (k3 : PySem.W.keepIn K (.ref f3) = true)
    (a4 : PySem.W.nsIn K mainGlobals "order_of" = some (some (.ref f4))) (l4 : K.lookup f4 = some ⟨oc4, od4, .func (PySem.W.fnOf "order_of" "order_of" (defArgs s_order_of) (defBody s_order_of) (defScope s_order_of) .none kV4 dc4 pm4 an4 cd4 ct4), sl4⟩) (c4 : PySem.W.codeIn K cd4 "order_of" = true) (k4 : PySem.W.keepIn K (.ref f4) = true)
    (a5 : PySem.W.nsIn K mainGlobals "sign_of" = some (some (.ref f5))) (l5 : K.lookup f5 = some ⟨oc5, od5, .func (PySem.W.fnOf "sign_of" "sign_of" (defArgs s_sign_of) (defBody s_sign_of) (defScope s_sign_of) .none kV5 dc5 pm5 an5 cd5 ct5), sl5⟩) (c5 : PySem.W.codeIn K cd5 "sign_of" = true) (k5 : PySem.W.keepIn K (.ref f5) = true)
    (a6 : PySem.W.nsIn K mainGlobals "pieces" = some (some (.ref f6))) (l6 : K.lookup f6 = some ⟨oc6, od6, .func (PySem.W.fnOf "pieces" "pieces" (defArgs s_pieces) (defBody s_pieces) (defScope s_pieces) .none kV6 dc6 pm6 an6 cd6 ct6), sl6⟩) (c6 : PySem.W.codeIn K cd6 "pieces" = true) (k6 : PySem.W.keepIn K (.ref f6) = true)
    (a7 : PySem.W.nsIn K mainGlobals "turns" = some (some (.ref f7))) (l7 : K.lookup f7 = some ⟨oc7, od7, .func (PySem.W.fnOf "turns" "turns" (defArgs s_turns) (defBody s_turns) (defScope s_turns) .none kV7 dc7 pm7 an7 cd7 ct7), sl7⟩) (c7 : PySem.W.codeIn K cd7 "turns" = true) (k7 : PySem.W.keepIn K (.ref f7) = true)
    (a8 : PySem.W.nsIn K mainGlobals "piece_numbers" = some (some (.ref f8))) (l8 : K.lookup f8 = some ⟨oc8, od8, .func (PySem.W.fnOf "piece_numbers" "piece_numbers" (defArgs s_piece_numbers) (defBody s_piece_numbers) (defScope s_piece_numbers) .none kV8 dc8 pm8 an8 cd8 ct8), sl8⟩) (c8 : PySem.W.codeIn K cd8 "piece_numbers" = true) (k8 : PySem.W.keepIn K (.ref f8) = true)
    (a9 : PySem.W.nsIn K mainGlobals "meetings" = some (some (.ref f9))) (l9 : K.lookup f9 = some ⟨oc9, od9, .func (PySem.W.fnOf "meetings" "meetings" (defArgs s_meetings) (defBody s_meetings) (defScope s_meetings) .none kV9 dc9 pm9 an9 cd9 ct9), sl9⟩) (c9 : PySem.W.codeIn K cd9 "meetings" = true) (k9 : PySem.W.keepIn K (.ref f9) = true)
    (a10 : PySem.W.nsIn K mainGlobals "windings" = some (some (.ref f10))) (l10 : K.lookup f10 = some ⟨oc10, od10, .func (PySem.W.fnOf "windings" "windings" (defArgs s_windings) (defBody s_windings) (defScope s_windings) .none kV10 dc10 pm10 an10 cd10 ct10), sl10⟩) (c10 : PySem.W.codeIn K cd10 "windings" = true) (k10 : PySem.W.keepIn K (.ref f10) = true)
    (a11 : PySem.W.nsIn K mainGlobals "_law_state" = some (some (.ref f11))) (l11 : K.lookup f11 = some ⟨oc11, od11, .func (PySem.W.fnOf "_law_state" "_law_state" (defArgs s__law_state) (defBody s__law_state) (defScope s__law_state) .none kV11 dc11 pm11 an11 cd11 ct11), sl11⟩) (c11 : PySem.W.codeIn K cd11 "_law_state" = true) (k11 : PySem.W.keepIn K (.ref f11) = true)
    (a12 : PySem.W.nsIn K mainGlobals "_law_take" = some (some (.ref f12))) (l12 : K.lookup f12 = some ⟨oc12, od12, .func (PySem.W.fnOf "_law_take" "_law_take" (defArgs s__law_take) (defBody s__law_take) (defScope s__law_take) .none kV12 dc12 pm12 an12 cd12 ct12), sl12⟩) (c12 : PySem.W.codeIn K cd12 "_law_take" = true) (k12 : PySem.W.keepIn K (.ref f12) = true)
    (a13 : PySem.W.nsIn K mainGlobals "_law_letter" = some (some (.ref f13))) (l13 : K.lookup f13 = some ⟨oc13, od13, .func (PySem.W.fnOf "_law_letter" "_law_letter" (defArgs s__law_letter) (defBody s__law_letter) (defScope s__law_letter) .none kV13 dc13 pm13 an13 cd13 ct13), sl13⟩) (c13 : PySem.W.codeIn K cd13 "_law_letter" = true) (k13 : PySem.W.keepIn K (.ref f13) = true)
    (a14 : PySem.W.nsIn K mainGlobals "_law_plait" = some (some (.ref f14))) (l14 : K.lookup f14 = some ⟨oc14, od14, .func (PySem.W.fnOf "_law_plait" "_law_plait" (defArgs s__law_plait) (defBody s__law_plait) (defScope s__law_plait) .none kV14 dc14 pm14 an14 cd14 ct14), sl14⟩) (c14 : PySem.W.codeIn K cd14 "_law_plait" = true) (k14 : PySem.W.keepIn K (.ref f14) = true)
    (a15 : PySem.W.nsIn K mainGlobals "_law_whole" = some (some (.ref f15))) (l15 : K.lookup f15 = some ⟨oc15, od15, .func (PySem.W.fnOf "_law_whole" "_law_whole" (defArgs s__law_whole) (defBody s__law_whole) (defScope s__law_whole) .none kV15 dc15 pm15 an15 cd15 ct15), sl15⟩) (c15 : PySem.W.codeIn K cd15 "_law_whole" = true) (k15 : PySem.W.keepIn K (.ref f15) = true)
    (a16 : PySem.W.nsIn K mainGlobals "_law_sign" = some (some (.ref f16))) (l16 : K.lookup f16 = some ⟨oc16, od16, .func (PySem.W.fnOf "_law_sign" "_law_sign" (defArgs s__law_sign) (defBody s__law_sign) (defScope s__law_sign) .none kV16 dc16 pm16 an16 cd16 ct16), sl16⟩) (c16 : PySem.W.codeIn K cd16 "_law_sign" = true) (k16 : PySem.W.keepIn K (.ref f16) = true)
    (a17 : PySem.W.nsIn K mainGlobals "_law_strands" = some (some (.ref f17))) (l17 : K.lookup f17 = some ⟨oc17, od17, .func (PySem.W.fnOf "_law_strands" "_law_strands" (defArgs s__law_strands) (defBody s__law_strands) (defScope s__law_strands) .none kV17 dc17 pm17 an17 cd17 ct17), sl17⟩) (c17 : PySem.W.codeIn K cd17 "_law_strands" = true) (k17 : PySem.W.keepIn K (.ref f17) = true)
    (a18 : PySem.W.nsIn K mainGlobals "_law_pieces" = some (some (.ref f18))) (l18 : K.lookup f18 = some ⟨oc18, od18, .func (PySem.W.fnOf "_law_pieces" "_law_pieces" (defArgs s__law_pieces) (defBody s__law_pieces) (defScope s__law_pieces) .none kV18 dc18 pm18 an18 cd18 ct18), sl18⟩) (c18 : PySem.W.codeIn K cd18 "_law_pieces" = true) (k18 : PySem.W.keepIn K (.ref f18) = true)
    (a19 : PySem.W.nsIn K mainGlobals "_law_windings" = some (some (.ref f19))) (l19 : K.lookup f19 = some ⟨oc19, od19, .func (PySem.W.fnOf "_law_windings" "_law_windings" (defArgs s__law_windings) (defBody s__law_windings) (defScope s__law_windings) .none kV19 dc19 pm19 an19 cd19 ct19), sl19⟩) (c19 : PySem.W.codeIn K cd19 "_law_windings" = true) (k19 : PySem.W.keepIn K (.ref f19) = true)
    (a20 : PySem.W.nsIn K mainGlobals "law" = some (some (.ref f20))) (l20 : K.lookup f20 = some ⟨oc20, od20, .func (PySem.W.fnOf "law" "law" (defArgs s_law) (defBody s_law) (defScope s_law) .none kV20 dc20 pm20 an20 cd20 ct20), sl20⟩) (c20 : PySem.W.codeIn K cd20 "law" = true) (k20 : PySem.W.keepIn K (.ref f20) = true)
    (z0 : PySem.W.nsIn K mainGlobals "abs" = some none)
    (z1 : PySem.W.nsIn K mainGlobals "len" = some none)
    (z2 : PySem.W.nsIn K mainGlobals "range" = some none)
    (z3 : PySem.W.nsIn K mainGlobals "list" = some none)
    (z4 : PySem.W.nsIn K mainGlobals "tuple" = some none)
    (z5 : PySem.W.nsIn K mainGlobals "min" = some none)
    (z6 : PySem.W.nsIn K mainGlobals "sorted" = some none)
    (z7 : PySem.W.nsIn K mainGlobals "sum" = some none)
    (z8 : PySem.W.nsIn K mainGlobals "enumerate" = some none)
    (z9 : PySem.W.nsIn K mainGlobals "max" = some none)
    (z10 : PySem.W.nsIn K mainGlobals "int" = some none)
    (z11 : PySem.W.nsIn K mainGlobals "isinstance" = some none)
    (z12 : PySem.W.nsIn K mainGlobals "bool" = some none)
    (z13 : PySem.W.nsIn K mainGlobals "all" = some none)
    {t0 : Nat} (y0 : PySem.W.nsIn K mainGlobals "MOST_STRANDS" = some (some (.int (6) t0)))
    {t1 : Nat} (y1 : PySem.W.nsIn K mainGlobals "MOST_LETTERS" = some (some (.int (16) t1)))
    (g0 : PySem.W.nsIn K mainGlobals "NoPlait" = some (some (.ref C0))) (x0 : PySem.W.excIn K C0 [.type "ValueError", .type "Exception", .type "BaseException", .type "object"] "ValueError.__new__" = true) (p0 : PySem.W.keepIn K (.ref C0) = true) (b0 : PySem.W.subIn K (.ref C0) (.type "BaseException") = some true) (m0 : PySem.W.typeIn K (.ref C0) = some (.type "type"))
    : ∃ fd : FuncData, (∀ (s : Shared) (v : Value), BindsTo s fd ⟨[v], []⟩ [("script", v)]) ∧ ∀ base : Heap, K.In base → base.Ns mainGlobals mg → FnOk P w K mg base (L2.CX P w) 8 fa fd ["script"] (spScript K) := by
  have e := hfa.symm.trans (PySem.W.mg_of X G a20)
  cases e
  have F0 := fun_mk (st := s_is_letter) l0 c0 k0
  have F1 := fun_mk (st := s_looked) l1 c1 k1
  have F2 := fun_mk (st := s_exchanged) l2 c2 k2
  have F3 := fun_mk (st := s_order_by) l3 c3 k3
  have F4 := fun_mk (st := s_order_of) l4 c4 k4
  have F5 := fun_mk (st := s_sign_of) l5 c5 k5
  have F6 := fun_mk (st := s_pieces) l6 c6 k6
  have F7 := fun_mk (st := s_turns) l7 c7 k7
  have F8 := fun_mk (st := s_piece_numbers) l8 c8 k8
  have F9 := fun_mk (st := s_meetings) l9 c9 k9
  have F10 := fun_mk (st := s_windings) l10 c10 k10
  have F11 := fun_mk (st := s__law_state) l11 c11 k11
  have F12 := fun_mk (st := s__law_take) l12 c12 k12
  have F13 := fun_mk (st := s__law_letter) l13 c13 k13
  have F14 := fun_mk (st := s__law_plait) l14 c14 k14
  have F15 := fun_mk (st := s__law_whole) l15 c15 k15
  have F16 := fun_mk (st := s__law_sign) l16 c16 k16
  have F17 := fun_mk (st := s__law_strands) l17 c17 k17
  have F18 := fun_mk (st := s__law_pieces) l18 c18 k18
  have F19 := fun_mk (st := s__law_windings) l19 c19 k19
  have F20 := fun_mk (st := s_law) l20 c20 k20
  have B0 := F0.binds (ps := ["letter", "strands"]) fun _ _ _ _ _ _ us hl => match us, hl with | [_, _], _ => rfl
  have B1 := F1.binds (ps := ["plait"]) fun _ _ _ _ _ _ us hl => match us, hl with | [_], _ => rfl
  have B2 := F2.binds (ps := ["places", "at"]) fun _ _ _ _ _ _ us hl => match us, hl with | [_, _], _ => rfl
  have B3 := F3.binds (ps := ["strands", "word"]) fun _ _ _ _ _ _ us hl => match us, hl with | [_, _], _ => rfl
  have B4 := F4.binds (ps := ["plait"]) fun _ _ _ _ _ _ us hl => match us, hl with | [_], _ => rfl
  have B5 := F5.binds (ps := ["letter"]) fun _ _ _ _ _ _ us hl => match us, hl with | [_], _ => rfl
  have B6 := F6.binds (ps := ["plait"]) fun _ _ _ _ _ _ us hl => match us, hl with | [_], _ => rfl
  have B7 := F7.binds (ps := ["plait"]) fun _ _ _ _ _ _ us hl => match us, hl with | [_], _ => rfl
  have B8 := F8.binds (ps := ["plait"]) fun _ _ _ _ _ _ us hl => match us, hl with | [_], _ => rfl
  have B9 := F9.binds (ps := ["plait"]) fun _ _ _ _ _ _ us hl => match us, hl with | [_], _ => rfl
  have B10 := F10.binds (ps := ["plait"]) fun _ _ _ _ _ _ us hl => match us, hl with | [_], _ => rfl
  have B11 := F11.binds (ps := ["script", "k"]) fun _ _ _ _ _ _ us hl => match us, hl with | [_, _], _ => rfl
  have B12 := F12.binds (ps := ["state", "many"]) fun _ _ _ _ _ _ us hl => match us, hl with | [_, _], _ => rfl
  have B13 := F13.binds (ps := ["state", "strands"]) fun _ _ _ _ _ _ us hl => match us, hl with | [_, _], _ => rfl
  have B14 := F14.binds (ps := ["state", "most", "longest"]) fun _ _ _ _ _ _ us hl => match us, hl with | [_, _, _], _ => rfl
  have B15 := F15.binds (ps := ["found"]) fun _ _ _ _ _ _ us hl => match us, hl with | [_], _ => rfl
  have B16 := F16.binds (ps := ["letter"]) fun _ _ _ _ _ _ us hl => match us, hl with | [_], _ => rfl
  have B17 := F17.binds (ps := ["plait"]) fun _ _ _ _ _ _ us hl => match us, hl with | [_], _ => rfl
  have B18 := F18.binds (ps := ["plait"]) fun _ _ _ _ _ _ us hl => match us, hl with | [_], _ => rfl
  have B19 := F19.binds (ps := ["plait"]) fun _ _ _ _ _ _ us hl => match us, hl with | [_], _ => rfl
  have B20 := F20.binds (ps := ["script"]) fun _ _ _ _ _ _ us hl => match us, hl with | [_], _ => rfl
  have T : Txt K mg ⟨f0, _, f1, _, f2, _, f3, _, f4, _, f5, _, f6, _, f7, _, f8, _, f9, _, f10, _, f11, _, f12, _, f13, _, f14, _, f15, _, f16, _, f17, _, f18, _, f19, _, fa, _, fun n => [C0].getD n 0⟩ := {
    F_is_letter := F0, m_is_letter := PySem.W.mg_of X G a0, b_is_letter := B0,
    F_looked := F1, m_looked := PySem.W.mg_of X G a1, b_looked := B1,
    F_exchanged := F2, m_exchanged := PySem.W.mg_of X G a2, b_exchanged := B2,
    F_order_by := F3, m_order_by := PySem.W.mg_of X G a3, b_order_by := B3,
    F_order_of := F4, m_order_of := PySem.W.mg_of X G a4, b_order_of := B4,
    F_sign_of := F5, m_sign_of := PySem.W.mg_of X G a5, b_sign_of := B5,
    F_pieces := F6, m_pieces := PySem.W.mg_of X G a6, b_pieces := B6,
    F_turns := F7, m_turns := PySem.W.mg_of X G a7, b_turns := B7,
    F_piece_numbers := F8, m_piece_numbers := PySem.W.mg_of X G a8, b_piece_numbers := B8,
    F_meetings := F9, m_meetings := PySem.W.mg_of X G a9, b_meetings := B9,
    F_windings := F10, m_windings := PySem.W.mg_of X G a10, b_windings := B10,
    F__law_state := F11, m__law_state := PySem.W.mg_of X G a11, b__law_state := B11,
    F__law_take := F12, m__law_take := PySem.W.mg_of X G a12, b__law_take := B12,
    F__law_letter := F13, m__law_letter := PySem.W.mg_of X G a13, b__law_letter := B13,
    F__law_plait := F14, m__law_plait := PySem.W.mg_of X G a14, b__law_plait := B14,
    F__law_whole := F15, m__law_whole := PySem.W.mg_of X G a15, b__law_whole := B15,
    F__law_sign := F16, m__law_sign := PySem.W.mg_of X G a16, b__law_sign := B16,
    F__law_strands := F17, m__law_strands := PySem.W.mg_of X G a17, b__law_strands := B17,
    F__law_pieces := F18, m__law_pieces := PySem.W.mg_of X G a18, b__law_pieces := B18,
    F__law_windings := F19, m__law_windings := PySem.W.mg_of X G a19, b__law_windings := B19,
    F_law := F20, m_law := PySem.W.mg_of X G a20, b_law := B20,
    n_abs := PySem.W.mg_none_of X G z0,
    n_len := PySem.W.mg_none_of X G z1,
    n_range := PySem.W.mg_none_of X G z2,
    n_list := PySem.W.mg_none_of X G z3,
    n_tuple := PySem.W.mg_none_of X G z4,
    n_min := PySem.W.mg_none_of X G z5,
    n_sorted := PySem.W.mg_none_of X G z6,
    n_sum := PySem.W.mg_none_of X G z7,
    n_enumerate := PySem.W.mg_none_of X G z8,
    n_max := PySem.W.mg_none_of X G z9,
    n_int := PySem.W.mg_none_of X G z10,
    n_isinstance := PySem.W.mg_none_of X G z11,
    n_bool := PySem.W.mg_none_of X G z12,
    n_all := PySem.W.mg_none_of X G z13,
    c_MOST_STRANDS := ⟨_, PySem.W.mg_of X G y0, ⟨_, rfl⟩⟩,
    c_MOST_LETTERS := ⟨_, PySem.W.mg_of X G y1, ⟨_, rfl⟩⟩,
    e_NoPlait := ⟨PySem.W.mg_of X G g0, x0, p0, b0, m0⟩ }
  exact ⟨_, fun s v => .of_eq rfl, fun base _ _ => FnOk.imp (ok_law T) (script_imp hl)⟩
end Lw
open PySem PySem.W PyProof.Rows
set_option maxHeartbeats 0 in
theorem PySem.Challenge.cw_loopwright_k49_pieces_and_windings_holds : PySem.Challenge.rw_loopwright_k49_pieces_and_windings.Holds := by
  w_on; o_law; k_head; (case hw => w_witness2)
  k_fill
  refine L2.walk_of (l := PySem.Challenge.rw_loopwright_k49_pieces_and_windings) (n := 63) (k := 8) (x := "script") (CX := fun w => L2.CX PySem.Challenge.rw_loopwright_k49_pieces_and_windings.prog w) (sp := fun w => Wk.spScript _) rfl (by decide) rfl ⟨rfl, by decide, by decide⟩ (fun w h Y => PySem.W.kIn_of Y) ?F (fun _ _ a ns hl _ hS => ⟨a, ns, rfl, hS, hl, fun _ => rfl⟩) (fun _ _ _ _ _ h => by obtain ⟨_, _, _, _, _, _, _, _, _, _, _, _, z⟩ := h; exact z)
  case F =>
    intro w mg fa h KX G hmg
    refine' Lw.all_mk KX G hmg Lw.holds ?w_a0 ?w_l0 ?w_c0 ?w_k0 ?w_a1 ?w_l1 ?w_c1 ?w_k1 ?w_a2 ?w_l2 ?w_c2 ?w_k2 ?w_a3 ?w_l3 ?w_c3 ?w_k3 ?w_a4 ?w_l4 ?w_c4 ?w_k4 ?w_a5 ?w_l5 ?w_c5 ?w_k5 ?w_a6 ?w_l6 ?w_c6 ?w_k6 ?w_a7 ?w_l7 ?w_c7 ?w_k7 ?w_a8 ?w_l8 ?w_c8 ?w_k8 ?w_a9 ?w_l9 ?w_c9 ?w_k9 ?w_a10 ?w_l10 ?w_c10 ?w_k10 ?w_a11 ?w_l11 ?w_c11 ?w_k11 ?w_a12 ?w_l12 ?w_c12 ?w_k12 ?w_a13 ?w_l13 ?w_c13 ?w_k13 ?w_a14 ?w_l14 ?w_c14 ?w_k14 ?w_a15 ?w_l15 ?w_c15 ?w_k15 ?w_a16 ?w_l16 ?w_c16 ?w_k16 ?w_a17 ?w_l17 ?w_c17 ?w_k17 ?w_a18 ?w_l18 ?w_c18 ?w_k18 ?w_a19 ?w_l19 ?w_c19 ?w_k19 ?w_a20 ?w_l20 ?w_c20 ?w_k20 ?w_z0 ?w_z1 ?w_z2 ?w_z3 ?w_z4 ?w_z5 ?w_z6 ?w_z7 ?w_z8 ?w_z9 ?w_z10 ?w_z11 ?w_z12 ?w_z13 ?w_y0 ?w_y1 ?w_g0 ?w_x0 ?w_p0 ?w_b0 ?w_m0
    (case w_a0 => k_is)
    (case w_l0 => k_is)
    (case w_c0 => k_is)
    (case w_k0 => k_is)
    (case w_a1 => k_is)
    (case w_l1 => k_is)
    (case w_c1 => k_is)
    (case w_k1 => k_is)
    (case w_a2 => k_is)
    (case w_l2 => k_is)
    (case w_c2 => k_is)
    (case w_k2 => k_is)
    (case w_a3 => k_is)
    (case w_l3 => k_is)
    (case w_c3 => k_is)
    (case w_k3 => k_is)
    (case w_a4 => k_is)
    (case w_l4 => k_is)
    (case w_c4 => k_is)
    (case w_k4 => k_is)
    (case w_a5 => k_is)
    (case w_l5 => k_is)
    (case w_c5 => k_is)
    (case w_k5 => k_is)
    (case w_a6 => k_is)
    (case w_l6 => k_is)
    (case w_c6 => k_is)
    (case w_k6 => k_is)
    (case w_a7 => k_is)
    (case w_l7 => k_is)
    (case w_c7 => k_is)
    (case w_k7 => k_is)
    (case w_a8 => k_is)
    (case w_l8 => k_is)
    (case w_c8 => k_is)
    (case w_k8 => k_is)
    (case w_a9 => k_is)
    (case w_l9 => k_is)
    (case w_c9 => k_is)
    (case w_k9 => k_is)
    (case w_a10 => k_is)
    (case w_l10 => k_is)
    (case w_c10 => k_is)
    (case w_k10 => k_is)
    (case w_a11 => k_is)
    (case w_l11 => k_is)
    (case w_c11 => k_is)
    (case w_k11 => k_is)
    (case w_a12 => k_is)
    (case w_l12 => k_is)
    (case w_c12 => k_is)
    (case w_k12 => k_is)
    (case w_a13 => k_is)
    (case w_l13 => k_is)
    (case w_c13 => k_is)
    (case w_k13 => k_is)
    (case w_a14 => k_is)
    (case w_l14 => k_is)
    (case w_c14 => k_is)
    (case w_k14 => k_is)
    (case w_a15 => k_is)
    (case w_l15 => k_is)
    (case w_c15 => k_is)
    (case w_k15 => k_is)
    (case w_a16 => k_is)
    (case w_l16 => k_is)
    (case w_c16 => k_is)
    (case w_k16 => k_is)
    (case w_a17 => k_is)
    (case w_l17 => k_is)
    (case w_c17 => k_is)
    (case w_k17 => k_is)
    (case w_a18 => k_is)
    (case w_l18 => k_is)
    (case w_c18 => k_is)
    (case w_k18 => k_is)
    (case w_a19 => k_is)
    (case w_l19 => k_is)
    (case w_c19 => k_is)
    (case w_k19 => k_is)
    (case w_a20 => k_is)
    (case w_l20 => k_is)
    (case w_c20 => k_is)
    (case w_k20 => k_is)
    (case w_z0 => k_is)
    (case w_z1 => k_is)
    (case w_z2 => k_is)
    (case w_z3 => k_is)
    (case w_z4 => k_is)
    (case w_z5 => k_is)
    (case w_z6 => k_is)
    (case w_z7 => k_is)
    (case w_z8 => k_is)
    (case w_z9 => k_is)
    (case w_z10 => k_is)
    (case w_z11 => k_is)
    (case w_z12 => k_is)
    (case w_z13 => k_is)
    (case w_y0 => k_is)
    (case w_y1 => k_is)
    (case w_g0 => k_is)
    (case w_x0 => k_exc)
    (case w_p0 => k_is)
    (case w_b0 => k_is)
    (case w_m0 => k_is)
