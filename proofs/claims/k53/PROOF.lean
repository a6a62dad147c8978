import PyProof.Rows.All
import HandS.ForMost
import HandS.ForExc
import HandS.TryMany
import HandS.Flow
import HandS.IsInst
import HandS.DictComp
import HandS.Walk
import HandS.Zip
import HandS.Rev
import HandS.RevRange
import HandS.Deep
import HandS.TupAny
import HandS.TupLen
import HandS.SortInts
import HandS.SortRule
import HandS.Conv
import HandS.Style
import HandS.Small
import HandS.ExcIs
import HandS.HeadEnd
import KE.GoesEnum
import KE.KIndexOf
import PySem.Challenge.RW_piecesturned_k53_moves_checked_and_views
set_option Elab.async false
set_option linter.all false
set_option maxRecDepth 100000
set_option maxHeartbeats 4000000
/-! The data layer, part 1: data, how data lies in the abstract heap, environments. -/
namespace DL
open PySem PySem.Spec PyProof.Rows L2

/-- what an expression comes to: a datum, an error of the class c, or nothing that is known -/
inductive R (α : Type) where
  | ok (a : α) | ex (c : Nat) | stuck
def R.bind {α β : Type} : R α → (α → R β) → R β
  | .ok a, f => f a
  | .ex c, _ => .ex c
  | .stuck, _ => .stuck
instance : Monad R where
  pure := .ok
  bind := R.bind
/-- an equation that simp may not take for a definitional one -/
theorem nrfl {α : Sort _} {a b : α} (h : a = b) : a = b := h.trans (Eq.refl b)
@[simp] theorem R.pure_eq {α : Type} (a : α) : (pure a : R α) = .ok a := nrfl rfl
@[simp] theorem R.ok_bind {α β : Type} (a : α) (f : α → R β) : (R.ok a >>= f) = f a := nrfl rfl
@[simp] theorem R.ex_bind {α β : Type} (c : Nat) (f : α → R β) : (R.ex c >>= f) = R.ex c := nrfl rfl
@[simp] theorem R.stuck_bind {α β : Type} (f : α → R β) : ((R.stuck : R α) >>= f) = R.stuck := nrfl rfl
@[simp] theorem R.bind_ok {α β : Type} (a : α) (f : α → R β) : R.bind (.ok a) f = f a := nrfl rfl
@[simp] theorem R.bind_ex {α β : Type} (c : Nat) (f : α → R β) : R.bind (.ex c : R α) f = .ex c := nrfl rfl
@[simp] theorem R.bind_stuck {α β : Type} (f : α → R β) : R.bind (.stuck : R α) f = .stuck := nrfl rfl

/-- data -/
inductive D where
  | non | bl (b : Bool) | int (i : Int) | str (s : Str)
  | tup (l : List D) | lst (l : List D)
  /-- a tuple of which it is known that it has no dict: its methods may be called -/
  | tux (l : List D)
  | dK (l : List (Key × D)) | dT (l : List (List Key × D))
  | scr (l : List Int)

mutual
/-- the value v is the datum d in the (frozen) heap Z -/
inductive Rp (K : PySem.W.Frag) (Z : Hp) : V → D → Prop
  | non : Rp K Z .non .non
  | bl (b : Bool) : Rp K Z (.bl b) (.bl b)
  | int (i : Int) : Rp K Z (.int i) (.int i)
  | str (s : Str) : Rp K Z (.str s) (.str s)
  | tup {a : Addr} {vs : List V} {ds : List D} : Z a = some (.tup vs) → vs.length ≤ sizeLine → RpL K Z vs ds → Rp K Z (.ref a) (.tup ds)
  | tux {a : Addr} {o : Obj} {vs : List V} {ds : List D} : Z a = some (.frz o (.tup vs)) → o.dict = none → vs.length ≤ sizeLine → RpL K Z vs ds → Rp K Z (.ref a) (.tux ds)
  | lst {a : Addr} {vs : List V} {ds : List D} : Z a = some (.lst vs) → vs.length ≤ sizeLine → RpL K Z vs ds → Rp K Z (.ref a) (.lst ds)
  | dK {a : Addr} {kvs : List (Key × V)} {l : List (Key × D)} : Rd Z a (.dK kvs) → kvs.length ≤ sizeLine → RpK K Z kvs l → Rp K Z (.ref a) (.dK l)
  | dT {a : Addr} {kvs : List (List Key × V)} {l : List (List Key × D)} : Rd Z a (.dT kvs) → kvs.length ≤ sizeLine → RpT K Z kvs l → Rp K Z (.ref a) (.dT l)
  | scr {a : Addr} {l : List Int} : SqL K Z a (l.map V.int) → l.length ≤ 64 → Rp K Z (.ref a) (.scr l)
inductive RpL (K : PySem.W.Frag) (Z : Hp) : List V → List D → Prop
  | nil : RpL K Z [] []
  | cons {v : V} {d : D} {vs : List V} {ds : List D} : Rp K Z v d → RpL K Z vs ds → RpL K Z (v :: vs) (d :: ds)
inductive RpK (K : PySem.W.Frag) (Z : Hp) : List (Key × V) → List (Key × D) → Prop
  | nil : RpK K Z [] []
  | cons {k : Key} {v : V} {d : D} {vs : List (Key × V)} {ds : List (Key × D)} : Rp K Z v d → RpK K Z vs ds → RpK K Z ((k, v) :: vs) ((k, d) :: ds)
inductive RpT (K : PySem.W.Frag) (Z : Hp) : List (List Key × V) → List (List Key × D) → Prop
  | nil : RpT K Z [] []
  | cons {k : List Key} {v : V} {d : D} {vs : List (List Key × V)} {ds : List (List Key × D)} : Rp K Z v d → RpT K Z vs ds → RpT K Z ((k, v) :: vs) ((k, d) :: ds)
end

/-- the object without its lock -/
def core : HO → HO
  | .frz _ (.dK k) => .dK k
  | .frz _ (.dT k) => .dT k
  | o => o
/-- all of Z is in Z', but for locks of dicts -/
def Le (Z Z' : Hp) : Prop := ∀ a o, Z a = some o → ∃ o', Z' a = some o' ∧ core o' = core o
theorem Le.refl (Z : Hp) : Le Z Z := fun _ o e => ⟨o, e, rfl⟩
theorem Le.trans {Z Z1 Z2 : Hp} (a : Le Z Z1) (b : Le Z1 Z2) : Le Z Z2 := fun c o e => by
  obtain ⟨o1, e1, c1⟩ := a c o e
  obtain ⟨o2, e2, c2⟩ := b c o1 e1
  exact ⟨o2, e2, c2.trans c1⟩
theorem Same.le {Z Z' : Hp} (s : Same Z Z') : Le Z Z' := fun a o e => ⟨o, s a o e, rfl⟩
theorem core_tup {o : HO} {vs : List V} (h : core o = .tup vs) : o = .tup vs := by
  cases o with
  | frz ob u => cases u <;> simp [core] at h
  | tup xs => simpa [core] using h
  | _ => simp [core] at h
theorem core_lst {o : HO} {vs : List V} (h : core o = .lst vs) : o = .lst vs := by
  cases o with
  | frz ob u => cases u <;> simp [core] at h
  | lst xs => simpa [core] using h
  | _ => simp [core] at h
theorem core_dK {o : HO} {kvs : List (Key × V)} (h : core o = .dK kvs) : o = .dK kvs ∨ ∃ b, o = .frz b (.dK kvs) := by
  cases o with
  | frz ob u =>
    cases u <;> simp [core] at h
    subst h
    exact .inr ⟨ob, rfl⟩
  | dK xs => exact .inl (by simpa [core] using h)
  | _ => simp [core] at h
theorem core_dT {o : HO} {kvs : List (List Key × V)} (h : core o = .dT kvs) : o = .dT kvs ∨ ∃ b, o = .frz b (.dT kvs) := by
  cases o with
  | frz ob u =>
    cases u <;> simp [core] at h
    subst h
    exact .inr ⟨ob, rfl⟩
  | dT xs => exact .inl (by simpa [core] using h)
  | _ => simp [core] at h
theorem core_frzL {o : HO} {b : Obj} {vs : List V} (h : core o = .frz b (.lst vs)) : o = .frz b (.lst vs) := by
  cases o with
  | frz ob u => cases u <;> simp [core] at h ⊢ <;> exact h
  | _ => simp [core] at h
theorem core_frzT {o : HO} {b : Obj} {vs : List V} (h : core o = .frz b (.tup vs)) : o = .frz b (.tup vs) := by
  cases o with
  | frz ob u => cases u <;> simp [core] at h ⊢ <;> exact h
  | _ => simp [core] at h
theorem Le.tux {Z Z' : Hp} (s : Le Z Z') {a : Addr} {b : Obj} {vs : List V} (h : Z a = some (.frz b (.tup vs))) : Z' a = some (.frz b (.tup vs)) := by
  obtain ⟨o, e, c⟩ := s a _ h
  rw [e, core_frzT (c.trans rfl)]
theorem Le.tup {Z Z' : Hp} (s : Le Z Z') {a : Addr} {vs : List V} (h : Z a = some (.tup vs)) : Z' a = some (.tup vs) := by
  obtain ⟨o, e, c⟩ := s a _ h
  rw [e, core_tup (c.trans rfl)]
theorem Le.lst {Z Z' : Hp} (s : Le Z Z') {a : Addr} {vs : List V} (h : Z a = some (.lst vs)) : Z' a = some (.lst vs) := by
  obtain ⟨o, e, c⟩ := s a _ h
  rw [e, core_lst (c.trans rfl)]
theorem Le.dK {Z Z' : Hp} (s : Le Z Z') {a : Addr} {kvs : List (Key × V)} (h : Rd Z a (.dK kvs)) : Rd Z' a (.dK kvs) := by
  have : ∃ o, Z a = some o ∧ core o = .dK kvs := by
    rcases h with h | ⟨b, h⟩
    · exact ⟨_, h, rfl⟩
    · exact ⟨_, h, rfl⟩
  obtain ⟨o, e, c⟩ := this
  obtain ⟨o', e', c'⟩ := s a o e
  rcases core_dK (c'.trans c) with r | ⟨b, r⟩
  · exact .inl (by rw [e', r])
  · exact .inr ⟨b, by rw [e', r]⟩
theorem Le.dT {Z Z' : Hp} (s : Le Z Z') {a : Addr} {kvs : List (List Key × V)} (h : Rd Z a (.dT kvs)) : Rd Z' a (.dT kvs) := by
  have : ∃ o, Z a = some o ∧ core o = .dT kvs := by
    rcases h with h | ⟨b, h⟩
    · exact ⟨_, h, rfl⟩
    · exact ⟨_, h, rfl⟩
  obtain ⟨o, e, c⟩ := this
  obtain ⟨o', e', c'⟩ := s a o e
  rcases core_dT (c'.trans c) with r | ⟨b, r⟩
  · exact .inl (by rw [e', r])
  · exact .inr ⟨b, by rw [e', r]⟩
theorem Le.sql {K : PySem.W.Frag} {Z Z' : Hp} (s : Le Z Z') {a : Addr} {vs : List V} (h : SqL K Z a vs) : SqL K Z' a vs := by
  rcases h with (h | ⟨b, h⟩) | h
  · exact .inl (.inl (s.lst h))
  · obtain ⟨o, e, c⟩ := s a _ h
    rw [core_frzL (c.trans rfl)] at e
    exact .inl (.inr ⟨b, e⟩)
  · exact .inr h

mutual
theorem Rp.mono {K : PySem.W.Frag} {Z Z' : Hp} (s : Le Z Z') : ∀ {v : V} {d : D}, Rp K Z v d → Rp K Z' v d
  | _, _, .non => .non
  | _, _, .bl b => .bl b
  | _, _, .int i => .int i
  | _, _, .str x => .str x
  | _, _, .tup h l r => .tup (s.tup h) l (RpL.mono s r)
  | _, _, .tux h d l r => .tux (s.tux h) d l (RpL.mono s r)
  | _, _, .lst h l r => .lst (s.lst h) l (RpL.mono s r)
  | _, _, .dK h l r => .dK (s.dK h) l (RpK.mono s r)
  | _, _, .dT h l r => .dT (s.dT h) l (RpT.mono s r)
  | _, _, .scr h l => .scr (s.sql h) l
theorem RpL.mono {K : PySem.W.Frag} {Z Z' : Hp} (s : Le Z Z') : ∀ {v : List V} {d : List D}, RpL K Z v d → RpL K Z' v d
  | _, _, .nil => .nil
  | _, _, .cons a b => .cons (Rp.mono s a) (RpL.mono s b)
theorem RpK.mono {K : PySem.W.Frag} {Z Z' : Hp} (s : Le Z Z') : ∀ {v : List (Key × V)} {d : List (Key × D)}, RpK K Z v d → RpK K Z' v d
  | _, _, .nil => .nil
  | _, _, .cons a b => .cons (Rp.mono s a) (RpK.mono s b)
theorem RpT.mono {K : PySem.W.Frag} {Z Z' : Hp} (s : Le Z Z') : ∀ {v : List (List Key × V)} {d : List (List Key × D)}, RpT K Z v d → RpT K Z' v d
  | _, _, .nil => .nil
  | _, _, .cons a b => .cons (Rp.mono s a) (RpT.mono s b)
end

/-- an object of one's own, its parts in Z -/
inductive Own (K : PySem.W.Frag) (Z : Hp) : HO → D → Prop
  | lst {vs : List V} {ds : List D} : vs.length ≤ sizeLine → RpL K Z vs ds → Own K Z (.lst vs) (.lst ds)
  | dK {kvs : List (Key × V)} {l : List (Key × D)} : kvs.length ≤ sizeLine → RpK K Z kvs l → Own K Z (.dK kvs) (.dK l)
  | dT {kvs : List (List Key × V)} {l : List (List Key × D)} : kvs.length ≤ sizeLine → RpT K Z kvs l → Own K Z (.dT kvs) (.dT l)
theorem Own.mono {K : PySem.W.Frag} {Z Z' : Hp} (s : Le Z Z') {o : HO} {d : D} : Own K Z o d → Own K Z' o d
  | .lst l r => .lst l (r.mono s)
  | .dK l r => .dK l (r.mono s)
  | .dT l r => .dT l (r.mono s)
theorem Own.rp {K : PySem.W.Frag} {Z : Hp} {o : HO} {d : D} {a : Addr} (w : Own K Z o d) (n : Z a = none) : Rp K (upd Z a o) (.ref a) d := by
  have s : Le Z (upd Z a o) := Same.le fun b u e => by rw [upd_ne (ne_of_none e n)]; exact e
  cases w with
  | lst l r => exact .lst upd_same l (r.mono s)
  | dK l r => exact .dK (.inl upd_same) l (r.mono s)
  | dT l r => exact .dT (.inl upd_same) l (r.mono s)

/-- a slot: unbound; a datum that never changes; an object of one's own -/
inductive Sl where
  | un | im (d : D) | ow (d : D) | raw (v : V)
abbrev Ev := List Sl

/-- one step on: the heap has grown, and what is frozen; what is frozen newly is new -/
structure Ext (Z H Z' H' : Hp) : Prop where
  sH : Same H H'
  sZ : Same Z Z'
  z' : Same Z' H'
  z0 : ∀ a, H a ≠ none → Z' a = Z a
theorem Ext.refl {Z H : Hp} (h : Same Z H) : Ext Z H Z H := ⟨Same.refl _, Same.refl _, h, fun _ _ => rfl⟩
theorem Ext.trans {Z H Z1 H1 Z2 H2 : Hp} (a : Ext Z H Z1 H1) (b : Ext Z1 H1 Z2 H2) : Ext Z H Z2 H2 :=
  ⟨a.sH.trans b.sH, a.sZ.trans b.sZ, b.z', fun c n => by
    have : H1 c ≠ none := by
      cases q : H c with
      | none => exact absurd q n
      | some o => rw [a.sH c o q]; simp
    rw [b.z0 c this, a.z0 c n]⟩
theorem same_upd {H : Hp} {p : Addr} {o : HO} (h : H p = none) : Same H (upd H p o) := fun b x e => by
  rw [upd_ne (ne_of_none e h)]
  exact e
theorem same_none {Z H : Hp} (s : Same Z H) {p : Addr} (h : H p = none) : Z p = none := s.free h
theorem same_upd2 {Z H : Hp} {p : Addr} {o : HO} (s : Same Z H) : Same (upd Z p o) (upd H p o) := fun b x e => by
  by_cases hb : b = p
  · subst hb; rw [upd_same] at e ⊢; exact e
  · rw [upd_ne hb] at e ⊢; exact s b x e
/-- a new object, frozen at once -/
theorem Ext.new {Z H : Hp} (s : Same Z H) {p : Addr} {o : HO} (h : H p = none) : Ext Z H (upd Z p o) (upd H p o) :=
  ⟨same_upd h, same_upd (same_none s h), same_upd2 s, fun a n => upd_ne fun z => n (by rw [z]; exact h)⟩
/-- a new object of one's own -/
theorem Ext.newO {Z H : Hp} (s : Same Z H) {p : Addr} {o : HO} (h : H p = none) : Ext Z H Z (upd H p o) :=
  ⟨same_upd h, Same.refl _, s.trans (same_upd h), fun _ _ => rfl⟩

/-- the environment ρ stands in the slots σ and the heap H; Z is what is frozen; H0, Z0: the same at the def's entry -/
structure Mt (K : PySem.W.Frag) (H0 Z0 Z : Hp) (ρ : Ev) (σ : L2.St) (H : Hp) : Prop where
  sH : Same H0 H
  sZ : Same Z H
  s0 : Same Z0 Z
  z0 : ∀ a, H0 a ≠ none → Z a = Z0 a
  im : ∀ (i : Nat) (d : D), ρ[i]? = some (Sl.im d) → ∃ v, σ[i]? = some (some v) ∧ Rp K Z v d
  ow : ∀ (i : Nat) (d : D), ρ[i]? = some (Sl.ow d) → ∃ a o, σ[i]? = some (some (V.ref a)) ∧ H0 a = none ∧ Z a = none ∧ H a = some o ∧ Own K Z o d
  ap : ∀ (i j : Nat) (a : Addr) (x y : D), ρ[i]? = some (Sl.ow x) → ρ[j]? = some (Sl.ow y) → σ[i]? = some (some (V.ref a)) → σ[j]? = some (some (V.ref a)) → i = j
  raw : ∀ (i : Nat) (v : V), ρ[i]? = some (Sl.raw v) → σ[i]? = some (some v)
  len : ρ.length = σ.length
theorem Mt.ext {K : PySem.W.Frag} {H0 Z0 Z H Z' H' : Hp} {ρ : Ev} {σ : L2.St} (m : Mt K H0 Z0 Z ρ σ H) (e : Ext Z H Z' H') : Mt K H0 Z0 Z' ρ σ H' where
  sH := m.sH.trans e.sH
  sZ := e.z'
  s0 := m.s0.trans e.sZ
  z0 := fun a n => by
    have : H a ≠ none := by
      cases q : H0 a with
      | none => exact absurd q n
      | some o => rw [m.sH a o q]; simp
    rw [e.z0 a this, m.z0 a n]
  im := fun i d h => by
    obtain ⟨v, s, r⟩ := m.im i d h
    exact ⟨v, s, r.mono (Same.le e.sZ)⟩
  ow := fun i d h => by
    obtain ⟨a, o, s, n0, n, ho, w⟩ := m.ow i d h
    exact ⟨a, o, s, n0, by rw [e.z0 a (by rw [ho]; simp)]; exact n, e.sH a o ho, w.mono (Same.le e.sZ)⟩
  ap := m.ap
  raw := m.raw
  len := m.len
end DL

/-! The data layer, part 2: judgements over data; names, constants, operators in general. -/
namespace DL
open PySem PySem.Spec PyProof.Rows L2

/-! ### what a value must be -/
def GE (K : PySem.W.Frag) : Hp → Hp → Hp → V → D → Prop := fun _ Z _ v d => Rp K Z v d
def GB (K : PySem.W.Frag) : Hp → Hp → Hp → V → D → Prop := fun _ Z H v d => Rp K Z v d ∨ ∃ a o, v = V.ref a ∧ Z a = none ∧ H a = some o ∧ Own K Z o d
def GF (K : PySem.W.Frag) : Hp → Hp → Hp → V → D → Prop := fun H0 Z H v d => ∃ a o, v = V.ref a ∧ H0 a = none ∧ Z a = none ∧ H a = some o ∧ Own K Z o d
def GT : Hp → Hp → Hp → Bool → Bool → Prop := fun _ _ _ b c => b = c
inductive GL (G : Hp → Hp → Hp → V → D → Prop) (H0 Z H : Hp) : List V → List D → Prop
  | nil : GL G H0 Z H [] []
  | cons {v : V} {d : D} {vs : List V} {ds : List D} : G H0 Z H v d → GL G H0 Z H vs ds → GL G H0 Z H (v :: vs) (d :: ds)
structure Gok {α β : Type} (G : Hp → Hp → Hp → β → α → Prop) : Prop where
  m : ∀ H H1 Z2 H2 v d, Same H H1 → G H1 Z2 H2 v d → G H Z2 H2 v d
  s : ∀ H Z1 H1 Z2 H2 v d, G H Z1 H1 v d → Ext Z1 H1 Z2 H2 → G H Z2 H2 v d
theorem gokE {K : PySem.W.Frag} : Gok (GE K) := ⟨fun _ _ _ _ _ _ _ h => h, fun _ _ _ _ _ _ _ h e => Rp.mono (Same.le e.sZ) h⟩
theorem gokB {K : PySem.W.Frag} : Gok (GB K) := ⟨fun _ _ _ _ _ _ _ h => h, fun H Z1 H1 Z2 H2 v d h e => by
  rcases h with h | ⟨a, o, ev, n, ho, w⟩
  · exact .inl (h.mono (Same.le e.sZ))
  · exact .inr ⟨a, o, ev, by rw [e.z0 a (by rw [ho]; simp)]; exact n, e.sH a o ho, w.mono (Same.le e.sZ)⟩⟩
theorem gokF {K : PySem.W.Frag} : Gok (GF K) := ⟨fun H H1 Z2 H2 v d s h => by
  obtain ⟨a, o, ev, n0, r⟩ := h
  exact ⟨a, o, ev, s.free n0, r⟩, fun H Z1 H1 Z2 H2 v d h e => by
  obtain ⟨a, o, ev, n0, n, ho, w⟩ := h
  exact ⟨a, o, ev, n0, by rw [e.z0 a (by rw [ho]; simp)]; exact n, e.sH a o ho, w.mono (Same.le e.sZ)⟩⟩
theorem gokT : Gok GT := ⟨fun _ _ _ _ _ _ _ h => h, fun _ _ _ _ _ _ _ h _ => h⟩
theorem GL.m {G : Hp → Hp → Hp → V → D → Prop} (g : Gok G) {H H1 Z2 H2 : Hp} (s : Same H H1) : ∀ {v d}, GL G H1 Z2 H2 v d → GL G H Z2 H2 v d
  | _, _, .nil => .nil
  | _, _, .cons a b => .cons (g.m _ _ _ _ _ _ s a) (GL.m g s b)
theorem GL.s {G : Hp → Hp → Hp → V → D → Prop} (g : Gok G) {H Z1 H1 Z2 H2 : Hp} (e : Ext Z1 H1 Z2 H2) : ∀ {v d}, GL G H Z1 H1 v d → GL G H Z2 H2 v d
  | _, _, .nil => .nil
  | _, _, .cons a b => .cons (g.s _ _ _ _ _ _ _ a e) (GL.s g e b)
theorem gokL {G : Hp → Hp → Hp → V → D → Prop} (g : Gok G) : Gok (GL G) := ⟨fun _ _ _ _ _ _ s h => GL.m g s h, fun _ _ _ _ _ _ _ h e => GL.s g e h⟩
theorem GL.rp {K : PySem.W.Frag} {H0 Z H : Hp} : ∀ {vs : List V} {ds : List D}, GL (GE K) H0 Z H vs ds → RpL K Z vs ds
  | _, _, .nil => .nil
  | _, _, .cons a b => .cons a (GL.rp b)

/-! ### readings -/
def Sat {α β : Type} (cl : Nat → Value) (W : WX) (σ : L2.St) (Z H : Hp) (G : Hp → Hp → Hp → β → α → Prop) (r : R α) (Q : β → Hp → Prop) : Prop :=
  match r with
  | .ok d => ∀ v Z' H', Ext Z H Z' H' → G H Z' H' v d → Q v H'
  | .ex c => ∀ Z' H', Ext Z H Z' H' → W (cl c) none σ H'
  | .stuck => False
def tG {α β : Type} (K : PySem.W.Frag) (cl : Nat → Value) (W : WX) (G : Hp → Hp → Hp → β → α → Prop) (f : Ev → R α) : L2.St → Hp → (β → Hp → Prop) → Prop :=
  fun σ H Q => ∃ H0 Z0 Z ρ, Mt K H0 Z0 Z ρ σ H ∧ Sat cl W σ Z H G (f ρ) Q
theorem Sat.mono {α β : Type} {cl : Nat → Value} {W : WX} {σ : L2.St} {Z H Z' H' : Hp} {G : Hp → Hp → Hp → β → α → Prop} {r : R α} {Q : β → Hp → Prop} (g : Gok G) (e : Ext Z H Z' H') (h : Sat cl W σ Z H G r Q) : Sat cl W σ Z' H' G r Q := by
  cases r with
  | ok d => exact fun v Z2 H2 e2 q => h v Z2 H2 (e.trans e2) (g.m _ _ _ _ _ _ e.sH q)
  | ex c => exact fun Z2 H2 e2 => h Z2 H2 (e.trans e2)
  | stuck => exact h
theorem Sat.bind {α β γ δ : Type} {cl : Nat → Value} {W : WX} {σ : L2.St} {Z H : Hp} {G : Hp → Hp → Hp → β → α → Prop} {G' : Hp → Hp → Hp → δ → γ → Prop} {r : R α} {k : α → R γ} {Q : δ → Hp → Prop} {Q1 : β → Hp → Prop} (g : Gok G')
    (h : Sat cl W σ Z H G' (r >>= k) Q) (hk : ∀ d v Z' H', Ext Z H Z' H' → G H Z' H' v d → Sat cl W σ Z' H' G' (k d) Q → Q1 v H') : Sat cl W σ Z H G r Q1 := by
  cases r with
  | ok d => exact fun v Z2 H2 e2 q => hk d v Z2 H2 e2 q (Sat.mono g e2 h)
  | ex c => exact h
  | stuck => exact h
theorem Sat.ok {α β : Type} {cl : Nat → Value} {W : WX} {σ : L2.St} {Z H : Hp} {G : Hp → Hp → Hp → β → α → Prop} {d : α} {Q : β → Hp → Prop} (h : Sat cl W σ Z H G (.ok d) Q) {v : β} {Z' H' : Hp} (e : Ext Z H Z' H') (g : G H Z' H' v d) : Q v H' := h v Z' H' e g
theorem Sat.no {α β : Type} {cl : Nat → Value} {W : WX} {σ : L2.St} {Z H : Hp} {G : Hp → Hp → Hp → β → α → Prop} {Q : β → Hp → Prop} {P : Prop} (h : Sat cl W σ Z H G .stuck Q) : P := False.elim h
theorem PE.imp {X : Cx} {e : Expr} {t t' : TE} (h : PE X e t) (q : ∀ σ H Q, t' σ H Q → t σ H Q) : PE X e t' := ⟨fun pins s σ H Q I x => h.run pins s σ H Q I (q σ H Q x)⟩
theorem PT.imp {X : Cx} {e : Expr} {t t' : TT} (h : PT X e t) (q : ∀ σ H Q, t' σ H Q → t σ H Q) : PT X e t' := ⟨fun pins s σ H Q I x => h.run pins s σ H Q I (q σ H Q x)⟩
theorem PW.imp {X : Cx} {e : Expr} {t t' : TT} (h : PW X e t) (q : ∀ σ H Q, t' σ H Q → t σ H Q) : PW X e t' := ⟨fun wh pins s σ H Q I x => h.run wh pins s σ H Q I (q σ H Q x)⟩
theorem PA.imp {X : Cx} {e : List Expr} {t t' : TA} (h : PA X e t) (q : ∀ σ H Q, t' σ H Q → t σ H Q) : PA X e t' := ⟨fun pos pins s σ H Q I x => h.run pos pins s σ H Q I (q σ H Q x)⟩

/-! ### judgements -/
def DX (X : Cx) (cl : Nat → Value) (W : WX) (G : Hp → Hp → Hp → V → D → Prop) (e : Expr) (f : Ev → R D) : Prop := PE X e (tG X.K cl W G f)
abbrev DE (X : Cx) (cl : Nat → Value) (W : WX) (e : Expr) (f : Ev → R D) : Prop := DX X cl W (GE X.K) e f
abbrev DB (X : Cx) (cl : Nat → Value) (W : WX) (e : Expr) (f : Ev → R D) : Prop := DX X cl W (GB X.K) e f
abbrev DF (X : Cx) (cl : Nat → Value) (W : WX) (e : Expr) (f : Ev → R D) : Prop := DX X cl W (GF X.K) e f
def DT (X : Cx) (cl : Nat → Value) (W : WX) (e : Expr) (f : Ev → R Bool) : Prop := PT X e (tG X.K cl W GT f)
def DW (X : Cx) (cl : Nat → Value) (W : WX) (e : Expr) (f : Ev → R Bool) : Prop := PW X e (tG X.K cl W GT f)
def DA (X : Cx) (cl : Nat → Value) (W : WX) (G : Hp → Hp → Hp → V → D → Prop) (e : List Expr) (f : Ev → R (List D)) : Prop := PA X e (tG X.K cl W (GL G) f)

section
variable {X : Cx} {cl : Nat → Value} {W : WX} {G : Hp → Hp → Hp → V → D → Prop} {e : Expr} {f : Ev → R D}
/-- another need -/
theorem Sat.need {α β : Type} {σ : L2.St} {Z H : Hp} {G G' : Hp → Hp → Hp → β → α → Prop} {r : R α} {Q : β → Hp → Prop} (h : Sat cl W σ Z H G' r Q) (k : ∀ d v Z' H', Ext Z H Z' H' → G H Z' H' v d → ∃ Z2, Ext Z H Z2 H' ∧ G' H Z2 H' v d) : Sat cl W σ Z H G r Q := by
  cases r with
  | ok d => exact fun v Z2 H2 e2 q => let ⟨Z3, e3, q3⟩ := k d v Z2 H2 e2 q; h v Z3 H2 e3 q3
  | ex c => exact h
  | stuck => exact h
theorem DX.need {G' : Hp → Hp → Hp → V → D → Prop} (h : DX X cl W G e f) (k : ∀ Z H d v Z' H', Same Z H → Ext Z H Z' H' → G H Z' H' v d → ∃ Z2, Ext Z H Z2 H' ∧ G' H Z2 H' v d) : DX X cl W G' e f :=
  PE.imp h fun σ H Q ⟨H0, Z0, Z, ρ, m, s⟩ => ⟨H0, Z0, Z, ρ, m, s.need fun d v Z' H' e g => k Z H d v Z' H' m.sZ e g⟩
theorem DX.b (h : DE X cl W e f) : DB X cl W e f := DX.need h fun _ _ _ _ Z' _ _ e g => ⟨Z', e, .inl g⟩
/-- what is new may be frozen -/
theorem freeze {Z H Z' H' : Hp} (z : Same Z H) (e : Ext Z H Z' H') {a : Addr} {o : HO} (n0 : H a = none) (ho : H' a = some o) : Ext Z H (upd Z' a o) H' := by
  refine ⟨e.sH, fun b u q => ?_, fun b u q => ?_, fun b n => ?_⟩
  · rw [upd_ne (ne_of_none (z b u q) n0)]; exact e.sZ b u q
  · by_cases hb : b = a
    · subst hb; rw [upd_same] at q; cases q; exact ho
    · rw [upd_ne hb] at q; exact e.z' b u q
  · rw [upd_ne (fun z => n (by rw [z]; exact n0))]; exact e.z0 b n
theorem DX.fb (h : DF X cl W e f) : DB X cl W e f := DX.need h fun _ _ _ _ Z' _ _ e ⟨a, o, ev, _, n, ho, w⟩ => ⟨Z', e, .inr ⟨a, o, ev, n, ho, w⟩⟩
theorem DX.fe (h : DF X cl W e f) : DE X cl W e f := DX.need h fun _ _ _ _ Z' _ z e ⟨a, o, ev, n0, n, ho, w⟩ => ⟨_, freeze z e n0 ho, by subst ev; exact w.rp n⟩

/-! ### names and constants -/
def eVar (i : Nat) : Ev → R D := fun ρ => match ρ[i]? with
  | some (.im d) => .ok d
  | _ => .stuck
def eVarB (i : Nat) : Ev → R D := fun ρ => match ρ[i]? with
  | some (.im d) => .ok d
  | some (.ow d) => .ok d
  | _ => .stuck
def eC (d : D) : Ev → R D := fun _ => .ok d
theorem de_var {i : Nat} {x : Str} {pos : Pos} (hN : X.N[i]? = some x) (hv : Vis X.env.scope x) (hd : (x == ("__debug__" : Str)) = false := by decide) (hcd : (x == ("__classdict__" : Str)) = false := by decide) : DE X cl W (.Name x pos) (eVar i) :=
  PE.imp (pe_var hN hv hd hcd) fun σ H Q ⟨H0, Z0, Z, ρ, m, s⟩ => by
    cases hr : ρ[i]? with
    | none => simp [eVar, hr, Sat] at s
    | some sl =>
      cases sl with
      | im d =>
        obtain ⟨v, es, r⟩ := m.im i d hr
        simp only [eVar, hr, Sat] at s
        exact ⟨v, es, s v Z H (Ext.refl m.sZ) r⟩
      | un => simp [eVar, hr, Sat] at s
      | raw v => simp [eVar, hr, Sat] at s
      | ow d => simp [eVar, hr, Sat] at s
theorem db_var {i : Nat} {x : Str} {pos : Pos} (hN : X.N[i]? = some x) (hv : Vis X.env.scope x) (hd : (x == ("__debug__" : Str)) = false := by decide) (hcd : (x == ("__classdict__" : Str)) = false := by decide) : DB X cl W (.Name x pos) (eVarB i) :=
  PE.imp (pe_var hN hv hd hcd) fun σ H Q ⟨H0, Z0, Z, ρ, m, s⟩ => by
    cases hr : ρ[i]? with
    | none => simp [eVarB, hr, Sat] at s
    | some sl =>
      cases sl with
      | im d =>
        obtain ⟨v, es, r⟩ := m.im i d hr
        simp only [eVarB, hr, Sat] at s
        exact ⟨v, es, s v Z H (Ext.refl m.sZ) (.inl r)⟩
      | un => simp [eVarB, hr, Sat] at s
      | raw v => simp [eVarB, hr, Sat] at s
      | ow d =>
        obtain ⟨a, o, es, n0, n, ho, w⟩ := m.ow i d hr
        simp only [eVarB, hr, Sat] at s
        exact ⟨_, es, s _ Z H (Ext.refl m.sZ) (.inr ⟨a, o, rfl, n, ho, w⟩)⟩
theorem de_c {v : V} {d : D} (h : PE X e (tC v)) (r : ∀ K Z, Rp K Z v d) : DE X cl W e (eC d) := PE.imp h fun σ H Q ⟨H0, Z0, Z, ρ, m, s⟩ => s v Z H (Ext.refl m.sZ) (r _ _)
theorem de_int {i : Int} {j pos} : DE X cl W (.Constant (.int i) j pos) (eC (.int i)) := de_c pe_int fun _ _ => .int i
theorem de_bl {b : Bool} {j pos} : DE X cl W (.Constant (.bool b) j pos) (eC (.bl b)) := de_c pe_bl fun _ _ => .bl b
theorem de_str {x : Str} {j pos} : DE X cl W (.Constant (.str x) j pos) (eC (.str x)) := de_c pe_str fun _ _ => .str x
theorem de_non {j pos} : DE X cl W (.Constant .none j pos) (eC .non) := de_c pe_non fun _ _ => .non
/-- a module's whole number or text -/
theorem de_gint {x : Str} {pos : Pos} {i : Int} (hg : Gl X x) (hm : ∃ t, X.mg x = some (.int i t)) (hd : (x == ("__debug__" : Str)) = false := by decide) : DE X cl W (.Name x pos) (eC (.int i)) := by
  obtain ⟨t, hm⟩ := hm
  exact de_c (pe_glob hg hm (show L2.RelV (.int i) _ from ⟨t, rfl⟩) hd) fun _ _ => .int i
theorem de_gstr {x : Str} {pos : Pos} {i : Str} (hg : Gl X x) (hm : ∃ t, X.mg x = some (.str i t)) (hd : (x == ("__debug__" : Str)) = false := by decide) : DE X cl W (.Name x pos) (eC (.str i)) := by
  obtain ⟨t, hm⟩ := hm
  exact de_c (pe_glob hg hm (show L2.RelV (.str i) _ from ⟨t, rfl⟩) hd) fun _ _ => .str i

/-! ### operators in general -/
/-- what a rule by values asks, said over data -/
def Op2 (X : Cx) (cl : Nat → Value) (W : WX) (G : Hp → Hp → Hp → V → D → Prop) (r : R2) (g : D → D → R D) : Prop := ∀ σ Z H x y d e Q, Same Z H → GB X.K H Z H x d → GB X.K H Z H y e → Sat cl W σ Z H G (g d e) Q → r x y H Q
def e2 (g : D → D → R D) (f h : Ev → R D) : Ev → R D := fun ρ => f ρ >>= fun x => h ρ >>= fun y => g x y
theorem GB.at {K : PySem.W.Frag} {H H1 Z2 H2 : Hp} {x : V} {d : D} (h : GB K H Z2 H2 x d) : GB K H1 Z2 H2 x d := h
variable {a b : Expr} {fa fb : Ev → R D} {pos : Pos}
theorem op2_use {r : R2} {g : D → D → R D} (gk : Gok G) (op : Op2 X cl W G r g) {σ : L2.St} {H : Hp} {Q : VK} (h : tG X.K cl W G (e2 g fa fb) σ H Q) : tOp r (tG X.K cl W (GB X.K) fa) (tG X.K cl W (GB X.K) fb) σ H Q := by
  obtain ⟨H0, Z0, Z, ρ, m, s⟩ := h
  exact ⟨H0, Z0, Z, ρ, m, s.bind gk fun d v Z1 H1 e1 g1 s1 => ⟨H0, Z0, Z1, ρ, m.ext e1, s1.bind gk fun d2 v2 Z2 H2 e2 g2 s2 => op σ Z2 H2 v v2 d d2 Q e2.z' (gokB.s _ _ _ _ _ _ _ g1 e2) g2 s2⟩⟩
theorem dx_op {op : Operator} {r : R2} {g : D → D → R D} (gk : Gok G) (ho : OpR X (binaryOp op) r) (hg : Op2 X cl W G r g) (ha : DB X cl W a fa) (hb : DB X cl W b fb) : DX X cl W G (.BinOp a op b pos) (e2 g fa fb) :=
  PE.imp (pe_op ho ha hb) fun σ H Q h => op2_use gk hg h
theorem dx_cmp {op : CmpOp} {r : R2} {g : D → D → R D} (gk : Gok G) (ho : OpR X (compareOp op) r) (hg : Op2 X cl W G r g) (ha : DB X cl W a fa) (hb : DB X cl W b fb) (hm : behindInMarks op b = false) : DX X cl W G (.Compare a [op] [b] pos) (e2 g fa fb) :=
  PE.imp (pe_cmpR ho ha hb hm) fun σ H Q h => op2_use gk hg h
theorem dx_ix {r : R2} {g : D → D → R D} (gk : Gok G) (ho : IxR X r) (hg : Op2 X cl W G r g) (ha : DB X cl W a fa) (hb : DB X cl W b fb) (hp : PlainIx b) : DX X cl W G (.Subscript a b pos) (e2 g fa fb) :=
  PE.imp (pe_ix ho ha hb hp) fun σ H Q h => op2_use gk hg h
end
end DL

/-! The data layer, part 3: operators, comparisons, subscripts. -/
namespace DL
open PySem PySem.Spec PyProof.Rows L2

/-! ### parts -/
theorem RpL.length {K : PySem.W.Frag} {Z : Hp} : ∀ {vs : List V} {ds : List D}, RpL K Z vs ds → vs.length = ds.length
  | _, _, .nil => rfl
  | _, _, .cons _ r => congrArg (· + 1) (RpL.length r)
theorem RpL.get {K : PySem.W.Frag} {Z : Hp} : ∀ {vs : List V} {ds : List D} {i : Nat} {d : D}, RpL K Z vs ds → ds[i]? = some d → ∃ v, vs[i]? = some v ∧ Rp K Z v d
  | _, _, _, _, .nil, h => by simp at h
  | _, _, 0, d, .cons r _, h => by simp at h; subst h; exact ⟨_, rfl, r⟩
  | _, _, i + 1, d, .cons _ r, h => by
    obtain ⟨v, h1, h2⟩ := RpL.get (i := i) (d := d) r (by simpa using h)
    exact ⟨v, by simpa using h1, h2⟩
theorem RpL.get' {K : PySem.W.Frag} {Z : Hp} {vs : List V} {ds : List D} {i : Nat} {v : V} (r : RpL K Z vs ds) (h : vs[i]? = some v) : ∃ d, ds[i]? = some d ∧ Rp K Z v d := by
  have hl := r.length
  obtain ⟨hi, _⟩ := List.getElem?_eq_some_iff.mp h
  have hd : ds[i]? = some (ds[i]'(by omega)) := List.getElem?_eq_getElem _
  obtain ⟨v', h1, h2⟩ := r.get hd
  rw [h] at h1; cases h1
  exact ⟨_, hd, h2⟩
theorem RpL.append {K : PySem.W.Frag} {Z : Hp} : ∀ {vs ws : List V} {ds es : List D}, RpL K Z vs ds → RpL K Z ws es → RpL K Z (vs ++ ws) (ds ++ es)
  | _, _, _, _, .nil, r => r
  | _, _, _, _, .cons a b, r => .cons a (RpL.append b r)
theorem RpL.take {K : PySem.W.Frag} {Z : Hp} : ∀ (n : Nat) {vs : List V} {ds : List D}, RpL K Z vs ds → RpL K Z (vs.take n) (ds.take n)
  | 0, _, _, _ => .nil
  | _ + 1, _, _, .nil => .nil
  | n + 1, _, _, .cons a b => .cons a (RpL.take n b)
theorem RpL.drop {K : PySem.W.Frag} {Z : Hp} : ∀ (n : Nat) {vs : List V} {ds : List D}, RpL K Z vs ds → RpL K Z (vs.drop n) (ds.drop n)
  | 0, _, _, r => r
  | _ + 1, _, _, .nil => .nil
  | n + 1, _, _, .cons _ b => RpL.drop n b
theorem RpL.reverse {K : PySem.W.Frag} {Z : Hp} : ∀ {vs : List V} {ds : List D}, RpL K Z vs ds → RpL K Z vs.reverse ds.reverse
  | _, _, .nil => .nil
  | _, _, .cons a b => by
    rw [List.reverse_cons, List.reverse_cons]
    exact (RpL.reverse b).append (.cons a .nil)
theorem RpL.rep {K : PySem.W.Frag} {Z : Hp} {vs : List V} {ds : List D} (r : RpL K Z vs ds) : ∀ n : Nat, RpL K Z (List.replicate n vs).flatten (List.replicate n ds).flatten
  | 0 => .nil
  | n + 1 => by
    rw [List.replicate_succ, List.replicate_succ, List.flatten_cons, List.flatten_cons]
    exact r.append (RpL.rep r n)
theorem RpL.set {K : PySem.W.Frag} {Z : Hp} {v : V} {d : D} (q : Rp K Z v d) : ∀ {vs : List V} {ds : List D} (i : Nat), RpL K Z vs ds → RpL K Z (vs.set i v) (ds.set i d)
  | _, _, _, .nil => .nil
  | _, _, 0, .cons _ b => .cons q b
  | _, _, i + 1, .cons a b => .cons a (RpL.set q i b)
theorem RpL.eraseIdx {K : PySem.W.Frag} {Z : Hp} : ∀ {vs : List V} {ds : List D} (i : Nat), RpL K Z vs ds → RpL K Z (vs.eraseIdx i) (ds.eraseIdx i)
  | _, _, _, .nil => .nil
  | _, _, 0, .cons _ b => b
  | _, _, i + 1, .cons a b => .cons a (RpL.eraseIdx i b)
theorem RpL.ints {K : PySem.W.Frag} {Z : Hp} : ∀ (l : List Int), RpL K Z (l.map V.int) (l.map D.int)
  | [] => .nil
  | i :: l => .cons (.int i) (RpL.ints l)
theorem RpL.intsV {K : PySem.W.Frag} {Z : Hp} : ∀ {vs : List V} {l : List Int}, RpL K Z vs (l.map D.int) → vs = l.map V.int
  | _, [], .nil => rfl
  | _, i :: l, .cons a b => by cases a; rw [RpL.intsV b]; rfl
theorem RpL.bls {K : PySem.W.Frag} {Z : Hp} : ∀ {vs : List V} {l : List Bool}, RpL K Z vs (l.map D.bl) → vs = l.map V.bl
  | _, [], .nil => rfl
  | _, i :: l, .cons a b => by cases a; rw [RpL.bls b]; rfl
theorem RpL.strs {K : PySem.W.Frag} {Z : Hp} : ∀ {vs : List V} {l : List Str}, RpL K Z vs (l.map D.str) → vs = l.map V.str
  | _, [], .nil => rfl
  | _, i :: l, .cons a b => by cases a; rw [RpL.strs b]; rfl

section
variable {K : PySem.W.Frag} {H0 Z H : Hp} {v : V}
theorem GB.non (h : GB K H0 Z H v .non) : v = .non := by
  rcases h with h | ⟨a, o, ev, _, _, w⟩
  · cases h; rfl
  · cases w
theorem GB.int {i : Int} (h : GB K H0 Z H v (.int i)) : v = .int i := by
  rcases h with h | ⟨a, o, ev, _, _, w⟩
  · cases h; rfl
  · cases w
theorem GB.bl {i : Bool} (h : GB K H0 Z H v (.bl i)) : v = .bl i := by
  rcases h with h | ⟨a, o, ev, _, _, w⟩
  · cases h; rfl
  · cases w
theorem GB.str {i : Str} (h : GB K H0 Z H v (.str i)) : v = .str i := by
  rcases h with h | ⟨a, o, ev, _, _, w⟩
  · cases h; rfl
  · cases w
theorem GB.tup {ds : List D} (s : Same Z H) (h : GB K H0 Z H v (.tup ds)) : ∃ a vs, v = .ref a ∧ H a = some (.tup vs) ∧ vs.length ≤ sizeLine ∧ RpL K Z vs ds := by
  rcases h with h | ⟨a, o, ev, _, _, w⟩
  · cases h with
    | tup e l r => exact ⟨_, _, rfl, s _ _ e, l, r⟩
  · cases w
theorem GB.tux {ds : List D} (s : Same Z H) (h : GB K H0 Z H v (.tux ds)) : ∃ a o vs, v = .ref a ∧ H a = some (.frz o (.tup vs)) ∧ o.dict = none ∧ vs.length ≤ sizeLine ∧ RpL K Z vs ds := by
  rcases h with h | ⟨a, o, ev, _, _, w⟩
  · cases h with
    | tux e d l r => exact ⟨_, _, _, rfl, s _ _ e, d, l, r⟩
  · cases w
theorem sqt_frz {a : Addr} {o : Obj} {vs : List V} (h : H a = some (.frz o (.tup vs))) : SqT K H a vs := .inl (.inr ⟨o, h⟩)
theorem GB.lst {ds : List D} (s : Same Z H) (h : GB K H0 Z H v (.lst ds)) : ∃ a vs, v = .ref a ∧ H a = some (.lst vs) ∧ vs.length ≤ sizeLine ∧ RpL K Z vs ds := by
  rcases h with h | ⟨a, o, ev, _, ho, w⟩
  · cases h with
    | lst e l r => exact ⟨_, _, rfl, s _ _ e, l, r⟩
  · cases w with
    | lst l r => exact ⟨_, _, ev, ho, l, r⟩
theorem rd_same {u : HO} {a : Addr} (s : Same Z H) (h : Rd Z a u) : Rd H a u := by
  rcases h with h | ⟨b, h⟩
  · exact .inl (s _ _ h)
  · exact .inr ⟨b, s _ _ h⟩
theorem GB.dK {l : List (Key × D)} (s : Same Z H) (h : GB K H0 Z H v (.dK l)) : ∃ a kvs, v = .ref a ∧ Rd H a (.dK kvs) ∧ kvs.length ≤ sizeLine ∧ RpK K Z kvs l := by
  rcases h with h | ⟨a, o, ev, _, ho, w⟩
  · cases h with
    | dK e l r => exact ⟨_, _, rfl, rd_same s e, l, r⟩
  · cases w with
    | dK l r => exact ⟨_, _, ev, .inl ho, l, r⟩
theorem GB.dT {l : List (List Key × D)} (s : Same Z H) (h : GB K H0 Z H v (.dT l)) : ∃ a kvs, v = .ref a ∧ Rd H a (.dT kvs) ∧ kvs.length ≤ sizeLine ∧ RpT K Z kvs l := by
  rcases h with h | ⟨a, o, ev, _, ho, w⟩
  · cases h with
    | dT e l r => exact ⟨_, _, rfl, rd_same s e, l, r⟩
  · cases w with
    | dT l r => exact ⟨_, _, ev, .inl ho, l, r⟩
theorem GB.scr {l : List Int} (s : Same Z H) (h : GB K H0 Z H v (.scr l)) : ∃ a, v = .ref a ∧ SqL K H a (l.map V.int) ∧ l.length ≤ 64 := by
  rcases h with h | ⟨a, o, ev, _, ho, w⟩
  · cases h with
    | scr e q => exact ⟨_, rfl, s.seq e, q⟩
  · cases w
end

section
variable {X : Cx} {cl : Nat → Value} {W : WX} {G : Hp → Hp → Hp → V → D → Prop}
/-! ### arithmetic -/
def dAdd : D → D → R D
  | .int i, .int j => .ok (.int (i + j))
  | .str a, .str b => if a.length + b.length ≤ 16777216 then .ok (.str (a ++ b)) else .stuck
  | .lst a, .lst b => if a.length + b.length ≤ 16777216 then .ok (.lst (a ++ b)) else .stuck
  | .tup a, .tup b => if a.length + b.length ≤ 16777216 then .ok (.tup (a ++ b)) else .stuck
  | _, _ => .stuck
def dSub : D → D → R D
  | .int i, .int j => .ok (.int (i - j))
  | _, _ => .stuck
noncomputable def dMul : D → D → R D
  | .int i, .int j => @ite (R D) ((-(2 ^ 64) < i ∧ i < 2 ^ 64) ∨ (-(2 ^ 64) < j ∧ j < 2 ^ 64)) (Classical.propDecidable _) (.ok (.int (i * j))) .stuck
  | .lst a, .int k => @ite (R D) (-(2 ^ 63) ≤ k ∧ k < 2 ^ 63 ∧ a.length * k.toNat ≤ 16777216) (Classical.propDecidable _) (.ok (.lst (List.replicate k.toNat a).flatten)) .stuck
  | _, _ => .stuck
noncomputable def dDiv : D → D → R D
  | .int i, .int j => @ite (R D) (0 < j ∧ j < 1073741824) (Classical.propDecidable _) (.ok (.int (i / j))) .stuck
  | _, _ => .stuck
def dMod : D → D → R D
  | .int i, .int j => if 0 < j then .ok (.int (i % j)) else .stuck
  | _, _ => .stuck
noncomputable def dPow : D → D → R D
  | .int i, .int j => @ite (R D) (0 ≤ j ∧ j ≤ 1000000 ∧ i.natAbs < 2 ^ 64) (Classical.propDecidable _) (.ok (.int (i ^ j.toNat))) .stuck
  | _, _ => .stuck
abbrev rAddAll (K : PySem.W.Frag) : R2 := fun x y H Q => (rI0 fun i j => .int (i + j)) x y H Q ∨ (fun x y H Q => (fun x y H Q => ∃ i j, x = V.str i ∧ y = V.str j ∧ i.length + j.length ≤ sizeLine ∧ Q (V.str (i ++ j)) H) x y H Q ∨ (fun x y H Q => rCat x y H Q ∨ rCatA K x y H Q) x y H Q) x y H Q
theorem op_addAll : OpR X (binaryOp .Add) (rAddAll X.K) := OpR.or op_add (OpR.or op_add_str (OpR.or op_cat op_catA))
theorem RpL.nilV {K : PySem.W.Frag} {Z : Hp} {ds : List D} (r : RpL K Z [] ds) : ds = [] := by cases r; rfl
theorem add_ok : Op2 X cl W (GE X.K) (rAddAll X.K) dAdd := by
  intro σ Z H x y d e Q z gx gy s
  cases d <;> cases e <;> simp only [dAdd] at s <;> try exact Sat.no s
  case int.int i j => exact .inl ⟨i, j, gx.int, gy.int, Sat.ok s (Ext.refl z) (.int _)⟩
  case str.str i j =>
    split at s
    · rename_i h
      exact .inr (.inl ⟨i, j, gx.str, gy.str, by rw [sizeLine_eq]; exact h, Sat.ok s (Ext.refl z) (.str _)⟩)
    · exact Sat.no s
  case lst.lst i j =>
    split at s
    · rename_i h
      obtain ⟨a, vs, ex, ha, la, ra⟩ := gx.lst z
      obtain ⟨b, ws, ey, hb, lb, rb⟩ := gy.lst z
      have hl : vs.length + ws.length ≤ sizeLine := by rw [ra.length, rb.length, sizeLine_eq]; exact h
      exact .inr (.inr (.inl ⟨a, b, vs, ws, ex, ey, ha, hb, hl, fun p hp => Sat.ok s (Ext.new z hp) (.lst upd_same (by rw [List.length_append]; exact hl) ((ra.append rb).mono (Same.le (same_upd (same_none z hp)))))⟩))
    · exact Sat.no s
  case tup.tup i j =>
    split at s
    · rename_i h
      obtain ⟨a, vs, ex, ha, la, ra⟩ := gx.tup z
      obtain ⟨b, ws, ey, hb, lb, rb⟩ := gy.tup z
      have hl : vs.length + ws.length ≤ sizeLine := by rw [ra.length, rb.length, sizeLine_eq]; exact h
      refine .inr (.inr (.inr ⟨a, b, vs, ws, ex, ey, .of ha, .of hb, hl, fun hn => ?_, fun _ hn => ?_, fun _ _ p hp => Sat.ok s (Ext.new z hp) (.tup upd_same (by rw [List.length_append]; exact hl) ((ra.append rb).mono (Same.le (same_upd (same_none z hp)))))⟩))
      · subst hn
        have := ra.nilV; subst this
        have gy' := gy
        rcases gy with gy | ⟨_, _, _, _, _, w⟩
        · subst ey; exact Sat.ok s (Ext.refl z) gy
        · cases w
      · subst hn
        have := rb.nilV; subst this
        rcases gx with gx | ⟨_, _, _, _, _, w⟩
        · subst ex; exact Sat.ok s (Ext.refl z) (by rw [List.append_nil]; exact gx)
        · cases w
    · exact Sat.no s
theorem de_add {a b : Expr} {fa fb : Ev → R D} {pos : Pos} (ha : DB X cl W a fa) (hb : DB X cl W b fb) : DE X cl W (.BinOp a .Add b pos) (e2 dAdd fa fb) := dx_op gokE op_addAll add_ok ha hb
theorem sub_ok : Op2 X cl W (GE X.K) (rI0 fun i j => .int (i - j)) dSub := by
  intro σ Z H x y d e Q z gx gy s
  cases d <;> cases e <;> simp only [dSub] at s <;> try exact Sat.no s
  case int.int i j => exact ⟨i, j, gx.int, gy.int, Sat.ok s (Ext.refl z) (.int _)⟩
theorem de_sub {a b : Expr} {fa fb : Ev → R D} {pos : Pos} (ha : DB X cl W a fa) (hb : DB X cl W b fb) : DE X cl W (.BinOp a .Sub b pos) (e2 dSub fa fb) := dx_op gokE op_sub sub_ok ha hb
theorem mul_ok : Op2 X cl W (GE X.K) (fun x y H Q => (rI CMul fun i j => .int (i * j)) x y H Q ∨ rRep x y H Q) dMul := by
  intro σ Z H x y d e Q z gx gy s
  cases d <;> cases e <;> simp only [dMul] at s <;> try exact Sat.no s
  case int.int i j =>
    split at s
    · rename_i h
      exact .inl ⟨i, j, gx.int, gy.int, h, Sat.ok s (Ext.refl z) (.int _)⟩
    · exact Sat.no s
  case lst.int i k =>
    split at s
    · rename_i h
      obtain ⟨a, vs, ex, ha, la, ra⟩ := gx.lst z
      have hl : vs.length * k.toNat ≤ sizeLine := by rw [ra.length, sizeLine_eq]; exact h.2.2
      exact .inr ⟨a, k, vs, ex, gy.int, ha, h.1, h.2.1, hl, fun p hp => Sat.ok s (Ext.new z hp) (.lst upd_same (by simp; rw [Nat.mul_comm]; exact hl) ((ra.rep _).mono (Same.le (same_upd (same_none z hp)))))⟩
    · exact Sat.no s
theorem de_mul {a b : Expr} {fa fb : Ev → R D} {pos : Pos} (ha : DB X cl W a fa) (hb : DB X cl W b fb) : DE X cl W (.BinOp a .Mult b pos) (e2 dMul fa fb) := dx_op gokE (OpR.or op_mul op_rep) mul_ok ha hb
/-- a new list that may change -/
noncomputable def dRep : D → D → R D
  | .lst a, .int k => @ite (R D) (-(2 ^ 63) ≤ k ∧ k < 2 ^ 63 ∧ a.length * k.toNat ≤ 16777216) (Classical.propDecidable _) (.ok (.lst (List.replicate k.toNat a).flatten)) .stuck
  | _, _ => .stuck
theorem rep_ok : Op2 X cl W (GF X.K) rRep dRep := by
  intro σ Z H x y d e Q z gx gy s
  cases d <;> cases e <;> simp only [dRep] at s <;> try exact Sat.no s
  case lst.int i k =>
    split at s
    · rename_i h
      obtain ⟨a, vs, ex, ha, la, ra⟩ := gx.lst z
      have hl : vs.length * k.toNat ≤ sizeLine := by rw [ra.length, sizeLine_eq]; exact h.2.2
      exact ⟨a, k, vs, ex, gy.int, ha, h.1, h.2.1, hl, fun p hp => Sat.ok s (Ext.newO z hp) ⟨p, _, rfl, hp, same_none z hp, upd_same, .lst (by simp; rw [Nat.mul_comm]; exact hl) (ra.rep _)⟩⟩
    · exact Sat.no s
theorem df_rep {a b : Expr} {fa fb : Ev → R D} {pos : Pos} (ha : DB X cl W a fa) (hb : DB X cl W b fb) : DF X cl W (.BinOp a .Mult b pos) (e2 dRep fa fb) := dx_op gokF op_rep rep_ok ha hb
def dCat : D → D → R D
  | .lst a, .lst b => if a.length + b.length ≤ 16777216 then .ok (.lst (a ++ b)) else .stuck
  | _, _ => .stuck
theorem cat_ok : Op2 X cl W (GF X.K) rCat dCat := by
  intro σ Z H x y d e Q z gx gy s
  cases d <;> cases e <;> simp only [dCat] at s <;> try exact Sat.no s
  case lst.lst i j =>
    split at s
    · rename_i h
      obtain ⟨a, vs, ex, ha, la, ra⟩ := gx.lst z
      obtain ⟨b, ws, ey, hb, lb, rb⟩ := gy.lst z
      have hl : vs.length + ws.length ≤ sizeLine := by rw [ra.length, rb.length, sizeLine_eq]; exact h
      exact ⟨a, b, vs, ws, ex, ey, ha, hb, hl, fun p hp => Sat.ok s (Ext.newO z hp) ⟨p, _, rfl, hp, same_none z hp, upd_same, .lst (by rw [List.length_append]; exact hl) (ra.append rb)⟩⟩
    · exact Sat.no s
theorem df_cat {a b : Expr} {fa fb : Ev → R D} {pos : Pos} (ha : DB X cl W a fa) (hb : DB X cl W b fb) : DF X cl W (.BinOp a .Add b pos) (e2 dCat fa fb) := dx_op gokF op_cat cat_ok ha hb
theorem div_ok : Op2 X cl W (GE X.K) (rI CDiv fun i j => .int (i / j)) dDiv := by
  intro σ Z H x y d e Q z gx gy s
  cases d <;> cases e <;> simp only [dDiv] at s <;> try exact Sat.no s
  case int.int i j =>
    split at s
    · rename_i h
      exact ⟨i, j, gx.int, gy.int, h, Sat.ok s (Ext.refl z) (.int _)⟩
    · exact Sat.no s
theorem de_div {a b : Expr} {fa fb : Ev → R D} {pos : Pos} (ha : DB X cl W a fa) (hb : DB X cl W b fb) : DE X cl W (.BinOp a .FloorDiv b pos) (e2 dDiv fa fb) := dx_op gokE op_fdiv div_ok ha hb
theorem mod_ok : Op2 X cl W (GE X.K) (rI (fun _ j => 0 < j) fun i j => .int (i % j)) dMod := by
  intro σ Z H x y d e Q z gx gy s
  cases d <;> cases e <;> simp only [dMod] at s <;> try exact Sat.no s
  case int.int i j =>
    split at s
    · rename_i h
      exact ⟨i, j, gx.int, gy.int, h, Sat.ok s (Ext.refl z) (.int _)⟩
    · exact Sat.no s
theorem de_mod {a b : Expr} {fa fb : Ev → R D} {pos : Pos} (ha : DB X cl W a fa) (hb : DB X cl W b fb) : DE X cl W (.BinOp a .Mod b pos) (e2 dMod fa fb) := dx_op gokE op_mod mod_ok ha hb
theorem pow_ok : Op2 X cl W (GE X.K) (rI CPow fun i j => .int (i ^ j.toNat)) dPow := by
  intro σ Z H x y d e Q z gx gy s
  cases d <;> cases e <;> simp only [dPow] at s <;> try exact Sat.no s
  case int.int i j =>
    split at s
    · rename_i h
      exact ⟨i, j, gx.int, gy.int, h, Sat.ok s (Ext.refl z) (.int _)⟩
    · exact Sat.no s
theorem de_pow {a b : Expr} {fa fb : Ev → R D} {pos : Pos} (ha : DB X cl W a fa) (hb : DB X cl W b fb) : DE X cl W (.BinOp a .Pow b pos) (e2 dPow fa fb) := dx_op gokE op_pow pow_ok ha hb
def e1 (g : D → R D) (f : Ev → R D) : Ev → R D := fun ρ => f ρ >>= g
def dNeg : D → R D
  | .int i => .ok (.int (-i))
  | _ => .stuck
theorem de_neg {a : Expr} {fa : Ev → R D} {pos : Pos} (ha : DB X cl W a fa) : DE X cl W (.UnaryOp .USub a pos) (e1 dNeg fa) :=
  PE.imp (pe_un un_neg ha) fun σ H Q ⟨H0, Z0, Z, ρ, m, s⟩ => ⟨H0, Z0, Z, ρ, m, s.bind gokE fun d v Z1 H1 x1 g1 s1 => by
    cases d <;> simp only [dNeg] at s1 <;> try exact Sat.no s1
    case int i => exact ⟨i, g1.int, Sat.ok s1 (Ext.refl x1.z') (.int _)⟩⟩

/-! ### comparisons of whole numbers, texts; == over data -/
def tlt : List Int → List Int → Bool
  | [], [] => false
  | [], _ :: _ => true
  | _ :: _, [] => false
  | x :: xs, y :: ys => if x = y then tlt xs ys else decide (x < y)
theorem tlt_eq : ∀ a b : List Int, HT.lexLt a b = tlt a b
  | [], [] => rfl
  | [], _ :: _ => rfl
  | _ :: _, [] => rfl
  | x :: xs, y :: ys => by
    show (if x = y then HT.lexLt xs ys else decide (x < y)) = (if x = y then tlt xs ys else decide (x < y))
    rw [tlt_eq xs ys]
/-- the whole numbers of a list of data, if they are some -/
def ints? : List D → Option (List Int)
  | [] => some []
  | .int i :: r => (ints? r).map (i :: ·)
  | _ :: _ => none
theorem ints?_eq : ∀ {l : List D} {ns : List Int}, ints? l = some ns → l = ns.map D.int
  | [], ns, h => by simp [ints?] at h; subst h; rfl
  | .int i :: r, ns, h => by
    simp only [ints?, Option.map_eq_some_iff] at h
    obtain ⟨m, e, rfl⟩ := h
    rw [ints?_eq e]; rfl
  | .non :: _, _, h => by simp [ints?] at h
  | .bl _ :: _, _, h => by simp [ints?] at h
  | .str _ :: _, _, h => by simp [ints?] at h
  | .tup _ :: _, _, h => by simp [ints?] at h
  | .tux _ :: _, _, h => by simp [ints?] at h
  | .lst _ :: _, _, h => by simp [ints?] at h
  | .dK _ :: _, _, h => by simp [ints?] at h
  | .dT _ :: _, _, h => by simp [ints?] at h
  | .scr _ :: _, _, h => by simp [ints?] at h
@[simp] theorem ints?_map : ∀ l : List Int, ints? (l.map D.int) = some l
  | [] => rfl
  | i :: l => by simp [ints?, ints?_map l]
def dLt : D → D → R D
  | .int i, .int j => .ok (.bl (decide (i < j)))
  | .tup a, .tup b => match ints? a, ints? b with
    | some ns, some ms => .ok (.bl (tlt ns ms))
    | _, _ => .stuck
  | _, _ => .stuck
def dLe : D → D → R D
  | .int i, .int j => .ok (.bl (decide (i ≤ j)))
  | _, _ => .stuck
def dGt : D → D → R D
  | .int i, .int j => .ok (.bl (decide (j < i)))
  | _, _ => .stuck
def dGe : D → D → R D
  | .int i, .int j => .ok (.bl (decide (j ≤ i)))
  | _, _ => .stuck
theorem lt_ok : Op2 X cl W (GE X.K) (fun x y H Q => (rI0 fun i j => .bl (decide (i < j))) x y H Q ∨ rLtT X.K x y H Q) dLt := by
  intro σ Z H x y d e Q z gx gy s
  cases d <;> cases e <;> simp only [dLt] at s <;> try exact Sat.no s
  case int.int i j => exact .inl ⟨i, j, gx.int, gy.int, Sat.ok s (Ext.refl z) (.bl _)⟩
  case tup.tup i j =>
    split at s
    · rename_i ns ms hn hm
      have e1 := ints?_eq hn
      have e2 := ints?_eq hm
      subst e1 e2
      obtain ⟨a, vs, ex, ha, la, ra⟩ := gx.tup z
      obtain ⟨b, ws, ey, hb, lb, rb⟩ := gy.tup z
      have h1 := ra.intsV
      have h2 := rb.intsV
      subst h1 h2
      exact .inr ⟨a, b, ns, ms, ex, ey, .of ha, .of hb, by rw [tlt_eq]; exact Sat.ok s (Ext.refl z) (.bl _)⟩
    · exact Sat.no s
theorem de_lt {a b : Expr} {fa fb : Ev → R D} {pos : Pos} (hu : X.A.units + 64 < cLine) (ha : DB X cl W a fa) (hb : DB X cl W b fb) : DE X cl W (.Compare a [.Lt] [b] pos) (e2 dLt fa fb) := dx_cmp gokE (OpR.or op_lt (op_ltT (by omega))) lt_ok ha hb (nomark _)
theorem le_ok : Op2 X cl W (GE X.K) (rI0 fun i j => .bl (decide (i ≤ j))) dLe := by
  intro σ Z H x y d e Q z gx gy s
  cases d <;> cases e <;> simp only [dLe] at s <;> try exact Sat.no s
  case int.int i j => exact ⟨i, j, gx.int, gy.int, Sat.ok s (Ext.refl z) (.bl _)⟩
theorem de_le {a b : Expr} {fa fb : Ev → R D} {pos : Pos} (ha : DB X cl W a fa) (hb : DB X cl W b fb) : DE X cl W (.Compare a [.LtE] [b] pos) (e2 dLe fa fb) := dx_cmp gokE op_le le_ok ha hb (nomark _)
theorem gt_ok : Op2 X cl W (GE X.K) (rI0 fun i j => .bl (decide (j < i))) dGt := by
  intro σ Z H x y d e Q z gx gy s
  cases d <;> cases e <;> simp only [dGt] at s <;> try exact Sat.no s
  case int.int i j => exact ⟨i, j, gx.int, gy.int, Sat.ok s (Ext.refl z) (.bl _)⟩
theorem de_gt {a b : Expr} {fa fb : Ev → R D} {pos : Pos} (ha : DB X cl W a fa) (hb : DB X cl W b fb) : DE X cl W (.Compare a [.Gt] [b] pos) (e2 dGt fa fb) := dx_cmp gokE op_gt gt_ok ha hb (nomark _)
theorem ge_ok : Op2 X cl W (GE X.K) (rI0 fun i j => .bl (decide (j ≤ i))) dGe := by
  intro σ Z H x y d e Q z gx gy s
  cases d <;> cases e <;> simp only [dGe] at s <;> try exact Sat.no s
  case int.int i j => exact ⟨i, j, gx.int, gy.int, Sat.ok s (Ext.refl z) (.bl _)⟩
theorem de_ge {a b : Expr} {fa fb : Ev → R D} {pos : Pos} (ha : DB X cl W a fa) (hb : DB X cl W b fb) : DE X cl W (.Compare a [.GtE] [b] pos) (e2 dGe fa fb) := dx_cmp gokE op_ge ge_ok ha hb (nomark _)

/-- the library's data -/
def py : D → PyData
  | .non => .none
  | .bl b => .bool b
  | .int i => .int i
  | .str s => .str s
  | .tup l => .tuple (pys l)
  | .tux l => .tuple (pys l)
  | .lst l => .list (pys l)
  | .dK _ => .dict []
  | .dT _ => .dict []
  | .scr _ => .dict []
where pys : List D → List PyData
  | [] => []
  | d :: l => py d :: pys l
/-- == of data -/
def D.eqv (a b : D) : Bool := PyData.eqv (py a) (py b)
def okd (d : D) : Bool := SeqAt.shaped (py d)
mutual
theorem rp_dp {K : PySem.W.Frag} {Z H : Hp} (z : Same Z H) : ∀ {v : V} {d : D}, Rp K Z v d → PyData.canLay0 (py d) = true → Dp K H v (py d)
  | _, _, .non, _ => .non
  | _, _, .bl b, _ => .bl b
  | _, _, .int i, _ => .int i
  | _, _, .str x, _ => .str x
  | _, _, .tup h l r, c => .tup (.of (z _ _ h)) (rp_dps z r (by simpa [py, PyData.canLay0] using c))
  | _, _, .tux h d l r, c => .tup (sqt_frz (z _ _ h)) (rp_dps z r (by simpa [py, PyData.canLay0] using c))
  | _, _, .lst h l r, c => .lst (.of (z _ _ h)) (rp_dps z r (by simpa [py, PyData.canLay0] using c))
  | _, _, .dK h l r, c => by simp [py, PyData.canLay0] at c
  | _, _, .dT h l r, c => by simp [py, PyData.canLay0] at c
  | _, _, .scr h l, c => by simp [py, PyData.canLay0] at c
theorem rp_dps {K : PySem.W.Frag} {Z H : Hp} (z : Same Z H) : ∀ {v : List V} {d : List D}, RpL K Z v d → PyData.canLayAll0 (py.pys d) = true → DpAll K H v (py.pys d)
  | _, _, .nil, _ => .nil
  | _, _, .cons a b, c => by
    simp only [py.pys, PyData.canLayAll0, Bool.and_eq_true] at c
    exact .cons (rp_dp z a c.1) (rp_dps z b c.2)
end
theorem gb_dp {K : PySem.W.Frag} {H0 Z H : Hp} {v : V} {d : D} (z : Same Z H) (g : GB K H0 Z H v d) (c : PyData.canLay0 (py d) = true) : Dp K H v (py d) := by
  rcases g with g | ⟨a, o, ev, n, ho, w⟩
  · exact rp_dp z g c
  · subst ev
    cases w with
    | lst l r => exact .lst (.of ho) (rp_dps z r (by simpa [py, PyData.canLay0] using c))
    | dK l r => simp [py, PyData.canLay0] at c
    | dT l r => simp [py, PyData.canLay0] at c
def dEq (x y : D) : R D := if okd x = true ∧ okd y = true then .ok (.bl (D.eqv x y)) else .stuck
def dNe (x y : D) : R D := if okd x = true ∧ okd y = true then .ok (.bl (!D.eqv x y)) else .stuck
theorem eq_ok : Op2 X cl W (GE X.K) (rEqD X.K) dEq := by
  intro σ Z H x y d e Q z gx gy s
  unfold dEq at s
  split at s
  · rename_i h
    exact ⟨py d, py e, gb_dp z gx (SeqAt.canLay_of_shaped h.1), gb_dp z gy (SeqAt.canLay_of_shaped h.2), h.1, h.2, Sat.ok s (Ext.refl z) (.bl _)⟩
  · exact Sat.no s
theorem ne_ok : Op2 X cl W (GE X.K) (rNeD X.K) dNe := by
  intro σ Z H x y d e Q z gx gy s
  unfold dNe at s
  split at s
  · rename_i h
    exact ⟨py d, py e, gb_dp z gx (SeqAt.canLay_of_shaped h.1), gb_dp z gy (SeqAt.canLay_of_shaped h.2), h.1, h.2, Sat.ok s (Ext.refl z) (.bl _)⟩
  · exact Sat.no s
theorem de_eq {a b : Expr} {fa fb : Ev → R D} {pos : Pos} (hu : X.A.units + 64 < cLine) (ha : DB X cl W a fa) (hb : DB X cl W b fb) : DE X cl W (.Compare a [.Eq] [b] pos) (e2 dEq fa fb) := dx_cmp gokE (op_eqD hu) eq_ok ha hb (nomark _)
theorem de_ne {a b : Expr} {fa fb : Ev → R D} {pos : Pos} (hu : X.A.units + 64 < cLine) (ha : DB X cl W a fa) (hb : DB X cl W b fb) : DE X cl W (.Compare a [.NotEq] [b] pos) (e2 dNe fa fb) := dx_cmp gokE (op_neD hu) ne_ok ha hb (nomark _)
/-- is None -/
def isNon : D → Bool
  | .non => true
  | _ => false
def dIsN : D → D → R D := fun x y => if isNon y = true then .ok (.bl (isNon x)) else .stuck
def dNotN : D → D → R D := fun x y => if isNon y = true then .ok (.bl (!isNon x)) else .stuck
theorem isNon_v {K : PySem.W.Frag} {H0 Z H : Hp} {v : V} {d : D} (g : GB K H0 Z H v d) : decide (v = V.non) = isNon d := by
  rcases g with g | ⟨a, o, ev, n, ho, w⟩
  · cases g <;> simp [isNon]
  · subst ev; cases w <;> simp [isNon]
theorem isN_ok : Op2 X cl W (GE X.K) (fun x y H Q => y = .non ∧ Q (.bl (decide (x = .non))) H) dIsN := by
  intro σ Z H x y d e Q z gx gy s
  unfold dIsN at s
  split at s
  · rename_i h
    cases e <;> simp [isNon] at h
    refine ⟨gy.non, ?_⟩
    rw [isNon_v gx]
    exact Sat.ok s (Ext.refl z) (.bl _)
  · exact Sat.no s
theorem notN_ok : Op2 X cl W (GE X.K) (fun x y H Q => y = .non ∧ Q (.bl (!decide (x = .non))) H) dNotN := by
  intro σ Z H x y d e Q z gx gy s
  unfold dNotN at s
  split at s
  · rename_i h
    cases e <;> simp [isNon] at h
    refine ⟨gy.non, ?_⟩
    rw [isNon_v gx]
    exact Sat.ok s (Ext.refl z) (.bl _)
  · exact Sat.no s
theorem de_isN {a b : Expr} {fa fb : Ev → R D} {pos : Pos} (ha : DB X cl W a fa) (hb : DB X cl W b fb) : DE X cl W (.Compare a [.Is] [b] pos) (e2 dIsN fa fb) := dx_cmp gokE op_isN isN_ok ha hb (nomark _)
theorem de_notN {a b : Expr} {fa fb : Ev → R D} {pos : Pos} (ha : DB X cl W a fa) (hb : DB X cl W b fb) : DE X cl W (.Compare a [.IsNot] [b] pos) (e2 dNotN fa fb) := dx_cmp gokE op_notN notN_ok ha hb (nomark _)
/-- in, not in: a list of data -/
def dInL (x y : D) : R D := match y with
  | .lst l => if okd x = true ∧ okd (.lst l) = true then .ok (.bl (l.any fun z => D.eqv z x)) else .stuck
  | _ => .stuck
def dNotInL (x y : D) : R D := match y with
  | .lst l => if okd x = true ∧ okd (.lst l) = true then .ok (.bl (!l.any fun z => D.eqv z x)) else .stuck
  | _ => .stuck
theorem pys_any (p : PyData → Bool) : ∀ l : List D, (py.pys l).any p = l.any fun z => p (py z)
  | [] => rfl
  | d :: l => by simp [py.pys, pys_any p l]
theorem inL_ok : Op2 X cl W (GE X.K) (rInD X.K) dInL := by
  intro σ Z H x y d e Q z gx gy s
  unfold dInL at s
  cases e <;> try exact Sat.no s
  case lst l =>
    simp only at s
    split at s
    · rename_i h
      refine ⟨py d, py.pys l, gb_dp z gx (SeqAt.canLay_of_shaped h.1), gb_dp z gy (SeqAt.canLay_of_shaped h.2), h.1, h.2, ?_⟩
      rw [pys_any]
      exact Sat.ok s (Ext.refl z) (.bl _)
    · exact Sat.no s
theorem notInL_ok : Op2 X cl W (GE X.K) (rNotInD X.K) dNotInL := by
  intro σ Z H x y d e Q z gx gy s
  unfold dNotInL at s
  cases e <;> try exact Sat.no s
  case lst l =>
    simp only at s
    split at s
    · rename_i h
      refine ⟨py d, py.pys l, gb_dp z gx (SeqAt.canLay_of_shaped h.1), gb_dp z gy (SeqAt.canLay_of_shaped h.2), h.1, h.2, ?_⟩
      rw [pys_any]
      exact Sat.ok s (Ext.refl z) (.bl _)
    · exact Sat.no s
/-! ### subscripts -/
def dIxS : D → D → R D
  | .lst l, .int i => match atI l i with
    | some d => .ok d
    | none => .stuck
  | .tup l, .int i => match atI l i with
    | some d => .ok d
    | none => .stuck
  | .tux l, .int i => match atI l i with
    | some d => .ok d
    | none => .stuck
  | .scr l, .int i => match atI l i with
    | some d => .ok (.int d)
    | none => .stuck
  | .str z, .int i => if z.length ≤ 16777216 then match atI z.cps.toList i with
    | some c => .ok (.str ⟨#[c]⟩)
    | none => .stuck else .stuck
  | _, _ => .stuck
theorem atI_rp {K : PySem.W.Frag} {Z : Hp} {vs : List V} {ds : List D} {i : Int} {d : D} (r : RpL K Z vs ds) (h : atI ds i = some d) : ∃ v, atI vs i = some v ∧ Rp K Z v d := by
  unfold atI at h ⊢
  rw [r.length]
  cases hx : ixN ds.length i with
  | none => rw [hx] at h; cases h
  | some j =>
    rw [hx] at h
    exact r.get h
theorem ix_ok : Op2 X cl W (GE X.K) (rIx X.K) dIxS := by
  intro σ Z H x y d e Q z gx gy s
  cases d <;> cases e <;> simp only [dIxS] at s <;> try exact Sat.no s
  case lst.int l i =>
    split at s
    · rename_i u hu
      obtain ⟨a, vs, ex, ha, la, ra⟩ := gx.lst z
      obtain ⟨v, hv, rv⟩ := atI_rp ra hu
      exact .inl ⟨a, vs, i, v, ex, gy.int, .of ha, hv, Sat.ok s (Ext.refl z) rv⟩
    · exact Sat.no s
  case tup.int l i =>
    split at s
    · rename_i u hu
      obtain ⟨a, vs, ex, ha, la, ra⟩ := gx.tup z
      obtain ⟨v, hv, rv⟩ := atI_rp ra hu
      exact .inr (.inl ⟨a, vs, i, v, ex, gy.int, .of ha, hv, Sat.ok s (Ext.refl z) rv⟩)
    · exact Sat.no s
  case tux.int l i =>
    split at s
    · rename_i u hu
      obtain ⟨a, o, vs, ex, ha, hd, la, ra⟩ := gx.tux z
      obtain ⟨v, hv, rv⟩ := atI_rp ra hu
      exact .inr (.inl ⟨a, vs, i, v, ex, gy.int, sqt_frz ha, hv, Sat.ok s (Ext.refl z) rv⟩)
    · exact Sat.no s
  case scr.int l i =>
    split at s
    · rename_i u hu
      obtain ⟨a, ex, ha, hl⟩ := gx.scr z
      have hv : atI (l.map V.int) i = some (.int u) := by
        unfold atI at hu ⊢
        rw [List.length_map]
        cases hx : ixN l.length i with
        | none => rw [hx] at hu; cases hu
        | some j =>
          rw [hx] at hu
          simp only [Option.bind_some] at hu ⊢
          rw [List.getElem?_map, hu]; rfl
      exact .inl ⟨a, _, i, _, ex, gy.int, ha, hv, Sat.ok s (Ext.refl z) (.int _)⟩
    · exact Sat.no s
  case str.int w i =>
    split at s
    · rename_i hw
      split at s
      · rename_i c hc
        exact .inr (.inr ⟨w, i, c, gx.str, gy.int, by rw [sizeLine_eq]; exact hw, hc, Sat.ok s (Ext.refl z) (.str _)⟩)
      · exact Sat.no s
    · exact Sat.no s
end
end DL

/-! The data layer, part 4: logic, tests, arguments, calls, displays, built-ins, dicts. -/
namespace DL
open PySem PySem.Spec PyProof.Rows L2

section
variable {X : Cx} {cl : Nat → Value} {W : WX} {G : Hp → Hp → Hp → V → D → Prop}
/-! ### logic -/
def asB : D → R Bool
  | .bl b => .ok b
  | _ => .stuck
def eAnd (f g : Ev → R D) : Ev → R D := fun ρ => f ρ >>= fun x => asB x >>= fun b => if b = true then g ρ else .ok (.bl false)
def eOr (f g : Ev → R D) : Ev → R D := fun ρ => f ρ >>= fun x => asB x >>= fun b => if b = true then .ok (.bl true) else g ρ
def dNot : D → R D
  | .bl b => .ok (.bl (!b))
  | _ => .stuck
theorem de_and1 {op : BoolOp} {a : Expr} {fa : Ev → R D} {pos : Pos} (ha : DE X cl W a fa) : DE X cl W (.BoolOp op [a] pos) fa := pe_one ha
theorem de_and {a b : Expr} {rest : List Expr} {fa fb : Ev → R D} {pos : Pos} (ha : DE X cl W a fa) (hb : DE X cl W (.BoolOp .And (b :: rest) pos) fb) : DE X cl W (.BoolOp .And (a :: b :: rest) pos) (eAnd fa fb) :=
  PE.imp (pe_and ha hb) fun σ H Q ⟨H0, Z0, Z, ρ, m, s⟩ => ⟨H0, Z0, Z, ρ, m, s.bind gokE fun d v Z1 H1 x1 g1 s1 => by
    cases d <;> simp only [asB, R.stuck_bind] at s1 <;> try exact Sat.no s1
    rename_i c
    cases g1
    refine ⟨c, rfl, ?_⟩
    cases c with
    | true => rw [if_pos rfl]; exact ⟨H0, Z0, Z1, ρ, m.ext x1, s1⟩
    | false => rw [if_neg Bool.false_ne_true]; exact Sat.ok (G := GE X.K) s1 (Ext.refl x1.z') (.bl false)⟩
theorem de_or {a b : Expr} {rest : List Expr} {fa fb : Ev → R D} {pos : Pos} (ha : DE X cl W a fa) (hb : DE X cl W (.BoolOp .Or (b :: rest) pos) fb) : DE X cl W (.BoolOp .Or (a :: b :: rest) pos) (eOr fa fb) :=
  PE.imp (pe_or ha hb) fun σ H Q ⟨H0, Z0, Z, ρ, m, s⟩ => ⟨H0, Z0, Z, ρ, m, s.bind gokE fun d v Z1 H1 x1 g1 s1 => by
    cases d <;> simp only [asB, R.stuck_bind] at s1 <;> try exact Sat.no s1
    rename_i c
    cases g1
    refine ⟨c, rfl, ?_⟩
    cases c with
    | true => rw [if_pos rfl]; exact Sat.ok (G := GE X.K) s1 (Ext.refl x1.z') (.bl true)
    | false => rw [if_neg Bool.false_ne_true]; exact ⟨H0, Z0, Z1, ρ, m.ext x1, s1⟩⟩
theorem de_not {a : Expr} {fa : Ev → R D} {pos : Pos} (ha : DE X cl W a fa) : DE X cl W (.UnaryOp .Not a pos) (e1 dNot fa) :=
  PE.imp (pe_not ha) fun σ H Q ⟨H0, Z0, Z, ρ, m, s⟩ => ⟨H0, Z0, Z, ρ, m, s.bind gokE fun d v Z1 H1 x1 g1 s1 => by
    cases d <;> simp only [dNot] at s1 <;> try exact Sat.no s1
    rename_i c
    cases g1
    exact ⟨c, rfl, Sat.ok (G := GE X.K) s1 (Ext.refl x1.z') (.bl _)⟩⟩
/-- a < b < c -/
def eChain (g g' : D → D → R D) (fa fb fc : Ev → R D) : Ev → R D := fun ρ => fa ρ >>= fun x => fb ρ >>= fun y => g x y >>= fun z => asB z >>= fun k => if k = true then fc ρ >>= fun w => g' y w else .ok (.bl false)
theorem de_chain {a b c : Expr} {fa fb fc : Ev → R D} {pos : Pos} {op op' : CmpOp} {r r' : R2} {g g' : D → D → R D} (ho : OpR X (compareOp op) r) (ho' : OpR X (compareOp op') r') (hg : Op2 X cl W (GE X.K) r g) (hg' : Op2 X cl W (GE X.K) r' g')
    (ha : DB X cl W a fa) (hb : DB X cl W b fb) (hc : DB X cl W c fc) (hl : lastMarks [op, op'] [b, c] = false := by rfl) : DE X cl W (.Compare a [op, op'] [b, c] pos) (eChain g g' fa fb fc) :=
  PE.imp (pe_chain ho ho' ha hb hc hl) fun σ H Q ⟨H0, Z0, Z, ρ, m, s⟩ => ⟨H0, Z0, Z, ρ, m, s.bind gokE fun d v Z1 H1 x1 g1 s1 => ⟨H0, Z0, Z1, ρ, m.ext x1, s1.bind gokE fun d2 v2 Z2 H2 x2 g2 s2 => by
    refine hg σ Z2 H2 v v2 d d2 _ x2.z' (gokB.s _ _ _ _ _ _ _ g1 x2) g2 (s2.bind gokE fun d3 v3 Z3 H3 x3 g3 s3 => ?_)
    cases d3 <;> simp only [asB, R.stuck_bind] at s3 <;> try exact Sat.no s3
    rename_i k
    cases g3
    refine ⟨k, rfl, ?_⟩
    cases k with
    | true =>
      rw [if_pos rfl]
      exact ⟨H0, Z0, Z3, ρ, ((m.ext x1).ext x2).ext x3, Sat.bind gokE s3 fun d4 v4 Z4 H4 x4 g4 s4 => hg' σ Z4 H4 v2 v4 d2 d4 Q x4.z' (gokB.s _ _ _ _ _ _ _ (gokB.s _ _ _ _ _ _ _ g2 x3) x4) g4 s4⟩
    | false => rw [if_neg Bool.false_ne_true]; exact Sat.ok (G := GE X.K) s3 (Ext.refl x3.z') (.bl false)⟩⟩
/-! ### tests -/
def truD : D → R Bool
  | .non => .ok false
  | .bl b => .ok b
  | .int i => .ok (i != 0)
  | .tup l => .ok (!l.isEmpty)
  | .lst l => .ok (!l.isEmpty)
  | _ => .stuck
def eTru (f : Ev → R D) : Ev → R Bool := fun ρ => f ρ >>= truD
theorem RpL.isEmpty {K : PySem.W.Frag} {Z : Hp} {vs : List V} {ds : List D} (r : RpL K Z vs ds) : vs.isEmpty = ds.isEmpty := by cases r <;> rfl
theorem tru_ok {H0 Z H : Hp} {x : V} {d : D} {k : Bool} (z : Same Z H) (g : GB X.K H0 Z H x d) (h : truD d = .ok k) : TruV X.K x H k := by
  cases d <;> simp only [truD] at h <;> try cases h
  case non => have := g.non; subst this; rfl
  case bl => have := g.bl; subst this; rfl
  case int => have := g.int; subst this; rfl
  case tup l =>
    obtain ⟨a, vs, ex, ha, la, ra⟩ := g.tup z
    subst ex
    exact .inr (.inl ⟨vs, .of ha, by rw [ra.isEmpty]⟩)
  case lst l =>
    obtain ⟨a, vs, ex, ha, la, ra⟩ := g.lst z
    subst ex
    exact .inl ⟨vs, .of ha, by rw [ra.isEmpty]⟩
theorem dt_tru {a : Expr} {fa : Ev → R D} (ha : DB X cl W a fa) (he : ∀ whole : Sem Value, PySem.isTrue a X.env whole = (do let v ← whole; standAt a.pos; holding [v] (truthy v)) := by intro _; rfl) : DT X cl W a (eTru fa) :=
  PT.imp (pt_truth ha he) fun σ H Q ⟨H0, Z0, Z, ρ, m, s⟩ => ⟨H0, Z0, Z, ρ, m, s.bind gokT fun d v Z1 H1 x1 g1 s1 => by
    cases h : truD d with
    | ok k => rw [h] at s1; exact ⟨k, tru_ok x1.z' g1 h, Sat.ok s1 (Ext.refl x1.z') rfl⟩
    | ex c => cases d <;> simp [truD] at h
    | stuck => rw [h] at s1; exact Sat.no s1⟩
def tNot (f : Ev → R Bool) : Ev → R Bool := fun ρ => f ρ >>= fun b => .ok (!b)
theorem dt_not {a : Expr} {fa : Ev → R Bool} {pos : Pos} (ha : DT X cl W a fa) : DT X cl W (.UnaryOp .Not a pos) (tNot fa) :=
  PT.imp (pt_not ha) fun σ H Q ⟨H0, Z0, Z, ρ, m, s⟩ => ⟨H0, Z0, Z, ρ, m, s.bind gokT fun d v Z1 H1 x1 g1 s1 => by
    cases g1
    exact Sat.ok (G := GT) s1 (Ext.refl x1.z') rfl⟩
def tAnd (f g : Ev → R Bool) : Ev → R Bool := fun ρ => f ρ >>= fun b => if b = true then g ρ else .ok false
def tOr (f g : Ev → R Bool) : Ev → R Bool := fun ρ => f ρ >>= fun b => if b = true then .ok true else g ρ
theorem dw_and1 {a : Expr} {fa : Ev → R Bool} {pos : Pos} (ha : DT X cl W a fa) : DW X cl W (.BoolOp .And [a] pos) fa := pw_and1 ha
theorem dw_or1 {a : Expr} {fa : Ev → R Bool} {pos : Pos} (ha : DT X cl W a fa) : DW X cl W (.BoolOp .Or [a] pos) fa := pw_or1 ha
theorem dw_and {a b : Expr} {rest : List Expr} {fa fb : Ev → R Bool} {pos : Pos} (ha : DT X cl W a fa) (hb : DW X cl W (.BoolOp .And (b :: rest) pos) fb) : DW X cl W (.BoolOp .And (a :: b :: rest) pos) (tAnd fa fb) :=
  PW.imp (pw_and ha hb) fun σ H Q ⟨H0, Z0, Z, ρ, m, s⟩ => ⟨H0, Z0, Z, ρ, m, s.bind gokT fun d v Z1 H1 x1 g1 s1 => by
    cases g1
    cases d with
    | true => rw [if_pos rfl]; exact ⟨H0, Z0, Z1, ρ, m.ext x1, s1⟩
    | false => rw [if_neg Bool.false_ne_true]; exact Sat.ok (G := GT) s1 (Ext.refl x1.z') rfl⟩
theorem dw_or {a b : Expr} {rest : List Expr} {fa fb : Ev → R Bool} {pos : Pos} (ha : DT X cl W a fa) (hb : DW X cl W (.BoolOp .Or (b :: rest) pos) fb) : DW X cl W (.BoolOp .Or (a :: b :: rest) pos) (tOr fa fb) :=
  PW.imp (pw_or ha hb) fun σ H Q ⟨H0, Z0, Z, ρ, m, s⟩ => ⟨H0, Z0, Z, ρ, m, s.bind gokT fun d v Z1 H1 x1 g1 s1 => by
    cases g1
    cases d with
    | true => rw [if_pos rfl]; exact Sat.ok (G := GT) s1 (Ext.refl x1.z') rfl
    | false => rw [if_neg Bool.false_ne_true]; exact ⟨H0, Z0, Z1, ρ, m.ext x1, s1⟩⟩
theorem dt_w {a : Expr} {fa : Ev → R Bool} (h : DW X cl W a fa) : DT X cl W a fa := PW.pt h
/-- a if t else b -/
def eIf (t : Ev → R Bool) (f g : Ev → R D) : Ev → R D := fun ρ => t ρ >>= fun b => if b = true then f ρ else g ρ
theorem dx_if (gk : Gok G) {c a b : Expr} {ft : Ev → R Bool} {fa fb : Ev → R D} {pos : Pos} (hc : DT X cl W c ft) (ha : DX X cl W G a fa) (hb : DX X cl W G b fb) : DX X cl W G (.IfExp c a b pos) (eIf ft fa fb) :=
  PE.imp (pe_ifExp hc ha hb) fun σ H Q ⟨H0, Z0, Z, ρ, m, s⟩ => ⟨H0, Z0, Z, ρ, m, s.bind gk fun d v Z1 H1 x1 g1 s1 => by
    cases g1
    cases d with
    | true => rw [if_pos rfl]; exact ⟨H0, Z0, Z1, ρ, m.ext x1, s1⟩
    | false => rw [if_neg Bool.false_ne_true]; exact ⟨H0, Z0, Z1, ρ, m.ext x1, s1⟩⟩

/-! ### arguments, displays -/
def eNil : Ev → R (List D) := fun _ => .ok []
def eCons (f : Ev → R D) (g : Ev → R (List D)) : Ev → R (List D) := fun ρ => f ρ >>= fun x => g ρ >>= fun xs => .ok (x :: xs)
theorem da_nil : DA X cl W G [] eNil := PA.imp pa_nil fun σ H Q ⟨H0, Z0, Z, ρ, m, s⟩ => Sat.ok (G := GL G) s (Ext.refl m.sZ) .nil
theorem GL.i (gi : ∀ H H' Z H1 v d, G H Z H1 v d → G H' Z H1 v d) {H H' Z H1 : Hp} : ∀ {vs : List V} {ds : List D}, GL G H Z H1 vs ds → GL G H' Z H1 vs ds
  | _, _, .nil => .nil
  | _, _, .cons a b => .cons (gi _ _ _ _ _ _ a) (GL.i gi b)
theorem da_cons (gk : Gok G) (gi : ∀ H H' Z H1 v d, G H Z H1 v d → G H' Z H1 v d) {a : Expr} {es : List Expr} {fa : Ev → R D} {fs : Ev → R (List D)} (ha : DX X cl W G a fa) (hs : DA X cl W G es fs)
    (hst : starEach (a :: es) X.env = (false, eval a X.env) :: starEach es X.env := by rfl) : DA X cl W G (a :: es) (eCons fa fs) :=
  PA.imp (pa_cons ha hs hst) fun σ H Q ⟨H0, Z0, Z, ρ, m, s⟩ => ⟨H0, Z0, Z, ρ, m, Sat.bind (gokL gk) s fun d v Z1 H1 x1 g1 s1 => ⟨H0, Z0, Z1, ρ, m.ext x1, s1.bind (gokL gk) fun d2 v2 Z2 H2 x2 g2 s2 =>
    Sat.ok (G := GL G) s2 (Ext.refl x2.z') (.cons (gi _ _ _ _ _ _ (gk.s _ _ _ _ _ _ _ g1 x2)) (GL.i gi g2))⟩⟩
theorem giE {K : PySem.W.Frag} : ∀ H H' Z H1 v d, GE K H Z H1 v d → GE K H' Z H1 v d := fun _ _ _ _ _ _ h => h
theorem giB {K : PySem.W.Frag} : ∀ H H' Z H1 v d, GB K H Z H1 v d → GB K H' Z H1 v d := fun _ _ _ _ _ _ h => h
theorem dae_cons {a : Expr} {es : List Expr} {fa : Ev → R D} {fs : Ev → R (List D)} (ha : DE X cl W a fa) (hs : DA X cl W (GE X.K) es fs) (hst : starEach (a :: es) X.env = (false, eval a X.env) :: starEach es X.env := by rfl) : DA X cl W (GE X.K) (a :: es) (eCons fa fs) := da_cons gokE giE ha hs hst
theorem dab_cons {a : Expr} {es : List Expr} {fa : Ev → R D} {fs : Ev → R (List D)} (ha : DB X cl W a fa) (hs : DA X cl W (GB X.K) es fs) (hst : starEach (a :: es) X.env = (false, eval a X.env) :: starEach es X.env := by rfl) : DA X cl W (GB X.K) (a :: es) (eCons fa fs) := da_cons gokB giB ha hs hst
def e1L (g : List D → R D) (f : Ev → R (List D)) : Ev → R D := fun ρ => f ρ >>= g
def dTup (l : List D) : R D := if l.length ≤ 16777216 then .ok (.tup l) else .stuck
def dLst (l : List D) : R D := if l.length ≤ 16777216 then .ok (.lst l) else .stuck
theorem de_tup {es : List Expr} {fs : Ev → R (List D)} {x1 : Nat} {pos : Pos} (hs : DA X cl W (GE X.K) es fs) : DE X cl W (.Tuple es x1 pos) (e1L dTup fs) :=
  PE.imp (pe_tup hs) fun σ H Q ⟨H0, Z0, Z, ρ, m, s⟩ => ⟨H0, Z0, Z, ρ, m, Sat.bind gokE s fun d v Z1 H1 x1 g1 s1 => by
    have r := g1.rp
    unfold dTup at s1
    split at s1
    · rename_i h
      have hl : v.length ≤ sizeLine := by rw [r.length, sizeLine_eq]; exact h
      exact ⟨hl, fun p hp => Sat.ok (G := GE X.K) s1 (Ext.new x1.z' hp) (.tup upd_same hl (r.mono (Same.le (same_upd (same_none x1.z' hp)))))⟩
    · exact Sat.no s1⟩
theorem df_lst {es : List Expr} {fs : Ev → R (List D)} {pos : Pos} (hs : DA X cl W (GE X.K) es fs) : DF X cl W (.List es pos) (e1L dLst fs) :=
  PE.imp (pe_lst hs) fun σ H Q ⟨H0, Z0, Z, ρ, m, s⟩ => ⟨H0, Z0, Z, ρ, m, Sat.bind gokF s fun d v Z1 H1 x1 g1 s1 => by
    have r := g1.rp
    unfold dLst at s1
    split at s1
    · rename_i h
      have hl : v.length ≤ sizeLine := by rw [r.length, sizeLine_eq]; exact h
      exact ⟨hl, fun p hp => Sat.ok (G := GF X.K) s1 (Ext.newO x1.z' hp) ⟨p, _, rfl, hp, same_none x1.z' hp, upd_same, .lst hl r⟩⟩
    · exact Sat.no s1⟩

/-! ### calls of one's own -/
/-- a def's promise: F over data -/
def FnS (K : PySem.W.Frag) (cl : Nat → Value) (G : Hp → Hp → Hp → V → D → Prop) (n : Nat) (F : List D → R D) : Sp := fun vs H Q E => ∃ Z ds, vs.length = n ∧ Same Z H ∧ RpL K Z vs ds ∧ Sat cl (fun c d _ H' => E c d H') [] Z H G (F ds) Q
theorem dx_call (gk : Gok G) {k n : Nat} {f : Addr} {fd : FuncData} {ps : List Str} {F : List D → R D} {x : Str} {p pos : Pos} {e : Expr} {es : List Expr} {fs : Ev → R (List D)} (Fn : FnOk X.prog X.w X.K X.mg X.base (L2.CX X.prog X.w) k f fd ps (FnS X.K cl G n F)) (hn : ps.length = n)
    (hr : Room k X.A) (hg : Gl X x) (hm : X.mg x = some (.ref f)) (hk : PySem.W.keepIn X.K (.ref f) = true) (hb : L2.Binds X.K fd ps []) (tk : Takes X W) (hs : DA X cl W (GE X.K) (e :: es) fs) (hlen : (e :: es).length = n)
    (hdb : (x == ("__debug__" : Str)) = false := by decide) (he : starEach (e :: es) X.env = (false, eval e X.env) :: starEach es X.env := by rfl) (hpl : (backTo pos (starEach es X.env)).any (·.1) = false := by rfl) :
    DX X cl W G (.Call (.Name x p) (e :: es) [] pos) (e1L (fun ds => if ds.length = n then F ds else .stuck) fs) :=
  PE.imp (pe_callS Fn hr hg hm hk hb (fun σ => passAt tk σ) hs hdb he hpl) fun σ H Q ⟨H0, Z0, Z, ρ, m, s⟩ => ⟨H0, Z0, Z, ρ, m, Sat.bind gk s fun d v Z1 H1 x1 g1 s1 => by
    split at s1
    · rename_i h
      have r := g1.rp
      refine ⟨Z1, d, by rw [r.length]; exact h, x1.z', r, ?_⟩
      cases hF : F d with
      | ok z => rw [hF] at s1; exact s1
      | ex c => rw [hF] at s1; exact s1
      | stuck => rw [hF] at s1; exact s1
    · exact Sat.no s1⟩
end
end DL

/-! The data layer, part 5: dicts, subscripts, in; built-ins. -/
namespace DL
open PySem PySem.Spec PyProof.Rows L2

/-! ### keys -/
def key1? : D → Option Key
  | .int i => some (.inl i)
  | .str s => some (.inr s)
  | _ => none
def keys? : List D → Option (List Key)
  | [] => some []
  | d :: l => (key1? d).bind fun k => (keys? l).map (k :: ·)
def dKey : Key → D
  | .inl i => .int i
  | .inr s => .str s
theorem key1?_eq {d : D} {k : Key} (h : key1? d = some k) : d = dKey k := by
  cases d <;> simp [key1?] at h <;> subst h <;> rfl
theorem keys?_eq : ∀ {l : List D} {ks : List Key}, keys? l = some ks → l = ks.map dKey
  | [], ks, h => by simp [keys?] at h; subst h; rfl
  | d :: l, ks, h => by
    simp only [keys?, Option.bind_eq_some_iff, Option.map_eq_some_iff] at h
    obtain ⟨k, h1, r, h2, rfl⟩ := h
    rw [key1?_eq h1, keys?_eq h2]; rfl
theorem rp_key {K : PySem.W.Frag} {Z : Hp} {v : V} {k : Key} (r : Rp K Z v (dKey k)) : v = kV k := by
  cases k <;> cases r <;> rfl
theorem rpl_keys {K : PySem.W.Frag} {Z : Hp} : ∀ {vs : List V} {ks : List Key}, RpL K Z vs (ks.map dKey) → vs = ks.map kV
  | _, [], .nil => rfl
  | _, k :: ks, .cons a b => by rw [rp_key a, rpl_keys b]; rfl
theorem rp_dKey {K : PySem.W.Frag} {Z : Hp} (k : Key) : Rp K Z (kV k) (dKey k) := by cases k <;> constructor
theorem rpl_dKey {K : PySem.W.Frag} {Z : Hp} : ∀ ks : List Key, RpL K Z (ks.map kV) (ks.map dKey)
  | [] => .nil
  | k :: ks => .cons (rp_dKey k) (rpl_dKey ks)
section
variable {κ : Type} [DecidableEq κ]
def lookD (l : List (κ × D)) (k : κ) : Option D := (l.find? fun kv => decide (kv.1 = k)).map (·.2)
def putD (l : List (κ × D)) (k : κ) (v : D) : List (κ × D) :=
  if (l.any fun kv => decide (kv.1 = k)) = true then l.map (fun kv => if kv.1 = k then (kv.1, v) else kv) else l ++ [(k, v)]
def dropD (l : List (κ × D)) (k : κ) : List (κ × D) := l.filter fun kv => !decide (kv.1 = k)
end
section
variable {K : PySem.W.Frag} {Z : Hp}
theorem RpK.length : ∀ {kvs : List (Key × V)} {l : List (Key × D)}, RpK K Z kvs l → kvs.length = l.length
  | _, _, .nil => rfl
  | _, _, .cons _ r => congrArg (· + 1) r.length
theorem RpT.length : ∀ {kvs : List (List Key × V)} {l : List (List Key × D)}, RpT K Z kvs l → kvs.length = l.length
  | _, _, .nil => rfl
  | _, _, .cons _ r => congrArg (· + 1) r.length
theorem RpK.look : ∀ {kvs : List (Key × V)} {l : List (Key × D)} (k : Key), RpK K Z kvs l → (lookD l k = none ∧ valV kvs k = none) ∨ ∃ v d, lookD l k = some d ∧ valV kvs k = some v ∧ Rp K Z v d
  | _, _, _, .nil => .inl ⟨rfl, rfl⟩
  | _, _, k, .cons (k := k0) (v := v) (d := d) a r => by
    by_cases h : k0 = k
    · refine .inr ⟨v, d, ?_, ?_, a⟩ <;> simp [lookD, valV, h]
    · have ih := RpK.look k r
      simpa [lookD, valV, h] using ih
theorem RpT.look : ∀ {kvs : List (List Key × V)} {l : List (List Key × D)} (k : List Key), RpT K Z kvs l → (lookD l k = none ∧ valV kvs k = none) ∨ ∃ v d, lookD l k = some d ∧ valV kvs k = some v ∧ Rp K Z v d
  | _, _, _, .nil => .inl ⟨rfl, rfl⟩
  | _, _, k, .cons (k := k0) (v := v) (d := d) a r => by
    by_cases h : k0 = k
    · refine .inr ⟨v, d, ?_, ?_, a⟩ <;> simp [lookD, valV, h]
    · have ih := RpT.look k r
      simpa [lookD, valV, h] using ih
theorem RpK.anyk : ∀ {kvs : List (Key × V)} {l : List (Key × D)} (k : Key), RpK K Z kvs l → (kvs.any fun kv => decide (kv.1 = k)) = l.any fun kv => decide (kv.1 = k)
  | _, _, _, .nil => rfl
  | _, _, k, .cons _ r => by simp [RpK.anyk k r]
theorem RpT.anyk : ∀ {kvs : List (List Key × V)} {l : List (List Key × D)} (k : List Key), RpT K Z kvs l → (kvs.any fun kv => decide (kv.1 = k)) = l.any fun kv => decide (kv.1 = k)
  | _, _, _, .nil => rfl
  | _, _, k, .cons _ r => by simp [RpT.anyk k r]
theorem RpK.append : ∀ {a : List (Key × V)} {l : List (Key × D)} {b : List (Key × V)} {m : List (Key × D)}, RpK K Z a l → RpK K Z b m → RpK K Z (a ++ b) (l ++ m)
  | _, _, _, _, .nil, r => r
  | _, _, _, _, .cons a b, r => .cons a (RpK.append b r)
theorem RpT.append : ∀ {a : List (List Key × V)} {l : List (List Key × D)} {b : List (List Key × V)} {m : List (List Key × D)}, RpT K Z a l → RpT K Z b m → RpT K Z (a ++ b) (l ++ m)
  | _, _, _, _, .nil, r => r
  | _, _, _, _, .cons a b, r => .cons a (RpT.append b r)
theorem RpK.mapk {v : V} {d : D} (q : Rp K Z v d) (k : Key) : ∀ {a : List (Key × V)} {l : List (Key × D)}, RpK K Z a l → RpK K Z (a.map fun kv => if kv.1 = k then (kv.1, v) else kv) (l.map fun kv => if kv.1 = k then (kv.1, d) else kv)
  | _, _, .nil => .nil
  | _, _, .cons (k := k0) a r => by
    simp only [List.map_cons]
    by_cases h : k0 = k
    · simp only [h, if_true]; exact .cons q (RpK.mapk q k r)
    · simp only [h, if_false]; exact .cons a (RpK.mapk q k r)
theorem RpT.mapk {v : V} {d : D} (q : Rp K Z v d) (k : List Key) : ∀ {a : List (List Key × V)} {l : List (List Key × D)}, RpT K Z a l → RpT K Z (a.map fun kv => if kv.1 = k then (kv.1, v) else kv) (l.map fun kv => if kv.1 = k then (kv.1, d) else kv)
  | _, _, .nil => .nil
  | _, _, .cons (k := k0) a r => by
    simp only [List.map_cons]
    by_cases h : k0 = k
    · simp only [h, if_true]; exact .cons q (RpT.mapk q k r)
    · simp only [h, if_false]; exact .cons a (RpT.mapk q k r)
theorem RpK.put {v : V} {d : D} (q : Rp K Z v d) (k : Key) {a : List (Key × V)} {l : List (Key × D)} (r : RpK K Z a l) : RpK K Z (putK a k v) (putD l k d) := by
  unfold putK putD
  rw [r.anyk]
  split
  · exact r.mapk q k
  · exact r.append (.cons q .nil)
theorem RpT.put {v : V} {d : D} (q : Rp K Z v d) (k : List Key) {a : List (List Key × V)} {l : List (List Key × D)} (r : RpT K Z a l) : RpT K Z (putK a k v) (putD l k d) := by
  unfold putK putD
  rw [r.anyk]
  split
  · exact r.mapk q k
  · exact r.append (.cons q .nil)
end

/-- what a dict gives at a key: none where it is no dict or the key none of its kind -/
def dictLook : D → D → Option (Option D)
  | .dK l, k => (key1? k).map (lookD l)
  | .dT l, .tup ks => (keys? ks).map (lookD l)
  | _, _ => none
theorem dictLook_ok {K : PySem.W.Frag} {H0 Z H : Hp} {x y : V} {d e : D} {o : Option D} (z : Same Z H) (gx : GB K H0 Z H x d) (gy : GB K H0 Z H y e) (h : dictLook d e = some o) :
    ∃ a r, x = .ref a ∧ DGet H a y r ∧ ((o = none ∧ r = none) ∨ ∃ v u, o = some u ∧ r = some v ∧ Rp K Z v u) := by
  cases d <;> simp only [dictLook] at h <;> try (cases h)
  case dK l =>
    simp only [Option.map_eq_some_iff] at h
    obtain ⟨k, hk, rfl⟩ := h
    have ek := key1?_eq hk
    subst ek
    obtain ⟨a, kvs, ex, ha, la, ra⟩ := gx.dK z
    have ey : y = kV k := by
      rcases gy with gy | ⟨_, _, _, _, _, w⟩
      · exact rp_key gy
      · cases k <;> cases w
    refine ⟨a, valV kvs k, ex, .inl ⟨kvs, k, ha, ey, rfl⟩, ?_⟩
    rcases ra.look k with ⟨h1, h2⟩ | ⟨v, u, h1, h2, h3⟩
    · exact .inl ⟨h1, h2⟩
    · exact .inr ⟨v, u, h1, h2, h3⟩
  case dT l =>
    cases e <;> simp only at h <;> try (cases h)
    rename_i ks
    simp only [Option.map_eq_some_iff] at h
    obtain ⟨k, hk, rfl⟩ := h
    have ek := keys?_eq hk
    subst ek
    obtain ⟨a, kvs, ex, ha, la, ra⟩ := gx.dT z
    obtain ⟨b, vs, ey, hb, lb, rb⟩ := gy.tup z
    have ev := rpl_keys rb
    subst ev
    refine ⟨a, valV kvs k, ex, .inr ⟨kvs, k, b, ha, ey, hb, rfl⟩, ?_⟩
    rcases ra.look k with ⟨h1, h2⟩ | ⟨v, u, h1, h2, h3⟩
    · exact .inl ⟨h1, h2⟩
    · exact .inr ⟨v, u, h1, h2, h3⟩

section
variable {X : Cx} {cl : Nat → Value} {W : WX} {G : Hp → Hp → Hp → V → D → Prop}
/-! ### subscripts of all kinds -/
def rIxDct : R2 := fun x y H Q => ∃ a v, x = .ref a ∧ DGet H a y (some v) ∧ Q v H
theorem ix_dct (hu : X.A.units + 1 < cLine) : IxR X rIxDct := by
  intro value slice pins s σ H x y v u Q I rx ry h hs
  obtain ⟨a, r, rfl, g, q⟩ := h
  obtain rfl : v = Value.ref a := rx
  exact tail_any (dict_typeIs I g) PySem.F.slot_dict_getitem.lookup (d_getItem hu I g ry fun w' s3 I3 rw' => ⟨r, H, I3, rw', q⟩) hs
def dIx (x y : D) : R D := match x with
  | .dK _ => match dictLook x y with
    | some (some d) => .ok d
    | _ => .stuck
  | .dT _ => match dictLook x y with
    | some (some d) => .ok d
    | _ => .stuck
  | _ => dIxS x y
theorem ixd_ok : Op2 X cl W (GE X.K) (fun x y H Q => rIx X.K x y H Q ∨ rIxDct x y H Q) dIx := by
  intro σ Z H x y d e Q z gx gy s
  have dc : (match dictLook d e with | some (some d) => R.ok d | _ => R.stuck) = dIx d e → rIxDct x y H Q := fun hh => by
    rw [← hh] at s
    split at s
    · rename_i u hu
      obtain ⟨a, r, ex, g, hr⟩ := dictLook_ok z gx gy hu
      rcases hr with ⟨h1, _⟩ | ⟨v, u', h1, h2, h3⟩
      · cases h1
      · cases h1; subst h2
        exact ⟨a, v, ex, g, Sat.ok s (Ext.refl z) h3⟩
    · exact Sat.no s
  cases d with
  | dK l => exact .inr (dc rfl)
  | dT l => exact .inr (dc rfl)
  | _ => exact .inl (ix_ok σ Z H x y _ e Q z gx gy s)
theorem de_ix {a b : Expr} {fa fb : Ev → R D} {pos : Pos} (hu : X.A.units + 64 < cLine) (ha : DB X cl W a fa) (hb : DB X cl W b fb) (hp : PlainIx b) : DE X cl W (.Subscript a b pos) (e2 dIx fa fb) := dx_ix gokE (IxR.or ix_seq (ix_dct (by omega))) ixd_ok ha hb hp

/-! ### in, not in -/
def rInDct (neg : Bool) : R2 := fun x y H Q => ∃ a o, y = .ref a ∧ DGet H a x o ∧ Q (.bl (if neg then !o.isSome else o.isSome)) H
theorem in_dct (hu : X.A.units + 1 < cLine) : OpR X (compareOp .In) (rInDct false) := by
  intro pins s σ H x y v u Q I rx ry h
  obtain ⟨a, o, rfl, g, q⟩ := h
  obtain rfl : u = Value.ref a := ry
  exact d_in hu I g rx fun s3 I3 => ⟨.bl o.isSome, H, I3, rfl, q⟩
theorem notIn_dct (hu : X.A.units + 1 < cLine) : OpR X (compareOp .NotIn) (rInDct true) := by
  intro pins s σ H x y v u Q I rx ry h
  obtain ⟨a, o, rfl, g, q⟩ := h
  obtain rfl : u = Value.ref a := ry
  exact d_notIn hu I g rx fun s3 I3 => ⟨.bl (!o.isSome), H, I3, rfl, q⟩
abbrev rSgn (neg : Bool) : R2 := fun x y H Q => ∃ (c : Nat) (z : Str), x = .str ⟨#[c]⟩ ∧ y = .str z ∧ Q (.bl (if neg then !decide (c ∈ z.cps.toList) else decide (c ∈ z.cps.toList))) H
theorem in_sgn : OpR X (compareOp .In) (rSgn false) := op_in_sign
theorem notIn_sgn : OpR X (compareOp .NotIn) (rSgn true) := op_notIn_sign
/-- is x in y: a list of data, a dict, a sign in a text -/
def inD (x y : D) : Option Bool := match y with
  | .lst l => if okd x = true ∧ okd (.lst l) = true then some (l.any fun z => D.eqv z x) else none
  | .dK _ => (dictLook y x).map (·.isSome)
  | .dT _ => (dictLook y x).map (·.isSome)
  | .str z => match x with
    | .str ⟨⟨[c]⟩⟩ => some (decide (c ∈ z.cps.toList))
    | _ => none
  | _ => none
def dIn (x y : D) : R D := match inD x y with
  | some b => .ok (.bl b)
  | none => .stuck
def dNotIn (x y : D) : R D := match inD x y with
  | some b => .ok (.bl (!b))
  | none => .stuck
theorem in_all {H0 Z H : Hp} {x y : V} {d e : D} {b neg : Bool} (z : Same Z H) (gx : GB X.K H0 Z H x d) (gy : GB X.K H0 Z H y e) (h : inD d e = some b) {Q : VK} (q : Q (.bl (if neg then !b else b)) H) :
    (∃ p ps, Dp X.K H x p ∧ Dp X.K H y (.list ps) ∧ SeqAt.shaped p = true ∧ SeqAt.shaped (.list ps) = true ∧ Q (.bl (if neg then !ps.any fun z => PyData.eqv z p else ps.any fun z => PyData.eqv z p)) H) ∨ rInDct neg x y H Q ∨ rSgn neg x y H Q := by
  have dc : (dictLook e d).map (·.isSome) = some b → rInDct neg x y H Q := fun hh => by
    simp only [Option.map_eq_some_iff] at hh
    obtain ⟨o, ho, rfl⟩ := hh
    obtain ⟨a, r, ex, g, hr⟩ := dictLook_ok z gy gx ho
    refine ⟨a, r, ex, g, ?_⟩
    rcases hr with ⟨h1, h2⟩ | ⟨v, u', h1, h2, h3⟩
    · subst h1 h2; exact q
    · subst h1 h2; exact q
  cases e <;> simp only [inD] at h <;> try (cases h)
  case lst l =>
    split at h
    · rename_i hh
      cases h
      refine .inl ⟨py d, py.pys l, gb_dp z gx (SeqAt.canLay_of_shaped hh.1), gb_dp z gy (SeqAt.canLay_of_shaped hh.2), hh.1, hh.2, ?_⟩
      rw [pys_any]
      exact q
    · cases h
  case dK l => exact .inr (.inl (dc h))
  case dT l => exact .inr (.inl (dc h))
  case str w =>
    split at h
    · rename_i c
      cases h
      exact .inr (.inr ⟨c, w, gx.str, gy.str, q⟩)
    · cases h
theorem in_ok : Op2 X cl W (GE X.K) (fun x y H Q => rInD X.K x y H Q ∨ (fun x y H Q => rInDct false x y H Q ∨ rSgn false x y H Q) x y H Q) dIn := by
  intro σ Z H x y d e Q z gx gy s
  unfold dIn at s
  split at s
  · rename_i b hb
    exact in_all (neg := false) z gx gy hb (Sat.ok s (Ext.refl z) (.bl b))
  · exact Sat.no s
theorem notIn_ok : Op2 X cl W (GE X.K) (fun x y H Q => rNotInD X.K x y H Q ∨ (fun x y H Q => rInDct true x y H Q ∨ rSgn true x y H Q) x y H Q) dNotIn := by
  intro σ Z H x y d e Q z gx gy s
  unfold dNotIn at s
  split at s
  · rename_i b hb
    exact in_all (neg := true) z gx gy hb (Sat.ok s (Ext.refl z) (.bl (!b)))
  · exact Sat.no s
theorem de_in {a b : Expr} {fa fb : Ev → R D} {pos : Pos} (hu : X.A.units + 65 < cLine) (ha : DB X cl W a fa) (hb : DB X cl W b fb) (hm : behindInMarks .In b = false) : DE X cl W (.Compare a [.In] [b] pos) (e2 dIn fa fb) := dx_cmp gokE (OpR.or (op_inD hu) (OpR.or (in_dct (by omega)) in_sgn)) in_ok ha hb hm
theorem de_notIn {a b : Expr} {fa fb : Ev → R D} {pos : Pos} (hu : X.A.units + 65 < cLine) (ha : DB X cl W a fa) (hb : DB X cl W b fb) (hm : behindInMarks .NotIn b = false) : DE X cl W (.Compare a [.NotIn] [b] pos) (e2 dNotIn fa fb) := dx_cmp gokE (OpR.or (op_notInD hu) (OpR.or (notIn_dct (by omega)) notIn_sgn)) notIn_ok ha hb hm
end
end DL

/-! The data layer, part 6: built-in functions and types. -/
namespace DL
open PySem PySem.Spec PyProof.Rows L2
section
variable {X : Cx} {cl : Nat → Value} {W : WX} {G : Hp → Hp → Hp → V → D → Prop}
/-- a built-in's rule by values, said over data -/
def CallD (X : Cx) (cl : Nat → Value) (W : WX) (G : Hp → Hp → Hp → V → D → Prop) (r : List V → Hp → VK → Prop) (g : List D → R D) : Prop := ∀ σ Z H vs ds Q, Same Z H → GL (GB X.K) H Z H vs ds → Sat cl W σ Z H G (g ds) Q → r vs H Q
theorem cb_use {r : List V → Hp → VK → Prop} {g : List D → R D} {fs : Ev → R (List D)} (gk : Gok G) (cd : CallD X cl W G r g) {σ : L2.St} {H : Hp} {Q : VK} (h : tG X.K cl W G (e1L g fs) σ H Q) : tCB r (tG X.K cl W (GL (GB X.K)) fs) σ H Q := by
  obtain ⟨H0, Z0, Z, ρ, m, s⟩ := h
  exact ⟨H0, Z0, Z, ρ, m, Sat.bind gk s fun d v Z1 H1 x1 g1 s1 => cd σ Z1 H1 v d Q x1.z' (GL.i giB g1) s1⟩
theorem dx_callB (gk : Gok G) {id : String} {r : List V → Hp → VK → Prop} {g : List D → R D} {x : Str} {p pos : Pos} {e : Expr} {es : List Expr} {fs : Ev → R (List D)} (hc : CallR X (.builtin id) r) (cd : CallD X cl W G r g) (hg : Gl X x) (hm : X.mg x = none) (hv : bootBuiltins x = some (.builtin id))
    (hs : DA X cl W (GB X.K) (e :: es) fs) (hn : x ≠ "__name__" := by decide) (hdb : (x == ("__debug__" : Str)) = false := by decide) (he : starEach (e :: es) X.env = (false, eval e X.env) :: starEach es X.env := by rfl) (hpl : (backTo pos (starEach es X.env)).any (·.1) = false := by rfl) :
    DX X cl W G (.Call (.Name x p) (e :: es) [] pos) (e1L g fs) := PE.imp (pe_callB hc hg hm hv hs hn hdb he hpl) fun σ H Q h => cb_use gk cd h
theorem dx_callTy (gk : Gok G) {T : String} {r : List V → Hp → VK → Prop} {g : List D → R D} {x : Str} {p pos : Pos} {e : Expr} {es : List Expr} {fs : Ev → R (List D)} (hc : CallR X (.type T) r) (cd : CallD X cl W G r g) (hg : Gl X x) (hm : X.mg x = none) (hv : bootBuiltins x = some (.type T))
    (hs : DA X cl W (GB X.K) (e :: es) fs) (hn : x ≠ "__name__" := by decide) (hdb : (x == ("__debug__" : Str)) = false := by decide) (he : starEach (e :: es) X.env = (false, eval e X.env) :: starEach es X.env := by rfl) (hpl : (backTo pos (starEach es X.env)).any (·.1) = false := by rfl) :
    DX X cl W G (.Call (.Name x p) (e :: es) [] pos) (e1L g fs) := PE.imp (pe_callTy hc hg hm hv hs hn hdb he hpl) fun σ H Q h => cb_use gk cd h
theorem GL.one {K : PySem.W.Frag} {H0 Z H : Hp} {vs : List V} {d : D} (g : GL (GB K) H0 Z H vs [d]) : ∃ v, vs = [v] ∧ GB K H0 Z H v d := by
  cases g with
  | cons a b => cases b; exact ⟨_, rfl, a⟩
theorem GL.two {K : PySem.W.Frag} {H0 Z H : Hp} {vs : List V} {d e : D} (g : GL (GB K) H0 Z H vs [d, e]) : ∃ v w, vs = [v, w] ∧ GB K H0 Z H v d ∧ GB K H0 Z H w e := by
  cases g with
  | cons a b =>
    cases b with
    | cons c b => cases b; exact ⟨_, _, rfl, a, c⟩
/-- one argument -/
def on1 (g : D → R D) : List D → R D
  | [d] => g d
  | _ => .stuck
def on2 (g : D → D → R D) : List D → R D
  | [d, e] => g d e
  | _ => .stuck
theorem CallD.one {r : List V → Hp → VK → Prop} {g : D → R D} (h : ∀ σ Z H v d Q, Same Z H → GB X.K H Z H v d → Sat cl W σ Z H G (g d) Q → r [v] H Q) : CallD X cl W G r (on1 g) := by
  intro σ Z H vs ds Q z gs s
  cases gs with
  | nil => exact Sat.no s
  | cons a b =>
    cases b with
    | nil => exact h σ Z H _ _ Q z a s
    | cons _ _ => exact Sat.no s
theorem CallD.two {r : List V → Hp → VK → Prop} {g : D → D → R D} (h : ∀ σ Z H v w d e Q, Same Z H → GB X.K H Z H v d → GB X.K H Z H w e → Sat cl W σ Z H G (g d e) Q → r [v, w] H Q) : CallD X cl W G r (on2 g) := by
  intro σ Z H vs ds Q z gs s
  cases gs with
  | nil => exact Sat.no s
  | cons a b =>
    cases b with
    | nil => exact Sat.no s
    | cons c b =>
      cases b with
      | nil => exact h σ Z H _ _ _ _ Q z a c s
      | cons _ _ => exact Sat.no s

/-! ### len -/
def dLen : D → R D
  | .lst l => .ok (.int l.length)
  | .tup l => .ok (.int l.length)
  | .tux l => .ok (.int l.length)
  | .scr l => .ok (.int l.length)
  | .dK l => .ok (.int l.length)
  | .dT l => .ok (.int l.length)
  | .str z => if z.length ≤ 16777216 then .ok (.int z.length) else .stuck
  | _ => .stuck
def rLenRd : List V → Hp → VK → Prop := fun xs H Q => (∃ a kvs, xs = [V.ref a] ∧ Rd H a (.dK kvs) ∧ Q (.int kvs.length) H) ∨ ∃ a kvs, xs = [V.ref a] ∧ Rd H a (.dT kvs) ∧ Q (.int kvs.length) H
theorem call_lenRd : CallR X (.builtin "len") rLenRd := by
  intro pins s σ H xs us Q I r h
  rcases h with ⟨a, kvs, rfl, ha, q⟩ | ⟨a, kvs, rfl, ha, q⟩
  · obtain ⟨u, rfl, ru⟩ := vals1 r
    cases ru
    exact d_len I ha fun t s' I' => ⟨.int kvs.length, H, I', ⟨t, rfl⟩, q⟩
  · obtain ⟨u, rfl, ru⟩ := vals1 r
    cases ru
    obtain ⟨z, hd, ys, rel, dd⟩ := dt_rd I.hok ha
    have hl : kvs.length = ys.length := Paired.length rel
    refine call_len_dictH hd dd (by rw [← hl]; rw [sizeLine_eq] at z; omega) ?_
    rw [← hl]
    exact ⟨.int ((kvs.length : Nat) : Int), H, I.tok _, ⟨_, rfl⟩, q⟩
theorem len_ok : CallD X cl W (GE X.K) (fun xs H Q => (fun xs H Q => ∃ x n, xs = [x] ∧ LenV X.K x H n ∧ Q (.int n) H) xs H Q ∨ rLenRd xs H Q) (on1 dLen) := CallD.one fun σ Z H v d Q z g s => by
  cases d <;> simp only [dLen] at s <;> try exact Sat.no s
  case lst l =>
    obtain ⟨a, vs, ex, ha, la, ra⟩ := g.lst z
    subst ex
    exact .inl ⟨_, vs.length, rfl, .inl ⟨vs, .of ha, rfl⟩, by rw [ra.length]; exact Sat.ok s (Ext.refl z) (.int _)⟩
  case tup l =>
    obtain ⟨a, vs, ex, ha, la, ra⟩ := g.tup z
    subst ex
    exact .inl ⟨_, vs.length, rfl, .inr ⟨vs, .of ha, rfl⟩, by rw [ra.length]; exact Sat.ok s (Ext.refl z) (.int _)⟩
  case tux l =>
    obtain ⟨a, o, vs, ex, ha, hd, la, ra⟩ := g.tux z
    subst ex
    exact .inl ⟨_, vs.length, rfl, .inr ⟨vs, sqt_frz ha, rfl⟩, by rw [ra.length]; exact Sat.ok s (Ext.refl z) (.int _)⟩
  case scr l =>
    obtain ⟨a, ex, ha, la⟩ := g.scr z
    subst ex
    exact .inl ⟨_, l.length, rfl, .inl ⟨_, ha, by rw [List.length_map]⟩, Sat.ok s (Ext.refl z) (.int _)⟩
  case dK l =>
    obtain ⟨a, vs, ex, ha, la, ra⟩ := g.dK z
    subst ex
    exact .inr (.inl ⟨a, vs, rfl, ha, by rw [ra.length]; exact Sat.ok s (Ext.refl z) (.int _)⟩)
  case dT l =>
    obtain ⟨a, vs, ex, ha, la, ra⟩ := g.dT z
    subst ex
    exact .inr (.inr ⟨a, vs, rfl, ha, by rw [ra.length]; exact Sat.ok s (Ext.refl z) (.int _)⟩)
  case str w =>
    split at s
    · rename_i h
      have := g.str
      subst this
      exact .inl ⟨_, w.length, rfl, ⟨by rw [sizeLine_eq]; exact h, rfl⟩, Sat.ok s (Ext.refl z) (.int _)⟩
    · exact Sat.no s
theorem de_len {p pos : Pos} {e : Expr} {fs : Ev → R (List D)} (hg : Gl X "len") (hm : X.mg "len" = none) (hs : DA X cl W (GB X.K) [e] fs) (he : starEach [e] X.env = (false, eval e X.env) :: starEach [] X.env := by rfl) (hpl : (backTo pos (starEach [] X.env)).any (·.1) = false := by rfl) :
    DE X cl W (.Call (.Name "len" p) [e] [] pos) (e1L (on1 dLen) fs) := dx_callB gokE (CallR.or call_len call_lenRd) len_ok hg hm PySem.boot_len hs (by decide) (by decide) he hpl

/-! ### int, abs, min, max, sum, all, any -/
def dInt : D → R D
  | .int i => .ok (.int i)
  | .bl b => .ok (.int (if b = true then 1 else 0))
  | _ => .stuck
theorem int_ok : CallD X cl W (GE X.K) (fun xs H Q => (∃ i, xs = [.int i] ∧ Q (.int i) H) ∨ ∃ k, xs = [.bl k] ∧ Q (.int (if k = true then 1 else 0)) H) (on1 dInt) := CallD.one fun σ Z H v d Q z g s => by
  cases d <;> simp only [dInt] at s <;> try exact Sat.no s
  case int i => exact .inl ⟨i, by rw [g.int], Sat.ok s (Ext.refl z) (.int _)⟩
  case bl b => exact .inr ⟨b, by rw [g.bl], Sat.ok s (Ext.refl z) (.int _)⟩
theorem de_int1 {p pos : Pos} {e : Expr} {fs : Ev → R (List D)} (hg : Gl X "int") (hm : X.mg "int" = none) (hs : DA X cl W (GB X.K) [e] fs) (he : starEach [e] X.env = (false, eval e X.env) :: starEach [] X.env := by rfl) (hpl : (backTo pos (starEach [] X.env)).any (·.1) = false := by rfl) :
    DE X cl W (.Call (.Name "int" p) [e] [] pos) (e1L (on1 dInt) fs) := dx_callTy gokE call_int1 int_ok hg hm (by decide +kernel) hs (by decide) (by decide) he hpl
def dAbs : D → R D
  | .int i => .ok (.int (if i < 0 then -i else i))
  | _ => .stuck
theorem abs_ok : CallD X cl W (GE X.K) (fun xs H Q => ∃ i, xs = [.int i] ∧ Q (.int (if i < 0 then -i else i)) H) (on1 dAbs) := CallD.one fun σ Z H v d Q z g s => by
  cases d <;> simp only [dAbs] at s <;> try exact Sat.no s
  case int i => exact ⟨i, by rw [g.int], Sat.ok s (Ext.refl z) (.int _)⟩
theorem de_abs {p pos : Pos} {e : Expr} {fs : Ev → R (List D)} (hg : Gl X "abs") (hm : X.mg "abs" = none) (hs : DA X cl W (GB X.K) [e] fs) (he : starEach [e] X.env = (false, eval e X.env) :: starEach [] X.env := by rfl) (hpl : (backTo pos (starEach [] X.env)).any (·.1) = false := by rfl) :
    DE X cl W (.Call (.Name "abs" p) [e] [] pos) (e1L (on1 dAbs) fs) := dx_callB gokE call_abs abs_ok hg hm (by decide +kernel) hs (by decide) (by decide) he hpl
def dMax2 : D → D → R D
  | .int i, .int j => .ok (.int (if j > i then j else i))
  | _, _ => .stuck
def dMin2 : D → D → R D
  | .int i, .int j => .ok (.int (if j < i then j else i))
  | _, _ => .stuck
theorem max2_ok : CallD X cl W (GE X.K) (fun xs H Q => ∃ i j, xs = [.int i, .int j] ∧ Q (.int (if j > i then j else i)) H) (on2 dMax2) := CallD.two fun σ Z H v w d e Q z g g' s => by
  cases d <;> cases e <;> simp only [dMax2] at s <;> try exact Sat.no s
  case int.int i j => exact ⟨i, j, by rw [g.int, g'.int], Sat.ok s (Ext.refl z) (.int _)⟩
theorem min2_ok : CallD X cl W (GE X.K) (fun xs H Q => ∃ i j, xs = [.int i, .int j] ∧ Q (.int (if j < i then j else i)) H) (on2 dMin2) := CallD.two fun σ Z H v w d e Q z g g' s => by
  cases d <;> cases e <;> simp only [dMin2] at s <;> try exact Sat.no s
  case int.int i j => exact ⟨i, j, by rw [g.int, g'.int], Sat.ok s (Ext.refl z) (.int _)⟩
theorem de_max2 {p pos : Pos} {e e' : Expr} {fs : Ev → R (List D)} (hc : X.calm = true) (hg : Gl X "max") (hm : X.mg "max" = none) (hs : DA X cl W (GB X.K) [e, e'] fs) (he : starEach [e, e'] X.env = (false, eval e X.env) :: starEach [e'] X.env := by rfl) (hpl : (backTo pos (starEach [e'] X.env)).any (·.1) = false := by rfl) :
    DE X cl W (.Call (.Name "max" p) [e, e'] [] pos) (e1L (on2 dMax2) fs) := dx_callB gokE (call_max2 hc) max2_ok hg hm (by decide +kernel) hs (by decide) (by decide) he hpl
theorem de_min2 {p pos : Pos} {e e' : Expr} {fs : Ev → R (List D)} (hc : X.calm = true) (hg : Gl X "min") (hm : X.mg "min" = none) (hs : DA X cl W (GB X.K) [e, e'] fs) (he : starEach [e, e'] X.env = (false, eval e X.env) :: starEach [e'] X.env := by rfl) (hpl : (backTo pos (starEach [e'] X.env)).any (·.1) = false := by rfl) :
    DE X cl W (.Call (.Name "min" p) [e, e'] [] pos) (e1L (on2 dMin2) fs) := dx_callB gokE (call_min2 hc) min2_ok hg hm (by decide +kernel) hs (by decide) (by decide) he hpl
/-- a list of whole numbers is handed in -/
def onInts (g : List Int → R D) : D → R D
  | .lst l => match ints? l with
    | some ns => g ns
    | none => .stuck
  | _ => .stuck
theorem onInts_at {g : List Int → R D} {σ : L2.St} {Z H : Hp} {v : V} {d : D} {Q : VK} (z : Same Z H) (b : GB X.K H Z H v d) (s : Sat cl W σ Z H G (onInts g d) Q) : ∃ (a : Addr) (ns : List Int), v = .ref a ∧ SqL X.K H a (ns.map V.int) ∧ Sat cl W σ Z H G (g ns) Q := by
  cases d <;> simp only [onInts] at s <;> try exact Sat.no s
  case lst l =>
    split at s
    · rename_i ns hn
      have e := ints?_eq hn
      subst e
      obtain ⟨a, vs, ex, ha, la, ra⟩ := b.lst z
      have e := ra.intsV
      subst e
      exact ⟨a, ns, ex, .of ha, s⟩
    · exact Sat.no s
def dSum : D → R D := onInts fun ns => .ok (.int ns.sum)
theorem sum_ok : CallD X cl W (GE X.K) (rSum X.K) (on1 dSum) := CallD.one fun σ Z H v d Q z g s => by
  obtain ⟨a, ns, ex, ha, s⟩ := onInts_at z g s
  subst ex
  exact ⟨a, ns, rfl, ha, Sat.ok s (Ext.refl z) (.int _)⟩
theorem de_sum {p pos : Pos} {e : Expr} {fs : Ev → R (List D)} (hc : X.calm = true) (hg : Gl X "sum") (hm : X.mg "sum" = none) (hs : DA X cl W (GB X.K) [e] fs) (he : starEach [e] X.env = (false, eval e X.env) :: starEach [] X.env := by rfl) (hpl : (backTo pos (starEach [] X.env)).any (·.1) = false := by rfl) :
    DE X cl W (.Call (.Name "sum" p) [e] [] pos) (e1L (on1 dSum) fs) := dx_callB gokE (cr_sum hc) sum_ok hg hm (by decide +kernel) hs (by decide) (by decide) he hpl
def maxI : List Int → Int
  | [] => 0
  | [a] => a
  | a :: l => max a (maxI l)
def minI : List Int → Int
  | [] => 0
  | [a] => a
  | a :: l => min a (minI l)
theorem maxI_mem : ∀ {l : List Int}, l ≠ [] → maxI l ∈ l ∧ ∀ y ∈ l, y ≤ maxI l
  | [], h => absurd rfl h
  | [a], _ => ⟨by simp [maxI], by simp [maxI]⟩
  | a :: b :: l, _ => by
    obtain ⟨h1, h2⟩ := maxI_mem (l := b :: l) (by simp)
    show max a (maxI (b :: l)) ∈ a :: b :: l ∧ ∀ y ∈ a :: b :: l, y ≤ max a (maxI (b :: l))
    generalize maxI (b :: l) = m at *
    constructor
    · by_cases h : a ≤ m
      · rw [Int.max_eq_right h]; exact List.mem_cons_of_mem _ h1
      · rw [Int.max_eq_left (by omega)]; exact List.mem_cons_self
    · intro y hy
      rcases List.mem_cons.mp hy with rfl | hy
      · omega
      · have := h2 y hy; omega
theorem minI_mem : ∀ {l : List Int}, l ≠ [] → minI l ∈ l ∧ ∀ y ∈ l, minI l ≤ y
  | [], h => absurd rfl h
  | [a], _ => ⟨by simp [minI], by simp [minI]⟩
  | a :: b :: l, _ => by
    obtain ⟨h1, h2⟩ := minI_mem (l := b :: l) (by simp)
    show min a (minI (b :: l)) ∈ a :: b :: l ∧ ∀ y ∈ a :: b :: l, min a (minI (b :: l)) ≤ y
    generalize minI (b :: l) = m at *
    constructor
    · by_cases h : m ≤ a
      · rw [Int.min_eq_right h]; exact List.mem_cons_of_mem _ h1
      · rw [Int.min_eq_left (by omega)]; exact List.mem_cons_self
    · intro y hy
      rcases List.mem_cons.mp hy with rfl | hy
      · omega
      · have := h2 y hy; omega
def dMaxL : D → R D := onInts fun ns => if 0 < ns.length then .ok (.int (maxI ns)) else .stuck
def dMinL : D → R D := onInts fun ns => if 0 < ns.length then .ok (.int (minI ns)) else .stuck
theorem maxL_ok : CallD X cl W (GE X.K) (rMax X.K) (on1 dMaxL) := CallD.one fun σ Z H v d Q z g s => by
  obtain ⟨a, ns, ex, ha, s⟩ := onInts_at z g s
  subst ex
  split at s
  · rename_i h
    refine ⟨a, ns, rfl, ha, h, fun m hm hy => ?_⟩
    obtain ⟨h1, h2⟩ := maxI_mem (l := ns) (by intro e; subst e; simp at h)
    have e : m = maxI ns := Int.le_antisymm (h2 m hm) (hy _ h1)
    subst e
    exact Sat.ok s (Ext.refl z) (.int _)
  · exact Sat.no s
theorem minL_ok : CallD X cl W (GE X.K) (rMin X.K) (on1 dMinL) := CallD.one fun σ Z H v d Q z g s => by
  obtain ⟨a, ns, ex, ha, s⟩ := onInts_at z g s
  subst ex
  split at s
  · rename_i h
    refine ⟨a, ns, rfl, ha, h, fun m hm hy => ?_⟩
    obtain ⟨h1, h2⟩ := minI_mem (l := ns) (by intro e; subst e; simp at h)
    have e : m = minI ns := Int.le_antisymm (hy _ h1) (h2 m hm)
    subst e
    exact Sat.ok s (Ext.refl z) (.int _)
  · exact Sat.no s
theorem de_maxL {p pos : Pos} {e : Expr} {fs : Ev → R (List D)} (hc : X.calm = true) (hg : Gl X "max") (hm : X.mg "max" = none) (hs : DA X cl W (GB X.K) [e] fs) (he : starEach [e] X.env = (false, eval e X.env) :: starEach [] X.env := by rfl) (hpl : (backTo pos (starEach [] X.env)).any (·.1) = false := by rfl) :
    DE X cl W (.Call (.Name "max" p) [e] [] pos) (e1L (on1 dMaxL) fs) := dx_callB gokE (cr_max hc) maxL_ok hg hm (by decide +kernel) hs (by decide) (by decide) he hpl
theorem de_minL {p pos : Pos} {e : Expr} {fs : Ev → R (List D)} (hc : X.calm = true) (hg : Gl X "min") (hm : X.mg "min" = none) (hs : DA X cl W (GB X.K) [e] fs) (he : starEach [e] X.env = (false, eval e X.env) :: starEach [] X.env := by rfl) (hpl : (backTo pos (starEach [] X.env)).any (·.1) = false := by rfl) :
    DE X cl W (.Call (.Name "min" p) [e] [] pos) (e1L (on1 dMinL) fs) := dx_callB gokE (cr_min hc) minL_ok hg hm (by decide +kernel) hs (by decide) (by decide) he hpl
/-- a list of truth values -/
def bls? : List D → Option (List Bool)
  | [] => some []
  | .bl i :: r => (bls? r).map (i :: ·)
  | _ :: _ => none
theorem bls?_eq : ∀ {l : List D} {ns : List Bool}, bls? l = some ns → l = ns.map D.bl
  | [], ns, h => by simp [bls?] at h; subst h; rfl
  | d :: r, ns, h => by
    cases d <;> simp only [bls?, Option.map_eq_some_iff] at h <;> try (cases h)
    rename_i b m h
    obtain ⟨e, rfl⟩ := h
    rw [bls?_eq e]; rfl
@[simp] theorem bls?_map : ∀ l : List Bool, bls? (l.map D.bl) = some l
  | [] => rfl
  | i :: l => by simp [bls?, bls?_map l]
def onBls (g : List Bool → R D) : D → R D
  | .lst l => match bls? l with
    | some ns => g ns
    | none => .stuck
  | _ => .stuck
theorem onBls_at {g : List Bool → R D} {σ : L2.St} {Z H : Hp} {v : V} {d : D} {Q : VK} (z : Same Z H) (b : GB X.K H Z H v d) (s : Sat cl W σ Z H G (onBls g d) Q) : ∃ (a : Addr) (ns : List Bool), v = .ref a ∧ SqL X.K H a (ns.map V.bl) ∧ Sat cl W σ Z H G (g ns) Q := by
  cases d <;> simp only [onBls] at s <;> try exact Sat.no s
  case lst l =>
    split at s
    · rename_i ns hn
      have e := bls?_eq hn
      subst e
      obtain ⟨a, vs, ex, ha, la, ra⟩ := b.lst z
      have e := ra.bls
      subst e
      exact ⟨a, ns, ex, .of ha, s⟩
    · exact Sat.no s
def dAll : D → R D := onBls fun bs => .ok (.bl (bs.all id))
def dAny : D → R D := onBls fun bs => .ok (.bl (bs.any id))
theorem all_ok : CallD X cl W (GE X.K) (rAll X.K) (on1 dAll) := CallD.one fun σ Z H v d Q z g s => by
  obtain ⟨a, ns, ex, ha, s⟩ := onBls_at z g s
  subst ex
  exact ⟨a, ns, rfl, ha, Sat.ok s (Ext.refl z) (.bl _)⟩
theorem any_ok : CallD X cl W (GE X.K) (rAny X.K) (on1 dAny) := CallD.one fun σ Z H v d Q z g s => by
  obtain ⟨a, ns, ex, ha, s⟩ := onBls_at z g s
  subst ex
  exact ⟨a, ns, rfl, ha, Sat.ok s (Ext.refl z) (.bl _)⟩
theorem de_all {p pos : Pos} {e : Expr} {fs : Ev → R (List D)} (hc : X.calm = true) (hg : Gl X "all") (hm : X.mg "all" = none) (hs : DA X cl W (GB X.K) [e] fs) (he : starEach [e] X.env = (false, eval e X.env) :: starEach [] X.env := by rfl) (hpl : (backTo pos (starEach [] X.env)).any (·.1) = false := by rfl) :
    DE X cl W (.Call (.Name "all" p) [e] [] pos) (e1L (on1 dAll) fs) := dx_callB gokE (cr_all hc) all_ok hg hm (by decide +kernel) hs (by decide) (by decide) he hpl
theorem de_any {p pos : Pos} {e : Expr} {fs : Ev → R (List D)} (hc : X.calm = true) (hg : Gl X "any") (hm : X.mg "any" = none) (hs : DA X cl W (GB X.K) [e] fs) (he : starEach [e] X.env = (false, eval e X.env) :: starEach [] X.env := by rfl) (hpl : (backTo pos (starEach [] X.env)).any (·.1) = false := by rfl) :
    DE X cl W (.Call (.Name "any" p) [e] [] pos) (e1L (on1 dAny) fs) := dx_callB gokE (cr_any hc) any_ok hg hm (by decide +kernel) hs (by decide) (by decide) he hpl

/-! ### list(x), tuple(x), of ranges -/
def dList : D → R D
  | .lst l => .ok (.lst l)
  | .tup l => .ok (.lst l)
  | .tux l => .ok (.lst l)
  | _ => .stuck
def dTuple : D → R D
  | .lst l => .ok (.tup l)
  | .tup l => .ok (.tup l)
  | .tux l => .ok (.tux l)
  | _ => .stuck
theorem list_ok : CallD X cl W (GF X.K) (fun xs H Q => ∃ p ys, xs = [.ref p] ∧ (SqL X.K H p ys ∨ SqT X.K H p ys) ∧ ∀ l, H l = none → Q (.ref l) (upd H l (.lst ys))) (on1 dList) := CallD.one fun σ Z H v d Q z g s => by
  cases d <;> simp only [dList] at s <;> try exact Sat.no s
  case lst l =>
    obtain ⟨a, vs, ex, ha, la, ra⟩ := g.lst z
    subst ex
    exact ⟨a, vs, rfl, .inl (.of ha), fun p hp => Sat.ok s (Ext.newO z hp) ⟨p, _, rfl, hp, same_none z hp, upd_same, .lst la ra⟩⟩
  case tup l =>
    obtain ⟨a, vs, ex, ha, la, ra⟩ := g.tup z
    subst ex
    exact ⟨a, vs, rfl, .inr (.of ha), fun p hp => Sat.ok s (Ext.newO z hp) ⟨p, _, rfl, hp, same_none z hp, upd_same, .lst la ra⟩⟩
  case tux l =>
    obtain ⟨a, o, vs, ex, ha, hd, la, ra⟩ := g.tux z
    subst ex
    exact ⟨a, vs, rfl, .inr (sqt_frz ha), fun p hp => Sat.ok s (Ext.newO z hp) ⟨p, _, rfl, hp, same_none z hp, upd_same, .lst la ra⟩⟩
theorem df_list {p pos : Pos} {e : Expr} {fs : Ev → R (List D)} (hg : Gl X "list") (hm : X.mg "list" = none) (hs : DA X cl W (GB X.K) [e] fs) (he : starEach [e] X.env = (false, eval e X.env) :: starEach [] X.env := by rfl) (hpl : (backTo pos (starEach [] X.env)).any (·.1) = false := by rfl) :
    DF X cl W (.Call (.Name "list" p) [e] [] pos) (e1L (on1 dList) fs) := dx_callTy gokF call_list_of list_ok hg hm (by decide +kernel) hs (by decide) (by decide) he hpl
theorem tuple_ok : CallD X cl W (GE X.K) (fun xs H Q => ∃ p ys, xs = [.ref p] ∧ ((SqL X.K H p ys ∧ ∀ l, H l = none → Q (.ref l) (upd H l (.tup ys))) ∨ (SqT X.K H p ys ∧ Q (.ref p) H))) (on1 dTuple) := CallD.one fun σ Z H v d Q z g s => by
  cases d <;> simp only [dTuple] at s <;> try exact Sat.no s
  case lst l =>
    obtain ⟨a, vs, ex, ha, la, ra⟩ := g.lst z
    subst ex
    exact ⟨a, vs, rfl, .inl ⟨.of ha, fun p hp => Sat.ok s (Ext.new z hp) (.tup upd_same la (ra.mono (Same.le (same_upd (same_none z hp)))))⟩⟩
  case tup l =>
    have g' := g
    obtain ⟨a, vs, ex, ha, la, ra⟩ := g.tup z
    subst ex
    rcases g' with g' | ⟨_, _, _, _, _, w⟩
    · exact ⟨a, vs, rfl, .inr ⟨.of ha, Sat.ok s (Ext.refl z) g'⟩⟩
    · cases w
  case tux l =>
    have g' := g
    obtain ⟨a, o, vs, ex, ha, hd, la, ra⟩ := g.tux z
    subst ex
    rcases g' with g' | ⟨_, _, _, _, _, w⟩
    · exact ⟨a, vs, rfl, .inr ⟨sqt_frz ha, Sat.ok s (Ext.refl z) g'⟩⟩
    · cases w
theorem de_tuple {p pos : Pos} {e : Expr} {fs : Ev → R (List D)} (hg : Gl X "tuple") (hm : X.mg "tuple" = none) (hs : DA X cl W (GB X.K) [e] fs) (he : starEach [e] X.env = (false, eval e X.env) :: starEach [] X.env := by rfl) (hpl : (backTo pos (starEach [] X.env)).any (·.1) = false := by rfl) :
    DE X cl W (.Call (.Name "tuple" p) [e] [] pos) (e1L (on1 dTuple) fs) := dx_callTy gokE call_tuple_of tuple_ok hg hm (by decide +kernel) hs (by decide) (by decide) he hpl
/-- lo, lo + 1, .. below hi -/
def rgI (a b : Int) : List Int := (List.range (b - a).toNat).map fun i => a + (i : Nat)
def rgD (a b : Int) : List D := (rgI a b).map D.int
theorem rgV_eq (a b : Int) : rgV a b = (rgI a b).map V.int := by simp [rgV, rgI, Function.comp_def]
def rgB (a b : Int) : Prop := -(2 ^ 62) ≤ a ∧ a < 2 ^ 62 ∧ -(2 ^ 62) ≤ b ∧ b < 2 ^ 62 ∧ (b - a).toNat ≤ 16777216
noncomputable instance {a b : Int} : Decidable (rgB a b) := Classical.propDecidable _
noncomputable def dRgL : D → D → R D
  | .int a, .int b => if rgB a b then .ok (.lst (rgD a b)) else .stuck
  | _, _ => .stuck
noncomputable def dRgT : D → D → R D
  | .int a, .int b => if rgB a b then .ok (.tup (rgD a b)) else .stuck
  | _, _ => .stuck
theorem rgOk {a b : Int} (h : rgB a b) : RgOk a b := ⟨h.1, h.2.1, h.2.2.1, h.2.2.2.1, by show _ ≤ 16777216; exact h.2.2.2.2⟩
theorem rg_len {a b : Int} (h : rgB a b) : ((rgI a b).map V.int).length ≤ sizeLine := by rw [sizeLine_eq]; simp [rgI]; have := h.2.2.2.2; omega
theorem df_listRg1 {p p2 pos pos2 : Pos} {e : Expr} {f : Ev → R D} (hc : X.calm = true) (hg : Gl X "list") (hm : X.mg "list" = none) (hg2 : Gl X "range") (hm2 : X.mg "range" = none) (he : DE X cl W e f)
    (h1 : starEach [e] X.env = (false, eval e X.env) :: starEach [] X.env := by rfl) (h2 : starEach [.Call (.Name "range" p2) [e] [] pos2] X.env = (false, eval (.Call (.Name "range" p2) [e] [] pos2) X.env) :: starEach [] X.env := by rfl) :
    DF X cl W (.Call (.Name "list" p) [.Call (.Name "range" p2) [e] [] pos2] [] pos) (e1 (dRgL (.int 0)) f) :=
  PE.imp (pe_listRg hc hg hm (prg_1 hg2 hm2 he h1) h2) fun σ H Q ⟨H0, Z0, Z, ρ, m, s⟩ => ⟨H0, Z0, Z, ρ, m, Sat.bind gokF s fun d v Z1 H1 x1 g1 s1 => by
    cases d <;> simp only [dRgL] at s1 <;> try exact Sat.no s1
    cases g1
    rename_i b
    split at s1
    · rename_i h
      exact ⟨b, rfl, rgOk h, fun q hq => Sat.ok (G := GF X.K) s1 (Ext.newO x1.z' hq) ⟨q, _, rfl, hq, same_none x1.z' hq, upd_same, by rw [rgV_eq]; exact .lst (rg_len h) (RpL.ints _)⟩⟩
    · exact Sat.no s1⟩
theorem df_listRg2 {p p2 pos pos2 : Pos} {a b : Expr} {f g : Ev → R D} (hc : X.calm = true) (hg : Gl X "list") (hm : X.mg "list" = none) (hg2 : Gl X "range") (hm2 : X.mg "range" = none) (ha : DE X cl W a f) (hb : DE X cl W b g)
    (h1 : starEach [a, b] X.env = (false, eval a X.env) :: starEach [b] X.env := by rfl) (h3 : starEach [b] X.env = (false, eval b X.env) :: starEach [] X.env := by rfl) (h4 : (backTo pos2 (starEach [b] X.env)).any (·.1) = false := by rfl)
    (h2 : starEach [.Call (.Name "range" p2) [a, b] [] pos2] X.env = (false, eval (.Call (.Name "range" p2) [a, b] [] pos2) X.env) :: starEach [] X.env := by rfl) :
    DF X cl W (.Call (.Name "list" p) [.Call (.Name "range" p2) [a, b] [] pos2] [] pos) (e2 dRgL f g) :=
  PE.imp (pe_listRg hc hg hm (prg_2 hg2 hm2 ha hb h1 h3 h4) h2) fun σ H Q ⟨H0, Z0, Z, ρ, m, s⟩ => ⟨H0, Z0, Z, ρ, m, Sat.bind gokF s fun d v Z1 H1 x1 g1 s1 => ⟨H0, Z0, Z1, ρ, m.ext x1, Sat.bind gokF s1 fun d2 v2 Z2 H2 x2 g2 s2 => by
    cases d <;> cases d2 <;> simp only [dRgL] at s2 <;> try exact Sat.no s2
    cases g1
    cases g2
    rename_i i j
    split at s2
    · rename_i h
      exact ⟨i, j, rfl, rfl, rgOk h, fun q hq => Sat.ok (G := GF X.K) s2 (Ext.newO x2.z' hq) ⟨q, _, rfl, hq, same_none x2.z' hq, upd_same, by rw [rgV_eq]; exact .lst (rg_len h) (RpL.ints _)⟩⟩
    · exact Sat.no s2⟩⟩
theorem de_tupRg1 {p p2 pos pos2 : Pos} {e : Expr} {f : Ev → R D} (hc : X.calm = true) (hg : Gl X "tuple") (hm : X.mg "tuple" = none) (hg2 : Gl X "range") (hm2 : X.mg "range" = none) (he : DE X cl W e f)
    (h1 : starEach [e] X.env = (false, eval e X.env) :: starEach [] X.env := by rfl) (h2 : starEach [.Call (.Name "range" p2) [e] [] pos2] X.env = (false, eval (.Call (.Name "range" p2) [e] [] pos2) X.env) :: starEach [] X.env := by rfl) :
    DE X cl W (.Call (.Name "tuple" p) [.Call (.Name "range" p2) [e] [] pos2] [] pos) (e1 (dRgT (.int 0)) f) :=
  PE.imp (pe_tupRg hc hg hm (prg_1 hg2 hm2 he h1) h2) fun σ H Q ⟨H0, Z0, Z, ρ, m, s⟩ => ⟨H0, Z0, Z, ρ, m, Sat.bind gokE s fun d v Z1 H1 x1 g1 s1 => by
    cases d <;> simp only [dRgT] at s1 <;> try exact Sat.no s1
    cases g1
    rename_i b
    split at s1
    · rename_i h
      exact ⟨b, rfl, rgOk h, fun q hq => Sat.ok (G := GE X.K) s1 (Ext.new x1.z' hq) (.tup (by rw [upd_same, rgV_eq]) (rg_len h) (RpL.ints _))⟩
    · exact Sat.no s1⟩
/-- tuple(a list), of which it is known that it has no dict -/
def dTupX : D → R D
  | .lst l => .ok (.tux l)
  | _ => .stuck
def rTupX (K : PySem.W.Frag) : List V → Hp → VK → Prop := fun xs H Q => ∃ p ys, xs = [.ref p] ∧ SqL K H p ys ∧ ∀ (l : Addr) (o : Obj), o.dict = none → H l = none → Q (.ref l) (upd H l (.frz o (.tup ys)))
theorem call_tupX : CallR X (.type "tuple") (rTupX X.K) := by
  intro pins s σ H xs us Q I r h
  obtain ⟨p, ys, rfl, hq, q⟩ := h
  obtain ⟨u, rfl, rx⟩ := vals1 r
  obtain rfl : u = Value.ref p := rx
  obtain ⟨its, rv, pl, hz⟩ := I.list hq
  have hlen := rv.length
  have hsl := sizeLine_eq
  refine call_tuple_list pl.isList (fun h1 kp => ?_) (by simp only [List.size_toArray] <;> omega)
  have J : Inv X pins σ H { s with heap := h1 } := I.kept (t' := s.toks) kp
  have hnew : (h1.push { cls := .type "tuple", data := .seq its.toArray }).get? h1.objs.size = some { cls := .type "tuple", data := .seq its.toArray } := Heap.get?_push_size _ rfl
  have J2 : Inv X pins σ (upd H h1.objs.size (.frz { cls := .type "tuple", data := .seq its.toArray } (.tup ys))) { s with heap := h1.push { cls := .type "tuple", data := .seq its.toArray } } :=
    J.laid (t' := s.toks) (fun b o e => Heap.get?_push_of_some _ e) (Nat.le_refl _) ⟨hnew, hz, its, rv, _, hnew, rfl, _, rfl⟩
  exact ⟨.ref h1.objs.size, _, J2, rfl, q _ _ rfl (J.hok.fresh (Nat.le_refl _))⟩
theorem tupX_ok : CallD X cl W (GE X.K) (rTupX X.K) (on1 dTupX) := CallD.one fun σ Z H v d Q z g s => by
  cases d <;> simp only [dTupX] at s <;> try exact Sat.no s
  case lst l =>
    obtain ⟨a, vs, ex, ha, la, ra⟩ := g.lst z
    subst ex
    exact ⟨a, vs, rfl, .of ha, fun p o hd hp => Sat.ok s (Ext.new z hp) (.tux upd_same hd la (ra.mono (Same.le (same_upd (same_none z hp)))))⟩
theorem de_tupleX {p pos : Pos} {e : Expr} {fs : Ev → R (List D)} (hg : Gl X "tuple") (hm : X.mg "tuple" = none) (hs : DA X cl W (GB X.K) [e] fs) (he : starEach [e] X.env = (false, eval e X.env) :: starEach [] X.env := by rfl) (hpl : (backTo pos (starEach [] X.env)).any (·.1) = false := by rfl) :
    DE X cl W (.Call (.Name "tuple" p) [e] [] pos) (e1L (on1 dTupX) fs) := dx_callTy gokE call_tupX tupX_ok hg hm (by decide +kernel) hs (by decide) (by decide) he hpl
/-! ### sorted whole numbers -/
def insI (a : Int) : List Int → List Int
  | [] => [a]
  | b :: l => if a ≤ b then a :: b :: l else b :: insI a l
def sortI : List Int → List Int
  | [] => []
  | a :: l => insI a (sortI l)
theorem insI_perm (a : Int) : ∀ l : List Int, (insI a l).Perm (a :: l)
  | [] => .refl _
  | b :: l => by
    unfold insI
    split
    · exact .refl _
    · exact ((insI_perm a l).cons b).trans (.swap a b l)
theorem sortI_perm : ∀ l : List Int, (sortI l).Perm l
  | [] => .refl _
  | a :: l => (insI_perm a _).trans ((sortI_perm l).cons a)
theorem insI_pw (a : Int) : ∀ {l : List Int}, l.Pairwise (· ≤ ·) → (insI a l).Pairwise (· ≤ ·)
  | [], _ => by simp [insI]
  | b :: l, h => by
    obtain ⟨h1, h2⟩ := List.pairwise_cons.mp h
    unfold insI
    split
    · rename_i hab
      refine List.pairwise_cons.mpr ⟨fun c hc => ?_, h⟩
      rcases List.mem_cons.mp hc with rfl | hc
      · exact hab
      · exact Int.le_trans hab (h1 c hc)
    · rename_i hab
      refine List.pairwise_cons.mpr ⟨fun c hc => ?_, insI_pw a h2⟩
      rcases List.mem_cons.mp ((insI_perm a l).mem_iff.mp hc) with rfl | hc
      · omega
      · exact h1 c hc
theorem sortI_pw : ∀ l : List Int, (sortI l).Pairwise (· ≤ ·)
  | [] => .nil
  | a :: l => insI_pw a (sortI_pw l)
theorem sortI_uniq {l m : List Int} (h : m.Perm l) (p : m.Pairwise (· ≤ ·)) : m = sortI l :=
  List.Perm.eq_of_pairwise (le := (· ≤ ·)) (fun a b _ _ h1 h2 => Int.le_antisymm h1 h2) p (sortI_pw l) (h.trans (sortI_perm l).symm)
def dSortI : D → R D := onInts fun ns => .ok (.lst ((sortI ns).map D.int))
theorem GB.lenI {K : PySem.W.Frag} {H0 Z H : Hp} {v : V} {ns : List Int} (z : Same Z H) (g : GB K H0 Z H v (.lst (ns.map D.int))) : ns.length ≤ sizeLine := by
  obtain ⟨a, vs, ex, ha, la, ra⟩ := g.lst z
  rw [ra.length, List.length_map] at la
  exact la
theorem sortI_ok : CallD X cl W (GF X.K) (rSortedI X.K) (on1 dSortI) := CallD.one fun σ Z H v d Q z g s => by
  have hl : ∀ ns : List Int, d = .lst (ns.map D.int) → ns.length ≤ sizeLine := fun ns e => by subst e; exact g.lenI z
  cases d <;> simp only [dSortI, onInts] at s <;> try exact Sat.no s
  case lst l =>
    split at s
    · rename_i ns hn
      have e := ints?_eq hn
      subst e
      obtain ⟨a, vs, ex, ha, la, ra⟩ := g.lst z
      have e := ra.intsV
      subst e ex
      refine ⟨a, ns, rfl, .of ha, fun ns' p h1 h2 hp => ?_⟩
      have e := sortI_uniq h1 h2
      subst e
      exact Sat.ok s (Ext.newO z hp) ⟨p, _, rfl, hp, same_none z hp, upd_same, .lst (by rw [List.length_map, (sortI_perm ns).length_eq]; exact hl ns rfl) (RpL.ints _)⟩
    · exact Sat.no s
theorem df_sortI {p pos : Pos} {e : Expr} {fs : Ev → R (List D)} (hg : Gl X "sorted") (hm : X.mg "sorted" = none) (hs : DA X cl W (GB X.K) [e] fs) (he : starEach [e] X.env = (false, eval e X.env) :: starEach [] X.env := by rfl) (hpl : (backTo pos (starEach [] X.env)).any (·.1) = false := by rfl) :
    DF X cl W (.Call (.Name "sorted" p) [e] [] pos) (e1L (on1 dSortI) fs) := dx_callB gokF cr_sortedI sortI_ok hg hm (by decide +kernel) hs (by decide) (by decide) he hpl

/-! ### isinstance -/
def tyN : D → Option String
  | .non => some "NoneType"
  | .bl _ => some "bool"
  | .int _ => some "int"
  | .str _ => some "str"
  | .tup _ => some "tuple"
  | .tux _ => some "tuple"
  | .lst _ => some "list"
  | _ => none
def dIs (p : D → Bool) (d : D) : R D := if (tyN d).isSome = true then .ok (.bl (p d)) else .stuck
def isInt : D → Bool | .int _ => true | .bl _ => true | _ => false
def isBool : D → Bool | .bl _ => true | _ => false
def isStr : D → Bool | .str _ => true | _ => false
def isTup : D → Bool | .tup _ => true | .tux _ => true | _ => false
def isLst : D → Bool | .lst _ => true | _ => false
theorem de_is {T : String} {p : D → Bool} (hk : ∀ d t, tyN d = some t → kitB t T = some (p d)) {x : Str} {pp p2 pos : Pos} {e : Expr} {f : Ev → R D} (hg : Gl X "isinstance") (hm : X.mg "isinstance" = none) (hg2 : Gl X x) (hm2 : X.mg x = none) (hv : bootBuiltins x = some (.type T))
    (he : DB X cl W e f) (hn : x ≠ "__name__" := by decide) (hd : (x == ("__debug__" : Str)) = false := by decide)
    (h1 : starEach [e, .Name x p2] X.env = (false, eval e X.env) :: starEach [.Name x p2] X.env := by rfl) (h2 : starEach [.Name x p2] X.env = (false, eval (.Name x p2) X.env) :: starEach [] X.env := by rfl) (h3 : (backTo pos (starEach [.Name x p2] X.env)).any (·.1) = false := by rfl) :
    DE X cl W (.Call (.Name "isinstance" pp) [e, .Name x p2] [] pos) (e1 (dIs p) f) :=
  PE.imp (pe_callB call_isi hg hm (by decide +kernel) (pa_cons he (pa_cons (pe_bltn hg2 hm2 hv (show L2.RelV (.ty T) (.type T) from rfl) hn hd) pa_nil h2) h1) (by decide) (by decide) h1 h3) fun σ H Q ⟨H0, Z0, Z, ρ, m, s⟩ => ⟨H0, Z0, Z, ρ, m, Sat.bind gokE s fun d v Z1 H1 x1 g1 s1 => by
    unfold dIs at s1
    split at s1
    · rename_i h
      have fin : Q (.bl (p d)) H1 := Sat.ok (G := GE X.K) s1 (Ext.refl x1.z') (.bl _)
      have go : ∀ t, tyN d = some t → TyX X.K H1 v (.type t) → rIsi X.K [v, .ty T] H1 Q := fun t ht hty => ⟨v, .ty T, .type t, .type T, p d, rfl, .ty T, hty, kit_ty (hk d t ht), fin⟩
      cases d with
      | non => have := g1.non; subst this; exact go _ rfl (.base .non)
      | bl b => have := g1.bl; subst this; exact go _ rfl (.base (.bl _))
      | int i => have := g1.int; subst this; exact go _ rfl (.base (.int _))
      | str i => have := g1.str; subst this; exact go _ rfl (.base (.str _))
      | tup l =>
        obtain ⟨a, vs, ex, ha, la, ra⟩ := g1.tup x1.z'
        subst ex
        exact go _ rfl (.base (.tup ha))
      | tux l =>
        obtain ⟨a, o, vs, ex, ha, hd, la, ra⟩ := g1.tux x1.z'
        subst ex
        exact go _ rfl (.fTuple ha)
      | lst l =>
        obtain ⟨a, vs, ex, ha, la, ra⟩ := g1.lst x1.z'
        subst ex
        exact go _ rfl (.base (.lst ha))
      | dK l => exact absurd h (by simp [tyN])
      | dT l => exact absurd h (by simp [tyN])
      | scr l => exact absurd h (by simp [tyN])
    · exact Sat.no s1⟩
theorem kit_int : ∀ d t, tyN d = some t → kitB t "int" = some (isInt d) := by intro d t h; cases d <;> simp [tyN] at h <;> subst h <;> first | (show kitB _ _ = some true; decide +kernel) | (show kitB _ _ = some false; decide +kernel)
theorem kit_bool : ∀ d t, tyN d = some t → kitB t "bool" = some (isBool d) := by intro d t h; cases d <;> simp [tyN] at h <;> subst h <;> first | (show kitB _ _ = some true; decide +kernel) | (show kitB _ _ = some false; decide +kernel)
theorem kit_str : ∀ d t, tyN d = some t → kitB t "str" = some (isStr d) := by intro d t h; cases d <;> simp [tyN] at h <;> subst h <;> first | (show kitB _ _ = some true; decide +kernel) | (show kitB _ _ = some false; decide +kernel)
theorem kit_tup : ∀ d t, tyN d = some t → kitB t "tuple" = some (isTup d) := by intro d t h; cases d <;> simp [tyN] at h <;> subst h <;> first | (show kitB _ _ = some true; decide +kernel) | (show kitB _ _ = some false; decide +kernel)
theorem kit_lst : ∀ d t, tyN d = some t → kitB t "list" = some (isLst d) := by intro d t h; cases d <;> simp [tyN] at h <;> subst h <;> first | (show kitB _ _ = some true; decide +kernel) | (show kitB _ _ = some false; decide +kernel)
end
end DL

/-! The data layer, part 7: targets, what is walked, comprehensions. -/
namespace DL
open PySem PySem.Spec PyProof.Rows L2

/-! ### targets -/
inductive Pat where
  | nm (i : Nat) | tup (l : List Pat)
mutual
def Pat.slots : Pat → List Nat
  | .nm i => [i]
  | .tup l => Pat.slotss l
def Pat.slotss : List Pat → List Nat
  | [] => []
  | p :: l => p.slots ++ Pat.slotss l
end
mutual
def setP : Pat → D → Ev → Option Ev
  | .nm i, d, ρ => some (ρ.set i (.im d))
  | .tup l, .tup ds, ρ => setPs l ds ρ
  | .tup _, _, _ => none
def setPs : List Pat → List D → Ev → Option Ev
  | [], [], ρ => some ρ
  | p :: l, d :: ds, ρ => (setP p d ρ).bind (setPs l ds)
  | _, _, _ => none
end
theorem Mt.set {K : PySem.W.Frag} {H0 Z0 Z H : Hp} {ρ : Ev} {σ : L2.St} (m : Mt K H0 Z0 Z ρ σ H) {v : V} {d : D} (r : Rp K Z v d) (i : Nat) : Mt K H0 Z0 Z (ρ.set i (.im d)) (σ.set i (some v)) H where
  sH := m.sH
  sZ := m.sZ
  s0 := m.s0
  z0 := m.z0
  im := fun j e h => by
    by_cases hj : i = j
    · subst hj
      have hl : i < ρ.length := by
        have := (List.getElem?_eq_some_iff.mp h).1
        simpa using this
      rw [List.getElem?_set_self hl] at h
      cases h
      exact ⟨v, List.getElem?_set_self (by rw [← m.len]; exact hl), r⟩
    · rw [List.getElem?_set_ne hj] at h ⊢
      exact m.im j e h
  ow := fun j e h => by
    by_cases hj : i = j
    · subst hj
      have hl : i < ρ.length := by
        have := (List.getElem?_eq_some_iff.mp h).1
        simpa using this
      rw [List.getElem?_set_self hl] at h
      cases h
    · rw [List.getElem?_set_ne hj] at h ⊢
      exact m.ow j e h
  ap := fun j k a x y h1 h2 h3 h4 => by
    have e1 : i ≠ j := fun z => by
      subst z
      have hl : i < ρ.length := by
        have := (List.getElem?_eq_some_iff.mp h1).1
        simpa using this
      rw [List.getElem?_set_self hl] at h1; cases h1
    have e2 : i ≠ k := fun z => by
      subst z
      have hl : i < ρ.length := by
        have := (List.getElem?_eq_some_iff.mp h2).1
        simpa using this
      rw [List.getElem?_set_self hl] at h2; cases h2
    rw [List.getElem?_set_ne e1] at h1 h3
    rw [List.getElem?_set_ne e2] at h2 h4
    exact m.ap j k a x y h1 h2 h3 h4
  raw := fun j e h => by
    by_cases hj : i = j
    · subst hj
      have hl : i < ρ.length := by
        have := (List.getElem?_eq_some_iff.mp h).1
        simpa using this
      rw [List.getElem?_set_self hl] at h
      cases h
    · rw [List.getElem?_set_ne hj] at h ⊢
      exact m.raw j e h
  len := by simp [m.len]
/-- a slot forgotten -/
theorem Mt.forget {K : PySem.W.Frag} {H0 Z0 Z H : Hp} {ρ : Ev} {σ : L2.St} (m : Mt K H0 Z0 Z ρ σ H) (i : Nat) (u : Option V) : Mt K H0 Z0 Z (ρ.set i .un) (σ.set i u) H where
  sH := m.sH
  sZ := m.sZ
  s0 := m.s0
  z0 := m.z0
  im := fun j e h => by
    by_cases hj : i = j
    · subst hj
      have hl : i < ρ.length := by
        have := (List.getElem?_eq_some_iff.mp h).1
        simpa using this
      rw [List.getElem?_set_self hl] at h
      cases h
    · rw [List.getElem?_set_ne hj] at h ⊢
      exact m.im j e h
  ow := fun j e h => by
    by_cases hj : i = j
    · subst hj
      have hl : i < ρ.length := by
        have := (List.getElem?_eq_some_iff.mp h).1
        simpa using this
      rw [List.getElem?_set_self hl] at h
      cases h
    · rw [List.getElem?_set_ne hj] at h ⊢
      exact m.ow j e h
  ap := fun j k a x y h1 h2 h3 h4 => by
    have e1 : i ≠ j := fun z => by
      subst z
      have hl : i < ρ.length := by
        have := (List.getElem?_eq_some_iff.mp h1).1
        simpa using this
      rw [List.getElem?_set_self hl] at h1; cases h1
    have e2 : i ≠ k := fun z => by
      subst z
      have hl : i < ρ.length := by
        have := (List.getElem?_eq_some_iff.mp h2).1
        simpa using this
      rw [List.getElem?_set_self hl] at h2; cases h2
    rw [List.getElem?_set_ne e1] at h1 h3
    rw [List.getElem?_set_ne e2] at h2 h4
    exact m.ap j k a x y h1 h2 h3 h4
  raw := fun j e h => by
    by_cases hj : i = j
    · subst hj
      have hl : i < ρ.length := by
        have := (List.getElem?_eq_some_iff.mp h).1
        simpa using this
      rw [List.getElem?_set_self hl] at h
      cases h
    · rw [List.getElem?_set_ne hj] at h ⊢
      exact m.raw j e h
  len := by simp [m.len]
def wipeE (ρ : Ev) : List Nat → Ev
  | [] => ρ
  | v :: vs => (wipeE ρ vs).set v .un
theorem Mt.wipe {K : PySem.W.Frag} {H0 Z0 Z H : Hp} {ρ : Ev} {σ : L2.St} (m : Mt K H0 Z0 Z ρ σ H) : ∀ vs : List Nat, Mt K H0 Z0 Z (wipeE ρ vs) (wipe σ vs) H
  | [] => m
  | v :: vs => (m.wipe vs).forget v none
theorem wipe_get (σ : L2.St) (j : Nat) : ∀ vs : List Nat, (wipe σ vs)[j]? = if j ∈ vs then (if j < σ.length then some none else none) else σ[j]?
  | [] => by simp [wipe]
  | v :: vs => by
    show ((wipe σ vs).set v none)[j]? = _
    by_cases h : v = j
    · subst h
      by_cases hl : v < σ.length
      · rw [List.getElem?_set_self (by rw [wipe_length]; exact hl)]
        simp [hl]
      · have e : ((wipe σ vs).set v none)[v]? = none := List.getElem?_eq_none (by rw [List.length_set, wipe_length]; omega)
        rw [e]; simp [hl]
    · rw [List.getElem?_set_ne h, wipe_get σ j vs]
      have : (j ∈ v :: vs) = (j ∈ vs) := by simp [Ne.symm h]
      simp only [this]
theorem wipe_again {σ σ2 : L2.St} {vs : List Nat} (hl : σ2.length = σ.length) (h : ∀ j, j ∉ vs → σ2[j]? = σ[j]?) : wipe σ2 vs = wipe σ vs := by
  apply List.ext_getElem?
  intro j
  rw [wipe_get, wipe_get, hl]
  split
  · rfl
  · rename_i q; exact h j q

/-- the target takes a datum -/
def tP (K : PySem.W.Frag) (p : Pat) : TG := fun v σ H Q => ∃ H0 Z0 Z ρ d ρ', Mt K H0 Z0 Z ρ σ H ∧ Rp K Z v d ∧ setP p d ρ = some ρ' ∧ ∀ σ', Mt K H0 Z0 Z ρ' σ' H → (∀ j, j ∉ p.slots → σ'[j]? = σ[j]?) → Q σ' H
def tPs (K : PySem.W.Frag) (ps : List Pat) : TGs := fun vs σ H Q => ∃ H0 Z0 Z ρ ds ρ', Mt K H0 Z0 Z ρ σ H ∧ RpL K Z vs ds ∧ setPs ps ds ρ = some ρ' ∧ ∀ σ', Mt K H0 Z0 Z ρ' σ' H → (∀ j, j ∉ Pat.slotss ps → σ'[j]? = σ[j]?) → Q σ' H
def DG (X : Cx) (tg : Expr) (p : Pat) : Prop := PG X tg (tP X.K p)
def DGs (X : Cx) (tg : List Expr) (p : List Pat) : Prop := PGs X tg (tPs X.K p)
theorem PG.imp {X : Cx} {e : Expr} {t t' : TG} (h : PG X e t) (q : ∀ v σ H Q, t' v σ H Q → t v σ H Q) : PG X e t' := ⟨fun pins s σ H v u Q I r x => h.run pins s σ H v u Q I r (q v σ H Q x)⟩
theorem PGs.imp {X : Cx} {e : List Expr} {t t' : TGs} (h : PGs X e t) (q : ∀ v σ H Q, t' v σ H Q → t v σ H Q) : PGs X e t' := ⟨fun pins s σ H v u Q I r x => h.run pins s σ H v u Q I r (q v σ H Q x)⟩
section
variable {X : Cx} {cl : Nat → Value} {W : WX} {G : Hp → Hp → Hp → V → D → Prop}
theorem dg_name {i : Nat} {x : Str} {pos : Pos} (hN : X.N.Nodup) (hi : X.N[i]? = some x) (hx : L2.Loc X.env.scope x) (hf : X.fn x = true ∨ X.env.scope.names.lookup x = some .local := by first | exact .inl rfl | exact .inr rfl | assumption) : DG X (.Name x pos) (.nm i) :=
  PG.imp (pg_name hN hi hx hf) fun v σ H Q ⟨H0, Z0, Z, ρ, d, ρ', m, r, e, q⟩ => by
    simp only [setP, Option.some.injEq] at e
    subst e
    exact q _ (m.set r i) fun j hj => List.getElem?_set_ne (fun z => hj (by simp [Pat.slots, z]))
theorem dgs_nil : DGs X [] [] := PGs.imp pgs_nil fun v σ H Q ⟨H0, Z0, Z, ρ, d, ρ', m, r, e, q⟩ => by
  cases r with
  | nil =>
    simp only [setPs, Option.some.injEq] at e
    subst e
    exact ⟨rfl, q σ m fun _ _ => rfl⟩
  | cons a b => simp [setPs] at e
theorem dgs_cons {e : Expr} {es : List Expr} {p : Pat} {ps : List Pat} (h1 : DG X e p) (h2 : DGs X es ps) (hs : (assignEach (e :: es) X.env).map (·.2) = assign e X.env :: (assignEach es X.env).map (·.2) := by rfl) : DGs X (e :: es) (p :: ps) :=
  PGs.imp (pgs_cons h1 h2 hs) fun v σ H Q ⟨H0, Z0, Z, ρ, d, ρ', m, r, e, q⟩ => by
    cases r with
    | nil => simp [setPs] at e
    | cons a b =>
      simp only [setPs, Option.bind_eq_some_iff] at e
      obtain ⟨ρ1, e1, e2⟩ := e
      exact ⟨_, _, rfl, H0, Z0, Z, ρ, _, ρ1, m, a, e1, fun σ1 m1 f1 => ⟨H0, Z0, Z, ρ1, _, ρ', m1, b, e2, fun σ2 m2 f2 => q σ2 m2 fun j hj => by
        simp only [Pat.slotss, List.mem_append, not_or] at hj
        rw [f2 j hj.2, f1 j hj.1]⟩⟩
theorem dg_tup {es : List Expr} {k : Nat} {ps : List Pat} {pos : Pos} (hc : X.calm = true) (h : DGs X es ps) (hn : (assignEach es X.env).length = ps.length := by rfl) (hst : (assignEach es X.env).findIdx? (·.1) = none := by rfl) : DG X (.Tuple es k pos) (.tup ps) :=
  PG.imp (pg_tup hc h hn hst) fun v σ H Q ⟨H0, Z0, Z, ρ, d, ρ', m, r, e, q⟩ => by
    cases d <;> simp only [setP] at e <;> try (cases e)
    rename_i ds
    cases r with
    | tup ha la ra =>
      have hlen : ∀ {ps : List Pat} {ds : List D} {ρ ρ' : Ev}, setPs ps ds ρ = some ρ' → ds.length = ps.length := by
        intro ps
        induction ps with
        | nil => intro ds ρ ρ' h; cases ds <;> simp [setPs] at h ⊢
        | cons p ps ih =>
          intro ds ρ ρ' h
          cases ds with
          | nil => simp [setPs] at h
          | cons d ds =>
            simp only [setPs, Option.bind_eq_some_iff] at h
            obtain ⟨ρ1, _, e2⟩ := h
            simp [ih e2]
      exact ⟨_, _, rfl, .of (m.sZ _ _ ha), by rw [ra.length, hlen e], H0, Z0, Z, ρ, ds, ρ', m, ra, e, q⟩

/-! ### what is walked -/
structure WalkD (K : PySem.W.Frag) (Zs Zb : Hp) (J : It) (items : List D) : Prop where
  goes : ∀ i H, i < items.length → Same Zb H → J.go i H
  stops : ∀ H, Same Zb H → J.stop items.length H
  yields : ∀ i Z H x H', i < items.length → Same Zb H → Same Zs Z → Same Z H → J.yld i H x H' → ∃ d Z', items[i]? = some d ∧ Ext Z H Z' H' ∧ Rp K Z' x d
/-- fz: what is walked is frozen (else it must stay as it is while it is walked) -/
def SatI (K : PySem.W.Frag) (cl : Nat → Value) (W : WX) (fz : Bool) (σ : L2.St) (Z H : Hp) (r : R (List D)) (Rr : It → Hp → Prop) : Prop := match r with
  | .ok items => ∀ J Z' H', Ext Z H Z' H' → WalkD K Z' (if fz = true then Z' else H') J items → items.length ≤ 16777216 → Rr J H'
  | .ex c => ∀ Z' H', Ext Z H Z' H' → W (cl c) none σ H'
  | .stuck => False
def tI (K : PySem.W.Frag) (cl : Nat → Value) (W : WX) (fz : Bool) (f : Ev → R (List D)) : TI := fun σ H Rr => ∃ H0 Z0 Z ρ, Mt K H0 Z0 Z ρ σ H ∧ SatI K cl W fz σ Z H (f ρ) Rr
theorem SatI.mono {K : PySem.W.Frag} {cl : Nat → Value} {W : WX} {fz : Bool} {σ : L2.St} {Z H Z' H' : Hp} {r : R (List D)} {Rr : It → Hp → Prop} (e : Ext Z H Z' H') (h : SatI K cl W fz σ Z H r Rr) : SatI K cl W fz σ Z' H' r Rr := by
  cases r with
  | ok d => exact fun J Z2 H2 e2 w l => h J Z2 H2 (e.trans e2) w l
  | ex c => exact fun Z2 H2 e2 => h Z2 H2 (e.trans e2)
  | stuck => exact h
theorem SatI.bind {α β : Type} {K : PySem.W.Frag} {cl : Nat → Value} {W : WX} {fz : Bool} {σ : L2.St} {Z H : Hp} {G : Hp → Hp → Hp → β → α → Prop} {r : R α} {k : α → R (List D)} {Rr : It → Hp → Prop} {Q1 : β → Hp → Prop}
    (h : SatI K cl W fz σ Z H (r >>= k) Rr) (hk : ∀ d v Z' H', r = .ok d → Ext Z H Z' H' → G H Z' H' v d → SatI K cl W fz σ Z' H' (k d) Rr → Q1 v H') : Sat cl W σ Z H G r Q1 := by
  cases r with
  | ok d => exact fun v Z2 H2 e2 q => hk d v Z2 H2 rfl e2 q (SatI.mono e2 h)
  | ex c => exact h
  | stuck => exact h
theorem SatI.ok {K : PySem.W.Frag} {cl : Nat → Value} {W : WX} {fz : Bool} {σ : L2.St} {Z H : Hp} {l : List D} {Rr : It → Hp → Prop} (h : SatI K cl W fz σ Z H (.ok l) Rr) (hz : Same Z H) {J : It} (w : WalkD K Z (if fz = true then Z else H) J l) (hl : l.length ≤ 16777216) : Rr J H := h J Z H (Ext.refl hz) w hl
theorem SatI.no {K : PySem.W.Frag} {cl : Nat → Value} {W : WX} {fz : Bool} {σ : L2.St} {Z H : Hp} {Rr : It → Hp → Prop} {P : Prop} (h : SatI K cl W fz σ Z H .stuck Rr) : P := False.elim h
def DI (X : Cx) (cl : Nat → Value) (W : WX) (fz : Bool) (tg iter : Expr) (f : Ev → R (List D)) : Prop := PI X tg iter (tI X.K cl W fz f)
theorem PI.imp {X : Cx} {tg e : Expr} {t t' : TI} (h : PI X tg e t) (q : ∀ σ H Q, t' σ H Q → t σ H Q) : PI X tg e t' := ⟨fun pins s σ H Q I x => h.run pins s σ H Q I (q σ H Q x)⟩
theorem PI.or {X : Cx} {tg e : Expr} {t t' : TI} (h : PI X tg e t) (h' : PI X tg e t') : PI X tg e (fun σ H R => t σ H R ∨ t' σ H R) := ⟨fun pins s σ H Q I x => x.elim (fun x => h.run pins s σ H Q I x) fun x => h'.run pins s σ H Q I x⟩
theorem walkD_list {K : PySem.W.Frag} {Zs Zb : Hp} {a : Addr} {vs : List V} {ds : List D} (h : Zb a = some (.lst vs)) (r : RpL K Zs vs ds) : WalkD K Zs Zb (Itl K a) ds where
  goes := fun i H hi s => by
    obtain ⟨v, hv, _⟩ := r.get (List.getElem?_eq_getElem hi)
    exact ⟨vs, v, .of (s _ _ h), hv⟩
  stops := fun H s => ⟨vs, .of (s _ _ h), by rw [r.length]; exact Nat.le_refl _⟩
  yields := fun i Z H x H' hi s sz szh y => by
    obtain ⟨rfl, y⟩ := y
    have hx := y vs (.of (s _ _ h))
    obtain ⟨d, hd, rd⟩ := r.get' hx
    exact ⟨d, Z, hd, Ext.refl szh, rd.mono (Same.le sz)⟩
theorem rd_sameT {K : PySem.W.Frag} {Z H : Hp} {a : Addr} {vs : List V} (s : Same Z H) (h : SqT K Z a vs) : SqT K H a vs := by
  rcases h with h | h
  · exact .inl (rd_same s h)
  · exact .inr h
theorem walkD_tup {K : PySem.W.Frag} {Zs Zb : Hp} {a : Addr} {vs : List V} {ds : List D} (h : SqT K Zb a vs) (r : RpL K Zs vs ds) : WalkD K Zs Zb (Itt K a) ds where
  goes := fun i H hi s => by
    obtain ⟨v, hv, _⟩ := r.get (List.getElem?_eq_getElem hi)
    exact ⟨vs, v, rd_sameT s h, hv⟩
  stops := fun H s => ⟨vs, rd_sameT s h, by rw [r.length]; exact Nat.le_refl _⟩
  yields := fun i Z H x H' hi s sz szh y => by
    obtain ⟨rfl, y⟩ := y
    have hx := y vs (rd_sameT s h)
    obtain ⟨d, hd, rd⟩ := r.get' hx
    exact ⟨d, Z, hd, Ext.refl szh, rd.mono (Same.le sz)⟩
def signsD (z : Str) : List D := z.cps.toList.map fun c => .str ⟨#[c]⟩
theorem walkD_str {K : PySem.W.Frag} {Zs Zb : Hp} {z : Str} : WalkD K Zs Zb (Its z) (signsD z) where
  goes := fun i H hi s => by
    simp [signsD] at hi
    exact hi
  stops := fun H s => by
    show z.cps.size ≤ (signsD z).length
    simp [signsD]
  yields := fun i Z H x H' hi s sz szh y => by
    obtain ⟨rfl, c, hc, rfl⟩ := y
    refine ⟨.str ⟨#[c]⟩, Z, ?_, Ext.refl szh, .str _⟩
    simp [signsD, hc]
/-- the items of a list, a tuple, a text -/
def dItems : D → R (List D)
  | .lst l => .ok l
  | .tup l => .ok l
  | .tux l => .ok l
  | .str z => if z.length ≤ 16777216 then .ok (signsD z) else .stuck
  | _ => .stuck
def eItems (f : Ev → R D) : Ev → R (List D) := fun ρ => f ρ >>= dItems
/-- fz = true: by DE (frozen); fz = false: by DB -/
theorem di_seqF {tg e : Expr} {f : Ev → R D} (h : DE X cl W e f) : DI X cl W true tg e (eItems f) :=
  PI.imp (PI.or (pi_list h) (PI.or (pi_tup h) (pi_str h))) fun σ H Rr ⟨H0, Z0, Z, ρ, m, s⟩ => by
    have base : ∀ {Q : VK}, (∀ d v Z' H', f ρ = .ok d → Ext Z H Z' H' → GE X.K H Z' H' v d → SatI X.K cl W true σ Z' H' (dItems d) Rr → Q v H') → tG X.K cl W (GE X.K) f σ H Q := fun k => ⟨H0, Z0, Z, ρ, m, SatI.bind s k⟩
    cases hf : f ρ with
    | ok d =>
      cases d with
      | lst l =>
        refine .inl (base fun d v Z' H' hd e g k => ?_)
        rw [hf] at hd; cases hd
        cases g with
        | lst ha la ra => exact ⟨_, rfl, ⟨_, .of (e.z' _ _ ha)⟩, SatI.ok k e.z' (walkD_list ha ra) (by rw [← ra.length, ← sizeLine_eq]; exact la)⟩
      | tup l =>
        refine .inr (.inl (base fun d v Z' H' hd e g k => ?_))
        rw [hf] at hd; cases hd
        cases g with
        | tup ha la ra => exact ⟨_, rfl, ⟨_, .of (e.z' _ _ ha)⟩, SatI.ok k e.z' (walkD_tup (.of ha) ra) (by rw [← ra.length, ← sizeLine_eq]; exact la)⟩
      | tux l =>
        refine .inr (.inl (base fun d v Z' H' hd e g k => ?_))
        rw [hf] at hd; cases hd
        cases g with
        | tux ha hdn la ra => exact ⟨_, rfl, ⟨_, sqt_frz (e.z' _ _ ha)⟩, SatI.ok k e.z' (walkD_tup (sqt_frz ha) ra) (by rw [← ra.length, ← sizeLine_eq]; exact la)⟩
      | str z =>
        refine .inr (.inr (base fun d v Z' H' hd e g k => ?_))
        rw [hf] at hd; cases hd
        simp only [dItems] at k
        split at k
        · rename_i hz
          cases g
          exact ⟨z, rfl, SatI.ok k e.z' walkD_str (by simp [signsD]; exact hz)⟩
        · exact SatI.no k
      | _ => simp [eItems, hf, dItems, SatI] at s
    | ex c => exact .inl (base fun d v Z' H' hd => by rw [hf] at hd; cases hd)
    | stuck => simp [eItems, hf, SatI] at s
theorem di_seqB {tg e : Expr} {f : Ev → R D} (h : DB X cl W e f) : DI X cl W false tg e (eItems f) :=
  PI.imp (PI.or (pi_list h) (PI.or (pi_tup h) (pi_str h))) fun σ H Rr ⟨H0, Z0, Z, ρ, m, s⟩ => by
    have base : ∀ {Q : VK}, (∀ d v Z' H', f ρ = .ok d → Ext Z H Z' H' → GB X.K H Z' H' v d → SatI X.K cl W false σ Z' H' (dItems d) Rr → Q v H') → tG X.K cl W (GB X.K) f σ H Q := fun k => ⟨H0, Z0, Z, ρ, m, SatI.bind s k⟩
    cases hf : f ρ with
    | ok d =>
      cases d with
      | lst l =>
        refine .inl (base fun d v Z' H' hd e g k => ?_)
        rw [hf] at hd; cases hd
        obtain ⟨a, vs, ex, ha, la, ra⟩ := g.lst e.z'
        subst ex
        exact ⟨_, rfl, ⟨_, .of ha⟩, SatI.ok k e.z' (walkD_list ha ra) (by rw [← ra.length, ← sizeLine_eq]; exact la)⟩
      | tup l =>
        refine .inr (.inl (base fun d v Z' H' hd e g k => ?_))
        rw [hf] at hd; cases hd
        obtain ⟨a, vs, ex, ha, la, ra⟩ := g.tup e.z'
        subst ex
        exact ⟨_, rfl, ⟨_, .of ha⟩, SatI.ok k e.z' (walkD_tup (.of ha) ra) (by rw [← ra.length, ← sizeLine_eq]; exact la)⟩
      | tux l =>
        refine .inr (.inl (base fun d v Z' H' hd e g k => ?_))
        rw [hf] at hd; cases hd
        obtain ⟨a, o, vs, ex, ha, hdn, la, ra⟩ := g.tux e.z'
        subst ex
        exact ⟨_, rfl, ⟨_, sqt_frz ha⟩, SatI.ok k e.z' (walkD_tup (sqt_frz ha) ra) (by rw [← ra.length, ← sizeLine_eq]; exact la)⟩
      | str z =>
        refine .inr (.inr (base fun d v Z' H' hd e g k => ?_))
        rw [hf] at hd; cases hd
        simp only [dItems] at k
        split at k
        · rename_i hz
          have := g.str
          subst this
          exact ⟨z, rfl, SatI.ok k e.z' walkD_str (by simp [signsD]; exact hz)⟩
        · exact SatI.no k
      | _ => simp [eItems, hf, dItems, SatI] at s
    | ex c => exact .inl (base fun d v Z' H' hd => by rw [hf] at hd; cases hd)
    | stuck => simp [eItems, hf, SatI] at s
/-! range -/
theorem walkD_range {K : PySem.W.Frag} {Zs Zb : Hp} {lo hi : Int} : WalkD K Zs Zb (Itr lo (hi - lo).toNat) (rgD lo hi) where
  goes := fun i H h s => by
    simp [rgD, rgI] at h
    show i < (hi - lo).toNat
    omega
  stops := fun H s => by
    show (hi - lo).toNat ≤ (rgD lo hi).length
    simp [rgD, rgI]
  yields := fun i Z H x H' h s sz szh y => by
    obtain ⟨rfl, rfl⟩ := y
    refine ⟨.int (lo + i), Z, ?_, Ext.refl szh, .int _⟩
    simp [rgD, rgI] at h ⊢
    exact ⟨i, List.getElem?_range (by omega), rfl⟩
noncomputable def dRg : D → D → R (List D)
  | .int a, .int b => if rgB a b then .ok (rgD a b) else .stuck
  | _, _ => .stuck
noncomputable def eRg1 (f : Ev → R D) : Ev → R (List D) := fun ρ => f ρ >>= dRg (.int 0)
noncomputable def eRg2 (f g : Ev → R D) : Ev → R (List D) := fun ρ => f ρ >>= fun x => g ρ >>= fun y => dRg x y
theorem rgB_len {a b : Int} (h : rgB a b) : (rgD a b).length ≤ 16777216 := by simp [rgD, rgI]; have := h.2.2.2.2; omega
theorem di_range1 {fz : Bool} {tg a : Expr} {f : Ev → R D} {p pos : Pos} (hg : Gl X "range") (hm : X.mg "range" = none) (ha : DE X cl W a f) (hs : starEach [a] X.env = [(false, eval a X.env)] := by rfl) : DI X cl W fz tg (.Call (.Name "range" p) [a] [] pos) (eRg1 f) :=
  PI.imp (pi_range1 hg hm (pa_cons ha pa_nil (by rw [hs]; rfl)) hs) fun σ H Rr ⟨H0, Z0, Z, ρ, m, s⟩ => ⟨H0, Z0, Z, ρ, m, SatI.bind s fun d v Z' H' hq e g k => by
    cases d <;> simp only [dRg] at k <;> try exact SatI.no k
    rename_i b
    cases g
    split at k
    · rename_i hb
      exact ⟨b, rfl, hb.2.2.1, hb.2.2.2.1, by
        have w := SatI.ok k e.z' (J := Itr 0 (b - 0).toNat) walkD_range (rgB_len hb)
        rw [Int.sub_zero] at w
        exact w⟩
    · exact SatI.no k⟩
theorem di_range2 {fz : Bool} {tg a b : Expr} {f g : Ev → R D} {p pos : Pos} (hg : Gl X "range") (hm : X.mg "range" = none) (ha : DE X cl W a f) (hb : DE X cl W b g) (hs : starEach [a, b] X.env = [(false, eval a X.env), (false, eval b X.env)] := by rfl) (hs2 : starEach [b] X.env = [(false, eval b X.env)] := by rfl) :
    DI X cl W fz tg (.Call (.Name "range" p) [a, b] [] pos) (eRg2 f g) :=
  PI.imp (pi_range2 hg hm (pa_cons ha (pa_cons hb pa_nil (by rw [hs2]; rfl)) (by rw [hs, hs2])) hs hs2) fun σ H Rr ⟨H0, Z0, Z, ρ, m, s⟩ => ⟨H0, Z0, Z, ρ, m, SatI.bind s fun d v Z1 H1 hq1 x1 g1 s1 => ⟨H0, Z0, Z1, ρ, m.ext x1, SatI.bind s1 fun d2 v2 Z2 H2 hq2 x2 g2 k => by
    cases d <;> cases d2 <;> simp only [dRg] at k <;> try exact SatI.no k
    rename_i a b
    cases g1
    cases g2
    split at k
    · rename_i hb
      exact ⟨a, b, rfl, ⟨hb.1, hb.2.1, hb.2.2.1, hb.2.2.2.1⟩, SatI.ok k x2.z' walkD_range (rgB_len hb)⟩
    · exact SatI.no k⟩⟩

/-! ### list comprehensions -/
def DTs (X : Cx) (cl : Nat → Value) (W : WX) (e : List Expr) (f : Ev → R Bool) : Prop := PTs X e (tG X.K cl W GT f)
theorem PTs.imp {X : Cx} {e : List Expr} {t t' : TT} (h : PTs X e t) (q : ∀ σ H Q, t' σ H Q → t σ H Q) : PTs X e t' := ⟨fun pins s σ H Q I x => h.run pins s σ H Q I (q σ H Q x)⟩
def tTrue : Ev → R Bool := fun _ => .ok true
theorem dts_nil : DTs X cl W [] tTrue := PTs.imp pts_nil fun σ H Q ⟨H0, Z0, Z, ρ, m, s⟩ => Sat.ok (G := GT) s (Ext.refl m.sZ) rfl
theorem dts_one {c : Expr} {f : Ev → R Bool} (h : DT X cl W c f) : DTs X cl W [c] f := pts_one h
/-- the items of a comprehension, one by one -/
def compL (p : Pat) (c : Ev → R Bool) (fe : Ev → R D) (ρ : Ev) : List D → R (List D)
  | [] => .ok []
  | x :: xs => match setP p x ρ with
    | none => .stuck
    | some ρ1 => match c ρ1 with
      | .ok true => match fe ρ1 with
        | .ok y => match compL p c fe ρ xs with
          | .ok ys => .ok (y :: ys)
          | _ => .stuck
        | _ => .stuck
      | .ok false => compL p c fe ρ xs
      | _ => .stuck
def nofl : R (List D) → R D
  | .ok l => .ok (.lst l)
  | _ => .stuck
def eComp (fi : Ev → R (List D)) (p : Pat) (vs : List Nat) (c : Ev → R Bool) (fe : Ev → R D) : Ev → R D := fun ρ => fi ρ >>= fun items => nofl (compL p c fe (wipeE ρ vs) items)
abbrev W0 : WX := fun _ _ _ _ => False
theorem compL_len {p : Pat} {c : Ev → R Bool} {fe : Ev → R D} {ρ : Ev} : ∀ {l : List D} {out : List D}, compL p c fe ρ l = .ok out → out.length ≤ l.length
  | [], out, h => by simp [compL] at h; subst h; simp
  | x :: xs, out, h => by
    unfold compL at h
    split at h
    · cases h
    · split at h
      · split at h
        · split at h
          · rename_i ys hys
            cases h
            have := compL_len hys
            simp; omega
          · cases h
        · cases h
      · have := compL_len h
        simp; omega
      · cases h
theorem setP_len {p : Pat} {d : D} {ρ ρ' : Ev} (h : setP p d ρ = some ρ') : ρ'.length = ρ.length := by
  revert d ρ ρ'
  refine Pat.rec (motive_1 := fun p => ∀ {d : D} {ρ ρ' : Ev}, setP p d ρ = some ρ' → ρ'.length = ρ.length) (motive_2 := fun ps => ∀ {ds : List D} {ρ ρ' : Ev}, setPs ps ds ρ = some ρ' → ρ'.length = ρ.length) ?_ ?_ ?_ ?_ p
  · intro i d ρ ρ' h
    simp only [setP, Option.some.injEq] at h
    subst h; simp
  · intro l ih d ρ ρ' h
    cases d <;> simp only [setP] at h <;> try (cases h)
    exact ih h
  · intro ds ρ ρ' h
    cases ds <;> simp [setPs] at h
    subst h; rfl
  · intro q qs h1 h2 ds ρ ρ' h
    cases ds with
    | nil => simp [setPs] at h
    | cons d ds =>
      simp only [setPs, Option.bind_eq_some_iff] at h
      obtain ⟨ρ1, a, b⟩ := h
      rw [h2 b, h1 a]
theorem lc_use {K : PySem.W.Frag} {p : Pat} {vs : List Nat} {fi : Ev → R (List D)} {c : Ev → R Bool} {fe : Ev → R D} {fz : Bool} (hp : ∀ i ∈ p.slots, i ∈ vs) {σ : L2.St} {H : Hp} {Q : VK} (h : tG K cl W (GF K) (eComp fi p vs c fe) σ H Q) :
    tLc (tI K cl W fz fi) (tP K p) (tG K cl W0 GT c) (tG K cl W0 (GE K) fe) vs σ H Q := by
  obtain ⟨H0, Z0, Z, ρ, m, s⟩ := h
  refine ⟨H0, Z0, Z, ρ, m, ?_⟩
  cases hf : fi ρ with
  | ex cc => simp only [eComp, hf] at s; exact s
  | stuck => simp only [eComp, hf] at s; exact s
  | ok items =>
    simp only [eComp, hf, R.ok_bind] at s
    cases ho : compL p c fe (wipeE ρ vs) items with
    | ex cc => rw [ho] at s; exact Sat.no s
    | stuck => rw [ho] at s; exact Sat.no s
    | ok out =>
      rw [ho] at s
      intro J Z1 H1 e1 w wl Dd hD
      have zD : Z1 Dd = none := same_none e1.z' hD
      -- the invariant
      refine ⟨fun i mm Hi => mm = items.length - i ∧ i ≤ items.length ∧ ∃ Zi acc dn rest, Ext Z1 H1 Zi Hi ∧ Zi Dd = none ∧ Hi Dd = some (.lst acc) ∧ RpL K Zi acc dn ∧ compL p c fe (wipeE ρ vs) (items.drop i) = .ok rest ∧ out = dn ++ rest ∧ dn.length ≤ i, ⟨items.length, by simp, Nat.zero_le _, Z1, [], [], out, Ext.newO e1.z' hD, zD, upd_same, .nil, by simpa using ho, rfl, Nat.zero_le _⟩, ?_⟩
      rintro i mm Hi ⟨rfl, hi, Zi, acc, dn, rest, ei, zi, hDi, ra, hc, hout, hdl⟩
      have sb : Same (if fz = true then Z1 else H1) Hi := by
        cases fz with
        | true => exact ei.sZ.trans ei.z'
        | false => exact ei.sH
      by_cases hlt : i < items.length
      · refine .inr ⟨w.goes i Hi hlt sb, fun H' => (i + 1 ≤ items.length) ∧ ∃ Zi acc dn rest, Ext Z1 H1 Zi H' ∧ Zi Dd = none ∧ H' Dd = some (.lst acc) ∧ RpL K Zi acc dn ∧ compL p c fe (wipeE ρ vs) (items.drop (i + 1)) = .ok rest ∧ out = dn ++ rest ∧ dn.length ≤ i + 1, fun H' q => ⟨items.length - (i + 1), by omega, rfl, q.1, q.2⟩, fun x H' y => ?_⟩
        obtain ⟨d, Z2, hd, e2, rx⟩ := w.yields i Zi Hi x H' hlt sb ei.sZ ei.z' y
        have hDi' := e2.sH _ _ hDi
        have z2 : Z2 Dd = none := by rw [e2.z0 Dd (by rw [hDi]; simp)]; exact zi
        have et := ei.trans e2
        have mw : Mt K H0 Z0 Z2 (wipeE ρ vs) (wipe σ vs) H' := ((m.ext e1).ext et).wipe vs
        have hdrop : items.drop i = d :: items.drop (i + 1) := by
          rw [List.drop_eq_getElem_cons hlt]
          rw [List.getElem?_eq_getElem hlt] at hd
          rw [Option.some.inj hd]
        rw [hdrop] at hc
        unfold compL at hc
        split at hc
        · cases hc
        · rename_i ρ1 hρ1
          refine ⟨H0, Z0, Z2, _, d, ρ1, mw, rx, hρ1, fun σ2 m2 f2 => ⟨wipe_again (by rw [← m2.len]; rw [setP_len hρ1, mw.len, wipe_length]) (fun j hj => ?_), H0, Z0, Z2, ρ1, m2, ?_⟩⟩
          · rw [f2 j (fun z => hj (hp j z)), wipe_get, if_neg hj]
          · -- the test
            cases hcc : c ρ1 with
            | ex _ => rw [hcc] at hc; cases hc
            | stuck => rw [hcc] at hc; cases hc
            | ok b =>
              rw [hcc] at hc
              intro b' Z3 H3 e3 g3
              cases g3
              have et3 := et.trans e3
              have hD3 := e3.sH _ _ hDi'
              have z3 : Z3 Dd = none := by rw [e3.z0 Dd (by rw [hDi']; simp)]; exact z2
              cases b with
              | false =>
                rw [if_neg Bool.false_ne_true]
                exact ⟨hlt, Z3, acc, dn, rest, et3, z3, hD3, ra.mono (Same.le (e2.trans e3).sZ), hc, hout, by omega⟩
              | true =>
                rw [if_pos rfl]
                refine ⟨H0, Z0, Z3, ρ1, m2.ext e3, ?_⟩
                cases he : fe ρ1 with
                | ex _ => rw [he] at hc; cases hc
                | stuck => rw [he] at hc; cases hc
                | ok yd =>
                  rw [he] at hc
                  intro yv Z4 H4 e4 g4
                  simp only at hc
                  split at hc
                  · rename_i ys hys
                    cases hc
                    have hD4 := e4.sH _ _ hD3
                    have z4 : Z4 Dd = none := by rw [e4.z0 Dd (by rw [hD3]; simp)]; exact z3
                    have et4 := et3.trans e4
                    have hz : acc.length < sizeLine := by rw [ra.length, sizeLine_eq]; omega
                    refine ⟨acc, hD4, hz, hlt, Z4, acc ++ [yv], dn ++ [yd], ys, ⟨fun b o q => ?_, et4.sZ, fun b o q => ?_, et4.z0⟩, z4, upd_same, (ra.mono (Same.le ((e2.trans e3).trans e4).sZ)).append (.cons g4 .nil), hys, by simp [hout], by simp; omega⟩
                    · rw [upd_ne (ne_of_none q hD)]; exact et4.sH b o q
                    · rw [upd_ne (ne_of_none q z4)]; exact et4.z' b o q
                  · cases hc
      · have hi2 : i = items.length := by omega
        subst hi2
        refine .inl ⟨w.stops Hi sb, ?_⟩
        have : rest = [] := by simpa [compL] using hc.symm
        subst this
        rw [List.append_nil] at hout
        subst hout
        refine Sat.ok (G := GF K) s (e1.trans ei) ⟨Dd, _, rfl, e1.sH.free hD, zi, hDi, .lst ?_ ra⟩
        rw [ra.length, sizeLine_eq]
        have := compL_len ho
        omega
theorem df_lc {elt tg iter : Expr} {ifs : List Expr} {scope : Scope} {own : List (Str × Nat)} {pos : Pos} {p : Pat} {fi : Ev → R (List D)} {c : Ev → R Bool} {fe : Ev → R D} {fz : Bool} (hc : X.calm = true) (hN : X.N.Nodup) (hi : DI X cl W fz tg iter fi) (ok : BlkOk X.N X.env.scope scope own)
    (hp : ∀ i ∈ p.slots, i ∈ own.map (·.2))
    (hg : ∀ (s : Shared) (H : Hp) (C : Addr) (l : List (Str × Addr)) (fp : List Addr), DG (X.blk s H scope (compEnvC scope l C X.env) fp) tg p) (ht : ∀ (s : Shared) (H : Hp) (C : Addr) (l : List (Str × Addr)) (fp : List Addr), DTs (X.blk s H scope (compEnvC scope l C X.env) fp) cl W0 ifs c)
    (he : ∀ (s : Shared) (H : Hp) (C : Addr) (l : List (Str × Addr)) (fp : List Addr), DE (X.blk s H scope (compEnvC scope l C X.env) fp) cl W0 elt fe) (hs : ∀ x, foldedSetIterable iter X.env x = pure x := by intro _; rfl) :
    DF X cl W (.ListComp elt [⟨tg, iter, ifs, 0⟩] scope pos) (eComp fi p (own.map (·.2)) c fe) :=
  PE.imp (pe_lc (g := tP X.K p) (tt := tG X.K cl W0 GT c) (te := tG X.K cl W0 (GE X.K) fe) hc hN hi ok hg ht he hs) fun σ H Q h => lc_use hp h
end
end DL

/-! The data layer, part 8: statements, defs. -/
namespace DL
open PySem PySem.Spec PyProof.Rows L2

inductive Out where
  | nx (ρ : Ev) | rt (d : D) | bk (ρ : Ev) | ct (ρ : Ev) | ex (c : Nat) (ρ : Ev) | stuck
def SatS (K : PySem.W.Frag) (cl : Nat → Value) (W : WX) (G : Hp → Hp → Hp → V → D → Prop) (H0 Z0 : Hp) (r : Out) (Dn : Ends) : Prop := match r with
  | .nx ρ => ∀ σ H Z, Mt K H0 Z0 Z ρ σ H → Dn.nx σ H
  | .bk ρ => ∀ σ H Z, Mt K H0 Z0 Z ρ σ H → Dn.bk σ H
  | .ct ρ => ∀ σ H Z, Mt K H0 Z0 Z ρ σ H → Dn.ct σ H
  | .rt d => ∀ v H Z, Ext Z0 H0 Z H → G H0 Z H v d → Dn.rt v H
  | .ex c ρ => ∀ σ H Z, Mt K H0 Z0 Z ρ σ H → W (cl c) none σ H
  | .stuck => False
def tS (K : PySem.W.Frag) (cl : Nat → Value) (W : WX) (G : Hp → Hp → Hp → V → D → Prop) (s : Ev → Out) : TS := fun Dn σ H => ∃ H0 Z0 Z ρ, Mt K H0 Z0 Z ρ σ H ∧ SatS K cl W G H0 Z0 (s ρ) Dn
def DS (X : Cx) (cl : Nat → Value) (W : WX) (G : Hp → Hp → Hp → V → D → Prop) (st : Stmt) (s : Ev → Out) : Prop := PS X st (tS X.K cl W G s)
def DSs (X : Cx) (cl : Nat → Value) (W : WX) (G : Hp → Hp → Hp → V → D → Prop) (st : List Stmt) (s : Ev → Out) : Prop := PSs X st (tS X.K cl W G s)
theorem PS.imp {X : Cx} {e : Stmt} {t t' : TS} (h : PS X e t) (q : ∀ Dn σ H, t' Dn σ H → t Dn σ H) : PS X e t' := ⟨fun pins s σ H Dn I x => h.run pins s σ H Dn I (q Dn σ H x)⟩
theorem PSs.imp {X : Cx} {e : List Stmt} {t t' : TS} (h : PSs X e t) (q : ∀ Dn σ H, t' Dn σ H → t Dn σ H) : PSs X e t' := ⟨fun pins s σ H Dn I x => h.run pins s σ H Dn I (q Dn σ H x)⟩
theorem Mt.rt {K : PySem.W.Frag} {H0 Z0 Z H : Hp} {ρ : Ev} {σ : L2.St} (m : Mt K H0 Z0 Z ρ σ H) : Ext Z0 H0 Z H := ⟨m.sH, m.s0, m.sZ, m.z0⟩
theorem SatS.no {K : PySem.W.Frag} {cl : Nat → Value} {W : WX} {G : Hp → Hp → Hp → V → D → Prop} {H0 Z0 : Hp} {Dn : Ends} {P : Prop} (h : SatS K cl W G H0 Z0 .stuck Dn) : P := False.elim h

section
variable {X : Cx} {cl : Nat → Value} {W : WX} {G : Hp → Hp → Hp → V → D → Prop}
/-- from an expression to what follows it -/
def thenS {α : Type} (r : R α) (ρ : Ev) (k : α → Out) : Out := match r with
  | .ok d => k d
  | .ex c => .ex c ρ
  | .stuck => .stuck
theorem SatS.thenS {α β : Type} {G' : Hp → Hp → Hp → β → α → Prop} {H0 Z0 Z H : Hp} {ρ : Ev} {σ : L2.St} {r : R α} {k : α → Out} {Dn : Ends} {Q : β → Hp → Prop} (m : Mt X.K H0 Z0 Z ρ σ H) (h : SatS X.K cl W G H0 Z0 (DL.thenS r ρ k) Dn)
    (hk : ∀ d v Z' H', r = .ok d → Mt X.K H0 Z0 Z' ρ σ H' → Ext Z H Z' H' → G' H Z' H' v d → SatS X.K cl W G H0 Z0 (k d) Dn → Q v H') : Sat cl W σ Z H G' r Q := by
  cases r with
  | ok d => exact fun v Z' H' e g => hk d v Z' H' rfl (m.ext e) e g h
  | ex c => exact fun Z' H' e => h σ H' Z' (m.ext e)
  | stuck => exact h

/-! ### blocks -/
def sSeq (s t : Ev → Out) : Ev → Out := fun ρ => match s ρ with
  | .nx ρ' => t ρ'
  | o => o
def sNil : Ev → Out := fun ρ => .nx ρ
theorem dss_nil : DSs X cl W G [] sNil := PSs.imp pss_nil fun Dn σ H ⟨H0, Z0, Z, ρ, m, s⟩ => s σ H Z m
theorem dss_cons {st : Stmt} {rest : List Stmt} {s t : Ev → Out} (h1 : DS X cl W G st s) (h2 : DSs X cl W G rest t) : DSs X cl W G (st :: rest) (sSeq s t) :=
  PSs.imp (pss_cons h1 h2) fun Dn σ H ⟨H0, Z0, Z, ρ, m, h⟩ => ⟨H0, Z0, Z, ρ, m, by
    unfold sSeq at h
    cases hs : s ρ with
    | nx ρ' => rw [hs] at h; exact fun σ' H' Z' m' => ⟨H0, Z0, Z', ρ', m', h⟩
    | rt d => rw [hs] at h; exact h
    | bk d => rw [hs] at h; exact h
    | ct d => rw [hs] at h; exact h
    | ex c d => rw [hs] at h; exact h
    | stuck => rw [hs] at h; exact h⟩
theorem dss_one {st : Stmt} {s : Ev → Out} (h1 : DS X cl W G st s) : DSs X cl W G [st] s := PSs.imp (pss_one h1) fun _ _ _ h => h
def sPass : Ev → Out := fun ρ => .nx ρ
def sBreak : Ev → Out := fun ρ => .bk ρ
def sCont : Ev → Out := fun ρ => .ct ρ
theorem ds_pass {pos : Pos} : DS X cl W G (.Pass pos) sPass := PS.imp ps_pass fun Dn σ H ⟨H0, Z0, Z, ρ, m, s⟩ => s σ H Z m
theorem ds_break {pos : Pos} : DS X cl W G (.Break pos) sBreak := PS.imp ps_break fun Dn σ H ⟨H0, Z0, Z, ρ, m, s⟩ => s σ H Z m
theorem ds_cont {pos : Pos} : DS X cl W G (.Continue pos) sCont := PS.imp ps_continue fun Dn σ H ⟨H0, Z0, Z, ρ, m, s⟩ => s σ H Z m
/-- an object of one's own is frozen -/
def sFrz (i : Nat) (s : Ev → Out) : Ev → Out := fun ρ => match ρ[i]? with
  | some (.ow d) => s (ρ.set i (.im d))
  | some (.im _) => s ρ
  | _ => .stuck
theorem Mt.frz {K : PySem.W.Frag} {H0 Z0 Z H : Hp} {ρ : Ev} {σ : L2.St} (m : Mt K H0 Z0 Z ρ σ H) {i : Nat} {d : D} (h : ρ[i]? = some (Sl.ow d)) : ∃ Z', Mt K H0 Z0 Z' (ρ.set i (.im d)) σ H := by
  obtain ⟨a, o, es, n0, n, ho, w⟩ := m.ow i d h
  have s1 : Same Z (upd Z a o) := same_upd n
  refine ⟨upd Z a o, m.sH, fun b u q => ?_, m.s0.trans s1, fun b q => ?_, fun j e q => ?_, fun j e q => ?_, fun j k b x y h1 h2 h3 h4 => ?_, fun j e q => ?_, by simp [m.len]⟩
  · by_cases hb : b = a
    · subst hb; rw [upd_same] at q; cases q; exact ho
    · rw [upd_ne hb] at q; exact m.sZ b u q
  · rw [upd_ne (fun z => q (by rw [z]; exact n0))]; exact m.z0 b q
  · by_cases hj : i = j
    · subst hj
      rw [List.getElem?_set_self (List.getElem?_eq_some_iff.mp h).1] at q
      cases q
      exact ⟨_, es, w.rp n⟩
    · rw [List.getElem?_set_ne hj] at q
      obtain ⟨v, e1, e2⟩ := m.im j e q
      exact ⟨v, e1, e2.mono (Same.le s1)⟩
  · have hj : i ≠ j := fun z => by
      subst z
      rw [List.getElem?_set_self (List.getElem?_eq_some_iff.mp h).1] at q
      cases q
    rw [List.getElem?_set_ne hj] at q
    obtain ⟨b, u, e1, e2, e3, e4, e5⟩ := m.ow j e q
    have hb : b ≠ a := fun z => by
      subst z
      exact hj (m.ap i j b d e h q es e1)
    exact ⟨b, u, e1, e2, by rw [upd_ne hb]; exact e3, e4, e5.mono (Same.le s1)⟩
  · have e1 : i ≠ j := fun z => by
      subst z
      rw [List.getElem?_set_self (List.getElem?_eq_some_iff.mp h).1] at h1; cases h1
    have e2 : i ≠ k := fun z => by
      subst z
      rw [List.getElem?_set_self (List.getElem?_eq_some_iff.mp h).1] at h2; cases h2
    rw [List.getElem?_set_ne e1] at h1
    rw [List.getElem?_set_ne e2] at h2
    exact m.ap j k b x y h1 h2 h3 h4
  · have hj : i ≠ j := fun z => by
      subst z
      rw [List.getElem?_set_self (List.getElem?_eq_some_iff.mp h).1] at q
      cases q
    rw [List.getElem?_set_ne hj] at q
    exact m.raw j e q
theorem dss_frz (i : Nat) {sts : List Stmt} {s : Ev → Out} (h : DSs X cl W G sts s) : DSs X cl W G sts (sFrz i s) :=
  PSs.imp h fun Dn σ H ⟨H0, Z0, Z, ρ, m, q⟩ => by
    unfold sFrz at q
    split at q
    · rename_i d hd
      obtain ⟨Z', m'⟩ := m.frz hd
      exact ⟨H0, Z0, Z', _, m', q⟩
    · exact ⟨H0, Z0, Z, ρ, m, q⟩
    · exact SatS.no q
theorem ds_frz (i : Nat) {st : Stmt} {s : Ev → Out} (h : DS X cl W G st s) : DS X cl W G st (sFrz i s) :=
  PS.imp h fun Dn σ H ⟨H0, Z0, Z, ρ, m, q⟩ => by
    unfold sFrz at q
    split at q
    · rename_i d hd
      obtain ⟨Z', m'⟩ := m.frz hd
      exact ⟨H0, Z0, Z', _, m', q⟩
    · exact ⟨H0, Z0, Z, ρ, m, q⟩
    · exact SatS.no q

/-! ### expressions as statements, return, if -/
def sExpr (f : Ev → R D) : Ev → Out := fun ρ => thenS (f ρ) ρ fun _ => .nx ρ
theorem ds_expr {e : Expr} {f : Ev → R D} {pos : Pos} (he : DB X cl W e f) (hs : swapsWith e none pos.line X.env = pure false := by rfl) : DS X cl W G (.Expr e pos) (sExpr f) :=
  PS.imp (ps_expr he hs) fun Dn σ H ⟨H0, Z0, Z, ρ, m, h⟩ => ⟨H0, Z0, Z, ρ, m, SatS.thenS m h fun d v Z' H' _ m' e g k => k σ H' Z' m'⟩
def sRet (f : Ev → R D) : Ev → Out := fun ρ => thenS (f ρ) ρ .rt
theorem ds_ret {e : Expr} {f : Ev → R D} {pos : Pos} (he : DE X cl W e f) : DS X cl W (GE X.K) (.Return (some e) pos) (sRet f) :=
  PS.imp (ps_ret he) fun Dn σ H ⟨H0, Z0, Z, ρ, m, h⟩ => ⟨H0, Z0, Z, ρ, m, SatS.thenS m h fun d v Z' H' _ m' e g k => k v H' Z' m'.rt g⟩
theorem ds_retF {e : Expr} {f : Ev → R D} {pos : Pos} (he : DF X cl W e f) : DS X cl W (GF X.K) (.Return (some e) pos) (sRet f) :=
  PS.imp (ps_ret he) fun Dn σ H ⟨H0, Z0, Z, ρ, m, h⟩ => ⟨H0, Z0, Z, ρ, m, SatS.thenS m h fun d v Z' H' _ m' e g k => k v H' Z' m'.rt (gokF.m _ _ _ _ _ _ m.sH g)⟩
/-- return of an object of one's own -/
def eOw (i : Nat) : Ev → R D := fun ρ => match ρ[i]? with
  | some (.ow d) => .ok d
  | _ => .stuck
theorem ds_retO {i : Nat} {x : Str} {p pos : Pos} (hN : X.N[i]? = some x) (hv : Vis X.env.scope x) (hd : (x == ("__debug__" : Str)) = false := by decide) (hcd : (x == ("__classdict__" : Str)) = false := by decide) : DS X cl W (GF X.K) (.Return (some (.Name x p)) pos) (sRet (eOw i)) :=
  PS.imp (ps_ret (pe_var hN hv hd hcd)) fun Dn σ H ⟨H0, Z0, Z, ρ, m, h⟩ => by
    unfold sRet eOw at h
    split at h
    · rename_i d hd
      obtain ⟨a, o, es, n0, n, ho, w⟩ := m.ow i d hd
      exact ⟨_, es, h _ H Z m.rt ⟨a, o, rfl, n0, n, ho, w⟩⟩
    · exact SatS.no h
theorem ds_retN {pos : Pos} : DS X cl W (GE X.K) (.Return none pos) (fun _ => .rt .non) := PS.imp ps_retN fun Dn σ H ⟨H0, Z0, Z, ρ, m, h⟩ => h .non H Z m.rt .non
def sIf (c : Ev → R Bool) (s t : Ev → Out) : Ev → Out := fun ρ => thenS (c ρ) ρ fun b => if b = true then s ρ else t ρ
theorem ds_if {c : Expr} {a b : List Stmt} {fc : Ev → R Bool} {s t : Ev → Out} {pos : Pos} (hc : DT X cl W c fc) (ha : DSs X cl W G a s) (hb : DSs X cl W G b t) : DS X cl W G (.If c a b pos) (sIf fc s t) :=
  PS.imp (ps_if hc ha hb) fun Dn σ H ⟨H0, Z0, Z, ρ, m, h⟩ => ⟨H0, Z0, Z, ρ, m, SatS.thenS m h fun d v Z' H' _ m' e g k => by
    cases g
    split at k <;> rename_i hv
    · rw [if_pos hv]; exact ⟨H0, Z0, Z', ρ, m', k⟩
    · rw [if_neg hv]; exact ⟨H0, Z0, Z', ρ, m', k⟩⟩

/-! ### assignments -/
def sAsg (f : Ev → R D) (p : Pat) : Ev → Out := fun ρ => thenS (f ρ) ρ fun d => match setP p d ρ with
  | some ρ' => .nx ρ'
  | none => .stuck
theorem asg_use {f : Ev → R D} {p : Pat} {Dn : Ends} {σ : L2.St} {H : Hp} (h : tS X.K cl W G (sAsg f p) Dn σ H) : tAsg (tG X.K cl W (GE X.K) f) (tP X.K p) Dn σ H := by
  obtain ⟨H0, Z0, Z, ρ, m, h⟩ := h
  refine ⟨H0, Z0, Z, ρ, m, SatS.thenS m h fun d v Z' H' _ m' e g k => ?_⟩
  split at k
  · rename_i ρ' hp
    exact ⟨H0, Z0, Z', ρ, d, ρ', m', g, hp, fun σ' m2 _ => k σ' H' Z' m2⟩
  · exact SatS.no k
theorem ds_asg {tg e : Expr} {f : Ev → R D} {p : Pat} {pos : Pos} (he : DE X cl W e f) (hg : DG X tg p) (hs : swapsWithSole [tg] e pos.line X.env = pure false := by rfl) (hw : swappedStores [tg] e X.env = pure none := by rfl)
    (h1 : (assignEach [tg] X.env).map (·.2) = [assign tg X.env] := by rfl) : DS X cl W G (.Assign [tg] e pos) (sAsg f p) := PS.imp (ps_asg he hg hs hw h1) fun Dn σ H h => asg_use h
theorem ds_set {i : Nat} {x : Str} {e : Expr} {f : Ev → R D} {pos pos' : Pos} (hN : X.N.Nodup) (hi : X.N[i]? = some x) (hx : L2.Loc X.env.scope x) (he : DE X cl W e f) (hs : swapsWith e (some (.Name x pos')) pos.line X.env = pure false := by rfl)
    (hf : X.fn x = true ∨ X.env.scope.names.lookup x = some .local := by first | exact .inl rfl | exact .inr rfl | assumption) : DS X cl W G (.Assign [.Name x pos'] e pos) (sAsg f (.nm i)) :=
  PS.imp (ps_set hN hi hx he hs hf) fun Dn σ H ⟨H0, Z0, Z, ρ, m, h⟩ => ⟨H0, Z0, Z, ρ, m, SatS.thenS m h fun d v Z' H' _ m' e g k => k _ H' Z' (m'.set g i)⟩
theorem Mt.setOw {K : PySem.W.Frag} {H0 Z0 Z H Z' H' : Hp} {ρ : Ev} {σ : L2.St} (m : Mt K H0 Z0 Z ρ σ H) (e : Ext Z H Z' H') {v : V} {d : D} (g : GF K H Z' H' v d) (i : Nat) : Mt K H0 Z0 Z' (ρ.set i (.ow d)) (σ.set i (some v)) H' := by
  obtain ⟨a, o, ev, n0, n, ho, w⟩ := g
  subst ev
  have m1 := m.ext e
  have ne : ∀ (j : Nat) (x : D) , ρ[j]? = some (Sl.ow x) → σ[j]? ≠ some (some (V.ref a)) := fun j x q z => by
    obtain ⟨b, u, e1, e2, e3, e4, e5⟩ := m.ow j x q
    rw [z] at e1; cases e1
    rw [n0] at e4; cases e4
  have lt : ∀ {j : Nat} {s : Sl}, (ρ.set i (.ow d))[j]? = some s → j < ρ.length := fun q => by
    have := (List.getElem?_eq_some_iff.mp q).1
    simpa using this
  refine ⟨m1.sH, m1.sZ, m1.s0, m1.z0, fun j x q => ?_, fun j x q => ?_, fun j k b x y h1 h2 h3 h4 => ?_, fun j x q => ?_, by simp [m.len]⟩
  · by_cases hj : i = j
    · subst hj; rw [List.getElem?_set_self (lt q)] at q; cases q
    · rw [List.getElem?_set_ne hj] at q ⊢; exact m1.im j x q
  · by_cases hj : i = j
    · subst hj
      have hl := lt q
      rw [List.getElem?_set_self hl] at q
      cases q
      exact ⟨a, o, List.getElem?_set_self (by rw [← m.len]; exact hl), m.sH.free n0, n, ho, w⟩
    · rw [List.getElem?_set_ne hj] at q ⊢; exact m1.ow j x q
  · by_cases hj : i = j
    · by_cases hk : i = k
      · rw [← hj, ← hk]
      · rw [List.getElem?_set_ne hk] at h2 h4
        subst hj
        have hl := lt h1
        rw [List.getElem?_set_self (by rw [← m.len]; exact hl)] at h3
        cases h3
        exact absurd h4 (ne k y h2)
    · by_cases hk : i = k
      · rw [List.getElem?_set_ne hj] at h1 h3
        subst hk
        have hl := lt h2
        rw [List.getElem?_set_self (by rw [← m.len]; exact hl)] at h4
        cases h4
        exact absurd h3 (ne j x h1)
      · rw [List.getElem?_set_ne hj] at h1 h3
        rw [List.getElem?_set_ne hk] at h2 h4
        exact m1.ap j k b x y h1 h2 h3 h4
  · by_cases hj : i = j
    · subst hj; rw [List.getElem?_set_self (lt q)] at q; cases q
    · rw [List.getElem?_set_ne hj] at q ⊢; exact m1.raw j x q
/-- x = a new object of one's own -/
def sOwn (f : Ev → R D) (i : Nat) : Ev → Out := fun ρ => thenS (f ρ) ρ fun d => .nx (ρ.set i (.ow d))
theorem own_use {f : Ev → R D} {i : Nat} {Dn : Ends} {σ : L2.St} {H : Hp} (h : tS X.K cl W G (sOwn f i) Dn σ H) : tAsg (tG X.K cl W (GF X.K) f) (gName i) Dn σ H := by
  obtain ⟨H0, Z0, Z, ρ, m, h⟩ := h
  exact ⟨H0, Z0, Z, ρ, m, SatS.thenS m h fun d v Z' H' _ m' e g k => k _ H' Z' (m.setOw e g i)⟩
theorem ds_own {i : Nat} {x : Str} {e : Expr} {f : Ev → R D} {pos pos' : Pos} (hN : X.N.Nodup) (hi : X.N[i]? = some x) (hx : L2.Loc X.env.scope x) (he : DF X cl W e f) (hs : swapsWith e (some (.Name x pos')) pos.line X.env = pure false := by rfl)
    (hf : X.fn x = true ∨ X.env.scope.names.lookup x = some .local := by first | exact .inl rfl | exact .inr rfl | assumption) : DS X cl W G (.Assign [.Name x pos'] e pos) (sOwn f i) := PS.imp (ps_set hN hi hx he hs hf) fun Dn σ H h => own_use h
/-- y = [..] on one line, y a local -/
theorem ds_ownLc {i : Nat} {y : Str} {py : Pos} {elt tg iter : Expr} {ifs : List Expr} {scope : Scope} {own : List (Str × Nat)} {pos spos : Pos} {p : Pat} {fi : Ev → R (List D)} {c : Ev → R Bool} {fe : Ev → R D} {fz : Bool} (hc : X.calm = true) (hN : X.N.Nodup) (hy : X.N[i]? = some y) (hyl : X.env.scope.names.lookup y = some .local)
    (hsw : swapsWith (.ListComp elt [⟨tg, iter, ifs, 0⟩] scope pos) (some (.Name y py)) spos.line X.env = pure true) (hi : DI X cl W fz tg iter fi) (ok : BlkOk X.N X.env.scope scope own) (hp : ∀ i ∈ p.slots, i ∈ own.map (·.2))
    (hg : ∀ (s : Shared) (H : Hp) (C : Addr) (l : List (Str × Addr)) (fp : List Addr), DG (X.blk s H scope (compEnvC scope l C X.env) fp) tg p) (ht : ∀ (s : Shared) (H : Hp) (C : Addr) (l : List (Str × Addr)) (fp : List Addr), DTs (X.blk s H scope (compEnvC scope l C X.env) fp) cl W0 ifs c)
    (he : ∀ (s : Shared) (H : Hp) (C : Addr) (l : List (Str × Addr)) (fp : List Addr), DE (X.blk s H scope (compEnvC scope l C X.env) fp) cl W0 elt fe) (hs : ∀ x, foldedSetIterable iter X.env x = pure x := by intro _; rfl) :
    DS X cl W G (.Assign [.Name y py] (.ListComp elt [⟨tg, iter, ifs, 0⟩] scope pos) spos) (sOwn (eComp fi p (own.map (·.2)) c fe) i) :=
  PS.imp (ps_setLc (g := tP X.K p) (tt := tG X.K cl W0 GT c) (te := tG X.K cl W0 (GE X.K) fe) hc hN hy hyl hsw hi ok hg ht he hs) fun Dn σ H ⟨H0, Z0, Z, ρ, m, h⟩ => lc_use hp ⟨H0, Z0, Z, ρ, m, SatS.thenS m h fun d v Z' H' _ m' e g k => k _ H' Z' (m.setOw e g i)⟩
/-- the same, frozen at once -/
theorem ds_setLc {i : Nat} {y : Str} {py : Pos} {elt tg iter : Expr} {ifs : List Expr} {scope : Scope} {own : List (Str × Nat)} {pos spos : Pos} {p : Pat} {fi : Ev → R (List D)} {c : Ev → R Bool} {fe : Ev → R D} {fz : Bool} (hc : X.calm = true) (hN : X.N.Nodup) (hy : X.N[i]? = some y) (hyl : X.env.scope.names.lookup y = some .local)
    (hsw : swapsWith (.ListComp elt [⟨tg, iter, ifs, 0⟩] scope pos) (some (.Name y py)) spos.line X.env = pure true) (hi : DI X cl W fz tg iter fi) (ok : BlkOk X.N X.env.scope scope own) (hp : ∀ i ∈ p.slots, i ∈ own.map (·.2))
    (hg : ∀ (s : Shared) (H : Hp) (C : Addr) (l : List (Str × Addr)) (fp : List Addr), DG (X.blk s H scope (compEnvC scope l C X.env) fp) tg p) (ht : ∀ (s : Shared) (H : Hp) (C : Addr) (l : List (Str × Addr)) (fp : List Addr), DTs (X.blk s H scope (compEnvC scope l C X.env) fp) cl W0 ifs c)
    (he : ∀ (s : Shared) (H : Hp) (C : Addr) (l : List (Str × Addr)) (fp : List Addr), DE (X.blk s H scope (compEnvC scope l C X.env) fp) cl W0 elt fe) (hs : ∀ x, foldedSetIterable iter X.env x = pure x := by intro _; rfl) :
    DS X cl W G (.Assign [.Name y py] (.ListComp elt [⟨tg, iter, ifs, 0⟩] scope pos) spos) (sAsg (eComp fi p (own.map (·.2)) c fe) (.nm i)) :=
  PS.imp (ps_setLc (g := tP X.K p) (tt := tG X.K cl W0 GT c) (te := tG X.K cl W0 (GE X.K) fe) hc hN hy hyl hsw hi ok hg ht he hs) fun Dn σ H ⟨H0, Z0, Z, ρ, m, h⟩ => lc_use hp ⟨H0, Z0, Z, ρ, m, SatS.thenS m h fun d v Z' H' _ m' e g k => by
    obtain ⟨a, o, ev, n0, n, ho, w⟩ := g
    subst ev
    exact k _ H' _ ((m.ext (freeze m.sZ e n0 ho)).set (w.rp n) i)⟩
/-- x += e, whole numbers -/
def sAug (g : D → D → R D) (i : Nat) (f : Ev → R D) : Ev → Out := fun ρ => match ρ[i]? with
  | some (.im x) => thenS (f ρ) ρ fun y => thenS (g x y) ρ fun z => .nx (ρ.set i (.im z))
  | _ => .stuck
def dAddI : D → D → R D
  | .int i, .int j => .ok (.int (i + j))
  | _, _ => .stuck
theorem ds_augAdd {i : Nat} {x : Str} {e : Expr} {f : Ev → R D} {pos pos' : Pos} (hN : X.N.Nodup) (hi : X.N[i]? = some x) (hx : L2.Loc X.env.scope x) (he : DE X cl W e f)
    (hf : X.fn x = true ∨ X.env.scope.names.lookup x = some .local := by first | exact .inl rfl | exact .inr rfl | assumption) : DS X cl W G (.AugAssign (.Name x pos') .Add e pos) (sAug dAddI i f) :=
  PS.imp (ps_aug hN hi hx he ip_add hf) fun Dn σ H ⟨H0, Z0, Z, ρ, m, h⟩ => by
    unfold sAug at h
    split at h
    · rename_i d hd
      obtain ⟨v, es, rv⟩ := m.im i d hd
      refine ⟨v, es, H0, Z0, Z, ρ, m, SatS.thenS m h fun d2 v2 Z' H' _ m' e g k => ?_⟩
      cases d <;> cases d2 <;> simp only [dAddI, thenS] at k <;> try exact SatS.no k
      cases rv
      cases g
      exact ⟨_, _, rfl, rfl, k _ H' Z' (m'.set (.int _) i)⟩
    · exact SatS.no h
theorem ds_augSub {i : Nat} {x : Str} {e : Expr} {f : Ev → R D} {pos pos' : Pos} (hN : X.N.Nodup) (hi : X.N[i]? = some x) (hx : L2.Loc X.env.scope x) (he : DE X cl W e f)
    (hf : X.fn x = true ∨ X.env.scope.names.lookup x = some .local := by first | exact .inl rfl | exact .inr rfl | assumption) : DS X cl W G (.AugAssign (.Name x pos') .Sub e pos) (sAug dSub i f) :=
  PS.imp (ps_aug hN hi hx he ip_sub hf) fun Dn σ H ⟨H0, Z0, Z, ρ, m, h⟩ => by
    unfold sAug at h
    split at h
    · rename_i d hd
      obtain ⟨v, es, rv⟩ := m.im i d hd
      refine ⟨v, es, H0, Z0, Z, ρ, m, SatS.thenS m h fun d2 v2 Z' H' _ m' e g k => ?_⟩
      cases d <;> cases d2 <;> simp only [dSub, thenS] at k <;> try exact SatS.no k
      cases rv
      cases g
      exact ⟨_, _, rfl, rfl, k _ H' Z' (m'.set (.int _) i)⟩
    · exact SatS.no h

/-! ### an object of one's own changes -/
theorem Mt.write {K : PySem.W.Frag} {H0 Z0 Z H : Hp} {ρ : Ev} {σ : L2.St} (m : Mt K H0 Z0 Z ρ σ H) {i : Nat} {d d' : D} {a : Addr} {o' : HO} (h : ρ[i]? = some (Sl.ow d)) (es : σ[i]? = some (some (V.ref a))) (w' : Own K Z o' d') : Mt K H0 Z0 Z (ρ.set i (.ow d')) σ (upd H a o') := by
  obtain ⟨a2, o, es2, n0, n, ho, w⟩ := m.ow i d h
  rw [es] at es2; cases es2
  have hl := (List.getElem?_eq_some_iff.mp h).1
  refine ⟨fun b u q => by rw [upd_ne (ne_of_none q n0)]; exact m.sH b u q, fun b u q => by rw [upd_ne (ne_of_none q n)]; exact m.sZ b u q, m.s0, m.z0, fun j x q => ?_, fun j x q => ?_, fun j k b x y h1 h2 h3 h4 => ?_, fun j x q => ?_, by simp [m.len]⟩
  · have hj : i ≠ j := fun z => by subst z; rw [List.getElem?_set_self hl] at q; cases q
    rw [List.getElem?_set_ne hj] at q; exact m.im j x q
  · by_cases hj : i = j
    · subst hj
      rw [List.getElem?_set_self hl] at q
      cases q
      exact ⟨a, o', es, n0, n, upd_same, w'⟩
    · rw [List.getElem?_set_ne hj] at q
      obtain ⟨b, u, e1, e2, e3, e4, e5⟩ := m.ow j x q
      have hb : b ≠ a := fun z => by subst z; exact hj (m.ap i j b d x h q es e1)
      exact ⟨b, u, e1, e2, e3, by rw [upd_ne hb]; exact e4, e5⟩
  · have t : ∀ {j : Nat} {x : D}, (ρ.set i (.ow d'))[j]? = some (Sl.ow x) → ∃ x', ρ[j]? = some (Sl.ow x') := fun {j x} q => by
      by_cases hj : i = j
      · subst hj; exact ⟨d, h⟩
      · rw [List.getElem?_set_ne hj] at q; exact ⟨x, q⟩
    obtain ⟨x', h1'⟩ := t h1
    obtain ⟨y', h2'⟩ := t h2
    exact m.ap j k b x' y' h1' h2' h3 h4
  · have hj : i ≠ j := fun z => by subst z; rw [List.getElem?_set_self hl] at q; cases q
    rw [List.getElem?_set_ne hj] at q; exact m.raw j x q
/-- x.append(e) -/
def sApp (i : Nat) (f : Ev → R D) : Ev → Out := fun ρ => match ρ[i]? with
  | some (.ow (.lst l)) => thenS (f ρ) ρ fun d => if l.length < 16777216 then .nx (ρ.set i (.ow (.lst (l ++ [d])))) else .stuck
  | _ => .stuck
theorem Own.l {K : PySem.W.Frag} {Z : Hp} {o : HO} {l : List D} (w : Own K Z o (.lst l)) : ∃ vs, o = .lst vs ∧ vs.length ≤ sizeLine ∧ RpL K Z vs l := by
  cases w with
  | lst a b => exact ⟨_, rfl, a, b⟩
theorem ds_app {i : Nat} {x : Str} {e : Expr} {f : Ev → R D} {p apos cpos pos : Pos} (hN : X.N[i]? = some x) (hv : Vis X.env.scope x) (he : DE X cl W e f) (hd : (x == ("__debug__" : Str)) = false := by decide) (hcd : (x == ("__classdict__" : Str)) = false := by decide)
    (h1 : attributeBase (.Name x p) "append" X.env (eval (.Name x p) X.env) = eval (.Name x p) X.env := by rfl) (h2 : (((backTo cpos (starEach [e] X.env)).all fun x => !x.1) && (backToKw cpos (keywordEach [] X.env)).all fun x => x.1.isSome) && decide (([e].length + ([] : List Keyword).length + if ([] : List Keyword).isEmpty = true then 0 else 1) < 30) = true := by rfl)
    (h3 : (apos.endLine == cpos.line) = true := by rfl) (h4 : starEach [e] X.env = (false, eval e X.env) :: starEach [] X.env := by rfl) (h5 : (backTo cpos (starEach [] X.env)).any (·.1) = false := by rfl)
    (hs : swapsWith (.Call (.Attribute (.Name x p) "append" apos) [e] [] cpos) none pos.line X.env = pure false := by rfl) :
    DS X cl W G (.Expr (.Call (.Attribute (.Name x p) "append" apos) [e] [] cpos) pos) (sApp i f) :=
  PS.imp (ps_expr (pe_bm PySem.F.plainAttrs_list PySem.F.slot_list_append PySem.F.type_list_append mt_append (pe_var hN hv hd hcd) (pa_cons he pa_nil h4) h1 h2 h3 h4 h5) hs) fun Dn σ H ⟨H0, Z0, Z, ρ, m, h⟩ => by
    unfold sApp at h
    split at h
    · rename_i l hl
      obtain ⟨a, o, es, n0, n, ho, w⟩ := m.ow i _ hl
      obtain ⟨vs, rfl, hvl, rl⟩ := w.l
      refine ⟨_, es, .inl ⟨rfl, _, .of ho⟩, H0, Z0, Z, ρ, m, SatS.thenS m h fun d v Z' H' _ m' e g k => ?_⟩
      obtain ⟨a', o', es', n0', n', ho', w'⟩ := m'.ow i _ hl
      rw [es] at es'; cases es'
      obtain ⟨vs', rfl, hvl', rl'⟩ := w'.l
      split at k
      · rename_i hlt
        have hz : vs'.length < sizeLine := by rw [rl'.length, sizeLine_eq]; exact hlt
        exact ⟨a, vs', v, rfl, rfl, ho', hz, k _ _ Z' (m'.write hl es (.lst (by rw [List.length_append]; show vs'.length + 1 ≤ _; omega) (rl'.append (.cons g .nil))))⟩
      · exact SatS.no k
    · exact SatS.no h
/-- x[k] = e: a list, a dict of one's own -/
def putSub (d k v : D) : Option D := match d with
  | .lst l => match k with
    | .int i => (ixN l.length i).map fun j => .lst (l.set j v)
    | _ => none
  | .dK l => (key1? k).bind fun k => if l.length < 16777216 then some (.dK (putD l k v)) else none
  | .dT l => match k with
    | .tup ks => (keys? ks).bind fun k => if l.length < 16777216 then some (.dT (putD l k v)) else none
    | _ => none
  | _ => none
def rSetA : TSet := fun o i v H Q => rSetL o i v H Q ∨ rSetD o i v H Q
theorem PSet.or {t u : TSet} (h : PSet X t) (h' : PSet X u) : PSet X (fun o i v H Q => t o i v H Q ∨ u o i v H Q) := fun pins s σ H o i v ov iv uu Q I r1 r2 r3 x => x.elim (h pins s σ H o i v ov iv uu Q I r1 r2 r3) (h' pins s σ H o i v ov iv uu Q I r1 r2 r3)
theorem length_putK' {κ : Type} [DecidableEq κ] (kvs : List (κ × V)) (k : κ) (v : V) : (putK kvs k v).length ≤ kvs.length + 1 := by
  unfold putK; split <;> simp
theorem put_ok {K : PySem.W.Frag} {Z H : Hp} {a : Addr} {o : HO} {d k v d' : D} {y w : V} {H0 : Hp} (ho : H a = some o) (wo : Own K Z o d) (z : Same Z H) (gk : GB K H0 Z H y k) (gv : Rp K Z w v) (h : putSub d k v = some d') :
    ∃ o', Own K Z o' d' ∧ ∀ Q : Hp → Prop, Q (upd H a o') → rSetA (.ref a) y w H Q := by
  cases wo with
  | lst hl rl =>
    rename_i vs ds
    cases k <;> simp only [putSub] at h <;> try (cases h)
    rename_i i
    simp only [Option.map_eq_some_iff] at h
    obtain ⟨j, hj, rfl⟩ := h
    exact ⟨.lst (vs.set j w), .lst (by rw [List.length_set]; exact hl) (rl.set gv j), fun Q q => .inl ⟨a, vs, i, j, rfl, gk.int, ho, by rw [rl.length]; exact hj, q⟩⟩
  | dK hl rl =>
    rename_i kvs l
    simp only [putSub, Option.bind_eq_some_iff] at h
    obtain ⟨kk, hk, h⟩ := h
    split at h
    · rename_i hlt
      cases h
      have ek := key1?_eq hk
      subst ek
      have ey : y = kV kk := by
        rcases gk with gk | ⟨_, _, _, _, _, w⟩
        · exact rp_key gk
        · cases kk <;> cases w
      have hz : kvs.length < sizeLine := by rw [rl.length, sizeLine_eq]; exact hlt
      exact ⟨.dK (putK kvs kk w), .dK (by have := length_putK' kvs kk w; omega) (rl.put gv kk), fun Q q => .inr ⟨a, _, rfl, .inl ⟨kvs, kk, ho, ey, hz, rfl⟩, q⟩⟩
    · cases h
  | dT hl rl =>
    rename_i kvs l
    cases k <;> simp only [putSub] at h <;> try (cases h)
    rename_i ks
    simp only [Option.bind_eq_some_iff] at h
    obtain ⟨kk, hk, h⟩ := h
    split at h
    · rename_i hlt
      cases h
      have ek := keys?_eq hk
      subst ek
      obtain ⟨b, us, ey, hb, lb, rb⟩ := gk.tup z
      have ev := rpl_keys rb
      subst ev
      have hz : kvs.length < sizeLine := by rw [rl.length, sizeLine_eq]; exact hlt
      exact ⟨.dT (putK kvs kk w), .dT (by have := length_putK' kvs kk w; omega) (rl.put gv kk), fun Q q => .inr ⟨a, _, rfl, .inr ⟨kvs, kk, b, ho, ey, hb, hz, rfl⟩, q⟩⟩
    · cases h
def sPut (i : Nat) (fk fv : Ev → R D) : Ev → Out := fun ρ => match ρ[i]? with
  | some (.ow d) => thenS (fv ρ) ρ fun v => thenS (fk ρ) ρ fun k => match putSub d k v with
    | some d' => .nx (ρ.set i (.ow d'))
    | none => .stuck
  | _ => .stuck
theorem ds_put {i : Nat} {x : Str} {ek ev : Expr} {fk fv : Ev → R D} {p tpos pos : Pos} (hu : X.A.units + 64 < cLine) (hN : X.N[i]? = some x) (hvi : Vis X.env.scope x) (hk : DE X cl W ek fk) (hv : DE X cl W ev fv) (hd : (x == ("__debug__" : Str)) = false := by decide) (hcd : (x == ("__classdict__" : Str)) = false := by decide)
    (ha : ∀ v, assign (.Subscript (.Name x p) ek tpos) X.env v = (do
      let ov ← holding [v] (eval (.Name x p) X.env)
      let iv ← holding [v, ov] (eval ek X.env)
      standAt tpos
      holding [v, ov, iv] (setItem ov iv v)
      release [v, ov, iv] []) := by intro _; rfl)
    (hs : swapsWithSole [.Subscript (.Name x p) ek tpos] ev pos.line X.env = pure false := by rfl) (hw : swappedStores [.Subscript (.Name x p) ek tpos] ev X.env = pure none := by rfl)
    (h1 : (assignEach [.Subscript (.Name x p) ek tpos] X.env).map (·.2) = [assign (.Subscript (.Name x p) ek tpos) X.env] := by rfl) : DS X cl W G (.Assign [.Subscript (.Name x p) ek tpos] ev pos) (sPut i fk fv) :=
  PS.imp (ps_asg hv (pg_sub (pe_var hN hvi hd hcd) hk (PSet.or set_list (set_dict (by omega))) ha) hs hw h1) fun Dn σ H ⟨H0, Z0, Z, ρ, m, h⟩ => by
    unfold sPut at h
    split at h
    · rename_i d hd
      refine ⟨H0, Z0, Z, ρ, m, SatS.thenS m h fun dv v Z' H' _ m' e g h2 => ?_⟩
      obtain ⟨a, o, es, n0, n, ho, w⟩ := m'.ow i d hd
      refine ⟨_, es, H0, Z0, Z', ρ, m', SatS.thenS m' h2 fun dk vk Z2 H2 _ m2 e2 g2 k => ?_⟩
      split at k
      · rename_i d' hp
        have ho2 := e2.sH _ _ ho
        obtain ⟨o', w', q⟩ := put_ok (H0 := H2) ho2 (w.mono (Same.le e2.sZ)) m2.sZ (.inl g2) (g.mono (Same.le e2.sZ)) hp
        exact q _ (k _ _ Z2 (m2.write hd es w'))
      · exact SatS.no k
    · exact SatS.no h

/-! ### loops -/
def mixH (Z H : Hp) : Hp := fun a => match Z a with
  | some o => some o
  | none => H a
theorem Mt.regh {K : PySem.W.Frag} {H0 Z0 Z1 H1 Z H : Hp} {ρ1 ρ : Ev} {σ1 σ : L2.St} (m1 : Mt K H0 Z0 Z1 ρ1 σ1 H1) (m : Mt K H0 Z0 Z ρ σ H) (s : Same Z1 Z) : Mt K (mixH Z1 H0) Z1 Z ρ σ H where
  sH := fun a o q => by
    unfold mixH at q
    cases hz : Z1 a with
    | some o' => rw [hz] at q; cases q; exact m.sZ _ _ (s _ _ hz)
    | none => rw [hz] at q; exact m.sH _ _ q
  sZ := m.sZ
  s0 := s
  z0 := fun a q => by
    unfold mixH at q
    cases hz : Z1 a with
    | some o' => exact s _ _ hz
    | none => rw [hz] at q; rw [m.z0 a q, ← m1.z0 a q, hz]
  im := m.im
  ow := fun i d h => by
    obtain ⟨a, o, es, n0, n, ho, w⟩ := m.ow i d h
    exact ⟨a, o, es, by unfold mixH; rw [s.free n]; exact n0, n, ho, w⟩
  ap := m.ap
  raw := m.raw
  len := m.len
theorem mixH_le {K : PySem.W.Frag} {H0 Z0 Z1 H1 : Hp} {ρ1 : Ev} {σ1 : L2.St} (m1 : Mt K H0 Z0 Z1 ρ1 σ1 H1) : Same H0 (mixH Z1 H0) := fun a o q => by
  unfold mixH
  cases hz : Z1 a with
  | some o' =>
    have e1 := m1.sH _ _ q
    have e2 := m1.sZ _ _ hz
    rw [e1] at e2; cases e2; rfl
  | none => exact q
theorem mixH_none {Z H : Hp} {a : Addr} (h : mixH Z H a = none) : H a = none := by
  unfold mixH at h
  cases hz : Z a with
  | some o => rw [hz] at h; cases h
  | none => rw [hz] at h; exact h
theorem Mt.back {K : PySem.W.Frag} {H0 Z0 Z1 H1 Z H : Hp} {ρ1 ρ : Ev} {σ1 σ : L2.St} (m1 : Mt K H0 Z0 Z1 ρ1 σ1 H1) (m : Mt K (mixH Z1 H0) Z1 Z ρ σ H) : Mt K H0 Z0 Z ρ σ H where
  sH := (mixH_le m1).trans m.sH
  sZ := m.sZ
  s0 := m1.s0.trans m.s0
  z0 := fun a q => by
    have : mixH Z1 H0 a ≠ none := fun z => q (mixH_none z)
    rw [m.z0 a this, m1.z0 a q]
  im := m.im
  ow := fun i d h => by
    obtain ⟨a, o, es, n0, n, ho, w⟩ := m.ow i d h
    exact ⟨a, o, es, mixH_none n0, n, ho, w⟩
  ap := m.ap
  raw := m.raw
  len := m.len
theorem Ext.back {K : PySem.W.Frag} {H0 Z0 Z1 H1 Z H : Hp} {ρ1 : Ev} {σ1 : L2.St} (m1 : Mt K H0 Z0 Z1 ρ1 σ1 H1) (e : Ext Z1 (mixH Z1 H0) Z H) : Ext Z0 H0 Z H :=
  ⟨(mixH_le m1).trans e.sH, m1.s0.trans e.sZ, e.z', fun a q => by
    have : mixH Z1 H0 a ≠ none := fun z => q (mixH_none z)
    rw [e.z0 a this, m1.z0 a q]⟩
def forD (p : Pat) (b : Ev → Out) : List D → Ev → Out
  | [], ρ => .nx ρ
  | x :: xs, ρ => match setP p x ρ with
    | none => .stuck
    | some ρ1 => match b ρ1 with
      | .nx ρ2 => forD p b xs ρ2
      | .ct ρ2 => forD p b xs ρ2
      | .bk ρ2 => .nx ρ2
      | .rt d => .rt d
      | .ex c ρ2 => .ex c ρ2
      | .stuck => .stuck
def sFor (fi : Ev → R (List D)) (p : Pat) (b : Ev → Out) : Ev → Out := fun ρ => thenS (fi ρ) ρ fun items => forD p b items ρ
theorem ds_for (gk : Gok G) {tg iter : Expr} {body : List Stmt} {fi : Ev → R (List D)} {p : Pat} {b : Ev → Out} {pos : Pos} (hp : PassesOwn (model X.prog X.w) X.A X.env X.xe) (hc : X.calm = true) (hi : DI X cl W true tg iter fi) (hg : DG X tg p) (hb : DSs X cl W G body b)
    (hs : ∀ x, foldedSetIterable iter X.env x = pure x := by intro _; rfl) : DS X cl W G (.For tg iter body [] pos) (sFor fi p b) :=
  PS.imp (ps_for hp hc hi hg hb hs) fun Dn σ H ⟨H0, Z0, Z, ρ, m, h⟩ => by
    refine ⟨H0, Z0, Z, ρ, m, ?_⟩
    unfold sFor at h
    cases hf : fi ρ with
    | ex c => rw [hf] at h; exact fun Z' H' e => h σ H' Z' (m.ext e)
    | stuck => rw [hf] at h; exact h
    | ok items =>
      rw [hf] at h
      intro J Z1 H1 e1 w wl
      have m1 := m.ext e1
      refine ⟨fun i mm σi Hi => mm = items.length - i ∧ i ≤ items.length ∧ ∃ Zi ρi, Mt X.K H0 Z0 Zi ρi σi Hi ∧ Same Z1 Zi ∧ SatS X.K cl W G H0 Z0 (forD p b (items.drop i) ρi) Dn, ⟨items.length, by simp, Nat.zero_le _, Z1, ρ, m1, Same.refl _, by rw [List.drop_zero]; exact h⟩, ?_⟩
      rintro i mm σi Hi ⟨rfl, hi, Zi, ρi, mi, si, hh⟩
      have sb : Same Z1 Hi := si.trans mi.sZ
      by_cases hlt : i < items.length
      · refine .inr ⟨w.goes i Hi hlt sb, fun σ' H' => i + 1 ≤ items.length ∧ ∃ Zi ρi, Mt X.K H0 Z0 Zi ρi σ' H' ∧ Same Z1 Zi ∧ SatS X.K cl W G H0 Z0 (forD p b (items.drop (i + 1)) ρi) Dn, fun σ' H' q => ⟨items.length - (i + 1), by omega, rfl, q.1, q.2⟩, fun x H' y => ?_⟩
        obtain ⟨d, Z2, hd, e2, rx⟩ := w.yields i Zi Hi x H' hlt sb si mi.sZ y
        have hdrop : items.drop i = d :: items.drop (i + 1) := by
          rw [List.drop_eq_getElem_cons hlt]
          rw [List.getElem?_eq_getElem hlt] at hd
          rw [Option.some.inj hd]
        rw [hdrop] at hh
        unfold forD at hh
        split at hh
        · exact SatS.no hh
        · rename_i ρ1 hρ1
          have m2 := mi.ext e2
          refine ⟨H0, Z0, Z2, ρi, d, ρ1, m2, rx, hρ1, fun σ2 m3 _ => ⟨mixH Z1 H0, Z1, Z2, ρ1, m1.regh m3 (si.trans e2.sZ), ?_⟩⟩
          cases hb1 : b ρ1 with
          | nx ρ2 => rw [hb1] at hh; exact fun σ' H' Z' m' => ⟨hlt, Z', ρ2, m1.back m', m'.s0, hh⟩
          | ct ρ2 => rw [hb1] at hh; exact fun σ' H' Z' m' => ⟨hlt, Z', ρ2, m1.back m', m'.s0, hh⟩
          | bk ρ2 => rw [hb1] at hh; exact fun σ' H' Z' m' => hh σ' H' Z' (m1.back m')
          | rt d => rw [hb1] at hh; exact fun v H' Z' e g => hh v H' Z' (e.back m1) (gk.m _ _ _ _ _ _ (mixH_le m1) g)
          | ex c ρ2 => rw [hb1] at hh; exact fun σ' H' Z' m' => hh σ' H' Z' (m1.back m')
          | stuck => rw [hb1] at hh; exact hh
      · have hi2 : i = items.length := by omega
        subst hi2
        refine .inl ⟨w.stops Hi sb, ?_⟩
        rw [List.drop_length] at hh
        exact hh σi Hi Zi mi
def whileD (c : Ev → R Bool) (b : Ev → Out) : Nat → Ev → Out
  | 0, _ => .stuck
  | n + 1, ρ => thenS (c ρ) ρ fun t => if t = true then match b ρ with
      | .nx ρ2 => whileD c b n ρ2
      | .ct ρ2 => whileD c b n ρ2
      | .bk ρ2 => .nx ρ2
      | .rt d => .rt d
      | .ex c ρ2 => .ex c ρ2
      | .stuck => .stuck
    else .nx ρ
def sWhile (fuel : Ev → Nat) (c : Ev → R Bool) (b : Ev → Out) : Ev → Out := fun ρ => whileD c b (fuel ρ) ρ
theorem ds_while {c : Expr} {body : List Stmt} {fc : Ev → R Bool} {b : Ev → Out} {pos : Pos} (fuel : Ev → Nat) (hp : PassesOwn (model X.prog X.w) X.A X.env X.xe) (hc : DT X cl W c fc) (hb : DSs X cl W G body b) : DS X cl W G (.While c body [] pos) (sWhile fuel fc b) :=
  PS.imp (ps_while hp hc hb) fun Dn σ H ⟨H0, Z0, Z, ρ, m, h⟩ => by
    refine ⟨fun n σ H => ∃ Z ρ, Mt X.K H0 Z0 Z ρ σ H ∧ SatS X.K cl W G H0 Z0 (whileD fc b n ρ) Dn, ⟨fuel ρ, Z, ρ, m, h⟩, ?_⟩
    rintro n σ H ⟨Z, ρ, m, h⟩
    cases n with
    | zero => exact SatS.no h
    | succ n =>
      refine ⟨H0, Z0, Z, ρ, m, SatS.thenS m h fun d v Z' H' _ m' e g k => ?_⟩
      cases g
      split at k <;> rename_i hv
      · rw [if_pos hv]
        refine ⟨fun σ H => ∃ Z ρ, Mt X.K H0 Z0 Z ρ σ H ∧ SatS X.K cl W G H0 Z0 (whileD fc b n ρ) Dn, fun σ' H' q => ⟨n, Nat.lt_succ_self n, q⟩, H0, Z0, Z', ρ, m', ?_⟩
        cases hb1 : b ρ with
        | nx ρ2 => rw [hb1] at k; exact fun σ' H' Z' m' => ⟨Z', ρ2, m', k⟩
        | ct ρ2 => rw [hb1] at k; exact fun σ' H' Z' m' => ⟨Z', ρ2, m', k⟩
        | bk ρ2 => rw [hb1] at k; exact k
        | rt d => rw [hb1] at k; exact k
        | ex c ρ2 => rw [hb1] at k; exact k
        | stuck => rw [hb1] at k; exact k
      · rw [if_neg hv]; exact k σ H' Z' m'
/-! ### raise -/
theorem ds_raise {e : Expr} {pos : Pos} {C : Addr} {c : Nat} (hc : X.calm = true) (tk : Takes X W) (he : PMk X e fun _ H Q => Q (.ref C) none H) (hcl : cl c = .ref C) : DS X cl W G (.Raise (some e) none pos) (fun ρ => .ex c ρ) :=
  PS.imp (ps_raise hc tk he) fun Dn σ H ⟨H0, Z0, Z, ρ, m, h⟩ => by
    have := h σ H Z m
    rw [hcl] at this
    exact this
end

/-! ### defs -/
def runF (m : Nat) (b : Ev → Out) (ds : List D) : R D := match b (ds.map Sl.im ++ List.replicate (m - ds.length) Sl.un) with
  | .nx _ => .ok .non
  | .rt d => .ok d
  | .ex c _ => .ex c
  | _ => .stuck
/-- the same for a def that hands out an object of its own: it returns by return alone -/
def runO (m : Nat) (b : Ev → Out) (ds : List D) : R D := match b (ds.map Sl.im ++ List.replicate (m - ds.length) Sl.un) with
  | .rt d => .ok d
  | .ex c _ => .ex c
  | _ => .stuck
theorem Mt.init {K : PySem.W.Frag} {Z H : Hp} {N : List Str} {vs : List V} {ds : List D} (z : Same Z H) (r : RpL K Z vs ds) : Mt K H Z Z (ds.map Sl.im ++ List.replicate (N.length - ds.length) Sl.un) (L2.start N vs) H where
  sH := Same.refl _
  sZ := z
  s0 := Same.refl _
  z0 := fun _ _ => rfl
  im := fun i d h => by
    by_cases hi : i < ds.length
    · rw [List.getElem?_append_left (by simpa using hi), List.getElem?_map] at h
      simp only [Option.map_eq_some_iff] at h
      obtain ⟨d', h1, h2⟩ := h
      cases h2
      obtain ⟨v, h3, h4⟩ := r.get h1
      refine ⟨v, ?_, h4⟩
      unfold L2.start
      rw [List.getElem?_append_left (by rw [List.length_map, r.length]; exact hi), List.getElem?_map, h3]; rfl
    · rw [List.getElem?_append_right (by simpa using hi), List.getElem?_replicate] at h
      split at h <;> cases h
  ow := fun i d h => by
    by_cases hi : i < ds.length
    · rw [List.getElem?_append_left (by simpa using hi), List.getElem?_map] at h
      simp only [Option.map_eq_some_iff] at h
      obtain ⟨d', h1, h2⟩ := h
      cases h2
    · rw [List.getElem?_append_right (by simpa using hi), List.getElem?_replicate] at h
      split at h <;> cases h
  ap := fun i j a x y h _ _ _ => by
    by_cases hi : i < ds.length
    · rw [List.getElem?_append_left (by simpa using hi), List.getElem?_map] at h
      simp only [Option.map_eq_some_iff] at h
      obtain ⟨d', h1, h2⟩ := h
      cases h2
    · rw [List.getElem?_append_right (by simpa using hi), List.getElem?_replicate] at h
      split at h <;> cases h
  raw := fun i d h => by
    by_cases hi : i < ds.length
    · rw [List.getElem?_append_left (by simpa using hi), List.getElem?_map] at h
      simp only [Option.map_eq_some_iff] at h
      obtain ⟨d', h1, h2⟩ := h
      cases h2
    · rw [List.getElem?_append_right (by simpa using hi), List.getElem?_replicate] at h
      split at h <;> cases h
  len := by
    unfold L2.start
    simp [r.length]
section
variable {P : Program} {w : World} {K : PySem.W.Frag} {mg : Str → Option Value} {base : Heap} {cl : Nat → Value}
abbrev WE (E : XK) : WX := fun c d _ H => E c d H
theorem fn_e {x qual : Str} {st : Stmt} {f : Addr} {fd : FuncData} {N ps : List Str} {k n : Nat} {b : Ev → Out} (F : Fun K x qual st f fd) (S : FnScope N ps (defScope st)) (hn : ps.length = n)
    (hbody : ∀ (cdv : Value) (A : Around) (outer : List Env) (s : Shared) (H : Hp) (E : XK), Room k (A.deeper (envOfC qual (defScope st) s.heap.objs.size f cdv)) →
      DSs (cxOf (L2.CX P w) P w K mg base N qual (defScope st) f cdv A outer s H E) cl (WE E) (GE K) (defBody st) b) : FnOk P w K mg base (L2.CX P w) (k + 1) f fd ps (FnS K cl (GE K) n (runF N.length b)) :=
  F.okX S (fun vs H Q E ⟨Z, ds, hl, _⟩ => by rw [hl, hn]) fun cdv A outer s H vs Q E hr ⟨Z, ds, hl, z, r, h⟩ => ⟨_, hbody cdv A outer s H E hr, H, Z, Z, _, Mt.init z r, by
    unfold runF at h
    split at h
    · rename_i ρ' hb
      rw [hb]
      exact fun σ' H' Z' m' => h .non Z' H' m'.rt .non
    · rename_i d hb
      rw [hb]
      exact fun v H' Z' e g => h v Z' H' e g
    · rename_i c ρ' hb
      rw [hb]
      exact fun σ' H' Z' m' => h Z' H' m'.rt
    · exact Sat.no h⟩
theorem fn_o {x qual : Str} {st : Stmt} {f : Addr} {fd : FuncData} {N ps : List Str} {k n : Nat} {b : Ev → Out} (F : Fun K x qual st f fd) (S : FnScope N ps (defScope st)) (hn : ps.length = n)
    (hbody : ∀ (cdv : Value) (A : Around) (outer : List Env) (s : Shared) (H : Hp) (E : XK), Room k (A.deeper (envOfC qual (defScope st) s.heap.objs.size f cdv)) →
      DSs (cxOf (L2.CX P w) P w K mg base N qual (defScope st) f cdv A outer s H E) cl (WE E) (GF K) (defBody st) b) : FnOk P w K mg base (L2.CX P w) (k + 1) f fd ps (FnS K cl (GF K) n (runO N.length b)) :=
  F.okX S (fun vs H Q E ⟨Z, ds, hl, _⟩ => by rw [hl, hn]) fun cdv A outer s H vs Q E hr ⟨Z, ds, hl, z, r, h⟩ => ⟨_, hbody cdv A outer s H E hr, H, Z, Z, _, Mt.init z r, by
    unfold runO at h
    split at h
    · rename_i d hb
      rw [hb]
      exact fun v H' Z' e g => h v Z' H' e g
    · rename_i c ρ' hb
      rw [hb]
      exact fun σ' H' Z' m' => h Z' H' m'.rt
    · exact Sat.no h⟩
end
end DL

/-! The data layer, part 9: slices, enumerate of lists and tuples, index, pop, dict comprehensions. -/
namespace DL
open PySem PySem.Spec PyProof.Rows L2

section
variable {X : Cx} {cl : Nat → Value} {W : WX} {G : Hp → Hp → Hp → V → D → Prop}
/-! ### slices -/
def GO : Hp → Hp → Hp → Option Int → Option Int → Prop := fun _ _ _ a b => a = b
theorem gokO : Gok GO := ⟨fun _ _ _ _ _ _ _ h => h, fun _ _ _ _ _ _ _ h _ => h⟩
def DO (X : Cx) (cl : Nat → Value) (W : WX) (e : Option Expr) (f : Ev → R (Option Int)) : Prop := PO X e (tG X.K cl W GO f)
theorem PO.imp {X : Cx} {e : Option Expr} {t t' : TO} (h : PO X e t) (q : ∀ σ H Q, t' σ H Q → t σ H Q) : PO X e t' := ⟨fun pins s σ H Q I x => h.run pins s σ H Q I (q σ H Q x)⟩
def oNone : Ev → R (Option Int) := fun _ => .ok none
def oSome (f : Ev → R D) : Ev → R (Option Int) := fun ρ => f ρ >>= fun d => match d with
  | .int i => .ok (some i)
  | _ => .stuck
theorem do_none : DO X cl W none oNone := PO.imp po_none fun σ H Q ⟨H0, Z0, Z, ρ, m, s⟩ => Sat.ok (G := GO) s (Ext.refl m.sZ) rfl
theorem do_some {e : Expr} {f : Ev → R D} (h : DE X cl W e f) : DO X cl W (some e) (oSome f) := PO.imp (po_some h) fun σ H Q ⟨H0, Z0, Z, ρ, m, s⟩ => ⟨H0, Z0, Z, ρ, m, s.bind gokO fun d v Z1 H1 x1 g1 s1 => by
  cases d <;> simp only at s1 <;> try exact Sat.no s1
  cases g1
  exact ⟨_, rfl, Sat.ok (G := GO) s1 (Ext.refl x1.z') rfl⟩⟩
def sIx (n d : Nat) : Option Int → Nat
  | none => d
  | some v => if v < 0 then (v + n).toNat else min v.toNat n
theorem sIx_eq (n d : Nat) (o : Option Int) : HT.sIx n d o = sIx n d o := by cases o <;> rfl
def cutL {α : Type} (xs : List α) (lo hi : Option Int) : List α := (xs.drop (sIx xs.length 0 lo)).take (sIx xs.length xs.length hi - sIx xs.length 0 lo)
theorem cut_rp {K : PySem.W.Frag} {Z : Hp} {vs : List V} {ds : List D} (r : RpL K Z vs ds) (lo hi : Option Int) : RpL K Z (cutV vs lo hi) (cutL ds lo hi) := by
  unfold cutV cutL
  simp only [sIx_eq, r.length]
  exact (r.drop _).take _
theorem cut_len {K : PySem.W.Frag} {Z : Hp} {vs : List V} {ds : List D} (r : RpL K Z vs ds) (lo hi : Option Int) : (cutV vs lo hi).length ≤ vs.length := by
  unfold cutV
  rw [List.length_take, List.length_drop]
  omega
def dSl (d : D) (lo hi : Option Int) : R D := match d with
  | .lst l => .ok (.lst (cutL l lo hi))
  | .tup l => .ok (.tup (cutL l lo hi))
  | .tux l => if sIx l.length 0 lo = 0 ∧ sIx l.length l.length hi = l.length then .ok (.tux l) else .ok (.tup (cutL l lo hi))
  | .str z => if z.length ≤ 16777216 then .ok (.str (cutS z lo hi)) else .stuck
  | _ => .stuck
def eSl (f : Ev → R D) (a b : Ev → R (Option Int)) : Ev → R D := fun ρ => f ρ >>= fun d => a ρ >>= fun lo => b ρ >>= fun hi => dSl d lo hi
theorem cutL_all {α : Type} {xs : List α} {lo hi : Option Int} (h1 : sIx xs.length 0 lo = 0) (h2 : sIx xs.length xs.length hi = xs.length) : cutL xs lo hi = xs := by
  unfold cutL
  rw [h1, h2]
  simp
theorem de_sl {e : Expr} {a b : Option Expr} {f : Ev → R D} {fa fb : Ev → R (Option Int)} {p2 pos : Pos} (he : DB X cl W e f) (ha : DO X cl W a fa) (hb : DO X cl W b fb) : DE X cl W (.Subscript e (.Slice a b none p2) pos) (eSl f fa fb) :=
  PE.imp (pe_slice (SlR.or sl_list (SlR.or sl_tupA sl_str)) he ha hb) fun σ H Q ⟨H0, Z0, Z, ρ, m, s⟩ => ⟨H0, Z0, Z, ρ, m, Sat.bind gokE s fun d v Z1 H1 x1 g1 s1 => ⟨H0, Z0, Z1, ρ, m.ext x1, Sat.bind gokE s1 fun lo lo' Z2 H2 x2 g2 s2 => ⟨H0, Z0, Z2, ρ, (m.ext x1).ext x2, Sat.bind gokE s2 fun hi hi' Z3 H3 x3 g3 s3 => by
    cases g2
    cases g3
    have g := gokB.s _ _ _ _ _ _ _ (gokB.s _ _ _ _ _ _ _ g1 x2) x3
    have z3 := x3.z'
    cases d <;> simp only [dSl] at s3 <;> try exact Sat.no s3
    case lst l =>
      obtain ⟨a, vs, ex, ha, la, ra⟩ := g.lst z3
      exact .inl ⟨a, vs, ex, .of ha, fun p hp => Sat.ok (G := GE X.K) s3 (Ext.new z3 hp) (.lst upd_same (Nat.le_trans (cut_len ra _ _) la) ((cut_rp ra _ _).mono (Same.le (same_upd (same_none z3 hp)))))⟩
    case tup l =>
      have g' := g
      obtain ⟨a, vs, ex, ha, la, ra⟩ := g.tup z3
      refine .inr (.inl ⟨a, vs, ex, .of ha, fun q => ?_, fun q p hp => Sat.ok (G := GE X.K) s3 (Ext.new z3 hp) (.tup upd_same (Nat.le_trans (cut_len ra _ _) la) ((cut_rp ra _ _).mono (Same.le (same_upd (same_none z3 hp)))))⟩)
      rw [sIx_eq, sIx_eq, ra.length] at q
      rw [cutL_all q.1 q.2] at s3
      subst ex
      rcases g' with g' | ⟨_, _, _, _, _, w⟩
      · exact Sat.ok (G := GE X.K) s3 (Ext.refl z3) g'
      · cases w
    case tux l =>
      have g' := g
      obtain ⟨a, o, vs, ex, ha, hdn, la, ra⟩ := g.tux z3
      refine .inr (.inl ⟨a, vs, ex, sqt_frz ha, fun q => ?_, fun q p hp => ?_⟩)
      · rw [sIx_eq, sIx_eq, ra.length] at q
        rw [if_pos q] at s3
        subst ex
        rcases g' with g' | ⟨_, _, _, _, _, w⟩
        · exact Sat.ok (G := GE X.K) s3 (Ext.refl z3) g'
        · cases w
      · rw [sIx_eq, sIx_eq, ra.length] at q
        rw [if_neg q] at s3
        exact Sat.ok (G := GE X.K) s3 (Ext.new z3 hp) (.tup upd_same (Nat.le_trans (cut_len ra _ _) la) ((cut_rp ra _ _).mono (Same.le (same_upd (same_none z3 hp)))))
    case str z =>
      split at s3
      · rename_i hz
        exact .inr (.inr ⟨z, g.str, by rw [sizeLine_eq]; exact hz, Sat.ok (G := GE X.K) s3 (Ext.refl z3) (.str _)⟩)
      · exact Sat.no s3⟩⟩⟩
/-- a slice of a list that may change -/
def dSlL (d : D) (lo hi : Option Int) : R D := match d with
  | .lst l => .ok (.lst (cutL l lo hi))
  | _ => .stuck
def eSlL (f : Ev → R D) (a b : Ev → R (Option Int)) : Ev → R D := fun ρ => f ρ >>= fun d => a ρ >>= fun lo => b ρ >>= fun hi => dSlL d lo hi
theorem df_sl {e : Expr} {a b : Option Expr} {f : Ev → R D} {fa fb : Ev → R (Option Int)} {p2 pos : Pos} (he : DB X cl W e f) (ha : DO X cl W a fa) (hb : DO X cl W b fb) : DF X cl W (.Subscript e (.Slice a b none p2) pos) (eSlL f fa fb) :=
  PE.imp (pe_slice sl_list he ha hb) fun σ H Q ⟨H0, Z0, Z, ρ, m, s⟩ => ⟨H0, Z0, Z, ρ, m, Sat.bind gokF s fun d v Z1 H1 x1 g1 s1 => ⟨H0, Z0, Z1, ρ, m.ext x1, Sat.bind gokF s1 fun lo lo' Z2 H2 x2 g2 s2 => ⟨H0, Z0, Z2, ρ, (m.ext x1).ext x2, Sat.bind gokF s2 fun hi hi' Z3 H3 x3 g3 s3 => by
    cases g2
    cases g3
    have g := gokB.s _ _ _ _ _ _ _ (gokB.s _ _ _ _ _ _ _ g1 x2) x3
    have z3 := x3.z'
    cases d <;> simp only [dSlL] at s3 <;> try exact Sat.no s3
    case lst l =>
      obtain ⟨a, vs, ex, ha, la, ra⟩ := g.lst z3
      exact ⟨a, vs, ex, .of ha, fun p hp => Sat.ok (G := GF X.K) s3 (Ext.newO z3 hp) ⟨p, _, rfl, hp, same_none z3 hp, upd_same, .lst (Nat.le_trans (cut_len ra _ _) la) (cut_rp ra _ _)⟩⟩⟩⟩⟩
def dRev : D → R D
  | .lst l => .ok (.lst l.reverse)
  | _ => .stuck
theorem df_rev {e : Expr} {f : Ev → R D} {k : Nat} {p1 p2 p3 pos : Pos} (he : DB X cl W e f) : DF X cl W (.Subscript e (.Slice none none (some (.UnaryOp .USub (.Constant (.int 1) k p1) p2)) p3) pos) (e1 dRev f) :=
  PE.imp (pe_revL he) fun σ H Q ⟨H0, Z0, Z, ρ, m, s⟩ => ⟨H0, Z0, Z, ρ, m, s.bind gokF fun d v Z1 H1 x1 g1 s1 => by
    cases d <;> simp only [dRev] at s1 <;> try exact Sat.no s1
    case lst l =>
      obtain ⟨a, vs, ex, ha, la, ra⟩ := g1.lst x1.z'
      exact ⟨a, vs, ex, .of ha, fun p hp => Sat.ok (G := GF X.K) s1 (Ext.newO x1.z' hp) ⟨p, _, rfl, hp, same_none x1.z' hp, upd_same, .lst (by rw [List.length_reverse]; exact la) ra.reverse⟩⟩⟩

/-! ### methods that give a value: index, get -/
/-- the first place of an equal one -/
def idxD (x : D) : List D → Nat → Option Nat
  | [], _ => none
  | d :: l, n => if D.eqv d x = true then some n else idxD x l (n + 1)
theorem idxD_ok {x : D} : ∀ {l : List D} {n j : Nat}, idxD x l n = some j → n ≤ j ∧ ∃ z, l[j - n]? = some z ∧ D.eqv z x = true ∧ ∀ (m : Nat) (z' : D), m < j - n → l[m]? = some z' → D.eqv z' x = false
  | [], n, j, h => by simp [idxD] at h
  | d :: l, n, j, h => by
    unfold idxD at h
    split at h
    · rename_i hd
      cases h
      exact ⟨Nat.le_refl _, d, by simp, hd, fun m z' hm => by omega⟩
    · rename_i hd
      obtain ⟨h1, z, h2, h3, h4⟩ := idxD_ok h
      refine ⟨by omega, z, ?_, h3, fun m z' hm hz => ?_⟩
      · have e : j - n = (j - (n + 1)) + 1 := by omega
        rw [e]; simpa using h2
      · cases m with
        | zero => simp at hz; subst hz; simpa using hd
        | succ m => exact h4 m z' (by omega) (by simpa using hz)
theorem pys_get : ∀ (l : List D) (j : Nat), (py.pys l)[j]? = l[j]?.map py
  | [], j => by simp [py.pys]
  | d :: l, 0 => by simp [py.pys]
  | d :: l, j + 1 => by simp [py.pys, pys_get l j]
def dIndexL (x y : D) : R D := match x with
  | .lst l => if okd (.lst l) = true ∧ okd y = true then match idxD y l 0 with
    | some j => .ok (.int j)
    | none => .stuck else .stuck
  | _ => .stuck
def dIndexT (x y : D) : R D := match x with
  | .tux l => match ints? l, y with
    | some ns, .int k => if k ∈ ns then .ok (.int (ns.idxOf k : Nat)) else .stuck
    | _, _ => .stuck
  | _ => .stuck
def rIndexT (K : PySem.W.Frag) : V → List V → Hp → VK → Prop := fun x xs H Q => ∃ (a : Addr) (ns : List Int) (k : Int), x = V.ref a ∧ xs = [.int k] ∧ SqT K H a (ns.map V.int) ∧ k ∈ ns ∧ Q (.int (ns.idxOf k : Nat)) H
theorem ints_of_vals : ∀ {ns : List Int} {us : List Value}, Vals (ns.map V.int) us → IntsAre us ns
  | [], _, .nil => .nil
  | n :: ns, _, .cons r t => by
    obtain ⟨tk, rfl⟩ := r
    exact .cons n tk (ints_of_vals t)
theorem mt_indexT : MtR X "tuple.index" (rIndexT X.K) := by
  intro pins s σ H x xs v us Q I rx rxs h
  obtain ⟨a, ns, k, rfl, rfl, ht, hk, q⟩ := h
  obtain rfl : v = Value.ref a := rx
  obtain ⟨u, rfl, t, rfl⟩ := vals1 rxs
  obtain ⟨its, rv, p, hz⟩ := I.tuple ht
  exact PySem.SeqAt.tuple_index_ints p (ints_of_vals rv) hk ⟨.int (ns.idxOf k : Nat), H, I.tok _, ⟨_, rfl⟩, q⟩
def tTuxM (K : PySem.W.Frag) (r : V → List V → Hp → VK → Prop) (to : TE) (t : TA) : TE := fun σ H Q => to σ H fun x H1 => (∃ a o xs, x = V.ref a ∧ H1 a = some (.frz o (.tup xs)) ∧ o.dict = none) ∧ t σ H1 fun vs H2 => r x vs H2 Q
theorem pe_tuxM {o e : Expr} {es : List Expr} {to : TE} {t : TA} {name : Str} {apos cpos : Pos} {id : String} {r : V → List V → Hp → VK → Prop} (slot : Slot "tuple" name id) (hty : typeOf (.builtin id) = pure (.type "method_descriptor")) (hm : MtR X id r) (ho : PE X o to) (ha : PA X (e :: es) t)
    (h1 : attributeBase o name X.env (eval o X.env) = eval o X.env := by rfl)
    (h2 : (((backTo cpos (starEach (e :: es) X.env)).all (fun x => !x.1) && (backToKw cpos (keywordEach [] X.env)).all (fun x => x.1.isSome)) && decide ((e :: es).length + ([] : List Keyword).length + (if ([] : List Keyword).isEmpty then 0 else 1) < 30)) = true := by rfl)
    (h3 : (apos.endLine == cpos.line) = true := by rfl) (h4 : starEach (e :: es) X.env = (false, eval e X.env) :: starEach es X.env := by rfl) (h5 : (backTo cpos (starEach es X.env)).any (·.1) = false := by rfl) :
    PE X (.Call (.Attribute o name apos) (e :: es) [] cpos) (tTuxM X.K r to t) := by
  refine ⟨fun pins s σ H Q I h => ?_⟩
  refine wpAny_Call_method_late h1 h2 h3 rfl (thn (ho.run pins s σ H _ I h) fun v s1 ⟨x, H1, I1, r1, ty, q1⟩ => ?_)
  obtain ⟨a, ob, xs, rfl, hx, hd⟩ := ty
  obtain rfl : v = Value.ref a := r1
  obtain ⟨hg, hz, its, rv, o2, ho2, hc2, hd2⟩ := I1.hok a _ hx
  have e2 := ho2.symm.trans hg
  cases e2
  refine ⟨"tuple", id, PySem.F.plainAttrs_tuple, slot, hty, ⟨_, hg, hc2⟩, fun b e => by cases e; exact ⟨_, hg, hd⟩, ?_⟩
  have hA := ha.run cpos pins s1 σ H1 _ I1 q1
  rw [h4] at hA ⊢
  refine Calls.callWith_builtin (by show (false || (backTo cpos (starEach es X.env)).any (·.1)) = false; rw [h5] <;> rfl) (Calls.evalArgs_plain ?_)
  exact thn hA fun us s2 ⟨vs, H2, I2, r2, q2⟩ => hm pins s2 σ H2 (.ref a) vs (.ref a) us Q I2 rfl r2 q2
def ckT : D → R Unit
  | .tux _ => .ok ()
  | _ => .stuck
def ckL : D → R Unit
  | .lst _ => .ok ()
  | _ => .stuck
def eMt (ck : D → R Unit) (g : D → D → R D) (f h : Ev → R D) : Ev → R D := fun ρ => f ρ >>= fun x => ck x >>= fun _ => h ρ >>= fun y => g x y
theorem de_indexT {o e : Expr} {f g : Ev → R D} {apos cpos : Pos} (ho : DB X cl W o f) (he : DE X cl W e g) (h1 : attributeBase o "index" X.env (eval o X.env) = eval o X.env := by rfl)
    (h2 : (((backTo cpos (starEach [e] X.env)).all (fun x => !x.1) && (backToKw cpos (keywordEach [] X.env)).all (fun x => x.1.isSome)) && decide ([e].length + ([] : List Keyword).length + (if ([] : List Keyword).isEmpty then 0 else 1) < 30)) = true := by rfl)
    (h3 : (apos.endLine == cpos.line) = true := by rfl) (h4 : starEach [e] X.env = (false, eval e X.env) :: starEach [] X.env := by rfl) (h5 : (backTo cpos (starEach [] X.env)).any (·.1) = false := by rfl) : DE X cl W (.Call (.Attribute o "index" apos) [e] [] cpos) (eMt ckT dIndexT f g) :=
  PE.imp (pe_tuxM PySem.F.slot_tuple_index PySem.F.type_tuple_index mt_indexT ho (pa_cons he pa_nil h4) h1 h2 h3 h4 h5) fun σ H Q ⟨H0, Z0, Z, ρ, m, s⟩ => ⟨H0, Z0, Z, ρ, m, s.bind gokE fun d v Z1 H1 x1 g1 s1 => by
    cases d <;> simp only [ckT, R.stuck_bind, R.ok_bind] at s1 <;> try exact Sat.no s1
    rename_i l
    obtain ⟨a, ob, vs, ex, ha, hd, la, ra⟩ := g1.tux x1.z'
    subst ex
    refine ⟨⟨a, ob, vs, rfl, ha, hd⟩, H0, Z0, Z1, ρ, m.ext x1, Sat.bind gokE s1 fun d2 v2 Z2 H2 x2 g2 s2 => ?_⟩
    simp only [dIndexT] at s2
    split at s2
    · rename_i ns k hn
      split at s2
      · rename_i hk
        have e := ints?_eq hn
        subst e
        have e := ra.intsV
        subst e
        cases g2
        exact ⟨a, ns, k, rfl, rfl, sqt_frz (x2.sH _ _ ha), hk, Sat.ok (G := GE X.K) s2 (Ext.refl x2.z') (.int _)⟩
      · exact Sat.no s2
    · exact Sat.no s2⟩
theorem de_indexL {o e : Expr} {f g : Ev → R D} {apos cpos : Pos} (hu : X.A.units + 65 < cLine) (ho : DB X cl W o f) (he : DE X cl W e g) (h1 : attributeBase o "index" X.env (eval o X.env) = eval o X.env := by rfl)
    (h2 : (((backTo cpos (starEach [e] X.env)).all (fun x => !x.1) && (backToKw cpos (keywordEach [] X.env)).all (fun x => x.1.isSome)) && decide ([e].length + ([] : List Keyword).length + (if ([] : List Keyword).isEmpty then 0 else 1) < 30)) = true := by rfl)
    (h3 : (apos.endLine == cpos.line) = true := by rfl) (h4 : starEach [e] X.env = (false, eval e X.env) :: starEach [] X.env := by rfl) (h5 : (backTo cpos (starEach [] X.env)).any (·.1) = false := by rfl) : DE X cl W (.Call (.Attribute o "index" apos) [e] [] cpos) (eMt ckL dIndexL f g) :=
  PE.imp (pe_bm PySem.F.plainAttrs_list PySem.F.slot_list_index PySem.F.type_list_index (mt_indexD hu) ho (pa_cons he pa_nil h4) h1 h2 h3 h4 h5) fun σ H Q ⟨H0, Z0, Z, ρ, m, s⟩ => ⟨H0, Z0, Z, ρ, m, s.bind gokE fun d v Z1 H1 x1 g1 s1 => by
    cases d <;> simp only [ckL, R.stuck_bind, R.ok_bind] at s1 <;> try exact Sat.no s1
    rename_i l
    have g1' := g1
    obtain ⟨a, vs, ex, ha, la, ra⟩ := g1.lst x1.z'
    subst ex
    refine ⟨.inl ⟨rfl, _, .of ha⟩, H0, Z0, Z1, ρ, m.ext x1, Sat.bind gokE s1 fun d2 v2 Z2 H2 x2 g2 s2 => ?_⟩
    simp only [dIndexL] at s2
    split at s2
    · rename_i hk
      split at s2
      · rename_i j hj
        obtain ⟨_, z, h2, h3, h4⟩ := idxD_ok hj
        rw [Nat.sub_zero] at h2 h4
        have gl := gokB.s _ _ _ _ _ _ _ g1' x2
        refine ⟨a, v2, py d2, py.pys l, j, py z, rfl, rfl, gb_dp x2.z' gl (SeqAt.canLay_of_shaped hk.1), rp_dp x2.z' g2 (SeqAt.canLay_of_shaped hk.2), hk.1, hk.2, by rw [pys_get, h2]; rfl, h3, fun mm z' hm hz => ?_, Sat.ok (G := GE X.K) s2 (Ext.refl x2.z') (.int _)⟩
        rw [pys_get] at hz
        cases hl : l[mm]? with
        | none => rw [hl] at hz; cases hz
        | some w =>
          rw [hl] at hz
          cases hz
          exact h4 mm w hm hl
      · exact Sat.no s2
    · exact Sat.no s2⟩
/-- d.get(k), d.get(k, v) -/
def ckD : D → R Unit
  | .dK _ => .ok ()
  | .dT _ => .ok ()
  | _ => .stuck
def dGet1 (x y : D) : R D := match dictLook x y with
  | some (some d) => .ok d
  | some none => .ok .non
  | none => .stuck
def dGet2 (x y z : D) : R D := match dictLook x y with
  | some (some d) => .ok d
  | some none => .ok z
  | none => .stuck
theorem isD_of {H0 Z H : Hp} {v : V} {d : D} (z : Same Z H) (g : GB X.K H0 Z H v d) (c : ckD d = .ok ()) : ∃ a, v = .ref a ∧ IsD H a := by
  cases d <;> simp only [ckD] at c <;> try (cases c)
  case dK l =>
    obtain ⟨a, kvs, ex, ha, _⟩ := g.dK z
    exact ⟨a, ex, .inl ⟨kvs, ha⟩⟩
  case dT l =>
    obtain ⟨a, kvs, ex, ha, _⟩ := g.dT z
    exact ⟨a, ex, .inr ⟨kvs, ha⟩⟩
theorem ckD_cases (d : D) : ckD d = .ok () ∨ ckD d = .stuck := by cases d <;> simp [ckD]
theorem de_get1 {o e : Expr} {f g : Ev → R D} {apos cpos : Pos} (hu : X.A.units + 64 < cLine) (ho : DB X cl W o f) (he : DE X cl W e g) (m1 : M1 X o "get" apos e cpos) : DE X cl W (.Call (.Attribute o "get" apos) [e] [] cpos) (eMt ckD dGet1 f g) :=
  PE.imp (pe_dget1 (by omega) ho he m1) fun σ H Q ⟨H0, Z0, Z, ρ, m, s⟩ => ⟨H0, Z0, Z, ρ, m, s.bind gokE fun d v Z1 H1 x1 g1 s1 => by
    rcases ckD_cases d with hc | hc <;> rw [hc] at s1
    · obtain ⟨a, ex, hd⟩ := isD_of x1.z' g1 hc
      refine ⟨a, ex, hd, H0, Z0, Z1, ρ, m.ext x1, Sat.bind gokE s1 fun d2 v2 Z2 H2 x2 g2 s2 => ?_⟩
      unfold dGet1 at s2
      have gl := gokB.s _ _ _ _ _ _ _ g1 x2
      split at s2
      · rename_i u hu
        obtain ⟨a', r, ex', q, hr⟩ := dictLook_ok (H0 := H2) x2.z' gl (.inl g2) hu
        rw [ex] at ex'; cases ex'
        rcases hr with ⟨h1, _⟩ | ⟨v3, u', h1, h2, h3⟩
        · cases h1
        · cases h1; subst h2
          exact ⟨_, q, Sat.ok (G := GE X.K) s2 (Ext.refl x2.z') h3⟩
      · rename_i hu
        obtain ⟨a', r, ex', q, hr⟩ := dictLook_ok (H0 := H2) x2.z' gl (.inl g2) hu
        rw [ex] at ex'; cases ex'
        rcases hr with ⟨_, h2⟩ | ⟨v3, u', h1, h2, h3⟩
        · subst h2
          exact ⟨_, q, Sat.ok (G := GE X.K) s2 (Ext.refl x2.z') .non⟩
        · cases h1
      · exact Sat.no s2
    · exact Sat.no s1⟩
def eGet2 (f g h : Ev → R D) : Ev → R D := fun ρ => f ρ >>= fun x => ckD x >>= fun _ => g ρ >>= fun y => h ρ >>= fun z => dGet2 x y z
theorem de_get2 {o e e' : Expr} {f g h : Ev → R D} {apos cpos : Pos} (hu : X.A.units + 64 < cLine) (ho : DB X cl W o f) (he : DE X cl W e g) (he' : DE X cl W e' h) (m2 : M2 X o "get" apos e e' cpos) : DE X cl W (.Call (.Attribute o "get" apos) [e, e'] [] cpos) (eGet2 f g h) :=
  PE.imp (pe_dget2 (by omega) ho he he' m2) fun σ H Q ⟨H0, Z0, Z, ρ, m, s⟩ => ⟨H0, Z0, Z, ρ, m, s.bind gokE fun d v Z1 H1 x1 g1 s1 => by
    rcases ckD_cases d with hc | hc <;> rw [hc] at s1
    · obtain ⟨a, ex, hd⟩ := isD_of x1.z' g1 hc
      refine ⟨a, ex, hd, H0, Z0, Z1, ρ, m.ext x1, Sat.bind gokE s1 fun d2 v2 Z2 H2 x2 g2 s2 => ⟨H0, Z0, Z2, ρ, (m.ext x1).ext x2, Sat.bind gokE s2 fun d3 v3 Z3 H3 x3 g3 s3 => ?_⟩⟩
      unfold dGet2 at s3
      have gl := gokB.s _ _ _ _ _ _ _ (gokB.s _ _ _ _ _ _ _ g1 x2) x3
      have g2' := gokE.s _ _ _ _ _ _ _ g2 x3
      split at s3
      · rename_i u hu
        obtain ⟨a', r, ex', q, hr⟩ := dictLook_ok (H0 := H2) x3.z' gl (.inl g2') hu
        rw [ex] at ex'; cases ex'
        rcases hr with ⟨h1, _⟩ | ⟨v4, u', h1, h2, h3⟩
        · cases h1
        · cases h1; subst h2
          exact ⟨_, q, Sat.ok (G := GE X.K) s3 (Ext.refl x3.z') h3⟩
      · rename_i hu
        obtain ⟨a', r, ex', q, hr⟩ := dictLook_ok (H0 := H2) x3.z' gl (.inl g2') hu
        rw [ex] at ex'; cases ex'
        rcases hr with ⟨_, h2⟩ | ⟨v4, u', h1, h2, h3⟩
        · subst h2
          exact ⟨_, q, Sat.ok (G := GE X.K) s3 (Ext.refl x3.z') g3⟩
        · cases h1
      · exact Sat.no s3
    · exact Sat.no s1⟩

/-! ### enumerate -/
theorem walkD_enum {K : PySem.W.Frag} {Zs Zb : Hp} {a : Addr} {vs : List V} {ds : List D} (h : Zb a = some (.lst vs)) (r : RpL K Zs vs ds) : WalkD K Zs Zb (Ite K a) (ds.zipIdx.map fun p => .tup [.int p.2, p.1]) where
  goes := fun i H hi s => by
    simp at hi
    obtain ⟨v, hv, _⟩ := r.get (List.getElem?_eq_getElem hi)
    exact ⟨vs, v, .of (s _ _ h), hv⟩
  stops := fun H s => ⟨vs, .of (s _ _ h), by simp [r.length]⟩
  yields := fun i Z H x H' hi s sz szh y => by
    obtain ⟨T, x0, rfl, nT, rfl, y⟩ := y
    obtain ⟨d, hd, rd⟩ := r.get' (y vs (.of (s _ _ h)))
    refine ⟨.tup [.int i, d], upd Z T (.tup [.int i, x0]), ?_, Ext.new szh nT, .tup upd_same (by show 2 ≤ sizeLine; decide) (.cons (.int _) (.cons (rd.mono (Le.trans (Same.le sz) (Same.le (same_upd (same_none szh nT))))) .nil))⟩
    simp [hd]
/-- the items of enumerate(tuple) -/
def IteT (K : PySem.W.Frag) (a : Addr) : It :=
  ⟨fun i H => ∃ (xs : List V) (x : V), SqT K H a xs ∧ xs[i]? = some x, fun i H v H' => ∃ T x, v = .ref T ∧ H T = none ∧ H' = upd H T (.tup [.int (i : Nat), x]) ∧ ∀ xs, SqT K H a xs → xs[i]? = some x, fun i H => ∃ xs : List V, SqT K H a xs ∧ xs.length = i⟩
theorem turn_enumT {P : Program} {w : World} {K : PySem.W.Frag} {elts : List Expr} {kk : Nat} {tpos : Pos} (a e it : Addr) :
    Turn P w K (.Tuple elts kk tpos) (IteT K a) [e, it] e (fun i h => (∃ old, IsEnum h e it ((i : Nat) : Int) old) ∧ h.IsTupleIter it a i ∧ e ≠ it ∧ a ≠ it ∧ a ≠ e) where
  mem := by simp
  obj := fun i h st b hb => by
    obtain ⟨⟨old, he⟩, ⟨o, ho, hc, hd⟩, _⟩ := st
    rcases List.mem_cons.mp hb with rfl | hb
    · exact ⟨_, he, fun v q => nomatch q⟩
    · rw [List.mem_singleton.mp hb]; exact ⟨o, ho, fun v q => by rw [hd] at q; cases q⟩
  keep := fun i h h' st k => let ⟨⟨old, he⟩, hi, hne⟩ := st; ⟨⟨old, k e (by simp) _ he⟩, hi.at fun o q => k it (by simp) o q, hne⟩
  item := by
    intro X hP hw hK hc i pins s σ H E I hf st hg
    subst hP hw hK
    obtain ⟨⟨old, he⟩, hit, hne, hai, hae⟩ := st
    obtain ⟨xs, x, hq, hx⟩ := hg
    obtain ⟨its, rv, p, hz⟩ := I.tuple hq
    have hl := rv.length
    have hel : e < s.heap.objs.size := Heap.lt_size he
    have hil : it < s.heap.objs.size := let ⟨_, q, _⟩ := hit; Heap.lt_size q
    have hi' : i < its.toArray.size := by rw [List.size_toArray, ← hl]; exact (List.getElem?_eq_some_iff.mp hx).1
    refine PySem.wpAny_pyNext_enum_itemC (PySem.Draws.tuple (A := X.A.in1) (I.ok.hd hc) it a hai its.toArray) he ⟨hit, p⟩ hi' hne (by simp [hne, Ne.symm hae]) fun u h1 tk hu ho st1 hT hsz hk => ?_
    refine ⟨_, rfl, wpAny_letOwnedTupleGo_enum (s := { s with heap := h1, toks := tk + 1 }) ho fun h2 he2 sb => ?_⟩
    have ru : RelV x u := by
      obtain ⟨u', hu', r'⟩ := rv.get hx
      have e1 : its.toArray[i]? = some u' := by simpa using hu'
      rw [e1] at hu
      cases hu
      exact r'
    have hT2 : h2.get? s.heap.objs.size = some { cls := .type "tuple", data := .seq #[.int i tk, u] } := (sb.2 _ (Nat.ne_of_gt hel)).trans hT
    have new : ObjOk X.prog X.w (upd H s.heap.objs.size (.tup [.int (i : Nat), x])) h2 s.heap.objs.size (.tup [.int (i : Nat), x]) :=
      ⟨by show 2 ≤ sizeLine; decide, [.int i tk, u], .cons ⟨_, rfl⟩ (.cons ru .nil), ⟨_, hT2, rfl, _, rfl⟩⟩
    have J : Inv X pins σ (upd H s.heap.objs.size (.tup [.int (i : Nat), x])) { s with heap := h2, toks := tk + 1 } :=
      I.turnedNew (ch := [e, it]) (fun b ob hb q => (sb.2 b (fun z => hb (by simp [z]))).trans (hk b ob (fun z => hb (by simp [z])) (fun z => hb (by simp [z])) q)) hf (Nat.le_refl _) new
    refine ⟨.ref s.heap.objs.size, _, J, rfl, ⟨_, x, rfl, I.hok.fresh (Nat.le_refl _), rfl, fun ys hy => by rw [I.tuple_inj hy hq]; exact hx⟩, ⟨⟨u, ?_⟩, st1.1.at fun o q => (sb.2 it (Ne.symm hne)).trans q, hne, hai, hae⟩, fun b hb => ?_⟩
    · have e1 : ((i + 1 : Nat) : Int) = (i : Int) + 1 := by omega
      rw [e1]; exact he2
    · have hb' : b < s.heap.objs.size := by
        rcases List.mem_cons.mp hb with rfl | hb
        · exact hel
        · rw [List.mem_singleton.mp hb]; exact hil
      rw [upd_ne (Nat.ne_of_lt hb')]
      exact (hf b hb).1
  done := by
    intro X hP hw hK hc i pins s σ H E I hf st hg
    subst hP hw hK
    obtain ⟨⟨old, he⟩, hit, hne, hai, hae⟩ := st
    obtain ⟨xs, hq, hx⟩ := hg
    obtain ⟨its, rv, p, hz⟩ := I.tuple hq
    obtain ⟨f0, f1, f2, f3, f4, f5⟩ := hf it (by simp)
    have hl := rv.length
    have hn : its.toArray.size = i := by rw [List.size_toArray, ← hl]; exact hx
    subst hn
    exact PySem.wpAny_pyNext_enum_endD (PySem.Draws.tuple (A := X.A.in1) (I.ok.hd hc) it a hai its.toArray) he ⟨hit, p⟩ fun h' eb => ⟨rfl, I.turned (t' := s.toks) (fun b o hb q => eb b o hb q) f0 f1 f3 f4 f5⟩
  self := fun A i s Q E st h => let ⟨⟨_, he⟩, _⟩ := st; wpAny_pyIter_enum he h
set_option maxHeartbeats 1000000 in
theorem meets_enum1 {v : Value} {o : Obj} {Hs : Heap → Prop} (B : PySem.Begins v o Hs) :
    Meets (PySem.Builtin.«enumerate.__new__» ⟨[.type "enumerate", v], []⟩) (fun _ R s => Hs s.heap ∧
      R (.ok (.ret (.ref (s.heap.push o).objs.size))) { s with heap := (s.heap.push o).push { cls := .type "enumerate", data := .fields #[.none, .bool false, .ref s.heap.objs.size, PySem.rawInt 0, .none, .none] } }) :=
  .of_wp fun prog w A R s h => by
    obtain ⟨hp, g, d, tk, os⟩ := s; obtain ⟨h1, h⟩ := h
    have hsub := PySem.sub_enumerate
    have q1 : ∀ {A' : Around} {E : Value → Shared → Prop} {Q : Value → Shared → Prop}, Q (.ref hp.objs.size) ⟨hp.push o, g, d, tk, os⟩ → wpAny (model prog w) A' (pyIter v) Q E ⟨hp, g, d, tk, os⟩ :=
      fun q => B.iter prog w _ _ ⟨hp, g, d, tk, os⟩ _ h1 q
    wp_walk using q1
    refine wpAny_stack_any fun st => wpAny_pure ?_
    split
    · rename_i c _ _ _ _ _
      cases (c == Value.type "enumerate")
      · wp_walk using q1
        exact ⟨_, rfl, h⟩
      · wp_walk using q1
        exact ⟨_, rfl, h⟩
    · wp_walk using q1
      exact ⟨_, rfl, h⟩
theorem call_enum1 {prog : Program} {w : World} {A : Around} {E : Value → Shared → Prop} {s : Shared} {v : Value} {o : Obj} {Hs : Heap → Prop} {Q : Value → Shared → Prop} (B : PySem.Begins v o Hs) (h1 : Hs s.heap)
    (h : ∀ h', IsEnum h' (s.heap.objs.size + 1) s.heap.objs.size 0 .none → h'.get? s.heap.objs.size = some o → h'.objs.size = s.heap.objs.size + 2 →
      (∀ b o, s.heap.get? b = some o → h'.get? b = some o) → Q (.ref (s.heap.objs.size + 1)) { s with heap := h' }) :
    wpAny (model prog w) A (call (.type "enumerate") [v]) Q E s := by
  refine PySem.callType_new PySem.F.called_enumerate (by decide) (PySem.F.typeCall_enumerate_1 _) (PySem.F.newCall_enumerate_1 _) (fun obj => PySem.F.args_object_init_2 obj _) PySem.F.entry_enumerate_new
    (meets_enum1 B) ⟨h1, ?_⟩
  have hz : (s.heap.push o).objs.size = s.heap.objs.size + 1 := Heap.size_push ..
  show _ ∧ _
  rw [hz]
  have he : IsEnum ((s.heap.push o).push { cls := .type "enumerate", data := .fields #[.none, .bool false, .ref s.heap.objs.size, PySem.rawInt 0, .none, .none] }) (s.heap.objs.size + 1) s.heap.objs.size 0 .none := by
    have := Heap.get?_push_size (s.heap.push o) (o := { cls := .type "enumerate", data := .fields #[.none, .bool false, .ref s.heap.objs.size, PySem.rawInt 0, .none, .none] }) rfl
    rw [hz] at this; exact this
  refine ⟨⟨_, he, rfl⟩, h _ he (Heap.get?_push_of_some _ (Heap.get?_push_size _ B.free)) (by rw [Heap.size_push, hz]) fun b o x => Heap.get?_push_of_some _ (Heap.get?_push_of_some _ x)⟩
def iEnumT (K : PySem.W.Frag) (ta : TA) : TI := fun σ H R => ta σ H fun vs H1 => ∃ a xs, vs = [.ref a] ∧ ((SqL K H1 a xs ∧ R (Ite K a) H1) ∨ (SqT K H1 a xs ∧ R (IteT K a) H1))
theorem pi_enumT {e : Expr} {ta : TA} {p pos tpos : Pos} {elts : List Expr} {kk : Nat} (hg : Gl X "enumerate") (hm : X.mg "enumerate" = none) (ha : PA X [e] ta) (hs : starEach [e] X.env = [(false, eval e X.env)] := by rfl) :
    PI X (.Tuple elts kk tpos) (.Call (.Name "enumerate" p) [e] [] pos) (iEnumT X.K ta) := by
  refine ⟨fun pins s σ H R I h => ?_⟩
  refine Call_ (ld_blt I hg hm boot_enumerate (PyProof.Rows.callWith_type1 (thn (ha.run pos pins s σ H _ I h) fun us s1 ⟨vs, H1, I1, r1, q1⟩ => ?_) hs rfl))
  obtain ⟨a, xs, ex, q1⟩ := q1
  subst ex
  have fp : ∀ (b : Nat), b ∈ [s1.heap.objs.size + 1, s1.heap.objs.size] → s1.heap.objs.size ≤ b := fun b hb => by
    have e' : b = s1.heap.objs.size + 1 ∨ b = s1.heap.objs.size := by simpa using hb
    rcases e' with z | z
    · rw [z]; exact Nat.le_add_right _ _
    · rw [z]; exact Nat.le_refl _
  cases r1 with
  | cons r rr =>
    cases rr
    cases r
    rcases q1 with ⟨hq, q⟩ | ⟨hq, q⟩
    · obtain ⟨its, rv, p', hz⟩ := I1.list hq
      refine PySem.call_enumerate_list p'.isList fun h' he hit hsz hk => PySem.wpAny_pyIter_enum he ?_
      have I2 : Inv X pins σ H1 { s1 with heap := h' } := I1.kept (t' := s1.toks) hk
      exact ⟨s1.heap.objs.size + 1, [s1.heap.objs.size + 1, s1.heap.objs.size], _, _, H1, rfl, I2, turn_enum a (s1.heap.objs.size + 1) s1.heap.objs.size, ⟨⟨.none, he⟩, hit, Nat.succ_ne_self _⟩, fun b hb => I1.fpOk (fp b hb) (I1.hok.fresh (fp b hb)), q⟩
    · obtain ⟨its, rv, p', hz⟩ := I1.tuple hq
      have ha : a < s1.heap.objs.size := let ⟨_, q, _⟩ := p'; Heap.lt_size q
      refine call_enum1 (PySem.begins_tuple a its.toArray) p' fun h' he hit hsz hk => PySem.wpAny_pyIter_enum he ?_
      have I2 : Inv X pins σ H1 { s1 with heap := h' } := I1.kept (t' := s1.toks) hk
      exact ⟨s1.heap.objs.size + 1, [s1.heap.objs.size + 1, s1.heap.objs.size], _, _, H1, rfl, I2, turn_enumT a (s1.heap.objs.size + 1) s1.heap.objs.size, ⟨⟨.none, he⟩, ⟨_, hit, rfl, rfl⟩, Nat.succ_ne_self _, Nat.ne_of_lt ha, Nat.ne_of_lt (Nat.lt_succ_of_lt ha)⟩, fun b hb => I1.fpOk (fp b hb) (I1.hok.fresh (fp b hb)), q⟩
theorem walkD_enumT {K : PySem.W.Frag} {Zs Zb : Hp} {a : Addr} {vs : List V} {ds : List D} (h : SqT K Zb a vs) (r : RpL K Zs vs ds) : WalkD K Zs Zb (IteT K a) (ds.zipIdx.map fun p => .tup [.int p.2, p.1]) where
  goes := fun i H hi s => by
    simp at hi
    obtain ⟨v, hv, _⟩ := r.get (List.getElem?_eq_getElem hi)
    exact ⟨vs, v, rd_sameT s h, hv⟩
  stops := fun H s => ⟨vs, rd_sameT s h, by simp [r.length]⟩
  yields := fun i Z H x H' hi s sz szh y => by
    obtain ⟨T, x0, rfl, nT, rfl, y⟩ := y
    obtain ⟨d, hd, rd⟩ := r.get' (y vs (rd_sameT s h))
    refine ⟨.tup [.int i, d], upd Z T (.tup [.int i, x0]), ?_, Ext.new szh nT, .tup upd_same (by show 2 ≤ sizeLine; decide) (.cons (.int _) (.cons (rd.mono (Le.trans (Same.le sz) (Same.le (same_upd (same_none szh nT))))) .nil))⟩
    simp [hd]
def enumD (l : List D) : List D := l.zipIdx.map fun p => .tup [.int p.2, p.1]
def dEnum : D → R (List D)
  | .lst l => .ok (enumD l)
  | .tup l => .ok (enumD l)
  | .tux l => .ok (enumD l)
  | _ => .stuck
def eEnum (f : Ev → R D) : Ev → R (List D) := fun ρ => f ρ >>= dEnum
theorem enumD_len (l : List D) : (enumD l).length = l.length := by simp [enumD]
theorem di_enum {fz : Bool} {e : Expr} {f : Ev → R D} {p pos tpos : Pos} {elts : List Expr} {kk : Nat} (hg : Gl X "enumerate") (hm : X.mg "enumerate" = none) (he : DE X cl W e f) (hs : starEach [e] X.env = [(false, eval e X.env)] := by rfl) : DI X cl W fz (.Tuple elts kk tpos) (.Call (.Name "enumerate" p) [e] [] pos) (eEnum f) :=
  PI.imp (pi_enumT hg hm (pa_cons he pa_nil (by rw [hs]; rfl)) hs) fun σ H Rr ⟨H0, Z0, Z, ρ, m, s⟩ => ⟨H0, Z0, Z, ρ, m, SatI.bind s fun d v Z' H' hq x g k => by
    cases d <;> simp only [dEnum] at k <;> try exact SatI.no k
    case lst l =>
      cases g with
      | lst ha la ra =>
        exact ⟨_, _, rfl, .inl ⟨.of (x.z' _ _ ha), SatI.ok k x.z' (walkD_enum (by cases fz; exact x.z' _ _ ha; exact ha) ra) (by rw [enumD_len, ← ra.length, ← sizeLine_eq]; exact la)⟩⟩
    case tup l =>
      cases g with
      | tup ha la ra =>
        exact ⟨_, _, rfl, .inr ⟨.of (x.z' _ _ ha), SatI.ok k x.z' (walkD_enumT (by cases fz; exact .of (x.z' _ _ ha); exact .of ha) ra) (by rw [enumD_len, ← ra.length, ← sizeLine_eq]; exact la)⟩⟩
    case tux l =>
      cases g with
      | tux ha hdn la ra =>
        exact ⟨_, _, rfl, .inr ⟨sqt_frz (x.z' _ _ ha), SatI.ok k x.z' (walkD_enumT (by cases fz; exact sqt_frz (x.z' _ _ ha); exact sqt_frz ha) ra) (by rw [enumD_len, ← ra.length, ← sizeLine_eq]; exact la)⟩⟩⟩
end
end DL

/-! The data layer, part 10: dict displays and comprehensions, pop, sorted of tuples. -/
namespace DL
open PySem PySem.Spec PyProof.Rows L2

section
variable {X : Cx} {cl : Nat → Value} {W : WX} {G : Hp → Hp → Hp → V → D → Prop}
/-! ### {} -/
theorem df_dnewK {pos : Pos} : DF X cl W (.Dict [] [] pos) (fun _ => .ok (.dK [])) := PE.imp pe_dnewK fun σ H Q ⟨H0, Z0, Z, ρ, m, s⟩ p hp =>
  Sat.ok (G := GF X.K) s (Ext.newO m.sZ hp) ⟨p, _, rfl, hp, same_none m.sZ hp, upd_same, .dK (Nat.zero_le _) .nil⟩
theorem df_dnewT {pos : Pos} : DF X cl W (.Dict [] [] pos) (fun _ => .ok (.dT [])) := PE.imp pe_dnewT fun σ H Q ⟨H0, Z0, Z, ρ, m, s⟩ p hp =>
  Sat.ok (G := GF X.K) s (Ext.newO m.sZ hp) ⟨p, _, rfl, hp, same_none m.sZ hp, upd_same, .dT (Nat.zero_le _) .nil⟩

/-! ### {k: v for ..}, the keys ints or texts -/
def compK (p : Pat) (c : Ev → R Bool) (fk fe : Ev → R D) (ρ : Ev) : List D → List (Key × D) → R (List (Key × D))
  | [], acc => .ok acc
  | x :: xs, acc => match setP p x ρ with
    | none => .stuck
    | some ρ1 => match c ρ1 with
      | .ok true => match fk ρ1 with
        | .ok kd => match key1? kd with
          | some k => match fe ρ1 with
            | .ok y => if acc.length < 16777216 then compK p c fk fe ρ xs (putD acc k y) else .stuck
            | _ => .stuck
          | none => .stuck
        | _ => .stuck
      | .ok false => compK p c fk fe ρ xs acc
      | _ => .stuck
def nofK : R (List (Key × D)) → R D
  | .ok l => .ok (.dK l)
  | _ => .stuck
def eCompK (fi : Ev → R (List D)) (p : Pat) (vs : List Nat) (c : Ev → R Bool) (fk fe : Ev → R D) : Ev → R D := fun ρ => fi ρ >>= fun items => nofK (compK p c fk fe (wipeE ρ vs) items [])
theorem dc_use {K : PySem.W.Frag} {p : Pat} {vs : List Nat} {fi : Ev → R (List D)} {c : Ev → R Bool} {fk fe : Ev → R D} {fz : Bool} (hp : ∀ i ∈ p.slots, i ∈ vs) {σ : L2.St} {H : Hp} {Q : VK} (h : tG K cl W (GF K) (eCompK fi p vs c fk fe) σ H Q) :
    tDc (tI K cl W fz fi) (tP K p) (tG K cl W0 GT c) (tG K cl W0 (GE K) fk) (tG K cl W0 (GE K) fe) vs σ H Q := by
  obtain ⟨H0, Z0, Z, ρ, m, s⟩ := h
  refine ⟨H0, Z0, Z, ρ, m, ?_⟩
  cases hf : fi ρ with
  | ex cc => simp only [eCompK, hf] at s; exact s
  | stuck => simp only [eCompK, hf] at s; exact s
  | ok items =>
    simp only [eCompK, hf, R.ok_bind] at s
    cases ho : compK p c fk fe (wipeE ρ vs) items [] with
    | ex cc => rw [ho] at s; exact Sat.no s
    | stuck => rw [ho] at s; exact Sat.no s
    | ok out =>
      rw [ho] at s
      intro J Z1 H1 e1 w wl Dd hD
      have zD : Z1 Dd = none := same_none e1.z' hD
      refine ⟨fun i mm Hi => mm = items.length - i ∧ i ≤ items.length ∧ ∃ Zi acc dn, Ext Z1 H1 Zi Hi ∧ Zi Dd = none ∧ Hi Dd = some (.dK acc) ∧ RpK K Zi acc dn ∧ compK p c fk fe (wipeE ρ vs) (items.drop i) dn = .ok out ∧ dn.length ≤ 16777216, ⟨items.length, by simp, Nat.zero_le _, Z1, [], [], Ext.newO e1.z' hD, zD, upd_same, .nil, by simpa using ho, Nat.zero_le _⟩, ?_⟩
      rintro i mm Hi ⟨rfl, hi, Zi, acc, dn, ei, zi, hDi, ra, hc, hdl⟩
      have sb : Same (if fz = true then Z1 else H1) Hi := by
        cases fz with
        | true => exact ei.sZ.trans ei.z'
        | false => exact ei.sH
      by_cases hlt : i < items.length
      · refine .inr ⟨w.goes i Hi hlt sb, fun H' => (i + 1 ≤ items.length) ∧ ∃ Zi acc dn, Ext Z1 H1 Zi H' ∧ Zi Dd = none ∧ H' Dd = some (.dK acc) ∧ RpK K Zi acc dn ∧ compK p c fk fe (wipeE ρ vs) (items.drop (i + 1)) dn = .ok out ∧ dn.length ≤ 16777216, fun H' q => ⟨items.length - (i + 1), by omega, rfl, q.1, q.2⟩, fun x H' y => ?_⟩
        obtain ⟨d, Z2, hd, e2, rx⟩ := w.yields i Zi Hi x H' hlt sb ei.sZ ei.z' y
        have hDi' := e2.sH _ _ hDi
        have z2 : Z2 Dd = none := by rw [e2.z0 Dd (by rw [hDi]; simp)]; exact zi
        have et := ei.trans e2
        have mw : Mt K H0 Z0 Z2 (wipeE ρ vs) (wipe σ vs) H' := ((m.ext e1).ext et).wipe vs
        have hdrop : items.drop i = d :: items.drop (i + 1) := by
          rw [List.drop_eq_getElem_cons hlt]
          rw [List.getElem?_eq_getElem hlt] at hd
          rw [Option.some.inj hd]
        rw [hdrop] at hc
        unfold compK at hc
        split at hc
        · cases hc
        · rename_i ρ1 hρ1
          refine ⟨H0, Z0, Z2, _, d, ρ1, mw, rx, hρ1, fun σ2 m2 f2 => ⟨wipe_again (by rw [← m2.len]; rw [setP_len hρ1, mw.len, wipe_length]) (fun j hj => ?_), H0, Z0, Z2, ρ1, m2, ?_⟩⟩
          · rw [f2 j (fun z => hj (hp j z)), wipe_get, if_neg hj]
          · cases hcc : c ρ1 with
            | ex _ => rw [hcc] at hc; cases hc
            | stuck => rw [hcc] at hc; cases hc
            | ok b =>
              rw [hcc] at hc
              intro b' Z3 H3 e3 g3
              cases g3
              have et3 := et.trans e3
              have hD3 := e3.sH _ _ hDi'
              have z3 : Z3 Dd = none := by rw [e3.z0 Dd (by rw [hDi']; simp)]; exact z2
              cases b with
              | false =>
                rw [if_neg Bool.false_ne_true]
                exact ⟨hlt, Z3, acc, dn, et3, z3, hD3, ra.mono (Same.le (e2.trans e3).sZ), hc, hdl⟩
              | true =>
                rw [if_pos rfl]
                refine ⟨H0, Z0, Z3, ρ1, m2.ext e3, ?_⟩
                cases hk : fk ρ1 with
                | ex _ => rw [hk] at hc; cases hc
                | stuck => rw [hk] at hc; cases hc
                | ok kd =>
                  rw [hk] at hc
                  intro kv Z4 H4 e4 g4
                  simp only at hc
                  split at hc
                  · rename_i kk hkk
                    refine ⟨H0, Z0, Z4, ρ1, (m2.ext e3).ext e4, ?_⟩
                    cases he : fe ρ1 with
                    | ex _ => rw [he] at hc; cases hc
                    | stuck => rw [he] at hc; cases hc
                    | ok yd =>
                      rw [he] at hc
                      intro yv Z5 H5 e5 g5
                      simp only at hc
                      split at hc
                      · rename_i hsz
                        have hD5 := e5.sH _ _ (e4.sH _ _ hD3)
                        have z4 : Z4 Dd = none := by rw [e4.z0 Dd (by rw [hD3]; simp)]; exact z3
                        have z5 : Z5 Dd = none := by rw [e5.z0 Dd (by rw [e4.sH _ _ hD3]; simp)]; exact z4
                        have et5 := (et3.trans e4).trans e5
                        have ek := key1?_eq hkk
                        subst ek
                        have hz : acc.length < sizeLine := by rw [ra.length, sizeLine_eq]; exact hsz
                        have rp := (ra.mono (Same.le (((e2.trans e3).trans e4).trans e5).sZ)).put (show Rp K Z5 yv yd from g5) kk
                        refine ⟨acc, kk, rp_key g4, hD5, hz, hlt, Z5, putK acc kk yv, putD dn kk yd, ⟨fun b o q => ?_, et5.sZ, fun b o q => ?_, et5.z0⟩, z5, upd_same, rp, hc, ?_⟩
                        · rw [upd_ne (ne_of_none q hD)]; exact et5.sH b o q
                        · rw [upd_ne (ne_of_none q z5)]; exact et5.z' b o q
                        · have := length_putK' acc kk yv
                          rw [← rp.length]
                          rw [sizeLine_eq] at hz
                          omega
                      · cases hc
                  · cases hc
      · have hi2 : i = items.length := by omega
        subst hi2
        refine .inl ⟨w.stops Hi sb, ?_⟩
        have : dn = out := by simpa [compK] using hc
        subst this
        exact Sat.ok (G := GF K) s (e1.trans ei) ⟨Dd, _, rfl, e1.sH.free hD, zi, hDi, .dK (by rw [ra.length, sizeLine_eq]; exact hdl) ra⟩
theorem df_dc {kx vx tg iter : Expr} {ifs : List Expr} {scope : Scope} {own : List (Str × Nat)} {pos : Pos} {p : Pat} {fi : Ev → R (List D)} {c : Ev → R Bool} {fk fe : Ev → R D} {fz : Bool} (hc : X.calm = true) (hN : X.N.Nodup) (hi : DI X cl W fz tg iter fi) (ok : BlkOk X.N X.env.scope scope own)
    (hp : ∀ i ∈ p.slots, i ∈ own.map (·.2))
    (hg : ∀ (s : Shared) (H : Hp) (C : Addr) (l : List (Str × Addr)) (fp : List Addr), DG (X.blk s H scope (compEnvC scope l C X.env) fp) tg p) (ht : ∀ (s : Shared) (H : Hp) (C : Addr) (l : List (Str × Addr)) (fp : List Addr), DTs (X.blk s H scope (compEnvC scope l C X.env) fp) cl W0 ifs c)
    (hk : ∀ (s : Shared) (H : Hp) (C : Addr) (l : List (Str × Addr)) (fp : List Addr), DE (X.blk s H scope (compEnvC scope l C X.env) fp) cl W0 kx fk)
    (he : ∀ (s : Shared) (H : Hp) (C : Addr) (l : List (Str × Addr)) (fp : List Addr), DE (X.blk s H scope (compEnvC scope l C X.env) fp) cl W0 vx fe) (hs : ∀ x, foldedSetIterable iter X.env x = pure x := by intro _; rfl) :
    DF X cl W (.DictComp kx vx [⟨tg, iter, ifs, 0⟩] scope pos) (eCompK fi p (own.map (·.2)) c fk fe) :=
  PE.imp (pe_dc (g := tP X.K p) (tt := tG X.K cl W0 GT c) (tk := tG X.K cl W0 (GE X.K) fk) (tv := tG X.K cl W0 (GE X.K) fe) hc hN hi ok hg ht hk he hs) fun σ H Q h => dc_use hp h

/-! ### x.append(y.pop(k)), both lists of one's own -/
/-- the slot j's list after pop(k), and the item -/
noncomputable def popAt (l : List D) (k : D) : Option (D × List D) := match k with
  | .int i => @ite (Option (D × List D)) (-(2 ^ 63) ≤ i ∧ i < 2 ^ 63) (Classical.propDecidable _) ((seqIndex? i l.length).bind fun n => l[n]?.map fun d => (d, l.eraseIdx n)) none
  | _ => none
noncomputable def sAppPop (i j : Nat) (fk : Ev → R D) : Ev → Out := fun ρ => if i = j then .stuck else match ρ[i]? with
  | some (.ow (.lst l)) => match ρ[j]? with
    | some (.ow (.lst m)) => thenS (fk ρ) ρ fun k => match popAt m k with
      | some (d, m') => if l.length < 16777216 then .nx ((ρ.set j (.ow (.lst m'))).set i (.ow (.lst (l ++ [d])))) else .stuck
      | none => .stuck
    | _ => .stuck
  | _ => .stuck
theorem ds_appPop {i j : Nat} {x y : Str} {e : Expr} {f : Ev → R D} {p q apos cpos apos2 cpos2 pos : Pos} (hN : X.N[i]? = some x) (hv : Vis X.env.scope x) (hN2 : X.N[j]? = some y) (hv2 : Vis X.env.scope y) (he : DE X cl W e f) (hd : (x == ("__debug__" : Str)) = false := by decide) (hcd : (x == ("__classdict__" : Str)) = false := by decide) (hd2 : (y == ("__debug__" : Str)) = false := by decide) (hcd2 : (y == ("__classdict__" : Str)) = false := by decide)
    (h1' : attributeBase (.Name y q) "pop" X.env (eval (.Name y q) X.env) = eval (.Name y q) X.env := by rfl) (h2' : (((backTo cpos2 (starEach [e] X.env)).all fun x => !x.1) && (backToKw cpos2 (keywordEach [] X.env)).all fun x => x.1.isSome) && decide (([e].length + ([] : List Keyword).length + if ([] : List Keyword).isEmpty = true then 0 else 1) < 30) = true := by rfl)
    (h3' : (apos2.endLine == cpos2.line) = true := by rfl) (h4' : starEach [e] X.env = (false, eval e X.env) :: starEach [] X.env := by rfl) (h5' : (backTo cpos2 (starEach [] X.env)).any (·.1) = false := by rfl)
    (h1 : attributeBase (.Name x p) "append" X.env (eval (.Name x p) X.env) = eval (.Name x p) X.env := by rfl) (h2 : (((backTo cpos (starEach [.Call (.Attribute (.Name y q) "pop" apos2) [e] [] cpos2] X.env)).all fun x => !x.1) && (backToKw cpos (keywordEach [] X.env)).all fun x => x.1.isSome) && decide (([Expr.Call (.Attribute (.Name y q) "pop" apos2) [e] [] cpos2].length + ([] : List Keyword).length + if ([] : List Keyword).isEmpty = true then 0 else 1) < 30) = true := by rfl)
    (h3 : (apos.endLine == cpos.line) = true := by rfl) (h4 : starEach [.Call (.Attribute (.Name y q) "pop" apos2) [e] [] cpos2] X.env = (false, eval (.Call (.Attribute (.Name y q) "pop" apos2) [e] [] cpos2) X.env) :: starEach [] X.env := by rfl) (h5 : (backTo cpos (starEach [] X.env)).any (·.1) = false := by rfl)
    (hs : swapsWith (.Call (.Attribute (.Name x p) "append" apos) [.Call (.Attribute (.Name y q) "pop" apos2) [e] [] cpos2] [] cpos) none pos.line X.env = pure false := by rfl) :
    DS X cl W G (.Expr (.Call (.Attribute (.Name x p) "append" apos) [.Call (.Attribute (.Name y q) "pop" apos2) [e] [] cpos2] [] cpos) pos) (sAppPop i j f) :=
  PS.imp (ps_expr (pe_bm PySem.F.plainAttrs_list PySem.F.slot_list_append PySem.F.type_list_append mt_append (pe_var hN hv hd hcd)
    (pa_cons (pe_bm PySem.F.plainAttrs_list PySem.F.slot_list_pop PySem.F.type_list_pop mt_popAt (pe_var hN2 hv2 hd2 hcd2) (pa_cons he pa_nil h4') h1' h2' h3' h4' h5') pa_nil h4) h1 h2 h3 h4 h5) hs) fun Dn σ H ⟨H0, Z0, Z, ρ, m, h⟩ => by
    unfold sAppPop at h
    split at h
    · exact SatS.no h
    rename_i hij
    split at h
    · rename_i l hl
      split at h
      · rename_i l2 hl2
        obtain ⟨a, o, es, n0, n, ho, w⟩ := m.ow i _ hl
        obtain ⟨vs, rfl, hvl, rl⟩ := w.l
        obtain ⟨a2, o2, es2, n02, n2, ho2, w2⟩ := m.ow j _ hl2
        obtain ⟨vs2, rfl, hvl2, rl2⟩ := w2.l
        refine ⟨_, es, .inl ⟨rfl, _, .of ho⟩, _, es2, .inl ⟨rfl, _, .of ho2⟩, H0, Z0, Z, ρ, m, SatS.thenS m h fun d v Z' H' hq m' e g k => ?_⟩
        clear hq
        obtain ⟨b2, o2, es2', n02', n2', ho2', w2'⟩ := m'.ow j _ hl2
        rw [es2] at es2'; cases es2'
        obtain ⟨ws2, rfl, hwl2, rw2⟩ := w2'.l
        split at k
        · rename_i d' m2 hp
          split at k
          · rename_i hlt
            cases d <;> simp only [popAt] at hp <;> try (cases hp)
            rename_i i0
            cases g
            split at hp
            · rename_i hb
              simp only [Option.bind_eq_some_iff, Option.map_eq_some_iff] at hp
              obtain ⟨nn, hn, dd, hdd, hpp⟩ := hp
              cases hpp
              obtain ⟨yv, hy, ry⟩ := rw2.get hdd
              have mw := m'.write hl2 es2 (.lst (by have := len_erase ws2 nn; omega) (rw2.eraseIdx nn))
              have hl' : (ρ.set j (.ow (.lst (l2.eraseIdx nn))))[i]? = some (Sl.ow (.lst l)) := by rw [List.getElem?_set_ne (Ne.symm hij)]; exact hl
              obtain ⟨b, o, es', n0', n', ho', w'⟩ := mw.ow i _ hl'
              rw [es] at es'; cases es'
              obtain ⟨ws, rfl, hwl, rw1⟩ := w'.l
              have hz : ws.length < sizeLine := by rw [rw1.length, sizeLine_eq]; exact hlt
              refine ⟨a2, ws2, i0, nn, yv, rfl, rfl, ho2', hb.1, hb.2, by rw [rw2.length]; exact hn, hy, a, ws, yv, rfl, rfl, ho', hz, ?_⟩
              exact k _ _ Z' (mw.write hl' es (.lst (by rw [List.length_append]; show ws.length + 1 ≤ _; omega) (rw1.append (.cons ry .nil))))
            · cases hp
          · exact SatS.no k
        · exact SatS.no k
      · exact SatS.no h
    · exact SatS.no h

/-! ### sorted of a tuple of ints -/
theorem collect_tup {prog : Program} {w : World} {A : Around} {E : Value → Shared → Prop} {s : Shared} {l : Addr} {vs : List Value} {Q : List Value → Shared → Prop} (hl : s.heap.IsTuple l vs.toArray) (hz : vs.length ≤ sizeLine)
    (h : ∀ h', (∀ b o, s.heap.get? b = some o → h'.get? b = some o) → Q vs { s with heap := h' }) : wpAny (model prog w) A (collect (.ref l)) Q E s := by
  obtain ⟨o, ho, hc, n, hd⟩ := id hl
  exact wpAny_collect_seq l (.inr rfl) ho hc hd (fun h' k => h h' k) (by rw [List.size_toArray]; exact hz)
theorem sorted_tup {prog : Program} {w : World} {A : Around} {E : Value → Shared → Prop} {s : Shared} {l : Addr} {vs : List Value} {ltv : Value → Value → Bool} {Q : Value → Shared → Prop} (O : SrtO.Swo ltv) (hl : s.heap.IsTuple l vs.toArray) (hz : vs.length ≤ sizeLine)
    (hS : 2 ≤ vs.length → ∀ (h₁ : Heap) (a : Addr), h₁.get? a = some (seqObj "list" vs.toArray 0) → (∀ b o, s.heap.get? b = some o → h₁.get? b = some o) → SrtO.SortableO prog w A.in1.in1 { s with heap := h₁ } a vs ltv)
    (h : ∀ (h' : Heap) (out : List Value), (∀ b o, s.heap.get? b = some o → h'.get? b = some o) → SrtO.Srtd ltv out → SrtO.Stb ltv out vs →
      Q (.ref h'.objs.size) { s with heap := sortedHeap (h'.push (seqObj "list" vs.toArray 0)) h'.objs.size vs out.toArray }) :
    wpAny (model prog w) A (call (.builtin "sorted") [.ref l]) Q E s := by
  refine Calls.call_function_entry kind_sorted plain_sorted entry_sorted (args_sorted1 _) ?_
  unfold Builtin.«sorted»
  refine wpAny_bind (m := checkCount "sorted" 1 1 _) (wpAny_pure ?_)
  refine wpAny_bind (collect_tup hl hz fun h' k => ?_)
  refine wpAny_bind (wpAny_newList ?_ hz)
  have at' : (h'.push (seqObj "list" vs.toArray 0)).get? h'.objs.size = some (seqObj "list" vs.toArray 0) := Heap.get?_push_size _ rfl
  show wpAny _ _ _ _ _ { s with heap := h'.push (seqObj "list" vs.toArray 0) }
  refine wpAny_bind (wpAny_holding (wpAny_call_entry slot_list_sort ⟨_, at', rfl⟩ entry_list_sort (SrtO.list_sort_ord O at' hz (fun h2 => hS h2 _ _ at' fun b o q => Heap.get?_push_of_some _ (k b o q)) fun out hs hb => ⟨_, rfl, ?_⟩) (args_list_sort _)))
  exact wpAny_pure ⟨_, rfl, h h' out k hs hb⟩
def rSortedIT (K : PySem.W.Frag) : List V → Hp → VK → Prop := fun vs H Q => ∃ (a : Addr) (ns : List Int), vs = [V.ref a] ∧ SqT K H a (ns.map V.int) ∧ ∀ (ns' : List Int) (p : Addr), ns'.Perm ns → ns'.Pairwise (· ≤ ·) → H p = none → Q (.ref p) (upd H p (.lst (ns'.map V.int)))
theorem cr_sortedIT : CallR X (.builtin "sorted") (rSortedIT X.K) := by
  intro pins s σ H vs us Q I r ⟨a, ns, ev, hs, q⟩
  subst ev
  obtain ⟨its, rv, hl, hz⟩ := I.tuple hs
  rw [Vals.ref1 r]
  have hi := rv.ints
  refine sorted_tup SrtO.swo_int hl (by rw [← rv.length]; exact hz) (fun h2 h₁ a' _ _ => SrtO.ints_sortable hi h2) fun h' out k h1 h2 => ?_
  obtain ⟨k1, k2, k3⟩ := SrtO.ints_out hi h1 h2
  have at' : (h'.push (seqObj "list" its.toArray 0)).get? h'.objs.size = some (seqObj "list" its.toArray 0) := Heap.get?_push_size _ rfl
  obtain ⟨ep, he'⟩ := PyProof.Rows.sortedHeap_at (vs := its) (out := out.toArray) at'
  have hlen : ((out.map SrtO.iv).map V.int).length ≤ sizeLine := by
    rw [List.length_map, k2.length_eq]
    rw [List.length_map] at hz
    exact hz
  have I1 : Inv X _ σ H { s with heap := h' } := I.kept (t' := s.toks) k
  refine ⟨.ref h'.objs.size, upd H h'.objs.size (.lst ((out.map SrtO.iv).map V.int)), I1.laid (t' := s.toks) (fun b o q => ?_) (Nat.le_refl _) ⟨hlen, out, ep, vals_of_ints k1, he'⟩, rfl, q _ _ k2 k3 (I1.hok.fresh (Nat.le_refl _))⟩
  have hb : b < h'.objs.size := Heap.lt_size q
  rw [PyProof.Rows.sortedHeap_old (Nat.ne_of_lt hb) (by rw [Heap.size_push]; exact Nat.lt_succ_of_lt hb)]
  exact Heap.get?_push_of_some _ q
/-- sorted of a list, a tuple of ints -/
def dSorted : D → R D
  | .lst l => match ints? l with
    | some ns => .ok (.lst ((sortI ns).map D.int))
    | none => .stuck
  | .tup l => match ints? l with
    | some ns => .ok (.lst ((sortI ns).map D.int))
    | none => .stuck
  | .tux l => match ints? l with
    | some ns => .ok (.lst ((sortI ns).map D.int))
    | none => .stuck
  | _ => .stuck
theorem CallR.or' {f : Value} {t u : List V → Hp → VK → Prop} (h : CallR X f t) (h' : CallR X f u) : CallR X f (fun vs H Q => t vs H Q ∨ u vs H Q) := fun pins s σ H xs us Q I r x => x.elim (h pins s σ H xs us Q I r) (h' pins s σ H xs us Q I r)
theorem sorted_ok : CallD X cl W (GF X.K) (fun vs H Q => rSortedI X.K vs H Q ∨ rSortedIT X.K vs H Q) (on1 dSorted) := CallD.one fun σ Z H v d Q z g s => by
  cases d <;> simp only [dSorted] at s <;> try exact Sat.no s
  case lst l =>
    split at s
    · rename_i ns hn
      have e := ints?_eq hn
      subst e
      have hl : ns.length ≤ sizeLine := g.lenI z
      obtain ⟨a, vs, ex, ha, la, ra⟩ := g.lst z
      have e := ra.intsV
      subst e ex
      refine .inl ⟨a, ns, rfl, .of ha, fun ns' p h1 h2 hp => ?_⟩
      have e := sortI_uniq h1 h2
      subst e
      exact Sat.ok s (Ext.newO z hp) ⟨p, _, rfl, hp, same_none z hp, upd_same, .lst (by rw [List.length_map, (sortI_perm ns).length_eq]; exact hl) (RpL.ints _)⟩
    · exact Sat.no s
  case tup l =>
    split at s
    · rename_i ns hn
      have e := ints?_eq hn
      subst e
      obtain ⟨a, vs, ex, ha, la, ra⟩ := g.tup z
      have e := ra.intsV
      subst e ex
      rw [List.length_map] at la
      refine .inr ⟨a, ns, rfl, .of ha, fun ns' p h1 h2 hp => ?_⟩
      have e := sortI_uniq h1 h2
      subst e
      exact Sat.ok s (Ext.newO z hp) ⟨p, _, rfl, hp, same_none z hp, upd_same, .lst (by rw [List.length_map, (sortI_perm ns).length_eq]; exact la) (RpL.ints _)⟩
    · exact Sat.no s
  case tux l =>
    split at s
    · rename_i ns hn
      have e := ints?_eq hn
      subst e
      obtain ⟨a, o, vs, ex, ha, hdn, la, ra⟩ := g.tux z
      have e := ra.intsV
      subst e ex
      rw [List.length_map] at la
      refine .inr ⟨a, ns, rfl, sqt_frz ha, fun ns' p h1 h2 hp => ?_⟩
      have e := sortI_uniq h1 h2
      subst e
      exact Sat.ok s (Ext.newO z hp) ⟨p, _, rfl, hp, same_none z hp, upd_same, .lst (by rw [List.length_map, (sortI_perm ns).length_eq]; exact la) (RpL.ints _)⟩
    · exact Sat.no s
theorem df_sorted {p pos : Pos} {e : Expr} {fs : Ev → R (List D)} (hg : Gl X "sorted") (hm : X.mg "sorted" = none) (hs : DA X cl W (GB X.K) [e] fs) (he : starEach [e] X.env = (false, eval e X.env) :: starEach [] X.env := by rfl) (hpl : (backTo pos (starEach [] X.env)).any (·.1) = false := by rfl) :
    DF X cl W (.Call (.Name "sorted" p) [e] [] pos) (e1L (on1 dSorted) fs) := dx_callB gokF (CallR.or' cr_sortedI cr_sortedIT) sorted_ok hg hm (by decide +kernel) hs (by decide) (by decide) he hpl
end
end DL

/-! The data layer, part 11: try with several clauses, each with or without a name; isinstance of what is caught. -/
namespace DL
open PySem PySem.Spec PyProof.Rows L2

/-- an except clause: its class, the slot of its name, its suite -/
structure Hd where
  c : Value
  io : Option Nat
  ts : Addr → Value → Option Addr → TS
def unE (D : Ends) : Option Nat → Ends
  | none => D
  | some i => { nx := fun σ H => D.nx (σ.set i none) H, rt := D.rt, bk := fun σ H => D.bk (σ.set i none) H, ct := fun σ H => D.ct (σ.set i none) H }
def inS (σ : L2.St) (a : Addr) : Option Nat → L2.St
  | none => σ
  | some i => σ.set i (some (.ref a))
def wHds (K : PySem.W.Frag) (Wout : WX) (D : Ends) : List Hd → WX
  | [] => Wout
  | h :: r => fun cls d σ H => ∃ b, PySem.W.exmOne K cls h.c = some b ∧ (b = true → ∀ a, H a = none → h.ts a cls d (unE D h.io) (inS σ a h.io) H) ∧ (b = false → wHds K Wout D r cls d σ H)
inductive HsOk (X : Cx) : List ExceptHandler → List Hd → Prop
  | nil : HsOk X [] []
  | bare {x : Str} {c : Value} {ts : Addr → Value → Option Addr → TS} {b₀ : Stmt} {suite : List Stmt} {np pos' : Pos} {hds : List ExceptHandler} {l : List Hd} (hc : Names X x c)
      (hsu : ∀ (a : Addr) (oe : Obj) (cls : Value) (d : Option Addr) (pn : List (Addr × Obj)), Zc cls d oe → (∃ vs, oe.data = .fields vs) → PSs (X.suite a ((a, oe) :: pn)) (b₀ :: suite) (ts a cls d)) (r : HsOk X hds l) :
      HsOk X (.ExceptHandler (some (.Name x np)) none (b₀ :: suite) pos' :: hds) (⟨c, none, ts⟩ :: l)
  | as {x n : Str} {c : Value} {i : Nat} {ts : Addr → Value → Option Addr → TS} {b₀ : Stmt} {suite : List Stmt} {np pos' : Pos} {hds : List ExceptHandler} {l : List Hd} (hc : Names X x c) (hi : X.N[i]? = some n) (hln : X.env.kindOf n = some .local)
      (hsu : ∀ (a : Addr) (oe : Obj) (cls : Value) (d : Option Addr) (pn : List (Addr × Obj)), Zc cls d oe → (∃ vs, oe.data = .fields vs) → PSs (X.suite a ((a, oe) :: pn)) (b₀ :: suite) (ts a cls d)) (r : HsOk X hds l) :
      HsOk X (.ExceptHandler (some (.Name x np)) (some n) (b₀ :: suite) pos' :: hds) (⟨c, some i, ts⟩ :: l)
section
variable {X : Cx} {body : List Stmt} {h₀ : ExceptHandler} {hds : List ExceptHandler} {l : List Hd} {pos : Pos} {tb : WX → TS} {Wout : WX}
theorem ps_tryHs (hs : X.stack = X.env :: X.outer) (hf : X.env.frame = some X.env.locals) (hN : X.N.Nodup) (tk : Takes X Wout)
    (hb : ∀ (W : WX) (pn : List (Addr × Obj)) (xe : Value → Shared → Prop), Takes (X.tr pn xe) W → PassesOwn (model X.prog X.w) X.A X.env xe → PSs (X.tr pn xe) body (tb W))
    (hh : HsOk X (h₀ :: hds) l) : PS X (.Try body (h₀ :: hds) [] [] pos) (fun D σ H => tb (wHds X.K Wout D l) D σ H) := by
  refine ⟨fun pins s σ H D I h => ?_⟩
  have ok := I.ok
  have fr0 : X.A.frames = some (X.env :: X.outer) := by rw [ok.frames, hs]
  refine wpAny_Try_except (wpAny_mono ((hb (wHds X.K Wout D l) (X.pn ++ pins) (fun e s₁ => wpAny (model X.prog X.w) X.A (noteFrame e X.env) (fun _ s₂ => wpAny (model X.prog X.w) X.A (setFlight e none) (fun _ s₃ =>
    wpAny (model X.prog X.w) X.A (handleBy e X.env (h₀ :: hds)) (SP X pins D) X.xe s₃) X.xe s₂) X.xe s₁) (fun u s' xx => ?_) PassesOwn.looking).run [] s σ H D (I.toTry _) h) (fun f s1 hsp => ?_) (fun e s1 he => he))
  · obtain ⟨a, B, sI, pins', σ', H', cls, d, rfl, J', nb, up, sky, na, os, ag, w⟩ := xx
    have J : Inv X pins σ' H' sI := J'.ofTry ok
    have sk : Sky B (X.env :: X.outer) a (Zc cls d) X.env.locals s'.heap := by rw [← hs]; exact sky
    show wpAny (model X.prog X.w) X.A (noteFrame (.ref a) X.env) _ _ _
    refine Sky.land Zc.steady fr0 hf sk fun h3 fl3 up3 => ?_
    have J3 : Inv X pins σ' H' { s' with heap := h3 } := J.landed nb fl3.1 (up.trans up3) os ag
    obtain ⟨oe3, vs3, he3, hz3, hd3⟩ := fl3.there
    have nfr : a ∉ frs (X.env :: X.outer) := fun hm => by
      obtain ⟨_, o', e', hnf⟩ := fl3.2.2.1.mem hm
      rw [he3] at e'; cases e'
      exact hnf _ hd3
    have nL : a ≠ X.env.locals := fun z => nfr (List.mem_filterMap.mpr ⟨X.env, List.mem_cons_self, by rw [hf, z]⟩)
    have nF : a ∉ X.fs := fun hm => by
      obtain ⟨e, he, q⟩ := List.mem_filterMap.mp hm
      exact nfr (List.mem_filterMap.mpr ⟨e, List.mem_cons_of_mem _ he, q⟩)
    have S3 := J3.suite he3 hd3 na nL nF
    -- the name of a clause is looked up, and its class asked
    have ask : ∀ {x : Str} {np : Pos} {c : Value} {Q : Value → Shared → Prop} {E : Value → Shared → Prop}, Names X x c → Q c { s' with heap := h3 } → wpAny (model X.prog X.w) (X.A.mark (some (.ref a))) (eval (.Name x np) X.env) Q E { s' with heap := h3 } := fun {x np c Q E} hc q => by
      obtain ⟨hg, hdbg, hm | ⟨hm, hv, hnn⟩⟩ := hc
      · exact ld_glob (X := X.suite a ((a, oe3) :: (X.pn ++ pins))) S3 hg hm q hdbg
      · exact ld_blt (X := X.suite a ((a, oe3) :: (X.pn ++ pins))) S3 hg hm hv q hnn hdbg
    have look : PySem.W.Looks (model X.prog X.w) h3 (typeOf (.ref a)) cls := fun A Q E s k q => wpAny_typeOf_ref (k _ _ he3) (by rw [hz3.1]; exact q)
    have go : ∀ {hds' : List ExceptHandler} {l' : List Hd}, HsOk X hds' l' → wHds X.K Wout D l' cls d σ' H' →
        wpAny (model X.prog X.w) X.A (handleBy (.ref a) X.env hds') (SP X pins D) X.xe { s' with heap := h3 } := by
      intro hds' l' hk
      induction hk with
      | nil =>
        intro w
        refine wpAny_handleBy_nil ?_
        obtain ⟨k1, k2, k3, oe, vs, T, oT, ts', he, hz, hd, h1, hr⟩ := id fl3
        unfold PySem.passOn
        refine wpAny_bind (wpAny_field he hd h1 ?_)
        rw [if_neg (show ¬ ((Value.ref T == Value.none) = true) from by simp)]
        have fin : wpAny (model X.prog X.w) X.A (setFlight (.ref a) X.env.frame) (fun _ s4 => wpAny (model X.prog X.w) X.A (throw (.ref a) : Sem Flow) (SP X pins D) X.xe s4) X.xe { s' with heap := h3 } := by
          rw [hf]
          refine HandSPX.setFlight_upZ fl3 fun h4 hh4 up4 => wpAny_throw (tk _ _ ?_)
          exact ⟨a, B, sI, pins, σ', H', cls, d, rfl, J, nb, (up.trans up3).trans up4, .inr (.inr (by rw [hs]; exact hh4)), na, os, ag, w⟩
        first
          | exact wpAny_bind (wpAny_pure (wpAny_bind fin))
          | exact wpAny_bind fin
      | @bare x c ts b₀ suite np pos' hds2 l2 hc hsu r ih =>
        rintro ⟨b, hb1, hyes, hno⟩
        refine wpAny_handleBy_cons (codeAny_handlers_test (ask hc ((PySem.W.exm_one (M := model X.prog X.w) J3.kIn look hb1).here ?_))) (by intro q; cases q)
        cases b with
        | false => exact ih (hno rfl)
        | true =>
          refine codeAny_handlers_suite (HandSPX.lands_againZ fl3 fun h4 fl4 up4 => ?_)
          have J4 : Inv X pins σ' H' { s' with heap := h4 } := J.landed nb fl4.1 ((up.trans up3).trans up4) os ag
          obtain ⟨oe4, vs4, he4, hz4, hd4⟩ := fl4.there
          refine wpAny_mono ((hsu a oe4 cls d (X.pn ++ pins) hz4 ⟨_, hd4⟩).run [] _ _ H' _ (J4.suite he4 hd4 na nL nF) (hyes rfl a na)) (fun f s6 hsp => ?_) (fun _ _ z => False.elim z)
          cases f with
          | next => exact let ⟨_, _, S6, q6⟩ := hsp; ⟨_, _, S6.unsuite ok, q6⟩
          | brk => exact let ⟨_, _, S6, q6⟩ := hsp; ⟨_, _, S6.unsuite ok, q6⟩
          | cont => exact let ⟨_, _, S6, q6⟩ := hsp; ⟨_, _, S6.unsuite ok, q6⟩
          | ret u => exact let ⟨_, _, _, S6, r6, q6⟩ := hsp; ⟨_, _, _, S6.unsuite ok, r6, q6⟩
      | @as x n c i ts b₀ suite np pos' hds2 l2 hc hi hln hsu r ih =>
        rintro ⟨b, hb1, hyes, hno⟩
        refine wpAny_handleBy_cons (codeAny_handlers_test (ask hc ((PySem.W.exm_one (M := model X.prog X.w) J3.kIn look hb1).here ?_))) (by intro q; cases q)
        cases b with
        | false => exact ih (hno rfl)
        | true =>
          refine codeAny_handlers_suite_as (HandSPX.lands_againZ fl3 fun h4 fl4 up4 => ?_)
          have J4 : Inv X pins σ' H' { s' with heap := h4 } := J.landed nb fl4.1 ((up.trans up3).trans up4) os ag
          obtain ⟨oe4, vs4, he4, hz4, hd4⟩ := fl4.there
          have S4 := J4.suite he4 hd4 na nL nF
          have hloc : L2.Loc X.env.scope n := .inl hln
          refine store_ok (X := X.suite a ((a, oe4) :: (X.pn ++ pins))) (v := .ref a) S4 hN hi hloc rfl (fun s5 S5 => ?_) (.inr hln)
          refine wpAny_mono ((hsu a oe4 cls d (X.pn ++ pins) hz4 ⟨_, hd4⟩).run [] s5 _ H' _ S5 (hyes rfl a na)) (fun f s6 hsp => ?_) (fun _ _ z => False.elim z)
          cases f with
          | next => exact let ⟨_, _, S6, q6⟩ := hsp; gone_ok (S6.unsuite ok) hN hi hln fun s7 J7 => ⟨_, _, J7, q6⟩
          | brk => exact let ⟨_, _, S6, q6⟩ := hsp; gone_ok (S6.unsuite ok) hN hi hln fun s7 J7 => ⟨_, _, J7, q6⟩
          | cont => exact let ⟨_, _, S6, q6⟩ := hsp; gone_ok (S6.unsuite ok) hN hi hln fun s7 J7 => ⟨_, _, J7, q6⟩
          | ret u => exact let ⟨_, _, _, S6, r6, q6⟩ := hsp; gone_ok (S6.unsuite ok) hN hi hln fun s7 J7 => ⟨_, _, _, J7, r6, q6⟩
    exact go hh w
  · cases f with
    | next => exact let ⟨_, _, K', q⟩ := hsp; wpAny_execs_nil ⟨_, _, K'.ofTry ok, q⟩
    | brk => exact let ⟨_, _, K', q⟩ := hsp; ⟨_, _, K'.ofTry ok, q⟩
    | cont => exact let ⟨_, _, K', q⟩ := hsp; ⟨_, _, K'.ofTry ok, q⟩
    | ret u => exact let ⟨_, _, _, K', r, q⟩ := hsp; ⟨_, _, _, K'.ofTry ok, r, q⟩
end

theorem Mt.setRaw {K : PySem.W.Frag} {H0 Z0 Z H : Hp} {ρ : Ev} {σ : L2.St} (m : Mt K H0 Z0 Z ρ σ H) (i : Nat) (v : V) : Mt K H0 Z0 Z (ρ.set i (.raw v)) (σ.set i (some v)) H := by
  have f := m.forget i (some v)
  have key : ∀ (j : Nat) (x : Sl), x ≠ Sl.raw v → (ρ.set i (.raw v))[j]? = some x → (ρ.set i .un)[j]? = some x := fun j x hx h => by
    by_cases hj : i = j
    · subst hj
      have hl : i < ρ.length := by simpa using (List.getElem?_eq_some_iff.mp h).1
      rw [List.getElem?_set_self hl] at h
      cases h
      exact absurd rfl hx
    · rw [List.getElem?_set_ne hj] at h ⊢
      exact h
  refine ⟨f.sH, f.sZ, f.s0, f.z0, fun j d h => f.im j d (key j _ (by simp) h), fun j d h => f.ow j d (key j _ (by simp) h), fun j k a x y h1 h2 => f.ap j k a x y (key j _ (by simp) h1) (key k _ (by simp) h2), fun j u h => ?_, by simp [m.len]⟩
  by_cases hj : i = j
  · subst hj
    have hl : i < ρ.length := by simpa using (List.getElem?_eq_some_iff.mp h).1
    rw [List.getElem?_set_self hl] at h
    cases h
    exact List.getElem?_set_self (by rw [← m.len]; exact hl)
  · rw [List.getElem?_set_ne hj] at h ⊢
    exact m.raw j u h

/-- what is known of the classes of exceptions: sb e c: is e below c? -/
structure ExT (K : PySem.W.Frag) (cl : Nat → Value) (sb : Nat → Nat → Option Bool) : Prop where
  sub : ∀ e c b, sb e c = some b → PySem.W.exmOne K (cl e) (cl c) = some b ∧ PySem.W.kitOne K (cl e) (cl c) = some b
  cls : ∀ e c b, sb e c = some b → ∃ D, cl e = .ref D ∧ ExcC K D
structure HdD where
  c : Nat
  io : Option Nat
  s : Nat → Addr → Ev → Out
def offE : Option Nat → Ev → Ev
  | none, ρ => ρ
  | some i, ρ => ρ.set i .un
def onE (a : Addr) : Option Nat → Ev → Ev
  | none, ρ => ρ
  | some i, ρ => ρ.set i (.raw (.ref a))
def offO (io : Option Nat) : Out → Out
  | .nx ρ => .nx (offE io ρ)
  | .bk ρ => .bk (offE io ρ)
  | .ct ρ => .ct (offE io ρ)
  | .rt d => .rt d
  | _ => .stuck
def handD (sb : Nat → Nat → Option Bool) (e : Nat) (ρ : Ev) : List HdD → Out
  | [] => .ex e ρ
  | h :: r => match sb e h.c with
    | some true => offO h.io (h.s e 0 (onE 0 h.io ρ))
    | some false => handD sb e ρ r
    | none => .stuck
def sTry (sb : Nat → Nat → Option Bool) (b : Ev → Out) (hs : List HdD) : Ev → Out := fun ρ => match b ρ with
  | .ex e ρ' => handD sb e ρ' hs
  | o => o
section
variable {X : Cx} {cl : Nat → Value} {W : WX} {G : Hp → Hp → Hp → V → D → Prop}
inductive HsD (X : Cx) (cl : Nat → Value) (G : Hp → Hp → Hp → V → D → Prop) : List ExceptHandler → List HdD → Prop
  | nil : HsD X cl G [] []
  | bare {x : Str} {c : Nat} {s : Nat → Addr → Ev → Out} {b₀ : Stmt} {suite : List Stmt} {np pos' : Pos} {hds : List ExceptHandler} {l : List HdD} (hc : Names X x (cl c))
      (hsu : ∀ (a : Addr) (oe : Obj) (e : Nat) (pn : List (Addr × Obj)), Zc (cl e) none oe → (∃ vs, oe.data = .fields vs) → DSs (X.suite a ((a, oe) :: pn)) cl W0 G (b₀ :: suite) (s e a)) (ind : ∀ (e : Nat) (a : Addr) (ρ : Ev), offO none (s e a ρ) = offO none (s e 0 ρ)) (r : HsD X cl G hds l) :
      HsD X cl G (.ExceptHandler (some (.Name x np)) none (b₀ :: suite) pos' :: hds) (⟨c, none, s⟩ :: l)
  | as {x n : Str} {c i : Nat} {s : Nat → Addr → Ev → Out} {b₀ : Stmt} {suite : List Stmt} {np pos' : Pos} {hds : List ExceptHandler} {l : List HdD} (hc : Names X x (cl c)) (hi : X.N[i]? = some n) (hln : X.env.kindOf n = some .local)
      (hsu : ∀ (a : Addr) (oe : Obj) (e : Nat) (pn : List (Addr × Obj)), Zc (cl e) none oe → (∃ vs, oe.data = .fields vs) → DSs (X.suite a ((a, oe) :: pn)) cl W0 G (b₀ :: suite) (s e a))
      (ind : ∀ (e : Nat) (a : Addr) (ρ : Ev), offO (some i) (s e a (ρ.set i (.raw (.ref a)))) = offO (some i) (s e 0 (ρ.set i (.raw (.ref 0))))) (r : HsD X cl G hds l) :
      HsD X cl G (.ExceptHandler (some (.Name x np)) (some n) (b₀ :: suite) pos' :: hds) (⟨c, some i, s⟩ :: l)
def hdT (K : PySem.W.Frag) (cl : Nat → Value) (G : Hp → Hp → Hp → V → D → Prop) (s : Nat → Addr → Ev → Out) : Addr → Value → Option Addr → TS := fun a cls d Dn σ H => ∃ e, cls = cl e ∧ d = none ∧ tS K cl W0 G (s e a) Dn σ H
theorem hdT_ok {s : Nat → Addr → Ev → Out} {b : List Stmt} (hsu : ∀ (a : Addr) (oe : Obj) (e : Nat) (pn : List (Addr × Obj)), Zc (cl e) none oe → (∃ vs, oe.data = .fields vs) → DSs (X.suite a ((a, oe) :: pn)) cl W0 G b (s e a)) :
    ∀ (a : Addr) (oe : Obj) (cls : Value) (d : Option Addr) (pn : List (Addr × Obj)), Zc cls d oe → (∃ vs, oe.data = .fields vs) → PSs (X.suite a ((a, oe) :: pn)) b (hdT X.K cl G s a cls d) :=
  fun a oe cls d pn hz hv => ⟨fun pins s0 σ H Dn I ⟨e, hc, hd, x⟩ => by
    subst hc hd
    exact (hsu a oe e pn hz hv).run pins s0 σ H Dn I x⟩
theorem HsD.ok : ∀ {hds : List ExceptHandler} {l : List HdD}, HsD X cl G hds l → HsOk X hds (l.map fun h => ⟨cl h.c, h.io, hdT X.K cl G h.s⟩)
  | _, _, .nil => .nil
  | _, _, .bare hc hsu _ r => .bare hc (hdT_ok hsu) r.ok
  | _, _, .as hc hi hln hsu _ r => .as hc hi hln (hdT_ok hsu) r.ok
theorem SatS.off {H0 Z0 : Hp} {io : Option Nat} {o : Out} {Dn : Ends} (h : SatS X.K cl W G H0 Z0 (offO io o) Dn) : SatS X.K cl W0 G H0 Z0 o (unE Dn io) := by
  cases io with
  | none => cases o <;> first | exact h | exact False.elim h
  | some i =>
    cases o with
    | nx ρ => exact fun σ H Z m => h _ _ _ (m.forget i none)
    | bk ρ => exact fun σ H Z m => h _ _ _ (m.forget i none)
    | ct ρ => exact fun σ H Z m => h _ _ _ (m.forget i none)
    | rt d => exact h
    | ex c ρ => exact False.elim h
    | stuck => exact False.elim h
theorem hand_ok {sb : Nat → Nat → Option Bool} (ext : ExT X.K cl sb) {e : Nat} {ρ : Ev} {H0 Z0 : Hp} {Dn : Ends} {σ : L2.St} {H Z : Hp} (m : Mt X.K H0 Z0 Z ρ σ H) : ∀ {hds : List ExceptHandler} {l : List HdD}, HsD X cl G hds l → SatS X.K cl W G H0 Z0 (handD sb e ρ l) Dn →
    wHds X.K W Dn (l.map fun h => ⟨cl h.c, h.io, hdT X.K cl G h.s⟩) (cl e) none σ H
  | _, _, .nil, h => h σ H Z m
  | _, _, @HsD.bare _ _ _ _ c s _ _ _ _ _ l hc hsu ind r, h => by
    unfold handD at h
    cases hq : sb e c with
    | none => simp only [hq] at h; exact False.elim h
    | some b =>
      simp only [hq] at h
      refine ⟨b, (ext.sub e c b hq).1, fun hb a na => ?_, fun hb => ?_⟩
      · subst hb
        simp only at h
        exact ⟨e, rfl, rfl, H0, Z0, Z, ρ, m, SatS.off (by rw [ind e a ρ]; exact h)⟩
      · subst hb
        exact hand_ok ext m r h
  | _, _, @HsD.as _ _ _ _ _ c i s _ _ _ _ _ l hc hi hln hsu ind r, h => by
    unfold handD at h
    cases hq : sb e c with
    | none => simp only [hq] at h; exact False.elim h
    | some b =>
      simp only [hq] at h
      refine ⟨b, (ext.sub e c b hq).1, fun hb a na => ?_, fun hb => ?_⟩
      · subst hb
        simp only at h
        exact ⟨e, rfl, rfl, H0, Z0, Z, ρ.set i (.raw (.ref a)), m.setRaw i (.ref a), SatS.off (by rw [ind e a ρ]; exact h)⟩
      · subst hb
        exact hand_ok ext m r h
theorem ds_try {sb : Nat → Nat → Option Bool} {body : List Stmt} {h₀ : ExceptHandler} {hds : List ExceptHandler} {l : List HdD} {b : Ev → Out} {pos : Pos} (ext : ExT X.K cl sb) (hs : X.stack = X.env :: X.outer) (hf : X.env.frame = some X.env.locals) (hN : X.N.Nodup) (tk : Takes X W)
    (hb : ∀ (W : WX) (pn : List (Addr × Obj)) (xe : Value → Shared → Prop), Takes (X.tr pn xe) W → PassesOwn (model X.prog X.w) X.A X.env xe → DSs (X.tr pn xe) cl W G body b)
    (hh : HsD X cl G (h₀ :: hds) l) : DS X cl W G (.Try body (h₀ :: hds) [] [] pos) (sTry sb b l) :=
  PS.imp (ps_tryHs (tb := fun W => tS X.K cl W G b) hs hf hN tk hb hh.ok) fun Dn σ H ⟨H0, Z0, Z, ρ, m, h⟩ => ⟨H0, Z0, Z, ρ, m, by
    unfold sTry at h
    cases hq : b ρ with
    | ex e ρ' => rw [hq] at h; exact fun σ' H' Z' m' => hand_ok ext m' hh h
    | nx d => rw [hq] at h; exact h
    | rt d => rw [hq] at h; exact h
    | bk d => rw [hq] at h; exact h
    | ct d => rw [hq] at h; exact h
    | stuck => rw [hq] at h; exact h⟩
/-- isinstance(e, C), e what the suite holds -/
def eIsE (sb : Nat → Nat → Option Bool) (e c : Nat) (a : Addr) (i : Nat) : Ev → R D := fun ρ => match ρ[i]? with
  | some (.raw (.ref b)) => if b = a then match sb e c with
    | some b => .ok (.bl b)
    | none => .stuck
    else .stuck
  | _ => .stuck
theorem de_isE {sb : Nat → Nat → Option Bool} {a : Addr} {oe : Obj} {e c i : Nat} {pn : List (Addr × Obj)} {n x : Str} {C : Addr} {pp p1 p2 pos : Pos} (ext : ExT X.K cl sb) (hz : Zc (cl e) none oe) (hv : ∃ vs, oe.data = .fields vs)
    (hN : X.N[i]? = some n) (hvi : Vis X.env.scope n) (hg : Gl X "isinstance") (hm : X.mg "isinstance" = none) (hg2 : Gl X x) (hm2 : X.mg x = some (.ref C)) (hcl : cl c = .ref C)
    (hd : (n == ("__debug__" : Str)) = false := by decide) (hcd : (n == ("__classdict__" : Str)) = false := by decide) (hd2 : (x == ("__debug__" : Str)) = false := by decide)
    (h1 : starEach [.Name n p1, .Name x p2] X.env = (false, eval (.Name n p1) X.env) :: starEach [.Name x p2] X.env := by rfl) (h2 : starEach [.Name x p2] X.env = (false, eval (.Name x p2) X.env) :: starEach [] X.env := by rfl) (h3 : (backTo pos (starEach [.Name x p2] X.env)).any (·.1) = false := by rfl) :
    DE (X.suite a ((a, oe) :: pn)) cl W (.Call (.Name "isinstance" pp) [.Name n p1, .Name x p2] [] pos) (eIsE sb e c a i) := by
  cases hq : sb e c with
  | none =>
    refine ⟨fun pins s σ H Q I ⟨H0, Z0, Z, ρ, m, q⟩ => False.elim ?_⟩
    unfold eIsE at q
    rw [hq] at q
    split at q
    · split at q <;> exact q
    · exact q
  | some b =>
    obtain ⟨D, hD, EC⟩ := ext.cls e c b hq
    rw [hD] at hz
    refine PE.imp (pe_callB (X := X.suite a ((a, oe) :: pn)) (call_isE EC hz hv) hg hm (by decide +kernel) (pa_cons (pe_var (X := X.suite a ((a, oe) :: pn)) hN hvi hd hcd) (pa_cons (pe_glob (X := X.suite a ((a, oe) :: pn)) (v := .ref C) hg2 hm2 (show L2.RelV (.ref C) (.ref C) from rfl) hd2) pa_nil h2) h1) (by decide) (by decide) h1 h3) fun σ H Q ⟨H0, Z0, Z, ρ, m, q⟩ => ?_
    unfold eIsE at q
    rw [hq] at q
    split at q
    · rename_i a' ha
      split at q
      · rename_i he
        subst he
        refine ⟨_, m.raw i _ ha, .ref C, .ref C, b, rfl, fun u hu => ?_, ?_, Sat.ok (G := GE X.K) q (Ext.refl m.sZ) (.bl b)⟩
        · cases hu; rfl
        · rw [← hD, ← hcl]; exact (ext.sub e c b hq).2
      · exact Sat.no q
    · exact Sat.no q
end
end DL

/-! The data layer, part 12: short forms for printed texts. -/
namespace DL
open PySem PySem.Spec PyProof.Rows L2

section
variable {X : Cx} {cl : Nat → Value} {W : WX} {G : Hp → Hp → Hp → V → D → Prop}
theorem ev (i : Nat) {x : Str} {pos : Pos} (hN : X.N[i]? = some x := by rfl) (hv : Vis X.env.scope x := by first | exact Or.inl rfl | exact Or.inr (Or.inl rfl) | exact Or.inr (Or.inr rfl)) (hd : (x == ("__debug__" : Str)) = false := by decide)
    (hcd : (x == ("__classdict__" : Str)) = false := by decide) : DE X cl W (.Name x pos) (eVar i) := de_var hN hv hd hcd
theorem bv (i : Nat) {x : Str} {pos : Pos} (hN : X.N[i]? = some x := by rfl) (hv : Vis X.env.scope x := by first | exact Or.inl rfl | exact Or.inr (Or.inl rfl) | exact Or.inr (Or.inr rfl)) (hd : (x == ("__debug__" : Str)) = false := by decide)
    (hcd : (x == ("__classdict__" : Str)) = false := by decide) : DB X cl W (.Name x pos) (eVarB i) := db_var hN hv hd hcd
/-! comprehensions, the slots said apart -/
theorem lcF {elt tg iter : Expr} {ifs : List Expr} {scope : Scope} {own : List (Str × Nat)} {vs : List Nat} {pos : Pos} {p : Pat} {fi : Ev → R (List D)} {c : Ev → R Bool} {fe : Ev → R D} {fz : Bool} (hc : X.calm = true) (hN : X.N.Nodup) (hi : DI X cl W fz tg iter fi) (ok : BlkOk X.N X.env.scope scope own)
    (hp : ∀ i ∈ p.slots, i ∈ vs)
    (hg : ∀ (s : Shared) (H : Hp) (C : Addr) (l : List (Str × Addr)) (fp : List Addr), DG (X.blk s H scope (compEnvC scope l C X.env) fp) tg p) (ht : ∀ (s : Shared) (H : Hp) (C : Addr) (l : List (Str × Addr)) (fp : List Addr), DTs (X.blk s H scope (compEnvC scope l C X.env) fp) cl W0 ifs c)
    (he : ∀ (s : Shared) (H : Hp) (C : Addr) (l : List (Str × Addr)) (fp : List Addr), DE (X.blk s H scope (compEnvC scope l C X.env) fp) cl W0 elt fe) (hvs : own.map (·.2) = vs := by rfl) (hs : ∀ x, foldedSetIterable iter X.env x = pure x := by intro _; rfl) :
    DF X cl W (.ListComp elt [⟨tg, iter, ifs, 0⟩] scope pos) (eComp fi p vs c fe) := by
  subst hvs
  exact df_lc hc hN hi ok hp hg ht he hs
theorem dcF {kx vx tg iter : Expr} {ifs : List Expr} {scope : Scope} {own : List (Str × Nat)} {vs : List Nat} {pos : Pos} {p : Pat} {fi : Ev → R (List D)} {c : Ev → R Bool} {fk fe : Ev → R D} {fz : Bool} (hc : X.calm = true) (hN : X.N.Nodup) (hi : DI X cl W fz tg iter fi) (ok : BlkOk X.N X.env.scope scope own)
    (hp : ∀ i ∈ p.slots, i ∈ vs)
    (hg : ∀ (s : Shared) (H : Hp) (C : Addr) (l : List (Str × Addr)) (fp : List Addr), DG (X.blk s H scope (compEnvC scope l C X.env) fp) tg p) (ht : ∀ (s : Shared) (H : Hp) (C : Addr) (l : List (Str × Addr)) (fp : List Addr), DTs (X.blk s H scope (compEnvC scope l C X.env) fp) cl W0 ifs c)
    (hk : ∀ (s : Shared) (H : Hp) (C : Addr) (l : List (Str × Addr)) (fp : List Addr), DE (X.blk s H scope (compEnvC scope l C X.env) fp) cl W0 kx fk)
    (he : ∀ (s : Shared) (H : Hp) (C : Addr) (l : List (Str × Addr)) (fp : List Addr), DE (X.blk s H scope (compEnvC scope l C X.env) fp) cl W0 vx fe) (hvs : own.map (·.2) = vs := by rfl) (hs : ∀ x, foldedSetIterable iter X.env x = pure x := by intro _; rfl) :
    DF X cl W (.DictComp kx vx [⟨tg, iter, ifs, 0⟩] scope pos) (eCompK fi p vs c fk fe) := by
  subst hvs
  exact df_dc hc hN hi ok hp hg ht hk he hs
theorem lcOwn {i : Nat} {y : Str} {py : Pos} {elt tg iter : Expr} {ifs : List Expr} {scope : Scope} {own : List (Str × Nat)} {vs : List Nat} {pos spos : Pos} {p : Pat} {fi : Ev → R (List D)} {c : Ev → R Bool} {fe : Ev → R D} {fz : Bool} (hc : X.calm = true) (hN : X.N.Nodup) (hy : X.N[i]? = some y) (hyl : X.env.scope.names.lookup y = some .local)
    (hsw : swapsWith (.ListComp elt [⟨tg, iter, ifs, 0⟩] scope pos) (some (.Name y py)) spos.line X.env = pure true) (hi : DI X cl W fz tg iter fi) (ok : BlkOk X.N X.env.scope scope own) (hp : ∀ i ∈ p.slots, i ∈ vs)
    (hg : ∀ (s : Shared) (H : Hp) (C : Addr) (l : List (Str × Addr)) (fp : List Addr), DG (X.blk s H scope (compEnvC scope l C X.env) fp) tg p) (ht : ∀ (s : Shared) (H : Hp) (C : Addr) (l : List (Str × Addr)) (fp : List Addr), DTs (X.blk s H scope (compEnvC scope l C X.env) fp) cl W0 ifs c)
    (he : ∀ (s : Shared) (H : Hp) (C : Addr) (l : List (Str × Addr)) (fp : List Addr), DE (X.blk s H scope (compEnvC scope l C X.env) fp) cl W0 elt fe) (hvs : own.map (·.2) = vs := by rfl) (hs : ∀ x, foldedSetIterable iter X.env x = pure x := by intro _; rfl) :
    DS X cl W G (.Assign [.Name y py] (.ListComp elt [⟨tg, iter, ifs, 0⟩] scope pos) spos) (sOwn (eComp fi p vs c fe) i) := by
  subst hvs
  exact ds_ownLc hc hN hy hyl hsw hi ok hp hg ht he hs
theorem lcSet {i : Nat} {y : Str} {py : Pos} {elt tg iter : Expr} {ifs : List Expr} {scope : Scope} {own : List (Str × Nat)} {vs : List Nat} {pos spos : Pos} {p : Pat} {fi : Ev → R (List D)} {c : Ev → R Bool} {fe : Ev → R D} {fz : Bool} (hc : X.calm = true) (hN : X.N.Nodup) (hy : X.N[i]? = some y) (hyl : X.env.scope.names.lookup y = some .local)
    (hsw : swapsWith (.ListComp elt [⟨tg, iter, ifs, 0⟩] scope pos) (some (.Name y py)) spos.line X.env = pure true) (hi : DI X cl W fz tg iter fi) (ok : BlkOk X.N X.env.scope scope own) (hp : ∀ i ∈ p.slots, i ∈ vs)
    (hg : ∀ (s : Shared) (H : Hp) (C : Addr) (l : List (Str × Addr)) (fp : List Addr), DG (X.blk s H scope (compEnvC scope l C X.env) fp) tg p) (ht : ∀ (s : Shared) (H : Hp) (C : Addr) (l : List (Str × Addr)) (fp : List Addr), DTs (X.blk s H scope (compEnvC scope l C X.env) fp) cl W0 ifs c)
    (he : ∀ (s : Shared) (H : Hp) (C : Addr) (l : List (Str × Addr)) (fp : List Addr), DE (X.blk s H scope (compEnvC scope l C X.env) fp) cl W0 elt fe) (hvs : own.map (·.2) = vs := by rfl) (hs : ∀ x, foldedSetIterable iter X.env x = pure x := by intro _; rfl) :
    DS X cl W G (.Assign [.Name y py] (.ListComp elt [⟨tg, iter, ifs, 0⟩] scope pos) spos) (sAsg (eComp fi p vs c fe) (.nm i)) := by
  subst hvs
  exact ds_setLc hc hN hy hyl hsw hi ok hp hg ht he hs
/-- a truth value as a test -/
def eBl (f : Ev → R D) : Ev → R Bool := fun ρ => f ρ >>= asB
theorem bl_use {f : Ev → R D} {σ : L2.St} {H : Hp} {Q : Bool → Hp → Prop} (h : tG X.K cl W GT (eBl f) σ H Q) : tG X.K cl W (GE X.K) f σ H fun x H' => ∃ k, x = .bl k ∧ Q k H' := by
  obtain ⟨H0, Z0, Z, ρ, m, s⟩ := h
  refine ⟨H0, Z0, Z, ρ, m, Sat.bind gokT s fun d v Z1 H1 x1 g1 s1 => ?_⟩
  cases d <;> simp only [asB] at s1 <;> try exact Sat.no s1
  cases g1
  exact ⟨_, rfl, Sat.ok (G := GT) s1 (Ext.refl x1.z') rfl⟩
theorem dt_cmp {a b : Expr} {fa fb : Ev → R D} {pos : Pos} {op : CmpOp} {r : R2} {g : D → D → R D} (ho : OpR X (compareOp op) r) (hg : Op2 X cl W (GE X.K) r g) (ha : DB X cl W a fa) (hb : DB X cl W b fb) (hm : behindInMarks op b = false) : DT X cl W (.Compare a [op] [b] pos) (eBl (e2 g fa fb)) :=
  PT.imp (pt_cmpR ho ha hb hm) fun σ H Q h => op2_use gokE hg (bl_use h)
theorem dt_eq {a b : Expr} {fa fb : Ev → R D} {pos : Pos} (hu : X.A.units + 64 < cLine) (ha : DB X cl W a fa) (hb : DB X cl W b fb) : DT X cl W (.Compare a [.Eq] [b] pos) (eBl (e2 dEq fa fb)) := dt_cmp (op_eqD hu) eq_ok ha hb (nomark _)
theorem dt_ne {a b : Expr} {fa fb : Ev → R D} {pos : Pos} (hu : X.A.units + 64 < cLine) (ha : DB X cl W a fa) (hb : DB X cl W b fb) : DT X cl W (.Compare a [.NotEq] [b] pos) (eBl (e2 dNe fa fb)) := dt_cmp (op_neD hu) ne_ok ha hb (nomark _)
theorem dt_lt {a b : Expr} {fa fb : Ev → R D} {pos : Pos} (hu : X.A.units + 64 < cLine) (ha : DB X cl W a fa) (hb : DB X cl W b fb) : DT X cl W (.Compare a [.Lt] [b] pos) (eBl (e2 dLt fa fb)) := dt_cmp (OpR.or op_lt (op_ltT (by omega))) lt_ok ha hb (nomark _)
theorem dt_le {a b : Expr} {fa fb : Ev → R D} {pos : Pos} (ha : DB X cl W a fa) (hb : DB X cl W b fb) : DT X cl W (.Compare a [.LtE] [b] pos) (eBl (e2 dLe fa fb)) := dt_cmp op_le le_ok ha hb (nomark _)
theorem dt_gt {a b : Expr} {fa fb : Ev → R D} {pos : Pos} (ha : DB X cl W a fa) (hb : DB X cl W b fb) : DT X cl W (.Compare a [.Gt] [b] pos) (eBl (e2 dGt fa fb)) := dt_cmp op_gt gt_ok ha hb (nomark _)
theorem dt_ge {a b : Expr} {fa fb : Ev → R D} {pos : Pos} (ha : DB X cl W a fa) (hb : DB X cl W b fb) : DT X cl W (.Compare a [.GtE] [b] pos) (eBl (e2 dGe fa fb)) := dt_cmp op_ge ge_ok ha hb (nomark _)
theorem dt_isN {a b : Expr} {fa fb : Ev → R D} {pos : Pos} (ha : DB X cl W a fa) (hb : DB X cl W b fb) : DT X cl W (.Compare a [.Is] [b] pos) (eBl (e2 dIsN fa fb)) := dt_cmp op_isN isN_ok ha hb (nomark _)
theorem dt_notN {a b : Expr} {fa fb : Ev → R D} {pos : Pos} (ha : DB X cl W a fa) (hb : DB X cl W b fb) : DT X cl W (.Compare a [.IsNot] [b] pos) (eBl (e2 dNotN fa fb)) := dt_cmp op_notN notN_ok ha hb (nomark _)
theorem dt_in {a b : Expr} {fa fb : Ev → R D} {pos : Pos} (hu : X.A.units + 65 < cLine) (ha : DB X cl W a fa) (hb : DB X cl W b fb) (hm : behindInMarks .In b = false) : DT X cl W (.Compare a [.In] [b] pos) (eBl (e2 dIn fa fb)) := dt_cmp (OpR.or (op_inD hu) (OpR.or (in_dct (by omega)) in_sgn)) in_ok ha hb hm
theorem dt_notIn {a b : Expr} {fa fb : Ev → R D} {pos : Pos} (hu : X.A.units + 65 < cLine) (ha : DB X cl W a fa) (hb : DB X cl W b fb) (hm : behindInMarks .NotIn b = false) : DT X cl W (.Compare a [.NotIn] [b] pos) (eBl (e2 dNotIn fa fb)) := dt_cmp (OpR.or (op_notInD hu) (OpR.or (notIn_dct (by omega)) notIn_sgn)) notIn_ok ha hb hm
theorem chain_use {fa fb fc : Ev → R D} {r r' : R2} {g g' : D → D → R D} (hg : Op2 X cl W (GE X.K) r g) (hg' : Op2 X cl W (GE X.K) r' g') {σ : L2.St} {H : Hp} {Q : VK} (h : tG X.K cl W (GE X.K) (eChain g g' fa fb fc) σ H Q) :
    tChain r r' (tG X.K cl W (GB X.K) fa) (tG X.K cl W (GB X.K) fb) (tG X.K cl W (GB X.K) fc) σ H Q := by
  obtain ⟨H0, Z0, Z, ρ, m, s⟩ := h
  refine ⟨H0, Z0, Z, ρ, m, s.bind gokE fun d v Z1 H1 x1 g1 s1 => ⟨H0, Z0, Z1, ρ, m.ext x1, s1.bind gokE fun d2 v2 Z2 H2 x2 g2 s2 => ?_⟩⟩
  refine hg σ Z2 H2 v v2 d d2 _ x2.z' (gokB.s _ _ _ _ _ _ _ g1 x2) g2 (s2.bind gokE fun d3 v3 Z3 H3 x3 g3 s3 => ?_)
  cases d3 <;> simp only [asB, R.stuck_bind] at s3 <;> try exact Sat.no s3
  rename_i k
  cases g3
  refine ⟨k, rfl, ?_⟩
  cases k with
  | true =>
    rw [if_pos rfl]
    exact ⟨H0, Z0, Z3, ρ, ((m.ext x1).ext x2).ext x3, Sat.bind gokE s3 fun d4 v4 Z4 H4 x4 g4 s4 => hg' σ Z4 H4 v2 v4 d2 d4 Q x4.z' (gokB.s _ _ _ _ _ _ _ (gokB.s _ _ _ _ _ _ _ g2 x3) x4) g4 s4⟩
  | false => rw [if_neg Bool.false_ne_true]; exact Sat.ok (G := GE X.K) s3 (Ext.refl x3.z') (.bl false)
theorem dt_chain {a b c : Expr} {fa fb fc : Ev → R D} {pos : Pos} {op op' : CmpOp} {r r' : R2} {g g' : D → D → R D} (ho : OpR X (compareOp op) r) (ho' : OpR X (compareOp op') r') (hg : Op2 X cl W (GE X.K) r g) (hg' : Op2 X cl W (GE X.K) r' g')
    (ha : DB X cl W a fa) (hb : DB X cl W b fb) (hc : DB X cl W c fc) (hl : lastMarks [op, op'] [b, c] = false := by rfl) : DT X cl W (.Compare a [op, op'] [b, c] pos) (eBl (eChain g g' fa fb fc)) :=
  PT.imp (pt_chain ho ho' ha hb hc hl) fun σ H Q h => chain_use hg hg' (bl_use h)
def cFn (n : Nat) (F : List D → R D) : List D → R D := fun ds => if ds.length = n then F ds else .stuck
theorem dc (gk : Gok G) {k n : Nat} {f : Addr} {fd : FuncData} {ps : List Str} {F : List D → R D} {x : Str} {p pos : Pos} {e : Expr} {es : List Expr} {fs : Ev → R (List D)} (Fn : FnOk X.prog X.w X.K X.mg X.base (L2.CX X.prog X.w) k f fd ps (FnS X.K cl G n F)) (hn : ps.length = n)
    (hr : Room k X.A) (hg : Gl X x) (hm : X.mg x = some (.ref f)) (hk : PySem.W.keepIn X.K (.ref f) = true) (hb : L2.Binds X.K fd ps []) (tk : Takes X W) (hs : DA X cl W (GE X.K) (e :: es) fs) (hlen : (e :: es).length = n)
    (hdb : (x == ("__debug__" : Str)) = false := by decide) (he : starEach (e :: es) X.env = (false, eval e X.env) :: starEach es X.env := by rfl) (hpl : (backTo pos (starEach es X.env)).any (·.1) = false := by rfl) :
    DX X cl W G (.Call (.Name x p) (e :: es) [] pos) (e1L (cFn n F) fs) := dx_call gk Fn hn hr hg hm hk hb tk hs hlen hdb he hpl
end
theorem hu64 {k : Nat} {A : Around} (r : Room k A) : A.units + 64 < cLine := r.units
theorem hu65 {k : Nat} {A : Around} (r : Room k A) : A.units + 65 < cLine := by have := r.un; omega
section
variable {P : Program} {w : World} {K : PySem.W.Frag} {mg : Str → Option Value} {base : Heap} {cl : Nat → Value}
/-- a def that is never called so far down -/
theorem fn_no {CX : CXT} {f : Addr} {fd : FuncData} {ps : List Str} {k n : Nat} {G : Hp → Hp → Hp → V → D → Prop} (hn : ps.length = n) : FnOk P w K mg base CX k f fd ps (FnS K cl G n fun _ => .stuck) :=
  ⟨fun vs H Q E ⟨Z, ds, hl, _⟩ => by rw [hl, hn], fun A outer s H args us vs Q E hr hb hv I ⟨Z, ds, hl, z, r, h⟩ => False.elim h⟩
end
theorem hu64s {k : Nat} {A : Around} {v : Option Value} (r : Room k A) : (A.mark v).units + 64 < cLine := show A.units + 64 < cLine from r.units
theorem hu65s {k : Nat} {A : Around} {v : Option Value} (r : Room k A) : (A.mark v).units + 65 < cLine := show A.units + 65 < cLine from hu65 r
def offR : R D → Out
  | .ok d => .rt d
  | _ => .stuck
theorem offO_sRet {io : Option Nat} {f : Ev → R D} {ρ : Ev} : offO io (sRet f ρ) = offR (f ρ) := by
  unfold sRet
  cases f ρ <;> rfl
def ofB : Option Bool → R D
  | some b => .ok (.bl b)
  | none => .stuck
@[simp] theorem eIsE_set {sb : Nat → Nat → Option Bool} {e c : Nat} {a : Addr} {i : Nat} {ρ : Ev} : eIsE sb e c a i (ρ.set i (.raw (.ref a))) = if i < ρ.length then ofB (sb e c) else .stuck := by
  unfold eIsE
  by_cases h : i < ρ.length
  · rw [List.getElem?_set_self h, if_pos h]
    simp
    cases sb e c <;> rfl
  · rw [List.getElem?_eq_none (by simpa using h), if_neg h]
end DL

/-! Plain lemmas about the programs over data: reckoning them out, shapes, equality. -/
namespace DL
open PySem PySem.Spec L2

/-! ### reckoning out -/
section
variable {ρ : Ev} {f g h : Ev → R D} {s t : Ev → Out}
@[simp] theorem eC_ap {d : D} : eC d ρ = .ok d := nrfl rfl
@[simp] theorem e1_ap {k : D → R D} : e1 k f ρ = (f ρ >>= k) := nrfl rfl
@[simp] theorem e2_ap {k : D → D → R D} : e2 k f g ρ = (f ρ >>= fun x => g ρ >>= fun y => k x y) := nrfl rfl
@[simp] theorem e1L_ap {k : List D → R D} {fs : Ev → R (List D)} : e1L k fs ρ = (fs ρ >>= k) := nrfl rfl
@[simp] theorem eNil_ap : eNil ρ = .ok [] := nrfl rfl
@[simp] theorem eCons_ap {fs : Ev → R (List D)} : eCons f fs ρ = (f ρ >>= fun x => fs ρ >>= fun xs => .ok (x :: xs)) := nrfl rfl
@[simp] theorem on1_ap {k : D → R D} {d : D} : on1 k [d] = k d := nrfl rfl
@[simp] theorem on2_ap {k : D → D → R D} {d e : D} : on2 k [d, e] = k d e := nrfl rfl
@[simp] theorem cFn_ap {n : Nat} {F : List D → R D} {ds : List D} (hl : ds.length = n) : cFn n F ds = F ds := if_pos hl
@[simp] theorem eVar_ap {i : Nat} {d : D} (h : ρ[i]? = some (Sl.im d)) : eVar i ρ = .ok d := by simp [eVar, h]
theorem eVarB_im {i : Nat} {d : D} (h : ρ[i]? = some (Sl.im d)) : eVarB i ρ = .ok d := by simp [eVarB, h]
theorem eVarB_ow {i : Nat} {d : D} (h : ρ[i]? = some (Sl.ow d)) : eVarB i ρ = .ok d := by simp [eVarB, h]
/-- the datum in a slot -/
def slD : Sl → Option D
  | .im d => some d
  | .ow d => some d
  | _ => none
@[simp] theorem slD_im {d : D} : slD (.im d) = some d := nrfl rfl
@[simp] theorem slD_ow {d : D} : slD (.ow d) = some d := nrfl rfl
@[simp] theorem eVarB_ap {i : Nat} {d : D} (h : (ρ[i]?).bind slD = some d) : eVarB i ρ = .ok d := by
  cases hr : ρ[i]? with
  | none => rw [hr] at h; cases h
  | some x =>
    rw [hr] at h
    cases x <;> simp [slD] at h <;> subst h
    · exact eVarB_im hr
    · exact eVarB_ow hr
@[simp] theorem eAnd_ap : eAnd f g ρ = (f ρ >>= fun x => asB x >>= fun b => if b = true then g ρ else .ok (.bl false)) := nrfl rfl
@[simp] theorem eOr_ap : eOr f g ρ = (f ρ >>= fun x => asB x >>= fun b => if b = true then .ok (.bl true) else g ρ) := nrfl rfl
@[simp] theorem asB_bl {b : Bool} : asB (.bl b) = .ok b := nrfl rfl
@[simp] theorem eBl_ap : eBl f ρ = (f ρ >>= asB) := nrfl rfl
@[simp] theorem eTru_ap : eTru f ρ = (f ρ >>= truD) := nrfl rfl
@[simp] theorem truD_bl {b : Bool} : truD (.bl b) = .ok b := nrfl rfl
@[simp] theorem truD_int {i : Int} : truD (.int i) = .ok (i != 0) := nrfl rfl
@[simp] theorem truD_lst {l : List D} : truD (.lst l) = .ok (!l.isEmpty) := nrfl rfl
@[simp] theorem truD_tup {l : List D} : truD (.tup l) = .ok (!l.isEmpty) := nrfl rfl
@[simp] theorem truD_non : truD .non = .ok false := nrfl rfl
@[simp] theorem tNot_ap {c : Ev → R Bool} : tNot c ρ = (c ρ >>= fun b => .ok (!b)) := nrfl rfl
@[simp] theorem tAnd_ap {c d : Ev → R Bool} : tAnd c d ρ = (c ρ >>= fun b => if b = true then d ρ else .ok false) := nrfl rfl
@[simp] theorem tOr_ap {c d : Ev → R Bool} : tOr c d ρ = (c ρ >>= fun b => if b = true then .ok true else d ρ) := nrfl rfl
@[simp] theorem tTrue_ap : tTrue ρ = .ok true := nrfl rfl
@[simp] theorem eIf_ap {c : Ev → R Bool} : eIf c f g ρ = (c ρ >>= fun b => if b = true then f ρ else g ρ) := nrfl rfl
@[simp] theorem eChain_ap {k k' : D → D → R D} : eChain k k' f g h ρ = (f ρ >>= fun x => g ρ >>= fun y => k x y >>= fun z => asB z >>= fun b => if b = true then h ρ >>= fun w => k' y w else .ok (.bl false)) := nrfl rfl
@[simp] theorem eSl_ap {a b : Ev → R (Option Int)} : eSl f a b ρ = (f ρ >>= fun d => a ρ >>= fun lo => b ρ >>= fun hi => dSl d lo hi) := nrfl rfl
@[simp] theorem eSlL_ap {a b : Ev → R (Option Int)} : eSlL f a b ρ = (f ρ >>= fun d => a ρ >>= fun lo => b ρ >>= fun hi => dSlL d lo hi) := nrfl rfl
@[simp] theorem oNone_ap : oNone ρ = .ok none := nrfl rfl
theorem oSome_int {i : Int} (h : f ρ = .ok (.int i)) : oSome f ρ = .ok (some i) := by simp [oSome, h]
@[simp] theorem oSome_ap {i : Int} (h : f ρ = .ok (.int i)) : oSome f ρ = .ok (some i) := oSome_int h
@[simp] theorem eItems_ap : eItems f ρ = (f ρ >>= dItems) := nrfl rfl
@[simp] theorem dItems_lst {l : List D} : dItems (.lst l) = .ok l := nrfl rfl
@[simp] theorem dItems_tup {l : List D} : dItems (.tup l) = .ok l := nrfl rfl
@[simp] theorem dItems_tux {l : List D} : dItems (.tux l) = .ok l := nrfl rfl
@[simp] theorem eEnum_ap : eEnum f ρ = (f ρ >>= dEnum) := nrfl rfl
@[simp] theorem eRg1_ap : eRg1 f ρ = (f ρ >>= dRg (.int 0)) := nrfl rfl
@[simp] theorem eRg2_ap : eRg2 f g ρ = (f ρ >>= fun x => g ρ >>= fun y => dRg x y) := nrfl rfl
theorem dRg_ap {a b : Int} (h : rgB a b) : dRg (.int a) (.int b) = .ok (rgD a b) := if_pos h
@[simp] theorem thenS_ok {α : Type} {d : α} {k : α → Out} : thenS (.ok d) ρ k = k d := nrfl rfl
@[simp] theorem thenS_ex {α : Type} {c : Nat} {k : α → Out} : thenS (.ex c) ρ k = .ex c ρ := nrfl rfl
@[simp] theorem sSeq_ap : sSeq s t ρ = (match s ρ with
  | .nx ρ' => t ρ'
  | o => o) := nrfl rfl
@[simp] theorem sNil_ap : sNil ρ = .nx ρ := nrfl rfl
@[simp] theorem sRet_ap : sRet f ρ = thenS (f ρ) ρ .rt := nrfl rfl
@[simp] theorem sExpr_ap : sExpr f ρ = thenS (f ρ) ρ fun _ => .nx ρ := nrfl rfl
@[simp] theorem sIf_ap {c : Ev → R Bool} : sIf c s t ρ = thenS (c ρ) ρ fun b => if b = true then s ρ else t ρ := nrfl rfl
@[simp] theorem sAsg_nm {i : Nat} : sAsg f (.nm i) ρ = thenS (f ρ) ρ fun d => .nx (ρ.set i (.im d)) := nrfl rfl
theorem sAsg_ap {p : Pat} : sAsg f p ρ = thenS (f ρ) ρ fun d => match setP p d ρ with
  | some ρ' => .nx ρ'
  | none => .stuck := nrfl rfl
@[simp] theorem sOwn_ap {i : Nat} : sOwn f i ρ = thenS (f ρ) ρ fun d => .nx (ρ.set i (.ow d)) := nrfl rfl
@[simp] theorem sFor_ap {fi : Ev → R (List D)} {p : Pat} {b : Ev → Out} : sFor fi p b ρ = thenS (fi ρ) ρ fun items => forD p b items ρ := nrfl rfl
@[simp] theorem setP_nm {i : Nat} {d : D} : setP (.nm i) d ρ = some (ρ.set i (.im d)) := nrfl rfl
@[simp] theorem setP_tup {l : List Pat} {ds : List D} : setP (.tup l) (.tup ds) ρ = setPs l ds ρ := nrfl rfl
@[simp] theorem setPs_nil : setPs [] [] ρ = some ρ := nrfl rfl
@[simp] theorem setPs_cons {p : Pat} {l : List Pat} {d : D} {ds : List D} : setPs (p :: l) (d :: ds) ρ = (setP p d ρ).bind (setPs l ds) := nrfl rfl
@[simp] theorem sFrz_ow {i : Nat} {d : D} (h : ρ[i]? = some (.ow d)) : sFrz i s ρ = s (ρ.set i (.im d)) := by simp [sFrz, h]
@[simp] theorem sFrz_im {i : Nat} {d : D} (h : ρ[i]? = some (.im d)) : sFrz i s ρ = s ρ := by simp [sFrz, h]
@[simp] theorem sApp_ap {i : Nat} {l : List D} (h : ρ[i]? = some (.ow (.lst l))) : sApp i f ρ = thenS (f ρ) ρ fun d => if l.length < 16777216 then .nx (ρ.set i (.ow (.lst (l ++ [d])))) else .stuck := by simp [sApp, h]
@[simp] theorem sAug_ap {k : D → D → R D} {i : Nat} {d : D} (h : ρ[i]? = some (.im d)) : sAug k i f ρ = thenS (f ρ) ρ fun e => thenS (k d e) ρ fun z => .nx (ρ.set i (.im z)) := by simp [sAug, h, thenS]
@[simp] theorem forD_nil {p : Pat} {b : Ev → Out} : forD p b [] ρ = .nx ρ := nrfl rfl
theorem forD_cons {p : Pat} {b : Ev → Out} {x : D} {xs : List D} : forD p b (x :: xs) ρ = (match setP p x ρ with
    | none => .stuck
    | some ρ1 => match b ρ1 with
      | .nx ρ2 => forD p b xs ρ2
      | .ct ρ2 => forD p b xs ρ2
      | .bk ρ2 => .nx ρ2
      | .rt d => .rt d
      | .ex c ρ2 => .ex c ρ2
      | .stuck => .stuck) := nrfl rfl
end
section
variable {i j : Int} {l m : List D}
@[simp] theorem dAdd_ii : dAdd (.int i) (.int j) = .ok (.int (i + j)) := nrfl rfl
theorem dAdd_ll (h : l.length + m.length ≤ 16777216) : dAdd (.lst l) (.lst m) = .ok (.lst (l ++ m)) := if_pos h
@[simp] theorem dSub_ii : dSub (.int i) (.int j) = .ok (.int (i - j)) := nrfl rfl
theorem dMul_l (h1 : -(2 ^ 64) < i) (h2 : i < 2 ^ 64) : dMul (.int i) (.int j) = .ok (.int (i * j)) := if_pos (.inl ⟨h1, h2⟩)
theorem dMul_r (h1 : -(2 ^ 64) < j) (h2 : j < 2 ^ 64) : dMul (.int i) (.int j) = .ok (.int (i * j)) := if_pos (.inr ⟨h1, h2⟩)
theorem dDiv_ii (h1 : 0 < j) (h2 : j < 1073741824) : dDiv (.int i) (.int j) = .ok (.int (i / j)) := if_pos ⟨h1, h2⟩
theorem dMod_ii (h1 : 0 < j) : dMod (.int i) (.int j) = .ok (.int (i % j)) := if_pos h1
@[simp] theorem dNeg_i : dNeg (.int i) = .ok (.int (-i)) := nrfl rfl
@[simp] theorem dNot_b {b : Bool} : dNot (.bl b) = .ok (.bl (!b)) := nrfl rfl
@[simp] theorem dLt_ii : dLt (.int i) (.int j) = .ok (.bl (decide (i < j))) := nrfl rfl
@[simp] theorem dLe_ii : dLe (.int i) (.int j) = .ok (.bl (decide (i ≤ j))) := nrfl rfl
@[simp] theorem dGt_ii : dGt (.int i) (.int j) = .ok (.bl (decide (j < i))) := nrfl rfl
@[simp] theorem dGe_ii : dGe (.int i) (.int j) = .ok (.bl (decide (j ≤ i))) := nrfl rfl
@[simp] theorem dLen_l : dLen (.lst l) = .ok (.int l.length) := nrfl rfl
@[simp] theorem dLen_t : dLen (.tup l) = .ok (.int l.length) := nrfl rfl
@[simp] theorem dLen_x : dLen (.tux l) = .ok (.int l.length) := nrfl rfl
@[simp] theorem dLen_s {s : List Int} : dLen (.scr s) = .ok (.int s.length) := nrfl rfl
@[simp] theorem dLen_K {s : List (Key × D)} : dLen (.dK s) = .ok (.int s.length) := nrfl rfl
@[simp] theorem dLen_T {s : List (List Key × D)} : dLen (.dT s) = .ok (.int s.length) := nrfl rfl
@[simp] theorem dInt_i : dInt (.int i) = .ok (.int i) := nrfl rfl
@[simp] theorem dInt_b {b : Bool} : dInt (.bl b) = .ok (.int (if b = true then 1 else 0)) := nrfl rfl
@[simp] theorem dAbs_i : dAbs (.int i) = .ok (.int (if i < 0 then -i else i)) := nrfl rfl
@[simp] theorem dTup_s (h : l.length ≤ 16777216) : dTup l = .ok (.tup l) := if_pos h
@[simp] theorem dLst_s (h : l.length ≤ 16777216) : dLst l = .ok (.lst l) := if_pos h
@[simp] theorem dList_l : dList (.lst l) = .ok (.lst l) := nrfl rfl
@[simp] theorem dTuple_l : dTuple (.lst l) = .ok (.tup l) := nrfl rfl
@[simp] theorem dTupX_l : dTupX (.lst l) = .ok (.tux l) := nrfl rfl
/-! subscripts -/
theorem atI_ofNat {α : Type} {l : List α} {n : Nat} (h : n < l.length) : atI l (n : Int) = l[n]? := by
  unfold atI ixN
  rw [if_pos (Int.natCast_nonneg n), if_pos (by omega)]
  simp
theorem atI_nn {α : Type} {l : List α} {i : Int} (h0 : 0 ≤ i) (h1 : i < l.length) : atI l i = l[i.toNat]? := by
  unfold atI ixN
  rw [if_pos h0, if_pos h1]
  rfl
theorem atI_get {α : Type} {l : List α} {i : Int} (h0 : 0 ≤ i) (h1 : i < l.length) : atI l i = some (l[i.toNat]'(by omega)) := by
  rw [atI_nn h0 h1, List.getElem?_eq_getElem]
@[simp] theorem dIx_l {d : D} (h : atI l i = some d) : dIx (.lst l) (.int i) = .ok d := by simp [dIx, dIxS, h]
@[simp] theorem dIx_t {d : D} (h : atI l i = some d) : dIx (.tup l) (.int i) = .ok d := by simp [dIx, dIxS, h]
@[simp] theorem dIx_x {d : D} (h : atI l i = some d) : dIx (.tux l) (.int i) = .ok d := by simp [dIx, dIxS, h]
@[simp] theorem dIx_s {s : List Int} {d : Int} (h : atI s i = some d) : dIx (.scr s) (.int i) = .ok (.int d) := by simp [dIx, dIxS, h]
theorem dIx_K {s : List (Key × D)} {k : D} {kk : Key} {d : D} (hk : key1? k = some kk) (h : lookD s kk = some d) : dIx (.dK s) k = .ok d := by simp [dIx, dictLook, hk, h]
end

/-! ### shapes -/
def Sh (n : Nat) (d : D) : Prop := PyData.canLay0 (py d) = true ∧ PyData.depth (py d) ≤ n
theorem Sh.okd {n : Nat} {d : D} (h : Sh n d) (hn : n ≤ 64 := by decide) : okd d = true := by
  unfold DL.okd SeqAt.shaped
  rw [h.1]
  simp only [Bool.true_and, decide_eq_true_eq]
  exact Nat.le_trans h.2 hn
theorem Sh.mono {n m : Nat} {d : D} (h : Sh n d) (hn : n ≤ m) : Sh m d := ⟨h.1, Nat.le_trans h.2 hn⟩
theorem sh_int {n : Nat} {i : Int} : Sh n (.int i) := ⟨by simp [py, PyData.canLay0], by simp [py, PyData.depth]⟩
theorem sh_bl {n : Nat} {i : Bool} : Sh n (.bl i) := ⟨by simp [py, PyData.canLay0], by simp [py, PyData.depth]⟩
theorem sh_non {n : Nat} : Sh n .non := ⟨by simp [py, PyData.canLay0], by simp [py, PyData.depth]⟩
theorem sh_str {n : Nat} {s : Str} (h : PySem.PyData.strOk s = true) : Sh n (.str s) := ⟨by simpa [py, PyData.canLay0] using h, by simp [py, PyData.depth]⟩
theorem pys_eq : ∀ l : List D, py.pys l = l.map py
  | [] => rfl
  | d :: l => by rw [py.pys, pys_eq l]; rfl
theorem shL {n : Nat} : ∀ {l : List D}, (∀ d ∈ l, Sh n d) → PyData.canLayAll0 (py.pys l) = true ∧ PyData.depthAll (py.pys l) ≤ n
  | [], _ => ⟨by simp [py.pys, PyData.canLayAll0], by simp [py.pys, PyData.depthAll]⟩
  | d :: l, h => by
    have a := h d (by simp)
    have b := shL (l := l) fun e he => h e (by simp [he])
    exact ⟨by simp [py.pys, PyData.canLayAll0, a.1, b.1], by simp only [py.pys, PyData.depthAll]; exact Nat.max_le.mpr ⟨a.2, b.2⟩⟩
theorem sh_lst {n : Nat} {l : List D} (h : ∀ d ∈ l, Sh n d) : Sh (n + 1) (.lst l) := ⟨by simpa [py, PyData.canLay0] using (shL h).1, by simpa [py, PyData.depth] using (shL h).2⟩
theorem sh_tup {n : Nat} {l : List D} (h : ∀ d ∈ l, Sh n d) : Sh (n + 1) (.tup l) := ⟨by simpa [py, PyData.canLay0] using (shL h).1, by simpa [py, PyData.depth] using (shL h).2⟩
theorem sh_tux {n : Nat} {l : List D} (h : ∀ d ∈ l, Sh n d) : Sh (n + 1) (.tux l) := ⟨by simpa [py, PyData.canLay0] using (shL h).1, by simpa [py, PyData.depth] using (shL h).2⟩

/-! ### equality -/
mutual
theorem eqv_self : ∀ d : PyData, d.canLay0 = true → PyData.eqv d d = true
  | .none, _ => by simp [PyData.eqv]
  | .bool b, _ => by simp [PyData.eqv]
  | .int i, _ => by simp [PyData.eqv]
  | .str s, _ => by simp [PyData.eqv]
  | .list xs, h => by simp only [PyData.eqv]; exact eqvAll_self xs (by simpa [PyData.canLay0] using h)
  | .tuple xs, h => by simp only [PyData.eqv]; exact eqvAll_self xs (by simpa [PyData.canLay0] using h)
  | .dict _, h => by simp [PyData.canLay0] at h
theorem eqvAll_self : ∀ l : List PyData, PyData.canLayAll0 l = true → PyData.eqvAll l l = true
  | [], _ => by simp [PyData.eqvAll]
  | d :: l, h => by
    simp only [PyData.canLayAll0, Bool.and_eq_true] at h
    simp [PyData.eqvAll, eqv_self d h.1, eqvAll_self l h.2]
end
theorem Sh.eqv {n : Nat} {d : D} (h : Sh n d) : D.eqv d d = true := eqv_self _ h.1
@[simp] theorem eqv_ii {i j : Int} : D.eqv (.int i) (.int j) = (i == j) := by simp [D.eqv, py, PyData.eqv]
@[simp] theorem eqv_ss {i j : Str} : D.eqv (.str i) (.str j) = (i == j) := by simp [D.eqv, py, PyData.eqv]
@[simp] theorem eqv_bb {i j : Bool} : D.eqv (.bl i) (.bl j) = (i == j) := by simp [D.eqv, py, PyData.eqv]
@[simp] theorem eqv_nn : D.eqv .non .non = true := by simp [D.eqv, py, PyData.eqv]
/-- the same, item by item -/
def eqvL : List D → List D → Bool
  | [], [] => true
  | d :: l, e :: m => D.eqv d e && eqvL l m
  | _, _ => false
theorem eqvL_eq : ∀ l m : List D, PyData.eqvAll (py.pys l) (py.pys m) = eqvL l m
  | [], [] => by simp [py.pys, PyData.eqvAll, eqvL]
  | [], e :: m => by simp [py.pys, PyData.eqvAll, eqvL]
  | d :: l, [] => by simp [py.pys, PyData.eqvAll, eqvL]
  | d :: l, e :: m => by simp [py.pys, PyData.eqvAll, eqvL, eqvL_eq l m, D.eqv]
@[simp] theorem eqv_tt {l m : List D} : D.eqv (.tup l) (.tup m) = eqvL l m := by simp [D.eqv, py, PyData.eqv, eqvL_eq]
@[simp] theorem eqv_ll {l m : List D} : D.eqv (.lst l) (.lst m) = eqvL l m := by simp [D.eqv, py, PyData.eqv, eqvL_eq]
@[simp] theorem eqv_xt {l m : List D} : D.eqv (.tux l) (.tup m) = eqvL l m := by simp [D.eqv, py, PyData.eqv, eqvL_eq]
@[simp] theorem eqv_tx {l m : List D} : D.eqv (.tup l) (.tux m) = eqvL l m := by simp [D.eqv, py, PyData.eqv, eqvL_eq]
@[simp] theorem eqv_xx {l m : List D} : D.eqv (.tux l) (.tux m) = eqvL l m := by simp [D.eqv, py, PyData.eqv, eqvL_eq]
@[simp] theorem eqvL_nil : eqvL [] [] = true := nrfl rfl
@[simp] theorem eqvL_cons {d e : D} {l m : List D} : eqvL (d :: l) (e :: m) = (D.eqv d e && eqvL l m) := nrfl rfl
theorem dEq_ap {n m : Nat} {a b : D} (ha : Sh n a) (hb : Sh m b) (hn : n ≤ 64 := by decide) (hm : m ≤ 64 := by decide) : dEq a b = .ok (.bl (D.eqv a b)) := if_pos ⟨ha.okd hn, hb.okd hm⟩
theorem dNe_ap {n m : Nat} {a b : D} (ha : Sh n a) (hb : Sh m b) (hn : n ≤ 64 := by decide) (hm : m ≤ 64 := by decide) : dNe a b = .ok (.bl (!D.eqv a b)) := if_pos ⟨ha.okd hn, hb.okd hm⟩
@[simp] theorem dEq_ii {i j : Int} : dEq (.int i) (.int j) = .ok (.bl (i == j)) := by rw [dEq_ap (n := 0) (m := 0) sh_int sh_int]; simp
@[simp] theorem dNe_ii {i j : Int} : dNe (.int i) (.int j) = .ok (.bl (!(i == j))) := by rw [dNe_ap (n := 0) (m := 0) sh_int sh_int]; simp
theorem dIn_l {n m : Nat} {x : D} {l : List D} (hx : Sh n x) (hl : ∀ d ∈ l, Sh m d) (hn : n ≤ 64 := by decide) (hm : m + 1 ≤ 64 := by decide) : dIn x (.lst l) = .ok (.bl (l.any fun z => D.eqv z x)) := by
  simp [dIn, inD, hx.okd hn, (sh_lst hl).okd hm]
theorem dNotIn_l {n m : Nat} {x : D} {l : List D} (hx : Sh n x) (hl : ∀ d ∈ l, Sh m d) (hn : n ≤ 64 := by decide) (hm : m + 1 ≤ 64 := by decide) : dNotIn x (.lst l) = .ok (.bl (!l.any fun z => D.eqv z x)) := by
  simp [dNotIn, inD, hx.okd hn, (sh_lst hl).okd hm]
/-! ### lists of whole numbers -/
def iD (l : List Int) : List D := l.map D.int
@[simp] theorem iD_len (l : List Int) : (iD l).length = l.length := List.length_map ..
@[simp] theorem iD_nil : iD [] = [] := nrfl rfl
@[simp] theorem iD_cons (x : Int) (l : List Int) : iD (x :: l) = .int x :: iD l := nrfl rfl
@[simp] theorem iD_append (l m : List Int) : iD (l ++ m) = iD l ++ iD m := List.map_append
@[simp] theorem iD_erase (l : List Int) (v : Nat) : (iD l).eraseIdx v = iD (l.eraseIdx v) := by
  induction l generalizing v with
  | nil => rfl
  | cons a l ih => cases v with
    | zero => rfl
    | succ v => simp [ih]
@[simp] theorem iD_get (l : List Int) (v : Nat) (h : v < (iD l).length) : (iD l)[v] = .int (l[v]'(by rw [← iD_len]; exact h)) := List.getElem_map ..
@[simp] theorem iD_get? (l : List Int) (v : Nat) : (iD l)[v]? = l[v]?.map D.int := List.getElem?_map ..
@[simp] theorem iD_take (l : List Int) (v : Nat) : (iD l).take v = iD (l.take v) := (List.map_take ..).symm
@[simp] theorem iD_drop (l : List Int) (v : Nat) : (iD l).drop v = iD (l.drop v) := (List.map_drop ..).symm
@[simp] theorem iD_rev (l : List Int) : (iD l).reverse = iD l.reverse := (List.map_reverse ..).symm
theorem iD_empty (l : List Int) : (iD l).isEmpty = l.isEmpty := by cases l <;> simp
theorem dRgL_ap {a b : Int} (h : rgB a b) : dRgL (.int a) (.int b) = .ok (.lst (rgD a b)) := if_pos h
theorem dRgT_ap {a b : Int} (h : rgB a b) : dRgT (.int a) (.int b) = .ok (.tup (rgD a b)) := if_pos h
theorem iD_at {l : List Int} {i : Int} {x : Int} (h : atI l i = some x) : atI (iD l) i = some (.int x) := by
  unfold atI at h ⊢
  rw [iD_len]
  cases hx : ixN l.length i with
  | none => rw [hx] at h; cases h
  | some j =>
    rw [hx] at h
    simp only [Option.bind_some] at h ⊢
    rw [iD_get?, h]; rfl
theorem sh_iD {n : Nat} {l : List Int} : ∀ d ∈ iD l, Sh n d := fun d hd => by
  obtain ⟨i, _, rfl⟩ := List.mem_map.mp hd
  exact sh_int
theorem rgD_eq (a b : Int) : rgD a b = iD (rgI a b) := nrfl rfl
theorem ints?_iD (l : List Int) : ints? (iD l) = some l := by
  induction l with
  | nil => rfl
  | cons a l ih => simp only [iD_cons, ints?]; rw [ih]; rfl
/-- a comprehension whose items all come out -/
theorem compL_map {p : Pat} {c : Ev → R Bool} {fe : Ev → R D} {ρ : Ev} {g : D → D} : ∀ {l : List D}, (∀ x ∈ l, ∃ ρ1, setP p x ρ = some ρ1 ∧ c ρ1 = .ok true ∧ fe ρ1 = .ok (g x)) → compL p c fe ρ l = .ok (l.map g)
  | [], _ => rfl
  | x :: l, h => by
    obtain ⟨ρ1, h1, h2, h3⟩ := h x (by simp)
    have ih := compL_map (l := l) fun y hy => h y (by simp [hy])
    simp only [compL, h1, h2, h3, ih, List.map_cons]
/-- a comprehension with a test -/
theorem compL_filter {p : Pat} {c : Ev → R Bool} {fe : Ev → R D} {ρ : Ev} {g : D → D} {q : D → Bool} : ∀ {l : List D}, (∀ x ∈ l, ∃ ρ1, setP p x ρ = some ρ1 ∧ c ρ1 = .ok (q x) ∧ (q x = true → fe ρ1 = .ok (g x))) → compL p c fe ρ l = .ok ((l.filter q).map g)
  | [], _ => rfl
  | x :: l, h => by
    obtain ⟨ρ1, h1, h2, h3⟩ := h x (by simp)
    have ih := compL_filter (l := l) fun y hy => h y (by simp [hy])
    cases hq : q x with
    | true =>
      have h3 := h3 hq
      rw [hq] at h2
      simp only [compL, h1, h2, h3, ih, List.filter_cons, hq, if_true, List.map_cons]
    | false =>
      rw [hq] at h2
      simp only [compL, h1, h2, ih, List.filter_cons, hq, Bool.false_eq_true, if_false]

theorem seqIndex_nat {v n : Nat} (h : v < n) : seqIndex? (v : Int) n = some v := by
  unfold seqIndex?
  simp
  omega
theorem popAt_nat {m : List D} {v : Nat} (h : v < m.length) (hm : m.length ≤ 16777216) : popAt m (.int (v : Int)) = some (m[v], m.eraseIdx v) := by
  simp only [popAt]
  rw [if_pos (by omega), seqIndex_nat h]
  simp [List.getElem?_eq_getElem h]
theorem sAppPop_ap {i j : Nat} {f : Ev → R D} {ρ : Ev} {l m : List D} {v : Nat} (hij : i ≠ j) (hi : ρ[i]? = some (.ow (.lst l))) (hj : ρ[j]? = some (.ow (.lst m))) (hf : f ρ = .ok (.int (v : Int))) (hv : v < m.length) (hm : m.length ≤ 16777216) (hl : l.length < 16777216) :
    sAppPop i j f ρ = .nx ((ρ.set j (.ow (.lst (m.eraseIdx v)))).set i (.ow (.lst (l ++ [m[v]])))) := by
  unfold sAppPop
  rw [if_neg hij, hi, hj]
  simp [hf, popAt_nat hv hm, hl]
/-- all of 0, .. n - 1, each once, in some order -/
structure IsP (n : Nat) (l : List Int) : Prop where
  len : l.length = n
  rng : ∀ x ∈ l, 0 ≤ x ∧ x < n
  nd : l.Nodup
  all : ∀ y : Int, 0 ≤ y → y < n → y ∈ l
theorem mem_rgI {a b x : Int} : x ∈ rgI a b ↔ a ≤ x ∧ x < b := by
  unfold rgI
  simp only [List.mem_map, List.mem_range]
  constructor
  · rintro ⟨i, hi, rfl⟩; omega
  · intro h; exact ⟨(x - a).toNat, by omega, by omega⟩
theorem nd_rgI {a b : Int} : (rgI a b).Nodup := by
  unfold rgI
  refine List.Pairwise.map _ (fun x y h => ?_) (List.nodup_range (n := (b - a).toNat))
  omega
theorem rgI_len0 (n : Nat) : (rgI 0 (n : Int)).length = n := by simp [rgI]
theorem IsP.of_perm {n : Nat} {l : List Int} (h : l.Perm (rgI 0 n)) : IsP n l :=
  ⟨by rw [h.length_eq, rgI_len0], fun x hx => by have := mem_rgI.mp (h.mem_iff.mp hx); exact this, h.nodup_iff.mpr nd_rgI, fun y h0 h1 => h.mem_iff.mpr (mem_rgI.mpr ⟨h0, h1⟩)⟩
theorem IsP.rot {n : Nat} (hn : 0 < n) (c : Int) : IsP n ((rgI 0 n).map fun s => (s + c) % n) := by
  refine ⟨by rw [List.length_map, rgI_len0], fun x hx => ?_, ?_, fun y h0 h1 => ?_⟩
  · obtain ⟨s, hs, rfl⟩ := List.mem_map.mp hx
    exact ⟨Int.emod_nonneg _ (by omega), Int.emod_lt_of_pos _ (by omega)⟩
  · have h := nd_rgI (a := 0) (b := n)
    rw [List.Nodup, List.pairwise_map]
    refine List.Pairwise.imp_of_mem ?_ h
    intro a b ha hb hab e
    have ha := mem_rgI.mp ha
    have hb := mem_rgI.mp hb
    have e2 : (a - b) % (n : Int) = 0 := by
      have e3 : (a + c - (b + c)) % (n : Int) = 0 := Int.emod_eq_emod_iff_emod_sub_eq_zero.mp e
      rw [show a + c - (b + c) = a - b by omega] at e3
      exact e3
    obtain ⟨q, hq⟩ := Int.dvd_of_emod_eq_zero e2
    rcases Int.lt_trichotomy q 0 with h | h | h
    · have : (n : Int) * q ≤ n * (-1) := Int.mul_le_mul_of_nonneg_left (by omega) (by omega)
      omega
    · subst h; simp at hq; omega
    · have : (n : Int) * 1 ≤ n * q := Int.mul_le_mul_of_nonneg_left (by omega) (by omega)
      omega
  · refine List.mem_map.mpr ⟨(y - c) % n, mem_rgI.mpr ⟨Int.emod_nonneg _ (by omega), Int.emod_lt_of_pos _ (by omega)⟩, ?_⟩
    rw [Int.emod_add_emod, Int.sub_add_cancel]
    exact Int.emod_eq_of_lt h0 h1
theorem eraseIdx_perm {α : Type} : ∀ {l : List α} {v : Nat} (h : v < l.length), (l[v] :: l.eraseIdx v).Perm l
  | a :: l, 0, h => by simp
  | a :: l, v + 1, h => by
    have ih := eraseIdx_perm (l := l) (v := v) (by simpa using h)
    simp only [List.getElem_cons_succ, List.eraseIdx_cons_succ]
    exact (List.Perm.swap _ _ _).trans (ih.cons _)
/-- small whole numbers -/
def nD (l : List Nat) : List D := l.map fun k : Nat => D.int (k : Int)
@[simp] theorem nD_len (l : List Nat) : (nD l).length = l.length := List.length_map ..
@[simp] theorem nD_nil : nD [] = [] := nrfl rfl
@[simp] theorem nD_cons (x : Nat) (l : List Nat) : nD (x :: l) = .int x :: nD l := nrfl rfl
theorem rgD_nat (n : Nat) : rgD 0 (n : Int) = nD (List.range n) := by
  unfold rgD rgI nD
  simp
theorem rgI_nat (n : Nat) : rgI 0 (n : Int) = (List.range n).map fun k : Nat => (k : Int) := by
  unfold rgI
  simp
theorem forD_step {p : Pat} {b : Ev → Out} {x : D} {xs : List D} {ρ ρ1 ρ2 : Ev} {o : Out} (h1 : setP p x ρ = some ρ1) (h2 : b ρ1 = .nx ρ2) (h3 : forD p b xs ρ2 = o) : forD p b (x :: xs) ρ = o := by
  rw [forD_cons, h1]
  simp only [h2, h3]
theorem forD_rt {p : Pat} {b : Ev → Out} {x : D} {xs : List D} {ρ ρ1 : Ev} {d : D} (h1 : setP p x ρ = some ρ1) (h2 : b ρ1 = .rt d) : forD p b (x :: xs) ρ = .rt d := by
  rw [forD_cons, h1]
  simp only [h2]
theorem forD_ex {p : Pat} {b : Ev → Out} {x : D} {xs : List D} {ρ ρ1 ρ2 : Ev} {c : Nat} (h1 : setP p x ρ = some ρ1) (h2 : b ρ1 = .ex c ρ2) : forD p b (x :: xs) ρ = .ex c ρ2 := by
  rw [forD_cons, h1]
  simp only [h2]
theorem sSeq_nx {s t : Ev → Out} {ρ ρ1 : Ev} (h : s ρ = .nx ρ1) : sSeq s t ρ = t ρ1 := by rw [sSeq_ap, h]
theorem sSeq_rt {s t : Ev → Out} {ρ : Ev} {d : D} (h : s ρ = .rt d) : sSeq s t ρ = .rt d := by rw [sSeq_ap, h]
theorem sSeq_ex {s t : Ev → Out} {ρ ρ1 : Ev} {c : Nat} (h : s ρ = .ex c ρ1) : sSeq s t ρ = .ex c ρ1 := by rw [sSeq_ap, h]
theorem sFor_ok {fi : Ev → R (List D)} {p : Pat} {b : Ev → Out} {ρ : Ev} {l : List D} (h : fi ρ = .ok l) : sFor fi p b ρ = forD p b l ρ := by rw [sFor_ap, h, thenS_ok]
end DL

/-! the defs of k53, printed by gen.py -/
namespace K53
open PySem PySem.Spec PyProof.Rows L2 DL
noncomputable section
def topS (i : Nat) : Stmt := PySem.Challenge.pw_piecesturned_k53_moves_checked_and_views.main.body.getD i (.Pass ⟨0, 0, 0, 0⟩)
abbrev s__law_numbers : Stmt := topS 24
abbrev s__law_cell : Stmt := topS 23
abbrev s__law_draws : Stmt := topS 25
abbrev s__law_shift : Stmt := topS 27
abbrev s__law_puzzle : Stmt := topS 31
abbrev s__law_all_moves : Stmt := topS 32
abbrev s__law_none : Stmt := topS 34
abbrev s_names_of : Stmt := topS 13
abbrev s_is_whole : Stmt := topS 6
abbrev s_is_row_item : Stmt := topS 14
abbrev s_check_moves : Stmt := topS 18
abbrev s__law_checked : Stmt := topS 33
abbrev s__law_checks_hold : Stmt := topS 35
abbrev s__law_same : Stmt := topS 26
abbrev s_unit : Stmt := topS 7
abbrev s_product : Stmt := topS 8
abbrev s_inverse : Stmt := topS 9
abbrev s_power : Stmt := topS 10
abbrev s_effect : Stmt := topS 15
abbrev s__law_then : Stmt := topS 28
abbrev s__law_back : Stmt := topS 29
abbrev s__law_times : Stmt := topS 30
abbrev s_move_shifts : Stmt := topS 19
abbrev s_moved_view : Stmt := topS 20
abbrev s_view_after : Stmt := topS 21
abbrev s__law_views_hold : Stmt := topS 36
abbrev s_law : Stmt := topS 37
/-- where what the text has written lies -/
structure Ad where
  f__law_numbers : Addr
  d__law_numbers : FuncData
  f__law_cell : Addr
  d__law_cell : FuncData
  f__law_draws : Addr
  d__law_draws : FuncData
  f__law_shift : Addr
  d__law_shift : FuncData
  f__law_puzzle : Addr
  d__law_puzzle : FuncData
  f__law_all_moves : Addr
  d__law_all_moves : FuncData
  f__law_none : Addr
  d__law_none : FuncData
  f_names_of : Addr
  d_names_of : FuncData
  f_is_whole : Addr
  d_is_whole : FuncData
  f_is_row_item : Addr
  d_is_row_item : FuncData
  f_check_moves : Addr
  d_check_moves : FuncData
  f__law_checked : Addr
  d__law_checked : FuncData
  f__law_checks_hold : Addr
  d__law_checks_hold : FuncData
  f__law_same : Addr
  d__law_same : FuncData
  f_unit : Addr
  d_unit : FuncData
  f_product : Addr
  d_product : FuncData
  f_inverse : Addr
  d_inverse : FuncData
  f_power : Addr
  d_power : FuncData
  f_effect : Addr
  d_effect : FuncData
  f__law_then : Addr
  d__law_then : FuncData
  f__law_back : Addr
  d__law_back : FuncData
  f__law_times : Addr
  d__law_times : FuncData
  f_move_shifts : Addr
  d_move_shifts : FuncData
  f_moved_view : Addr
  d_moved_view : FuncData
  f_view_after : Addr
  d_view_after : FuncData
  f__law_views_hold : Addr
  d__law_views_hold : FuncData
  f_law : Addr
  d_law : FuncData
  c_PuzzleError : Addr
  c_InvalidRow : Addr
  c_WrongCount : Addr
  c_InvalidMove : Addr
def clA (a : Ad) : Nat → Value
  | 0 => .ref a.c_PuzzleError
  | 1 => .ref a.c_InvalidRow
  | 2 => .ref a.c_WrongCount
  | 3 => .ref a.c_InvalidMove
  | _ => .none
/-- is the one class below the other -/
def sbA : Nat → Nat → Option Bool
  | 3, 3 => some true
  | 3, 0 => some true
  | 3, 1 => some false
  | 2, 3 => some false
  | 2, 2 => some true
  | 2, 0 => some true
  | _, _ => none
structure Tb (K : PySem.W.Frag) (mg : Str → Option Value) (a : Ad) : Prop where
  F__law_numbers : Fun K "_law_numbers" "_law_numbers" s__law_numbers a.f__law_numbers a.d__law_numbers
  g__law_numbers : mg "_law_numbers" = some (.ref a.f__law_numbers)
  k__law_numbers : PySem.W.keepIn K (.ref a.f__law_numbers) = true
  B__law_numbers : L2.Binds K a.d__law_numbers ["cell", "count", "limit"] []
  F__law_cell : Fun K "_law_cell" "_law_cell" s__law_cell a.f__law_cell a.d__law_cell
  g__law_cell : mg "_law_cell" = some (.ref a.f__law_cell)
  k__law_cell : PySem.W.keepIn K (.ref a.f__law_cell) = true
  B__law_cell : L2.Binds K a.d__law_cell ["script", "k"] []
  F__law_draws : Fun K "_law_draws" "_law_draws" s__law_draws a.f__law_draws a.d__law_draws
  g__law_draws : mg "_law_draws" = some (.ref a.f__law_draws)
  k__law_draws : PySem.W.keepIn K (.ref a.f__law_draws) = true
  B__law_draws : L2.Binds K a.d__law_draws ["script", "k", "count"] []
  F__law_shift : Fun K "_law_shift" "_law_shift" s__law_shift a.f__law_shift a.d__law_shift
  g__law_shift : mg "_law_shift" = some (.ref a.f__law_shift)
  k__law_shift : PySem.W.keepIn K (.ref a.f__law_shift) = true
  B__law_shift : L2.Binds K a.d__law_shift ["draws", "at", "n"] []
  F__law_puzzle : Fun K "_law_puzzle" "_law_puzzle" s__law_puzzle a.f__law_puzzle a.d__law_puzzle
  g__law_puzzle : mg "_law_puzzle" = some (.ref a.f__law_puzzle)
  k__law_puzzle : PySem.W.keepIn K (.ref a.f__law_puzzle) = true
  B__law_puzzle : L2.Binds K a.d__law_puzzle ["draws"] []
  F__law_all_moves : Fun K "_law_all_moves" "_law_all_moves" s__law_all_moves a.f__law_all_moves a.d__law_all_moves
  g__law_all_moves : mg "_law_all_moves" = some (.ref a.f__law_all_moves)
  k__law_all_moves : PySem.W.keepIn K (.ref a.f__law_all_moves) = true
  B__law_all_moves : L2.Binds K a.d__law_all_moves ["puzzle", "draws", "count"] []
  F__law_none : Fun K "_law_none" "_law_none" s__law_none a.f__law_none a.d__law_none
  g__law_none : mg "_law_none" = some (.ref a.f__law_none)
  k__law_none : PySem.W.keepIn K (.ref a.f__law_none) = true
  B__law_none : L2.Binds K a.d__law_none ["puzzle", "move"] []
  F_names_of : Fun K "names_of" "names_of" s_names_of a.f_names_of a.d_names_of
  g_names_of : mg "names_of" = some (.ref a.f_names_of)
  k_names_of : PySem.W.keepIn K (.ref a.f_names_of) = true
  B_names_of : L2.Binds K a.d_names_of ["puzzle"] []
  F_is_whole : Fun K "is_whole" "is_whole" s_is_whole a.f_is_whole a.d_is_whole
  g_is_whole : mg "is_whole" = some (.ref a.f_is_whole)
  k_is_whole : PySem.W.keepIn K (.ref a.f_is_whole) = true
  B_is_whole : L2.Binds K a.d_is_whole ["value"] []
  F_is_row_item : Fun K "is_row_item" "is_row_item" s_is_row_item a.f_is_row_item a.d_is_row_item
  g_is_row_item : mg "is_row_item" = some (.ref a.f_is_row_item)
  k_is_row_item : PySem.W.keepIn K (.ref a.f_is_row_item) = true
  B_is_row_item : L2.Binds K a.d_is_row_item ["known", "item"] []
  F_check_moves : Fun K "check_moves" "check_moves" s_check_moves a.f_check_moves a.d_check_moves
  g_check_moves : mg "check_moves" = some (.ref a.f_check_moves)
  k_check_moves : PySem.W.keepIn K (.ref a.f_check_moves) = true
  B_check_moves : L2.Binds K a.d_check_moves ["puzzle", "moves"] []
  F__law_checked : Fun K "_law_checked" "_law_checked" s__law_checked a.f__law_checked a.d__law_checked
  g__law_checked : mg "_law_checked" = some (.ref a.f__law_checked)
  k__law_checked : PySem.W.keepIn K (.ref a.f__law_checked) = true
  B__law_checked : L2.Binds K a.d__law_checked ["puzzle", "moves"] []
  F__law_checks_hold : Fun K "_law_checks_hold" "_law_checks_hold" s__law_checks_hold a.f__law_checks_hold a.d__law_checks_hold
  g__law_checks_hold : mg "_law_checks_hold" = some (.ref a.f__law_checks_hold)
  k__law_checks_hold : PySem.W.keepIn K (.ref a.f__law_checks_hold) = true
  B__law_checks_hold : L2.Binds K a.d__law_checks_hold ["puzzle", "draws"] []
  F__law_same : Fun K "_law_same" "_law_same" s__law_same a.f__law_same a.d__law_same
  g__law_same : mg "_law_same" = some (.ref a.f__law_same)
  k__law_same : PySem.W.keepIn K (.ref a.f__law_same) = true
  B__law_same : L2.Binds K a.d__law_same ["told", "due"] []
  F_unit : Fun K "unit" "unit" s_unit a.f_unit a.d_unit
  g_unit : mg "unit" = some (.ref a.f_unit)
  k_unit : PySem.W.keepIn K (.ref a.f_unit) = true
  B_unit : L2.Binds K a.d_unit ["n"] []
  F_product : Fun K "product" "product" s_product a.f_product a.d_product
  g_product : mg "product" = some (.ref a.f_product)
  k_product : PySem.W.keepIn K (.ref a.f_product) = true
  B_product : L2.Binds K a.d_product ["one", "other"] []
  F_inverse : Fun K "inverse" "inverse" s_inverse a.f_inverse a.d_inverse
  g_inverse : mg "inverse" = some (.ref a.f_inverse)
  k_inverse : PySem.W.keepIn K (.ref a.f_inverse) = true
  B_inverse : L2.Binds K a.d_inverse ["shift"] []
  F_power : Fun K "power" "power" s_power a.f_power a.d_power
  g_power : mg "power" = some (.ref a.f_power)
  k_power : PySem.W.keepIn K (.ref a.f_power) = true
  B_power : L2.Binds K a.d_power ["shift", "times"] []
  F_effect : Fun K "effect" "effect" s_effect a.f_effect a.d_effect
  g_effect : mg "effect" = some (.ref a.f_effect)
  k_effect : PySem.W.keepIn K (.ref a.f_effect) = true
  B_effect : L2.Binds K a.d_effect ["puzzle", "row"] []
  F__law_then : Fun K "_law_then" "_law_then" s__law_then a.f__law_then a.d__law_then
  g__law_then : mg "_law_then" = some (.ref a.f__law_then)
  k__law_then : PySem.W.keepIn K (.ref a.f__law_then) = true
  B__law_then : L2.Binds K a.d__law_then ["one", "other"] []
  F__law_back : Fun K "_law_back" "_law_back" s__law_back a.f__law_back a.d__law_back
  g__law_back : mg "_law_back" = some (.ref a.f__law_back)
  k__law_back : PySem.W.keepIn K (.ref a.f__law_back) = true
  B__law_back : L2.Binds K a.d__law_back ["shift"] []
  F__law_times : Fun K "_law_times" "_law_times" s__law_times a.f__law_times a.d__law_times
  g__law_times : mg "_law_times" = some (.ref a.f__law_times)
  k__law_times : PySem.W.keepIn K (.ref a.f__law_times) = true
  B__law_times : L2.Binds K a.d__law_times ["shift", "times"] []
  F_move_shifts : Fun K "move_shifts" "move_shifts" s_move_shifts a.f_move_shifts a.d_move_shifts
  g_move_shifts : mg "move_shifts" = some (.ref a.f_move_shifts)
  k_move_shifts : PySem.W.keepIn K (.ref a.f_move_shifts) = true
  B_move_shifts : L2.Binds K a.d_move_shifts ["puzzle", "moves"] []
  F_moved_view : Fun K "moved_view" "moved_view" s_moved_view a.f_moved_view a.d_moved_view
  g_moved_view : mg "moved_view" = some (.ref a.f_moved_view)
  k_moved_view : PySem.W.keepIn K (.ref a.f_moved_view) = true
  B_moved_view : L2.Binds K a.d_moved_view ["shift", "view"] []
  F_view_after : Fun K "view_after" "view_after" s_view_after a.f_view_after a.d_view_after
  g_view_after : mg "view_after" = some (.ref a.f_view_after)
  k_view_after : PySem.W.keepIn K (.ref a.f_view_after) = true
  B_view_after : L2.Binds K a.d_view_after ["puzzle", "found", "view"] []
  F__law_views_hold : Fun K "_law_views_hold" "_law_views_hold" s__law_views_hold a.f__law_views_hold a.d__law_views_hold
  g__law_views_hold : mg "_law_views_hold" = some (.ref a.f__law_views_hold)
  k__law_views_hold : PySem.W.keepIn K (.ref a.f__law_views_hold) = true
  B__law_views_hold : L2.Binds K a.d__law_views_hold ["puzzle", "draws"] []
  F_law : Fun K "law" "law" s_law a.f_law a.d_law
  g_law : mg "law" = some (.ref a.f_law)
  k_law : PySem.W.keepIn K (.ref a.f_law) = true
  B_law : L2.Binds K a.d_law ["script"] []
  z_abs : mg "abs" = none
  z_bool : mg "bool" = none
  z_enumerate : mg "enumerate" = none
  z_int : mg "int" = none
  z_isinstance : mg "isinstance" = none
  z_len : mg "len" = none
  z_list : mg "list" = none
  z_range : mg "range" = none
  z_sorted : mg "sorted" = none
  z_str : mg "str" = none
  z_tuple : mg "tuple" = none
  n_MOST_MOVES : ∃ t, mg "MOST_MOVES" = some (.int 20 t)
  n_MOST_TIMES : ∃ t, mg "MOST_TIMES" = some (.int 20 t)
  g_PuzzleError : mg "PuzzleError" = some (.ref a.c_PuzzleError)
  k_PuzzleError : PySem.W.keepIn K (.ref a.c_PuzzleError) = true
  b_PuzzleError : PySem.W.subIn K (.ref a.c_PuzzleError) (.type "BaseException") = some true
  t_PuzzleError : PySem.W.typeIn K (.ref a.c_PuzzleError) = some (.type "type")
  x_PuzzleError : PySem.W.excIn K a.c_PuzzleError [.type "ValueError", .type "Exception", .type "BaseException", .type "object"] "ValueError.__new__" = true
  g_InvalidRow : mg "InvalidRow" = some (.ref a.c_InvalidRow)
  k_InvalidRow : PySem.W.keepIn K (.ref a.c_InvalidRow) = true
  b_InvalidRow : PySem.W.subIn K (.ref a.c_InvalidRow) (.type "BaseException") = some true
  t_InvalidRow : PySem.W.typeIn K (.ref a.c_InvalidRow) = some (.type "type")
  x_InvalidRow : PySem.W.excIn K a.c_InvalidRow [.type "ValueError", .type "Exception", .type "BaseException", .type "object"] "ValueError.__new__" = true
  g_WrongCount : mg "WrongCount" = some (.ref a.c_WrongCount)
  k_WrongCount : PySem.W.keepIn K (.ref a.c_WrongCount) = true
  b_WrongCount : PySem.W.subIn K (.ref a.c_WrongCount) (.type "BaseException") = some true
  t_WrongCount : PySem.W.typeIn K (.ref a.c_WrongCount) = some (.type "type")
  x_WrongCount : PySem.W.excIn K a.c_WrongCount [.type "ValueError", .type "Exception", .type "BaseException", .type "object"] "ValueError.__new__" = true
  g_InvalidMove : mg "InvalidMove" = some (.ref a.c_InvalidMove)
  k_InvalidMove : PySem.W.keepIn K (.ref a.c_InvalidMove) = true
  b_InvalidMove : PySem.W.subIn K (.ref a.c_InvalidMove) (.type "BaseException") = some true
  t_InvalidMove : PySem.W.typeIn K (.ref a.c_InvalidMove) = some (.type "type")
  x_InvalidMove : PySem.W.excIn K a.c_InvalidMove [.type "ValueError", .type "Exception", .type "BaseException", .type "object"] "ValueError.__new__" = true
  ext : ExT K (clA a) sbA
theorem sc__law_numbers : FnScope ["cell", "count", "limit", "found", "k", "mixed"] ["cell", "count", "limit"] (defScope s__law_numbers) := ⟨rfl, rfl, rfl, by decide +kernel, rfl, by decide +kernel, by decide +kernel⟩
def b__law_numbers : Ev → Out :=
  (sSeq (sOwn (e1L dLst eNil) 3)
  (sSeq (sIf (eBl (e2 dGe (eVarB 0) (e2 dPow (eC (.int 10)) (eC (.int 18)))))
  (sSeq (sFor (eRg1 (eVar 1)) (.nm 4)
  (sSeq (sApp 3 (e2 dMod (e1L (on1 dInt) (eCons (eVarB 0) eNil)) (eVarB 2)))
  (sAsg (e2 dDiv (e1L (on1 dInt) (eCons (eVarB 0) eNil)) (eVarB 2)) (.nm 0))))
  (sFrz 3 (sRet (eVar 3))))
  sNil)
  (sSeq (sFor (eRg1 (eVar 1)) (.nm 4)
  (sSeq (sAsg (e2 dMod (e1L (on1 dInt) (eCons (e2 dAdd (e2 dAdd (e2 dMul (eVarB 0) (eC (.int 48271))) (e2 dMul (eVarB 4) (eC (.int 69621)))) (eC (.int 7))) eNil)) (eC (.int 2147483647))) (.nm 5))
  (sSeq (sAsg (e2 dMod (e1L (on1 dInt) (eCons (e2 dAdd (e2 dAdd (e2 dAdd (e2 dMul (eVarB 5) (eVarB 5)) (e2 dMul (eVarB 5) (eC (.int 40692)))) (e2 dMul (eVarB 4) (eC (.int 16807)))) (eC (.int 11))) eNil)) (eC (.int 2147483399))) (.nm 5))
  (sApp 3 (e2 dMod (e1L (on1 dInt) (eCons (e2 dDiv (eVarB 5) (eC (.int 32))) eNil)) (eVarB 2))))))
  (sFrz 3 (sRet (eVar 3))))))
def F__law_numbers : List D → R D := runF 6 b__law_numbers
theorem sc__law_cell : FnScope ["script", "k"] ["script", "k"] (defScope s__law_cell) := ⟨rfl, rfl, rfl, by decide +kernel, rfl, by decide +kernel, by decide +kernel⟩
def b__law_cell : Ev → Out :=
  (sSeq (sIf (eBl (e2 dLt (eVarB 1) (e1L (on1 dLen) (eCons (eVarB 0) eNil))))
  (sRet (e1L (on1 dInt) (eCons (e2 dIx (eVarB 0) (eVarB 1)) eNil)))
  sNil)
  (sRet (eC (.int 0))))
def F__law_cell : List D → R D := runF 2 b__law_cell
theorem sc__law_draws : FnScope ["script", "k", "count"] ["script", "k", "count"] (defScope s__law_draws) := ⟨rfl, rfl, rfl, by decide +kernel, rfl, by decide +kernel, by decide +kernel⟩
def b__law_draws : Ev → Out :=
  (sRet (e1L (cFn 3 F__law_numbers) (eCons (e2 dAdd (e1L (cFn 2 F__law_cell) (eCons (eVar 0) (eCons (eVar 1) eNil))) (e2 dMul (eC (.int 101)) (eVarB 1))) (eCons (eVar 2) (eCons (eC (.int 5040)) eNil)))))
def F__law_draws : List D → R D := runF 3 b__law_draws
theorem sc__law_shift : FnScope ["draws", "at", "n", "spare", "found", "k"] ["draws", "at", "n"] (defScope s__law_shift) := ⟨rfl, rfl, rfl, by decide +kernel, rfl, by decide +kernel, by decide +kernel⟩
def b__law_shift : Ev → Out :=
  (sSeq (sOwn (e1 (dRgL (.int 0)) (eVar 2)) 3)
  (sSeq (sOwn (e1L dLst eNil) 4)
  (sSeq (sFor (eRg1 (eVar 2)) (.nm 5)
  (sAppPop 4 3 (e2 dMod (e2 dIx (eVarB 0) (e2 dMod (e2 dAdd (eVarB 1) (eVarB 5)) (e1L (on1 dLen) (eCons (eVarB 0) eNil)))) (e1L (on1 dLen) (eCons (eVarB 3) eNil)))))
  (sRet (e1L (on1 dTupX) (eCons (eVarB 4) eNil))))))
def F__law_shift : List D → R D := runF 6 b__law_shift
theorem sc__law_puzzle : FnScope ["draws", "n", "names", "first", "turns", "k", "shift", "spot"] ["draws"] (defScope s__law_puzzle) := ⟨rfl, rfl, rfl, by decide +kernel, rfl, by decide +kernel, by decide +kernel⟩
def b__law_puzzle : Ev → Out :=
  (sSeq (sAsg (e2 dAdd (eC (.int 2)) (e2 dMod (e2 dIx (eVarB 0) (eC (.int 0))) (eC (.int 29)))) (.nm 1))
  (sSeq (sAsg (e1L dLst (eCons (eC (.str ("a" : Str))) (eCons (eC (.str ("A" : Str))) (eCons (eC (.str ("aa" : Str))) (eCons (eC (.str ("aA" : Str))) (eCons (eC (.str ("Aa" : Str))) (eCons (eC (.str ("aaa" : Str))) (eCons (eC (.str ("b" : Str))) (eCons (eC (.str ("zZz" : Str))) eNil))))))))) (.nm 2))
  (sSeq (sAsg (e2 dMod (e2 dIx (eVarB 0) (eC (.int 1))) (eC (.int 8))) (.nm 3))
  (sSeq (sOwn (e1L dLst eNil) 4)
  (sSeq (sFor (eRg1 (e2 dAdd (eC (.int 1)) (e2 dMod (e2 dIx (eVarB 0) (eC (.int 2))) (eC (.int 8))))) (.nm 5)
  (sSeq (sAsg (e1L (cFn 3 F__law_shift) (eCons (eVar 0) (eCons (e2 dAdd (eC (.int 3)) (e2 dMul (eC (.int 7)) (eVarB 5))) (eCons (eVar 1) eNil)))) (.nm 6))
  (sSeq (sIf (eBl (e2 dEq (e2 dMod (e2 dIx (eVarB 0) (e2 dAdd (eC (.int 3)) (eVarB 5))) (eC (.int 3))) (eC (.int 0))))
  (sAsg (e1L (on1 dTupX) (eCons (eComp (eRg1 (eVar 1)) (.nm 7) [7] tTrue (e2 dMod (e1L (on1 dInt) (eCons (e2 dAdd (e2 dAdd (eVarB 7) (eC (.int 1))) (eVarB 5)) eNil)) (eVarB 1))) eNil)) (.nm 6))
  sNil)
  (sApp 4 (e1L dTup (eCons (e2 dIx (eVarB 2) (e2 dMod (e1L (on1 dInt) (eCons (e2 dAdd (eVarB 3) (eVarB 5)) eNil)) (eC (.int 8)))) (eCons (eVar 6) eNil)))))))
  (sFrz 4 (sRet (e1L dTup (eCons (eVar 1) (eCons (eVar 4) eNil))))))))))
def F__law_puzzle : List D → R D := runF 8 b__law_puzzle
theorem sc__law_all_moves : FnScope ["puzzle", "draws", "count", "found", "k", "draw", "name", "times", "shift", "move"] ["puzzle", "draws", "count"] (defScope s__law_all_moves) := ⟨rfl, rfl, rfl, by decide +kernel, rfl, by decide +kernel, by decide +kernel⟩
def b__law_all_moves : Ev → Out :=
  (sSeq (sOwn (e1L dLst eNil) 3)
  (sSeq (sFor (eRg1 (e2 dMul (eC (.int 3)) (eVarB 2))) (.nm 4)
  (sSeq (sAsg (e2 dAdd (e2 dIx (eVarB 1) (e2 dMod (eVarB 4) (e1L (on1 dLen) (eCons (eVarB 1) eNil)))) (e2 dMul (eC (.int 97)) (e2 dDiv (eVarB 4) (e1L (on1 dLen) (eCons (eVarB 1) eNil))))) (.nm 5))
  (sSeq (sAsg (e2 dIx (e2 dIx (e2 dIx (eVarB 0) (eC (.int 1))) (e2 dMod (eVarB 5) (e1L (on1 dLen) (eCons (e2 dIx (eVarB 0) (eC (.int 1))) eNil)))) (eC (.int 0))) (.nm 6))
  (sSeq (sAsg (e2 dIx (e1L dLst (eCons (eC (.int 20)) (eCons (e1 dNeg (eC (.int 20))) (eCons (eC (.int 1)) (eCons (e1 dNeg (eC (.int 1))) (eCons (e2 dAdd (eC (.int 1)) (e2 dMod (e2 dDiv (eVarB 5) (eC (.int 8))) (eC (.int 20)))) (eCons (e2 dSub (e2 dSub (eC (.int 0)) (eC (.int 1))) (e2 dMod (e2 dDiv (eVarB 5) (eC (.int 8))) (eC (.int 20)))) eNil))))))) (e2 dMod (e2 dDiv (eVarB 5) (eC (.int 3))) (eC (.int 6)))) (.nm 7))
  (sIf (tAnd (eBl (e2 dNotIn (e1L dTup (eCons (eVar 6) (eCons (eVar 7) eNil))) (eVarB 3))) (eBl (e2 dLt (e1L (on1 dLen) (eCons (eVarB 3) eNil)) (eVarB 2))))
  (sApp 3 (e1L dTup (eCons (eVar 6) (eCons (eVar 7) eNil))))
  sNil)))))
  (sSeq (sFor (eItems (e2 dIx (eVarB 0) (eC (.int 1)))) (.tup [(.nm 6), (.nm 8)])
  (sFor (eRg2 (eC (.int 1)) (eC (.int 21))) (.nm 7)
  (sFor (eItems (e1L dLst (eCons (e1L dTup (eCons (eVar 6) (eCons (eVar 7) eNil))) (eCons (e1L dTup (eCons (eVar 6) (eCons (e2 dSub (eC (.int 0)) (eVarB 7)) eNil))) eNil)))) (.nm 9)
  (sIf (tAnd (eBl (e2 dNotIn (eVarB 9) (eVarB 3))) (eBl (e2 dLt (e1L (on1 dLen) (eCons (eVarB 3) eNil)) (eVarB 2))))
  (sApp 3 (eVar 9))
  sNil))))
  (sFrz 3 (sRet (eVar 3))))))
def F__law_all_moves : List D → R D := runF 10 b__law_all_moves
theorem sc__law_none : FnScope ["puzzle", "move", "names", "strange", "found", "name", "times", "other", "shift"] ["puzzle", "move"] (defScope s__law_none) := ⟨rfl, rfl, rfl, by decide +kernel, rfl, by decide +kernel, by decide +kernel⟩
def b__law_none : Ev → Out :=
  (sSeq (sAsg (eVar 1) (.tup [(.nm 5), (.nm 6)]))
  (sSeq (sAsg (eComp (eItems (e2 dIx (eVarB 0) (eC (.int 1)))) (.tup [(.nm 7), (.nm 8)]) [7, 8] tTrue (eVar 7)) (.nm 2))
  (sSeq (sAsg (eComp (eItems (e1L dLst (eCons (eC (.str ("a" : Str))) (eCons (eC (.str ("A" : Str))) (eCons (eC (.str ("aa" : Str))) (eCons (eC (.str ("aA" : Str))) (eCons (eC (.str ("Aa" : Str))) (eCons (eC (.str ("aaa" : Str))) (eCons (eC (.str ("b" : Str))) (eCons (eC (.str ("zZz" : Str))) (eCons (eC (.str ("aaaa" : Str))) (eCons (eC (.str ("" : Str))) (eCons (eC (.str ("a " : Str))) eNil))))))))))))) (.nm 7) [7] (eBl (e2 dNotIn (eVarB 7) (eVarB 2))) (eVar 7)) (.nm 3))
  (sSeq (sAsg (e1L dLst (eCons (e1L dTup (eCons (eVar 5) (eCons (eC (.int 0)) eNil))) (eCons (e1L dTup (eCons (eVar 5) (eCons (eC (.int 21)) eNil))) (eCons (e1L dTup (eCons (eVar 5) (eCons (e1 dNeg (eC (.int 21))) eNil))) (eCons (e1L dTup (eCons (eVar 5) (eCons (eC (.bl true)) eNil))) (eCons (e1L dTup (eCons (eVar 5) (eCons (eC (.str ("1" : Str))) eNil))) (eCons (e1L dTup (eCons (eVar 5) (eCons (eC .non) eNil))) (eCons (e1L dTup (eCons (eVar 5) (eCons (e1L dLst (eCons (eC (.int 1)) eNil)) eNil))) (eCons (e1L dTup (eCons (eVar 5) eNil)) (eCons (e1L dTup (eCons (eVar 5) (eCons (eVar 6) (eCons (eVar 6) eNil)))) eNil)))))))))) (.nm 4))
  (sSeq (sAsg (e2 dAdd (eVarB 4) (e1L dLst (eCons (e1L dLst (eCons (eVar 5) (eCons (eVar 6) eNil))) (eCons (e1L dTup (eCons (eVar 6) (eCons (eVar 5) eNil))) (eCons (e1L dTup (eCons (e1L dLst (eCons (eVar 5) eNil)) (eCons (eVar 6) eNil))) (eCons (eC .non) (eCons (eVar 5) (eCons (eVar 6) (eCons (e1L dTup eNil) (eCons (e1L dTup (eCons (e1L dTup (eCons (eVar 5) (eCons (eVar 6) eNil))) eNil)) (eCons (e1L dTup (eCons (eVar 5) (eCons (e2 dPow (eC (.int 10)) (eC (.int 20))) eNil))) eNil))))))))))) (.nm 4))
  (sRet (e2 dAdd (eVarB 4) (eComp (eItems (eVarB 3)) (.nm 7) [7] tTrue (e1L dTup (eCons (eVar 7) (eCons (eVar 6) eNil)))))))))))
def F__law_none : List D → R D := runF 9 b__law_none
theorem sc_names_of : FnScope ["puzzle", "name", "shift"] ["puzzle"] (defScope s_names_of) := ⟨rfl, rfl, rfl, by decide +kernel, rfl, by decide +kernel, by decide +kernel⟩
def b_names_of : Ev → Out :=
  (sRet (eCompK (eItems (e2 dIx (eVarB 0) (eC (.int 1)))) (.tup [(.nm 1), (.nm 2)]) [1, 2] tTrue (eVar 1) (eVar 2)))
def F_names_of : List D → R D := runF 3 b_names_of
theorem sc_is_whole : FnScope ["value"] ["value"] (defScope s_is_whole) := ⟨rfl, rfl, rfl, by decide +kernel, rfl, by decide +kernel, by decide +kernel⟩
def b_is_whole : Ev → Out :=
  (sRet (eAnd (e1 (dIs isInt) (eVarB 0)) (e1 dNot (e1 (dIs isBool) (eVarB 0)))))
def F_is_whole : List D → R D := runF 1 b_is_whole
theorem sc_is_row_item : FnScope ["known", "item"] ["known", "item"] (defScope s_is_row_item) := ⟨rfl, rfl, rfl, by decide +kernel, rfl, by decide +kernel, by decide +kernel⟩
def b_is_row_item : Ev → Out :=
  (sSeq (sIf (tOr (tNot (eTru (e1 (dIs isTup) (eVarB 1)))) (tOr (eBl (e2 dNe (e1L (on1 dLen) (eCons (eVarB 1) eNil)) (eC (.int 2)))) (tOr (tNot (eTru (e1 (dIs isStr) (e2 dIx (eVarB 1) (eC (.int 0)))))) (eBl (e2 dNotIn (e2 dIx (eVarB 1) (eC (.int 0))) (eVarB 0))))))
  (sRet (eC (.bl false)))
  sNil)
  (sRet (eAnd (e1L (cFn 1 F_is_whole) (eCons (e2 dIx (eVarB 1) (eC (.int 1))) eNil)) (eChain dLe dLe (e1 dNeg (eC (.int 20))) (e2 dIx (eVarB 1) (eC (.int 1))) (eC (.int 20))))))
def F_is_row_item : List D → R D := runF 2 b_is_row_item
theorem sc_check_moves : FnScope ["puzzle", "moves", "known", "seen", "move"] ["puzzle", "moves"] (defScope s_check_moves) := ⟨rfl, rfl, rfl, by decide +kernel, rfl, by decide +kernel, by decide +kernel⟩
def b_check_moves : Ev → Out :=
  (sSeq (sAsg (e1L (cFn 1 F_names_of) (eCons (eVar 0) eNil)) (.nm 2))
  (sSeq (sOwn (fun _ => .ok (.dT [])) 3)
  (sSeq (sFor (eItems (eVar 1)) (.nm 4)
  (sSeq (sIf (tOr (tNot (eTru (e1L (cFn 2 F_is_row_item) (eCons (eVar 2) (eCons (eVar 4) eNil))))) (tOr (eBl (e2 dEq (e2 dIx (eVarB 4) (eC (.int 1))) (eC (.int 0)))) (eBl (e2 dIn (eVarB 4) (eVarB 3)))))
  (fun ρ => .ex 3 ρ)
  sNil)
  (sPut 3 (eVar 4) (eC (.bl true)))))
  (sIf (tNot (eBl (eChain dLe dLe (eC (.int 1)) (e1L (on1 dLen) (eCons (eVarB 1) eNil)) (eC (.int 20)))))
  (fun ρ => .ex 2 ρ)
  sNil))))
def F_check_moves : List D → R D := runF 5 b_check_moves
theorem sc__law_checked : FnScope ["puzzle", "moves", "e"] ["puzzle", "moves"] (defScope s__law_checked) := ⟨rfl, rfl, rfl, by decide +kernel, rfl, by decide +kernel, by decide +kernel⟩
def b__law_checked : Ev → Out :=
  (sTry sbA (sRet (e2 dIx (e1L dLst (eCons (eC (.str ("other" : Str))) (eCons (eC (.str ("good" : Str))) eNil))) (e1L (on1 dInt) (eCons (e2 dIsN (e1L (cFn 2 F_check_moves) (eCons (eVar 0) (eCons (eVar 1) eNil))) (eC .non)) eNil)))) [⟨3, some 2, (fun e aE => (sRet (e2 dIx (e1L dLst (eCons (eC (.str ("other" : Str))) (eCons (eC (.str ("move" : Str))) eNil))) (e1L (on1 dInt) (eCons (eAnd (eIsE sbA e 0 aE 2) (e1 dNot (eIsE sbA e 1 aE 2))) eNil)))))⟩, ⟨2, some 2, (fun e aE => (sRet (e2 dIx (e1L dLst (eCons (eC (.str ("other" : Str))) (eCons (eC (.str ("count" : Str))) eNil))) (e1L (on1 dInt) (eCons (eAnd (eIsE sbA e 0 aE 2) (e1 dNot (eIsE sbA e 3 aE 2))) eNil)))))⟩])
def F__law_checked : List D → R D := runF 3 b__law_checked
theorem sc__law_checks_hold : FnScope ["puzzle", "draws", "moves", "many", "full", "at", "twice", "cases", "item", "some", "word", "kept"] ["puzzle", "draws"] (defScope s__law_checks_hold) := ⟨rfl, rfl, rfl, by decide +kernel, rfl, by decide +kernel, by decide +kernel⟩
def b__law_checks_hold : Ev → Out :=
  (sSeq (sAsg (e1L (cFn 3 F__law_all_moves) (eCons (eVar 0) (eCons (eSl (eVarB 1) (oSome (eC (.int 0))) (oSome (eC (.int 20)))) (eCons (e2 dAdd (eC (.int 1)) (e2 dMod (e2 dIx (eVarB 1) (eC (.int 20))) (eC (.int 20)))) eNil)))) (.nm 2))
  (sSeq (sAsg (e1L (cFn 3 F__law_all_moves) (eCons (eVar 0) (eCons (eSl (eVarB 1) (oSome (eC (.int 0))) (oSome (eC (.int 20)))) (eCons (e2 dAdd (eC (.int 21)) (e2 dMod (e2 dIx (eVarB 1) (eC (.int 21))) (eC (.int 15)))) eNil)))) (.nm 3))
  (sSeq (sAsg (e1L (cFn 3 F__law_all_moves) (eCons (eVar 0) (eCons (eSl (eVarB 1) (oSome (eC (.int 0))) (oSome (eC (.int 20)))) (eCons (eC (.int 20)) eNil)))) (.nm 4))
  (sSeq (sAsg (e2 dMod (e2 dIx (eVarB 1) (eC (.int 22))) (e2 dAdd (e1L (on1 dLen) (eCons (eVarB 2) eNil)) (eC (.int 1)))) (.nm 5))
  (sSeq (sAsg (e2 dAdd (e2 dAdd (eSl (eVarB 2) (oSome (eC (.int 0))) (oSome (eVar 5))) (e1L dLst (eCons (e2 dIx (eVarB 2) (e2 dMod (e2 dIx (eVarB 1) (eC (.int 23))) (e1L (on1 dLen) (eCons (eVarB 2) eNil)))) eNil))) (eSl (eVarB 2) (oSome (eVar 5)) oNone)) (.nm 6))
  (sSeq (sAsg (e1L dLst (eCons (e1L dTup (eCons (eVar 2) (eCons (eC (.str ("good" : Str))) eNil))) (eCons (e1L dTup (eCons (eVar 4) (eCons (eC (.str ("good" : Str))) eNil))) (eCons (e1L dTup (eCons (e1 dRev (eVarB 2)) (eCons (eC (.str ("good" : Str))) eNil))) (eCons (e1L dTup (eCons (e1L dLst eNil) (eCons (eC (.str ("count" : Str))) eNil))) (eCons (e1L dTup (eCons (eVar 3) (eCons (eC (.str ("count" : Str))) eNil))) (eCons (e1L dTup (eCons (eVar 6) (eCons (eC (.str ("move" : Str))) eNil))) (eCons (e1L dTup (eCons (e2 dAdd (eVarB 3) (eSl (eVarB 3) (oSome (eC (.int 0))) (oSome (eC (.int 1))))) (eCons (eC (.str ("move" : Str))) eNil))) eNil)))))))) (.nm 7))
  (sSeq (sFor (eItems (e1L (cFn 2 F__law_none) (eCons (eVar 0) (eCons (e2 dIx (eVarB 2) (e2 dMod (e2 dIx (eVarB 1) (eC (.int 24))) (e1L (on1 dLen) (eCons (eVarB 2) eNil)))) eNil)))) (.nm 8)
  (sAsg (e2 dAdd (eVarB 7) (e1L dLst (eCons (e1L dTup (eCons (e2 dAdd (e2 dAdd (eSl (eVarB 2) (oSome (eC (.int 0))) (oSome (eVar 5))) (e1L dLst (eCons (eVar 8) eNil))) (eSl (eVarB 2) (oSome (eVar 5)) oNone)) (eCons (eC (.str ("move" : Str))) eNil))) (eCons (e1L dTup (eCons (e2 dAdd (e2 dAdd (eSl (eVarB 3) (oSome (eC (.int 0))) (oSome (eVar 5))) (e1L dLst (eCons (eVar 8) eNil))) (eSl (eVarB 3) (oSome (eVar 5)) oNone)) (eCons (eC (.str ("move" : Str))) eNil))) eNil)))) (.nm 7)))
  (sSeq (sAsg (e2 dAdd (eVarB 7) (e1L dLst (eCons (e1L dTup (eCons (e2 dAdd (eVarB 4) (e1L dLst (eCons (eC .non) eNil))) (eCons (eC (.str ("move" : Str))) eNil))) (eCons (e1L dTup (eCons (e2 dAdd (e1L dLst (eCons (eC .non) eNil)) (eVarB 4)) (eCons (eC (.str ("move" : Str))) eNil))) (eCons (e1L dTup (eCons (e1L dLst (eCons (eC .non) eNil)) (eCons (eC (.str ("move" : Str))) eNil))) eNil))))) (.nm 7))
  (sSeq (sFor (eItems (eVar 7)) (.tup [(.nm 9), (.nm 10)])
  (sSeq (sAsg (e1L (on1 dList) (eCons (eVarB 9) eNil)) (.nm 11))
  (sIf (tOr (eBl (e2 dNe (e1L (cFn 2 F__law_checked) (eCons (eVar 0) (eCons (eVar 9) eNil))) (eVarB 10))) (eBl (e2 dNe (eVarB 11) (eVarB 9))))
  (sRet (eC (.bl false)))
  sNil)))
  (sRet (eC (.bl true))))))))))))
def F__law_checks_hold : List D → R D := runF 12 b__law_checks_hold
theorem sc__law_same : FnScope ["told", "due", "k"] ["told", "due"] (defScope s__law_same) := ⟨rfl, rfl, rfl, by decide +kernel, rfl, by decide +kernel, by decide +kernel⟩
def b__law_same (self : List D → R D) : Ev → Out :=
  (sSeq (sIf (eTru (e1 (dIs isLst) (eVarB 1)))
  (sIf (tOr (tNot (eTru (e1 (dIs isLst) (eVarB 0)))) (eBl (e2 dNe (e1L (on1 dLen) (eCons (eVarB 0) eNil)) (e1L (on1 dLen) (eCons (eVarB 1) eNil)))))
  (sRet (eC (.bl false)))
  sNil)
  (sIf (eTru (e1 (dIs isTup) (eVarB 1)))
  (sIf (tOr (tNot (eTru (e1 (dIs isTup) (eVarB 0)))) (eBl (e2 dNe (e1L (on1 dLen) (eCons (eVarB 0) eNil)) (e1L (on1 dLen) (eCons (eVarB 1) eNil)))))
  (sRet (eC (.bl false)))
  sNil)
  (sIf (eBl (e2 dIsN (eVarB 1) (eC .non)))
  (sRet (e2 dIsN (eVarB 0) (eC .non)))
  (sIf (eTru (e1 (dIs isBool) (eVarB 1)))
  (sRet (eAnd (e1 (dIs isBool) (eVarB 0)) (e2 dEq (eVarB 0) (eVarB 1))))
  (sIf (eTru (e1 (dIs isInt) (eVarB 1)))
  (sRet (eAnd (e1 (dIs isInt) (eVarB 0)) (eAnd (e1 dNot (e1 (dIs isBool) (eVarB 0))) (e2 dEq (eVarB 0) (eVarB 1)))))
  (sRet (eAnd (e1 (dIs isStr) (eVarB 0)) (e2 dEq (eVarB 0) (eVarB 1)))))))))
  (sSeq (sFor (eRg1 (e1L (on1 dLen) (eCons (eVarB 1) eNil))) (.nm 2)
  (sIf (tNot (eTru (e1L (cFn 2 self) (eCons (e2 dIx (eVarB 0) (eVarB 2)) (eCons (e2 dIx (eVarB 1) (eVarB 2)) eNil)))))
  (sRet (eC (.bl false)))
  sNil))
  (sRet (eC (.bl true)))))
def F__law_same : Nat → List D → R D
  | 0 => fun _ => .stuck
  | n + 1 => runF 3 (b__law_same (F__law_same n))
theorem sc_unit : FnScope ["n"] ["n"] (defScope s_unit) := ⟨rfl, rfl, rfl, by decide +kernel, rfl, by decide +kernel, by decide +kernel⟩
def b_unit : Ev → Out :=
  (sRet (e1 (dRgT (.int 0)) (eVar 0)))
def F_unit : List D → R D := runF 1 b_unit
theorem sc_product : FnScope ["one", "other", "spot"] ["one", "other"] (defScope s_product) := ⟨rfl, rfl, rfl, by decide +kernel, rfl, by decide +kernel, by decide +kernel⟩
def b_product : Ev → Out :=
  (sRet (e1L (on1 dTuple) (eCons (eComp (eItems (eVarB 0)) (.nm 2) [2] tTrue (e2 dIx (eVarB 1) (eVarB 2))) eNil)))
def F_product : List D → R D := runF 3 b_product
theorem sc_inverse : FnScope ["shift", "found", "k", "spot"] ["shift"] (defScope s_inverse) := ⟨rfl, rfl, rfl, by decide +kernel, rfl, by decide +kernel, by decide +kernel⟩
def b_inverse : Ev → Out :=
  (sSeq (sOwn (e2 dRep (e1L dLst (eCons (eC (.int 0)) eNil)) (e1L (on1 dLen) (eCons (eVarB 0) eNil))) 1)
  (sSeq (sFor (eEnum (eVar 0)) (.tup [(.nm 2), (.nm 3)])
  (sPut 1 (eVar 3) (eVar 2)))
  (sRet (e1L (on1 dTuple) (eCons (eVarB 1) eNil)))))
def F_inverse : List D → R D := runF 4 b_inverse
theorem sc_power : FnScope ["shift", "times", "step", "found", "_"] ["shift", "times"] (defScope s_power) := ⟨rfl, rfl, rfl, by decide +kernel, rfl, by decide +kernel, by decide +kernel⟩
def b_power : Ev → Out :=
  (sSeq (sAsg (eIf (eBl (e2 dGe (eVarB 1) (eC (.int 0)))) (eVar 0) (e1L (cFn 1 F_inverse) (eCons (eVar 0) eNil))) (.nm 2))
  (sSeq (sAsg (e1L (cFn 1 F_unit) (eCons (e1L (on1 dLen) (eCons (eVarB 0) eNil)) eNil)) (.nm 3))
  (sSeq (sFor (eRg1 (e1L (on1 dAbs) (eCons (eVarB 1) eNil))) (.nm 4)
  (sAsg (e1L (cFn 2 F_product) (eCons (eVar 3) (eCons (eVar 2) eNil))) (.nm 3)))
  (sRet (eVar 3)))))
def F_power : List D → R D := runF 5 b_power
theorem sc_effect : FnScope ["puzzle", "row", "known", "found", "name", "times"] ["puzzle", "row"] (defScope s_effect) := ⟨rfl, rfl, rfl, by decide +kernel, rfl, by decide +kernel, by decide +kernel⟩
def b_effect : Ev → Out :=
  (sSeq (sAsg (e1L (cFn 1 F_names_of) (eCons (eVar 0) eNil)) (.nm 2))
  (sSeq (sAsg (e1L (cFn 1 F_unit) (eCons (e2 dIx (eVarB 0) (eC (.int 0))) eNil)) (.nm 3))
  (sSeq (sFor (eItems (eVar 1)) (.tup [(.nm 4), (.nm 5)])
  (sAsg (e1L (cFn 2 F_product) (eCons (eVar 3) (eCons (e1L (cFn 2 F_power) (eCons (e2 dIx (eVarB 2) (eVarB 4)) (eCons (eVar 5) eNil))) eNil))) (.nm 3)))
  (sRet (eVar 3)))))
def F_effect : List D → R D := runF 6 b_effect
theorem sc__law_then : FnScope ["one", "other", "spot"] ["one", "other"] (defScope s__law_then) := ⟨rfl, rfl, rfl, by decide +kernel, rfl, by decide +kernel, by decide +kernel⟩
def b__law_then : Ev → Out :=
  (sRet (e1L (on1 dTuple) (eCons (eComp (eItems (eVarB 0)) (.nm 2) [2] tTrue (e2 dIx (eVarB 1) (eVarB 2))) eNil)))
def F__law_then : List D → R D := runF 3 b__law_then
theorem sc__law_back : FnScope ["shift", "spot"] ["shift"] (defScope s__law_back) := ⟨rfl, rfl, rfl, by decide +kernel, rfl, by decide +kernel, by decide +kernel⟩
def b__law_back : Ev → Out :=
  (sRet (e1L (on1 dTuple) (eCons (eComp (eRg1 (e1L (on1 dLen) (eCons (eVarB 0) eNil))) (.nm 1) [1] tTrue (eMt ckT dIndexT (eVarB 0) (eVar 1))) eNil)))
def F__law_back : List D → R D := runF 2 b__law_back
theorem sc__law_times : FnScope ["shift", "times", "one", "found", "turn"] ["shift", "times"] (defScope s__law_times) := ⟨rfl, rfl, rfl, by decide +kernel, rfl, by decide +kernel, by decide +kernel⟩
def b__law_times : Ev → Out :=
  (sSeq (sAsg (eVar 0) (.nm 2))
  (sSeq (sIf (eBl (e2 dLt (eVarB 1) (eC (.int 0))))
  (sAsg (e1L (cFn 1 F__law_back) (eCons (eVar 0) eNil)) (.nm 2))
  sNil)
  (sSeq (sAsg (e1 (dRgT (.int 0)) (e1L (on1 dLen) (eCons (eVarB 0) eNil))) (.nm 3))
  (sSeq (sFor (eRg1 (e1L (on1 dAbs) (eCons (eVarB 1) eNil))) (.nm 4)
  (sAsg (e1L (cFn 2 F__law_then) (eCons (eVar 3) (eCons (eVar 2) eNil))) (.nm 3)))
  (sRet (eVar 3))))))
def F__law_times : List D → R D := runF 5 b__law_times
theorem sc_move_shifts : FnScope ["puzzle", "moves", "known", "name", "times"] ["puzzle", "moves"] (defScope s_move_shifts) := ⟨rfl, rfl, rfl, by decide +kernel, rfl, by decide +kernel, by decide +kernel⟩
def b_move_shifts : Ev → Out :=
  (sSeq (sAsg (e1L (cFn 1 F_names_of) (eCons (eVar 0) eNil)) (.nm 2))
  (sRet (eComp (eItems (eVarB 1)) (.tup [(.nm 3), (.nm 4)]) [3, 4] tTrue (e1L (cFn 2 F_power) (eCons (e2 dIx (eVarB 2) (eVarB 3)) (eCons (eVar 4) eNil))))))
def F_move_shifts : List D → R D := runF 5 b_move_shifts
theorem sc_moved_view : FnScope ["shift", "view", "spot"] ["shift", "view"] (defScope s_moved_view) := ⟨rfl, rfl, rfl, by decide +kernel, rfl, by decide +kernel, by decide +kernel⟩
def b_moved_view : Ev → Out :=
  (sRet (e1L (on1 dTuple) (eCons (eComp (eItems (eVarB 1)) (.nm 2) [2] tTrue (e2 dIx (eVarB 0) (eVarB 2))) eNil)))
def F_moved_view : List D → R D := runF 3 b_moved_view
theorem sc_view_after : FnScope ["puzzle", "found", "view", "shift"] ["puzzle", "found", "view"] (defScope s_view_after) := ⟨rfl, rfl, rfl, by decide +kernel, rfl, by decide +kernel, by decide +kernel⟩
def b_view_after : Ev → Out :=
  (sSeq (sFor (eItems (e1L (cFn 2 F_move_shifts) (eCons (eVar 0) (eCons (eVar 1) eNil)))) (.nm 3)
  (sAsg (e1L (cFn 2 F_moved_view) (eCons (eVar 3) (eCons (eVar 2) eNil))) (.nm 2)))
  (sRet (eVar 2)))
def F_view_after : List D → R D := runF 4 b_view_after
theorem sc__law_views_hold : FnScope ["puzzle", "draws", "n", "moves", "count", "some", "found", "position", "order", "view", "name", "times", "kept", "k", "other", "shift", "spot"] ["puzzle", "draws"] (defScope s__law_views_hold) := ⟨rfl, rfl, rfl, by decide +kernel, rfl, by decide +kernel, by decide +kernel⟩
def b__law_views_hold : Ev → Out :=
  (sSeq (sAsg (e2 dIx (eVarB 0) (eC (.int 0))) (.nm 2))
  (sSeq (sAsg (e1L (cFn 3 F__law_all_moves) (eCons (eVar 0) (eCons (eSl (eVarB 1) (oSome (eC (.int 0))) (oSome (eC (.int 20)))) (eCons (e2 dAdd (eC (.int 1)) (e2 dMod (e2 dIx (eVarB 1) (eC (.int 20))) (eC (.int 20)))) eNil)))) (.nm 3))
  (sSeq (sAsg (e2 dIx (e1L dLst (eCons (eC (.int 0)) (eCons (eC (.int 1)) (eCons (eC (.int 20)) (eCons (eC (.int 21)) (eCons (eC (.int 75)) (eCons (eC (.int 300)) eNil))))))) (e2 dMod (e2 dIx (eVarB 1) (eC (.int 25))) (eC (.int 6)))) (.nm 4))
  (sSeq (sFor (eItems (e1L dLst (eCons (eVar 4) (eCons (e2 dAdd (eC (.int 61)) (e2 dMod (e2 dIx (eVarB 1) (eC (.int 26))) (eC (.int 60)))) eNil)))) (.nm 5)
  (sSeq (sAsg (eComp (eRg1 (eVar 5)) (.nm 13) [13] tTrue (e2 dIx (eVarB 3) (e2 dMod (e1L (on1 dInt) (eCons (e2 dAdd (e2 dIx (eVarB 1) (e2 dMod (eVarB 13) (eC (.int 50)))) (eVarB 13)) eNil)) (e1L (on1 dLen) (eCons (eVarB 3) eNil))))) (.nm 6))
  (sSeq (sAsg (e1 (dRgT (.int 0)) (eVar 2)) (.nm 7))
  (sSeq (sFor (eItems (eVar 6)) (.tup [(.nm 10), (.nm 11)])
  (sFor (eItems (e2 dIx (eVarB 0) (eC (.int 1)))) (.tup [(.nm 14), (.nm 15)])
  (sIf (eBl (e2 dEq (eVarB 14) (eVarB 10)))
  (sAsg (e1L (cFn 2 F__law_then) (eCons (eVar 7) (eCons (e1L (cFn 2 F__law_times) (eCons (eVar 15) (eCons (eVar 11) eNil))) eNil))) (.nm 7))
  sNil)))
  (sSeq (sAsg (e1L (cFn 3 F__law_shift) (eCons (eVar 1) (eCons (eC (.int 27)) (eCons (eVar 2) eNil)))) (.nm 8))
  (sSeq (sFor (eItems (e1L dLst (eCons (e1 (dRgT (.int 0)) (eVar 2)) (eCons (eVar 8) (eCons (eSl (eVarB 8) (oSome (eC (.int 0))) (oSome (e2 dAdd (eC (.int 1)) (e2 dMod (e2 dIx (eVarB 1) (eC (.int 28))) (eVarB 2))))) (eCons (e1L (on1 dTuple) (eCons (e1L (on1 dSorted) (eCons (eSl (eVarB 8) (oSome (eC (.int 0))) (oSome (eC (.int 2)))) eNil)) eNil)) eNil)))))) (.nm 9)
  (sSeq (sAsg (e1L (on1 dList) (eCons (eVarB 6) eNil)) (.nm 12))
  (sIf (tOr (tNot (eTru (e1L (cFn 2 (F__law_same 4)) (eCons (e1L (cFn 3 F_view_after) (eCons (eVar 0) (eCons (eVar 6) (eCons (eVar 9) eNil)))) (eCons (e1L (on1 dTuple) (eCons (eComp (eItems (eVarB 9)) (.nm 16) [16] tTrue (e2 dIx (eVarB 7) (eVarB 16))) eNil)) eNil))))) (eBl (e2 dNe (eVarB 12) (eVarB 6))))
  (sRet (eC (.bl false)))
  sNil)))
  (sIf (tNot (eTru (e1L (cFn 2 (F__law_same 4)) (eCons (e1L (cFn 2 F_effect) (eCons (eVar 0) (eCons (eVar 6) eNil))) (eCons (eVar 7) eNil)))))
  (sRet (eC (.bl false)))
  sNil)))))))
  (sRet (eC (.bl true)))))))
def F__law_views_hold : List D → R D := runF 17 b__law_views_hold
theorem sc_law : FnScope ["script", "draws", "puzzle"] ["script"] (defScope s_law) := ⟨rfl, rfl, rfl, by decide +kernel, rfl, by decide +kernel, by decide +kernel⟩
def b_law : Ev → Out :=
  (sSeq (sAsg (e1L (cFn 3 F__law_draws) (eCons (eVar 0) (eCons (eC (.int 0)) (eCons (eC (.int 80)) eNil)))) (.nm 1))
  (sSeq (sAsg (e1L (cFn 1 F__law_puzzle) (eCons (eVar 1) eNil)) (.nm 2))
  (sRet (eAnd (e1L (cFn 2 F__law_checks_hold) (eCons (eVar 2) (eCons (eSl (eVarB 1) (oSome (eC (.int 20))) oNone) eNil))) (e1L (cFn 2 F__law_views_hold) (eCons (eVar 2) (eCons (e1L (cFn 3 F__law_draws) (eCons (eVar 0) (eCons (eC (.int 1)) (eCons (eC (.int 60)) eNil)))) eNil)))))))
def F_law : List D → R D := runF 3 b_law
end
end K53

/-! the derivations of k53, printed by gen.py -/
namespace K53
open PySem PySem.Spec PyProof.Rows L2 DL
section
variable {P : Program} {w : World} {K : PySem.W.Frag} {mg : Str → Option Value} {base : Heap} {a : Ad}
theorem ok__law_numbers (T : Tb K mg a) : FnOk P w K mg base (L2.CX P w) 1 a.f__law_numbers a.d__law_numbers ["cell", "count", "limit"] (FnS K (clA a) (GE K) 3 F__law_numbers) :=
  fn_e T.F__law_numbers sc__law_numbers rfl fun cdv A outer s H E hr =>
    (dss_cons (ds_own (i := 3) sc__law_numbers.nd rfl (by first | exact Or.inl rfl | exact Or.inr rfl) (df_lst da_nil))
    (dss_cons (ds_if (dt_ge (bv 0) (DX.b (de_pow (DX.b de_int) (DX.b de_int))))
    (dss_cons (ds_for gokE (p := (.nm 4)) (passes_of rfl) rfl (di_range1 (fz := true) rfl T.z_range (ev 1)) (dg_name (i := 4) sc__law_numbers.nd rfl (by first | exact Or.inl rfl | exact Or.inr rfl))
    (dss_cons (ds_app (i := 3) rfl (by first | exact Or.inl rfl | exact Or.inr (Or.inl rfl)) (de_mod (DX.b (de_int1 rfl T.z_int (dab_cons (bv 0) da_nil))) (bv 2)))
    (dss_one (ds_set (i := 0) sc__law_numbers.nd rfl (by first | exact Or.inl rfl | exact Or.inr rfl) (de_div (DX.b (de_int1 rfl T.z_int (dab_cons (bv 0) da_nil))) (bv 2))))))
    (dss_one (ds_frz 3 (ds_ret (ev 3)))))
    dss_nil)
    (dss_cons (ds_for gokE (p := (.nm 4)) (passes_of rfl) rfl (di_range1 (fz := true) rfl T.z_range (ev 1)) (dg_name (i := 4) sc__law_numbers.nd rfl (by first | exact Or.inl rfl | exact Or.inr rfl))
    (dss_cons (ds_set (i := 5) sc__law_numbers.nd rfl (by first | exact Or.inl rfl | exact Or.inr rfl) (de_mod (DX.b (de_int1 rfl T.z_int (dab_cons (DX.b (de_add (DX.b (de_add (DX.b (de_mul (bv 0) (DX.b de_int))) (DX.b (de_mul (bv 4) (DX.b de_int))))) (DX.b de_int))) da_nil))) (DX.b de_int)))
    (dss_cons (ds_set (i := 5) sc__law_numbers.nd rfl (by first | exact Or.inl rfl | exact Or.inr rfl) (de_mod (DX.b (de_int1 rfl T.z_int (dab_cons (DX.b (de_add (DX.b (de_add (DX.b (de_add (DX.b (de_mul (bv 5) (bv 5))) (DX.b (de_mul (bv 5) (DX.b de_int))))) (DX.b (de_mul (bv 4) (DX.b de_int))))) (DX.b de_int))) da_nil))) (DX.b de_int)))
    (dss_one (ds_app (i := 3) rfl (by first | exact Or.inl rfl | exact Or.inr (Or.inl rfl)) (de_mod (DX.b (de_int1 rfl T.z_int (dab_cons (DX.b (de_div (bv 5) (DX.b de_int))) da_nil))) (bv 2)))))))
    (dss_one (ds_frz 3 (ds_ret (ev 3)))))))
theorem ok__law_cell (T : Tb K mg a) : FnOk P w K mg base (L2.CX P w) 1 a.f__law_cell a.d__law_cell ["script", "k"] (FnS K (clA a) (GE K) 2 F__law_cell) :=
  fn_e T.F__law_cell sc__law_cell rfl fun cdv A outer s H E hr =>
    (dss_cons (ds_if (dt_lt (hu64 hr) (bv 1) (DX.b (de_len rfl T.z_len (dab_cons (bv 0) da_nil))))
    (dss_one (ds_ret (de_int1 rfl T.z_int (dab_cons (DX.b (de_ix (hu64 hr) (bv 0) (bv 1) (fun _ _ => rfl))) da_nil))))
    dss_nil)
    (dss_one (ds_ret de_int)))
theorem ok__law_draws (T : Tb K mg a) : FnOk P w K mg base (L2.CX P w) 2 a.f__law_draws a.d__law_draws ["script", "k", "count"] (FnS K (clA a) (GE K) 3 F__law_draws) :=
  fn_e T.F__law_draws sc__law_draws rfl fun cdv A outer s H E hr =>
    (dss_one (ds_ret (dc gokE (k := 1) (ok__law_numbers T) rfl (hr.mono (by omega)) rfl T.g__law_numbers T.k__law_numbers T.B__law_numbers (takes_of rfl rfl rfl rfl) (dae_cons (de_add (DX.b (dc gokE (k := 1) (ok__law_cell T) rfl (hr.mono (by omega)) rfl T.g__law_cell T.k__law_cell T.B__law_cell (takes_of rfl rfl rfl rfl) (dae_cons (ev 0) (dae_cons (ev 1) da_nil)) rfl)) (DX.b (de_mul (DX.b de_int) (bv 1)))) (dae_cons (ev 2) (dae_cons de_int da_nil))) rfl)))
theorem ok__law_shift (T : Tb K mg a) : FnOk P w K mg base (L2.CX P w) 1 a.f__law_shift a.d__law_shift ["draws", "at", "n"] (FnS K (clA a) (GE K) 3 F__law_shift) :=
  fn_e T.F__law_shift sc__law_shift rfl fun cdv A outer s H E hr =>
    (dss_cons (ds_own (i := 3) sc__law_shift.nd rfl (by first | exact Or.inl rfl | exact Or.inr rfl) (df_listRg1 rfl rfl T.z_list rfl T.z_range (ev 2)))
    (dss_cons (ds_own (i := 4) sc__law_shift.nd rfl (by first | exact Or.inl rfl | exact Or.inr rfl) (df_lst da_nil))
    (dss_cons (ds_for gokE (p := (.nm 5)) (passes_of rfl) rfl (di_range1 (fz := true) rfl T.z_range (ev 2)) (dg_name (i := 5) sc__law_shift.nd rfl (by first | exact Or.inl rfl | exact Or.inr rfl))
    (dss_one (ds_appPop (i := 4) (j := 3) rfl (by first | exact Or.inl rfl | exact Or.inr (Or.inl rfl)) rfl (by first | exact Or.inl rfl | exact Or.inr (Or.inl rfl)) (de_mod (DX.b (de_ix (hu64 hr) (bv 0) (DX.b (de_mod (DX.b (de_add (bv 1) (bv 5))) (DX.b (de_len rfl T.z_len (dab_cons (bv 0) da_nil))))) (fun _ _ => rfl))) (DX.b (de_len rfl T.z_len (dab_cons (bv 3) da_nil)))))))
    (dss_one (ds_ret (de_tupleX rfl T.z_tuple (dab_cons (bv 4) da_nil)))))))
theorem ok__law_puzzle (T : Tb K mg a) : FnOk P w K mg base (L2.CX P w) 2 a.f__law_puzzle a.d__law_puzzle ["draws"] (FnS K (clA a) (GE K) 1 F__law_puzzle) :=
  fn_e T.F__law_puzzle sc__law_puzzle rfl fun cdv A outer s H E hr =>
    (dss_cons (ds_set (i := 1) sc__law_puzzle.nd rfl (by first | exact Or.inl rfl | exact Or.inr rfl) (de_add (DX.b de_int) (DX.b (de_mod (DX.b (de_ix (hu64 hr) (bv 0) (DX.b de_int) (fun _ _ => rfl))) (DX.b de_int)))))
    (dss_cons (ds_set (i := 2) sc__law_puzzle.nd rfl (by first | exact Or.inl rfl | exact Or.inr rfl) (DX.fe (df_lst (dae_cons de_str (dae_cons de_str (dae_cons de_str (dae_cons de_str (dae_cons de_str (dae_cons de_str (dae_cons de_str (dae_cons de_str da_nil)))))))))))
    (dss_cons (ds_set (i := 3) sc__law_puzzle.nd rfl (by first | exact Or.inl rfl | exact Or.inr rfl) (de_mod (DX.b (de_ix (hu64 hr) (bv 0) (DX.b de_int) (fun _ _ => rfl))) (DX.b de_int)))
    (dss_cons (ds_own (i := 4) sc__law_puzzle.nd rfl (by first | exact Or.inl rfl | exact Or.inr rfl) (df_lst da_nil))
    (dss_cons (ds_for gokE (p := (.nm 5)) (passes_of rfl) rfl (di_range1 (fz := true) rfl T.z_range (de_add (DX.b de_int) (DX.b (de_mod (DX.b (de_ix (hu64 hr) (bv 0) (DX.b de_int) (fun _ _ => rfl))) (DX.b de_int))))) (dg_name (i := 5) sc__law_puzzle.nd rfl (by first | exact Or.inl rfl | exact Or.inr rfl))
    (dss_cons (ds_set (i := 6) sc__law_puzzle.nd rfl (by first | exact Or.inl rfl | exact Or.inr rfl) (dc gokE (k := 1) (ok__law_shift T) rfl (hr.mono (by omega)) rfl T.g__law_shift T.k__law_shift T.B__law_shift (takes_of rfl rfl rfl rfl) (dae_cons (ev 0) (dae_cons (de_add (DX.b de_int) (DX.b (de_mul (DX.b de_int) (bv 5)))) (dae_cons (ev 1) da_nil))) rfl))
    (dss_cons (ds_if (dt_eq (hu64 hr) (DX.b (de_mod (DX.b (de_ix (hu64 hr) (bv 0) (DX.b (de_add (DX.b de_int) (bv 5))) (fun _ _ => rfl))) (DX.b de_int))) (DX.b de_int))
    (dss_one (ds_set (i := 6) sc__law_puzzle.nd rfl (by first | exact Or.inl rfl | exact Or.inr rfl) (de_tupleX rfl T.z_tuple (dab_cons (DX.fb (lcF (p := (.nm 7)) rfl sc__law_puzzle.nd (di_range1 (fz := false) rfl T.z_range (ev 1)) (blkOk_by (N := ["draws", "n", "names", "first", "turns", "k", "shift", "spot"]) (sc := defScope s__law_puzzle) (own := [(("spot" : Str), 7)]) (by decide +kernel)) (by decide) (fun _ _ _ _ _ => (dg_name (i := 7) sc__law_puzzle.nd rfl (by first | exact Or.inl rfl | exact Or.inr rfl))) (fun _ _ _ _ _ => dts_nil) (fun _ _ _ _ _ => (de_mod (DX.b (de_int1 rfl T.z_int (dab_cons (DX.b (de_add (DX.b (de_add (bv 7) (DX.b de_int))) (bv 5))) da_nil))) (bv 1))))) da_nil))))
    dss_nil)
    (dss_one (ds_app (i := 4) rfl (by first | exact Or.inl rfl | exact Or.inr (Or.inl rfl)) (de_tup (dae_cons (de_ix (hu64 hr) (bv 2) (DX.b (de_mod (DX.b (de_int1 rfl T.z_int (dab_cons (DX.b (de_add (bv 3) (bv 5))) da_nil))) (DX.b de_int))) (fun _ _ => rfl)) (dae_cons (ev 6) da_nil))))))))
    (dss_one (ds_frz 4 (ds_ret (de_tup (dae_cons (ev 1) (dae_cons (ev 4) da_nil)))))))))))
theorem ok__law_all_moves (T : Tb K mg a) : FnOk P w K mg base (L2.CX P w) 1 a.f__law_all_moves a.d__law_all_moves ["puzzle", "draws", "count"] (FnS K (clA a) (GE K) 3 F__law_all_moves) :=
  fn_e T.F__law_all_moves sc__law_all_moves rfl fun cdv A outer s H E hr =>
    (dss_cons (ds_own (i := 3) sc__law_all_moves.nd rfl (by first | exact Or.inl rfl | exact Or.inr rfl) (df_lst da_nil))
    (dss_cons (ds_for gokE (p := (.nm 4)) (passes_of rfl) rfl (di_range1 (fz := true) rfl T.z_range (de_mul (DX.b de_int) (bv 2))) (dg_name (i := 4) sc__law_all_moves.nd rfl (by first | exact Or.inl rfl | exact Or.inr rfl))
    (dss_cons (ds_set (i := 5) sc__law_all_moves.nd rfl (by first | exact Or.inl rfl | exact Or.inr rfl) (de_add (DX.b (de_ix (hu64 hr) (bv 1) (DX.b (de_mod (bv 4) (DX.b (de_len rfl T.z_len (dab_cons (bv 1) da_nil))))) (fun _ _ => rfl))) (DX.b (de_mul (DX.b de_int) (DX.b (de_div (bv 4) (DX.b (de_len rfl T.z_len (dab_cons (bv 1) da_nil)))))))))
    (dss_cons (ds_set (i := 6) sc__law_all_moves.nd rfl (by first | exact Or.inl rfl | exact Or.inr rfl) (de_ix (hu64 hr) (DX.b (de_ix (hu64 hr) (DX.b (de_ix (hu64 hr) (bv 0) (DX.b de_int) (fun _ _ => rfl))) (DX.b (de_mod (bv 5) (DX.b (de_len rfl T.z_len (dab_cons (DX.b (de_ix (hu64 hr) (bv 0) (DX.b de_int) (fun _ _ => rfl))) da_nil))))) (fun _ _ => rfl))) (DX.b de_int) (fun _ _ => rfl)))
    (dss_cons (ds_set (i := 7) sc__law_all_moves.nd rfl (by first | exact Or.inl rfl | exact Or.inr rfl) (de_ix (hu64 hr) (DX.fb (df_lst (dae_cons de_int (dae_cons (de_neg (DX.b de_int)) (dae_cons de_int (dae_cons (de_neg (DX.b de_int)) (dae_cons (de_add (DX.b de_int) (DX.b (de_mod (DX.b (de_div (bv 5) (DX.b de_int))) (DX.b de_int)))) (dae_cons (de_sub (DX.b (de_sub (DX.b de_int) (DX.b de_int))) (DX.b (de_mod (DX.b (de_div (bv 5) (DX.b de_int))) (DX.b de_int)))) da_nil)))))))) (DX.b (de_mod (DX.b (de_div (bv 5) (DX.b de_int))) (DX.b de_int))) (fun _ _ => rfl)))
    (dss_one (ds_if (dt_w (dw_and (dt_notIn (hu65 hr) (DX.b (de_tup (dae_cons (ev 6) (dae_cons (ev 7) da_nil)))) (bv 3) rfl) (dw_and1 (dt_lt (hu64 hr) (DX.b (de_len rfl T.z_len (dab_cons (bv 3) da_nil))) (bv 2)))))
    (dss_one (ds_app (i := 3) rfl (by first | exact Or.inl rfl | exact Or.inr (Or.inl rfl)) (de_tup (dae_cons (ev 6) (dae_cons (ev 7) da_nil)))))
    dss_nil))))))
    (dss_cons (ds_for gokE (p := (.tup [(.nm 6), (.nm 8)])) (passes_of rfl) rfl (di_seqF (de_ix (hu64 hr) (bv 0) (DX.b de_int) (fun _ _ => rfl))) (dg_tup rfl (dgs_cons (dg_name (i := 6) sc__law_all_moves.nd rfl (by first | exact Or.inl rfl | exact Or.inr rfl)) (dgs_cons (dg_name (i := 8) sc__law_all_moves.nd rfl (by first | exact Or.inl rfl | exact Or.inr rfl)) dgs_nil)))
    (dss_one (ds_for gokE (p := (.nm 7)) (passes_of rfl) rfl (di_range2 (fz := true) rfl T.z_range de_int de_int) (dg_name (i := 7) sc__law_all_moves.nd rfl (by first | exact Or.inl rfl | exact Or.inr rfl))
    (dss_one (ds_for gokE (p := (.nm 9)) (passes_of rfl) rfl (di_seqF (DX.fe (df_lst (dae_cons (de_tup (dae_cons (ev 6) (dae_cons (ev 7) da_nil))) (dae_cons (de_tup (dae_cons (ev 6) (dae_cons (de_sub (DX.b de_int) (bv 7)) da_nil))) da_nil))))) (dg_name (i := 9) sc__law_all_moves.nd rfl (by first | exact Or.inl rfl | exact Or.inr rfl))
    (dss_one (ds_if (dt_w (dw_and (dt_notIn (hu65 hr) (bv 9) (bv 3) rfl) (dw_and1 (dt_lt (hu64 hr) (DX.b (de_len rfl T.z_len (dab_cons (bv 3) da_nil))) (bv 2)))))
    (dss_one (ds_app (i := 3) rfl (by first | exact Or.inl rfl | exact Or.inr (Or.inl rfl)) (ev 9)))
    dss_nil)))))))
    (dss_one (ds_frz 3 (ds_ret (ev 3)))))))
theorem ok__law_none (T : Tb K mg a) : FnOk P w K mg base (L2.CX P w) 1 a.f__law_none a.d__law_none ["puzzle", "move"] (FnS K (clA a) (GE K) 2 F__law_none) :=
  fn_e T.F__law_none sc__law_none rfl fun cdv A outer s H E hr =>
    (dss_cons (ds_asg (ev 1) (dg_tup rfl (dgs_cons (dg_name (i := 5) sc__law_none.nd rfl (by first | exact Or.inl rfl | exact Or.inr rfl)) (dgs_cons (dg_name (i := 6) sc__law_none.nd rfl (by first | exact Or.inl rfl | exact Or.inr rfl)) dgs_nil))))
    (dss_cons (ds_set (i := 2) sc__law_none.nd rfl (by first | exact Or.inl rfl | exact Or.inr rfl) (DX.fe (lcF (p := (.tup [(.nm 7), (.nm 8)])) rfl sc__law_none.nd (di_seqB (DX.b (de_ix (hu64 hr) (bv 0) (DX.b de_int) (fun _ _ => rfl)))) (blkOk_by (N := ["puzzle", "move", "names", "strange", "found", "name", "times", "other", "shift"]) (sc := defScope s__law_none) (own := [(("other" : Str), 7), (("shift" : Str), 8)]) (by decide +kernel)) (by decide) (fun _ _ _ _ _ => (dg_tup rfl (dgs_cons (dg_name (i := 7) sc__law_none.nd rfl (by first | exact Or.inl rfl | exact Or.inr rfl)) (dgs_cons (dg_name (i := 8) sc__law_none.nd rfl (by first | exact Or.inl rfl | exact Or.inr rfl)) dgs_nil)))) (fun _ _ _ _ _ => dts_nil) (fun _ _ _ _ _ => (ev 7)))))
    (dss_cons (lcSet (i := 3) (p := (.nm 7)) rfl sc__law_none.nd rfl rfl (sw_true rfl rfl rfl (by decide +kernel)) (di_seqB (DX.fb (df_lst (dae_cons de_str (dae_cons de_str (dae_cons de_str (dae_cons de_str (dae_cons de_str (dae_cons de_str (dae_cons de_str (dae_cons de_str (dae_cons de_str (dae_cons de_str (dae_cons de_str da_nil)))))))))))))) (blkOk_by (N := ["puzzle", "move", "names", "strange", "found", "name", "times", "other", "shift"]) (sc := defScope s__law_none) (own := [(("other" : Str), 7)]) (by decide +kernel)) (by decide) (fun _ _ _ _ _ => (dg_name (i := 7) sc__law_none.nd rfl (by first | exact Or.inl rfl | exact Or.inr rfl))) (fun _ _ _ _ _ => (dts_one (dt_notIn (hu65 hr) (bv 7) (bv 2) rfl))) (fun _ _ _ _ _ => (ev 7)))
    (dss_cons (ds_set (i := 4) sc__law_none.nd rfl (by first | exact Or.inl rfl | exact Or.inr rfl) (DX.fe (df_lst (dae_cons (de_tup (dae_cons (ev 5) (dae_cons de_int da_nil))) (dae_cons (de_tup (dae_cons (ev 5) (dae_cons de_int da_nil))) (dae_cons (de_tup (dae_cons (ev 5) (dae_cons (de_neg (DX.b de_int)) da_nil))) (dae_cons (de_tup (dae_cons (ev 5) (dae_cons de_bl da_nil))) (dae_cons (de_tup (dae_cons (ev 5) (dae_cons de_str da_nil))) (dae_cons (de_tup (dae_cons (ev 5) (dae_cons de_non da_nil))) (dae_cons (de_tup (dae_cons (ev 5) (dae_cons (DX.fe (df_lst (dae_cons de_int da_nil))) da_nil))) (dae_cons (de_tup (dae_cons (ev 5) da_nil)) (dae_cons (de_tup (dae_cons (ev 5) (dae_cons (ev 6) (dae_cons (ev 6) da_nil)))) da_nil))))))))))))
    (dss_cons (ds_set (i := 4) sc__law_none.nd rfl (by first | exact Or.inl rfl | exact Or.inr rfl) (de_add (bv 4) (DX.fb (df_lst (dae_cons (DX.fe (df_lst (dae_cons (ev 5) (dae_cons (ev 6) da_nil)))) (dae_cons (de_tup (dae_cons (ev 6) (dae_cons (ev 5) da_nil))) (dae_cons (de_tup (dae_cons (DX.fe (df_lst (dae_cons (ev 5) da_nil))) (dae_cons (ev 6) da_nil))) (dae_cons de_non (dae_cons (ev 5) (dae_cons (ev 6) (dae_cons (de_tup da_nil) (dae_cons (de_tup (dae_cons (de_tup (dae_cons (ev 5) (dae_cons (ev 6) da_nil))) da_nil)) (dae_cons (de_tup (dae_cons (ev 5) (dae_cons (de_pow (DX.b de_int) (DX.b de_int)) da_nil))) da_nil)))))))))))))
    (dss_one (ds_ret (de_add (bv 4) (DX.fb (lcF (p := (.nm 7)) rfl sc__law_none.nd (di_seqB (bv 3)) (blkOk_by (N := ["puzzle", "move", "names", "strange", "found", "name", "times", "other", "shift"]) (sc := defScope s__law_none) (own := [(("other" : Str), 7)]) (by decide +kernel)) (by decide) (fun _ _ _ _ _ => (dg_name (i := 7) sc__law_none.nd rfl (by first | exact Or.inl rfl | exact Or.inr rfl))) (fun _ _ _ _ _ => dts_nil) (fun _ _ _ _ _ => (de_tup (dae_cons (ev 7) (dae_cons (ev 6) da_nil))))))))))))))
theorem ok_names_of (T : Tb K mg a) : FnOk P w K mg base (L2.CX P w) 1 a.f_names_of a.d_names_of ["puzzle"] (FnS K (clA a) (GE K) 1 F_names_of) :=
  fn_e T.F_names_of sc_names_of rfl fun cdv A outer s H E hr =>
    (dss_one (ds_ret (DX.fe (dcF (p := (.tup [(.nm 1), (.nm 2)])) rfl sc_names_of.nd (di_seqB (DX.b (de_ix (hu64 hr) (bv 0) (DX.b de_int) (fun _ _ => rfl)))) (blkOk_by (N := ["puzzle", "name", "shift"]) (sc := defScope s_names_of) (own := [(("name" : Str), 1), (("shift" : Str), 2)]) (by decide +kernel)) (by decide) (fun _ _ _ _ _ => (dg_tup rfl (dgs_cons (dg_name (i := 1) sc_names_of.nd rfl (by first | exact Or.inl rfl | exact Or.inr rfl)) (dgs_cons (dg_name (i := 2) sc_names_of.nd rfl (by first | exact Or.inl rfl | exact Or.inr rfl)) dgs_nil)))) (fun _ _ _ _ _ => dts_nil) (fun _ _ _ _ _ => (ev 1)) (fun _ _ _ _ _ => (ev 2))))))
theorem ok_is_whole (T : Tb K mg a) : FnOk P w K mg base (L2.CX P w) 1 a.f_is_whole a.d_is_whole ["value"] (FnS K (clA a) (GE K) 1 F_is_whole) :=
  fn_e T.F_is_whole sc_is_whole rfl fun cdv A outer s H E hr =>
    (dss_one (ds_ret (de_and (de_is kit_int rfl T.z_isinstance rfl T.z_int (by decide +kernel) (bv 0)) (de_and1 (de_not (de_is kit_bool rfl T.z_isinstance rfl T.z_bool (by decide +kernel) (bv 0)))))))
theorem ok_is_row_item (T : Tb K mg a) : FnOk P w K mg base (L2.CX P w) 2 a.f_is_row_item a.d_is_row_item ["known", "item"] (FnS K (clA a) (GE K) 2 F_is_row_item) :=
  fn_e T.F_is_row_item sc_is_row_item rfl fun cdv A outer s H E hr =>
    (dss_cons (ds_if (dt_w (dw_or (dt_not (dt_tru (DX.b (de_is kit_tup rfl T.z_isinstance rfl T.z_tuple (by decide +kernel) (bv 1))))) (dw_or (dt_ne (hu64 hr) (DX.b (de_len rfl T.z_len (dab_cons (bv 1) da_nil))) (DX.b de_int)) (dw_or (dt_not (dt_tru (DX.b (de_is kit_str rfl T.z_isinstance rfl T.z_str (by decide +kernel) (DX.b (de_ix (hu64 hr) (bv 1) (DX.b de_int) (fun _ _ => rfl))))))) (dw_or1 (dt_notIn (hu65 hr) (DX.b (de_ix (hu64 hr) (bv 1) (DX.b de_int) (fun _ _ => rfl))) (bv 0) rfl))))))
    (dss_one (ds_ret de_bl))
    dss_nil)
    (dss_one (ds_ret (de_and (dc gokE (k := 1) (ok_is_whole T) rfl (hr.mono (by omega)) rfl T.g_is_whole T.k_is_whole T.B_is_whole (takes_of rfl rfl rfl rfl) (dae_cons (de_ix (hu64 hr) (bv 1) (DX.b de_int) (fun _ _ => rfl)) da_nil) rfl) (de_and1 (de_chain op_le op_le le_ok le_ok (DX.b (de_neg (DX.b (de_gint rfl T.n_MOST_TIMES)))) (DX.b (de_ix (hu64 hr) (bv 1) (DX.b de_int) (fun _ _ => rfl))) (DX.b (de_gint rfl T.n_MOST_TIMES))))))))
theorem ok_check_moves (T : Tb K mg a) : FnOk P w K mg base (L2.CX P w) 3 a.f_check_moves a.d_check_moves ["puzzle", "moves"] (FnS K (clA a) (GE K) 2 F_check_moves) :=
  fn_e T.F_check_moves sc_check_moves rfl fun cdv A outer s H E hr =>
    (dss_cons (ds_set (i := 2) sc_check_moves.nd rfl (by first | exact Or.inl rfl | exact Or.inr rfl) (dc gokE (k := 1) (ok_names_of T) rfl (hr.mono (by omega)) rfl T.g_names_of T.k_names_of T.B_names_of (takes_of rfl rfl rfl rfl) (dae_cons (ev 0) da_nil) rfl))
    (dss_cons (ds_own (i := 3) sc_check_moves.nd rfl (by first | exact Or.inl rfl | exact Or.inr rfl) df_dnewT)
    (dss_cons (ds_for gokE (p := (.nm 4)) (passes_of rfl) rfl (di_seqF (ev 1)) (dg_name (i := 4) sc_check_moves.nd rfl (by first | exact Or.inl rfl | exact Or.inr rfl))
    (dss_cons (ds_if (dt_w (dw_or (dt_not (dt_tru (DX.b (dc gokE (k := 2) (ok_is_row_item T) rfl (hr.mono (by omega)) rfl T.g_is_row_item T.k_is_row_item T.B_is_row_item (takes_of rfl rfl rfl rfl) (dae_cons (ev 2) (dae_cons (ev 4) da_nil)) rfl)))) (dw_or (dt_eq (hu64 hr) (DX.b (de_ix (hu64 hr) (bv 4) (DX.b de_int) (fun _ _ => rfl))) (DX.b de_int)) (dw_or1 (dt_in (hu65 hr) (bv 4) (bv 3) rfl)))))
    (dss_one (ds_raise rfl (takes_of rfl rfl rfl rfl) (pmk_own PySem.F.excBase_ValueError T.x_InvalidMove T.g_InvalidMove T.k_InvalidMove (raises_own T.b_InvalidMove T.t_InvalidMove) rfl) (c := 3) rfl))
    dss_nil)
    (dss_one (ds_put (i := 3) (hu64 hr) rfl (by first | exact Or.inl rfl | exact Or.inr (Or.inl rfl)) (ev 4) de_bl))))
    (dss_one (ds_if (dt_not (dt_chain op_le op_le le_ok le_ok (DX.b de_int) (DX.b (de_len rfl T.z_len (dab_cons (bv 1) da_nil))) (DX.b (de_gint rfl T.n_MOST_MOVES))))
    (dss_one (ds_raise rfl (takes_of rfl rfl rfl rfl) (pmk_own PySem.F.excBase_ValueError T.x_WrongCount T.g_WrongCount T.k_WrongCount (raises_own T.b_WrongCount T.t_WrongCount) rfl) (c := 2) rfl))
    dss_nil)))))
theorem ok__law_checked (T : Tb K mg a) : FnOk P w K mg base (L2.CX P w) 4 a.f__law_checked a.d__law_checked ["puzzle", "moves"] (FnS K (clA a) (GE K) 2 F__law_checked) :=
  fn_e T.F__law_checked sc__law_checked rfl fun cdv A outer s H E hr =>
    (dss_one (ds_try T.ext rfl rfl sc__law_checked.nd (takes_of rfl rfl rfl rfl) (fun W2 pn xe tk2 hp2 => (dss_one (ds_ret (de_ix (hu64 hr) (DX.fb (df_lst (dae_cons de_str (dae_cons de_str da_nil)))) (DX.b (de_int1 rfl T.z_int (dab_cons (DX.b (de_isN (DX.b (dc gokE (k := 3) (ok_check_moves T) rfl (hr.mono (by omega)) rfl T.g_check_moves T.k_check_moves T.B_check_moves tk2 (dae_cons (ev 0) (dae_cons (ev 1) da_nil)) rfl)) (DX.b de_non))) da_nil))) (fun _ _ => rfl)))))
    (HsD.as (c := 3) (i := 2) (s := (fun e aE => (sRet (e2 dIx (e1L dLst (eCons (eC (.str ("other" : Str))) (eCons (eC (.str ("move" : Str))) eNil))) (e1L (on1 dInt) (eCons (eAnd (eIsE sbA e 0 aE 2) (e1 dNot (eIsE sbA e 1 aE 2))) eNil)))))) ⟨rfl, by decide, .inl T.g_InvalidMove⟩ rfl rfl (fun aE oe e pn hz hv => (dss_one (ds_ret (de_ix (hu64s hr) (DX.fb (df_lst (dae_cons de_str (dae_cons de_str da_nil)))) (DX.b (de_int1 rfl T.z_int (dab_cons (DX.b (de_and (de_isE (c := 0) (i := 2) T.ext hz hv rfl (by first | exact Or.inl rfl | exact Or.inr (Or.inl rfl)) rfl T.z_isinstance rfl T.g_PuzzleError rfl) (de_and1 (de_not (de_isE (c := 1) (i := 2) T.ext hz hv rfl (by first | exact Or.inl rfl | exact Or.inr (Or.inl rfl)) rfl T.z_isinstance rfl T.g_InvalidRow rfl))))) da_nil))) (fun _ _ => rfl))))) (by intro e aE ρ; simp only [offO_sRet, e2, e1, e1L, eC, eCons, eNil, eAnd, eOr, eIsE_set]) (HsD.as (c := 2) (i := 2) (s := (fun e aE => (sRet (e2 dIx (e1L dLst (eCons (eC (.str ("other" : Str))) (eCons (eC (.str ("count" : Str))) eNil))) (e1L (on1 dInt) (eCons (eAnd (eIsE sbA e 0 aE 2) (e1 dNot (eIsE sbA e 3 aE 2))) eNil)))))) ⟨rfl, by decide, .inl T.g_WrongCount⟩ rfl rfl (fun aE oe e pn hz hv => (dss_one (ds_ret (de_ix (hu64s hr) (DX.fb (df_lst (dae_cons de_str (dae_cons de_str da_nil)))) (DX.b (de_int1 rfl T.z_int (dab_cons (DX.b (de_and (de_isE (c := 0) (i := 2) T.ext hz hv rfl (by first | exact Or.inl rfl | exact Or.inr (Or.inl rfl)) rfl T.z_isinstance rfl T.g_PuzzleError rfl) (de_and1 (de_not (de_isE (c := 3) (i := 2) T.ext hz hv rfl (by first | exact Or.inl rfl | exact Or.inr (Or.inl rfl)) rfl T.z_isinstance rfl T.g_InvalidMove rfl))))) da_nil))) (fun _ _ => rfl))))) (by intro e aE ρ; simp only [offO_sRet, e2, e1, e1L, eC, eCons, eNil, eAnd, eOr, eIsE_set]) HsD.nil))))
theorem ok__law_checks_hold (T : Tb K mg a) : FnOk P w K mg base (L2.CX P w) 5 a.f__law_checks_hold a.d__law_checks_hold ["puzzle", "draws"] (FnS K (clA a) (GE K) 2 F__law_checks_hold) :=
  fn_e T.F__law_checks_hold sc__law_checks_hold rfl fun cdv A outer s H E hr =>
    (dss_cons (ds_set (i := 2) sc__law_checks_hold.nd rfl (by first | exact Or.inl rfl | exact Or.inr rfl) (dc gokE (k := 1) (ok__law_all_moves T) rfl (hr.mono (by omega)) rfl T.g__law_all_moves T.k__law_all_moves T.B__law_all_moves (takes_of rfl rfl rfl rfl) (dae_cons (ev 0) (dae_cons (de_sl (bv 1) (do_some de_int) (do_some de_int)) (dae_cons (de_add (DX.b de_int) (DX.b (de_mod (DX.b (de_ix (hu64 hr) (bv 1) (DX.b de_int) (fun _ _ => rfl))) (DX.b de_int)))) da_nil))) rfl))
    (dss_cons (ds_set (i := 3) sc__law_checks_hold.nd rfl (by first | exact Or.inl rfl | exact Or.inr rfl) (dc gokE (k := 1) (ok__law_all_moves T) rfl (hr.mono (by omega)) rfl T.g__law_all_moves T.k__law_all_moves T.B__law_all_moves (takes_of rfl rfl rfl rfl) (dae_cons (ev 0) (dae_cons (de_sl (bv 1) (do_some de_int) (do_some de_int)) (dae_cons (de_add (DX.b de_int) (DX.b (de_mod (DX.b (de_ix (hu64 hr) (bv 1) (DX.b de_int) (fun _ _ => rfl))) (DX.b de_int)))) da_nil))) rfl))
    (dss_cons (ds_set (i := 4) sc__law_checks_hold.nd rfl (by first | exact Or.inl rfl | exact Or.inr rfl) (dc gokE (k := 1) (ok__law_all_moves T) rfl (hr.mono (by omega)) rfl T.g__law_all_moves T.k__law_all_moves T.B__law_all_moves (takes_of rfl rfl rfl rfl) (dae_cons (ev 0) (dae_cons (de_sl (bv 1) (do_some de_int) (do_some de_int)) (dae_cons de_int da_nil))) rfl))
    (dss_cons (ds_set (i := 5) sc__law_checks_hold.nd rfl (by first | exact Or.inl rfl | exact Or.inr rfl) (de_mod (DX.b (de_ix (hu64 hr) (bv 1) (DX.b de_int) (fun _ _ => rfl))) (DX.b (de_add (DX.b (de_len rfl T.z_len (dab_cons (bv 2) da_nil))) (DX.b de_int)))))
    (dss_cons (ds_set (i := 6) sc__law_checks_hold.nd rfl (by first | exact Or.inl rfl | exact Or.inr rfl) (de_add (DX.b (de_add (DX.b (de_sl (bv 2) (do_some de_int) (do_some (ev 5)))) (DX.fb (df_lst (dae_cons (de_ix (hu64 hr) (bv 2) (DX.b (de_mod (DX.b (de_ix (hu64 hr) (bv 1) (DX.b de_int) (fun _ _ => rfl))) (DX.b (de_len rfl T.z_len (dab_cons (bv 2) da_nil))))) (fun _ _ => rfl)) da_nil))))) (DX.b (de_sl (bv 2) (do_some (ev 5)) do_none))))
    (dss_cons (ds_set (i := 7) sc__law_checks_hold.nd rfl (by first | exact Or.inl rfl | exact Or.inr rfl) (DX.fe (df_lst (dae_cons (de_tup (dae_cons (ev 2) (dae_cons de_str da_nil))) (dae_cons (de_tup (dae_cons (ev 4) (dae_cons de_str da_nil))) (dae_cons (de_tup (dae_cons (DX.fe (df_rev (bv 2))) (dae_cons de_str da_nil))) (dae_cons (de_tup (dae_cons (DX.fe (df_lst da_nil)) (dae_cons de_str da_nil))) (dae_cons (de_tup (dae_cons (ev 3) (dae_cons de_str da_nil))) (dae_cons (de_tup (dae_cons (ev 6) (dae_cons de_str da_nil))) (dae_cons (de_tup (dae_cons (de_add (bv 3) (DX.b (de_sl (bv 3) (do_some de_int) (do_some de_int)))) (dae_cons de_str da_nil))) da_nil))))))))))
    (dss_cons (ds_for gokE (p := (.nm 8)) (passes_of rfl) rfl (di_seqF (dc gokE (k := 1) (ok__law_none T) rfl (hr.mono (by omega)) rfl T.g__law_none T.k__law_none T.B__law_none (takes_of rfl rfl rfl rfl) (dae_cons (ev 0) (dae_cons (de_ix (hu64 hr) (bv 2) (DX.b (de_mod (DX.b (de_ix (hu64 hr) (bv 1) (DX.b de_int) (fun _ _ => rfl))) (DX.b (de_len rfl T.z_len (dab_cons (bv 2) da_nil))))) (fun _ _ => rfl)) da_nil)) rfl)) (dg_name (i := 8) sc__law_checks_hold.nd rfl (by first | exact Or.inl rfl | exact Or.inr rfl))
    (dss_one (ds_set (i := 7) sc__law_checks_hold.nd rfl (by first | exact Or.inl rfl | exact Or.inr rfl) (de_add (bv 7) (DX.fb (df_lst (dae_cons (de_tup (dae_cons (de_add (DX.b (de_add (DX.b (de_sl (bv 2) (do_some de_int) (do_some (ev 5)))) (DX.fb (df_lst (dae_cons (ev 8) da_nil))))) (DX.b (de_sl (bv 2) (do_some (ev 5)) do_none))) (dae_cons de_str da_nil))) (dae_cons (de_tup (dae_cons (de_add (DX.b (de_add (DX.b (de_sl (bv 3) (do_some de_int) (do_some (ev 5)))) (DX.fb (df_lst (dae_cons (ev 8) da_nil))))) (DX.b (de_sl (bv 3) (do_some (ev 5)) do_none))) (dae_cons de_str da_nil))) da_nil))))))))
    (dss_cons (ds_set (i := 7) sc__law_checks_hold.nd rfl (by first | exact Or.inl rfl | exact Or.inr rfl) (de_add (bv 7) (DX.fb (df_lst (dae_cons (de_tup (dae_cons (de_add (bv 4) (DX.fb (df_lst (dae_cons de_non da_nil)))) (dae_cons de_str da_nil))) (dae_cons (de_tup (dae_cons (de_add (DX.fb (df_lst (dae_cons de_non da_nil))) (bv 4)) (dae_cons de_str da_nil))) (dae_cons (de_tup (dae_cons (DX.fe (df_lst (dae_cons de_non da_nil))) (dae_cons de_str da_nil))) da_nil)))))))
    (dss_cons (ds_for gokE (p := (.tup [(.nm 9), (.nm 10)])) (passes_of rfl) rfl (di_seqF (ev 7)) (dg_tup rfl (dgs_cons (dg_name (i := 9) sc__law_checks_hold.nd rfl (by first | exact Or.inl rfl | exact Or.inr rfl)) (dgs_cons (dg_name (i := 10) sc__law_checks_hold.nd rfl (by first | exact Or.inl rfl | exact Or.inr rfl)) dgs_nil)))
    (dss_cons (ds_set (i := 11) sc__law_checks_hold.nd rfl (by first | exact Or.inl rfl | exact Or.inr rfl) (DX.fe (df_list rfl T.z_list (dab_cons (bv 9) da_nil))))
    (dss_one (ds_if (dt_w (dw_or (dt_ne (hu64 hr) (DX.b (dc gokE (k := 4) (ok__law_checked T) rfl (hr.mono (by omega)) rfl T.g__law_checked T.k__law_checked T.B__law_checked (takes_of rfl rfl rfl rfl) (dae_cons (ev 0) (dae_cons (ev 9) da_nil)) rfl)) (bv 10)) (dw_or1 (dt_ne (hu64 hr) (bv 11) (bv 9)))))
    (dss_one (ds_ret de_bl))
    dss_nil))))
    (dss_one (ds_ret de_bl)))))))))))
theorem ok__law_same (T : Tb K mg a) : ∀ n : Nat, FnOk P w K mg base (L2.CX P w) (n + 1) a.f__law_same a.d__law_same ["told", "due"] (FnS K (clA a) (GE K) 2 (F__law_same n))
  | 0 => fn_no rfl
  | n + 1 => by
    have ih := ok__law_same T n
    exact fn_e T.F__law_same sc__law_same rfl fun cdv A outer s H E hr =>
    (dss_cons (ds_if (dt_tru (DX.b (de_is kit_lst rfl T.z_isinstance rfl T.z_list (by decide +kernel) (bv 1))))
    (dss_one (ds_if (dt_w (dw_or (dt_not (dt_tru (DX.b (de_is kit_lst rfl T.z_isinstance rfl T.z_list (by decide +kernel) (bv 0))))) (dw_or1 (dt_ne (hu64 hr) (DX.b (de_len rfl T.z_len (dab_cons (bv 0) da_nil))) (DX.b (de_len rfl T.z_len (dab_cons (bv 1) da_nil)))))))
    (dss_one (ds_ret de_bl))
    dss_nil))
    (dss_one (ds_if (dt_tru (DX.b (de_is kit_tup rfl T.z_isinstance rfl T.z_tuple (by decide +kernel) (bv 1))))
    (dss_one (ds_if (dt_w (dw_or (dt_not (dt_tru (DX.b (de_is kit_tup rfl T.z_isinstance rfl T.z_tuple (by decide +kernel) (bv 0))))) (dw_or1 (dt_ne (hu64 hr) (DX.b (de_len rfl T.z_len (dab_cons (bv 0) da_nil))) (DX.b (de_len rfl T.z_len (dab_cons (bv 1) da_nil)))))))
    (dss_one (ds_ret de_bl))
    dss_nil))
    (dss_one (ds_if (dt_isN (bv 1) (DX.b de_non))
    (dss_one (ds_ret (de_isN (bv 0) (DX.b de_non))))
    (dss_one (ds_if (dt_tru (DX.b (de_is kit_bool rfl T.z_isinstance rfl T.z_bool (by decide +kernel) (bv 1))))
    (dss_one (ds_ret (de_and (de_is kit_bool rfl T.z_isinstance rfl T.z_bool (by decide +kernel) (bv 0)) (de_and1 (de_eq (hu64 hr) (bv 0) (bv 1))))))
    (dss_one (ds_if (dt_tru (DX.b (de_is kit_int rfl T.z_isinstance rfl T.z_int (by decide +kernel) (bv 1))))
    (dss_one (ds_ret (de_and (de_is kit_int rfl T.z_isinstance rfl T.z_int (by decide +kernel) (bv 0)) (de_and (de_not (de_is kit_bool rfl T.z_isinstance rfl T.z_bool (by decide +kernel) (bv 0))) (de_and1 (de_eq (hu64 hr) (bv 0) (bv 1)))))))
    (dss_one (ds_ret (de_and (de_is kit_str rfl T.z_isinstance rfl T.z_str (by decide +kernel) (bv 0)) (de_and1 (de_eq (hu64 hr) (bv 0) (bv 1)))))))))))))))
    (dss_cons (ds_for gokE (p := (.nm 2)) (passes_of rfl) rfl (di_range1 (fz := true) rfl T.z_range (de_len rfl T.z_len (dab_cons (bv 1) da_nil))) (dg_name (i := 2) sc__law_same.nd rfl (by first | exact Or.inl rfl | exact Or.inr rfl))
    (dss_one (ds_if (dt_not (dt_tru (DX.b (dc gokE ih rfl (hr.mono (by omega)) rfl T.g__law_same T.k__law_same T.B__law_same (takes_of rfl rfl rfl rfl) (dae_cons (de_ix (hu64 hr) (bv 0) (bv 2) (fun _ _ => rfl)) (dae_cons (de_ix (hu64 hr) (bv 1) (bv 2) (fun _ _ => rfl)) da_nil)) rfl))))
    (dss_one (ds_ret de_bl))
    dss_nil)))
    (dss_one (ds_ret de_bl))))
theorem ok_unit (T : Tb K mg a) : FnOk P w K mg base (L2.CX P w) 1 a.f_unit a.d_unit ["n"] (FnS K (clA a) (GE K) 1 F_unit) :=
  fn_e T.F_unit sc_unit rfl fun cdv A outer s H E hr =>
    (dss_one (ds_ret (de_tupRg1 rfl rfl T.z_tuple rfl T.z_range (ev 0))))
theorem ok_product (T : Tb K mg a) : FnOk P w K mg base (L2.CX P w) 1 a.f_product a.d_product ["one", "other"] (FnS K (clA a) (GE K) 2 F_product) :=
  fn_e T.F_product sc_product rfl fun cdv A outer s H E hr =>
    (dss_one (ds_ret (de_tuple rfl T.z_tuple (dab_cons (DX.fb (lcF (p := (.nm 2)) rfl sc_product.nd (di_seqB (bv 0)) (blkOk_by (N := ["one", "other", "spot"]) (sc := defScope s_product) (own := [(("spot" : Str), 2)]) (by decide +kernel)) (by decide) (fun _ _ _ _ _ => (dg_name (i := 2) sc_product.nd rfl (by first | exact Or.inl rfl | exact Or.inr rfl))) (fun _ _ _ _ _ => dts_nil) (fun _ _ _ _ _ => (de_ix (hu64 hr) (bv 1) (bv 2) (fun _ _ => rfl))))) da_nil))))
theorem ok_inverse (T : Tb K mg a) : FnOk P w K mg base (L2.CX P w) 1 a.f_inverse a.d_inverse ["shift"] (FnS K (clA a) (GE K) 1 F_inverse) :=
  fn_e T.F_inverse sc_inverse rfl fun cdv A outer s H E hr =>
    (dss_cons (ds_own (i := 1) sc_inverse.nd rfl (by first | exact Or.inl rfl | exact Or.inr rfl) (df_rep (DX.fb (df_lst (dae_cons de_int da_nil))) (DX.b (de_len rfl T.z_len (dab_cons (bv 0) da_nil)))))
    (dss_cons (ds_for gokE (p := (.tup [(.nm 2), (.nm 3)])) (passes_of rfl) rfl (di_enum (fz := true) rfl T.z_enumerate (ev 0)) (dg_tup rfl (dgs_cons (dg_name (i := 2) sc_inverse.nd rfl (by first | exact Or.inl rfl | exact Or.inr rfl)) (dgs_cons (dg_name (i := 3) sc_inverse.nd rfl (by first | exact Or.inl rfl | exact Or.inr rfl)) dgs_nil)))
    (dss_one (ds_put (i := 1) (hu64 hr) rfl (by first | exact Or.inl rfl | exact Or.inr (Or.inl rfl)) (ev 3) (ev 2))))
    (dss_one (ds_ret (de_tuple rfl T.z_tuple (dab_cons (bv 1) da_nil))))))
theorem ok_power (T : Tb K mg a) : FnOk P w K mg base (L2.CX P w) 2 a.f_power a.d_power ["shift", "times"] (FnS K (clA a) (GE K) 2 F_power) :=
  fn_e T.F_power sc_power rfl fun cdv A outer s H E hr =>
    (dss_cons (ds_set (i := 2) sc_power.nd rfl (by first | exact Or.inl rfl | exact Or.inr rfl) (dx_if gokE (dt_ge (bv 1) (DX.b de_int)) (ev 0) (dc gokE (k := 1) (ok_inverse T) rfl (hr.mono (by omega)) rfl T.g_inverse T.k_inverse T.B_inverse (takes_of rfl rfl rfl rfl) (dae_cons (ev 0) da_nil) rfl)))
    (dss_cons (ds_set (i := 3) sc_power.nd rfl (by first | exact Or.inl rfl | exact Or.inr rfl) (dc gokE (k := 1) (ok_unit T) rfl (hr.mono (by omega)) rfl T.g_unit T.k_unit T.B_unit (takes_of rfl rfl rfl rfl) (dae_cons (de_len rfl T.z_len (dab_cons (bv 0) da_nil)) da_nil) rfl))
    (dss_cons (ds_for gokE (p := (.nm 4)) (passes_of rfl) rfl (di_range1 (fz := true) rfl T.z_range (de_abs rfl T.z_abs (dab_cons (bv 1) da_nil))) (dg_name (i := 4) sc_power.nd rfl (by first | exact Or.inl rfl | exact Or.inr rfl))
    (dss_one (ds_set (i := 3) sc_power.nd rfl (by first | exact Or.inl rfl | exact Or.inr rfl) (dc gokE (k := 1) (ok_product T) rfl (hr.mono (by omega)) rfl T.g_product T.k_product T.B_product (takes_of rfl rfl rfl rfl) (dae_cons (ev 3) (dae_cons (ev 2) da_nil)) rfl))))
    (dss_one (ds_ret (ev 3))))))
theorem ok_effect (T : Tb K mg a) : FnOk P w K mg base (L2.CX P w) 3 a.f_effect a.d_effect ["puzzle", "row"] (FnS K (clA a) (GE K) 2 F_effect) :=
  fn_e T.F_effect sc_effect rfl fun cdv A outer s H E hr =>
    (dss_cons (ds_set (i := 2) sc_effect.nd rfl (by first | exact Or.inl rfl | exact Or.inr rfl) (dc gokE (k := 1) (ok_names_of T) rfl (hr.mono (by omega)) rfl T.g_names_of T.k_names_of T.B_names_of (takes_of rfl rfl rfl rfl) (dae_cons (ev 0) da_nil) rfl))
    (dss_cons (ds_set (i := 3) sc_effect.nd rfl (by first | exact Or.inl rfl | exact Or.inr rfl) (dc gokE (k := 1) (ok_unit T) rfl (hr.mono (by omega)) rfl T.g_unit T.k_unit T.B_unit (takes_of rfl rfl rfl rfl) (dae_cons (de_ix (hu64 hr) (bv 0) (DX.b de_int) (fun _ _ => rfl)) da_nil) rfl))
    (dss_cons (ds_for gokE (p := (.tup [(.nm 4), (.nm 5)])) (passes_of rfl) rfl (di_seqF (ev 1)) (dg_tup rfl (dgs_cons (dg_name (i := 4) sc_effect.nd rfl (by first | exact Or.inl rfl | exact Or.inr rfl)) (dgs_cons (dg_name (i := 5) sc_effect.nd rfl (by first | exact Or.inl rfl | exact Or.inr rfl)) dgs_nil)))
    (dss_one (ds_set (i := 3) sc_effect.nd rfl (by first | exact Or.inl rfl | exact Or.inr rfl) (dc gokE (k := 1) (ok_product T) rfl (hr.mono (by omega)) rfl T.g_product T.k_product T.B_product (takes_of rfl rfl rfl rfl) (dae_cons (ev 3) (dae_cons (dc gokE (k := 2) (ok_power T) rfl (hr.mono (by omega)) rfl T.g_power T.k_power T.B_power (takes_of rfl rfl rfl rfl) (dae_cons (de_ix (hu64 hr) (bv 2) (bv 4) (fun _ _ => rfl)) (dae_cons (ev 5) da_nil)) rfl) da_nil)) rfl))))
    (dss_one (ds_ret (ev 3))))))
theorem ok__law_then (T : Tb K mg a) : FnOk P w K mg base (L2.CX P w) 1 a.f__law_then a.d__law_then ["one", "other"] (FnS K (clA a) (GE K) 2 F__law_then) :=
  fn_e T.F__law_then sc__law_then rfl fun cdv A outer s H E hr =>
    (dss_one (ds_ret (de_tuple rfl T.z_tuple (dab_cons (DX.fb (lcF (p := (.nm 2)) rfl sc__law_then.nd (di_seqB (bv 0)) (blkOk_by (N := ["one", "other", "spot"]) (sc := defScope s__law_then) (own := [(("spot" : Str), 2)]) (by decide +kernel)) (by decide) (fun _ _ _ _ _ => (dg_name (i := 2) sc__law_then.nd rfl (by first | exact Or.inl rfl | exact Or.inr rfl))) (fun _ _ _ _ _ => dts_nil) (fun _ _ _ _ _ => (de_ix (hu64 hr) (bv 1) (bv 2) (fun _ _ => rfl))))) da_nil))))
theorem ok__law_back (T : Tb K mg a) : FnOk P w K mg base (L2.CX P w) 1 a.f__law_back a.d__law_back ["shift"] (FnS K (clA a) (GE K) 1 F__law_back) :=
  fn_e T.F__law_back sc__law_back rfl fun cdv A outer s H E hr =>
    (dss_one (ds_ret (de_tuple rfl T.z_tuple (dab_cons (DX.fb (lcF (p := (.nm 1)) rfl sc__law_back.nd (di_range1 (fz := false) rfl T.z_range (de_len rfl T.z_len (dab_cons (bv 0) da_nil))) (blkOk_by (N := ["shift", "spot"]) (sc := defScope s__law_back) (own := [(("spot" : Str), 1)]) (by decide +kernel)) (by decide) (fun _ _ _ _ _ => (dg_name (i := 1) sc__law_back.nd rfl (by first | exact Or.inl rfl | exact Or.inr rfl))) (fun _ _ _ _ _ => dts_nil) (fun _ _ _ _ _ => (de_indexT (bv 0) (ev 1))))) da_nil))))
theorem ok__law_times (T : Tb K mg a) : FnOk P w K mg base (L2.CX P w) 2 a.f__law_times a.d__law_times ["shift", "times"] (FnS K (clA a) (GE K) 2 F__law_times) :=
  fn_e T.F__law_times sc__law_times rfl fun cdv A outer s H E hr =>
    (dss_cons (ds_set (i := 2) sc__law_times.nd rfl (by first | exact Or.inl rfl | exact Or.inr rfl) (ev 0))
    (dss_cons (ds_if (dt_lt (hu64 hr) (bv 1) (DX.b de_int))
    (dss_one (ds_set (i := 2) sc__law_times.nd rfl (by first | exact Or.inl rfl | exact Or.inr rfl) (dc gokE (k := 1) (ok__law_back T) rfl (hr.mono (by omega)) rfl T.g__law_back T.k__law_back T.B__law_back (takes_of rfl rfl rfl rfl) (dae_cons (ev 0) da_nil) rfl)))
    dss_nil)
    (dss_cons (ds_set (i := 3) sc__law_times.nd rfl (by first | exact Or.inl rfl | exact Or.inr rfl) (de_tupRg1 rfl rfl T.z_tuple rfl T.z_range (de_len rfl T.z_len (dab_cons (bv 0) da_nil))))
    (dss_cons (ds_for gokE (p := (.nm 4)) (passes_of rfl) rfl (di_range1 (fz := true) rfl T.z_range (de_abs rfl T.z_abs (dab_cons (bv 1) da_nil))) (dg_name (i := 4) sc__law_times.nd rfl (by first | exact Or.inl rfl | exact Or.inr rfl))
    (dss_one (ds_set (i := 3) sc__law_times.nd rfl (by first | exact Or.inl rfl | exact Or.inr rfl) (dc gokE (k := 1) (ok__law_then T) rfl (hr.mono (by omega)) rfl T.g__law_then T.k__law_then T.B__law_then (takes_of rfl rfl rfl rfl) (dae_cons (ev 3) (dae_cons (ev 2) da_nil)) rfl))))
    (dss_one (ds_ret (ev 3)))))))
theorem ok_move_shifts (T : Tb K mg a) : FnOk P w K mg base (L2.CX P w) 3 a.f_move_shifts a.d_move_shifts ["puzzle", "moves"] (FnS K (clA a) (GE K) 2 F_move_shifts) :=
  fn_e T.F_move_shifts sc_move_shifts rfl fun cdv A outer s H E hr =>
    (dss_cons (ds_set (i := 2) sc_move_shifts.nd rfl (by first | exact Or.inl rfl | exact Or.inr rfl) (dc gokE (k := 1) (ok_names_of T) rfl (hr.mono (by omega)) rfl T.g_names_of T.k_names_of T.B_names_of (takes_of rfl rfl rfl rfl) (dae_cons (ev 0) da_nil) rfl))
    (dss_one (ds_ret (DX.fe (lcF (p := (.tup [(.nm 3), (.nm 4)])) rfl sc_move_shifts.nd (di_seqB (bv 1)) (blkOk_by (N := ["puzzle", "moves", "known", "name", "times"]) (sc := defScope s_move_shifts) (own := [(("name" : Str), 3), (("times" : Str), 4)]) (by decide +kernel)) (by decide) (fun _ _ _ _ _ => (dg_tup rfl (dgs_cons (dg_name (i := 3) sc_move_shifts.nd rfl (by first | exact Or.inl rfl | exact Or.inr rfl)) (dgs_cons (dg_name (i := 4) sc_move_shifts.nd rfl (by first | exact Or.inl rfl | exact Or.inr rfl)) dgs_nil)))) (fun _ _ _ _ _ => dts_nil) (fun _ _ _ _ _ => (dc gokE (k := 2) (ok_power T) rfl (hr.mono (by omega)) rfl T.g_power T.k_power T.B_power takes0 (dae_cons (de_ix (hu64 hr) (bv 2) (bv 3) (fun _ _ => rfl)) (dae_cons (ev 4) da_nil)) rfl)))))))
theorem ok_moved_view (T : Tb K mg a) : FnOk P w K mg base (L2.CX P w) 1 a.f_moved_view a.d_moved_view ["shift", "view"] (FnS K (clA a) (GE K) 2 F_moved_view) :=
  fn_e T.F_moved_view sc_moved_view rfl fun cdv A outer s H E hr =>
    (dss_one (ds_ret (de_tuple rfl T.z_tuple (dab_cons (DX.fb (lcF (p := (.nm 2)) rfl sc_moved_view.nd (di_seqB (bv 1)) (blkOk_by (N := ["shift", "view", "spot"]) (sc := defScope s_moved_view) (own := [(("spot" : Str), 2)]) (by decide +kernel)) (by decide) (fun _ _ _ _ _ => (dg_name (i := 2) sc_moved_view.nd rfl (by first | exact Or.inl rfl | exact Or.inr rfl))) (fun _ _ _ _ _ => dts_nil) (fun _ _ _ _ _ => (de_ix (hu64 hr) (bv 0) (bv 2) (fun _ _ => rfl))))) da_nil))))
theorem ok_view_after (T : Tb K mg a) : FnOk P w K mg base (L2.CX P w) 4 a.f_view_after a.d_view_after ["puzzle", "found", "view"] (FnS K (clA a) (GE K) 3 F_view_after) :=
  fn_e T.F_view_after sc_view_after rfl fun cdv A outer s H E hr =>
    (dss_cons (ds_for gokE (p := (.nm 3)) (passes_of rfl) rfl (di_seqF (dc gokE (k := 3) (ok_move_shifts T) rfl (hr.mono (by omega)) rfl T.g_move_shifts T.k_move_shifts T.B_move_shifts (takes_of rfl rfl rfl rfl) (dae_cons (ev 0) (dae_cons (ev 1) da_nil)) rfl)) (dg_name (i := 3) sc_view_after.nd rfl (by first | exact Or.inl rfl | exact Or.inr rfl))
    (dss_one (ds_set (i := 2) sc_view_after.nd rfl (by first | exact Or.inl rfl | exact Or.inr rfl) (dc gokE (k := 1) (ok_moved_view T) rfl (hr.mono (by omega)) rfl T.g_moved_view T.k_moved_view T.B_moved_view (takes_of rfl rfl rfl rfl) (dae_cons (ev 3) (dae_cons (ev 2) da_nil)) rfl))))
    (dss_one (ds_ret (ev 2))))
theorem ok__law_views_hold (T : Tb K mg a) : FnOk P w K mg base (L2.CX P w) 6 a.f__law_views_hold a.d__law_views_hold ["puzzle", "draws"] (FnS K (clA a) (GE K) 2 F__law_views_hold) :=
  fn_e T.F__law_views_hold sc__law_views_hold rfl fun cdv A outer s H E hr =>
    (dss_cons (ds_set (i := 2) sc__law_views_hold.nd rfl (by first | exact Or.inl rfl | exact Or.inr rfl) (de_ix (hu64 hr) (bv 0) (DX.b de_int) (fun _ _ => rfl)))
    (dss_cons (ds_set (i := 3) sc__law_views_hold.nd rfl (by first | exact Or.inl rfl | exact Or.inr rfl) (dc gokE (k := 1) (ok__law_all_moves T) rfl (hr.mono (by omega)) rfl T.g__law_all_moves T.k__law_all_moves T.B__law_all_moves (takes_of rfl rfl rfl rfl) (dae_cons (ev 0) (dae_cons (de_sl (bv 1) (do_some de_int) (do_some de_int)) (dae_cons (de_add (DX.b de_int) (DX.b (de_mod (DX.b (de_ix (hu64 hr) (bv 1) (DX.b de_int) (fun _ _ => rfl))) (DX.b de_int)))) da_nil))) rfl))
    (dss_cons (ds_set (i := 4) sc__law_views_hold.nd rfl (by first | exact Or.inl rfl | exact Or.inr rfl) (de_ix (hu64 hr) (DX.fb (df_lst (dae_cons de_int (dae_cons de_int (dae_cons de_int (dae_cons de_int (dae_cons de_int (dae_cons de_int da_nil)))))))) (DX.b (de_mod (DX.b (de_ix (hu64 hr) (bv 1) (DX.b de_int) (fun _ _ => rfl))) (DX.b de_int))) (fun _ _ => rfl)))
    (dss_cons (ds_for gokE (p := (.nm 5)) (passes_of rfl) rfl (di_seqF (DX.fe (df_lst (dae_cons (ev 4) (dae_cons (de_add (DX.b de_int) (DX.b (de_mod (DX.b (de_ix (hu64 hr) (bv 1) (DX.b de_int) (fun _ _ => rfl))) (DX.b de_int)))) da_nil))))) (dg_name (i := 5) sc__law_views_hold.nd rfl (by first | exact Or.inl rfl | exact Or.inr rfl))
    (dss_cons (lcSet (i := 6) (p := (.nm 13)) rfl sc__law_views_hold.nd rfl rfl (sw_true rfl rfl rfl (by decide +kernel)) (di_range1 (fz := false) rfl T.z_range (ev 5)) (blkOk_by (N := ["puzzle", "draws", "n", "moves", "count", "some", "found", "position", "order", "view", "name", "times", "kept", "k", "other", "shift", "spot"]) (sc := defScope s__law_views_hold) (own := [(("k" : Str), 13)]) (by decide +kernel)) (by decide) (fun _ _ _ _ _ => (dg_name (i := 13) sc__law_views_hold.nd rfl (by first | exact Or.inl rfl | exact Or.inr rfl))) (fun _ _ _ _ _ => dts_nil) (fun _ _ _ _ _ => (de_ix (hu64 hr) (bv 3) (DX.b (de_mod (DX.b (de_int1 rfl T.z_int (dab_cons (DX.b (de_add (DX.b (de_ix (hu64 hr) (bv 1) (DX.b (de_mod (bv 13) (DX.b de_int))) (fun _ _ => rfl))) (bv 13))) da_nil))) (DX.b (de_len rfl T.z_len (dab_cons (bv 3) da_nil))))) (fun _ _ => rfl))))
    (dss_cons (ds_set (i := 7) sc__law_views_hold.nd rfl (by first | exact Or.inl rfl | exact Or.inr rfl) (de_tupRg1 rfl rfl T.z_tuple rfl T.z_range (ev 2)))
    (dss_cons (ds_for gokE (p := (.tup [(.nm 10), (.nm 11)])) (passes_of rfl) rfl (di_seqF (ev 6)) (dg_tup rfl (dgs_cons (dg_name (i := 10) sc__law_views_hold.nd rfl (by first | exact Or.inl rfl | exact Or.inr rfl)) (dgs_cons (dg_name (i := 11) sc__law_views_hold.nd rfl (by first | exact Or.inl rfl | exact Or.inr rfl)) dgs_nil)))
    (dss_one (ds_for gokE (p := (.tup [(.nm 14), (.nm 15)])) (passes_of rfl) rfl (di_seqF (de_ix (hu64 hr) (bv 0) (DX.b de_int) (fun _ _ => rfl))) (dg_tup rfl (dgs_cons (dg_name (i := 14) sc__law_views_hold.nd rfl (by first | exact Or.inl rfl | exact Or.inr rfl)) (dgs_cons (dg_name (i := 15) sc__law_views_hold.nd rfl (by first | exact Or.inl rfl | exact Or.inr rfl)) dgs_nil)))
    (dss_one (ds_if (dt_eq (hu64 hr) (bv 14) (bv 10))
    (dss_one (ds_set (i := 7) sc__law_views_hold.nd rfl (by first | exact Or.inl rfl | exact Or.inr rfl) (dc gokE (k := 1) (ok__law_then T) rfl (hr.mono (by omega)) rfl T.g__law_then T.k__law_then T.B__law_then (takes_of rfl rfl rfl rfl) (dae_cons (ev 7) (dae_cons (dc gokE (k := 2) (ok__law_times T) rfl (hr.mono (by omega)) rfl T.g__law_times T.k__law_times T.B__law_times (takes_of rfl rfl rfl rfl) (dae_cons (ev 15) (dae_cons (ev 11) da_nil)) rfl) da_nil)) rfl)))
    dss_nil)))))
    (dss_cons (ds_set (i := 8) sc__law_views_hold.nd rfl (by first | exact Or.inl rfl | exact Or.inr rfl) (dc gokE (k := 1) (ok__law_shift T) rfl (hr.mono (by omega)) rfl T.g__law_shift T.k__law_shift T.B__law_shift (takes_of rfl rfl rfl rfl) (dae_cons (ev 1) (dae_cons de_int (dae_cons (ev 2) da_nil))) rfl))
    (dss_cons (ds_for gokE (p := (.nm 9)) (passes_of rfl) rfl (di_seqF (DX.fe (df_lst (dae_cons (de_tupRg1 rfl rfl T.z_tuple rfl T.z_range (ev 2)) (dae_cons (ev 8) (dae_cons (de_sl (bv 8) (do_some de_int) (do_some (de_add (DX.b de_int) (DX.b (de_mod (DX.b (de_ix (hu64 hr) (bv 1) (DX.b de_int) (fun _ _ => rfl))) (bv 2)))))) (dae_cons (de_tuple rfl T.z_tuple (dab_cons (DX.fb (df_sorted rfl T.z_sorted (dab_cons (DX.b (de_sl (bv 8) (do_some de_int) (do_some de_int))) da_nil))) da_nil)) da_nil))))))) (dg_name (i := 9) sc__law_views_hold.nd rfl (by first | exact Or.inl rfl | exact Or.inr rfl))
    (dss_cons (ds_set (i := 12) sc__law_views_hold.nd rfl (by first | exact Or.inl rfl | exact Or.inr rfl) (DX.fe (df_list rfl T.z_list (dab_cons (bv 6) da_nil))))
    (dss_one (ds_if (dt_w (dw_or (dt_not (dt_tru (DX.b (dc gokE (k := 5) (ok__law_same T 4) rfl (hr.mono (by omega)) rfl T.g__law_same T.k__law_same T.B__law_same (takes_of rfl rfl rfl rfl) (dae_cons (dc gokE (k := 4) (ok_view_after T) rfl (hr.mono (by omega)) rfl T.g_view_after T.k_view_after T.B_view_after (takes_of rfl rfl rfl rfl) (dae_cons (ev 0) (dae_cons (ev 6) (dae_cons (ev 9) da_nil))) rfl) (dae_cons (de_tuple rfl T.z_tuple (dab_cons (DX.fb (lcF (p := (.nm 16)) rfl sc__law_views_hold.nd (di_seqB (bv 9)) (blkOk_by (N := ["puzzle", "draws", "n", "moves", "count", "some", "found", "position", "order", "view", "name", "times", "kept", "k", "other", "shift", "spot"]) (sc := defScope s__law_views_hold) (own := [(("spot" : Str), 16)]) (by decide +kernel)) (by decide) (fun _ _ _ _ _ => (dg_name (i := 16) sc__law_views_hold.nd rfl (by first | exact Or.inl rfl | exact Or.inr rfl))) (fun _ _ _ _ _ => dts_nil) (fun _ _ _ _ _ => (de_ix (hu64 hr) (bv 7) (bv 16) (fun _ _ => rfl))))) da_nil)) da_nil)) rfl)))) (dw_or1 (dt_ne (hu64 hr) (bv 12) (bv 6)))))
    (dss_one (ds_ret de_bl))
    dss_nil))))
    (dss_one (ds_if (dt_not (dt_tru (DX.b (dc gokE (k := 5) (ok__law_same T 4) rfl (hr.mono (by omega)) rfl T.g__law_same T.k__law_same T.B__law_same (takes_of rfl rfl rfl rfl) (dae_cons (dc gokE (k := 3) (ok_effect T) rfl (hr.mono (by omega)) rfl T.g_effect T.k_effect T.B_effect (takes_of rfl rfl rfl rfl) (dae_cons (ev 0) (dae_cons (ev 6) da_nil)) rfl) (dae_cons (ev 7) da_nil)) rfl))))
    (dss_one (ds_ret de_bl))
    dss_nil))))))))
    (dss_one (ds_ret de_bl))))))
theorem ok_law (T : Tb K mg a) : FnOk P w K mg base (L2.CX P w) 7 a.f_law a.d_law ["script"] (FnS K (clA a) (GE K) 1 F_law) :=
  fn_e T.F_law sc_law rfl fun cdv A outer s H E hr =>
    (dss_cons (ds_set (i := 1) sc_law.nd rfl (by first | exact Or.inl rfl | exact Or.inr rfl) (dc gokE (k := 2) (ok__law_draws T) rfl (hr.mono (by omega)) rfl T.g__law_draws T.k__law_draws T.B__law_draws (takes_of rfl rfl rfl rfl) (dae_cons (ev 0) (dae_cons de_int (dae_cons de_int da_nil))) rfl))
    (dss_cons (ds_set (i := 2) sc_law.nd rfl (by first | exact Or.inl rfl | exact Or.inr rfl) (dc gokE (k := 2) (ok__law_puzzle T) rfl (hr.mono (by omega)) rfl T.g__law_puzzle T.k__law_puzzle T.B__law_puzzle (takes_of rfl rfl rfl rfl) (dae_cons (ev 1) da_nil) rfl))
    (dss_one (ds_ret (de_and (dc gokE (k := 5) (ok__law_checks_hold T) rfl (hr.mono (by omega)) rfl T.g__law_checks_hold T.k__law_checks_hold T.B__law_checks_hold (takes_of rfl rfl rfl rfl) (dae_cons (ev 2) (dae_cons (de_sl (bv 1) (do_some de_int) do_none) da_nil)) rfl) (de_and1 (dc gokE (k := 6) (ok__law_views_hold T) rfl (hr.mono (by omega)) rfl T.g__law_views_hold T.k__law_views_hold T.B__law_views_hold (takes_of rfl rfl rfl rfl) (dae_cons (ev 2) (dae_cons (dc gokE (k := 2) (ok__law_draws T) rfl (hr.mono (by omega)) rfl T.g__law_draws T.k__law_draws T.B__law_draws (takes_of rfl rfl rfl rfl) (dae_cons (ev 0) (dae_cons de_int (dae_cons de_int da_nil))) rfl) da_nil)) rfl)))))))
end
end K53

/-! k53: what the programs over data answer. -/
namespace K53
open PySem PySem.Spec L2 DL

/-! ### draws -/
theorem cell_ok (s : List Int) (hs : s.length ≤ 63) (k : Nat) : ∃ c : Int, F__law_cell [.scr s, .int k] = .ok (.int c) := by
  by_cases h : k < s.length
  · have h2 : (k : Int) < s.length := by omega
    exact ⟨s[k], by simp [F__law_cell, runF, b__law_cell, h2, dIx_s ((atI_ofNat h).trans (List.getElem?_eq_getElem h))]⟩
  · have h2 : ¬ (k : Int) < s.length := by omega
    exact ⟨0, by simp [F__law_cell, runF, b__law_cell, h2]⟩
/-- the loop of the wide road -/
theorem numbers_a (l : Int) (hl : 0 < l) (hl2 : l < 1073741824) (n : D) : ∀ (items : List D) (c : Int) (acc : List Int) (x y : Sl), acc.length + items.length ≤ 16777216 → ∃ c' acc' x', forD (.nm 4) (sSeq (sApp 3 (e2 dMod (e1L (on1 dInt) (eCons (eVarB 0) eNil)) (eVarB 2))) (sAsg (e2 dDiv (e1L (on1 dInt) (eCons (eVarB 0) eNil)) (eVarB 2)) (.nm 0))) items
    [.im (.int c), .im n, .im (.int l), .ow (.lst (iD acc)), x, y] = .nx [.im (.int c'), .im n, .im (.int l), .ow (.lst (iD (acc ++ acc'))), x', y] ∧ acc'.length = items.length ∧ ∀ z ∈ acc', 0 ≤ z ∧ z < l
  | [], c, acc, x, y, h => ⟨c, [], x, by simp, rfl, by simp⟩
  | d :: items, c, acc, x, y, h => by
    simp at h
    obtain ⟨c', acc', x', h1, h2, h3⟩ := numbers_a l hl hl2 n items (c / l) (acc ++ [c % l]) (.im d) y (by simp; omega)
    refine ⟨c', c % l :: acc', x', ?_, by simp [h2], ?_⟩
    · rw [forD_cons]
      have hz : acc.length < 16777216 := by omega
      simp [dMod_ii hl, dDiv_ii hl hl2, hz]
      simpa using h1
    · intro z hz
      rcases List.mem_cons.mp hz with rfl | hz
      · exact ⟨Int.emod_nonneg _ (by omega), Int.emod_lt_of_pos _ hl⟩
      · exact h3 z hz
/-- the loop of the short road -/
theorem numbers_b (l : Int) (hl : 0 < l) (n : D) (c : Int) : ∀ (ks : List Int) (acc : List Int) (x y : Sl), acc.length + ks.length ≤ 16777216 → ∃ acc' x' y', forD (.nm 4) (sSeq (sAsg (e2 dMod (e1L (on1 dInt) (eCons (e2 dAdd (e2 dAdd (e2 dMul (eVarB 0) (eC (.int 48271))) (e2 dMul (eVarB 4) (eC (.int 69621)))) (eC (.int 7))) eNil)) (eC (.int 2147483647))) (.nm 5))
  (sSeq (sAsg (e2 dMod (e1L (on1 dInt) (eCons (e2 dAdd (e2 dAdd (e2 dAdd (e2 dMul (eVarB 5) (eVarB 5)) (e2 dMul (eVarB 5) (eC (.int 40692)))) (e2 dMul (eVarB 4) (eC (.int 16807)))) (eC (.int 11))) eNil)) (eC (.int 2147483399))) (.nm 5))
  (sApp 3 (e2 dMod (e1L (on1 dInt) (eCons (e2 dDiv (eVarB 5) (eC (.int 32))) eNil)) (eVarB 2))))) (iD ks)
    [.im (.int c), .im n, .im (.int l), .ow (.lst (iD acc)), x, y] = .nx [.im (.int c), .im n, .im (.int l), .ow (.lst (iD (acc ++ acc'))), x', y'] ∧ acc'.length = ks.length ∧ ∀ z ∈ acc', 0 ≤ z ∧ z < l
  | [], acc, x, y, h => ⟨[], x, y, by simp, rfl, by simp⟩
  | k :: ks, acc, x, y, h => by
    simp at h
    generalize hm : (c * 48271 + k * 69621 + 7) % 2147483647 = m
    have hm0 : 0 ≤ m := by omega
    have hm1 : m < 2147483647 := by omega
    generalize hq : (m * m + m * 40692 + k * 16807 + 11) % 2147483399 / 32 % l = q
    have hq0 : 0 ≤ q := by rw [← hq]; exact Int.emod_nonneg _ (by omega)
    have hq1 : q < l := by rw [← hq]; exact Int.emod_lt_of_pos _ hl
    obtain ⟨acc', x', y', h1, h2, h3⟩ := numbers_b l hl n c ks (acc ++ [q]) (.im (.int k)) (.im (.int ((m * m + m * 40692 + k * 16807 + 11) % 2147483399))) (by simp; omega)
    refine ⟨q :: acc', x', y', ?_, by simp [h2], ?_⟩
    · rw [iD_cons, forD_cons]
      have hz : acc.length < 16777216 := by omega
      simp [dMul_r (i := c) (j := 48271) (by decide) (by decide), dMul_r (i := k) (j := 69621) (by decide) (by decide), dMul_r (i := k) (j := 16807) (by decide) (by decide), dMod_ii (j := 2147483647) (by decide), dMod_ii (j := 2147483399) (by decide), hm,
        dMul_l (i := m) (j := m) (by omega) (by omega), dMul_r (i := m) (j := 40692) (by decide) (by decide), dDiv_ii (j := 32) (by decide) (by decide), dMod_ii hl, hz, hq]
      simpa using h1
    · intro z hz
      rcases List.mem_cons.mp hz with rfl | hz
      · exact ⟨hq0, hq1⟩
      · exact h3 z hz
theorem rgB_nat {n : Nat} (h : n ≤ 100000) : rgB 0 (n : Int) := by unfold rgB; omega
theorem rgI_len (n : Nat) : (rgI 0 (n : Int)).length = n := by simp [rgI]
theorem numbers_ok (c : Int) (n : Nat) (hn : n ≤ 1000) (l : Int) (hl : 0 < l) (hl2 : l < 1073741824) : ∃ ns : List Int, F__law_numbers [.int c, .int n, .int l] = .ok (.lst (iD ns)) ∧ ns.length = n ∧ ∀ z ∈ ns, 0 ≤ z ∧ z < l := by
  have hr := dRg_ap (rgB_nat (n := n) (by omega))
  have hp : dPow (.int 10) (.int 18) = .ok (.int 1000000000000000000) := by simp [dPow]
  by_cases h : 1000000000000000000 ≤ c
  · obtain ⟨c', acc', x', h1, h2, h3⟩ := numbers_a l hl hl2 (.int n) (rgD 0 n) c [] .un .un (by rw [rgD_eq, iD_len, rgI_len]; simp; omega)
    refine ⟨acc', ?_, by rw [h2, rgD_eq, iD_len, rgI_len], h3⟩
    simp only [iD_nil, List.nil_append] at h1
    simp [F__law_numbers, runF, b__law_numbers, hp, hr, h, h1]
  · obtain ⟨acc', x', y', h1, h2, h3⟩ := numbers_b l hl (.int n) c (rgI 0 n) [] .un .un (by rw [rgI_len]; simp; omega)
    refine ⟨acc', ?_, by rw [h2, rgI_len], h3⟩
    rw [← rgD_eq] at h1
    simp only [iD_nil, List.nil_append] at h1
    simp [F__law_numbers, runF, b__law_numbers, hp, hr, h, h1]
theorem draws_ok (s : List Int) (hs : s.length ≤ 63) (k n : Nat) (hn : n ≤ 1000) : ∃ ns : List Int, F__law_draws [.scr s, .int k, .int n] = .ok (.lst (iD ns)) ∧ ns.length = n ∧ ∀ z ∈ ns, 0 ≤ z ∧ z < 5040 := by
  obtain ⟨c, hc⟩ := cell_ok s hs k
  obtain ⟨ns, h1, h2, h3⟩ := numbers_ok (c + 101 * k) n hn 5040 (by decide) (by decide)
  exact ⟨ns, by simp [F__law_draws, runF, b__law_draws, cFn_ap, hc, dMul_l (i := 101) (by decide) (by decide), h1], h2, h3⟩

/-! ### puzzles -/
theorem shift_loop (dr : List Int) (hd : 0 < dr.length) (hd0 : ∀ z ∈ dr, 0 ≤ z) (at' : Nat) (n : D) : ∀ (ks : List Nat) (sp fd : List Int) (x : Sl), sp.length = ks.length → fd.length + ks.length ≤ 1000 → ∃ fd' x', forD (.nm 5)
  (sAppPop 4 3 (e2 dMod (e2 dIx (eVarB 0) (e2 dMod (e2 dAdd (eVarB 1) (eVarB 5)) (e1L (on1 dLen) (eCons (eVarB 0) eNil)))) (e1L (on1 dLen) (eCons (eVarB 3) eNil)))) (nD ks)
    [.im (.lst (iD dr)), .im (.int at'), .im n, .ow (.lst (iD sp)), .ow (.lst (iD fd)), x] = .nx [.im (.lst (iD dr)), .im (.int at'), .im n, .ow (.lst []), .ow (.lst (iD (fd ++ fd'))), x'] ∧ fd'.Perm sp
  | [], sp, fd, x, h, _ => by
    have : sp = [] := List.length_eq_zero_iff.mp h
    subst this
    exact ⟨[], x, by simp, .refl _⟩
  | k :: ks, sp, fd, x, h, hl => by
    simp at h hl
    have hi0 : 0 ≤ ((at' : Int) + k) % dr.length := Int.emod_nonneg _ (by omega)
    have hi1 : ((at' : Int) + k) % dr.length < dr.length := Int.emod_lt_of_pos _ (by omega)
    obtain ⟨z, hz⟩ : ∃ z, atI dr (((at' : Int) + k) % dr.length) = some z := ⟨_, atI_get hi0 hi1⟩
    have hz' := iD_at hz
    have hv0 : 0 ≤ z % sp.length := Int.emod_nonneg _ (by omega)
    have hv1 : z % sp.length < sp.length := Int.emod_lt_of_pos _ (by omega)
    obtain ⟨v, hv⟩ : ∃ v : Nat, z % sp.length = v := ⟨(z % sp.length).toNat, by omega⟩
    have hvl : v < sp.length := by omega
    obtain ⟨fd', x', h1, h2⟩ := shift_loop dr hd hd0 at' n ks (sp.eraseIdx v) (fd ++ [sp[v]]) (.im (.int k)) (by rw [List.length_eraseIdx]; simp [hvl]; omega) (by simp; omega)
    refine ⟨sp[v] :: fd', x', ?_, (List.Perm.cons _ h2).trans (eraseIdx_perm hvl)⟩
    rw [nD_cons, forD_cons]
    have e : (e2 dMod (e2 dIx (eVarB 0) (e2 dMod (e2 dAdd (eVarB 1) (eVarB 5)) (e1L (on1 dLen) (eCons (eVarB 0) eNil)))) (e1L (on1 dLen) (eCons (eVarB 3) eNil))) [Sl.im (.lst (iD dr)), .im (.int at'), .im n, .ow (.lst (iD sp)), .ow (.lst (iD fd)), .im (.int k)] = .ok (.int (v : Int)) := by
      simp [dMod_ii (j := dr.length) (by omega), dMod_ii (j := sp.length) (by omega), hv]
      simp [dIx_l hz', dMod_ii (j := sp.length) (by omega), hv]
    simp only [setP_nm, List.set_cons_succ, List.set_cons_zero]
    rw [sAppPop_ap (l := iD fd) (m := iD sp) (v := v) (by decide) rfl rfl e (by rw [iD_len]; exact hvl) (by rw [iD_len]; omega) (by rw [iD_len]; omega)]
    simp
    simpa using h1
theorem shift_ok (dr : List Int) (hd : 0 < dr.length) (hd0 : ∀ z ∈ dr, 0 ≤ z) (at' n : Nat) (hn : n ≤ 1000) : ∃ sh : List Int, F__law_shift [.lst (iD dr), .int at', .int n] = .ok (.tux (iD sh)) ∧ IsP n sh := by
  have hr := dRg_ap (rgB_nat (n := n) (by omega))
  have hl := dRgL_ap (rgB_nat (n := n) (by omega))
  obtain ⟨fd, x', h1, h2⟩ := shift_loop dr hd hd0 at' (.int n) (List.range n) (rgI 0 n) [] .un (by rw [rgI_len0]; simp) (by simp; omega)
  refine ⟨fd, ?_, .of_perm h2⟩
  rw [← rgD_eq, ← rgD_nat] at h1
  simp only [iD_nil, List.nil_append] at h1
  simp [F__law_shift, runF, b__law_shift, hl, hr, h1]

def nms : List Str := ["a", "A", "aa", "aA", "Aa", "aaa", "b", "zZz"]
/-- a turn: its name, its shift -/
def turnD (t : Str × List Int) : D := .tup [.str t.1, .tux (iD t.2)]
def nm8 (k : Nat) : Str := nms[k % 8]'(by have : nms.length = 8 := rfl; omega)
theorem nms_at (k : Nat) : atI (nms.map D.str) (((k : Int)) % 8) = some (.str (nm8 k)) := by
  have e : ((k : Int)) % 8 = ((k % 8 : Nat) : Int) := by omega
  have hl : (nms.map D.str).length = 8 := rfl
  rw [e, atI_ofNat (by rw [hl]; omega), List.getElem?_map, List.getElem?_eq_getElem (by have : nms.length = 8 := rfl; omega)]
  rfl
theorem nth_ok {dr : List Int} {k : Nat} (h : k < dr.length) : atI (iD dr) (k : Int) = some (.int dr[k]) := iD_at ((atI_ofNat h).trans (List.getElem?_eq_getElem h))
theorem puzzle_loop (dr : List Int) (hd : 40 ≤ dr.length) (hd0 : ∀ z ∈ dr, 0 ≤ z) (n : Nat) (hn0 : 0 < n) (hn : n ≤ 100) (f : Nat) : ∀ (ks : List Nat) (acc : List (Str × List Int)) (x y z : Sl), (∀ k ∈ ks, k < 8) → acc.length + ks.length ≤ 100 → ∃ tl x' y' z', forD (.nm 5)
  (sSeq (sAsg (e1L (cFn 3 F__law_shift) (eCons (eVar 0) (eCons (e2 dAdd (eC (.int 3)) (e2 dMul (eC (.int 7)) (eVarB 5))) (eCons (eVar 1) eNil)))) (.nm 6))
  (sSeq (sIf (eBl (e2 dEq (e2 dMod (e2 dIx (eVarB 0) (e2 dAdd (eC (.int 3)) (eVarB 5))) (eC (.int 3))) (eC (.int 0))))
  (sAsg (e1L (on1 dTupX) (eCons (eComp (eRg1 (eVar 1)) (.nm 7) [7] tTrue (e2 dMod (e1L (on1 dInt) (eCons (e2 dAdd (e2 dAdd (eVarB 7) (eC (.int 1))) (eVarB 5)) eNil)) (eVarB 1))) eNil)) (.nm 6))
  sNil)
  (sApp 4 (e1L dTup (eCons (e2 dIx (eVarB 2) (e2 dMod (e1L (on1 dInt) (eCons (e2 dAdd (eVarB 3) (eVarB 5)) eNil)) (eC (.int 8)))) (eCons (eVar 6) eNil)))))) (nD ks)
    [.im (.lst (iD dr)), .im (.int n), .im (.lst (nms.map D.str)), .im (.int f), .ow (.lst (acc.map turnD)), x, y, z] = .nx [.im (.lst (iD dr)), .im (.int n), .im (.lst (nms.map D.str)), .im (.int f), .ow (.lst ((acc ++ tl).map turnD)), x', y', z'] ∧
      tl.map (·.1) = ks.map (fun k => nm8 (f + k)) ∧ ∀ t ∈ tl, IsP n t.2
  | [], acc, x, y, z, _, _ => ⟨[], x, y, z, by simp, rfl, by simp⟩
  | k :: ks, acc, x, y, z, hk, hl => by
    simp at hl
    have hk8 := hk k (by simp)
    obtain ⟨sh, hs, hp⟩ := shift_ok dr (by omega) hd0 (3 + 7 * k) n (by omega)
    have hs' : F__law_shift [.lst (iD dr), .int (3 + 7 * (k : Int)), .int n] = .ok (.tux (iD sh)) := by
      have e : ((3 + 7 * k : Nat) : Int) = 3 + 7 * (k : Int) := by omega
      rw [← e]; exact hs
    have h3 : atI (iD dr) (3 + (k : Int)) = some (.int (dr[3 + k]'(by omega))) := by
      have e : (3 + (k : Int)) = ((3 + k : Nat) : Int) := by omega
      rw [e]; exact nth_ok (by omega)
    have hr := dRg_ap (rgB_nat (n := n) (by omega))
    have hc : compL (.nm 7) tTrue (e2 dMod (e1L (on1 dInt) (eCons (e2 dAdd (e2 dAdd (eVarB 7) (eC (.int 1))) (eVarB 5)) eNil)) (eVarB 1))
        [.im (.lst (iD dr)), .im (.int n), .im (.lst (nms.map D.str)), .im (.int f), .ow (.lst (acc.map turnD)), .im (.int k), .im (.tux (iD sh)), .un] (rgD 0 n) = .ok (iD ((rgI 0 n).map fun s : Int => (s + (1 + (k : Int))) % (n : Int))) := by
      rw [compL_map (g := fun d => match d with
        | .int s => .int ((s + (1 + k)) % n)
        | d => d)]
      · congr 1
        rw [rgD_eq]
        simp only [iD, List.map_map]
        rfl
      · intro d hd
        rw [rgD_eq] at hd
        obtain ⟨s, _, rfl⟩ := List.mem_map.mp hd
        refine ⟨_, setP_nm, tTrue_ap, ?_⟩
        simp [dMod_ii (j := n) (by omega), Int.add_assoc]
    have ha := nms_at (f + k)
    rw [Int.natCast_add] at ha
    have hz : acc.length < 16777216 := by omega
    by_cases hq : dr[3 + k]'(by omega) % 3 = 0
    · obtain ⟨tl, x', y', z', h1, h2, h3'⟩ := puzzle_loop dr hd hd0 n hn0 hn f ks (acc ++ [(nm8 (f + k), (rgI 0 n).map fun s : Int => (s + (1 + (k : Int))) % (n : Int))]) (.im (.int k)) (.im (.tux (iD ((rgI 0 n).map fun s : Int => (s + (1 + (k : Int))) % (n : Int))))) z (fun j hj => hk j (by simp [hj])) (by simp; omega)
      refine ⟨(nm8 (f + k), (rgI 0 n).map fun s : Int => (s + (1 + (k : Int))) % (n : Int)) :: tl, x', y', z', ?_, by simp [h2], ?_⟩
      · rw [nD_cons, forD_cons]
        simp [dMul_l (i := 7) (by decide) (by decide), hs', h3, dMod_ii (j := 3) (by decide), hq, eComp, hr, wipeE, hc, nofl, dMod_ii (j := 8) (by decide), ha, hz]
        simpa [turnD] using h1
      · intro t ht
        rcases List.mem_cons.mp ht with rfl | ht
        · exact IsP.rot hn0 _
        · exact h3' t ht
    · obtain ⟨tl, x', y', z', h1, h2, h3'⟩ := puzzle_loop dr hd hd0 n hn0 hn f ks (acc ++ [(nm8 (f + k), sh)]) (.im (.int k)) (.im (.tux (iD sh))) z (fun j hj => hk j (by simp [hj])) (by simp; omega)
      refine ⟨(nm8 (f + k), sh) :: tl, x', y', z', ?_, by simp [h2], ?_⟩
      · rw [nD_cons, forD_cons]
        simp [dMul_l (i := 7) (by decide) (by decide), hs', h3, dMod_ii (j := 3) (by decide), hq, dMod_ii (j := 8) (by decide), ha, hz]
        simpa [turnD] using h1
      · intro t ht
        rcases List.mem_cons.mp ht with rfl | ht
        · exact hp
        · exact h3' t ht

structure Pz (n : Nat) (ts : List (Str × List Int)) : Prop where
  n2 : 2 ≤ n
  n30 : n ≤ 30
  t1 : 0 < ts.length
  t8 : ts.length ≤ 8
  nd : (ts.map (·.1)).Nodup
  mem : ∀ t ∈ ts, t.1 ∈ nms
  p : ∀ t ∈ ts, IsP n t.2
theorem nms_inj : ∀ i : Fin 8, ∀ j : Fin 8, nms[i.1]'(by have : nms.length = 8 := rfl; omega) = nms[j.1]'(by have : nms.length = 8 := rfl; omega) → i = j := by decide +kernel
theorem nm8_inj {a b : Nat} (h : nm8 a = nm8 b) : a % 8 = b % 8 := by
  have := nms_inj ⟨a % 8, by omega⟩ ⟨b % 8, by omega⟩ h
  exact congrArg (·.1) this
theorem nm8_mem (k : Nat) : nm8 k ∈ nms := List.getElem_mem _
abbrev pzD (n : Nat) (ts : List (Str × List Int)) : D := .tup [.int n, .lst (ts.map turnD)]
theorem puzzle_ok (dr : List Int) (hd : 40 ≤ dr.length) (hd0 : ∀ z ∈ dr, 0 ≤ z) : ∃ n ts, F__law_puzzle [.lst (iD dr)] = .ok (pzD n ts) ∧ Pz n ts := by
  have g0 := nth_ok (dr := dr) (k := 0) (by omega)
  have g1 := nth_ok (dr := dr) (k := 1) (by omega)
  have g2 := nth_ok (dr := dr) (k := 2) (by omega)
  obtain ⟨n, hn⟩ : ∃ n : Nat, (2 : Int) + dr[0]'(by omega) % 29 = (n : Int) := ⟨(2 + dr[0]'(by omega) % 29).toNat, by omega⟩
  obtain ⟨f, hf⟩ : ∃ n : Nat, dr[1]'(by omega) % 8 = (n : Int) := ⟨(dr[1]'(by omega) % 8).toNat, by omega⟩
  obtain ⟨t, ht⟩ : ∃ n : Nat, (1 : Int) + dr[2]'(by omega) % 8 = (n : Int) := ⟨(1 + dr[2]'(by omega) % 8).toNat, by omega⟩
  obtain ⟨tl, x', y', z', h1, h2, h3⟩ := puzzle_loop dr hd hd0 n (by omega) (by omega) f (List.range t) [] .un .un .un (fun k hk => by have := List.mem_range.mp hk; omega) (by simp; omega)
  have hr := dRg_ap (rgB_nat (n := t) (by omega))
  rw [rgD_nat] at hr
  have hlen : tl.length = t := by
    have := congrArg List.length h2
    simpa using this
  refine ⟨n, tl, ?_, by omega, by omega, by omega, by omega, ?_, fun u hu => ?_, h3⟩
  · simp only [nms, List.map_cons, List.map_nil, List.nil_append] at h1
    simp at g0 g1 g2
    simp [F__law_puzzle, runF, b__law_puzzle, g0, g1, g2, dMod_ii (j := 29) (by decide), dMod_ii (j := 8) (by decide), hn, hf, ht, hr, h1]
  · rw [h2, List.Nodup, List.pairwise_map]
    refine List.Pairwise.imp_of_mem ?_ (List.nodup_range (n := t))
    intro a b ha hb hab e
    have ha := List.mem_range.mp ha
    have hb := List.mem_range.mp hb
    have := nm8_inj e
    omega
  · have : u.1 ∈ tl.map (·.1) := List.mem_map.mpr ⟨u, hu, rfl⟩
    rw [h2] at this
    obtain ⟨k, _, e⟩ := List.mem_map.mp this
    rw [← e]
    exact nm8_mem _
end K53

/-! k53: what the programs over data answer, part 2: moves. -/
namespace K53
open PySem PySem.Spec L2 DL
noncomputable section

abbrev Mv := Str × Int
def mvD (m : Mv) : D := .tup [.str m.1, .int m.2]
def okS (s : Str) : Prop := PySem.PyData.strOk s = true
theorem sh_mv {m : Mv} (h : okS m.1) : Sh 1 (mvD m) := sh_tup fun d hd => by
  simp at hd
  rcases hd with rfl | rfl
  · exact sh_str h
  · exact sh_int
theorem eqv_mv {a b : Mv} : D.eqv (mvD a) (mvD b) = decide (a = b) := by
  simp only [mvD, eqv_tt, eqvL_cons, eqv_ss, eqv_ii, eqvL_nil, Bool.and_true]
  by_cases h : a = b
  · subst h; simp
  · rw [decide_eq_false h]
    cases h1 : (a.1 == b.1) with
    | false => rfl
    | true =>
      cases h2 : (a.2 == b.2) with
      | false => rfl
      | true => exact absurd (Prod.ext (eq_of_beq h1) (eq_of_beq h2)) h
theorem mv_any {fd : List Mv} {m : Mv} : ((fd.map mvD).any fun z => D.eqv z (mvD m)) = decide (m ∈ fd) := by
  induction fd with
  | nil => rfl
  | cons a l ih =>
    rw [List.map_cons, List.any_cons, ih, eqv_mv]
    by_cases h : a = m
    · subst h; simp
    · have h' : ¬ m = a := fun e => h e.symm
      simp [h, h']
theorem mv_notIn {fd : List Mv} {m : Mv} (hm : okS m.1) (hf : ∀ x ∈ fd, okS x.1) : dNotIn (mvD m) (.lst (fd.map mvD)) = .ok (.bl (!decide (m ∈ fd))) := by
  rw [dNotIn_l (n := 1) (m := 1) (sh_mv hm) fun d hd => by
    obtain ⟨x, hx, rfl⟩ := List.mem_map.mp hd
    exact sh_mv (hf x hx), mv_any]
def stp (c : Int) (fd : List Mv) (m : Mv) : List Mv := if m ∉ fd ∧ (fd.length : Int) < c then fd ++ [m] else fd
theorem stp_ok {c : Int} {fd : List Mv} {m : Mv} {p : Mv → Prop} (hm : p m) (hf : ∀ x ∈ fd, p x) : ∀ x ∈ stp c fd m, p x := by
  unfold stp
  split
  · intro x hx
    rcases List.mem_append.mp hx with h | h
    · exact hf x h
    · rw [List.mem_singleton.mp h]; exact hm
  · exact hf
theorem fold_ok {c : Int} {p : Mv → Prop} : ∀ {L fd : List Mv}, (∀ x ∈ L, p x) → (∀ x ∈ fd, p x) → ∀ x ∈ L.foldl (stp c) fd, p x
  | [], fd, _, hf => hf
  | m :: L, fd, hL, hf => fold_ok (L := L) (fun x hx => hL x (by simp [hx])) (stp_ok (hL m (by simp)) hf)
theorem stp_len {c : Int} {fd : List Mv} {m : Mv} (h : (fd.length : Int) ≤ c) : ((stp c fd m).length : Int) ≤ c := by
  unfold stp
  split
  · simp; omega
  · exact h
theorem fold_len {c : Int} : ∀ {L fd : List Mv}, (fd.length : Int) ≤ c → ((L.foldl (stp c) fd).length : Int) ≤ c
  | [], fd, h => h
  | m :: L, fd, h => fold_len (L := L) (stp_len h)
theorem stp_nd {c : Int} {fd : List Mv} {m : Mv} (h : fd.Nodup) : (stp c fd m).Nodup := by
  unfold stp
  split
  · rename_i hh
    rw [List.nodup_append]
    refine ⟨h, by simp, fun a ha b hb => ?_⟩
    rw [List.mem_singleton.mp hb]
    intro e
    subst e
    exact hh.1 ha
  · exact h
theorem fold_nd {c : Int} : ∀ {L fd : List Mv}, fd.Nodup → (L.foldl (stp c) fd).Nodup
  | [], fd, h => h
  | m :: L, fd, h => fold_nd (L := L) (stp_nd h)
theorem stp_sub {c : Int} {fd : List Mv} {m x : Mv} (h : x ∈ fd) : x ∈ stp c fd m := by
  unfold stp
  split
  · exact List.mem_append_left _ h
  · exact h
theorem fold_sub {c : Int} {x : Mv} : ∀ {L fd : List Mv}, x ∈ fd → x ∈ L.foldl (stp c) fd
  | [], fd, h => h
  | m :: L, fd, h => fold_sub (L := L) (stp_sub h)
/-- full, or all are in -/
theorem fold_all {c : Int} : ∀ {L fd : List Mv}, c ≤ ((L.foldl (stp c) fd).length : Int) ∨ ∀ x ∈ L, x ∈ L.foldl (stp c) fd
  | [], fd => .inr (by simp)
  | m :: L, fd => by
    rw [List.foldl_cons]
    rcases fold_all (c := c) (L := L) (fd := stp c fd m) with h | h
    · exact .inl h
    · by_cases hm : m ∈ stp c fd m
      · refine .inr fun x hx => ?_
        rcases List.mem_cons.mp hx with rfl | hx
        · exact fold_sub hm
        · exact h x hx
      · left
        have e : stp c fd m = fd := by
          unfold stp at hm ⊢
          split
          · rename_i hh; rw [if_pos hh] at hm; simp at hm
          · rfl
        have h2 : ¬ (fd.length : Int) < c := fun hlt => by
          rw [e] at hm
          unfold stp at e
          rw [if_pos ⟨hm, hlt⟩] at e
          have := congrArg List.length e
          simp at this
        rw [e]
        have : ∀ {L fd : List Mv}, fd.length ≤ (L.foldl (stp c) fd).length := by
          intro L
          induction L with
          | nil => intro fd; exact Nat.le_refl _
          | cons a L ih =>
            intro fd
            refine Nat.le_trans ?_ (ih (fd := stp c fd a))
            unfold stp; split <;> simp
        have := this (L := L) (fd := fd)
        omega
theorem nd_le {α : Type} [DecidableEq α] : ∀ {l m : List α}, l.Nodup → (∀ x ∈ l, x ∈ m) → l.length ≤ m.length
  | [], m, _, _ => Nat.zero_le _
  | a :: l, m, h, hs => by
    have ha : a ∈ m := hs a (by simp)
    have hn := List.nodup_cons.mp h
    have := nd_le (l := l) (m := m.erase a) hn.2 fun x hx => by
      have hx' := hs x (by simp [hx])
      exact (List.mem_erase_of_ne (fun e => hn.1 (by rw [← e]; exact hx))).mpr hx'
    rw [List.length_erase_of_mem ha] at this
    have : 0 < m.length := List.length_pos_of_mem ha
    simp; omega

/-! the loops -/
def bIn : Ev → Out := sIf (tAnd (eBl (e2 dNotIn (eVarB 9) (eVarB 3))) (eBl (e2 dLt (e1L (on1 dLen) (eCons (eVarB 3) eNil)) (eVarB 2)))) (sApp 3 (eVar 9)) sNil
theorem in_loop {a0 a1 a4 a5 a6 a7 a8 : Sl} {c : Int} (hc : c ≤ 1000) : ∀ (L : List Mv) (fd : List Mv) (x : Sl), (∀ m ∈ L, okS m.1) → (∀ m ∈ fd, okS m.1) → ∃ x', forD (.nm 9) bIn (L.map mvD) [a0, a1, .im (.int c), .ow (.lst (fd.map mvD)), a4, a5, a6, a7, a8, x] =
    .nx [a0, a1, .im (.int c), .ow (.lst ((L.foldl (stp c) fd).map mvD)), a4, a5, a6, a7, a8, x']
  | [], fd, x, _, _ => ⟨x, rfl⟩
  | m :: L, fd, x, hL, hf => by
    obtain ⟨x', h1⟩ := in_loop (a0 := a0) (a1 := a1) (a4 := a4) (a5 := a5) (a6 := a6) (a7 := a7) (a8 := a8) hc L (stp c fd m) (.im (mvD m)) (fun y hy => hL y (by simp [hy])) (stp_ok (hL m (by simp)) hf)
    refine ⟨x', forD_step setP_nm ?_ h1⟩
    have hn := mv_notIn (hL m (by simp)) hf
    by_cases h1' : m ∈ fd
    · have e : stp c fd m = fd := by unfold stp; rw [if_neg (fun h => h.1 h1')]
      simp [bIn, hn, h1', e]
    · by_cases h2 : (fd.length : Int) < c
      · have e : stp c fd m = fd ++ [m] := by unfold stp; rw [if_pos ⟨h1', h2⟩]
        have hz : fd.length < 16777216 := by omega
        simp [bIn, hn, h1', h2, e, hz]
      · have e : stp c fd m = fd := by unfold stp; rw [if_neg (fun h => h2 h.2)]
        simp [bIn, hn, h1', h2, e]
def bMid : Ev → Out := sFor (eItems (e1L dLst (eCons (e1L dTup (eCons (eVar 6) (eCons (eVar 7) eNil))) (eCons (e1L dTup (eCons (eVar 6) (eCons (e2 dSub (eC (.int 0)) (eVarB 7)) eNil))) eNil)))) (.nm 9) bIn
def two (nm : Str) (i : Int) : List Mv := [(nm, i), (nm, 0 - i)]
theorem mid_loop {a0 a1 a4 a5 a8 : Sl} {c : Int} (hc : c ≤ 1000) (nm : Str) (hnm : okS nm) : ∀ (is : List Int) (fd : List Mv) (x y : Sl), (∀ m ∈ fd, okS m.1) → ∃ x' y', forD (.nm 7) bMid (iD is) [a0, a1, .im (.int c), .ow (.lst (fd.map mvD)), a4, a5, .im (.str nm), x, a8, y] =
    .nx [a0, a1, .im (.int c), .ow (.lst (((is.flatMap (two nm)).foldl (stp c) fd).map mvD)), a4, a5, .im (.str nm), x', a8, y']
  | [], fd, x, y, _ => ⟨x, y, rfl⟩
  | i :: is, fd, x, y, hf => by
    have h2 : ∀ m ∈ two nm i, okS m.1 := by intro m hm; simp [two] at hm; rcases hm with rfl | rfl <;> exact hnm
    obtain ⟨y1, e1⟩ := in_loop (a0 := a0) (a1 := a1) (a4 := a4) (a5 := a5) (a6 := .im (.str nm)) (a7 := .im (.int i)) (a8 := a8) hc (two nm i) fd y h2 hf
    obtain ⟨x', y', e2⟩ := mid_loop (a0 := a0) (a1 := a1) (a4 := a4) (a5 := a5) (a8 := a8) hc nm hnm is ((two nm i).foldl (stp c) fd) (.im (.int i)) y1 (fold_ok h2 hf)
    refine ⟨x', y', forD_step setP_nm (ρ2 := [a0, a1, .im (.int c), .ow (.lst (((two nm i).foldl (stp c) fd).map mvD)), a4, a5, .im (.str nm), .im (.int i), a8, y1]) ?_ (by rw [List.flatMap_cons, List.foldl_append]; exact e2)⟩
    have e3 : (two nm i).map mvD = [.tup [.str nm, .int i], .tup [.str nm, .int (0 - i)]] := rfl
    rw [e3] at e1
    refine (sFor_ok (l := [.tup [.str nm, .int i], .tup [.str nm, .int (0 - i)]]) (by simp)).trans ?_
    simpa using e1
def bOut : Ev → Out := sFor (eRg2 (eC (.int 1)) (eC (.int 21))) (.nm 7) bMid
def mvs (ts : List (Str × List Int)) : List Mv := ts.flatMap fun t => (rgI 1 21).flatMap (two t.1)
theorem out_loop {a0 a1 a4 a5 : Sl} {c : Int} (hc : c ≤ 1000) : ∀ (ts : List (Str × List Int)) (fd : List Mv) (x6 x7 x8 x9 : Sl), (∀ t ∈ ts, okS t.1) → (∀ m ∈ fd, okS m.1) → ∃ y6 y7 y8 y9, forD (.tup [(.nm 6), (.nm 8)]) bOut (ts.map turnD) [a0, a1, .im (.int c), .ow (.lst (fd.map mvD)), a4, a5, x6, x7, x8, x9] =
    .nx [a0, a1, .im (.int c), .ow (.lst (((mvs ts).foldl (stp c) fd).map mvD)), a4, a5, y6, y7, y8, y9]
  | [], fd, x6, x7, x8, x9, _, _ => ⟨x6, x7, x8, x9, rfl⟩
  | t :: ts, fd, x6, x7, x8, x9, ht, hf => by
    have h2 : ∀ m ∈ (rgI 1 21).flatMap (two t.1), okS m.1 := by
      intro m hm
      obtain ⟨i, _, hm⟩ := List.mem_flatMap.mp hm
      simp [two] at hm
      rcases hm with rfl | rfl <;> exact ht t (by simp)
    obtain ⟨x', y', e1⟩ := mid_loop (a0 := a0) (a1 := a1) (a4 := a4) (a5 := a5) (a8 := .im (.tux (iD t.2))) hc t.1 (ht t (by simp)) (rgI 1 21) fd x7 x9 hf
    obtain ⟨y6, y7, y8, y9, e2⟩ := out_loop (a0 := a0) (a1 := a1) (a4 := a4) (a5 := a5) hc ts (((rgI 1 21).flatMap (two t.1)).foldl (stp c) fd) (.im (.str t.1)) x' (.im (.tux (iD t.2))) y' (fun u hu => ht u (by simp [hu])) (fold_ok h2 hf)
    have hr : dRg (.int 1) (.int 21) = .ok (iD (rgI 1 21)) := by rw [← rgD_eq]; exact dRg_ap (by unfold rgB; omega)
    refine ⟨y6, y7, y8, y9, forD_step (ρ1 := [a0, a1, .im (.int c), .ow (.lst (fd.map mvD)), a4, a5, .im (.str t.1), x7, .im (.tux (iD t.2)), x9]) rfl ?_ (by rw [mvs, List.flatMap_cons, List.foldl_append]; exact e2)⟩
    exact (sFor_ok (by simp [hr])).trans e1
/-- the drawn ones -/
def bDraw : Ev → Out := (sSeq (sAsg (e2 dAdd (e2 dIx (eVarB 1) (e2 dMod (eVarB 4) (e1L (on1 dLen) (eCons (eVarB 1) eNil)))) (e2 dMul (eC (.int 97)) (e2 dDiv (eVarB 4) (e1L (on1 dLen) (eCons (eVarB 1) eNil))))) (.nm 5))
  (sSeq (sAsg (e2 dIx (e2 dIx (e2 dIx (eVarB 0) (eC (.int 1))) (e2 dMod (eVarB 5) (e1L (on1 dLen) (eCons (e2 dIx (eVarB 0) (eC (.int 1))) eNil)))) (eC (.int 0))) (.nm 6))
  (sSeq (sAsg (e2 dIx (e1L dLst (eCons (eC (.int 20)) (eCons (e1 dNeg (eC (.int 20))) (eCons (eC (.int 1)) (eCons (e1 dNeg (eC (.int 1))) (eCons (e2 dAdd (eC (.int 1)) (e2 dMod (e2 dDiv (eVarB 5) (eC (.int 8))) (eC (.int 20)))) (eCons (e2 dSub (e2 dSub (eC (.int 0)) (eC (.int 1))) (e2 dMod (e2 dDiv (eVarB 5) (eC (.int 8))) (eC (.int 20)))) eNil))))))) (e2 dMod (e2 dDiv (eVarB 5) (eC (.int 3))) (eC (.int 6)))) (.nm 7))
  (sIf (tAnd (eBl (e2 dNotIn (e1L dTup (eCons (eVar 6) (eCons (eVar 7) eNil))) (eVarB 3))) (eBl (e2 dLt (e1L (on1 dLen) (eCons (eVarB 3) eNil)) (eVarB 2))))
  (sApp 3 (e1L dTup (eCons (eVar 6) (eCons (eVar 7) eNil))))
  sNil))))
/-- a move of the puzzle -/
structure Gm (ts : List (Str × List Int)) (m : Mv) : Prop where
  nm : m.1 ∈ ts.map (·.1)
  ne : m.2 ≠ 0
  lo : -20 ≤ m.2
  hi : m.2 ≤ 20
theorem pick6 {a b c d e f : D} (x : Int) : ∃ y ∈ [a, b, c, d, e, f], atI [a, b, c, d, e, f] (x % 6) = some y := by
  have h0 : 0 ≤ x % 6 := by omega
  have h1 : x % 6 < ([a, b, c, d, e, f] : List D).length := by simp; omega
  exact ⟨_, List.getElem_mem _, atI_get h0 h1⟩
theorem draw_loop {n : Nat} {ts : List (Str × List Int)} (P : Pz n ts) (hok : ∀ t ∈ ts, okS t.1) {dr : List Int} (hd : 0 < dr.length) (hd1 : dr.length ≤ 1000) (hd0 : ∀ z ∈ dr, 0 ≤ z) {c : Int} (hc : c ≤ 1000) {x8 x9 : Sl} : ∀ (ks : List Nat) (fd : List Mv) (x4 x5 x6 x7 : Sl), (∀ m ∈ fd, Gm ts m) → (fd.length : Int) ≤ c → fd.Nodup →
    ∃ (fd' : List Mv) (y4 y5 y6 y7 : Sl), forD (.nm 4) bDraw (nD ks) [.im (pzD n ts), .im (.lst (iD dr)), .im (.int c), .ow (.lst (fd.map mvD)), x4, x5, x6, x7, x8, x9] =
    .nx [.im (pzD n ts), .im (.lst (iD dr)), .im (.int c), .ow (.lst (fd'.map mvD)), y4, y5, y6, y7, x8, x9] ∧ (∀ m ∈ fd', Gm ts m) ∧ (fd'.length : Int) ≤ c ∧ fd'.Nodup
  | [], fd, x4, x5, x6, x7, h, hl, hn => ⟨fd, x4, x5, x6, x7, rfl, h, hl, hn⟩
  | k :: ks, fd, x4, x5, x6, x7, h, hl, hn => by
    have hi0 : 0 ≤ (k : Int) % dr.length := Int.emod_nonneg _ (by omega)
    have hi1 : (k : Int) % dr.length < dr.length := Int.emod_lt_of_pos _ (by omega)
    have g1 := iD_at (atI_get hi0 hi1)
    generalize hz : dr[((k : Int) % dr.length).toNat]'(by omega) = z at g1
    have hz0 : 0 ≤ z := by rw [← hz]; exact hd0 _ (List.getElem_mem _)
    have hz1 : 0 ≤ (k : Int) / dr.length := Int.ediv_nonneg (by omega) (by omega)
    generalize hw : z + 97 * ((k : Int) / dr.length) = w
    have hw0 : 0 ≤ w := by omega
    have t0 := P.t1
    have hj0 : 0 ≤ w % ts.length := Int.emod_nonneg _ (by omega)
    have hj1 : w % ts.length < ts.length := Int.emod_lt_of_pos _ (by omega)
    have g2 : atI (ts.map turnD) (w % ts.length) = some (turnD (ts[(w % ts.length).toNat]'(by omega))) := by
      rw [atI_get hj0 (by rw [List.length_map]; exact hj1)]
      simp
    generalize ht : ts[(w % ts.length).toNat]'(by omega) = t at g2
    have htm : t ∈ ts := by rw [← ht]; exact List.getElem_mem _
    obtain ⟨y, hy, g3⟩ := pick6 (a := .int 20) (b := .int (-20)) (c := .int 1) (d := .int (-1)) (e := .int (1 + w / 8 % 20)) (f := .int (-1 - w / 8 % 20)) (w / 3)
    obtain ⟨v, rfl, v0, v1, v2⟩ : ∃ v : Int, y = .int v ∧ v ≠ 0 ∧ -20 ≤ v ∧ v ≤ 20 := by
      simp only [List.mem_cons, List.not_mem_nil, or_false] at hy
      have := Int.emod_nonneg (w / 8) (b := 20) (by omega)
      have := Int.emod_lt_of_pos (w / 8) (b := 20) (by omega)
      rcases hy with rfl | rfl | rfl | rfl | rfl | rfl <;> exact ⟨_, rfl, by omega, by omega, by omega⟩
    have gm : Gm ts (t.1, v) := ⟨List.mem_map.mpr ⟨t, htm, rfl⟩, v0, v1, v2⟩
    have hokf : ∀ x ∈ fd, okS x.1 := fun x hx => by
      obtain ⟨u, hu, e⟩ := List.mem_map.mp (h x hx).nm
      rw [← e]; exact hok u hu
    obtain ⟨fd', y4, y5, y6, y7, q0, r1, r2, r3⟩ := draw_loop P hok hd hd1 hd0 hc (x8 := x8) (x9 := x9) ks (stp c fd (t.1, v)) (.im (.int k)) (.im (.int w)) (.im (.str t.1)) (.im (.int v)) (stp_ok gm h) (stp_len hl) (stp_nd hn)
    refine ⟨fd', y4, y5, y6, y7, forD_step (ρ1 := [.im (pzD n ts), .im (.lst (iD dr)), .im (.int c), .ow (.lst (fd.map mvD)), .im (.int k), x5, x6, x7, x8, x9]) rfl ?_ q0, r1, r2, r3⟩
    have hni := mv_notIn (m := (t.1, v)) (hok t htm) hokf
    have q5 : (e2 dAdd (e2 dIx (eVarB 1) (e2 dMod (eVarB 4) (e1L (on1 dLen) (eCons (eVarB 1) eNil)))) (e2 dMul (eC (.int 97)) (e2 dDiv (eVarB 4) (e1L (on1 dLen) (eCons (eVarB 1) eNil))))) [.im (pzD n ts), .im (.lst (iD dr)), .im (.int c), .ow (.lst (fd.map mvD)), .im (.int k), x5, x6, x7, x8, x9] = .ok (.int w) := by
      simp [dMod_ii (j := dr.length) (by omega), dDiv_ii (j := dr.length) (by omega) (by omega), g1, dMul_l (i := 97) (by decide) (by decide), hw]
    have q6 : ∀ x6, (e2 dIx (e2 dIx (e2 dIx (eVarB 0) (eC (.int 1))) (e2 dMod (eVarB 5) (e1L (on1 dLen) (eCons (e2 dIx (eVarB 0) (eC (.int 1))) eNil)))) (eC (.int 0))) [.im (pzD n ts), .im (.lst (iD dr)), .im (.int c), .ow (.lst (fd.map mvD)), .im (.int k), .im (.int w), x6, x7, x8, x9] = .ok (.str t.1) := by
      intro x6
      have a1 : atI [D.int (n : Int), .lst (ts.map turnD)] 1 = some (.lst (ts.map turnD)) := rfl
      have a2 : atI [D.str t.1, .tux (iD t.2)] 0 = some (.str t.1) := rfl
      simp [a1, dMod_ii (j := ts.length) (by omega), g2, turnD, a2]
    have q7 : ∀ x7, (e2 dIx (e1L dLst (eCons (eC (.int 20)) (eCons (e1 dNeg (eC (.int 20))) (eCons (eC (.int 1)) (eCons (e1 dNeg (eC (.int 1))) (eCons (e2 dAdd (eC (.int 1)) (e2 dMod (e2 dDiv (eVarB 5) (eC (.int 8))) (eC (.int 20)))) (eCons (e2 dSub (e2 dSub (eC (.int 0)) (eC (.int 1))) (e2 dMod (e2 dDiv (eVarB 5) (eC (.int 8))) (eC (.int 20)))) eNil))))))) (e2 dMod (e2 dDiv (eVarB 5) (eC (.int 3))) (eC (.int 6)))) [.im (pzD n ts), .im (.lst (iD dr)), .im (.int c), .ow (.lst (fd.map mvD)), .im (.int k), .im (.int w), .im (.str t.1), x7, x8, x9] = .ok (.int v) := by
      intro x7
      simp [dDiv_ii (j := 8) (by decide) (by decide), dDiv_ii (j := 3) (by decide) (by decide), dMod_ii (j := 20) (by decide), dMod_ii (j := 6) (by decide), g3]
    unfold bDraw
    refine (sSeq_nx (ρ1 := [.im (pzD n ts), .im (.lst (iD dr)), .im (.int c), .ow (.lst (fd.map mvD)), .im (.int k), .im (.int w), x6, x7, x8, x9]) (by rw [sAsg_nm]; simp only [List.set_cons_succ, List.set_cons_zero, q5, thenS_ok])).trans ?_
    refine (sSeq_nx (ρ1 := [.im (pzD n ts), .im (.lst (iD dr)), .im (.int c), .ow (.lst (fd.map mvD)), .im (.int k), .im (.int w), .im (.str t.1), x7, x8, x9]) (by rw [sAsg_nm, q6]; rfl)).trans ?_
    refine (sSeq_nx (ρ1 := [.im (pzD n ts), .im (.lst (iD dr)), .im (.int c), .ow (.lst (fd.map mvD)), .im (.int k), .im (.int w), .im (.str t.1), .im (.int v), x8, x9]) (by rw [sAsg_nm, q7]; rfl)).trans ?_
    simp only [mvD] at hni
    by_cases h1' : (t.1, v) ∈ fd
    · have e : stp c fd (t.1, v) = fd := by unfold stp; rw [if_neg (fun h => h.1 h1')]
      simp [hni, h1', e]
    · by_cases h2 : (fd.length : Int) < c
      · have e : stp c fd (t.1, v) = fd ++ [(t.1, v)] := by unfold stp; rw [if_pos ⟨h1', h2⟩]
        have hz : fd.length < 16777216 := by omega
        simp [hni, h1', h2, e, hz, mvD]
      · have e : stp c fd (t.1, v) = fd := by unfold stp; rw [if_neg (fun h => h2 h.2)]
        simp [hni, h1', h2, e]
theorem mvs_mem {ts : List (Str × List Int)} {m : Mv} : m ∈ mvs ts ↔ m.1 ∈ ts.map (·.1) ∧ ((1 ≤ m.2 ∧ m.2 < 21) ∨ (1 ≤ -m.2 ∧ -m.2 < 21)) := by
  unfold mvs two
  simp only [List.mem_flatMap, List.mem_map, mem_rgI, List.mem_cons, List.not_mem_nil, or_false]
  constructor
  · rintro ⟨t, ht, i, hi, rfl | rfl⟩
    · exact ⟨⟨t, ht, rfl⟩, .inl hi⟩
    · exact ⟨⟨t, ht, rfl⟩, .inr (by simp; omega)⟩
  · rintro ⟨⟨t, ht, e⟩, h | h⟩
    · exact ⟨t, ht, m.2, h, .inl (Prod.ext e.symm rfl)⟩
    · exact ⟨t, ht, -m.2, h, .inr (Prod.ext e.symm (by simp))⟩
theorem nms_ok : ∀ s ∈ nms, okS s := by unfold okS; decide +kernel
theorem Pz.ok {n : Nat} {ts : List (Str × List Int)} (P : Pz n ts) : ∀ t ∈ ts, okS t.1 := fun t ht => nms_ok _ (P.mem t ht)
theorem Gm.ok {n : Nat} {ts : List (Str × List Int)} (P : Pz n ts) {m : Mv} (g : Gm ts m) : okS m.1 := by
  obtain ⟨t, ht, e⟩ := List.mem_map.mp g.nm
  rw [← e]; exact P.ok t ht
theorem all_moves_ok {n : Nat} {ts : List (Str × List Int)} (P : Pz n ts) {dr : List Int} (hd : 0 < dr.length) (hd1 : dr.length ≤ 1000) (hd0 : ∀ z ∈ dr, 0 ≤ z) (c : Nat) (hc : c ≤ 39) :
    ∃ ms : List Mv, F__law_all_moves [pzD n ts, .lst (iD dr), .int c] = .ok (.lst (ms.map mvD)) ∧ ms.length = c ∧ ms.Nodup ∧ ∀ m ∈ ms, Gm ts m := by
  obtain ⟨fd, y4, y5, y6, y7, q0, r1, r2, r3⟩ := draw_loop P P.ok hd hd1 hd0 (c := c) (by omega) (x8 := .un) (x9 := .un) (List.range (3 * c)) [] .un .un .un .un (by simp) (by simp) (by simp)
  obtain ⟨z6, z7, z8, z9, q1⟩ := out_loop (a0 := .im (pzD n ts)) (a1 := .im (.lst (iD dr))) (a4 := y4) (a5 := y5) (c := c) (by omega) ts fd y6 y7 .un .un P.ok fun m hm => (r1 m hm).ok P
  have hr := dRg_ap (rgB_nat (n := 3 * c) (by omega))
  rw [rgD_nat] at hr
  have e3 : ((3 * c : Nat) : Int) = 3 * (c : Int) := by omega
  rw [e3] at hr
  have hG : ∀ m ∈ mvs ts, Gm ts m := fun m hm => by
    have := mvs_mem.mp hm
    exact ⟨this.1, by omega, by omega, by omega⟩
  have hlen : ((mvs ts).foldl (stp c) fd).length = c := by
    have h1 := fold_len (c := c) (L := mvs ts) r2
    rcases fold_all (c := c) (L := mvs ts) (fd := fd) with h | h
    · omega
    · exfalso
      obtain ⟨t, ht⟩ : ∃ t, t ∈ ts := List.exists_mem_of_length_pos P.t1
      let l : List Mv := ((List.range 40).map fun i : Nat => (t.1, if i < 20 then (i : Int) + 1 else -((i : Int) - 19)))
      have hnd : l.Nodup := by
        rw [List.Nodup, List.pairwise_map]
        refine List.Pairwise.imp_of_mem ?_ (List.nodup_range (n := 40))
        intro a b ha hb hab e
        have ha := List.mem_range.mp ha
        have hb := List.mem_range.mp hb
        have e := congrArg Prod.snd e
        simp only at e
        split at e <;> split at e <;> omega
      have hsub : ∀ x ∈ l, x ∈ (mvs ts).foldl (stp c) fd := fun x hx => h x (by
        obtain ⟨i, hi, rfl⟩ := List.mem_map.mp hx
        have hi := List.mem_range.mp hi
        refine mvs_mem.mpr ⟨List.mem_map.mpr ⟨t, ht, rfl⟩, ?_⟩
        simp only
        split <;> omega)
      have := nd_le hnd hsub
      simp [l] at this
      omega
  refine ⟨(mvs ts).foldl (stp c) fd, ?_, hlen, fold_nd r3, fold_ok hG r1⟩
  have a1 : atI [D.int (n : Int), .lst (ts.map turnD)] 1 = some (.lst (ts.map turnD)) := rfl
  unfold F__law_all_moves
  have hb : b__law_all_moves [.im (pzD n ts), .im (.lst (iD dr)), .im (.int c), .un, .un, .un, .un, .un, .un, .un] = .rt (.lst (((mvs ts).foldl (stp c) fd).map mvD)) := by
    unfold b__law_all_moves
    refine (sSeq_nx (ρ1 := [.im (pzD n ts), .im (.lst (iD dr)), .im (.int c), .ow (.lst []), .un, .un, .un, .un, .un, .un]) (by simp)).trans ?_
    refine (sSeq_nx ((sFor_ok (by simp [dMul_l (i := 3) (by decide) (by decide), hr])).trans q0)).trans ?_
    refine (sSeq_nx ((sFor_ok (l := ts.map turnD) (by simp [a1])).trans q1)).trans ?_
    simp
  unfold runF
  have e : List.map Sl.im [pzD n ts, .lst (iD dr), .int c] ++ List.replicate (10 - [pzD n ts, .lst (iD dr), .int c].length) Sl.un = [.im (pzD n ts), .im (.lst (iD dr)), .im (.int c), .un, .un, .un, .un, .un, .un, .un] := rfl
  rw [e, hb]
end
end K53

/-! k53: what the programs over data answer, part 3: check_moves. -/
namespace K53
open PySem PySem.Spec L2 DL
noncomputable section

def knD (ts : List (Str × List Int)) : List (Key × D) := ts.map fun t => ((.inr t.1 : Key), D.tux (iD t.2))
theorem kn_look {ts : List (Str × List Int)} {s : Str} : (lookD (knD ts) (.inr s : Key)).isSome = decide (s ∈ ts.map (·.1)) := by
  induction ts with
  | nil => rfl
  | cons t ts ih =>
    unfold lookD knD at ih ⊢
    rw [List.map_cons, List.find?_cons]
    by_cases h : t.1 = s
    · simp [h]
    · have h' : ¬ s = t.1 := fun e => h e.symm
      simp only [h, decide_false, reduceCtorEq] at ih ⊢
      have e : decide ((Sum.inr t.1 : Key) = Sum.inr s) = false := by simp [h]
      rw [e]
      refine ih.trans (decide_eq_decide.mpr ?_)
      rw [List.map_cons, List.mem_cons]
      exact ⟨.inr, fun q => q.resolve_left h'⟩
theorem compK_names {a0 : Sl} : ∀ (ts acc : List (Str × List Int)), (acc ++ ts).length ≤ 100 → ((acc ++ ts).map (·.1)).Nodup → compK (.tup [(.nm 1), (.nm 2)]) tTrue (eVar 1) (eVar 2) [a0, .un, .un] (ts.map turnD) (knD acc) = .ok (knD (acc ++ ts))
  | [], acc, _, _ => by simp [compK]
  | t :: ts, acc, hl, hn => by
    have ih := compK_names (a0 := a0) ts (acc ++ [t]) (by simp at hl ⊢; omega) (by simpa using hn)
    rw [List.map_cons, compK]
    have e : setP (.tup [(.nm 1), (.nm 2)]) (turnD t) [a0, .un, .un] = some [a0, .im (.str t.1), .im (.tux (iD t.2))] := rfl
    have hz : (knD acc).length < 16777216 := by simp [knD]; simp at hl; omega
    have hp : putD (knD acc) (.inr t.1 : Key) (.tux (iD t.2)) = knD (acc ++ [t]) := by
      unfold putD
      rw [if_neg]
      · simp [knD]
      · simp only [List.any_eq_true, not_exists, not_and]
        intro kv hkv he
        obtain ⟨u, hu, rfl⟩ := List.mem_map.mp hkv
        simp at he
        rw [List.map_append, List.nodup_append] at hn
        exact hn.2.2 _ (List.mem_map.mpr ⟨u, hu, rfl⟩) _ (List.mem_map.mpr ⟨t, by simp, rfl⟩) he
    rw [e]
    simp [key1?, hz, hp]
    simpa using ih
theorem names_ok {n : Nat} {ts : List (Str × List Int)} (P : Pz n ts) : F_names_of [pzD n ts] = .ok (.dK (knD ts)) := by
  have h := compK_names (a0 := .im (pzD n ts)) ts [] (by simp; have := P.t8; omega) (by simpa using P.nd)
  have a1 : atI [D.int (n : Int), .lst (ts.map turnD)] 1 = some (.lst (ts.map turnD)) := rfl
  simp [knD] at h
  simp [F_names_of, runF, b_names_of, eCompK, a1, wipeE, h, nofK, knD]

/-! ### one item -/
abbrev Row (ts : List (Str × List Int)) (d : D) (b : Bool) : Prop := F_is_row_item [.dK (knD ts), d] = .ok (.bl b)
theorem inK {ts : List (Str × List Int)} {s : Str} : dNotIn (.str s) (.dK (knD ts)) = .ok (.bl (!decide (s ∈ ts.map (·.1)))) := by
  unfold dNotIn inD dictLook
  simp only [key1?, Option.map_some]
  rw [kn_look]
theorem whole_i {i : Int} : F_is_whole [.int i] = .ok (.bl true) := by simp [F_is_whole, runF, b_is_whole, dIs, tyN, isInt, isBool]
theorem whole_b {i : Bool} : F_is_whole [.bl i] = .ok (.bl false) := by simp [F_is_whole, runF, b_is_whole, dIs, tyN, isInt, isBool]
theorem whole_s {i : Str} : F_is_whole [.str i] = .ok (.bl false) := by simp [F_is_whole, runF, b_is_whole, dIs, tyN, isInt, isBool]
theorem whole_n : F_is_whole [.non] = .ok (.bl false) := by simp [F_is_whole, runF, b_is_whole, dIs, tyN, isInt, isBool]
theorem whole_l {l : List D} : F_is_whole [.lst l] = .ok (.bl false) := by simp [F_is_whole, runF, b_is_whole, dIs, tyN, isInt, isBool]
theorem at20 {a b : D} : atI [a, b] 0 = some a := rfl
theorem at21 {a b : D} : atI [a, b] 1 = some b := rfl
theorem row_i {ts : List (Str × List Int)} {s : Str} {i : Int} (h : s ∈ ts.map (·.1)) : Row ts (.tup [.str s, .int i]) (decide (-20 ≤ i) && decide (i ≤ 20)) := by
  have hk := inK (ts := ts) (s := s)
  rw [decide_eq_true h] at hk
  by_cases h1 : -20 ≤ i
  · simp [Row, F_is_row_item, runF, b_is_row_item, dIs, tyN, isTup, isStr, at20, at21, hk, whole_i, h1]
  · simp [Row, F_is_row_item, runF, b_is_row_item, dIs, tyN, isTup, isStr, at20, at21, hk, whole_i, h1]
theorem row_w {ts : List (Str × List Int)} {s : Str} {d : D} (h : s ∈ ts.map (·.1)) (hw : F_is_whole [d] = .ok (.bl false)) : Row ts (.tup [.str s, d]) false := by
  have hk := inK (ts := ts) (s := s)
  rw [decide_eq_true h] at hk
  simp [Row, F_is_row_item, runF, b_is_row_item, dIs, tyN, isTup, isStr, at20, at21, hk, hw]
theorem row_u {ts : List (Str × List Int)} {s : Str} {d : D} (h : s ∉ ts.map (·.1)) : Row ts (.tup [.str s, d]) false := by
  have hk := inK (ts := ts) (s := s)
  rw [decide_eq_false h] at hk
  simp [Row, F_is_row_item, runF, b_is_row_item, dIs, tyN, isTup, isStr, at20, at21, hk]
theorem row_ns {ts : List (Str × List Int)} {a d : D} (h : dIs isStr a = .ok (.bl false)) : Row ts (.tup [a, d]) false := by
  have h1 : dIs isTup (.tup [a, d]) = .ok (.bl true) := rfl
  simp [Row, F_is_row_item, runF, b_is_row_item, h1, at20, at21, h]
theorem row_len {ts : List (Str × List Int)} {l : List D} (h : l.length ≠ 2) : Row ts (.tup l) false := by
  have h1 : dIs isTup (.tup l) = .ok (.bl true) := rfl
  have h2 : ((l.length : Int) == 2) = false := by
    cases q : ((l.length : Int) == 2) with
    | false => rfl
    | true => exact absurd (eq_of_beq q) (by omega)
  simp [Row, F_is_row_item, runF, b_is_row_item, h1, h2]
theorem row_nt {ts : List (Str × List Int)} {d : D} (h : dIs isTup d = .ok (.bl false)) : Row ts d false := by
  simp [Row, F_is_row_item, runF, b_is_row_item, h]

/-! ### check_moves -/
def seenD (ms : List Mv) : List (List Key × D) := ms.map fun m => ([(.inr m.1 : Key), .inl m.2], D.bl true)
theorem seen_look {ms : List Mv} {m : Mv} : (lookD (seenD ms) [(.inr m.1 : Key), .inl m.2]).isSome = decide (m ∈ ms) := by
  induction ms with
  | nil => rfl
  | cons t ms ih =>
    unfold lookD seenD at ih ⊢
    rw [List.map_cons, List.find?_cons]
    by_cases h : t = m
    · simp [h]
    · have h' : ¬ m = t := fun e => h e.symm
      have e : decide (([(.inr t.1 : Key), .inl t.2] : List Key) = [(.inr m.1 : Key), .inl m.2]) = false := by
        rw [decide_eq_false]
        intro q
        simp at q
        exact h (Prod.ext q.1 q.2)
      rw [e]
      refine ih.trans (decide_eq_decide.mpr ?_)
      rw [List.mem_cons]
      exact ⟨.inr, fun q => q.resolve_left h'⟩
theorem in_seen {ms : List Mv} {m : Mv} : dIn (.tup [.str m.1, .int m.2]) (.dT (seenD ms)) = .ok (.bl (decide (m ∈ ms))) := by
  unfold dIn inD dictLook
  simp only [keys?, key1?, Option.map_some, Option.bind_some]
  rw [seen_look]
def bCk : Ev → Out := (sSeq (sIf (tOr (tNot (eTru (e1L (cFn 2 F_is_row_item) (eCons (eVar 2) (eCons (eVar 4) eNil))))) (tOr (eBl (e2 dEq (e2 dIx (eVarB 4) (eC (.int 1))) (eC (.int 0)))) (eBl (e2 dIn (eVarB 4) (eVarB 3)))))
  (fun ρ => .ex 3 ρ)
  sNil)
  (sPut 3 (eVar 4) (eC (.bl true))))
theorem ck_step {ts : List (Str × List Int)} {a0 a1 : Sl} {ms : List Mv} {m : Mv} (g : Gm ts m) (h : m ∉ ms) (hl : ms.length ≤ 1000) :
    bCk [a0, a1, .im (.dK (knD ts)), .ow (.dT (seenD ms)), .im (mvD m)] = .nx [a0, a1, .im (.dK (knD ts)), .ow (.dT (seenD (ms ++ [m]))), .im (mvD m)] := by
  have hr := row_i (i := m.2) g.nm
  rw [decide_eq_true g.lo, decide_eq_true g.hi] at hr
  have hi := in_seen (ms := ms) (m := m)
  rw [decide_eq_false h] at hi
  have hz : (seenD ms).length < 16777216 := by simp [seenD]; omega
  have hp : putD (seenD ms) [(.inr m.1 : Key), .inl m.2] (.bl true) = seenD (ms ++ [m]) := by
    unfold putD
    rw [if_neg]
    · simp [seenD]
    · simp only [List.any_eq_true, not_exists, not_and]
      intro kv hkv he
      obtain ⟨u, hu, rfl⟩ := List.mem_map.mp hkv
      simp at he
      have e : u = m := Prod.ext he.1 he.2
      exact h (by rw [← e]; exact hu)
  have hs : putSub (.dT (seenD ms)) (.tup [.str m.1, .int m.2]) (.bl true) = some (.dT (seenD (ms ++ [m]))) := by
    simp [putSub, keys?, key1?, hz, hp]
  have ne : (m.2 == 0) = false := by simpa using g.ne
  have q1 : F_is_row_item [.dK (knD ts), .tup [.str m.1, .int m.2]] = .ok (.bl true) := hr
  simp [bCk, mvD, q1, at21, ne, hi, sPut, hs]
/-- what is no move at all -/
inductive Bad (ts : List (Str × List Int)) (d : D) : Prop
  | row (h : Row ts d false) : Bad ts d
  | zero {s : Str} (h : s ∈ ts.map (·.1)) (e : d = .tup [.str s, .int 0]) : Bad ts d
theorem ck_bad {ts : List (Str × List Int)} {a0 a1 : Sl} {sn : D} {d : D} (h : Bad ts d) : bCk [a0, a1, .im (.dK (knD ts)), .ow sn, .im d] = .ex 3 [a0, a1, .im (.dK (knD ts)), .ow sn, .im d] := by
  cases h with
  | row h =>
    have q1 : F_is_row_item [.dK (knD ts), d] = .ok (.bl false) := h
    simp [bCk, q1]
  | zero h e =>
    subst e
    have q1 : F_is_row_item [.dK (knD ts), .tup [.str _, .int 0]] = .ok (.bl true) := row_i h
    simp [bCk, q1, at21]
theorem ck_again {ts : List (Str × List Int)} {a0 a1 : Sl} {ms : List Mv} {m : Mv} (g : Gm ts m) (h : m ∈ ms) : bCk [a0, a1, .im (.dK (knD ts)), .ow (.dT (seenD ms)), .im (mvD m)] = .ex 3 [a0, a1, .im (.dK (knD ts)), .ow (.dT (seenD ms)), .im (mvD m)] := by
  have hr := row_i (i := m.2) g.nm
  rw [decide_eq_true g.lo, decide_eq_true g.hi] at hr
  have hi := in_seen (ms := ms) (m := m)
  rw [decide_eq_true h] at hi
  have ne : (m.2 == 0) = false := by simpa using g.ne
  have q1 : F_is_row_item [.dK (knD ts), .tup [.str m.1, .int m.2]] = .ok (.bl true) := hr
  simp [bCk, mvD, q1, at21, ne, hi]
theorem ck_good {ts : List (Str × List Int)} {a0 a1 : Sl} : ∀ (ms pre : List Mv) (x : Sl) (rest : List D), (∀ m ∈ ms, Gm ts m) → (pre ++ ms).Nodup → (pre ++ ms).length ≤ 1000 → ∃ x', forD (.nm 4) bCk (ms.map mvD ++ rest) [a0, a1, .im (.dK (knD ts)), .ow (.dT (seenD pre)), x] =
    forD (.nm 4) bCk rest [a0, a1, .im (.dK (knD ts)), .ow (.dT (seenD (pre ++ ms))), x']
  | [], pre, x, rest, _, _, _ => ⟨x, by simp⟩
  | m :: ms, pre, x, rest, hg, hn, hl => by
    have hm : m ∉ pre := fun hp => by
      rw [List.nodup_append] at hn
      exact hn.2.2 m hp m (by simp) rfl
    obtain ⟨x', h1⟩ := ck_good (a0 := a0) (a1 := a1) ms (pre ++ [m]) (.im (mvD m)) rest (fun y hy => hg y (by simp [hy])) (by simpa using hn) (by simpa using hl)
    refine ⟨x', forD_step (ρ1 := [a0, a1, .im (.dK (knD ts)), .ow (.dT (seenD pre)), .im (mvD m)]) rfl (ck_step (hg m (by simp)) hm (by simp at hl; omega)) (h1.trans (by simp))⟩
theorem moves_at {n : Nat} {ts : List (Str × List Int)} (P : Pz n ts) (ds : List D) {o : Out} (h : forD (.nm 4) bCk ds [.im (pzD n ts), .im (.lst ds), .im (.dK (knD ts)), .ow (.dT (seenD [])), .un] = o) :
    b_check_moves [.im (pzD n ts), .im (.lst ds), .un, .un, .un] = sSeq (fun _ => o) (sIf (tNot (eBl (eChain dLe dLe (eC (.int 1)) (e1L (on1 dLen) (eCons (eVarB 1) eNil)) (eC (.int 20))))) (fun ρ => .ex 2 ρ) sNil) [] := by
  have hn := names_ok P
  unfold b_check_moves
  refine (sSeq_nx (ρ1 := [.im (pzD n ts), .im (.lst ds), .im (.dK (knD ts)), .un, .un]) (by simp [hn])).trans ?_
  refine (sSeq_nx (ρ1 := [.im (pzD n ts), .im (.lst ds), .im (.dK (knD ts)), .ow (.dT (seenD [])), .un]) (by simp [seenD])).trans ?_
  rw [sSeq_ap, sSeq_ap]
  have e : sFor (eItems (eVar 1)) (.nm 4) bCk [.im (pzD n ts), .im (.lst ds), .im (.dK (knD ts)), .ow (.dT (seenD [])), .un] = o := (sFor_ok (l := ds) (by simp)).trans h
  show (match sFor (eItems (eVar 1)) (.nm 4) bCk [.im (pzD n ts), .im (.lst ds), .im (.dK (knD ts)), .ow (.dT (seenD [])), .un] with
    | .nx ρ' => _
    | o => o) = _
  rw [e] <;> (cases o <;> rfl)
theorem run5 {n : Nat} {ts : List (Str × List Int)} {ds : List D} : List.map Sl.im [pzD n ts, .lst ds] ++ List.replicate (5 - [pzD n ts, .lst ds].length) Sl.un = [.im (pzD n ts), .im (.lst ds), .un, .un, .un] := rfl
/-- the moves are let, but for their count -/
theorem check_good {n : Nat} {ts : List (Str × List Int)} (P : Pz n ts) {ms : List Mv} (hg : ∀ m ∈ ms, Gm ts m) (hn : ms.Nodup) (hl : ms.length ≤ 1000) : F_check_moves [pzD n ts, .lst (ms.map mvD)] = if 1 ≤ ms.length ∧ ms.length ≤ 20 then .ok .non else .ex 2 := by
  obtain ⟨x', h1⟩ := ck_good (ts := ts) (a0 := .im (pzD n ts)) (a1 := .im (.lst (ms.map mvD))) ms [] .un [] hg (by simpa using hn) (by simpa using hl)
  rw [List.append_nil, forD_nil] at h1
  have h2 := moves_at P _ h1
  unfold F_check_moves runF
  rw [run5, h2]
  by_cases h : 1 ≤ ms.length
  · have e1 : (1 : Int) ≤ ms.length := by omega
    by_cases h' : ms.length ≤ 20
    · have e2 : (ms.length : Int) ≤ 20 := by omega
      simp [h, h', e1, e2]
    · have e2 : ¬ (ms.length : Int) ≤ 20 := by omega
      simp [h, h', e1, e2]
  · have e1 : ¬ (1 : Int) ≤ ms.length := by omega
    simp [h, e1]
theorem check_bad {n : Nat} {ts : List (Str × List Int)} (P : Pz n ts) {pre : List Mv} {d : D} {post : List D} (hg : ∀ m ∈ pre, Gm ts m) (hn : pre.Nodup) (hl : pre.length ≤ 1000) (hb : Bad ts d ∨ ∃ m ∈ pre, Gm ts m ∧ d = mvD m) : F_check_moves [pzD n ts, .lst (pre.map mvD ++ d :: post)] = .ex 3 := by
  obtain ⟨x', h1⟩ := ck_good (ts := ts) (a0 := .im (pzD n ts)) (a1 := .im (.lst (pre.map mvD ++ d :: post))) pre [] .un (d :: post) hg (by simpa using hn) (by simpa using hl)
  have h3 : forD (.nm 4) bCk (d :: post) [.im (pzD n ts), .im (.lst (pre.map mvD ++ d :: post)), .im (.dK (knD ts)), .ow (.dT (seenD ([] ++ pre))), x'] = .ex 3 [.im (pzD n ts), .im (.lst (pre.map mvD ++ d :: post)), .im (.dK (knD ts)), .ow (.dT (seenD ([] ++ pre))), .im d] := by
    rcases hb with hb | ⟨m, hm, g, rfl⟩
    · exact forD_ex (ρ1 := [.im (pzD n ts), .im (.lst (pre.map mvD ++ d :: post)), .im (.dK (knD ts)), .ow (.dT (seenD ([] ++ pre))), .im d]) rfl (ck_bad hb)
    · exact forD_ex (ρ1 := [.im (pzD n ts), .im (.lst (pre.map mvD ++ mvD m :: post)), .im (.dK (knD ts)), .ow (.dT (seenD ([] ++ pre))), .im (mvD m)]) rfl (ck_again g (by simpa using hm))
  have h2 := moves_at P _ (h1.trans h3)
  unfold F_check_moves runF
  rw [run5, h2]
  simp
/-- the first that came before -/
theorem first_dup {α : Type} [DecidableEq α] : ∀ (l pre : List α), pre.Nodup → ¬ (pre ++ l).Nodup → ∃ a x b, l = a ++ x :: b ∧ (pre ++ a).Nodup ∧ x ∈ pre ++ a
  | [], pre, h, h' => absurd (by simpa using h) h'
  | y :: l, pre, h, h' => by
    by_cases hy : y ∈ pre
    · exact ⟨[], y, l, rfl, by simpa using h, by simpa using hy⟩
    · obtain ⟨a, x, b, e, h1, h2⟩ := first_dup l (pre ++ [y]) (by
        rw [List.nodup_append]
        refine ⟨h, by simp, fun u hu v hv => ?_⟩
        rw [List.mem_singleton.mp hv]
        intro q; subst q; exact hy hu) (by simpa using h')
      exact ⟨y :: a, x, b, by rw [e]; rfl, by simpa using h1, by simpa using h2⟩
theorem check_dup {n : Nat} {ts : List (Str × List Int)} (P : Pz n ts) {ms : List Mv} (hg : ∀ m ∈ ms, Gm ts m) (hn : ¬ ms.Nodup) (hl : ms.length ≤ 1000) : F_check_moves [pzD n ts, .lst (ms.map mvD)] = .ex 3 := by
  obtain ⟨a, x, b, rfl, h1, h2⟩ := first_dup ms [] (by simp) (by simpa using hn)
  simp only [List.nil_append] at h1 h2
  rw [List.map_append, List.map_cons]
  exact check_bad P (fun m hm => hg m (by simp [hm])) h1 (by simp at hl; omega) (.inr ⟨x, h2, hg x (by simp), rfl⟩)
end
end K53

/-! k53: what the programs over data answer, part 4: the law's checks. -/
namespace K53
open PySem PySem.Spec L2 DL
noncomputable section

theorem eIsE_ap {sb : Nat → Nat → Option Bool} {e c : Nat} {a : Addr} {i : Nat} {ρ : Ev} (h : ρ[i]? = some (Sl.raw (.ref a))) : eIsE sb e c a i ρ = ofB (sb e c) := by
  unfold eIsE
  rw [h]
  simp only [if_true]
  cases sb e c <;> rfl
theorem run3 {a b : D} : List.map Sl.im [a, b] ++ List.replicate (3 - [a, b].length) Sl.un = [.im a, .im b, .un] := rfl
theorem at_w1 {a b : D} : dIx (.lst [a, b]) (.int 1) = .ok b := by simp [at21]
theorem checked_good {a b : D} (h : F_check_moves [a, b] = .ok .non) : F__law_checked [a, b] = .ok (.str "good") := by
  have e : (dIsN .non .non) = .ok (.bl true) := rfl
  unfold F__law_checked runF
  rw [run3]
  simp [b__law_checked, sTry, h, e, at_w1]
theorem checked_move {a b : D} (h : F_check_moves [a, b] = .ex 3) : F__law_checked [a, b] = .ok (.str "move") := by
  have s1 : sbA 3 3 = some true := rfl
  have s2 : sbA 3 0 = some true := rfl
  have s3 : sbA 3 1 = some false := rfl
  unfold F__law_checked runF
  rw [run3]
  simp [b__law_checked, sTry, h, handD, s1, s2, s3, onE, eIsE_ap, ofB, at_w1, offO]
theorem checked_count {a b : D} (h : F_check_moves [a, b] = .ex 2) : F__law_checked [a, b] = .ok (.str "count") := by
  have s1 : sbA 2 3 = some false := rfl
  have s4 : sbA 2 2 = some true := rfl
  have s2 : sbA 2 0 = some true := rfl
  unfold F__law_checked runF
  rw [run3]
  simp [b__law_checked, sTry, h, handD, s1, s2, s4, onE, eIsE_ap, ofB, at_w1, offO]

/-! ### what is none -/
theorem comp_names {ts : List (Str × List Int)} {r0 r1 r2 r3 r4 r5 r6 : Sl} : compL (.tup [(.nm 7), (.nm 8)]) tTrue (eVar 7) [r0, r1, r2, r3, r4, r5, r6, .un, .un] (ts.map turnD) = .ok (ts.map fun t => .str t.1) := by
  rw [compL_map (g := fun d => match d with
    | .tup (a :: _) => a
    | d => d)]
  · rw [List.map_map]; rfl
  · intro d hd
    obtain ⟨t, _, rfl⟩ := List.mem_map.mp hd
    exact ⟨_, rfl, tTrue_ap, by simp [turnD]⟩
def s11 : List Str := ["a", "A", "aa", "aA", "Aa", "aaa", "b", "zZz", "aaaa", "", "a "]
theorem s11_ok : ∀ s ∈ s11, okS s := by unfold okS; decide +kernel
theorem strs_any {o : Str} {l : List Str} : ((l.map D.str).any fun z => D.eqv z (.str o)) = decide (o ∈ l) := by
  induction l with
  | nil => rfl
  | cons a l ih =>
    rw [List.map_cons, List.any_cons, ih, eqv_ss]
    by_cases h : a = o
    · subst h; simp
    · have h' : ¬ o = a := fun e => h e.symm
      simp [h, h']
theorem comp_strange {ts : List (Str × List Int)} (hok : ∀ t ∈ ts, okS t.1) {r0 r1 r3 r4 r5 r6 r8 : Sl} : compL (.nm 7) (eBl (e2 dNotIn (eVarB 7) (eVarB 2))) (eVar 7) [r0, r1, .im (.lst (ts.map fun t => .str t.1)), r3, r4, r5, r6, .un, r8] (s11.map D.str) = .ok ((s11.filter fun o => !decide (o ∈ ts.map (·.1))).map D.str) := by
  rw [compL_filter (g := fun d => d) (q := fun d => match d with
    | .str o => !decide (o ∈ ts.map (·.1))
    | _ => false)]
  · rw [List.filter_map, List.map_map]; rfl
  · intro d hd
    obtain ⟨o, ho, rfl⟩ := List.mem_map.mp hd
    have e : (ts.map fun t => D.str t.1) = (ts.map (·.1)).map D.str := by rw [List.map_map]; rfl
    have hn : dNotIn (.str o) (.lst (ts.map fun t => .str t.1)) = .ok (.bl (!decide (o ∈ ts.map (·.1)))) := by
      rw [dNotIn_l (n := 0) (m := 0) (sh_str (s11_ok o ho)) fun d hd => by
        obtain ⟨t, ht, rfl⟩ := List.mem_map.mp hd
        exact sh_str (hok t ht), e, strs_any]
    exact ⟨_, setP_nm, by simp [hn], fun _ => by simp⟩
theorem comp_pair {t : Int} {l : List Str} {r0 r1 r2 r3 r4 r5 r8 : Sl} : compL (.nm 7) tTrue (e1L dTup (eCons (eVar 7) (eCons (eVar 6) eNil))) [r0, r1, r2, r3, r4, r5, .im (.int t), .un, r8] (l.map D.str) = .ok (l.map fun o => .tup [.str o, .int t]) := by
  rw [compL_map (g := fun d => .tup [d, .int t])]
  · rw [List.map_map]; rfl
  · intro d hd
    exact ⟨_, setP_nm, tTrue_ap, by simp⟩
def nl1 (s : Str) (t : Int) : List D := [.tup [.str s, .int 0], .tup [.str s, .int 21], .tup [.str s, .int (-21)], .tup [.str s, .bl true], .tup [.str s, .str "1"], .tup [.str s, .non], .tup [.str s, .lst [.int 1]], .tup [.str s], .tup [.str s, .int t, .int t]]
def nl2 (s : Str) (t : Int) : List D := [.lst [.str s, .int t], .tup [.int t, .str s], .tup [.lst [.str s], .int t], .non, .str s, .int t, .tup [], .tup [.tup [.str s, .int t]], .tup [.str s, .int 100000000000000000000]]
theorem none_eq {n : Nat} {ts : List (Str × List Int)} (P : Pz n ts) {m : Mv} : F__law_none [pzD n ts, mvD m] = .ok (.lst (nl1 m.1 m.2 ++ nl2 m.1 m.2 ++ (s11.filter fun o => !decide (o ∈ ts.map (·.1))).map fun o => .tup [.str o, .int m.2])) := by
  have a1 : atI [D.int (n : Int), .lst (ts.map turnD)] 1 = some (.lst (ts.map turnD)) := rfl
  have hc1 := comp_names (ts := ts) (r0 := .im (pzD n ts)) (r1 := .im (mvD m)) (r2 := .un) (r3 := .un) (r4 := .un) (r5 := .im (.str m.1)) (r6 := .im (.int m.2))
  have hc2 := comp_strange (ts := ts) P.ok (r0 := .im (pzD n ts)) (r1 := .im (mvD m)) (r3 := .un) (r4 := .un) (r5 := .im (.str m.1)) (r6 := .im (.int m.2)) (r8 := .un)
  have hp : dPow (.int 10) (.int 20) = .ok (.int 100000000000000000000) := by simp [dPow]
  generalize hs : (s11.filter fun o => !decide (o ∈ ts.map (·.1))) = st at hc2
  have hsl : st.length ≤ 11 := by rw [← hs]; exact List.length_filter_le _ _
  have hc3 := comp_pair (t := m.2) (l := st) (r0 := .im (pzD n ts)) (r1 := .im (mvD m)) (r2 := .im (.lst (ts.map fun t => .str t.1))) (r3 := .im (.lst (st.map D.str))) (r4 := .im (.lst (nl1 m.1 m.2 ++ nl2 m.1 m.2))) (r5 := .im (.str m.1)) (r8 := .un)
  have hd1 : dAdd (.lst (nl1 m.1 m.2)) (.lst (nl2 m.1 m.2)) = .ok (.lst (nl1 m.1 m.2 ++ nl2 m.1 m.2)) := dAdd_ll (by simp [nl1, nl2])
  have hd2 : dAdd (.lst (nl1 m.1 m.2 ++ nl2 m.1 m.2)) (.lst (st.map fun o => .tup [.str o, .int m.2])) = .ok (.lst (nl1 m.1 m.2 ++ nl2 m.1 m.2 ++ st.map fun o => .tup [.str o, .int m.2])) := dAdd_ll (by simp [nl1, nl2]; omega)
  unfold F__law_none runF
  have e : List.map Sl.im [pzD n ts, mvD m] ++ List.replicate (9 - [pzD n ts, mvD m].length) Sl.un = [.im (pzD n ts), .im (mvD m), .un, .un, .un, .un, .un, .un, .un] := rfl
  rw [e]
  have hb : b__law_none [.im (pzD n ts), .im (mvD m), .un, .un, .un, .un, .un, .un, .un] = .rt (.lst (nl1 m.1 m.2 ++ nl2 m.1 m.2 ++ st.map fun o => .tup [.str o, .int m.2])) := by
    unfold b__law_none
    refine (sSeq_nx (ρ1 := [.im (pzD n ts), .im (mvD m), .un, .un, .un, .im (.str m.1), .im (.int m.2), .un, .un]) (by simp [sAsg_ap, mvD])).trans ?_
    refine (sSeq_nx (ρ1 := [.im (pzD n ts), .im (mvD m), .im (.lst (ts.map fun t => .str t.1)), .un, .un, .im (.str m.1), .im (.int m.2), .un, .un]) (by simp [eComp, a1, wipeE, hc1, nofl])).trans ?_
    refine (sSeq_nx (ρ1 := [.im (pzD n ts), .im (mvD m), .im (.lst (ts.map fun t => .str t.1)), .im (.lst (st.map D.str)), .un, .im (.str m.1), .im (.int m.2), .un, .un]) (by
      simp only [s11, List.map_cons, List.map_nil] at hc2
      simp [eComp, wipeE, hc2, nofl])).trans ?_
    refine (sSeq_nx (ρ1 := [.im (pzD n ts), .im (mvD m), .im (.lst (ts.map fun t => .str t.1)), .im (.lst (st.map D.str)), .im (.lst (nl1 m.1 m.2)), .im (.str m.1), .im (.int m.2), .un, .un]) (by simp [nl1])).trans ?_
    refine (sSeq_nx (ρ1 := [.im (pzD n ts), .im (mvD m), .im (.lst (ts.map fun t => .str t.1)), .im (.lst (st.map D.str)), .im (.lst (nl1 m.1 m.2 ++ nl2 m.1 m.2)), .im (.str m.1), .im (.int m.2), .un, .un]) (by
      simp [hp]
      simp only [nl2] at hd1
      rw [hd1]
      rfl)).trans ?_
    simp [eComp, wipeE, hc3, nofl]
    rw [← List.append_assoc, hd2]
    simp
  rw [hb]
theorem none_bad {n : Nat} {ts : List (Str × List Int)} (P : Pz n ts) {m : Mv} (g : Gm ts m) : ∀ d ∈ nl1 m.1 m.2 ++ nl2 m.1 m.2 ++ (s11.filter fun o => !decide (o ∈ ts.map (·.1))).map fun o => .tup [.str o, .int m.2], Bad ts d ∧ Sh 4 d := by
  have ok := g.ok P
  have o1 : okS "1" := by unfold okS; decide +kernel
  have hs : ∀ {k : Nat}, Sh k (.str m.1) := fun {k} => sh_str ok
  have pr : ∀ {k : Nat} {a b : D}, Sh k a → Sh k b → Sh (k + 1) (.tup [a, b]) := fun {k a b} ha hb => sh_tup fun d hd => by
    simp at hd
    rcases hd with rfl | rfl
    · exact ha
    · exact hb
  have one : ∀ {k : Nat} {a : D}, Sh k a → Sh (k + 1) (.tup [a]) := fun {k a} ha => sh_tup fun d hd => by
    simp at hd; subst hd; exact ha
  have onel : ∀ {k : Nat} {a : D}, Sh k a → Sh (k + 1) (.lst [a]) := fun {k a} ha => sh_lst fun d hd => by
    simp at hd; subst hd; exact ha
  intro d hd
  rcases List.mem_append.mp hd with hd | hd
  · rcases List.mem_append.mp hd with hd | hd
    · simp only [nl1, List.mem_cons, List.not_mem_nil, or_false] at hd
      rcases hd with rfl | rfl | rfl | rfl | rfl | rfl | rfl | rfl | rfl
      · exact ⟨.zero g.nm rfl, (pr (k := 3) hs sh_int)⟩
      · exact ⟨.row (row_i g.nm), (pr (k := 3) hs sh_int)⟩
      · exact ⟨.row (row_i g.nm), (pr (k := 3) hs sh_int)⟩
      · exact ⟨.row (row_w g.nm whole_b), (pr (k := 3) hs sh_bl)⟩
      · exact ⟨.row (row_w g.nm whole_s), (pr (k := 3) hs (sh_str o1))⟩
      · exact ⟨.row (row_w g.nm whole_n), (pr (k := 3) hs sh_non)⟩
      · exact ⟨.row (row_w g.nm whole_l), (pr (k := 3) hs ((onel (k := 2) sh_int)))⟩
      · exact ⟨.row (row_len (by simp)), one (k := 3) hs⟩
      · exact ⟨.row (row_len (by simp)), sh_tup (n := 3) fun d hd => by
          simp at hd
          rcases hd with rfl | rfl
          · exact hs
          · exact sh_int⟩
    · simp only [nl2, List.mem_cons, List.not_mem_nil, or_false] at hd
      rcases hd with rfl | rfl | rfl | rfl | rfl | rfl | rfl | rfl | rfl
      · exact ⟨.row (row_nt rfl), sh_lst (n := 3) fun d hd => by
          simp at hd
          rcases hd with rfl | rfl
          · exact hs
          · exact sh_int⟩
      · exact ⟨.row (row_ns rfl), (pr (k := 3) sh_int hs)⟩
      · exact ⟨.row (row_ns rfl), (pr (k := 3) (onel (k := 2) hs) sh_int)⟩
      · exact ⟨.row (row_nt rfl), sh_non⟩
      · exact ⟨.row (row_nt rfl), hs⟩
      · exact ⟨.row (row_nt rfl), sh_int⟩
      · exact ⟨.row (row_len (by simp)), sh_tup (n := 3) fun d hd => by simp at hd⟩
      · exact ⟨.row (row_len (by simp)), one (k := 3) (pr (k := 2) hs sh_int)⟩
      · exact ⟨.row (row_i g.nm), (pr (k := 3) hs sh_int)⟩
  · obtain ⟨o, ho, rfl⟩ := List.mem_map.mp hd
    have ho := List.mem_filter.mp ho
    have h2 : o ∉ ts.map (·.1) := by simpa using ho.2
    exact ⟨.row (row_u h2), (pr (k := 3) (sh_str (s11_ok o ho.1)) sh_int)⟩

/-! ### the cases -/
/-- a case: a list and the word for it -/
structure Cs (pz : D) (d : D) : Prop where
  ex : ∃ (l : List D) (w : Str), d = .tup [.lst l, .str w] ∧ (∀ x ∈ l, Sh 4 x) ∧ okS w ∧ F__law_checked [pz, .lst l] = .ok (.str w)
def bCs : Ev → Out := (sSeq (sAsg (e1L (on1 dList) (eCons (eVarB 9) eNil)) (.nm 11))
  (sIf (tOr (eBl (e2 dNe (e1L (cFn 2 F__law_checked) (eCons (eVar 0) (eCons (eVar 9) eNil))) (eVarB 10))) (eBl (e2 dNe (eVarB 11) (eVarB 9))))
  (sRet (eC (.bl false)))
  sNil))
theorem cs_loop {pz : D} {r1 r2 r3 r4 r5 r6 r7 r8 : Sl} : ∀ (cs : List D) (x y z : Sl), (∀ d ∈ cs, Cs pz d) → ∃ x' y' z', forD (.tup [(.nm 9), (.nm 10)]) bCs cs [.im pz, r1, r2, r3, r4, r5, r6, r7, r8, x, y, z] = .nx [.im pz, r1, r2, r3, r4, r5, r6, r7, r8, x', y', z']
  | [], x, y, z, _ => ⟨x, y, z, rfl⟩
  | c :: cs, x, y, z, h => by
    obtain ⟨l, w, rfl, hl, hw, hc⟩ := (h c (by simp)).ex
    obtain ⟨x', y', z', h1⟩ := cs_loop (pz := pz) (r1 := r1) (r2 := r2) (r3 := r3) (r4 := r4) (r5 := r5) (r6 := r6) (r7 := r7) (r8 := r8) cs (.im (.lst l)) (.im (.str w)) (.im (.lst l)) fun d hd => h d (by simp [hd])
    refine ⟨x', y', z', forD_step (ρ1 := [.im pz, r1, r2, r3, r4, r5, r6, r7, r8, .im (.lst l), .im (.str w), z]) rfl ?_ h1⟩
    have q1 : dNe (.str w) (.str w) = .ok (.bl false) := by rw [dNe_ap (n := 0) (m := 0) (sh_str hw) (sh_str hw)]; simp
    have q2 : dNe (.lst l) (.lst l) = .ok (.bl false) := by rw [dNe_ap (n := 5) (m := 5) (sh_lst hl) (sh_lst hl), (sh_lst hl).eqv]; rfl
    simp [bCs, hc, q1, q2]
/-- a list cut open, something put in -/
theorem cut0 {l : List D} {k : Nat} (h : k ≤ l.length) : dSl (.lst l) (some 0) (some (k : Int)) = .ok (.lst (l.take k)) := by
  have e : cutL l (some 0) (some (k : Int)) = l.take k := by
    unfold cutL sIx
    have : ¬ (k : Int) < 0 := by omega
    simp [this, Nat.min_eq_left h]
  simp only [dSl, e]
theorem cut1 {l : List D} {k : Nat} (h : k ≤ l.length) : dSl (.lst l) (some (k : Int)) none = .ok (.lst (l.drop k)) := by
  have e : cutL l (some (k : Int)) none = l.drop k := by
    unfold cutL sIx
    have : ¬ (k : Int) < 0 := by omega
    simp only [this, if_false, Int.toNat_natCast, Nat.min_eq_left h]
    rw [List.take_of_length_le (by rw [List.length_drop]; omega)]
  simp only [dSl, e]
theorem putin {l : List D} {k : Nat} {x : D} (h : l.length ≤ 1000) : (dAdd (.lst (l.take k)) (.lst [x]) >>= fun a => dAdd a (.lst (l.drop k))) = .ok (.lst (l.take k ++ x :: l.drop k)) := by
  rw [dAdd_ll (by simp [List.length_take]; omega)]
  simp only [R.ok_bind]
  rw [dAdd_ll (by simp [List.length_take]; omega)]
  simp
theorem wok : okS "good" ∧ okS "count" ∧ okS "move" := by unfold okS; decide +kernel
theorem sh_mvs {n : Nat} {ts : List (Str × List Int)} (P : Pz n ts) {ms : List Mv} (hg : ∀ m ∈ ms, Gm ts m) : ∀ x ∈ ms.map mvD, Sh 4 x := fun x hx => by
  obtain ⟨m, hm, rfl⟩ := List.mem_map.mp hx
  exact (sh_mv ((hg m hm).ok P)).mono (by decide)
theorem cs_good {n : Nat} {ts : List (Str × List Int)} (P : Pz n ts) {ms : List Mv} (hg : ∀ m ∈ ms, Gm ts m) (hn : ms.Nodup) (h1 : 1 ≤ ms.length) (h2 : ms.length ≤ 20) : Cs (pzD n ts) (.tup [.lst (ms.map mvD), .str "good"]) :=
  ⟨_, _, rfl, sh_mvs P hg, wok.1, checked_good (by rw [check_good P hg hn (by omega), if_pos ⟨h1, h2⟩])⟩
theorem cs_count {n : Nat} {ts : List (Str × List Int)} (P : Pz n ts) {ms : List Mv} (hg : ∀ m ∈ ms, Gm ts m) (hn : ms.Nodup) (h : ¬ (1 ≤ ms.length ∧ ms.length ≤ 20)) (hl : ms.length ≤ 1000) : Cs (pzD n ts) (.tup [.lst (ms.map mvD), .str "count"]) :=
  ⟨_, _, rfl, sh_mvs P hg, wok.2.1, checked_count (by rw [check_good P hg hn hl, if_neg h])⟩
theorem cs_dup {n : Nat} {ts : List (Str × List Int)} (P : Pz n ts) {ms : List Mv} (hg : ∀ m ∈ ms, Gm ts m) (hn : ¬ ms.Nodup) (hl : ms.length ≤ 1000) : Cs (pzD n ts) (.tup [.lst (ms.map mvD), .str "move"]) :=
  ⟨_, _, rfl, sh_mvs P hg, wok.2.2, checked_move (check_dup P hg hn hl)⟩
theorem cs_bad {n : Nat} {ts : List (Str × List Int)} (P : Pz n ts) {ms : List Mv} (hg : ∀ m ∈ ms, Gm ts m) (hn : ms.Nodup) (hl : ms.length ≤ 1000) {d : D} (hb : Bad ts d) (hs : Sh 4 d) (k : Nat) : Cs (pzD n ts) (.tup [.lst ((ms.map mvD).take k ++ d :: (ms.map mvD).drop k), .str "move"]) := by
  refine ⟨_, _, rfl, fun x hx => ?_, wok.2.2, checked_move ?_⟩
  · rcases List.mem_append.mp hx with h | h
    · exact sh_mvs P hg x (List.mem_of_mem_take h)
    · rcases List.mem_cons.mp h with rfl | h
      · exact hs
      · exact sh_mvs P hg x (List.mem_of_mem_drop h)
  · rw [← List.map_take]
    exact check_bad P (fun m hm => hg m (List.mem_of_mem_take hm)) (List.Sublist.nodup (List.take_sublist _ _) hn) (by rw [List.length_take]; omega) (.inl hb)
theorem nd_more {l : List Mv} {m : List Mv} (hn : m.Nodup) (hs : ∀ x ∈ l, x ∈ m) (hl : m.length < l.length) : ¬ l.Nodup := fun h => by
  have := nd_le h hs
  omega

def bIt : Ev → Out := (sAsg (e2 dAdd (eVarB 7) (e1L dLst (eCons (e1L dTup (eCons (e2 dAdd (e2 dAdd (eSl (eVarB 2) (oSome (eC (.int 0))) (oSome (eVar 5))) (e1L dLst (eCons (eVar 8) eNil))) (eSl (eVarB 2) (oSome (eVar 5)) oNone)) (eCons (eC (.str ("move" : Str))) eNil))) (eCons (e1L dTup (eCons (e2 dAdd (e2 dAdd (eSl (eVarB 3) (oSome (eC (.int 0))) (oSome (eVar 5))) (e1L dLst (eCons (eVar 8) eNil))) (eSl (eVarB 3) (oSome (eVar 5)) oNone)) (eCons (eC (.str ("move" : Str))) eNil))) eNil)))) (.nm 7))
theorem insE {ρ : Ev} {f g : Ev → R D} {i : Nat} {ms : List D} {k : Nat} {x : D} (h1 : eVarB i ρ = .ok (.lst ms)) (h5 : f ρ = .ok (.int (k : Int))) (h8 : g ρ = .ok x) (hk : k ≤ ms.length) (hl : ms.length ≤ 1000) :
    e2 dAdd (e2 dAdd (eSl (eVarB i) (oSome (eC (.int 0))) (oSome f)) (e1L dLst (eCons g eNil))) (eSl (eVarB i) (oSome f) oNone) ρ = .ok (.lst (ms.take k ++ x :: ms.drop k)) := by
  have hp := putin (l := ms) (k := k) (x := x) hl
  simp only [e2_ap, eSl_ap, h1, R.ok_bind, oSome_ap (f := eC (.int 0)) (i := 0) eC_ap, oSome_ap h5, cut0 hk, cut1 hk, oNone_ap, e1L_ap, eCons_ap, h8, eNil_ap, dLst_s (l := [x]) (by simp)]
  exact hp
theorem it_loop {n : Nat} {ts : List (Str × List Int)} (P : Pz n ts) {ms mn : List Mv} (hg : ∀ m ∈ ms, Gm ts m) (hn : ms.Nodup) (hl : ms.length ≤ 1000) (hg' : ∀ m ∈ mn, Gm ts m) (hn' : mn.Nodup) (hl' : mn.length ≤ 1000) {k : Nat} (hk : k ≤ ms.length) (hk' : k ≤ mn.length) {r1 r4 r6 r9 r10 r11 : Sl} :
    ∀ (its cs : List D) (x : Sl), (∀ d ∈ its, Bad ts d ∧ Sh 4 d) → (∀ d ∈ cs, Cs (pzD n ts) d) → cs.length + 2 * its.length ≤ 1000 → ∃ (cs' : List D) (x' : Sl), forD (.nm 8) bIt its [.im (pzD n ts), r1, .im (.lst (ms.map mvD)), .im (.lst (mn.map mvD)), r4, .im (.int k), r6, .im (.lst cs), x, r9, r10, r11] =
      .nx [.im (pzD n ts), r1, .im (.lst (ms.map mvD)), .im (.lst (mn.map mvD)), r4, .im (.int k), r6, .im (.lst cs'), x', r9, r10, r11] ∧ (∀ d ∈ cs', Cs (pzD n ts) d) ∧ cs'.length ≤ cs.length + 2 * its.length
  | [], cs, x, _, hc, _ => ⟨cs, x, rfl, hc, by simp⟩
  | d :: its, cs, x, hi, hc, hz => by
    have hd := hi d (by simp)
    simp at hz
    obtain ⟨cs', x', h1, h2, h3⟩ := it_loop P hg hn hl hg' hn' hl' hk hk' (r1 := r1) (r4 := r4) (r6 := r6) (r9 := r9) (r10 := r10) (r11 := r11) its (cs ++ [.tup [.lst ((ms.map mvD).take k ++ d :: (ms.map mvD).drop k), .str "move"], .tup [.lst ((mn.map mvD).take k ++ d :: (mn.map mvD).drop k), .str "move"]]) (.im d) (fun y hy => hi y (by simp [hy]))
      (fun c hcm => by
        rcases List.mem_append.mp hcm with h | h
        · exact hc c h
        · simp only [List.mem_cons, List.not_mem_nil, or_false] at h
          rcases h with rfl | rfl
          · exact cs_bad P hg hn hl hd.1 hd.2 k
          · exact cs_bad P hg' hn' hl' hd.1 hd.2 k) (by simp; omega)
    refine ⟨cs', x', forD_step (ρ1 := [.im (pzD n ts), r1, .im (.lst (ms.map mvD)), .im (.lst (mn.map mvD)), r4, .im (.int k), r6, .im (.lst cs), .im d, r9, r10, r11]) rfl ?_ h1, h2, by simp at h3 ⊢; omega⟩
    unfold bIt
    rw [sAsg_nm]
    have q1 := insE (ρ := [.im (pzD n ts), r1, .im (.lst (ms.map mvD)), .im (.lst (mn.map mvD)), r4, .im (.int k), r6, .im (.lst cs), .im d, r9, r10, r11]) (f := eVar 5) (g := eVar 8) (i := 2) (ms := ms.map mvD) (k := k) (x := d) (by simp) (by simp) (by simp) (by rw [List.length_map]; exact hk) (by rw [List.length_map]; exact hl)
    have q2 := insE (ρ := [.im (pzD n ts), r1, .im (.lst (ms.map mvD)), .im (.lst (mn.map mvD)), r4, .im (.int k), r6, .im (.lst cs), .im d, r9, r10, r11]) (f := eVar 5) (g := eVar 8) (i := 3) (ms := mn.map mvD) (k := k) (x := d) (by simp) (by simp) (by simp) (by rw [List.length_map]; exact hk') (by rw [List.length_map]; exact hl')
    rw [e2_ap, eVarB_ap (d := .lst cs) (by simp)]
    simp only [R.ok_bind, e1L_ap, eCons_ap, eNil_ap, q1, q2, eC_ap]
    rw [dTup_s (by simp)]
    simp only [R.ok_bind]
    rw [dTup_s (by simp)]
    simp only [R.ok_bind]
    rw [dLst_s (by simp)]
    simp only [R.ok_bind]
    rw [dAdd_ll (by simp; omega)]
    rfl
theorem iD_sl {l : List Int} {k : Nat} (h : k ≤ l.length) : dSl (.lst (iD l)) (some 0) (some (k : Int)) = .ok (.lst (iD (l.take k))) := by
  rw [cut0 (by rw [iD_len]; exact h), iD_take]
theorem dr_at {dr : List Int} {k : Nat} (h : k < dr.length) : dIx (.lst (iD dr)) (.int (k : Int)) = .ok (.int dr[k]) := dIx_l (nth_ok h)
theorem rev_nd {α : Type} {l : List α} (h : l.Nodup) : l.reverse.Nodup := (List.reverse_perm l).nodup_iff.mpr h
end
end K53

/-! k53: what the programs over data answer, part 5: the law's checks hold. -/
namespace K53
open PySem PySem.Spec L2 DL
noncomputable section

theorem gm_take {ts : List (Str × List Int)} {ms : List Mv} (h : ∀ m ∈ ms, Gm ts m) (k j : Nat) (hj : j < ms.length) : ∀ m ∈ ms.take k ++ ms[j] :: ms.drop k, Gm ts m := fun m hm => by
  rcases List.mem_append.mp hm with q | q
  · exact h m (List.mem_of_mem_take q)
  · rcases List.mem_cons.mp q with rfl | q
    · exact h _ (List.getElem_mem _)
    · exact h m (List.mem_of_mem_drop q)
theorem tw_nd {ms : List Mv} (hn : ms.Nodup) (k j : Nat) (hj : j < ms.length) : ¬ (ms.take k ++ ms[j] :: ms.drop k).Nodup := nd_more hn (fun x hx => by
    rcases List.mem_append.mp hx with q | q
    · exact List.mem_of_mem_take q
    · rcases List.mem_cons.mp q with rfl | q
      · exact List.getElem_mem _
      · exact List.mem_of_mem_drop q) (by
    rw [List.length_append, List.length_cons, List.length_take, List.length_drop]
    omega)
theorem checks_ok {n : Nat} {ts : List (Str × List Int)} (P : Pz n ts) {dr : List Int} (hd : 30 ≤ dr.length) (hd0 : ∀ z ∈ dr, 0 ≤ z) : F__law_checks_hold [pzD n ts, .lst (iD dr)] = .ok (.bl true) := by
  have g20 : dIx (.lst (iD dr)) (.int 20) = .ok (.int (dr[20]'(by omega))) := dr_at (dr := dr) (k := 20) (by omega)
  have g21 : dIx (.lst (iD dr)) (.int 21) = .ok (.int (dr[21]'(by omega))) := dr_at (dr := dr) (k := 21) (by omega)
  have g22 : dIx (.lst (iD dr)) (.int 22) = .ok (.int (dr[22]'(by omega))) := dr_at (dr := dr) (k := 22) (by omega)
  have g23 : dIx (.lst (iD dr)) (.int 23) = .ok (.int (dr[23]'(by omega))) := dr_at (dr := dr) (k := 23) (by omega)
  have g24 : dIx (.lst (iD dr)) (.int 24) = .ok (.int (dr[24]'(by omega))) := dr_at (dr := dr) (k := 24) (by omega)
  have hsl : dSl (.lst (iD dr)) (some 0) (some 20) = .ok (.lst (iD (dr.take 20))) := iD_sl (l := dr) (k := 20) (by omega)
  have p20 : ∀ z ∈ dr.take 20, 0 ≤ z := fun z hz => hd0 z (List.mem_of_mem_take hz)
  have l20 : (dr.take 20).length = 20 := by rw [List.length_take]; omega
  obtain ⟨c1, hc1⟩ : ∃ c : Nat, (1 : Int) + dr[20]'(by omega) % 20 = (c : Int) := ⟨((1 : Int) + dr[20]'(by omega) % 20).toNat, by omega⟩
  obtain ⟨c2, hc2⟩ : ∃ c : Nat, (21 : Int) + dr[21]'(by omega) % 15 = (c : Int) := ⟨((21 : Int) + dr[21]'(by omega) % 15).toNat, by omega⟩
  obtain ⟨ms, hm, lm, nm, gm⟩ := all_moves_ok P (dr := dr.take 20) (by omega) (by omega) p20 c1 (by omega)
  obtain ⟨mn, hM, lM, nM, gM⟩ := all_moves_ok P (dr := dr.take 20) (by omega) (by omega) p20 c2 (by omega)
  obtain ⟨fl, hf, lf, nf, gf⟩ := all_moves_ok P (dr := dr.take 20) (by omega) (by omega) p20 20 (by omega)
  replace hf : F__law_all_moves [pzD n ts, .lst (iD (dr.take 20)), .int 20] = .ok (.lst (fl.map mvD)) := hf
  obtain ⟨k, hk⟩ : ∃ c : Nat, dr[22]'(by omega) % ((ms.length : Int) + 1) = (c : Int) := ⟨(dr[22]'(by omega) % ((ms.length : Int) + 1)).toNat, by have := Int.emod_nonneg (dr[22]'(by omega)) (b := (ms.length : Int) + 1) (by omega); omega⟩
  have hk' : k ≤ ms.length := by have := Int.emod_lt_of_pos (dr[22]'(by omega)) (b := (ms.length : Int) + 1) (by omega); omega
  obtain ⟨j, hj⟩ : ∃ c : Nat, dr[23]'(by omega) % (ms.length : Int) = (c : Int) := ⟨(dr[23]'(by omega) % (ms.length : Int)).toNat, by have := Int.emod_nonneg (dr[23]'(by omega)) (b := (ms.length : Int)) (by omega); omega⟩
  have hj' : j < ms.length := by have := Int.emod_lt_of_pos (dr[23]'(by omega)) (b := (ms.length : Int)) (by omega); omega
  obtain ⟨i, hi⟩ : ∃ c : Nat, dr[24]'(by omega) % (ms.length : Int) = (c : Int) := ⟨(dr[24]'(by omega) % (ms.length : Int)).toNat, by have := Int.emod_nonneg (dr[24]'(by omega)) (b := (ms.length : Int)) (by omega); omega⟩
  have hi' : i < ms.length := by have := Int.emod_lt_of_pos (dr[24]'(by omega)) (b := (ms.length : Int)) (by omega); omega
  have aj : dIx (.lst (ms.map mvD)) (.int (j : Int)) = .ok (mvD ms[j]) := dIx_l (by rw [atI_ofNat (by rw [List.length_map]; exact hj')]; simp [hj'])
  have ai : dIx (.lst (ms.map mvD)) (.int (i : Int)) = .ok (mvD ms[i]) := dIx_l (by rw [atI_ofNat (by rw [List.length_map]; exact hi')]; simp [hi'])
  -- the lists
  have htw := putin (l := ms.map mvD) (k := k) (x := mvD ms[j]) (by rw [List.length_map]; omega)
  have etw : (ms.map mvD).take k ++ mvD ms[j] :: (ms.map mvD).drop k = (ms.take k ++ ms[j] :: ms.drop k).map mvD := by simp
  rw [etw] at htw
  generalize hT : ms.take k ++ ms[j] :: ms.drop k = tw at htw etw
  have c0k := cut0 (l := ms.map mvD) (k := k) (by rw [List.length_map]; exact hk')
  have c1k := cut1 (l := ms.map mvD) (k := k) (by rw [List.length_map]; exact hk')
  have c01 : dSl (.lst (mn.map mvD)) (some 0) (some 1) = .ok (.lst ((mn.map mvD).take 1)) := cut0 (l := mn.map mvD) (k := 1) (by rw [List.length_map]; omega)
  have emn : dAdd (.lst (mn.map mvD)) (.lst ((mn.map mvD).take 1)) = .ok (.lst ((mn ++ mn.take 1).map mvD)) := by
    rw [dAdd_ll (by simp; omega)]; simp
  have ttw : ∀ m ∈ tw, Gm ts m := by rw [← hT]; exact gm_take gm k j hj'
  have dtw : ¬ tw.Nodup := by rw [← hT]; exact tw_nd nm k j hj'
  have ltw : tw.length ≤ 1000 := by rw [← hT]; simp; omega
  have g2 : ∀ m ∈ mn ++ mn.take 1, Gm ts m := fun m hm => by
    rcases List.mem_append.mp hm with h | h
    · exact gM m h
    · exact gM m (List.mem_of_mem_take h)
  have d2 : ¬ (mn ++ mn.take 1).Nodup := nd_more nM (fun x hx => by
    rcases List.mem_append.mp hx with h | h
    · exact h
    · exact List.mem_of_mem_take h) (by simp; omega)
  have erv : (ms.map mvD).reverse = ms.reverse.map mvD := by simp
  let cs0 : List D := [.tup [.lst (ms.map mvD), .str "good"], .tup [.lst (fl.map mvD), .str "good"], .tup [.lst (ms.reverse.map mvD), .str "good"], .tup [.lst [], .str "count"], .tup [.lst (mn.map mvD), .str "count"], .tup [.lst (tw.map mvD), .str "move"], .tup [.lst ((mn ++ mn.take 1).map mvD), .str "move"]]
  have hcs0 : ∀ c ∈ cs0, Cs (pzD n ts) c := by
    intro c hc
    simp only [cs0, List.mem_cons, List.not_mem_nil, or_false] at hc
    rcases hc with rfl | rfl | rfl | rfl | rfl | rfl | rfl
    · exact cs_good P gm nm (by omega) (by omega)
    · exact cs_good P gf nf (by omega) (by omega)
    · exact cs_good P (fun m hm => gm m (List.mem_reverse.mp hm)) (rev_nd nm) (by rw [List.length_reverse]; omega) (by rw [List.length_reverse]; omega)
    · exact cs_count P (ms := []) (by simp) (by simp) (by simp) (by simp)
    · exact cs_count P gM nM (by omega) (by omega)
    · exact cs_dup P ttw dtw ltw
    · exact cs_dup P g2 d2 (by simp; omega)
  have hno := none_eq P (m := ms[i])
  have hnb := none_bad P (gm ms[i] (List.getElem_mem _))
  have hnl : (nl1 ms[i].1 ms[i].2 ++ nl2 ms[i].1 ms[i].2 ++ (s11.filter fun o => !decide (o ∈ ts.map (·.1))).map fun o => D.tup [.str o, .int ms[i].2]).length ≤ 40 := by
    have : (s11.filter fun o => !decide (o ∈ ts.map (·.1))).length ≤ 11 := List.length_filter_le _ _
    simp only [List.length_append, List.length_map, nl1, nl2, List.length_cons, List.length_nil]
    omega
  generalize (nl1 ms[i].1 ms[i].2 ++ nl2 ms[i].1 ms[i].2 ++ (s11.filter fun o => !decide (o ∈ ts.map (·.1))).map fun o => D.tup [.str o, .int ms[i].2]) = its at hno hnb hnl
  obtain ⟨cs1, x8, h1, h2, h3⟩ := it_loop P gm nm (by omega) gM nM (by omega) hk' (by omega) (r1 := .im (.lst (iD dr))) (r4 := .im (.lst (fl.map mvD))) (r6 := .im (.lst (tw.map mvD))) (r9 := .un) (r10 := .un) (r11 := .un) its cs0 .un hnb hcs0 (by simp only [cs0, List.length_cons, List.length_nil]; omega)
  have h3' : cs1.length ≤ 100 := by simp only [cs0, List.length_cons, List.length_nil] at h3; omega
  let cs2 : List D := cs1 ++ [.tup [.lst (fl.map mvD ++ [.non]), .str "move"], .tup [.lst (.non :: fl.map mvD), .str "move"], .tup [.lst [.non], .str "move"]]
  have bn : Bad ts .non := .row (row_nt rfl)
  have hcs2 : ∀ c ∈ cs2, Cs (pzD n ts) c := by
    intro c hc
    rcases List.mem_append.mp hc with hc | hc
    · exact h2 c hc
    · simp only [List.mem_cons, List.not_mem_nil, or_false] at hc
      rcases hc with rfl | rfl | rfl
      · have := cs_bad P gf nf (by omega) bn sh_non 20
        rw [List.take_of_length_le (by rw [List.length_map]; omega), List.drop_of_length_le (by rw [List.length_map]; omega)] at this
        exact this
      · exact cs_bad P gf nf (by omega) bn sh_non 0
      · exact cs_bad P (ms := []) (by simp) (by simp) (by simp) bn sh_non 0
  obtain ⟨x', y', z', h4⟩ := cs_loop (pz := pzD n ts) (r1 := .im (.lst (iD dr))) (r2 := .im (.lst (ms.map mvD))) (r3 := .im (.lst (mn.map mvD))) (r4 := .im (.lst (fl.map mvD))) (r5 := .im (.int k)) (r6 := .im (.lst (tw.map mvD))) (r7 := .im (.lst cs2)) (r8 := x8) cs2 .un .un .un hcs2
  unfold F__law_checks_hold runF
  have e : List.map Sl.im [pzD n ts, .lst (iD dr)] ++ List.replicate (12 - [pzD n ts, .lst (iD dr)].length) Sl.un = [.im (pzD n ts), .im (.lst (iD dr)), .un, .un, .un, .un, .un, .un, .un, .un, .un, .un] := rfl
  rw [e]
  have hb : b__law_checks_hold [.im (pzD n ts), .im (.lst (iD dr)), .un, .un, .un, .un, .un, .un, .un, .un, .un, .un] = .rt (.bl true) := by
    unfold b__law_checks_hold
    refine (sSeq_nx (ρ1 := [.im (pzD n ts), .im (.lst (iD dr)), .im (.lst (ms.map mvD)), .un, .un, .un, .un, .un, .un, .un, .un, .un]) (by simp [hsl, g20, dMod_ii (j := 20) (by decide), hc1, hm])).trans ?_
    refine (sSeq_nx (ρ1 := [.im (pzD n ts), .im (.lst (iD dr)), .im (.lst (ms.map mvD)), .im (.lst (mn.map mvD)), .un, .un, .un, .un, .un, .un, .un, .un]) (by simp [hsl, g21, dMod_ii (j := 15) (by decide), hc2, hM])).trans ?_
    refine (sSeq_nx (ρ1 := [.im (pzD n ts), .im (.lst (iD dr)), .im (.lst (ms.map mvD)), .im (.lst (mn.map mvD)), .im (.lst (fl.map mvD)), .un, .un, .un, .un, .un, .un, .un]) (by simp [hsl, hf])).trans ?_
    refine (sSeq_nx (ρ1 := [.im (pzD n ts), .im (.lst (iD dr)), .im (.lst (ms.map mvD)), .im (.lst (mn.map mvD)), .im (.lst (fl.map mvD)), .im (.int k), .un, .un, .un, .un, .un, .un]) (by simp [g22, dMod_ii (j := (ms.length : Int) + 1) (by omega), hk])).trans ?_
    refine (sSeq_nx (ρ1 := [.im (pzD n ts), .im (.lst (iD dr)), .im (.lst (ms.map mvD)), .im (.lst (mn.map mvD)), .im (.lst (fl.map mvD)), .im (.int k), .im (.lst (tw.map mvD)), .un, .un, .un, .un, .un]) (by
      have q := insE (ρ := [.im (pzD n ts), .im (.lst (iD dr)), .im (.lst (ms.map mvD)), .im (.lst (mn.map mvD)), .im (.lst (fl.map mvD)), .im (.int k), .un, .un, .un, .un, .un, .un]) (f := eVar 5) (g := e2 dIx (eVarB 2) (e2 dMod (e2 dIx (eVarB 1) (eC (.int 23))) (e1L (on1 dLen) (eCons (eVarB 2) eNil)))) (i := 2) (ms := ms.map mvD) (k := k) (x := mvD ms[j]) (by simp) (by simp) (by simp [g23, dMod_ii (j := (ms.length : Int)) (by omega), hj, aj]) (by rw [List.length_map]; exact hk') (by rw [List.length_map]; omega)
      rw [sAsg_nm, q, etw]
      rfl)).trans ?_
    refine (sSeq_nx (ρ1 := [.im (pzD n ts), .im (.lst (iD dr)), .im (.lst (ms.map mvD)), .im (.lst (mn.map mvD)), .im (.lst (fl.map mvD)), .im (.int k), .im (.lst (tw.map mvD)), .im (.lst cs0), .un, .un, .un, .un]) (by
      have q1 : dRev (.lst (ms.map mvD)) = .ok (.lst (ms.reverse.map mvD)) := by rw [← erv]; rfl
      have q2 : oSome (eC (.int 0)) [.im (pzD n ts), .im (.lst (iD dr)), .im (.lst (ms.map mvD)), .im (.lst (mn.map mvD)), .im (.lst (fl.map mvD)), .im (.int k), .im (.lst (tw.map mvD)), .un, .un, .un, .un, .un] = .ok (some 0) := rfl
      have q3 : oSome (eC (.int 1)) [.im (pzD n ts), .im (.lst (iD dr)), .im (.lst (ms.map mvD)), .im (.lst (mn.map mvD)), .im (.lst (fl.map mvD)), .im (.int k), .im (.lst (tw.map mvD)), .un, .un, .un, .un, .un] = .ok (some 1) := rfl
      have v2 : eVar 2 [.im (pzD n ts), .im (.lst (iD dr)), .im (.lst (ms.map mvD)), .im (.lst (mn.map mvD)), .im (.lst (fl.map mvD)), .im (.int k), .im (.lst (tw.map mvD)), .un, .un, .un, .un, .un] = .ok (.lst (ms.map mvD)) := by simp
      have b2 : eVarB 2 [.im (pzD n ts), .im (.lst (iD dr)), .im (.lst (ms.map mvD)), .im (.lst (mn.map mvD)), .im (.lst (fl.map mvD)), .im (.int k), .im (.lst (tw.map mvD)), .un, .un, .un, .un, .un] = .ok (.lst (ms.map mvD)) := by simp
      have v4 : eVar 4 [.im (pzD n ts), .im (.lst (iD dr)), .im (.lst (ms.map mvD)), .im (.lst (mn.map mvD)), .im (.lst (fl.map mvD)), .im (.int k), .im (.lst (tw.map mvD)), .un, .un, .un, .un, .un] = .ok (.lst (fl.map mvD)) := by simp
      have v3 : eVar 3 [.im (pzD n ts), .im (.lst (iD dr)), .im (.lst (ms.map mvD)), .im (.lst (mn.map mvD)), .im (.lst (fl.map mvD)), .im (.int k), .im (.lst (tw.map mvD)), .un, .un, .un, .un, .un] = .ok (.lst (mn.map mvD)) := by simp
      have b3 : eVarB 3 [.im (pzD n ts), .im (.lst (iD dr)), .im (.lst (ms.map mvD)), .im (.lst (mn.map mvD)), .im (.lst (fl.map mvD)), .im (.int k), .im (.lst (tw.map mvD)), .un, .un, .un, .un, .un] = .ok (.lst (mn.map mvD)) := by simp
      have v6 : eVar 6 [.im (pzD n ts), .im (.lst (iD dr)), .im (.lst (ms.map mvD)), .im (.lst (mn.map mvD)), .im (.lst (fl.map mvD)), .im (.int k), .im (.lst (tw.map mvD)), .un, .un, .un, .un, .un] = .ok (.lst (tw.map mvD)) := by simp
      simp only [sAsg_nm, e1L_ap, eCons_ap, e1_ap, e2_ap, eSl_ap, eC_ap, eNil_ap, R.ok_bind, q1, q2, q3, c01, emn, v2, b2, v4, v3, b3, v6]
      simp [cs0])).trans ?_
    refine (sSeq_nx ((sFor_ok (by simp [g24, dMod_ii (j := (ms.length : Int)) (by omega), hi, ai, hno])).trans h1)).trans ?_
    refine (sSeq_nx (ρ1 := [.im (pzD n ts), .im (.lst (iD dr)), .im (.lst (ms.map mvD)), .im (.lst (mn.map mvD)), .im (.lst (fl.map mvD)), .im (.int k), .im (.lst (tw.map mvD)), .im (.lst cs2), x8, .un, .un, .un]) (by
      have q1 : dAdd (.lst (fl.map mvD)) (.lst [.non]) = .ok (.lst (fl.map mvD ++ [.non])) := dAdd_ll (by simp; omega)
      have q2 : dAdd (.lst [.non]) (.lst (fl.map mvD)) = .ok (.lst (.non :: fl.map mvD)) := dAdd_ll (by simp; omega)
      have q3 : ∀ l : List D, l.length = 3 → dAdd (.lst cs1) (.lst l) = .ok (.lst (cs1 ++ l)) := fun l hl => dAdd_ll (by omega)
      simp [q1, q2]
      rw [q3 _ rfl]
      rfl)).trans ?_
    refine (sSeq_nx ((sFor_ok (by simp)).trans h4)).trans ?_
    simp
  rw [hb]
end
end K53

/-! k53: what the programs over data answer, part 6: shifts. -/
namespace K53
open PySem PySem.Spec L2 DL
noncomputable section

/-- a tuple of these numbers, whether a dict of its own is ruled out or not -/
def IsT (d : D) (l : List Int) : Prop := d = .tup (iD l) ∨ d = .tux (iD l)
theorem IsT.items {d : D} {l : List Int} (h : IsT d l) : dItems d = .ok (iD l) := by rcases h with rfl | rfl <;> rfl
theorem IsT.len {d : D} {l : List Int} (h : IsT d l) : dLen d = .ok (.int l.length) := by rcases h with rfl | rfl <;> simp
theorem IsT.ix {d : D} {l : List Int} (h : IsT d l) {i : Int} (h0 : 0 ≤ i) (h1 : i < l.length) : dIx d (.int i) = .ok (.int (l[i.toNat]'(by omega))) := by
  have := iD_at (atI_get h0 h1)
  rcases h with rfl | rfl
  · exact dIx_t this
  · exact dIx_x this
def thn (a b : List Int) : List Int := a.map fun s => b.getD s.toNat 0
def Rng (n : Nat) (l : List Int) : Prop := ∀ s ∈ l, 0 ≤ s ∧ s < n
theorem thn_len {a b : List Int} : (thn a b).length = a.length := List.length_map ..
theorem thn_rng {n : Nat} {a b : List Int} (ha : Rng b.length a) (hb : Rng n b) : Rng n (thn a b) := fun s hs => by
  obtain ⟨x, hx, rfl⟩ := List.mem_map.mp hs
  have := ha x hx
  have hl : x.toNat < b.length := by omega
  rw [List.getD_eq_getElem?_getD, List.getElem?_eq_getElem hl]
  exact hb _ (List.getElem_mem _)
theorem comp_thn {da db : D} {a b : List Int} (hb : IsT db b) (hr : Rng b.length a) {r0 r1 : Sl} {f : Ev → R D} (hf : ∀ s : Sl, f [r0, r1, s] = .ok db) : compL (.nm 2) tTrue (e2 dIx f (eVarB 2)) [r0, r1, .un] (iD a) = .ok (iD (thn a b)) := by
  rw [compL_map (g := fun d => match d with
    | .int s => .int (b.getD s.toNat 0)
    | d => d)]
  · congr 1
    simp only [iD, thn, List.map_map]
    rfl
  · intro d hd
    obtain ⟨s, hs, rfl⟩ := List.mem_map.mp hd
    have h := hr s hs
    have hl : s.toNat < b.length := by omega
    refine ⟨_, setP_nm, tTrue_ap, ?_⟩
    have e := hb.ix h.1 h.2
    rw [e2_ap]
    simp only [List.set_cons_succ, List.set_cons_zero, hf, R.ok_bind]
    rw [eVarB_ap (d := .int s) (by simp)]
    simp only [R.ok_bind, e]
    rw [List.getD_eq_getElem?_getD, List.getElem?_eq_getElem hl]
    rfl
theorem product_ok {da db : D} {a b : List Int} (ha : IsT da a) (hb : IsT db b) (hr : Rng b.length a) : F_product [da, db] = .ok (.tup (iD (thn a b))) := by
  have hc := comp_thn (da := da) hb hr (r0 := .im da) (r1 := .im db) (f := eVarB 1) fun s => by simp
  simp [F_product, runF, b_product, eComp, ha.items, wipeE, hc, nofl]
theorem then_ok {da db : D} {a b : List Int} (ha : IsT da a) (hb : IsT db b) (hr : Rng b.length a) : F__law_then [da, db] = .ok (.tup (iD (thn a b))) := by
  have hc := comp_thn (da := da) hb hr (r0 := .im da) (r1 := .im db) (f := eVarB 1) fun s => by simp
  simp [F__law_then, runF, b__law_then, eComp, ha.items, wipeE, hc, nofl]
theorem moved_ok {da db : D} {a b : List Int} (ha : IsT da a) (hb : IsT db b) (hr : Rng b.length a) : F_moved_view [db, da] = .ok (.tup (iD (thn a b))) := by
  have hc := comp_thn (da := da) hb hr (r0 := .im db) (r1 := .im da) (f := eVarB 0) fun s => by simp
  simp [F_moved_view, runF, b_moved_view, eComp, ha.items, wipeE, hc, nofl]

/-! ### back -/
def backI (n : Nat) (sh : List Int) : List Int := (rgI 0 n).map fun y => (sh.idxOf y : Int)
theorem backI_len {n : Nat} {sh : List Int} : (backI n sh).length = n := by rw [backI, List.length_map, rgI_len0]
theorem backI_rng {n : Nat} {sh : List Int} (h : IsP n sh) : Rng n (backI n sh) := fun s hs => by
  obtain ⟨y, hy, rfl⟩ := List.mem_map.mp hs
  have hy := mem_rgI.mp hy
  have := List.idxOf_lt_length_iff.mpr (h.all y hy.1 hy.2)
  rw [h.len] at this
  omega
theorem idxD_iD {y : Int} : ∀ {l : List Int} {n : Nat}, y ∈ l → idxD (.int y) (iD l) n = some (n + l.idxOf y)
  | a :: l, n, h => by
    rw [iD_cons, idxD, eqv_ii, List.idxOf_cons]
    by_cases e : a = y
    · subst e; simp
    · have e' : (a == y) = false := by simpa using e
      rw [e', if_neg Bool.false_ne_true]
      have := idxD_iD (l := l) (n := n + 1) (by
        rcases List.mem_cons.mp h with q | q
        · exact absurd q.symm e
        · exact q)
      rw [this]
      simp
      omega
theorem back_ok {n : Nat} {sh : List Int} (h : IsP n sh) (hn : n ≤ 1000) : F__law_back [.tux (iD sh)] = .ok (.tup (iD (backI n sh))) := by
  have hr := dRg_ap (rgB_nat (n := n) (by omega))
  have hc : compL (.nm 1) tTrue (eMt ckT dIndexT (eVarB 0) (eVar 1)) [.im (.tux (iD sh)), .un] (rgD 0 n) = .ok (iD (backI n sh)) := by
    rw [compL_map (g := fun d => match d with
      | .int y => .int (sh.idxOf y : Int)
      | d => d)]
    · congr 1
      rw [rgD_eq]
      simp only [iD, backI, List.map_map]
      rfl
    · intro d hd
      rw [rgD_eq] at hd
      obtain ⟨y, hy, rfl⟩ := List.mem_map.mp hd
      have hy := mem_rgI.mp hy
      refine ⟨_, setP_nm, tTrue_ap, ?_⟩
      unfold eMt
      simp [ckT, dIndexT, ints?_iD, h.all y hy.1 hy.2]
  simp [F__law_back, runF, b__law_back, eComp, h.len, hr, wipeE, hc, nofl]
def fill (n : Nat) (sh pre : List Int) : List Int := (rgI 0 n).map fun y => if y ∈ pre then (sh.idxOf y : Int) else 0
theorem fill_len {n : Nat} {sh pre : List Int} : (fill n sh pre).length = n := by rw [fill, List.length_map, rgI_len0]
theorem rgI_get {n j : Nat} (h : j < n) : (rgI 0 (n : Int))[j]? = some (j : Int) := by
  rw [rgI_nat, List.getElem?_map, List.getElem?_range h]
  rfl
theorem idx_app {x : Int} {suf : List Int} : ∀ {pre : List Int}, x ∉ pre → (pre ++ x :: suf).idxOf x = pre.length
  | [], _ => by simp
  | a :: pre, h => by
    have h1 : (a == x) = false := by
      cases q : (a == x) with
      | false => rfl
      | true => exact absurd (by rw [eq_of_beq q]; simp) h
    have ih := idx_app (suf := suf) (pre := pre) (fun q => h (List.mem_cons_of_mem _ q))
    rw [List.cons_append, List.idxOf_cons, h1, ih]
    simp
theorem fill_step {n : Nat} {sh pre suf : List Int} {x : Int} (h : IsP n sh) (e : sh = pre ++ x :: suf) : (fill n sh pre).set x.toNat (pre.length : Int) = fill n sh (pre ++ [x]) := by
  have hx := h.rng x (by rw [e]; simp)
  have hnd := h.nd
  have hxp : x ∉ pre := fun hp => by
    rw [e, List.nodup_append] at hnd
    exact hnd.2.2 x hp x (by simp) rfl
  have hidx : sh.idxOf x = pre.length := by
    rw [e, idx_app hxp]
  refine List.ext_getElem? fun j => ?_
  by_cases hj : j < n
  · have e1 : ∀ q : List Int, (fill n sh q)[j]? = some (if (j : Int) ∈ q then (sh.idxOf (j : Int) : Int) else 0) := fun q => by
      rw [fill, List.getElem?_map, rgI_get hj]; rfl
    by_cases hjx : x.toNat = j
    · have hxj : (j : Int) = x := by omega
      subst hjx
      rw [List.getElem?_set_self (by rw [fill_len]; exact hj), e1, hxj, if_pos (by simp), hidx]
    · have hxj : (j : Int) ≠ x := by omega
      rw [List.getElem?_set_ne hjx, e1, e1]
      simp [hxj]
  · rw [List.getElem?_eq_none (by rw [List.length_set, fill_len]; omega), List.getElem?_eq_none (by rw [fill_len]; omega)]
theorem inv_loop {n : Nat} {sh : List Int} (h : IsP n sh) {r0 : Sl} : ∀ (suf pre : List Int) (x y : Sl), sh = pre ++ suf → ∃ x' y', forD (.tup [(.nm 2), (.nm 3)]) (sPut 1 (eVar 3) (eVar 2)) (((iD suf).zipIdx pre.length).map fun p => .tup [.int p.2, p.1]) [r0, .ow (.lst (iD (fill n sh pre))), x, y] = .nx [r0, .ow (.lst (iD (fill n sh sh))), x', y']
  | [], pre, x, y, e => by
    rw [List.append_nil] at e
    subst e
    exact ⟨x, y, by simp⟩
  | a :: suf, pre, x, y, e => by
    have ha := h.rng a (by rw [e]; simp)
    obtain ⟨x', y', h1⟩ := inv_loop h (r0 := r0) suf (pre ++ [a]) (.im (.int pre.length)) (.im (.int a)) (by rw [e]; simp)
    rw [List.length_append, List.length_singleton] at h1
    refine ⟨x', y', ?_⟩
    rw [iD_cons, List.zipIdx_cons, List.map_cons]
    refine forD_step (ρ1 := [r0, .ow (.lst (iD (fill n sh pre))), .im (.int pre.length), .im (.int a)]) rfl ?_ h1
    have hp : putSub (.lst (iD (fill n sh pre))) (.int a) (.int (pre.length : Int)) = some (.lst (iD (fill n sh (pre ++ [a])))) := by
      have e1 : ixN (iD (fill n sh pre)).length a = some a.toNat := by
        unfold ixN
        rw [iD_len, fill_len, if_pos ha.1, if_pos ha.2]
      have e2 : (iD (fill n sh pre)).set a.toNat (.int (pre.length : Int)) = iD ((fill n sh pre).set a.toNat (pre.length : Int)) := (List.map_set ..).symm
      simp only [putSub, e1, Option.map_some, e2, fill_step h e]
    simp [sPut, hp]
theorem inverse_ok {n : Nat} {sh : List Int} (h : IsP n sh) (hn : n ≤ 1000) : F_inverse [.tux (iD sh)] = .ok (.tup (iD (backI n sh))) := by
  have hr : dRep (.lst [.int 0]) (.int (n : Int)) = .ok (.lst (iD (fill n sh []))) := by
    have e : (List.replicate n [D.int 0]).flatten = iD (fill n sh []) := by
      have e1 : fill n sh [] = List.replicate n 0 := by
        refine List.ext_getElem? fun j => ?_
        by_cases hj : j < n
        · rw [fill, List.getElem?_map, rgI_get hj, List.getElem?_replicate, if_pos hj]; simp
        · rw [List.getElem?_eq_none (by rw [fill_len]; omega), List.getElem?_eq_none (by rw [List.length_replicate]; omega)]
      rw [e1]
      simp [iD]
    unfold dRep
    simp only [Int.toNat_natCast]
    rw [if_pos (by simp; omega), e]
  obtain ⟨x', y', h1⟩ := inv_loop h (r0 := .im (.tux (iD sh))) sh [] .un .un rfl
  have e2 : fill n sh sh = backI n sh := by
    unfold fill backI
    refine List.map_congr_left fun y hy => ?_
    have hy := mem_rgI.mp hy
    rw [if_pos (h.all y hy.1 hy.2)]
  rw [e2] at h1
  have h1' : forD (.tup [(.nm 2), (.nm 3)]) (sPut 1 (eVar 3) (eVar 2)) (enumD (iD sh)) [.im (.tux (iD sh)), .ow (.lst (iD (fill n sh []))), .un, .un] = .nx [.im (.tux (iD sh)), .ow (.lst (iD (backI n sh))), x', y'] := h1
  have e3 : dEnum (.tux (iD sh)) = .ok (enumD (iD sh)) := rfl
  simp [F_inverse, runF, b_inverse, h.len, hr, e3, h1']

/-! ### many times -/
def it (st : List Int) : Nat → List Int → List Int
  | 0, a => a
  | m + 1, a => it st m (thn a st)
theorem it_rng {n : Nat} {st : List Int} (hs : st.length = n) (hr : Rng n st) : ∀ (m : Nat) {a : List Int}, a.length = n → Rng n a → (it st m a).length = n ∧ Rng n (it st m a)
  | 0, a, hl, ha => ⟨hl, ha⟩
  | m + 1, a, hl, ha => it_rng hs hr m (by rw [thn_len]; exact hl) (thn_rng (by rw [hs]; exact ha) hr)
def stepI (n : Nat) (sh : List Int) (t : Int) : List Int := if 0 ≤ t then sh else backI n sh
/-- the shift, so many times -/
def pw (n : Nat) (sh : List Int) (t : Int) : List Int := it (stepI n sh t) t.natAbs (rgI 0 n)
theorem rgI_rng {n : Nat} : Rng n (rgI 0 n) := fun s hs => mem_rgI.mp hs
theorem step_ok {n : Nat} {sh : List Int} (h : IsP n sh) (t : Int) : (stepI n sh t).length = n ∧ Rng n (stepI n sh t) := by
  unfold stepI
  split
  · exact ⟨h.len, h.rng⟩
  · exact ⟨backI_len, backI_rng h⟩
theorem pw_ok {n : Nat} {sh : List Int} (h : IsP n sh) (t : Int) : (pw n sh t).length = n ∧ Rng n (pw n sh t) := it_rng (step_ok h t).1 (step_ok h t).2 _ (rgI_len0 n) rgI_rng
theorem abs_nat (t : Int) : (if t < 0 then -t else t) = (t.natAbs : Int) := by split <;> omega
theorem pow_loop {n : Nat} {st : List Int} {dst : D} (hd : IsT dst st) (hs : st.length = n) (hr : Rng n st) {r0 r1 : Sl} : ∀ (items : List D) (a : List Int) (x : Sl), a.length = n → Rng n a → ∃ x', forD (.nm 4) (sAsg (e1L (cFn 2 F_product) (eCons (eVar 3) (eCons (eVar 2) eNil))) (.nm 3)) items [r0, r1, .im dst, .im (.tup (iD a)), x] = .nx [r0, r1, .im dst, .im (.tup (iD (it st items.length a))), x']
  | [], a, x, _, _ => ⟨x, rfl⟩
  | d :: items, a, x, hl, ha => by
    obtain ⟨x', h1⟩ := pow_loop hd hs hr (r0 := r0) (r1 := r1) items (thn a st) (.im d) (by rw [thn_len]; exact hl) (thn_rng (by rw [hs]; exact ha) hr)
    refine ⟨x', forD_step (ρ1 := [r0, r1, .im dst, .im (.tup (iD a)), .im d]) rfl ?_ h1⟩
    have := product_ok (da := .tup (iD a)) (.inl rfl) hd (by rw [hs]; exact ha)
    simp [this]
theorem unit_ok {n : Nat} (hn : n ≤ 1000) : F_unit [.int (n : Int)] = .ok (.tup (iD (rgI 0 n))) := by
  have hr := dRgT_ap (rgB_nat (n := n) (by omega))
  rw [rgD_eq] at hr
  simp [F_unit, runF, b_unit, hr]
theorem power_ok {n : Nat} {sh : List Int} (h : IsP n sh) (hn : n ≤ 1000) {t : Int} (ht : t.natAbs ≤ 1000) : F_power [.tux (iD sh), .int t] = .ok (.tup (iD (pw n sh t))) := by
  have hr := dRg_ap (rgB_nat (n := t.natAbs) (by omega))
  have hu := unit_ok hn
  obtain ⟨dst, hd, hq⟩ : ∃ dst, IsT dst (stepI n sh t) ∧ (eIf (eBl (e2 dGe (eVarB 1) (eC (.int 0)))) (eVar 0) (e1L (cFn 1 F_inverse) (eCons (eVar 0) eNil))) [.im (.tux (iD sh)), .im (.int t), .un, .un, .un] = .ok dst := by
    by_cases h0 : 0 ≤ t
    · exact ⟨.tux (iD sh), by unfold stepI; rw [if_pos h0]; exact .inr rfl, by simp [h0]⟩
    · exact ⟨.tup (iD (backI n sh)), by unfold stepI; rw [if_neg h0]; exact .inl rfl, by simp [h0, inverse_ok h hn]⟩
  obtain ⟨x', h1⟩ := pow_loop (n := n) hd (step_ok h t).1 (step_ok h t).2 (r0 := .im (.tux (iD sh))) (r1 := .im (.int t)) (rgD 0 (t.natAbs : Int)) (rgI 0 n) .un (rgI_len0 n) rgI_rng
  rw [rgD_eq, iD_len, rgI_len0, ← rgD_eq] at h1
  unfold F_power runF
  have e : List.map Sl.im [.tux (iD sh), .int t] ++ List.replicate (5 - [D.tux (iD sh), .int t].length) Sl.un = [.im (.tux (iD sh)), .im (.int t), .un, .un, .un] := rfl
  rw [e]
  have hb : b_power [.im (.tux (iD sh)), .im (.int t), .un, .un, .un] = .rt (.tup (iD (pw n sh t))) := by
    unfold b_power
    refine (sSeq_nx (ρ1 := [.im (.tux (iD sh)), .im (.int t), .im dst, .un, .un]) (by rw [sAsg_nm, hq]; rfl)).trans ?_
    refine (sSeq_nx (ρ1 := [.im (.tux (iD sh)), .im (.int t), .im dst, .im (.tup (iD (rgI 0 n))), .un]) (by simp [h.len, hu])).trans ?_
    refine (sSeq_nx ((sFor_ok (by simp [abs_nat, hr])).trans h1)).trans ?_
    simp [pw]
  rw [hb]
theorem tim_loop {n : Nat} {st : List Int} {dst : D} (hd : IsT dst st) (hs : st.length = n) (hr : Rng n st) {r0 r1 : Sl} : ∀ (items : List D) (a : List Int) (x : Sl), a.length = n → Rng n a → ∃ x', forD (.nm 4) (sAsg (e1L (cFn 2 F__law_then) (eCons (eVar 3) (eCons (eVar 2) eNil))) (.nm 3)) items [r0, r1, .im dst, .im (.tup (iD a)), x] = .nx [r0, r1, .im dst, .im (.tup (iD (it st items.length a))), x']
  | [], a, x, _, _ => ⟨x, rfl⟩
  | d :: items, a, x, hl, ha => by
    obtain ⟨x', h1⟩ := tim_loop hd hs hr (r0 := r0) (r1 := r1) items (thn a st) (.im d) (by rw [thn_len]; exact hl) (thn_rng (by rw [hs]; exact ha) hr)
    refine ⟨x', forD_step (ρ1 := [r0, r1, .im dst, .im (.tup (iD a)), .im d]) rfl ?_ h1⟩
    have := then_ok (da := .tup (iD a)) (.inl rfl) hd (by rw [hs]; exact ha)
    simp [this]
theorem times_ok {n : Nat} {sh : List Int} (h : IsP n sh) (hn : n ≤ 1000) {t : Int} (ht : t.natAbs ≤ 1000) : F__law_times [.tux (iD sh), .int t] = .ok (.tup (iD (pw n sh t))) := by
  have hr := dRg_ap (rgB_nat (n := t.natAbs) (by omega))
  have hu := dRgT_ap (rgB_nat (n := n) (by omega))
  rw [rgD_eq] at hu
  obtain ⟨dst, hd, hq⟩ : ∃ dst, IsT dst (stepI n sh t) ∧ (sIf (eBl (e2 dLt (eVarB 1) (eC (.int 0)))) (sAsg (e1L (cFn 1 F__law_back) (eCons (eVar 0) eNil)) (.nm 2)) sNil) [.im (.tux (iD sh)), .im (.int t), .im (.tux (iD sh)), .un, .un] = .nx [.im (.tux (iD sh)), .im (.int t), .im dst, .un, .un] := by
    by_cases h0 : t < 0
    · exact ⟨.tup (iD (backI n sh)), by unfold stepI; rw [if_neg (by omega)]; exact .inl rfl, by simp [h0, back_ok h hn]⟩
    · exact ⟨.tux (iD sh), by unfold stepI; rw [if_pos (by omega)]; exact .inr rfl, by simp [h0]⟩
  obtain ⟨x', h1⟩ := tim_loop (n := n) hd (step_ok h t).1 (step_ok h t).2 (r0 := .im (.tux (iD sh))) (r1 := .im (.int t)) (rgD 0 (t.natAbs : Int)) (rgI 0 n) .un (rgI_len0 n) rgI_rng
  rw [rgD_eq, iD_len, rgI_len0, ← rgD_eq] at h1
  unfold F__law_times runF
  have e : List.map Sl.im [.tux (iD sh), .int t] ++ List.replicate (5 - [D.tux (iD sh), .int t].length) Sl.un = [.im (.tux (iD sh)), .im (.int t), .un, .un, .un] := rfl
  rw [e]
  have hb : b__law_times [.im (.tux (iD sh)), .im (.int t), .un, .un, .un] = .rt (.tup (iD (pw n sh t))) := by
    unfold b__law_times
    refine (sSeq_nx (ρ1 := [.im (.tux (iD sh)), .im (.int t), .im (.tux (iD sh)), .un, .un]) (by simp)).trans ?_
    refine (sSeq_nx hq).trans ?_
    refine (sSeq_nx (ρ1 := [.im (.tux (iD sh)), .im (.int t), .im dst, .im (.tup (iD (rgI 0 n))), .un]) (by simp [h.len, hu])).trans ?_
    refine (sSeq_nx ((sFor_ok (by simp [abs_nat, hr])).trans h1)).trans ?_
    simp [pw]
  rw [hb]
end
end K53

/-! k53: what the programs over data answer, part 7: views. -/
namespace K53
open PySem PySem.Spec L2 DL
noncomputable section

def shOf (ts : List (Str × List Int)) (s : Str) : List Int := ((ts.find? fun t => decide (t.1 = s)).map (·.2)).getD []
theorem shOf_mem {ts : List (Str × List Int)} {s : Str} (h : s ∈ ts.map (·.1)) : (s, shOf ts s) ∈ ts ∧ lookD (knD ts) (.inr s : Key) = some (.tux (iD (shOf ts s))) := by
  induction ts with
  | nil => simp at h
  | cons t ts ih =>
    unfold shOf lookD knD at ih ⊢
    rw [List.map_cons, List.find?_cons, List.find?_cons]
    by_cases e : t.1 = s
    · have e1 : decide ((Sum.inr t.1 : Key) = Sum.inr s) = true := by simp [e]
      simp only [e, e1, decide_true]
      subst e
      exact ⟨by simp, by simp⟩
    · have e1 : decide ((Sum.inr t.1 : Key) = Sum.inr s) = false := by simp [e]
      have h' : s ∈ ts.map (·.1) := by
        rw [List.map_cons] at h
        rcases List.mem_cons.mp h with q | q
        · exact absurd q.symm e
        · exact q
      have := ih h'
      have e2 : decide (t.1 = s) = false := by simp [e]
      simp only [e1, e2]
      exact ⟨List.mem_cons_of_mem _ this.1, this.2⟩
theorem shOf_p {n : Nat} {ts : List (Str × List Int)} (P : Pz n ts) {s : Str} (h : s ∈ ts.map (·.1)) : IsP n (shOf ts s) := P.p _ (shOf_mem h).1
def mvS (n : Nat) (ts : List (Str × List Int)) (m : Mv) : List Int := pw n (shOf ts m.1) m.2
theorem mvS_ok {n : Nat} {ts : List (Str × List Int)} (P : Pz n ts) {m : Mv} (g : Gm ts m) : (mvS n ts m).length = n ∧ Rng n (mvS n ts m) := pw_ok (shOf_p P g.nm) _
theorem known_ok {ts : List (Str × List Int)} {s : Str} (h : s ∈ ts.map (·.1)) : dIx (.dK (knD ts)) (.str s) = .ok (.tux (iD (shOf ts s))) := dIx_K rfl (shOf_mem h).2
theorem gm_abs {ts : List (Str × List Int)} {m : Mv} (g : Gm ts m) : m.2.natAbs ≤ 1000 := by have := g.lo; have := g.hi; omega
theorem pow_mv {n : Nat} {ts : List (Str × List Int)} (P : Pz n ts) {m : Mv} (g : Gm ts m) : F_power [.tux (iD (shOf ts m.1)), .int m.2] = .ok (.tup (iD (mvS n ts m))) := power_ok (shOf_p P g.nm) (by have := P.n30; omega) (gm_abs g)
theorem tim_mv {n : Nat} {ts : List (Str × List Int)} (P : Pz n ts) {m : Mv} (g : Gm ts m) : F__law_times [.tux (iD (shOf ts m.1)), .int m.2] = .ok (.tup (iD (mvS n ts m))) := times_ok (shOf_p P g.nm) (by have := P.n30; omega) (gm_abs g)
def led (n : Nat) (ts : List (Str × List Int)) (fd : List Mv) (v : List Int) : List Int := fd.foldl (fun a m => thn a (mvS n ts m)) v
theorem led_rng {n : Nat} {ts : List (Str × List Int)} (P : Pz n ts) : ∀ {fd : List Mv} {v : List Int}, (∀ m ∈ fd, Gm ts m) → Rng n v → Rng n (led n ts fd v) ∧ (led n ts fd v).length = v.length
  | [], v, _, h => ⟨h, rfl⟩
  | m :: fd, v, hg, h => by
    have hm := mvS_ok P (hg m (by simp))
    have := led_rng P (fd := fd) (v := thn v (mvS n ts m)) (fun x hx => hg x (by simp [hx])) (thn_rng (by rw [hm.1]; exact h) hm.2)
    exact ⟨this.1, this.2.trans thn_len⟩
theorem thn_thn {v a b : List Int} (h : Rng a.length v) : thn (thn v a) b = thn v (thn a b) := by
  unfold thn
  rw [List.map_map]
  refine List.map_congr_left fun s hs => ?_
  have hl : s.toNat < a.length := by have := h s hs; omega
  simp [List.getD_eq_getElem?_getD, List.getElem?_map, List.getElem?_eq_getElem hl]
theorem thn_unit {n : Nat} {v : List Int} (h : Rng n v) : thn v (rgI 0 n) = v := by
  unfold thn
  refine (List.map_congr_left fun s hs => ?_).trans (List.map_id v)
  have hq := h s hs
  rw [List.getD_eq_getElem?_getD, rgI_get (j := s.toNat) (by omega)]
  simp only [Option.getD_some, id]
  omega
theorem led_thn {n : Nat} {ts : List (Str × List Int)} : ∀ {fd : List Mv} {v a : List Int}, Rng a.length v → led n ts fd (thn v a) = thn v (led n ts fd a)
  | [], v, a, _ => rfl
  | m :: fd, v, a, h => by
    show led n ts fd (thn (thn v a) (mvS n ts m)) = thn v (led n ts fd (thn a (mvS n ts m)))
    rw [thn_thn h]
    exact led_thn (by rw [thn_len]; exact h)
theorem led_eq {n : Nat} {ts : List (Str × List Int)} {fd : List Mv} {v : List Int} (h : Rng n v) : led n ts fd v = thn v (led n ts fd (rgI 0 n)) := by
  have := led_thn (n := n) (ts := ts) (fd := fd) (v := v) (a := rgI 0 n) (by rw [rgI_len0]; exact h)
  rw [thn_unit h] at this
  exact this
theorem shifts_ok {n : Nat} {ts : List (Str × List Int)} (P : Pz n ts) {fd : List Mv} (hg : ∀ m ∈ fd, Gm ts m) : F_move_shifts [pzD n ts, .lst (fd.map mvD)] = .ok (.lst (fd.map fun m => .tup (iD (mvS n ts m)))) := by
  have hc : compL (.tup [(.nm 3), (.nm 4)]) tTrue (e1L (cFn 2 F_power) (eCons (e2 dIx (eVarB 2) (eVarB 3)) (eCons (eVar 4) eNil))) [.im (pzD n ts), .im (.lst (fd.map mvD)), .im (.dK (knD ts)), .un, .un] (fd.map mvD) = .ok (fd.map fun m => .tup (iD (mvS n ts m))) := by
    rw [compL_map (g := fun d => match d with
      | .tup [.str s, .int t] => .tup (iD (mvS n ts (s, t)))
      | d => d)]
    · rw [List.map_map]; rfl
    · intro d hd
      obtain ⟨m, hm, rfl⟩ := List.mem_map.mp hd
      have g := hg m hm
      exact ⟨_, rfl, tTrue_ap, by simp [mvD, known_ok g.nm, pow_mv P g]⟩
  simp [F_move_shifts, runF, b_move_shifts, names_ok P, eComp, wipeE, hc, nofl]
theorem after_loop {n : Nat} {ts : List (Str × List Int)} (P : Pz n ts) {r0 r1 : Sl} : ∀ (fd : List Mv) (dv : D) (v : List Int) (x : Sl), (∀ m ∈ fd, Gm ts m) → IsT dv v → Rng n v → ∃ dv' x', forD (.nm 3) (sAsg (e1L (cFn 2 F_moved_view) (eCons (eVar 3) (eCons (eVar 2) eNil))) (.nm 2)) (fd.map fun m => .tup (iD (mvS n ts m))) [r0, r1, .im dv, x] = .nx [r0, r1, .im dv', x'] ∧ IsT dv' (led n ts fd v)
  | [], dv, v, x, _, hv, _ => ⟨dv, x, rfl, hv⟩
  | m :: fd, dv, v, x, hg, hv, hr => by
    have hm := mvS_ok P (hg m (by simp))
    obtain ⟨dv', x', h1, h2⟩ := after_loop P (r0 := r0) (r1 := r1) fd (.tup (iD (thn v (mvS n ts m)))) (thn v (mvS n ts m)) (.im (.tup (iD (mvS n ts m)))) (fun y hy => hg y (by simp [hy])) (.inl rfl) (thn_rng (by rw [hm.1]; exact hr) hm.2)
    refine ⟨dv', x', forD_step (ρ1 := [r0, r1, .im dv, .im (.tup (iD (mvS n ts m)))]) rfl ?_ h1, h2⟩
    have := moved_ok hv (db := .tup (iD (mvS n ts m))) (.inl rfl) (by rw [hm.1]; exact hr)
    simp [this]
theorem after_ok {n : Nat} {ts : List (Str × List Int)} (P : Pz n ts) {fd : List Mv} (hg : ∀ m ∈ fd, Gm ts m) {dv : D} {v : List Int} (hv : IsT dv v) (hr : Rng n v) : ∃ dv', F_view_after [pzD n ts, .lst (fd.map mvD), dv] = .ok dv' ∧ IsT dv' (led n ts fd v) := by
  obtain ⟨dv', x', h1, h2⟩ := after_loop P (r0 := .im (pzD n ts)) (r1 := .im (.lst (fd.map mvD))) fd dv v .un hg hv hr
  exact ⟨dv', by simp [F_view_after, runF, b_view_after, shifts_ok P hg, h1], h2⟩
theorem eff_loop {n : Nat} {ts : List (Str × List Int)} (P : Pz n ts) {r0 r1 : Sl} : ∀ (fd : List Mv) (v : List Int) (x y : Sl), (∀ m ∈ fd, Gm ts m) → Rng n v → ∃ x' y', forD (.tup [(.nm 4), (.nm 5)]) (sAsg (e1L (cFn 2 F_product) (eCons (eVar 3) (eCons (e1L (cFn 2 F_power) (eCons (e2 dIx (eVarB 2) (eVarB 4)) (eCons (eVar 5) eNil))) eNil))) (.nm 3)) (fd.map mvD) [r0, r1, .im (.dK (knD ts)), .im (.tup (iD v)), x, y] = .nx [r0, r1, .im (.dK (knD ts)), .im (.tup (iD (led n ts fd v))), x', y']
  | [], v, x, y, _, _ => ⟨x, y, rfl⟩
  | m :: fd, v, x, y, hg, hr => by
    have g := hg m (by simp)
    have hm := mvS_ok P g
    obtain ⟨x', y', h1⟩ := eff_loop P (r0 := r0) (r1 := r1) fd (thn v (mvS n ts m)) (.im (.str m.1)) (.im (.int m.2)) (fun y hy => hg y (by simp [hy])) (thn_rng (by rw [hm.1]; exact hr) hm.2)
    refine ⟨x', y', forD_step (ρ1 := [r0, r1, .im (.dK (knD ts)), .im (.tup (iD v)), .im (.str m.1), .im (.int m.2)]) rfl ?_ h1⟩
    have := product_ok (da := .tup (iD v)) (.inl rfl) (db := .tup (iD (mvS n ts m))) (.inl rfl) (by rw [hm.1]; exact hr)
    simp [known_ok g.nm, pow_mv P g, this]
theorem effect_ok {n : Nat} {ts : List (Str × List Int)} (P : Pz n ts) {fd : List Mv} (hg : ∀ m ∈ fd, Gm ts m) : F_effect [pzD n ts, .lst (fd.map mvD)] = .ok (.tup (iD (led n ts fd (rgI 0 n)))) := by
  obtain ⟨x', y', h1⟩ := eff_loop P (r0 := .im (pzD n ts)) (r1 := .im (.lst (fd.map mvD))) fd (rgI 0 n) .un .un hg rgI_rng
  simp [F_effect, runF, b_effect, names_ok P, at20, unit_ok (n := n) (by have := P.n30; omega), h1]
/-! ### the same -/
theorem same_int {k : Nat} {i : Int} : F__law_same (k + 1) [.int i, .int i] = .ok (.bl true) := by
  have e1 : dIsN (.int i) .non = .ok (.bl false) := rfl
  simp [F__law_same, runF, b__law_same, dIs, tyN, isLst, isTup, isBool, isInt, e1]
theorem same_loop {da : D} {l : List Int} (h : IsT da l) {f : List D → R D} (hf : ∀ i, f [.int i, .int i] = .ok (.bl true)) : ∀ (ks : List Nat) (x : Sl), (∀ k ∈ ks, k < l.length) → ∃ x', forD (.nm 2) (sIf (tNot (eTru (e1L (cFn 2 f) (eCons (e2 dIx (eVarB 0) (eVarB 2)) (eCons (e2 dIx (eVarB 1) (eVarB 2)) eNil))))) (sRet (eC (.bl false))) sNil) (nD ks) [.im da, .im (.tup (iD l)), x] = .nx [.im da, .im (.tup (iD l)), x']
  | [], x, _ => ⟨x, rfl⟩
  | k :: ks, x, hk => by
    obtain ⟨x', h1⟩ := same_loop h hf ks (.im (.int k)) fun j hj => hk j (by simp [hj])
    refine ⟨x', forD_step (ρ1 := [.im da, .im (.tup (iD l)), .im (.int k)]) rfl ?_ h1⟩
    have hkl := hk k (by simp)
    have e1 := h.ix (i := (k : Int)) (by omega) (by omega)
    have e2 := IsT.ix (d := .tup (iD l)) (.inl rfl) (i := (k : Int)) (by omega) (by omega)
    simp [e1, e2, hf]
theorem same_body {da : D} {l : List Int} (h : IsT da l) (hl : l.length ≤ 1000) {f : List D → R D} (hf : ∀ i, f [.int i, .int i] = .ok (.bl true)) : runF 3 (b__law_same f) [da, .tup (iD l)] = .ok (.bl true) := by
  obtain ⟨x', h1⟩ := same_loop h hf (List.range l.length) .un fun k hk => List.mem_range.mp hk
  have hr := dRg_ap (rgB_nat (n := l.length) (by omega))
  rw [rgD_nat] at hr
  have e1 : dIs isLst (.tup (iD l)) = .ok (.bl false) := rfl
  have e2 : dIs isTup (.tup (iD l)) = .ok (.bl true) := rfl
  have e3 : dIs isTup da = .ok (.bl true) := by rcases h with rfl | rfl <;> rfl
  simp [runF, b__law_same, e1, e2, e3, h.len, hr, h1]
theorem same_ok {da : D} {l : List Int} (h : IsT da l) (hl : l.length ≤ 1000) : F__law_same 4 [da, .tup (iD l)] = .ok (.bl true) := by
  show runF 3 (b__law_same (F__law_same 3)) [da, .tup (iD l)] = _
  exact same_body h hl fun i => same_int
end
end K53

/-! k53: what the programs over data answer, part 8: the law. -/
namespace K53
open PySem PySem.Spec L2 DL
noncomputable section

/-- the turns are gone through for the one of this name -/
def bTn : Ev → Out := (sIf (eBl (e2 dEq (eVarB 14) (eVarB 10)))
  (sAsg (e1L (cFn 2 F__law_then) (eCons (eVar 7) (eCons (e1L (cFn 2 F__law_times) (eCons (eVar 15) (eCons (eVar 11) eNil))) eNil))) (.nm 7))
  sNil)
theorem tn_loop {n : Nat} {ts : List (Str × List Int)} (P : Pz n ts) {m : Mv} (g : Gm ts m) {r0 r1 r2 r3 r4 r5 r6 r8 r9 r12 r13 r16 : Sl} : ∀ (us : List (Str × List Int)) (v : List Int) (x y : Sl), (∀ t ∈ us, t ∈ ts) → (us.map (·.1)).Nodup → Rng n v → ∃ x' y', forD (.tup [(.nm 14), (.nm 15)]) bTn (us.map turnD) [r0, r1, r2, r3, r4, r5, r6, .im (.tup (iD v)), r8, r9, .im (.str m.1), .im (.int m.2), r12, r13, x, y, r16] =
    .nx [r0, r1, r2, r3, r4, r5, r6, .im (.tup (iD (if m.1 ∈ us.map (·.1) then thn v (mvS n ts m) else v))), r8, r9, .im (.str m.1), .im (.int m.2), r12, r13, x', y', r16]
  | [], v, x, y, _, _, _ => ⟨x, y, by simp⟩
  | t :: us, v, x, y, hu, hn, hr => by
    have ht := hu t (by simp)
    have hn' := hn
    rw [List.map_cons, List.nodup_cons] at hn'
    have hq : dEq (.str t.1) (.str m.1) = .ok (.bl (t.1 == m.1)) := by rw [dEq_ap (n := 0) (m := 0) (sh_str (P.ok t ht)) (sh_str (g.ok P))]; simp
    have hm := mvS_ok P g
    by_cases e : t.1 = m.1
    · have hnot : m.1 ∉ us.map (·.1) := by rw [← e]; exact hn'.1
      obtain ⟨x', y', h1⟩ := tn_loop P g (r0 := r0) (r1 := r1) (r2 := r2) (r3 := r3) (r4 := r4) (r5 := r5) (r6 := r6) (r8 := r8) (r9 := r9) (r12 := r12) (r13 := r13) (r16 := r16) us (thn v (mvS n ts m)) (.im (.str t.1)) (.im (.tux (iD t.2))) (fun u h => hu u (by simp [h])) hn'.2 (thn_rng (by rw [hm.1]; exact hr) hm.2)
      rw [if_neg hnot] at h1
      have hin : m.1 ∈ (t :: us).map (·.1) := by rw [List.map_cons, e]; simp
      rw [if_pos hin]
      refine ⟨x', y', forD_step (ρ1 := [r0, r1, r2, r3, r4, r5, r6, .im (.tup (iD v)), r8, r9, .im (.str m.1), .im (.int m.2), r12, r13, .im (.str t.1), .im (.tux (iD t.2)), r16]) rfl ?_ h1⟩
      have et : t.2 = shOf ts m.1 := by
        have h2 := (shOf_mem g.nm).1
        have hnd := P.nd
        -- both stand in ts under the same name
        have uniq : ∀ {l : List (Str × List Int)} {a b : Str × List Int}, (l.map (·.1)).Nodup → a ∈ l → b ∈ l → a.1 = b.1 → a = b := by
          intro l
          induction l with
          | nil => intro a b _ ha; simp at ha
          | cons c l ih =>
            intro a b hnd ha hb hab
            rw [List.map_cons, List.nodup_cons] at hnd
            rcases List.mem_cons.mp ha with ea | ha2
            · rcases List.mem_cons.mp hb with eb | hb2
              · rw [ea, eb]
              · exact absurd (List.mem_map.mpr ⟨b, hb2, by rw [← hab, ea]⟩) hnd.1
            · rcases List.mem_cons.mp hb with eb | hb2
              · exact absurd (List.mem_map.mpr ⟨a, ha2, by rw [hab, eb]⟩) hnd.1
              · exact ih hnd.2 ha2 hb2 hab
        have := uniq hnd ht h2 e
        rw [this]
      have ht2 : F__law_times [.tux (iD t.2), .int m.2] = .ok (.tup (iD (mvS n ts m))) := by rw [et]; exact tim_mv P g
      have hth := then_ok (da := .tup (iD v)) (.inl rfl) (db := .tup (iD (mvS n ts m))) (.inl rfl) (by rw [hm.1]; exact hr)
      have eb : (t.1 == m.1) = true := by rw [e]; simp
      rw [eb] at hq
      simp [bTn, hq, ht2, hth]
    · obtain ⟨x', y', h1⟩ := tn_loop P g (r0 := r0) (r1 := r1) (r2 := r2) (r3 := r3) (r4 := r4) (r5 := r5) (r6 := r6) (r8 := r8) (r9 := r9) (r12 := r12) (r13 := r13) (r16 := r16) us v (.im (.str t.1)) (.im (.tux (iD t.2))) (fun u h => hu u (by simp [h])) hn'.2 hr
      have hin : (m.1 ∈ (t :: us).map (·.1)) = (m.1 ∈ us.map (·.1)) := by
        rw [List.map_cons, List.mem_cons]
        exact propext ⟨fun q => q.resolve_left fun z => e z.symm, .inr⟩
      simp only [hin]
      refine ⟨x', y', forD_step (ρ1 := [r0, r1, r2, r3, r4, r5, r6, .im (.tup (iD v)), r8, r9, .im (.str m.1), .im (.int m.2), r12, r13, .im (.str t.1), .im (.tux (iD t.2)), r16]) rfl ?_ h1⟩
      have eb : (t.1 == m.1) = false := by
        cases q : (t.1 == m.1) with
        | false => rfl
        | true => exact absurd (eq_of_beq q) e
      rw [eb] at hq
      simp [bTn, hq]
def bPos : Ev → Out := sFor (eItems (e2 dIx (eVarB 0) (eC (.int 1)))) (.tup [(.nm 14), (.nm 15)]) bTn
theorem pos_loop {n : Nat} {ts : List (Str × List Int)} (P : Pz n ts) {r1 r2 r3 r4 r5 r6 r8 r9 r12 r13 r16 : Sl} : ∀ (fd : List Mv) (v : List Int) (x y z w : Sl), (∀ m ∈ fd, Gm ts m) → Rng n v → ∃ x' y' z' w', forD (.tup [(.nm 10), (.nm 11)]) bPos (fd.map mvD) [.im (pzD n ts), r1, r2, r3, r4, r5, r6, .im (.tup (iD v)), r8, r9, x, y, r12, r13, z, w, r16] =
    .nx [.im (pzD n ts), r1, r2, r3, r4, r5, r6, .im (.tup (iD (led n ts fd v))), r8, r9, x', y', r12, r13, z', w', r16]
  | [], v, x, y, z, w, _, _ => ⟨x, y, z, w, rfl⟩
  | m :: fd, v, x, y, z, w, hg, hr => by
    have g := hg m (by simp)
    have hm := mvS_ok P g
    obtain ⟨z1, w1, h1⟩ := tn_loop P g (r0 := .im (pzD n ts)) (r1 := r1) (r2 := r2) (r3 := r3) (r4 := r4) (r5 := r5) (r6 := r6) (r8 := r8) (r9 := r9) (r12 := r12) (r13 := r13) (r16 := r16) ts v z w (fun _ h => h) P.nd hr
    rw [if_pos g.nm] at h1
    obtain ⟨x', y', z', w', h2⟩ := pos_loop P (r1 := r1) (r2 := r2) (r3 := r3) (r4 := r4) (r5 := r5) (r6 := r6) (r8 := r8) (r9 := r9) (r12 := r12) (r13 := r13) (r16 := r16) fd (thn v (mvS n ts m)) (.im (.str m.1)) (.im (.int m.2)) z1 w1 (fun y hy => hg y (by simp [hy])) (thn_rng (by rw [hm.1]; exact hr) hm.2)
    exact ⟨x', y', z', w', forD_step (ρ1 := [.im (pzD n ts), r1, r2, r3, r4, r5, r6, .im (.tup (iD v)), r8, r9, .im (.str m.1), .im (.int m.2), r12, r13, z, w, r16]) rfl ((sFor_ok (l := ts.map turnD) (by simp [at21])).trans h1) h2⟩
/-! views -/
def bVw : Ev → Out := (sSeq (sAsg (e1L (on1 dList) (eCons (eVarB 6) eNil)) (.nm 12))
  (sIf (tOr (tNot (eTru (e1L (cFn 2 (F__law_same 4)) (eCons (e1L (cFn 3 F_view_after) (eCons (eVar 0) (eCons (eVar 6) (eCons (eVar 9) eNil)))) (eCons (e1L (on1 dTuple) (eCons (eComp (eItems (eVarB 9)) (.nm 16) [16] tTrue (e2 dIx (eVarB 7) (eVarB 16))) eNil)) eNil))))) (eBl (e2 dNe (eVarB 12) (eVarB 6))))
  (sRet (eC (.bl false)))
  sNil))
theorem vw_step {n : Nat} {ts : List (Str × List Int)} (P : Pz n ts) {fd : List Mv} (hg : ∀ m ∈ fd, Gm ts m) {dv : D} {v : List Int} (hv : IsT dv v) (hr : Rng n v) (hl : v.length ≤ 1000) {r1 r2 r3 r4 r5 r8 r10 r11 r13 r14 r15 x : Sl} :
    bVw [.im (pzD n ts), r1, r2, r3, r4, r5, .im (.lst (fd.map mvD)), .im (.tup (iD (led n ts fd (rgI 0 n)))), r8, .im dv, r10, r11, x, r13, r14, r15, .un] = .nx [.im (pzD n ts), r1, r2, r3, r4, r5, .im (.lst (fd.map mvD)), .im (.tup (iD (led n ts fd (rgI 0 n)))), r8, .im dv, r10, r11, .im (.lst (fd.map mvD)), r13, r14, r15, .un] := by
  obtain ⟨dv', h1, h2⟩ := after_ok P hg hv hr
  have hp := led_rng P hg (rgI_rng (n := n))
  rw [rgI_len0] at hp
  have hc : compL (.nm 16) tTrue (e2 dIx (eVarB 7) (eVarB 16)) [.im (pzD n ts), r1, r2, r3, r4, r5, .im (.lst (fd.map mvD)), .im (.tup (iD (led n ts fd (rgI 0 n)))), r8, .im dv, r10, r11, .im (.lst (fd.map mvD)), r13, r14, r15, .un] (iD v) = .ok (iD (thn v (led n ts fd (rgI 0 n)))) := by
    rw [compL_map (g := fun d => match d with
      | .int s => .int ((led n ts fd (rgI 0 n)).getD s.toNat 0)
      | d => d)]
    · congr 1
      simp only [iD, thn, List.map_map]
      rfl
    · intro d hd
      obtain ⟨s, hs, rfl⟩ := List.mem_map.mp hd
      have h := hr s hs
      have hl : s.toNat < (led n ts fd (rgI 0 n)).length := by rw [hp.2]; omega
      have e := IsT.ix (d := .tup (iD (led n ts fd (rgI 0 n)))) (.inl rfl) h.1 (by rw [hp.2]; exact h.2)
      refine ⟨_, setP_nm, tTrue_ap, ?_⟩
      rw [e2_ap, eVarB_ap (d := .tup (iD (led n ts fd (rgI 0 n)))) (by simp)]
      simp only [R.ok_bind]
      rw [eVarB_ap (d := .int s) (by simp)]
      simp only [R.ok_bind, e]
      rw [List.getD_eq_getElem?_getD, List.getElem?_eq_getElem hl]
      rfl
  have hs := same_ok (l := thn v (led n ts fd (rgI 0 n))) (da := dv') (by rw [← led_eq hr]; exact h2) (by rw [thn_len]; exact hl)
  have hsh := sh_lst (sh_mvs P hg)
  have q2 : dNe (.lst (fd.map mvD)) (.lst (fd.map mvD)) = .ok (.bl false) := by rw [dNe_ap (n := 5) (m := 5) hsh hsh, hsh.eqv]; rfl
  simp [bVw, h1, eComp, hv.items, wipeE, hc, nofl, hs, q2]
theorem vw_loop {n : Nat} {ts : List (Str × List Int)} (P : Pz n ts) {fd : List Mv} (hg : ∀ m ∈ fd, Gm ts m) {r1 r2 r3 r4 r5 r8 r10 r11 r13 r14 r15 : Sl} : ∀ (vs : List D) (x y : Sl), (∀ d ∈ vs, ∃ v, IsT d v ∧ Rng n v ∧ v.length ≤ 1000) → ∃ x' y', forD (.nm 9) bVw vs [.im (pzD n ts), r1, r2, r3, r4, r5, .im (.lst (fd.map mvD)), .im (.tup (iD (led n ts fd (rgI 0 n)))), r8, x, r10, r11, y, r13, r14, r15, .un] =
    .nx [.im (pzD n ts), r1, r2, r3, r4, r5, .im (.lst (fd.map mvD)), .im (.tup (iD (led n ts fd (rgI 0 n)))), r8, x', r10, r11, y', r13, r14, r15, .un]
  | [], x, y, _ => ⟨x, y, rfl⟩
  | d :: vs, x, y, h => by
    obtain ⟨v, hv, hr, hl⟩ := h d (by simp)
    obtain ⟨x', y', h1⟩ := vw_loop P hg (r1 := r1) (r2 := r2) (r3 := r3) (r4 := r4) (r5 := r5) (r8 := r8) (r10 := r10) (r11 := r11) (r13 := r13) (r14 := r14) (r15 := r15) vs (.im d) (.im (.lst (fd.map mvD))) fun e he => h e (by simp [he])
    exact ⟨x', y', forD_step (ρ1 := [.im (pzD n ts), r1, r2, r3, r4, r5, .im (.lst (fd.map mvD)), .im (.tup (iD (led n ts fd (rgI 0 n)))), r8, .im d, r10, r11, y, r13, r14, r15, .un]) rfl (vw_step P hg hv hr hl) h1⟩
end
end K53

/-! k53: what the programs over data answer, part 9: the law. -/
namespace K53
open PySem PySem.Spec L2 DL
noncomputable section

theorem sl_tux {l : List Int} {c : Nat} (hc : c ≤ l.length) : ∃ d, dSl (.tux (iD l)) (some 0) (some (c : Int)) = .ok d ∧ IsT d (l.take c) := by
  have e : cutL (iD l) (some 0) (some (c : Int)) = iD (l.take c) := by
    unfold cutL sIx
    have : ¬ (c : Int) < 0 := by omega
    simp [this, Nat.min_eq_left hc]
  by_cases h : sIx (iD l).length 0 (some 0) = 0 ∧ sIx (iD l).length (iD l).length (some (c : Int)) = (iD l).length
  · have h2 := h.2
    have e2 : c = l.length := by
      unfold sIx at h2
      have : ¬ (c : Int) < 0 := by omega
      simp [this] at h2
      omega
    refine ⟨.tux (iD l), by simp only [dSl]; rw [if_pos h], .inr ?_⟩
    rw [e2, List.take_length]
  · exact ⟨.tup (iD (l.take c)), by simp only [dSl]; rw [if_neg h, e], .inl rfl⟩
theorem sorted_t {d : D} {l : List Int} (h : IsT d l) : dSorted d = .ok (.lst (iD (sortI l))) := by
  rcases h with rfl | rfl <;> (simp only [dSorted, ints?_iD]; rfl)
def bFd : Ev → R D := e2 dIx (eVarB 3) (e2 dMod (e1L (on1 dInt) (eCons (e2 dAdd (e2 dIx (eVarB 1) (e2 dMod (eVarB 13) (eC (.int 50)))) (eVarB 13)) eNil)) (e1L (on1 dLen) (eCons (eVarB 3) eNil)))
def pick (dr : List Int) (ms : List Mv) (k : Nat) : Mv := ms.getD ((dr.getD (k % 50) 0 + (k : Int)) % (ms.length : Int)).toNat ("", 0)
theorem pick_mem {dr : List Int} {ms : List Mv} (h : 0 < ms.length) (k : Nat) : pick dr ms k ∈ ms := by
  have h0 := Int.emod_nonneg (dr.getD (k % 50) 0 + (k : Int)) (b := (ms.length : Int)) (by omega)
  have h1 := Int.emod_lt_of_pos (dr.getD (k % 50) 0 + (k : Int)) (b := (ms.length : Int)) (by omega)
  unfold pick
  rw [List.getD_eq_getElem?_getD, List.getElem?_eq_getElem (by omega)]
  exact List.getElem_mem _
theorem comp_fd {dr : List Int} {ms : List Mv} (h : 0 < ms.length) (hd : 50 ≤ dr.length) {r0 r2 r4 r5 r6 r7 r8 r9 r10 r11 r12 r14 r15 r16 : Sl} (s : Nat) :
    compL (.nm 13) tTrue bFd [r0, .im (.lst (iD dr)), r2, .im (.lst (ms.map mvD)), r4, r5, r6, r7, r8, r9, r10, r11, r12, .un, r14, r15, r16] (nD (List.range s)) = .ok (((List.range s).map (pick dr ms)).map mvD) := by
  rw [compL_map (g := fun d => match d with
    | .int k => mvD (pick dr ms k.toNat)
    | d => d)]
  · congr 1
    simp only [nD, List.map_map]
    rfl
  · intro d hdm
    obtain ⟨k, hk, rfl⟩ := List.mem_map.mp hdm
    refine ⟨_, setP_nm, tTrue_ap, ?_⟩
    obtain ⟨q, hq⟩ : ∃ q : Nat, k % 50 = q := ⟨_, rfl⟩
    have e50 : (k : Int) % 50 = (q : Int) := by omega
    have hl : q < dr.length := by omega
    have g1 := dr_at hl
    have h0 := Int.emod_nonneg (dr[q] + (k : Int)) (b := (ms.length : Int)) (by omega)
    have h1 := Int.emod_lt_of_pos (dr[q] + (k : Int)) (b := (ms.length : Int)) (by omega)
    have g2 : dIx (.lst (ms.map mvD)) (.int ((dr[q] + (k : Int)) % (ms.length : Int))) = .ok (mvD (pick dr ms k)) := dIx_l (by
      rw [atI_get h0 (by rw [List.length_map]; exact h1)]
      unfold pick
      rw [hq, List.getD_eq_getElem?_getD, List.getD_eq_getElem?_getD, List.getElem?_eq_getElem hl]
      simp only [Option.getD_some]
      rw [List.getElem?_eq_getElem (by omega)]
      simp)
    simp [bFd, dMod_ii (j := 50) (by decide), e50, g1, dMod_ii (j := (ms.length : Int)) (by omega), g2]
def bSm : Ev → Out := (sSeq (sAsg (eComp (eRg1 (eVar 5)) (.nm 13) [13] tTrue bFd) (.nm 6))
  (sSeq (sAsg (e1 (dRgT (.int 0)) (eVar 2)) (.nm 7))
  (sSeq (sFor (eItems (eVar 6)) (.tup [(.nm 10), (.nm 11)]) bPos)
  (sSeq (sAsg (e1L (cFn 3 F__law_shift) (eCons (eVar 1) (eCons (eC (.int 27)) (eCons (eVar 2) eNil)))) (.nm 8))
  (sSeq (sFor (eItems (e1L dLst (eCons (e1 (dRgT (.int 0)) (eVar 2)) (eCons (eVar 8) (eCons (eSl (eVarB 8) (oSome (eC (.int 0))) (oSome (e2 dAdd (eC (.int 1)) (e2 dMod (e2 dIx (eVarB 1) (eC (.int 28))) (eVarB 2))))) (eCons (e1L (on1 dTuple) (eCons (e1L (on1 dSorted) (eCons (eSl (eVarB 8) (oSome (eC (.int 0))) (oSome (eC (.int 2)))) eNil)) eNil)) eNil)))))) (.nm 9) bVw)
  (sIf (tNot (eTru (e1L (cFn 2 (F__law_same 4)) (eCons (e1L (cFn 2 F_effect) (eCons (eVar 0) (eCons (eVar 6) eNil))) (eCons (eVar 7) eNil)))))
  (sRet (eC (.bl false)))
  sNil))))))
theorem some_step {n : Nat} {ts : List (Str × List Int)} (P : Pz n ts) {dr : List Int} (hd : 50 ≤ dr.length) (hd0 : ∀ z ∈ dr, 0 ≤ z) {ms : List Mv} (hm : 0 < ms.length) (hg : ∀ m ∈ ms, Gm ts m) (s : Nat) (hs : s ≤ 300) {r4 x6 x7 x8 x9 x10 x11 x12 x14 x15 : Sl} :
    ∃ y6 y7 y8 y9 y10 y11 y12 y14 y15, bSm [.im (pzD n ts), .im (.lst (iD dr)), .im (.int n), .im (.lst (ms.map mvD)), r4, .im (.int s), x6, x7, x8, x9, x10, x11, x12, .un, x14, x15, .un] =
      .nx [.im (pzD n ts), .im (.lst (iD dr)), .im (.int n), .im (.lst (ms.map mvD)), r4, .im (.int s), y6, y7, y8, y9, y10, y11, y12, .un, y14, y15, .un] := by
  have n2 := P.n2
  have n30 := P.n30
  let fd : List Mv := (List.range s).map (pick dr ms)
  have hfd : ∀ m ∈ fd, Gm ts m := fun m h => by
    obtain ⟨k, _, rfl⟩ := List.mem_map.mp h
    exact hg _ (pick_mem hm k)
  have hr := dRg_ap (rgB_nat (n := s) (by omega))
  rw [rgD_nat] at hr
  have hu := dRgT_ap (rgB_nat (n := n) (by omega))
  rw [rgD_eq] at hu
  have hc := comp_fd (dr := dr) (ms := ms) hm hd (r0 := .im (pzD n ts)) (r2 := .im (.int n)) (r4 := r4) (r5 := .im (.int s)) (r6 := x6) (r7 := x7) (r8 := x8) (r9 := x9) (r10 := x10) (r11 := x11) (r12 := x12) (r14 := x14) (r15 := x15) (r16 := .un) s
  obtain ⟨od, ho, hop⟩ := shift_ok dr (by omega) hd0 27 n (by omega)
  replace ho : F__law_shift [.lst (iD dr), .int 27, .int n] = .ok (.tux (iD od)) := ho
  obtain ⟨y10, y11, y14, y15, h1⟩ := pos_loop P (r1 := .im (.lst (iD dr))) (r2 := .im (.int n)) (r3 := .im (.lst (ms.map mvD))) (r4 := r4) (r5 := .im (.int s)) (r6 := .im (.lst (fd.map mvD))) (r8 := x8) (r9 := x9) (r12 := x12) (r13 := .un) (r16 := .un) fd (rgI 0 n) x10 x11 x14 x15 hfd rgI_rng
  have g28 : dIx (.lst (iD dr)) (.int 28) = .ok (.int (dr[28]'(by omega))) := dr_at (dr := dr) (k := 28) (by omega)
  obtain ⟨c, hcc⟩ : ∃ c : Nat, (1 : Int) + dr[28]'(by omega) % (n : Int) = (c : Int) := ⟨((1 : Int) + dr[28]'(by omega) % (n : Int)).toNat, by have := Int.emod_nonneg (dr[28]'(by omega)) (b := (n : Int)) (by omega); omega⟩
  have hcn : c ≤ n := by have := Int.emod_lt_of_pos (dr[28]'(by omega)) (b := (n : Int)) (by omega); omega
  obtain ⟨d3, e3, i3⟩ := sl_tux (l := od) (c := c) (by rw [hop.len]; exact hcn)
  obtain ⟨d4, e4, i4⟩ := sl_tux (l := od) (c := 2) (by rw [hop.len]; exact n2)
  replace e4 : dSl (.tux (iD od)) (some 0) (some 2) = .ok d4 := e4
  have e5 := sorted_t i4
  have rT : ∀ k, Rng n (od.take k) := fun k x hx => hop.rng x (List.mem_of_mem_take hx)
  have lT : ∀ k, (od.take k).length ≤ 1000 := fun k => by rw [List.length_take, hop.len]; omega
  obtain ⟨y9, y12, h2⟩ := vw_loop P hfd (r1 := .im (.lst (iD dr))) (r2 := .im (.int n)) (r3 := .im (.lst (ms.map mvD))) (r4 := r4) (r5 := .im (.int s)) (r8 := .im (.tux (iD od))) (r10 := y10) (r11 := y11) (r13 := .un) (r14 := y14) (r15 := y15) [.tup (iD (rgI 0 n)), .tux (iD od), d3, .tup (iD (sortI (od.take 2)))] x9 x12 (by
    intro d hd
    simp only [List.mem_cons, List.not_mem_nil, or_false] at hd
    rcases hd with rfl | rfl | rfl | rfl
    · exact ⟨_, .inl rfl, rgI_rng, by rw [rgI_len0]; omega⟩
    · exact ⟨_, .inr rfl, hop.rng, by rw [hop.len]; omega⟩
    · exact ⟨_, i3, rT c, lT c⟩
    · exact ⟨_, .inl rfl, fun x hx => rT 2 x ((sortI_perm _).mem_iff.mp hx), by rw [(sortI_perm _).length_eq]; exact lT 2⟩)
  have hp := led_rng P hfd (rgI_rng (n := n))
  rw [rgI_len0] at hp
  have hs4 := same_ok (l := led n ts fd (rgI 0 n)) (da := .tup (iD (led n ts fd (rgI 0 n)))) (.inl rfl) (by rw [hp.2]; omega)
  have hef := effect_ok P hfd
  refine ⟨.im (.lst (fd.map mvD)), .im (.tup (iD (led n ts fd (rgI 0 n)))), .im (.tux (iD od)), y9, y10, y11, y12, y14, y15, ?_⟩
  unfold bSm
  refine (sSeq_nx (ρ1 := [.im (pzD n ts), .im (.lst (iD dr)), .im (.int n), .im (.lst (ms.map mvD)), r4, .im (.int s), .im (.lst (fd.map mvD)), x7, x8, x9, x10, x11, x12, .un, x14, x15, .un]) (by simp [eComp, hr, wipeE, hc, nofl, fd])).trans ?_
  refine (sSeq_nx (ρ1 := [.im (pzD n ts), .im (.lst (iD dr)), .im (.int n), .im (.lst (ms.map mvD)), r4, .im (.int s), .im (.lst (fd.map mvD)), .im (.tup (iD (rgI 0 n))), x8, x9, x10, x11, x12, .un, x14, x15, .un]) (by simp [hu])).trans ?_
  refine (sSeq_nx ((sFor_ok (l := fd.map mvD) (by simp)).trans h1)).trans ?_
  refine (sSeq_nx (ρ1 := [.im (pzD n ts), .im (.lst (iD dr)), .im (.int n), .im (.lst (ms.map mvD)), r4, .im (.int s), .im (.lst (fd.map mvD)), .im (.tup (iD (led n ts fd (rgI 0 n)))), .im (.tux (iD od)), x9, y10, y11, x12, .un, y14, y15, .un]) (by simp [ho])).trans ?_
  have q9 : oSome (e2 dAdd (eC (.int 1)) (e2 dMod (e2 dIx (eVarB 1) (eC (.int 28))) (eVarB 2))) [.im (pzD n ts), .im (.lst (iD dr)), .im (.int n), .im (.lst (ms.map mvD)), r4, .im (.int s), .im (.lst (fd.map mvD)), .im (.tup (iD (led n ts fd (rgI 0 n)))), .im (.tux (iD od)), x9, y10, y11, x12, .un, y14, y15, .un] = .ok (some (c : Int)) :=
    oSome_int (by simp [g28, dMod_ii (j := (n : Int)) (by omega), hcc])
  refine (sSeq_nx ((sFor_ok (by
    simp [hu, q9, e3, e4, e5])).trans h2)).trans ?_
  simp [hef, hs4]
theorem pick6n (x : Int) : ∃ s : Nat, s ≤ 300 ∧ dIx (.lst [.int 0, .int 1, .int 20, .int 21, .int 75, .int 300]) (.int (x % 6)) = .ok (.int (s : Int)) := by
  obtain ⟨y, hy, g⟩ := pick6 (a := .int 0) (b := .int 1) (c := .int 20) (d := .int 21) (e := .int 75) (f := .int 300) x
  simp only [List.mem_cons, List.not_mem_nil, or_false] at hy
  rcases hy with rfl | rfl | rfl | rfl | rfl | rfl
  · exact ⟨0, by omega, dIx_l g⟩
  · exact ⟨1, by omega, dIx_l g⟩
  · exact ⟨20, by omega, dIx_l g⟩
  · exact ⟨21, by omega, dIx_l g⟩
  · exact ⟨75, by omega, dIx_l g⟩
  · exact ⟨300, by omega, dIx_l g⟩
theorem views_ok {n : Nat} {ts : List (Str × List Int)} (P : Pz n ts) {dr : List Int} (hd : 50 ≤ dr.length) (hd0 : ∀ z ∈ dr, 0 ≤ z) : F__law_views_hold [pzD n ts, .lst (iD dr)] = .ok (.bl true) := by
  have g20 : dIx (.lst (iD dr)) (.int 20) = .ok (.int (dr[20]'(by omega))) := dr_at (dr := dr) (k := 20) (by omega)
  have g25 : dIx (.lst (iD dr)) (.int 25) = .ok (.int (dr[25]'(by omega))) := dr_at (dr := dr) (k := 25) (by omega)
  have g26 : dIx (.lst (iD dr)) (.int 26) = .ok (.int (dr[26]'(by omega))) := dr_at (dr := dr) (k := 26) (by omega)
  have hsl : dSl (.lst (iD dr)) (some 0) (some 20) = .ok (.lst (iD (dr.take 20))) := iD_sl (l := dr) (k := 20) (by omega)
  have p20 : ∀ z ∈ dr.take 20, 0 ≤ z := fun z hz => hd0 z (List.mem_of_mem_take hz)
  have l20 : (dr.take 20).length = 20 := by rw [List.length_take]; omega
  obtain ⟨c1, hc1⟩ : ∃ c : Nat, (1 : Int) + dr[20]'(by omega) % 20 = (c : Int) := ⟨((1 : Int) + dr[20]'(by omega) % 20).toNat, by omega⟩
  obtain ⟨ms, hm, lm, nm, gm⟩ := all_moves_ok P (dr := dr.take 20) (by omega) (by omega) p20 c1 (by omega)
  obtain ⟨s1, hs1, q1⟩ := pick6n (dr[25]'(by omega))
  obtain ⟨s2, hs2⟩ : ∃ c : Nat, (61 : Int) + dr[26]'(by omega) % 60 = (c : Int) := ⟨((61 : Int) + dr[26]'(by omega) % 60).toNat, by omega⟩
  obtain ⟨y6, y7, y8, y9, y10, y11, y12, y14, y15, h1⟩ := some_step P hd hd0 (ms := ms) (by omega) gm s1 hs1 (r4 := .im (.int s1)) (x6 := .un) (x7 := .un) (x8 := .un) (x9 := .un) (x10 := .un) (x11 := .un) (x12 := .un) (x14 := .un) (x15 := .un)
  obtain ⟨z6, z7, z8, z9, z10, z11, z12, z14, z15, h2⟩ := some_step P hd hd0 (ms := ms) (by omega) gm s2 (by omega) (r4 := .im (.int s1)) (x6 := y6) (x7 := y7) (x8 := y8) (x9 := y9) (x10 := y10) (x11 := y11) (x12 := y12) (x14 := y14) (x15 := y15)
  have hl : forD (.nm 5) bSm [.int s1, .int s2] [.im (pzD n ts), .im (.lst (iD dr)), .im (.int n), .im (.lst (ms.map mvD)), .im (.int s1), .un, .un, .un, .un, .un, .un, .un, .un, .un, .un, .un, .un] = .nx [.im (pzD n ts), .im (.lst (iD dr)), .im (.int n), .im (.lst (ms.map mvD)), .im (.int s1), .im (.int s2), z6, z7, z8, z9, z10, z11, z12, .un, z14, z15, .un] :=
    forD_step (ρ1 := [.im (pzD n ts), .im (.lst (iD dr)), .im (.int n), .im (.lst (ms.map mvD)), .im (.int s1), .im (.int s1), .un, .un, .un, .un, .un, .un, .un, .un, .un, .un, .un]) rfl h1
      (forD_step (ρ1 := [.im (pzD n ts), .im (.lst (iD dr)), .im (.int n), .im (.lst (ms.map mvD)), .im (.int s1), .im (.int s2), y6, y7, y8, y9, y10, y11, y12, .un, y14, y15, .un]) rfl h2 rfl)
  unfold F__law_views_hold runF
  have e : List.map Sl.im [pzD n ts, .lst (iD dr)] ++ List.replicate (17 - [pzD n ts, .lst (iD dr)].length) Sl.un = [.im (pzD n ts), .im (.lst (iD dr)), .un, .un, .un, .un, .un, .un, .un, .un, .un, .un, .un, .un, .un, .un, .un] := rfl
  rw [e]
  have hb : b__law_views_hold [.im (pzD n ts), .im (.lst (iD dr)), .un, .un, .un, .un, .un, .un, .un, .un, .un, .un, .un, .un, .un, .un, .un] = .rt (.bl true) := by
    unfold b__law_views_hold
    refine (sSeq_nx (ρ1 := [.im (pzD n ts), .im (.lst (iD dr)), .im (.int n), .un, .un, .un, .un, .un, .un, .un, .un, .un, .un, .un, .un, .un, .un]) (by simp [at20])).trans ?_
    refine (sSeq_nx (ρ1 := [.im (pzD n ts), .im (.lst (iD dr)), .im (.int n), .im (.lst (ms.map mvD)), .un, .un, .un, .un, .un, .un, .un, .un, .un, .un, .un, .un, .un]) (by simp [hsl, g20, dMod_ii (j := 20) (by decide), hc1, hm])).trans ?_
    refine (sSeq_nx (ρ1 := [.im (pzD n ts), .im (.lst (iD dr)), .im (.int n), .im (.lst (ms.map mvD)), .im (.int s1), .un, .un, .un, .un, .un, .un, .un, .un, .un, .un, .un, .un]) (by simp [g25, dMod_ii (j := 6) (by decide), q1])).trans ?_
    refine (sSeq_nx ((sFor_ok (l := [.int s1, .int s2]) (by simp [g26, dMod_ii (j := 60) (by decide), hs2])).trans hl)).trans ?_
    simp
  rw [hb]
theorem law_ok (s : List Int) (hs : s.length ≤ 63) : F_law [.scr s] = .ok (.bl true) := by
  obtain ⟨d0, h0, l0, p0⟩ := draws_ok s hs 0 80 (by omega)
  obtain ⟨d1, h1, l1, p1⟩ := draws_ok s hs 1 60 (by omega)
  replace h0 : F__law_draws [.scr s, .int 0, .int 80] = .ok (.lst (iD d0)) := h0
  replace h1 : F__law_draws [.scr s, .int 1, .int 60] = .ok (.lst (iD d1)) := h1
  obtain ⟨n, ts, hp, P⟩ := puzzle_ok d0 (by omega) fun z hz => (p0 z hz).1
  have hsl : dSl (.lst (iD d0)) (some 20) none = .ok (.lst (iD (d0.drop 20))) := by
    have := cut1 (l := iD d0) (k := 20) (by rw [iD_len]; omega)
    rw [iD_drop] at this
    exact this
  have hc := checks_ok P (dr := d0.drop 20) (by rw [List.length_drop]; omega) fun z hz => (p0 z (List.mem_of_mem_drop hz)).1
  have hv := views_ok P (dr := d1) (by omega) fun z hz => (p1 z hz).1
  simp [F_law, runF, b_law, h0, hp, hsl, hc, h1, hv]
end
end K53

/-! the end of k53, printed by gen.py -/
namespace K53
open PySem PySem.Spec PyProof.Rows L2 DL
def spLaw (K : PySem.W.Frag) : Sp := fun vs H Q _ => ∃ (a : Addr) (ns : List Int), vs = [.ref a] ∧ SqL K H a (ns.map V.int) ∧ ns.length ≤ 63 ∧ ∀ H', Q (.bl true) H'
theorem law_sp {P : Program} {w : World} {K : PySem.W.Frag} {mg : Str → Option Value} {base : Heap} {a : Ad} (T : Tb K mg a) : FnOk P w K mg base (L2.CX P w) 7 a.f_law a.d_law ["script"] (spLaw K) :=
  (ok_law T).imp fun vs H Q E ⟨p, ns, ev, hs, hl, q⟩ => ⟨H, [.scr ns], by rw [ev]; rfl, Same.refl H, by rw [ev]; exact .cons (.scr hs (by omega)) .nil, by
    rw [law_ok ns hl]
    intro v Z' H' e g
    cases g
    exact q H'⟩
theorem no_cx {P : Program} {w : World} {H : Hp} {s s' : Shared} {e : Value} (h : L2.CX P w [] H s (fun _ _ _ => False) e s') : False := by
  obtain ⟨_, _, _, _, _, _, _, _, _, _, _, _, z⟩ := h
  exact z
theorem kit_pair {K : PySem.W.Frag} {D C : Addr} {b : Bool} (h1 : PySem.W.hasDictIn K C = true) (h2 : PySem.W.typeIn K (.ref C) = some (.type "type")) (h3 : PySem.W.subIn K (.ref D) (.ref C) = some b) (h4 : b = false → (Value.ref D == Value.ref C) = false) : PySem.W.kitOne K (.ref D) (.ref C) = some b := by
  unfold PySem.W.kitOne
  split
  · rename_i he
    cases b with
    | true => rfl
    | false => rw [h4 rfl] at he; cases he
  · have h5 : (PySem.W.clsIn K C).isSome = true := by
      unfold PySem.W.hasDictIn at h1
      cases q : PySem.W.clsIn K C with
      | none => rw [q] at h1; cases h1
      | some _ => rfl
    unfold PySem.W.kitCls
    simp only [h5, h2, Bool.true_and, beq_self_eq_true, if_true]
    exact h3
section
theorem all_mk {l : PySem.W.OpenLaw} {w : World} {K : PySem.W.Frag} {h : Heap} {mg : Str → Option Value} {fa : Addr}
    {f0 : Addr} {od0 an0 : Option Addr} {sl0 : Array (Option Value)} {oc0 kV0 dc0 pm0 cd0 ct0 : Value}
    {f1 : Addr} {od1 an1 : Option Addr} {sl1 : Array (Option Value)} {oc1 kV1 dc1 pm1 cd1 ct1 : Value}
    {f2 : Addr} {od2 an2 : Option Addr} {sl2 : Array (Option Value)} {oc2 kV2 dc2 pm2 cd2 ct2 : Value}
    {f3 : Addr} {od3 an3 : Option Addr} {sl3 : Array (Option Value)} {oc3 kV3 dc3 pm3 cd3 ct3 : Value}
    {f4 : Addr} {od4 an4 : Option Addr} {sl4 : Array (Option Value)} {oc4 kV4 dc4 pm4 cd4 ct4 : Value}
    {f5 : Addr} {od5 an5 : Option Addr} {sl5 : Array (Option Value)} {oc5 kV5 dc5 pm5 cd5 ct5 : Value}
    {f6 : Addr} {od6 an6 : Option Addr} {sl6 : Array (Option Value)} {oc6 kV6 dc6 pm6 cd6 ct6 : Value}
    {f7 : Addr} {od7 an7 : Option Addr} {sl7 : Array (Option Value)} {oc7 kV7 dc7 pm7 cd7 ct7 : Value}
    {f8 : Addr} {od8 an8 : Option Addr} {sl8 : Array (Option Value)} {oc8 kV8 dc8 pm8 cd8 ct8 : Value}
    {f9 : Addr} {od9 an9 : Option Addr} {sl9 : Array (Option Value)} {oc9 kV9 dc9 pm9 cd9 ct9 : Value}
    {f10 : Addr} {od10 an10 : Option Addr} {sl10 : Array (Option Value)} {oc10 kV10 dc10 pm10 cd10 ct10 : Value}
    {f11 : Addr} {od11 an11 : Option Addr} {sl11 : Array (Option Value)} {oc11 kV11 dc11 pm11 cd11 ct11 : Value}
    {f12 : Addr} {od12 an12 : Option Addr} {sl12 : Array (Option Value)} {oc12 kV12 dc12 pm12 cd12 ct12 : Value}
    {f13 : Addr} {od13 an13 : Option Addr} {sl13 : Array (Option Value)} {oc13 kV13 dc13 pm13 cd13 ct13 : Value}
    {f14 : Addr} {od14 an14 : Option Addr} {sl14 : Array (Option Value)} {oc14 kV14 dc14 pm14 cd14 ct14 : Value}
    {f15 : Addr} {od15 an15 : Option Addr} {sl15 : Array (Option Value)} {oc15 kV15 dc15 pm15 cd15 ct15 : Value}
    {f16 : Addr} {od16 an16 : Option Addr} {sl16 : Array (Option Value)} {oc16 kV16 dc16 pm16 cd16 ct16 : Value}
    {f17 : Addr} {od17 an17 : Option Addr} {sl17 : Array (Option Value)} {oc17 kV17 dc17 pm17 cd17 ct17 : Value}
    {f18 : Addr} {od18 an18 : Option Addr} {sl18 : Array (Option Value)} {oc18 kV18 dc18 pm18 cd18 ct18 : Value}
    {f19 : Addr} {od19 an19 : Option Addr} {sl19 : Array (Option Value)} {oc19 kV19 dc19 pm19 cd19 ct19 : Value}
    {f20 : Addr} {od20 an20 : Option Addr} {sl20 : Array (Option Value)} {oc20 kV20 dc20 pm20 cd20 ct20 : Value}
    {f21 : Addr} {od21 an21 : Option Addr} {sl21 : Array (Option Value)} {oc21 kV21 dc21 pm21 cd21 ct21 : Value}
    {f22 : Addr} {od22 an22 : Option Addr} {sl22 : Array (Option Value)} {oc22 kV22 dc22 pm22 cd22 ct22 : Value}
    {f23 : Addr} {od23 an23 : Option Addr} {sl23 : Array (Option Value)} {oc23 kV23 dc23 pm23 cd23 ct23 : Value}
    {f24 : Addr} {od24 an24 : Option Addr} {sl24 : Array (Option Value)} {oc24 kV24 dc24 pm24 cd24 ct24 : Value}
    {f25 : Addr} {od25 an25 : Option Addr} {sl25 : Array (Option Value)} {oc25 kV25 dc25 pm25 cd25 ct25 : Value}
    {f26 : Addr} {od26 an26 : Option Addr} {sl26 : Array (Option Value)} {oc26 kV26 dc26 pm26 cd26 ct26 : Value}
    {t_MOST_MOVES : Tok}
    {t_MOST_TIMES : Tok}
    {C_PuzzleError : Addr}
    {C_InvalidRow : Addr}
    {C_WrongCount : Addr}
    {C_InvalidMove : Addr} (X : K.In h) (G : h.Ns mainGlobals mg) (hfa : mg "law" = some (.ref fa))
    (a0 : PySem.W.nsIn K mainGlobals "_law_numbers" = some (some (.ref f0))) (l0 : K.lookup f0 = some ⟨oc0, od0, .func (PySem.W.fnOf "_law_numbers" "_law_numbers" (defArgs s__law_numbers) (defBody s__law_numbers) (defScope s__law_numbers) .none kV0 dc0 pm0 an0 cd0 ct0), sl0⟩) (c0 : PySem.W.codeIn K cd0 "_law_numbers" = true) (k0 : PySem.W.keepIn K (.ref f0) = true)
    (a1 : PySem.W.nsIn K mainGlobals "_law_cell" = some (some (.ref f1))) (l1 : K.lookup f1 = some ⟨oc1, od1, .func (PySem.W.fnOf "_law_cell" "_law_cell" (defArgs s__law_cell) (defBody s__law_cell) (defScope s__law_cell) .none kV1 dc1 pm1 an1 cd1 ct1), sl1⟩) (c1 : PySem.W.codeIn K cd1 "_law_cell" = true) (k1 : PySem.W.keepIn K (.ref f1) = true)
    (a2 : PySem.W.nsIn K mainGlobals "_law_draws" = some (some (.ref f2))) (l2 : K.lookup f2 = some ⟨oc2, od2, .func (PySem.W.fnOf "_law_draws" "_law_draws" (defArgs s__law_draws) (defBody s__law_draws) (defScope s__law_draws) .none kV2 dc2 pm2 an2 cd2 ct2), sl2⟩) (c2 : PySem.W.codeIn K cd2 "_law_draws" = true) (k2 : PySem.W.keepIn K (.ref f2) = true)
    (a3 : PySem.W.nsIn K mainGlobals "_law_shift" = some (some (.ref f3))) (l3 : K.lookup f3 = some ⟨oc3, od3, .func (PySem.W.fnOf "_law_shift" "_law_shift" (defArgs s__law_shift) (defBody s__law_shift) (defScope s__law_shift) .none kV3 dc3 pm3 an3 cd3 ct3), sl3⟩) (c3 : PySem.W.codeIn K cd3 "_law_shift" = true) (k3 : PySem.W.keepIn K (.ref f3) = true)
    (a4 : PySem.W.nsIn K mainGlobals "_law_puzzle" = some (some (.ref f4))) (l4 : K.lookup f4 = some ⟨oc4, od4, .func (PySem.W.fnOf "_law_puzzle" "_law_puzzle" (defArgs s__law_puzzle) (defBody s__law_puzzle) (defScope s__law_puzzle) .none kV4 dc4 pm4 an4 cd4 ct4), sl4⟩) (c4 : PySem.W.codeIn K cd4 "_law_puzzle" = true) (k4 : PySem.W.keepIn K (.ref f4) = true)
    (a5 : PySem.W.nsIn K mainGlobals "_law_all_moves" = some (some (.ref f5))) (l5 : K.lookup f5 = some ⟨oc5, od5, .func (PySem.W.fnOf "_law_all_moves" "_law_all_moves" (defArgs s__law_all_moves) (defBody s__law_all_moves) (defScope s__law_all_moves) .none kV5 dc5 pm5 an5 cd5 ct5), sl5⟩) (c5 : PySem.W.codeIn K cd5 "_law_all_moves" = true) (k5 : PySem.W.keepIn K (.ref f5) = true)
    (a6 : PySem.W.nsIn K mainGlobals "_law_none" = some (some (.ref f6))) (l6 : K.lookup f6 = some ⟨oc6, od6, .func (PySem.W.fnOf "_law_none" "_law_none" (defArgs s__law_none) (defBody s__law_none) (defScope s__law_none) .none kV6 dc6 pm6 an6 cd6 ct6), sl6⟩) (c6 : PySem.W.codeIn K cd6 "_law_none" = true) (k6 : PySem.W.keepIn K (.ref f6) = true)
    (a7 : PySem.W.nsIn K mainGlobals "names_of" = some (some (.ref f7))) (l7 : K.lookup f7 = some ⟨oc7, od7, .func (PySem.W.fnOf "names_of" "names_of" (defArgs s_names_of) (defBody s_names_of) (defScope s_names_of) .none kV7 dc7 pm7 an7 cd7 ct7), sl7⟩) (c7 : PySem.W.codeIn K cd7 "names_of" = true) (k7 : PySem.W.keepIn K (.ref f7) = true)
    (a8 : PySem.W.nsIn K mainGlobals "is_whole" = some (some (.ref f8))) (l8 : K.lookup f8 = some ⟨oc8, od8, .func (PySem.W.fnOf "is_whole" "is_whole" (defArgs s_is_whole) (defBody s_is_whole) (defScope s_is_whole) .none kV8 dc8 pm8 an8 cd8 ct8), sl8⟩) (c8 : PySem.W.codeIn K cd8 "is_whole" = true) (k8 : PySem.W.keepIn K (.ref f8) = true)
    (a9 : PySem.W.nsIn K mainGlobals "is_row_item" = some (some (.ref f9))) (l9 : K.lookup f9 = some ⟨oc9, od9, .func (PySem.W.fnOf "is_row_item" "is_row_item" (defArgs s_is_row_item) (defBody s_is_row_item) (defScope s_is_row_item) .none kV9 dc9 pm9 an9 cd9 ct9), sl9⟩) (c9 : PySem.W.codeIn K cd9 "is_row_item" = true) (k9 : PySem.W.keepIn K (.ref f9) = true)
    (a10 : PySem.W.nsIn K mainGlobals "check_moves" = some (some (.ref f10))) (l10 : K.lookup f10 = some ⟨oc10, od10, .func (PySem.W.fnOf "check_moves" "check_moves" (defArgs s_check_moves) (defBody s_check_moves) (defScope s_check_moves) .none kV10 dc10 pm10 an10 cd10 ct10), sl10⟩) (c10 : PySem.W.codeIn K cd10 "check_moves" = true) (k10 : PySem.W.keepIn K (.ref f10) = true)
    (a11 : PySem.W.nsIn K mainGlobals "_law_checked" = some (some (.ref f11))) (l11 : K.lookup f11 = some ⟨oc11, od11, .func (PySem.W.fnOf "_law_checked" "_law_checked" (defArgs s__law_checked) (defBody s__law_checked) (defScope s__law_checked) .none kV11 dc11 pm11 an11 cd11 ct11), sl11⟩) (c11 : PySem.W.codeIn K cd11 "_law_checked" = true) (k11 : PySem.W.keepIn K (.ref f11) = true)
    (a12 : PySem.W.nsIn K mainGlobals "_law_checks_hold" = some (some (.ref f12))) (l12 : K.lookup f12 = some ⟨oc12, od12, .func (PySem.W.fnOf "_law_checks_hold" "_law_checks_hold" (defArgs s__law_checks_hold) (defBody s__law_checks_hold) (defScope s__law_checks_hold) .none kV12 dc12 pm12 an12 cd12 ct12), sl12⟩) (c12 : PySem.W.codeIn K cd12 "_law_checks_hold" = true) (k12 : PySem.W.keepIn K (.ref f12) = true)
    (a13 : PySem.W.nsIn K mainGlobals "_law_same" = some (some (.ref f13))) (l13 : K.lookup f13 = some ⟨oc13, od13, .func (PySem.W.fnOf "_law_same" "_law_same" (defArgs s__law_same) (defBody s__law_same) (defScope s__law_same) .none kV13 dc13 pm13 an13 cd13 ct13), sl13⟩) (c13 : PySem.W.codeIn K cd13 "_law_same" = true) (k13 : PySem.W.keepIn K (.ref f13) = true)
    (a14 : PySem.W.nsIn K mainGlobals "unit" = some (some (.ref f14))) (l14 : K.lookup f14 = some ⟨oc14, od14, .func (PySem.W.fnOf "unit" "unit" (defArgs s_unit) (defBody s_unit) (defScope s_unit) .none kV14 dc14 pm14 an14 cd14 ct14), sl14⟩) (c14 : PySem.W.codeIn K cd14 "unit" = true) (k14 : PySem.W.keepIn K (.ref f14) = true)
    (a15 : PySem.W.nsIn K mainGlobals "product" = some (some (.ref f15))) (l15 : K.lookup f15 = some ⟨oc15, od15, .func (PySem.W.fnOf "product" "product" (defArgs s_product) (defBody s_product) (defScope s_product) .none kV15 dc15 pm15 an15 cd15 ct15), sl15⟩) (c15 : PySem.W.codeIn K cd15 "product" = true) (k15 : PySem.W.keepIn K (.ref f15) = true)
    (a16 : PySem.W.nsIn K mainGlobals "inverse" = some (some (.ref f16))) (l16 : K.lookup f16 = some ⟨oc16, od16, .func (PySem.W.fnOf "inverse" "inverse" (defArgs s_inverse) (defBody s_inverse) (defScope s_inverse) .none kV16 dc16 pm16 an16 cd16 ct16), sl16⟩) (c16 : PySem.W.codeIn K cd16 "inverse" = true) (k16 : PySem.W.keepIn K (.ref f16) = true)
    (a17 : PySem.W.nsIn K mainGlobals "power" = some (some (.ref f17))) (l17 : K.lookup f17 = some ⟨oc17, od17, .func (PySem.W.fnOf "power" "power" (defArgs s_power) (defBody s_power) (defScope s_power) .none kV17 dc17 pm17 an17 cd17 ct17), sl17⟩) (c17 : PySem.W.codeIn K cd17 "power" = true) (k17 : PySem.W.keepIn K (.ref f17) = true)
    (a18 : PySem.W.nsIn K mainGlobals "effect" = some (some (.ref f18))) (l18 : K.lookup f18 = some ⟨oc18, od18, .func (PySem.W.fnOf "effect" "effect" (defArgs s_effect) (defBody s_effect) (defScope s_effect) .none kV18 dc18 pm18 an18 cd18 ct18), sl18⟩) (c18 : PySem.W.codeIn K cd18 "effect" = true) (k18 : PySem.W.keepIn K (.ref f18) = true)
    (a19 : PySem.W.nsIn K mainGlobals "_law_then" = some (some (.ref f19))) (l19 : K.lookup f19 = some ⟨oc19, od19, .func (PySem.W.fnOf "_law_then" "_law_then" (defArgs s__law_then) (defBody s__law_then) (defScope s__law_then) .none kV19 dc19 pm19 an19 cd19 ct19), sl19⟩) (c19 : PySem.W.codeIn K cd19 "_law_then" = true) (k19 : PySem.W.keepIn K (.ref f19) = true)
    (a20 : PySem.W.nsIn K mainGlobals "_law_back" = some (some (.ref f20))) (l20 : K.lookup f20 = some ⟨oc20, od20, .func (PySem.W.fnOf "_law_back" "_law_back" (defArgs s__law_back) (defBody s__law_back) (defScope s__law_back) .none kV20 dc20 pm20 an20 cd20 ct20), sl20⟩) (c20 : PySem.W.codeIn K cd20 "_law_back" = true) (k20 : PySem.W.keepIn K (.ref f20) = true)
    (a21 : PySem.W.nsIn K mainGlobals "_law_times" = some (some (.ref f21))) (l21 : K.lookup f21 = some ⟨oc21, od21, .func (PySem.W.fnOf "_law_times" "_law_times" (defArgs s__law_times) (defBody s__law_times) (defScope s__law_times) .none kV21 dc21 pm21 an21 cd21 ct21), sl21⟩) (c21 : PySem.W.codeIn K cd21 "_law_times" = true) (k21 : PySem.W.keepIn K (.ref f21) = true)
    (a22 : PySem.W.nsIn K mainGlobals "move_shifts" = some (some (.ref f22))) (l22 : K.lookup f22 = some ⟨oc22, od22, .func (PySem.W.fnOf "move_shifts" "move_shifts" (defArgs s_move_shifts) (defBody s_move_shifts) (defScope s_move_shifts) .none kV22 dc22 pm22 an22 cd22 ct22), sl22⟩) (c22 : PySem.W.codeIn K cd22 "move_shifts" = true) (k22 : PySem.W.keepIn K (.ref f22) = true)
    (a23 : PySem.W.nsIn K mainGlobals "moved_view" = some (some (.ref f23))) (l23 : K.lookup f23 = some ⟨oc23, od23, .func (PySem.W.fnOf "moved_view" "moved_view" (defArgs s_moved_view) (defBody s_moved_view) (defScope s_moved_view) .none kV23 dc23 pm23 an23 cd23 ct23), sl23⟩) (c23 : PySem.W.codeIn K cd23 "moved_view" = true) (k23 : PySem.W.keepIn K (.ref f23) = true)
    (a24 : PySem.W.nsIn K mainGlobals "view_after" = some (some (.ref f24))) (l24 : K.lookup f24 = some ⟨oc24, od24, .func (PySem.W.fnOf "view_after" "view_after" (defArgs s_view_after) (defBody s_view_after) (defScope s_view_after) .none kV24 dc24 pm24 an24 cd24 ct24), sl24⟩) (c24 : PySem.W.codeIn K cd24 "view_after" = true) (k24 : PySem.W.keepIn K (.ref f24) = true)
    (a25 : PySem.W.nsIn K mainGlobals "_law_views_hold" = some (some (.ref f25))) (l25 : K.lookup f25 = some ⟨oc25, od25, .func (PySem.W.fnOf "_law_views_hold" "_law_views_hold" (defArgs s__law_views_hold) (defBody s__law_views_hold) (defScope s__law_views_hold) .none kV25 dc25 pm25 an25 cd25 ct25), sl25⟩) (c25 : PySem.W.codeIn K cd25 "_law_views_hold" = true) (k25 : PySem.W.keepIn K (.ref f25) = true)
    (a26 : PySem.W.nsIn K mainGlobals "law" = some (some (.ref f26))) (l26 : K.lookup f26 = some ⟨oc26, od26, .func (PySem.W.fnOf "law" "law" (defArgs s_law) (defBody s_law) (defScope s_law) .none kV26 dc26 pm26 an26 cd26 ct26), sl26⟩) (c26 : PySem.W.codeIn K cd26 "law" = true) (k26 : PySem.W.keepIn K (.ref f26) = true)
    (z_abs : PySem.W.nsIn K mainGlobals "abs" = some none)
    (z_bool : PySem.W.nsIn K mainGlobals "bool" = some none)
    (z_enumerate : PySem.W.nsIn K mainGlobals "enumerate" = some none)
    (z_int : PySem.W.nsIn K mainGlobals "int" = some none)
    (z_isinstance : PySem.W.nsIn K mainGlobals "isinstance" = some none)
    (z_len : PySem.W.nsIn K mainGlobals "len" = some none)
    (z_list : PySem.W.nsIn K mainGlobals "list" = some none)
    (z_range : PySem.W.nsIn K mainGlobals "range" = some none)
    (z_sorted : PySem.W.nsIn K mainGlobals "sorted" = some none)
    (z_str : PySem.W.nsIn K mainGlobals "str" = some none)
    (z_tuple : PySem.W.nsIn K mainGlobals "tuple" = some none)
    (n_MOST_MOVES : PySem.W.nsIn K mainGlobals "MOST_MOVES" = some (some (.int 20 t_MOST_MOVES)))
    (n_MOST_TIMES : PySem.W.nsIn K mainGlobals "MOST_TIMES" = some (some (.int 20 t_MOST_TIMES)))
    (aC_PuzzleError : PySem.W.nsIn K mainGlobals "PuzzleError" = some (some (.ref C_PuzzleError))) (kC_PuzzleError : PySem.W.keepIn K (.ref C_PuzzleError) = true) (bC_PuzzleError : PySem.W.subIn K (.ref C_PuzzleError) (.type "BaseException") = some true) (tC_PuzzleError : PySem.W.typeIn K (.ref C_PuzzleError) = some (.type "type")) (xC_PuzzleError : PySem.W.excIn K C_PuzzleError [.type "ValueError", .type "Exception", .type "BaseException", .type "object"] "ValueError.__new__" = true)
    (aC_InvalidRow : PySem.W.nsIn K mainGlobals "InvalidRow" = some (some (.ref C_InvalidRow))) (kC_InvalidRow : PySem.W.keepIn K (.ref C_InvalidRow) = true) (bC_InvalidRow : PySem.W.subIn K (.ref C_InvalidRow) (.type "BaseException") = some true) (tC_InvalidRow : PySem.W.typeIn K (.ref C_InvalidRow) = some (.type "type")) (xC_InvalidRow : PySem.W.excIn K C_InvalidRow [.type "ValueError", .type "Exception", .type "BaseException", .type "object"] "ValueError.__new__" = true)
    (aC_WrongCount : PySem.W.nsIn K mainGlobals "WrongCount" = some (some (.ref C_WrongCount))) (kC_WrongCount : PySem.W.keepIn K (.ref C_WrongCount) = true) (bC_WrongCount : PySem.W.subIn K (.ref C_WrongCount) (.type "BaseException") = some true) (tC_WrongCount : PySem.W.typeIn K (.ref C_WrongCount) = some (.type "type")) (xC_WrongCount : PySem.W.excIn K C_WrongCount [.type "ValueError", .type "Exception", .type "BaseException", .type "object"] "ValueError.__new__" = true)
    (aC_InvalidMove : PySem.W.nsIn K mainGlobals "InvalidMove" = some (some (.ref C_InvalidMove))) (kC_InvalidMove : PySem.W.keepIn K (.ref C_InvalidMove) = true) (bC_InvalidMove : PySem.W.subIn K (.ref C_InvalidMove) (.type "BaseException") = some true) (tC_InvalidMove : PySem.W.typeIn K (.ref C_InvalidMove) = some (.type "type")) (xC_InvalidMove : PySem.W.excIn K C_InvalidMove [.type "ValueError", .type "Exception", .type "BaseException", .type "object"] "ValueError.__new__" = true)
    (d_PuzzleError : PySem.W.hasDictIn K C_PuzzleError = true)
    (d_InvalidRow : PySem.W.hasDictIn K C_InvalidRow = true)
    (d_WrongCount : PySem.W.hasDictIn K C_WrongCount = true)
    (d_InvalidMove : PySem.W.hasDictIn K C_InvalidMove = true)
    (m0 : PySem.W.subIn K (.ref C_InvalidMove) (.ref C_InvalidMove) = some true)
    (m1 : PySem.W.subIn K (.ref C_InvalidMove) (.ref C_PuzzleError) = some true)
    (m2 : PySem.W.subIn K (.ref C_InvalidMove) (.ref C_InvalidRow) = some false)
    (w2 : (Value.ref C_InvalidMove == Value.ref C_InvalidRow) = false)
    (m3 : PySem.W.subIn K (.ref C_WrongCount) (.ref C_InvalidMove) = some false)
    (w3 : (Value.ref C_WrongCount == Value.ref C_InvalidMove) = false)
    (m4 : PySem.W.subIn K (.ref C_WrongCount) (.ref C_WrongCount) = some true)
    (m5 : PySem.W.subIn K (.ref C_WrongCount) (.ref C_PuzzleError) = some true)
    (e0_WrongCount : PySem.W.findIn K (.ref C_WrongCount) "__getattribute__" = some (some (.builtin "BaseException.__getattribute__"))) (e1_WrongCount : PySem.W.findIn K (.ref C_WrongCount) "__getattr__" = some none) (e3_WrongCount : PySem.W.findIn K (.ref C_WrongCount) "__class__" = some (some (.builtin "object.__class__"))) (e4_WrongCount : PySem.W.mroIn K C_WrongCount (.type "object") = some true)
    (e0_InvalidMove : PySem.W.findIn K (.ref C_InvalidMove) "__getattribute__" = some (some (.builtin "BaseException.__getattribute__"))) (e1_InvalidMove : PySem.W.findIn K (.ref C_InvalidMove) "__getattr__" = some none) (e3_InvalidMove : PySem.W.findIn K (.ref C_InvalidMove) "__class__" = some (some (.builtin "object.__class__"))) (e4_InvalidMove : PySem.W.mroIn K C_InvalidMove (.type "object") = some true)
    (y0 : PySem.W.specialIn K (.builtin "object.__class__") "__get__" = some (some (.builtin "getset_descriptor.__get__"))) (y1 : PySem.W.takesIn K (.builtin "object.__class__") = some true) :
    ∃ fd : FuncData, (∀ (s : Shared) (v : Value), BindsTo s fd ⟨[v], []⟩ [("script", v)]) ∧ ∀ base : Heap, K.In base → base.Ns mainGlobals mg → FnOk l.prog w K mg base (L2.CX l.prog w) 7 fa fd ["script"] (spLaw K) := by
  have e := hfa.symm.trans (PySem.W.mg_of X G a26)
  cases e
  let a : Ad := { f__law_numbers := f0, d__law_numbers := (PySem.W.fnOf "_law_numbers" "_law_numbers" (defArgs s__law_numbers) (defBody s__law_numbers) (defScope s__law_numbers) .none kV0 dc0 pm0 an0 cd0 ct0), f__law_cell := f1, d__law_cell := (PySem.W.fnOf "_law_cell" "_law_cell" (defArgs s__law_cell) (defBody s__law_cell) (defScope s__law_cell) .none kV1 dc1 pm1 an1 cd1 ct1), f__law_draws := f2, d__law_draws := (PySem.W.fnOf "_law_draws" "_law_draws" (defArgs s__law_draws) (defBody s__law_draws) (defScope s__law_draws) .none kV2 dc2 pm2 an2 cd2 ct2), f__law_shift := f3, d__law_shift := (PySem.W.fnOf "_law_shift" "_law_shift" (defArgs s__law_shift) (defBody s__law_shift) (defScope s__law_shift) .none kV3 dc3 pm3 an3 cd3 ct3), f__law_puzzle := f4, d__law_puzzle := (PySem.W.fnOf "_law_puzzle" "_law_puzzle" (defArgs s__law_puzzle) (defBody s__law_puzzle) (defScope s__law_puzzle) .none kV4 dc4 pm4 an4 cd4 ct4), f__law_all_moves := f5, d__law_all_moves := (PySem.W.fnOf "_law_all_moves" "_law_all_moves" (defArgs s__law_all_moves) (defBody s__law_all_moves) (defScope s__law_all_moves) .none kV5 dc5 pm5 an5 cd5 ct5), f__law_none := f6, d__law_none := (PySem.W.fnOf "_law_none" "_law_none" (defArgs s__law_none) (defBody s__law_none) (defScope s__law_none) .none kV6 dc6 pm6 an6 cd6 ct6), f_names_of := f7, d_names_of := (PySem.W.fnOf "names_of" "names_of" (defArgs s_names_of) (defBody s_names_of) (defScope s_names_of) .none kV7 dc7 pm7 an7 cd7 ct7), f_is_whole := f8, d_is_whole := (PySem.W.fnOf "is_whole" "is_whole" (defArgs s_is_whole) (defBody s_is_whole) (defScope s_is_whole) .none kV8 dc8 pm8 an8 cd8 ct8), f_is_row_item := f9, d_is_row_item := (PySem.W.fnOf "is_row_item" "is_row_item" (defArgs s_is_row_item) (defBody s_is_row_item) (defScope s_is_row_item) .none kV9 dc9 pm9 an9 cd9 ct9), f_check_moves := f10, d_check_moves := (PySem.W.fnOf "check_moves" "check_moves" (defArgs s_check_moves) (defBody s_check_moves) (defScope s_check_moves) .none kV10 dc10 pm10 an10 cd10 ct10), f__law_checked := f11, d__law_checked := (PySem.W.fnOf "_law_checked" "_law_checked" (defArgs s__law_checked) (defBody s__law_checked) (defScope s__law_checked) .none kV11 dc11 pm11 an11 cd11 ct11), f__law_checks_hold := f12, d__law_checks_hold := (PySem.W.fnOf "_law_checks_hold" "_law_checks_hold" (defArgs s__law_checks_hold) (defBody s__law_checks_hold) (defScope s__law_checks_hold) .none kV12 dc12 pm12 an12 cd12 ct12), f__law_same := f13, d__law_same := (PySem.W.fnOf "_law_same" "_law_same" (defArgs s__law_same) (defBody s__law_same) (defScope s__law_same) .none kV13 dc13 pm13 an13 cd13 ct13), f_unit := f14, d_unit := (PySem.W.fnOf "unit" "unit" (defArgs s_unit) (defBody s_unit) (defScope s_unit) .none kV14 dc14 pm14 an14 cd14 ct14), f_product := f15, d_product := (PySem.W.fnOf "product" "product" (defArgs s_product) (defBody s_product) (defScope s_product) .none kV15 dc15 pm15 an15 cd15 ct15), f_inverse := f16, d_inverse := (PySem.W.fnOf "inverse" "inverse" (defArgs s_inverse) (defBody s_inverse) (defScope s_inverse) .none kV16 dc16 pm16 an16 cd16 ct16), f_power := f17, d_power := (PySem.W.fnOf "power" "power" (defArgs s_power) (defBody s_power) (defScope s_power) .none kV17 dc17 pm17 an17 cd17 ct17), f_effect := f18, d_effect := (PySem.W.fnOf "effect" "effect" (defArgs s_effect) (defBody s_effect) (defScope s_effect) .none kV18 dc18 pm18 an18 cd18 ct18), f__law_then := f19, d__law_then := (PySem.W.fnOf "_law_then" "_law_then" (defArgs s__law_then) (defBody s__law_then) (defScope s__law_then) .none kV19 dc19 pm19 an19 cd19 ct19), f__law_back := f20, d__law_back := (PySem.W.fnOf "_law_back" "_law_back" (defArgs s__law_back) (defBody s__law_back) (defScope s__law_back) .none kV20 dc20 pm20 an20 cd20 ct20), f__law_times := f21, d__law_times := (PySem.W.fnOf "_law_times" "_law_times" (defArgs s__law_times) (defBody s__law_times) (defScope s__law_times) .none kV21 dc21 pm21 an21 cd21 ct21), f_move_shifts := f22, d_move_shifts := (PySem.W.fnOf "move_shifts" "move_shifts" (defArgs s_move_shifts) (defBody s_move_shifts) (defScope s_move_shifts) .none kV22 dc22 pm22 an22 cd22 ct22), f_moved_view := f23, d_moved_view := (PySem.W.fnOf "moved_view" "moved_view" (defArgs s_moved_view) (defBody s_moved_view) (defScope s_moved_view) .none kV23 dc23 pm23 an23 cd23 ct23), f_view_after := f24, d_view_after := (PySem.W.fnOf "view_after" "view_after" (defArgs s_view_after) (defBody s_view_after) (defScope s_view_after) .none kV24 dc24 pm24 an24 cd24 ct24), f__law_views_hold := f25, d__law_views_hold := (PySem.W.fnOf "_law_views_hold" "_law_views_hold" (defArgs s__law_views_hold) (defBody s__law_views_hold) (defScope s__law_views_hold) .none kV25 dc25 pm25 an25 cd25 ct25), f_law := fa, d_law := (PySem.W.fnOf "law" "law" (defArgs s_law) (defBody s_law) (defScope s_law) .none kV26 dc26 pm26 an26 cd26 ct26), c_PuzzleError := C_PuzzleError, c_InvalidRow := C_InvalidRow, c_WrongCount := C_WrongCount, c_InvalidMove := C_InvalidMove }
  have ext : ExT K (clA a) sbA := by
    refine ⟨fun e c b h => ?_, fun e c b h => ?_⟩
    · unfold sbA at h
      split at h <;> first
        | (cases h; first | exact ⟨PySem.W.exm_ref bC_InvalidMove d_InvalidMove tC_InvalidMove m0, kit_pair d_InvalidMove tC_InvalidMove m0 (fun z => nomatch z)⟩ | exact ⟨PySem.W.exm_ref bC_PuzzleError d_PuzzleError tC_PuzzleError m1, kit_pair d_PuzzleError tC_PuzzleError m1 (fun z => nomatch z)⟩ | exact ⟨PySem.W.exm_ref bC_InvalidRow d_InvalidRow tC_InvalidRow m2, kit_pair d_InvalidRow tC_InvalidRow m2 (fun _ => w2)⟩ | exact ⟨PySem.W.exm_ref bC_InvalidMove d_InvalidMove tC_InvalidMove m3, kit_pair d_InvalidMove tC_InvalidMove m3 (fun _ => w3)⟩ | exact ⟨PySem.W.exm_ref bC_WrongCount d_WrongCount tC_WrongCount m4, kit_pair d_WrongCount tC_WrongCount m4 (fun z => nomatch z)⟩ | exact ⟨PySem.W.exm_ref bC_PuzzleError d_PuzzleError tC_PuzzleError m5, kit_pair d_PuzzleError tC_PuzzleError m5 (fun z => nomatch z)⟩)
        | cases h
    · unfold sbA at h
      split at h <;> first
        | (cases h; first | exact ⟨C_WrongCount, rfl, ⟨e0_WrongCount, e1_WrongCount, bC_WrongCount, d_WrongCount, e3_WrongCount, y0, y1, e4_WrongCount⟩⟩ | exact ⟨C_InvalidMove, rfl, ⟨e0_InvalidMove, e1_InvalidMove, bC_InvalidMove, d_InvalidMove, e3_InvalidMove, y0, y1, e4_InvalidMove⟩⟩)
        | cases h
  have T : Tb K mg a := { F__law_numbers := fun_mk (st := s__law_numbers) l0 c0 k0, g__law_numbers := PySem.W.mg_of X G a0, k__law_numbers := k0, B__law_numbers := (fun_mk (st := s__law_numbers) l0 c0 k0).binds (ps := ["cell", "count", "limit"]) fun _ _ _ _ _ _ us hl => match us, hl with | [_, _, _], _ => rfl, F__law_cell := fun_mk (st := s__law_cell) l1 c1 k1, g__law_cell := PySem.W.mg_of X G a1, k__law_cell := k1, B__law_cell := (fun_mk (st := s__law_cell) l1 c1 k1).binds (ps := ["script", "k"]) fun _ _ _ _ _ _ us hl => match us, hl with | [_, _], _ => rfl, F__law_draws := fun_mk (st := s__law_draws) l2 c2 k2, g__law_draws := PySem.W.mg_of X G a2, k__law_draws := k2, B__law_draws := (fun_mk (st := s__law_draws) l2 c2 k2).binds (ps := ["script", "k", "count"]) fun _ _ _ _ _ _ us hl => match us, hl with | [_, _, _], _ => rfl, F__law_shift := fun_mk (st := s__law_shift) l3 c3 k3, g__law_shift := PySem.W.mg_of X G a3, k__law_shift := k3, B__law_shift := (fun_mk (st := s__law_shift) l3 c3 k3).binds (ps := ["draws", "at", "n"]) fun _ _ _ _ _ _ us hl => match us, hl with | [_, _, _], _ => rfl, F__law_puzzle := fun_mk (st := s__law_puzzle) l4 c4 k4, g__law_puzzle := PySem.W.mg_of X G a4, k__law_puzzle := k4, B__law_puzzle := (fun_mk (st := s__law_puzzle) l4 c4 k4).binds (ps := ["draws"]) fun _ _ _ _ _ _ us hl => match us, hl with | [_], _ => rfl, F__law_all_moves := fun_mk (st := s__law_all_moves) l5 c5 k5, g__law_all_moves := PySem.W.mg_of X G a5, k__law_all_moves := k5, B__law_all_moves := (fun_mk (st := s__law_all_moves) l5 c5 k5).binds (ps := ["puzzle", "draws", "count"]) fun _ _ _ _ _ _ us hl => match us, hl with | [_, _, _], _ => rfl, F__law_none := fun_mk (st := s__law_none) l6 c6 k6, g__law_none := PySem.W.mg_of X G a6, k__law_none := k6, B__law_none := (fun_mk (st := s__law_none) l6 c6 k6).binds (ps := ["puzzle", "move"]) fun _ _ _ _ _ _ us hl => match us, hl with | [_, _], _ => rfl, F_names_of := fun_mk (st := s_names_of) l7 c7 k7, g_names_of := PySem.W.mg_of X G a7, k_names_of := k7, B_names_of := (fun_mk (st := s_names_of) l7 c7 k7).binds (ps := ["puzzle"]) fun _ _ _ _ _ _ us hl => match us, hl with | [_], _ => rfl, F_is_whole := fun_mk (st := s_is_whole) l8 c8 k8, g_is_whole := PySem.W.mg_of X G a8, k_is_whole := k8, B_is_whole := (fun_mk (st := s_is_whole) l8 c8 k8).binds (ps := ["value"]) fun _ _ _ _ _ _ us hl => match us, hl with | [_], _ => rfl, F_is_row_item := fun_mk (st := s_is_row_item) l9 c9 k9, g_is_row_item := PySem.W.mg_of X G a9, k_is_row_item := k9, B_is_row_item := (fun_mk (st := s_is_row_item) l9 c9 k9).binds (ps := ["known", "item"]) fun _ _ _ _ _ _ us hl => match us, hl with | [_, _], _ => rfl, F_check_moves := fun_mk (st := s_check_moves) l10 c10 k10, g_check_moves := PySem.W.mg_of X G a10, k_check_moves := k10, B_check_moves := (fun_mk (st := s_check_moves) l10 c10 k10).binds (ps := ["puzzle", "moves"]) fun _ _ _ _ _ _ us hl => match us, hl with | [_, _], _ => rfl, F__law_checked := fun_mk (st := s__law_checked) l11 c11 k11, g__law_checked := PySem.W.mg_of X G a11, k__law_checked := k11, B__law_checked := (fun_mk (st := s__law_checked) l11 c11 k11).binds (ps := ["puzzle", "moves"]) fun _ _ _ _ _ _ us hl => match us, hl with | [_, _], _ => rfl, F__law_checks_hold := fun_mk (st := s__law_checks_hold) l12 c12 k12, g__law_checks_hold := PySem.W.mg_of X G a12, k__law_checks_hold := k12, B__law_checks_hold := (fun_mk (st := s__law_checks_hold) l12 c12 k12).binds (ps := ["puzzle", "draws"]) fun _ _ _ _ _ _ us hl => match us, hl with | [_, _], _ => rfl, F__law_same := fun_mk (st := s__law_same) l13 c13 k13, g__law_same := PySem.W.mg_of X G a13, k__law_same := k13, B__law_same := (fun_mk (st := s__law_same) l13 c13 k13).binds (ps := ["told", "due"]) fun _ _ _ _ _ _ us hl => match us, hl with | [_, _], _ => rfl, F_unit := fun_mk (st := s_unit) l14 c14 k14, g_unit := PySem.W.mg_of X G a14, k_unit := k14, B_unit := (fun_mk (st := s_unit) l14 c14 k14).binds (ps := ["n"]) fun _ _ _ _ _ _ us hl => match us, hl with | [_], _ => rfl, F_product := fun_mk (st := s_product) l15 c15 k15, g_product := PySem.W.mg_of X G a15, k_product := k15, B_product := (fun_mk (st := s_product) l15 c15 k15).binds (ps := ["one", "other"]) fun _ _ _ _ _ _ us hl => match us, hl with | [_, _], _ => rfl, F_inverse := fun_mk (st := s_inverse) l16 c16 k16, g_inverse := PySem.W.mg_of X G a16, k_inverse := k16, B_inverse := (fun_mk (st := s_inverse) l16 c16 k16).binds (ps := ["shift"]) fun _ _ _ _ _ _ us hl => match us, hl with | [_], _ => rfl, F_power := fun_mk (st := s_power) l17 c17 k17, g_power := PySem.W.mg_of X G a17, k_power := k17, B_power := (fun_mk (st := s_power) l17 c17 k17).binds (ps := ["shift", "times"]) fun _ _ _ _ _ _ us hl => match us, hl with | [_, _], _ => rfl, F_effect := fun_mk (st := s_effect) l18 c18 k18, g_effect := PySem.W.mg_of X G a18, k_effect := k18, B_effect := (fun_mk (st := s_effect) l18 c18 k18).binds (ps := ["puzzle", "row"]) fun _ _ _ _ _ _ us hl => match us, hl with | [_, _], _ => rfl, F__law_then := fun_mk (st := s__law_then) l19 c19 k19, g__law_then := PySem.W.mg_of X G a19, k__law_then := k19, B__law_then := (fun_mk (st := s__law_then) l19 c19 k19).binds (ps := ["one", "other"]) fun _ _ _ _ _ _ us hl => match us, hl with | [_, _], _ => rfl, F__law_back := fun_mk (st := s__law_back) l20 c20 k20, g__law_back := PySem.W.mg_of X G a20, k__law_back := k20, B__law_back := (fun_mk (st := s__law_back) l20 c20 k20).binds (ps := ["shift"]) fun _ _ _ _ _ _ us hl => match us, hl with | [_], _ => rfl, F__law_times := fun_mk (st := s__law_times) l21 c21 k21, g__law_times := PySem.W.mg_of X G a21, k__law_times := k21, B__law_times := (fun_mk (st := s__law_times) l21 c21 k21).binds (ps := ["shift", "times"]) fun _ _ _ _ _ _ us hl => match us, hl with | [_, _], _ => rfl, F_move_shifts := fun_mk (st := s_move_shifts) l22 c22 k22, g_move_shifts := PySem.W.mg_of X G a22, k_move_shifts := k22, B_move_shifts := (fun_mk (st := s_move_shifts) l22 c22 k22).binds (ps := ["puzzle", "moves"]) fun _ _ _ _ _ _ us hl => match us, hl with | [_, _], _ => rfl, F_moved_view := fun_mk (st := s_moved_view) l23 c23 k23, g_moved_view := PySem.W.mg_of X G a23, k_moved_view := k23, B_moved_view := (fun_mk (st := s_moved_view) l23 c23 k23).binds (ps := ["shift", "view"]) fun _ _ _ _ _ _ us hl => match us, hl with | [_, _], _ => rfl, F_view_after := fun_mk (st := s_view_after) l24 c24 k24, g_view_after := PySem.W.mg_of X G a24, k_view_after := k24, B_view_after := (fun_mk (st := s_view_after) l24 c24 k24).binds (ps := ["puzzle", "found", "view"]) fun _ _ _ _ _ _ us hl => match us, hl with | [_, _, _], _ => rfl, F__law_views_hold := fun_mk (st := s__law_views_hold) l25 c25 k25, g__law_views_hold := PySem.W.mg_of X G a25, k__law_views_hold := k25, B__law_views_hold := (fun_mk (st := s__law_views_hold) l25 c25 k25).binds (ps := ["puzzle", "draws"]) fun _ _ _ _ _ _ us hl => match us, hl with | [_, _], _ => rfl, F_law := fun_mk (st := s_law) l26 c26 k26, g_law := PySem.W.mg_of X G a26, k_law := k26, B_law := (fun_mk (st := s_law) l26 c26 k26).binds (ps := ["script"]) fun _ _ _ _ _ _ us hl => match us, hl with | [_], _ => rfl, z_abs := PySem.W.mg_none_of X G z_abs, z_bool := PySem.W.mg_none_of X G z_bool, z_enumerate := PySem.W.mg_none_of X G z_enumerate, z_int := PySem.W.mg_none_of X G z_int, z_isinstance := PySem.W.mg_none_of X G z_isinstance, z_len := PySem.W.mg_none_of X G z_len, z_list := PySem.W.mg_none_of X G z_list, z_range := PySem.W.mg_none_of X G z_range, z_sorted := PySem.W.mg_none_of X G z_sorted, z_str := PySem.W.mg_none_of X G z_str, z_tuple := PySem.W.mg_none_of X G z_tuple, n_MOST_MOVES := ⟨_, PySem.W.mg_of X G n_MOST_MOVES⟩, n_MOST_TIMES := ⟨_, PySem.W.mg_of X G n_MOST_TIMES⟩, g_PuzzleError := PySem.W.mg_of X G aC_PuzzleError, k_PuzzleError := kC_PuzzleError, b_PuzzleError := bC_PuzzleError, t_PuzzleError := tC_PuzzleError, x_PuzzleError := xC_PuzzleError, g_InvalidRow := PySem.W.mg_of X G aC_InvalidRow, k_InvalidRow := kC_InvalidRow, b_InvalidRow := bC_InvalidRow, t_InvalidRow := tC_InvalidRow, x_InvalidRow := xC_InvalidRow, g_WrongCount := PySem.W.mg_of X G aC_WrongCount, k_WrongCount := kC_WrongCount, b_WrongCount := bC_WrongCount, t_WrongCount := tC_WrongCount, x_WrongCount := xC_WrongCount, g_InvalidMove := PySem.W.mg_of X G aC_InvalidMove, k_InvalidMove := kC_InvalidMove, b_InvalidMove := bC_InvalidMove, t_InvalidMove := tC_InvalidMove, x_InvalidMove := xC_InvalidMove, ext := ext }
  exact ⟨_, fun s v => .of_eq rfl, fun base _ _ => law_sp T⟩
end
end K53
open PySem PySem.W PyProof.Rows
set_option maxHeartbeats 0 in
theorem PySem.Challenge.cw_piecesturned_k53_moves_checked_and_views_holds : PySem.Challenge.rw_piecesturned_k53_moves_checked_and_views.Holds := by
  w_on; o_law; k_head; (case hw => w_witness2)
  k_fill
  refine L2.walk_of (l := PySem.Challenge.rw_piecesturned_k53_moves_checked_and_views) (n := 63) (k := 7) (x := "script") (CX := fun w => L2.CX PySem.Challenge.rw_piecesturned_k53_moves_checked_and_views.prog w) (sp := fun w => K53.spLaw _) rfl (by decide) rfl ⟨rfl, by decide, by decide⟩ (fun w h Y => PySem.W.kIn_of Y) ?F (fun _ _ a ns hl _ hS => ⟨a, ns, rfl, hS, hl, fun _ => rfl⟩) (fun _ _ _ _ _ z => K53.no_cx z)
  case F =>
    intro w mg fa h KX G hmg
    refine' K53.all_mk KX G hmg ?a0 ?l0 ?c0 ?k0 ?a1 ?l1 ?c1 ?k1 ?a2 ?l2 ?c2 ?k2 ?a3 ?l3 ?c3 ?k3 ?a4 ?l4 ?c4 ?k4 ?a5 ?l5 ?c5 ?k5 ?a6 ?l6 ?c6 ?k6 ?a7 ?l7 ?c7 ?k7 ?a8 ?l8 ?c8 ?k8 ?a9 ?l9 ?c9 ?k9 ?a10 ?l10 ?c10 ?k10 ?a11 ?l11 ?c11 ?k11 ?a12 ?l12 ?c12 ?k12 ?a13 ?l13 ?c13 ?k13 ?a14 ?l14 ?c14 ?k14 ?a15 ?l15 ?c15 ?k15 ?a16 ?l16 ?c16 ?k16 ?a17 ?l17 ?c17 ?k17 ?a18 ?l18 ?c18 ?k18 ?a19 ?l19 ?c19 ?k19 ?a20 ?l20 ?c20 ?k20 ?a21 ?l21 ?c21 ?k21 ?a22 ?l22 ?c22 ?k22 ?a23 ?l23 ?c23 ?k23 ?a24 ?l24 ?c24 ?k24 ?a25 ?l25 ?c25 ?k25 ?a26 ?l26 ?c26 ?k26 ?z_abs ?z_bool ?z_enumerate ?z_int ?z_isinstance ?z_len ?z_list ?z_range ?z_sorted ?z_str ?z_tuple ?n_MOST_MOVES ?n_MOST_TIMES ?aC_PuzzleError ?kC_PuzzleError ?bC_PuzzleError ?tC_PuzzleError ?xC_PuzzleError ?aC_InvalidRow ?kC_InvalidRow ?bC_InvalidRow ?tC_InvalidRow ?xC_InvalidRow ?aC_WrongCount ?kC_WrongCount ?bC_WrongCount ?tC_WrongCount ?xC_WrongCount ?aC_InvalidMove ?kC_InvalidMove ?bC_InvalidMove ?tC_InvalidMove ?xC_InvalidMove ?d_PuzzleError ?d_InvalidRow ?d_WrongCount ?d_InvalidMove ?m0 ?m1 ?m2 ?w2 ?m3 ?w3 ?m4 ?m5 ?e0_WrongCount ?e1_WrongCount ?e3_WrongCount ?e4_WrongCount ?e0_InvalidMove ?e1_InvalidMove ?e3_InvalidMove ?e4_InvalidMove ?y0 ?y1
    (case a0 => k_is)
    (case l0 => k_is)
    (case c0 => k_is)
    (case k0 => k_is)
    (case a1 => k_is)
    (case l1 => k_is)
    (case c1 => k_is)
    (case k1 => k_is)
    (case a2 => k_is)
    (case l2 => k_is)
    (case c2 => k_is)
    (case k2 => k_is)
    (case a3 => k_is)
    (case l3 => k_is)
    (case c3 => k_is)
    (case k3 => k_is)
    (case a4 => k_is)
    (case l4 => k_is)
    (case c4 => k_is)
    (case k4 => k_is)
    (case a5 => k_is)
    (case l5 => k_is)
    (case c5 => k_is)
    (case k5 => k_is)
    (case a6 => k_is)
    (case l6 => k_is)
    (case c6 => k_is)
    (case k6 => k_is)
    (case a7 => k_is)
    (case l7 => k_is)
    (case c7 => k_is)
    (case k7 => k_is)
    (case a8 => k_is)
    (case l8 => k_is)
    (case c8 => k_is)
    (case k8 => k_is)
    (case a9 => k_is)
    (case l9 => k_is)
    (case c9 => k_is)
    (case k9 => k_is)
    (case a10 => k_is)
    (case l10 => k_is)
    (case c10 => k_is)
    (case k10 => k_is)
    (case a11 => k_is)
    (case l11 => k_is)
    (case c11 => k_is)
    (case k11 => k_is)
    (case a12 => k_is)
    (case l12 => k_is)
    (case c12 => k_is)
    (case k12 => k_is)
    (case a13 => k_is)
    (case l13 => k_is)
    (case c13 => k_is)
    (case k13 => k_is)
    (case a14 => k_is)
    (case l14 => k_is)
    (case c14 => k_is)
    (case k14 => k_is)
    (case a15 => k_is)
    (case l15 => k_is)
    (case c15 => k_is)
    (case k15 => k_is)
    (case a16 => k_is)
    (case l16 => k_is)
    (case c16 => k_is)
    (case k16 => k_is)
    (case a17 => k_is)
    (case l17 => k_is)
    (case c17 => k_is)
    (case k17 => k_is)
    (case a18 => k_is)
    (case l18 => k_is)
    (case c18 => k_is)
    (case k18 => k_is)
    (case a19 => k_is)
    (case l19 => k_is)
    (case c19 => k_is)
    (case k19 => k_is)
    (case a20 => k_is)
    (case l20 => k_is)
    (case c20 => k_is)
    (case k20 => k_is)
    (case a21 => k_is)
    (case l21 => k_is)
    (case c21 => k_is)
    (case k21 => k_is)
    (case a22 => k_is)
    (case l22 => k_is)
    (case c22 => k_is)
    (case k22 => k_is)
    (case a23 => k_is)
    (case l23 => k_is)
    (case c23 => k_is)
    (case k23 => k_is)
    (case a24 => k_is)
    (case l24 => k_is)
    (case c24 => k_is)
    (case k24 => k_is)
    (case a25 => k_is)
    (case l25 => k_is)
    (case c25 => k_is)
    (case k25 => k_is)
    (case a26 => k_is)
    (case l26 => k_is)
    (case c26 => k_is)
    (case k26 => k_is)
    (case z_abs => k_is)
    (case z_bool => k_is)
    (case z_enumerate => k_is)
    (case z_int => k_is)
    (case z_isinstance => k_is)
    (case z_len => k_is)
    (case z_list => k_is)
    (case z_range => k_is)
    (case z_sorted => k_is)
    (case z_str => k_is)
    (case z_tuple => k_is)
    (case n_MOST_MOVES => k_is)
    (case n_MOST_TIMES => k_is)
    (case aC_PuzzleError => k_is)
    (case kC_PuzzleError => k_is)
    (case bC_PuzzleError => k_is)
    (case tC_PuzzleError => k_is)
    (case xC_PuzzleError => k_exc)
    (case aC_InvalidRow => k_is)
    (case kC_InvalidRow => k_is)
    (case bC_InvalidRow => k_is)
    (case tC_InvalidRow => k_is)
    (case xC_InvalidRow => k_exc)
    (case aC_WrongCount => k_is)
    (case kC_WrongCount => k_is)
    (case bC_WrongCount => k_is)
    (case tC_WrongCount => k_is)
    (case xC_WrongCount => k_exc)
    (case aC_InvalidMove => k_is)
    (case kC_InvalidMove => k_is)
    (case bC_InvalidMove => k_is)
    (case tC_InvalidMove => k_is)
    (case xC_InvalidMove => k_exc)
    (case d_PuzzleError => k_is)
    (case d_InvalidRow => k_is)
    (case d_WrongCount => k_is)
    (case d_InvalidMove => k_is)
    (case m0 => first | k_is | rfl)
    (case m1 => first | k_is | rfl)
    (case m2 => first | k_is | rfl)
    (case w2 => first | rfl | decide)
    (case m3 => first | k_is | rfl)
    (case w3 => first | rfl | decide)
    (case m4 => first | k_is | rfl)
    (case m5 => first | k_is | rfl)
    (case e0_WrongCount => k_is)
    (case e1_WrongCount => k_is)
    (case e3_WrongCount => k_is)
    (case e4_WrongCount => k_is)
    (case e0_InvalidMove => k_is)
    (case e1_InvalidMove => k_is)
    (case e3_InvalidMove => k_is)
    (case e4_InvalidMove => k_is)
    (case y0 => k_is)
    (case y1 => k_is)

