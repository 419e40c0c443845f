import PyProof.Rows.All
import Wide.All
import OpenK.AllK
import Wide.FinOn
import PySem.Challenge.RW_endsread_k19_errors_apart
import HandS.ForMost
import HandS.Slots
import HandS.SlotsOwn
import HandS.IsInst
import HandS.Star
import HandS.Codes
import HandS.Exc
import HandS.ExcInit
import HandS.TryOnly
import HandS.WordsExc
import HandS.TupAny
import HandS.More
import HandS.Wide
import HandS.Deep
import HandS.FStr
import HandS.Comp
import KE.GoesEnum
import HandS.ExcOwn
import HandS.Small
import HandS.DictTup
import HandS.TryMany
import HandS.CallSlots
import HandS.ExcField
import KE.KDictKeyed
import KE.KDictDisplayH
import KE.KDictWalk
import HandS.Dict
import HandS.Iter
import HandS.Style
import HandS.SortInts
import HandS.ExcIs
import HandS.Conv
import HandS.HotCalls
import HandS.SuiteRaise
import HandS.ExcInitHot
import KE.KExcIs
set_option Elab.async false
set_option linter.all false
set_option maxRecDepth 100000
set_option maxHeartbeats 4000000
namespace Ty
open PySem PySem.Spec PyProof.Rows L2

/-! ### computations -/
structure Exc where
  cls : String
  args : List PyData
inductive Prog (α : Type) : Type where
  | ok (a : α)
  | err (e : Exc)
  | stuck
  | draw (n : Int) (k : Int → Prog α)
namespace Prog
variable {α β γ : Type}
def bind : Prog α → (α → Prog β) → Prog β
  | ok a, f => f a
  | err e, _ => err e
  | stuck, _ => stuck
  | draw n k, f => draw n fun i => bind (k i) f
theorem bind_ok (m : Prog α) : bind m ok = m := by
  induction m with
  | ok a => rfl
  | err e => rfl
  | stuck => rfl
  | draw n k ih => show draw n _ = draw n k; congr 1; funext i; exact ih i
theorem bind_assoc (m : Prog α) (f : α → Prog β) (g : β → Prog γ) : bind (bind m f) g = bind m fun a => bind (f a) g := by
  induction m with
  | ok a => rfl
  | err e => rfl
  | stuck => rfl
  | draw n k ih => show draw n _ = draw n _; congr 1; funext i; exact ih i
end Prog
instance : Monad Prog where
  pure := Prog.ok
  bind := Prog.bind
section
variable {α β γ : Type}
@[simp] theorem ok_bind (a : α) (f : α → Prog β) : (Prog.ok a >>= f) = f a := rfl
@[simp] theorem err_bind (e : Exc) (f : α → Prog β) : (Prog.err e >>= f) = Prog.err e := rfl
@[simp] theorem stuck_bind (f : α → Prog β) : (Prog.stuck >>= f) = Prog.stuck := rfl
@[simp] theorem draw_bind (n : Int) (k : Int → Prog α) (f : α → Prog β) : (Prog.draw n k >>= f) = Prog.draw n fun i => k i >>= f := rfl
@[simp] theorem bind_ok' (m : Prog α) : (m >>= Prog.ok) = m := Prog.bind_ok m
theorem bind_bind (m : Prog α) (f : α → Prog β) (g : β → Prog γ) : (m >>= f >>= g) = (m >>= fun a => f a >>= g) := Prog.bind_assoc m f g
theorem pure_ok (a : α) : (pure a : Prog α) = Prog.ok a := rfl
/-- all draws lead to P, or to an error that E takes -/
def wp : Prog α → (α → Prop) → (Exc → Prop) → Prop
  | .ok a, P, _ => P a
  | .err e, _, E => E e
  | .stuck, _, _ => False
  | .draw n k, P, E => 0 < n ∧ n ≤ 1000000 ∧ ∀ i, 0 ≤ i → i < n → wp (k i) P E
theorem wp_imp {m : Prog α} {P P' : α → Prop} {E E' : Exc → Prop} (h : wp m P E) (hp : ∀ a, P a → P' a) (he : ∀ e, E e → E' e) : wp m P' E' := by
  induction m with
  | ok a => exact hp a h
  | err e => exact he e h
  | stuck => exact h
  | draw n k ih => exact ⟨h.1, h.2.1, fun i h0 h1 => ih i (h.2.2 i h0 h1)⟩
theorem wp_mono {m : Prog α} {P P' : α → Prop} {E : Exc → Prop} (h : wp m P E) (hp : ∀ a, P a → P' a) : wp m P' E := wp_imp h hp fun _ x => x
theorem wp_bind {m : Prog α} {f : α → Prog β} {P : β → Prop} {E : Exc → Prop} : wp (m >>= f) P E ↔ wp m (fun a => wp (f a) P E) E := by
  induction m with
  | ok a => exact Iff.rfl
  | err e => exact Iff.rfl
  | stuck => exact Iff.rfl
  | draw n k ih => exact ⟨fun h => ⟨h.1, h.2.1, fun i h0 h1 => (ih i).1 (h.2.2 i h0 h1)⟩, fun h => ⟨h.1, h.2.1, fun i h0 h1 => (ih i).2 (h.2.2 i h0 h1)⟩⟩
end

/-! ### data by types -/
class Enc (α : Type) where
  enc : α → PyData
open Enc (enc)
abbrev Tx := List Nat
/-- a Python list as a value (a tuple of one kind is a List) -/
def L (α : Type) := List α
abbrev un {α : Type} (x : L α) : List α := x
instance : Enc PyData := ⟨id⟩
instance : Enc Int := ⟨.int⟩
instance : Enc Bool := ⟨.bool⟩
instance : Enc Unit := ⟨fun _ => .none⟩
instance (priority := high) encTx : Enc (List Nat) := ⟨fun s => .str ⟨s.toArray⟩⟩
instance encTup {α : Type} [Enc α] : Enc (List α) := ⟨fun xs => .tuple (xs.map enc)⟩
instance encL {α : Type} [Enc α] : Enc (L α) := ⟨fun xs => .list (List.map enc xs)⟩
instance encP {α β : Type} [Enc α] [Enc β] : Enc (α × β) := ⟨fun p => .tuple [enc p.1, enc p.2]⟩
instance encO {α : Type} [Enc α] : Enc (Option α) := ⟨fun o => match o with | none => .none | some a => enc a⟩
structure T3 (α β γ : Type) where
  a : α
  b : β
  c : γ
deriving DecidableEq
instance encT3 {α β γ : Type} [Enc α] [Enc β] [Enc γ] : Enc (T3 α β γ) := ⟨fun p => .tuple [enc p.a, enc p.b, enc p.c]⟩
structure T4 (α β γ δ : Type) where
  a : α
  b : β
  c : γ
  d : δ
deriving DecidableEq
instance encT4 {α β γ δ : Type} [Enc α] [Enc β] [Enc γ] [Enc δ] : Enc (T4 α β γ δ) := ⟨fun p => .tuple [enc p.a, enc p.b, enc p.c, enc p.d]⟩
/-- a list [a, b] of two kinds -/
structure L2v (α β : Type) where
  a : α
  b : β
deriving DecidableEq
instance encL2 {α β : Type} [Enc α] [Enc β] : Enc (L2v α β) := ⟨fun p => .list [enc p.a, enc p.b]⟩

/-! ### the world -/
/-- what the written part and the classes are; K, the class addresses -/
structure Glob where
  K : PySem.W.Frag
  code : Addr
  exc : String → Addr
  cls : String → Addr
  P : Program
  w : World
structure CodeV where
  many : Int
  parts : List Tx
deriving DecidableEq

theorem same_new {H : Hp} {p : Addr} {o : HO} (h : H p = none) : Same H (upd H p o) := fun a u e => by
  rw [upd_ne (ne_of_none e h)]
  exact e
theorem same_mut {H H' : Hp} {p : Addr} {o : HO} (e : Same H H') (h : H p = none) : Same H (upd H' p o) := fun a u ha => by
  rw [upd_ne (ne_of_none ha h)]
  exact e a u ha
theorem rd_same {H H' : Hp} {a : Addr} {u : HO} (e : Same H H') (h : Rd H a u) : Rd H' a u := by
  rcases h with h | ⟨o, h⟩
  · exact Or.inl (e a _ h)
  · exact Or.inr ⟨o, e a _ h⟩
theorem sql_same {K : PySem.W.Frag} {H H' : Hp} {a : Addr} {xs : List V} (e : Same H H') (h : SqL K H a xs) : SqL K H' a xs := h.imp (rd_same e) id
theorem sqt_same {K : PySem.W.Frag} {H H' : Hp} {a : Addr} {xs : List V} (e : Same H H') (h : SqT K H a xs) : SqT K H' a xs := h.imp (rd_same e) id

mutual
inductive Dq (K : PySem.W.Frag) (H : Hp) : V → PyData → Prop
  | non : Dq K H .non .none
  | bl (b : Bool) : Dq K H (.bl b) (.bool b)
  | int (i : Int) : Dq K H (.int i) (.int i)
  | str (x : Str) : Dq K H (.str x) (.str x)
  | lst {a : Addr} {xs : List V} {ds : List PyData} : H a = some (.lst xs) → DqAll K H xs ds → Dq K H (.ref a) (.list ds)
  | tup {a : Addr} {xs : List V} {ds : List PyData} : SqT K H a xs → DqAll K H xs ds → Dq K H (.ref a) (.tuple ds)
inductive DqAll (K : PySem.W.Frag) (H : Hp) : List V → List PyData → Prop
  | nil : DqAll K H [] []
  | cons {v : V} {vs : List V} {d : PyData} {ds : List PyData} : Dq K H v d → DqAll K H vs ds → DqAll K H (v :: vs) (d :: ds)
end
mutual
theorem dq_dp {K : PySem.W.Frag} {H : Hp} : ∀ (d : PyData) (v : V), Dq K H v d → Dp K H v d
  | .none, _, h => by cases h; exact .non
  | .bool b, _, h => by cases h; exact .bl b
  | .int i, _, h => by cases h; exact .int i
  | .str x, _, h => by cases h; exact .str x
  | .list ds, _, h => by
    cases h with
    | lst hs ha => exact .lst (.inl (.inl hs)) (dqAll_dp ds _ ha)
  | .tuple ds, _, h => by
    cases h with
    | tup hs ha => exact .tup hs (dqAll_dp ds _ ha)
  | .dict _, _, h => by cases h
theorem dqAll_dp {K : PySem.W.Frag} {H : Hp} : ∀ (ds : List PyData) (vs : List V), DqAll K H vs ds → DpAll K H vs ds
  | [], _, h => by cases h; exact .nil
  | d :: ds, _, h => by
    cases h with
    | cons h1 h2 => exact .cons (dq_dp d _ h1) (dqAll_dp ds _ h2)
end
mutual
theorem dp_same {K : PySem.W.Frag} {H H' : Hp} (e : Same H H') : ∀ (d : PyData) (v : V), Dq K H v d → Dq K H' v d
  | .none, _, h => by cases h; exact .non
  | .bool b, _, h => by cases h; exact .bl b
  | .int i, _, h => by cases h; exact .int i
  | .str x, _, h => by cases h; exact .str x
  | .list ds, _, h => by
    cases h with
    | lst hs ha => exact .lst (e _ _ hs) (dpAll_same e ds _ ha)
  | .tuple ds, _, h => by
    cases h with
    | tup hs ha => exact .tup (sqt_same e hs) (dpAll_same e ds _ ha)
  | .dict _, _, h => by cases h
theorem dpAll_same {K : PySem.W.Frag} {H H' : Hp} (e : Same H H') : ∀ (ds : List PyData) (vs : List V), DqAll K H vs ds → DqAll K H' vs ds
  | [], _, h => by cases h; exact .nil
  | d :: ds, _, h => by
    cases h with
    | cons h1 h2 => exact .cons (dp_same e d _ h1) (dpAll_same e ds _ h2)
end
variable {G : Glob}
class Rp (G : Glob) (α : Type) where
  rp : α → V → Hp → Prop
  mono : ∀ {a : α} {v : V} {F F' : Hp}, Same F F' → rp a v F → rp a v F'
instance rpEnc {α : Type} [Enc α] : Rp G α := ⟨fun a v F => Dq G.K F v (enc a), fun e h => dp_same e _ _ h⟩
/-- an instance of Code -/
instance rpCode : Rp G CodeV := ⟨fun c v F => ∃ a dx x, v = .ref a ∧ SlX.Slt F a G.code dx [some (.int c.many), some x] ∧ Dq G.K F x (enc c.parts), fun {c v F F'} e h => by
  obtain ⟨a, dx, x, e1, s, d⟩ := h
  refine ⟨a, dx, x, e1, ?_, dp_same e _ _ d⟩
  rcases s with ⟨h1, h2⟩ | ⟨h1, h2⟩
  · exact .inl ⟨e _ _ h1, h2⟩
  · exact .inr ⟨e _ _ h1, e _ _ h2⟩⟩

/-- a field of an instance: its name, what it holds -/
structure Fld (G : Glob) : Type 1 where
  {α : Type}
  [i : Rp G α]
  n : Str
  a : α
def FlR (F : Hp) : List (Fld G) → List (Str × V) → Prop
  | [], [] => True
  | f :: fs, u :: us => f.n = u.1 ∧ f.i.rp f.a u.2 F ∧ FlR F fs us
  | _, _ => False
theorem flR_mono {F F' : Hp} (e : Same F F') : ∀ {fs : List (Fld G)} {us : List (Str × V)}, FlR F fs us → FlR F' fs us
  | [], [], _ => trivial
  | [], _ :: _, h => h.elim
  | _ :: _, [], h => h.elim
  | f :: fs, u :: us, h => ⟨h.1, f.i.mono e h.2.1, flR_mono e h.2.2⟩
structure NN where
  F0 : Hp
  H0 : Hp
  B : Addr → Prop
  S : Option (Addr × Addr)
  E : XK
  O : Addr → Option HO
structure SrcAt (p c : Addr) (F H : Hp) : Prop where
  fp : F p = none
  fc : F c = none
  ne : p ≠ c
  at_ : ∃ (st ix : Int) (cs : List Int), H p = some (.lst [.int st, .ref c, .int ix, .int 14]) ∧ H c = some (.lst (cs.map V.int)) ∧ cs.length ≤ 64
structure W (N : NN) (F H : Hp) : Prop where
  fh : Same F H
  f0 : Same N.F0 F
  nw : ∀ a o, F a = some o → N.F0 a = some o ∨ N.H0 a = none
  kp : ∀ a o, ¬ N.B a → N.H0 a = some o → H a = some o
  dm : ∀ a, H a = none → N.H0 a = none
  sr : ∀ p c, N.S = some (p, c) → SrcAt p c F H
  sb : ∀ p c, N.S = some (p, c) → (N.H0 p = none ∨ N.B p) ∧ (N.H0 c = none ∨ N.B c)
  os : ∀ a o, N.O a = some o → (H a = some o ∧ F a = none) ∧ ∀ p c, N.S = some (p, c) → a ≠ p ∧ a ≠ c

/-- what stands at an address that the frame owns -/
structure OwnR where
  R : Hp → Addr → HO → Prop
  mono : ∀ {F F' : Hp} {p : Addr} {u : HO}, Same F F' → R F p u → R F' p u
inductive Ent (G : Glob) : Type 1 where
  | dead
  | per {α : Type} [Rp G α] (a : α)
  | lst {α : Type} [Enc α] (xs : List α)
  | ins (C : Addr) (fs : List (Fld G)) (w : Option Addr)
  | bor {α : Type} [Enc α] (xs : List α)
  | ptr (p : Addr)
  | src
  | gen (R : OwnR) (b : Bool)
abbrev Env (G : Glob) := List (Ent G)
def Ent.own : Ent G → Bool
  | @Ent.lst _ _ _ _ => true
  | .ins _ _ _ => true
  | .gen _ _ => true
  | _ => false
/-- an address that this def may write -/
structure Mine (N : NN) (F : Hp) (p : Addr) : Prop where
  f : F p = none
  h0 : N.H0 p = none
  s : ∀ q c, N.S = some (q, c) → p ≠ q ∧ p ≠ c
structure MineI (N : NN) (F : Hp) (p : Addr) : Prop where
  f : F p = none
  h0 : N.H0 p = none ∨ N.B p
  s : ∀ q c, N.S = some (q, c) → p ≠ q ∧ p ≠ c
theorem Mine.weak {N : NN} {F : Hp} {p : Addr} (m : Mine N F p) : MineI N F p := ⟨m.f, .inl m.h0, m.s⟩
def Sl (N : NN) (F H : Hp) : Ent G → Option V → Prop
  | .dead, _ => True
  | @Ent.per _ _ i a, o => ∃ v, o = some v ∧ i.rp a v F
  | @Ent.lst _ _ _ xs, o => ∃ p vs, o = some (.ref p) ∧ Mine N F p ∧ H p = some (.lst vs) ∧ DqAll G.K F vs (xs.map enc)
  | .ins C fs w, o => ∃ p dx us, o = some (.ref p) ∧ MineI N F p ∧ H p = some (.ins C dx us) ∧ FlR F fs us ∧ ∀ q, w = some q → q = p
  | @Ent.bor _ _ _ xs, o => ∃ q vs, o = some (.ref q) ∧ N.F0 q = none ∧ N.H0 q = some (.lst vs) ∧ ¬ N.B q ∧ (∀ p c, N.S = some (p, c) → q ≠ p ∧ q ≠ c) ∧ DqAll G.K F vs (xs.map enc)
  | .ptr p, o => o = some (.ref p)
  | .src, o => ∃ p c, o = some (.ref p) ∧ N.S = some (p, c)
  | .gen R b, o => ∃ p u, o = some (.ref p) ∧ MineI N F p ∧ (b = false → N.H0 p = none) ∧ H p = some u ∧ R.R F p u
def Slots (N : NN) (F H : Hp) : Env G → L2.St → Prop
  | [], [] => True
  | e :: Γ, o :: σ => Sl N F H e o ∧ Slots N F H Γ σ
  | _, _ => False
def Dist (Γ : Env G) (σ : L2.St) : Prop := ∀ (i j : Nat) (e e' : Ent G) (p : Addr), Γ[i]? = some e → Γ[j]? = some e' → e.own = true → e'.own = true → σ[i]? = some (some (.ref p)) → σ[j]? = some (some (.ref p)) → i = j
structure HS (N : NN) (Γ : Env G) (σ : L2.St) (F H : Hp) : Prop where
  w : W N F H
  sl : Slots N F H Γ σ
  ds : Dist Γ σ

section
variable {N : NN} {F F' H H' : Hp} {Γ : Env G} {σ : L2.St}
theorem Slots.get : ∀ {Γ : Env G} {σ : L2.St} {i : Nat} {e : Ent G}, Slots N F H Γ σ → Γ[i]? = some e → ∃ o, σ[i]? = some o ∧ Sl N F H e o
  | [], _, _, _, _, h => by simp at h
  | e :: Γ, [], _, _, h, _ => h.elim
  | e :: Γ, o :: σ, 0, e', h, q => by
    have e1 : e = e' := Option.some.inj q
    subst e1
    exact ⟨o, rfl, h.1⟩
  | e :: Γ, o :: σ, i + 1, e', h, q => Slots.get (i := i) h.2 q
theorem Slots.set : ∀ {Γ : Env G} {σ : L2.St} (i : Nat) {e : Ent G} {o : Option V}, Slots N F H Γ σ → Sl N F H e o → Slots N F H (Γ.set i e) (σ.set i o)
  | [], [], _, _, _, _, _ => trivial
  | [], _ :: _, _, _, _, h, _ => h.elim
  | _ :: _, [], _, _, _, h, _ => h.elim
  | _ :: _, _ :: _, 0, _, _, h, q => ⟨q, h.2⟩
  | _ :: _, _ :: _, i + 1, _, _, h, q => ⟨h.1, Slots.set i h.2 q⟩
theorem Slots.imp {N' : NN} : ∀ {Γ : Env G} {σ : L2.St}, Slots N F H Γ σ → (∀ (i : Nat) e o, Γ[i]? = some e → σ[i]? = some o → Sl N F H e o → Sl N' F' H' e o) → Slots N' F' H' Γ σ
  | [], [], _, _ => trivial
  | [], _ :: _, h, _ => h.elim
  | _ :: _, [], h, _ => h.elim
  | e :: Γ, o :: σ, h, k => ⟨k 0 e o rfl rfl h.1, Slots.imp h.2 fun i e' o' a b => k (i + 1) e' o' a b⟩
theorem Slots.len : ∀ {Γ : Env G} {σ : L2.St}, Slots N F H Γ σ → Γ.length = σ.length
  | [], [], _ => rfl
  | [], _ :: _, h => h.elim
  | _ :: _, [], h => h.elim
  | _ :: _, _ :: _, h => congrArg (· + 1) (Slots.len h.2)
theorem Mine.mono (m : Mine N F p) (f : F' p = none) : Mine N F' p := ⟨f, m.h0, m.s⟩
/-- an owned object of the frame stands at q -/
def Held (Γ : Env G) (σ : L2.St) (q : Addr) : Prop := ∃ (i : Nat) (e : Ent G), Γ[i]? = some e ∧ e.own = true ∧ σ[i]? = some (some (.ref q))
theorem HS.held (h : HS N Γ σ F H) {q : Addr} (x : Held Γ σ q) : MineI N F q ∧ ∃ u, H q = some u := by
  obtain ⟨i, e, e1, e2, e3⟩ := x
  obtain ⟨o, e4, s⟩ := h.sl.get e1
  rw [e3] at e4
  cases e4
  cases e with
  | lst xs =>
    obtain ⟨p, vs, e5, m, hp, _⟩ := s
    have e6 : q = p := by cases e5; rfl
    subst e6
    exact ⟨m.weak, _, hp⟩
  | ins a fs w =>
    obtain ⟨p, dx, us, e5, m, hp, _⟩ := s
    have e6 : q = p := by cases e5; rfl
    subst e6
    exact ⟨m, _, hp⟩
  | dead => cases e2
  | per a => cases e2
  | bor xs => cases e2
  | ptr p => cases e2
  | src => cases e2
  | gen R b =>
    obtain ⟨p, u, e5, m, _, hp, _⟩ := s
    have e6 : q = p := by cases e5; rfl
    subst e6
    exact ⟨m, _, hp⟩
/-- more is known, all that the frame owns stands as it was -/
theorem HS.move (h : HS N Γ σ F H) (w : W N F' H') (eF : Same F F') (keep : ∀ q u, Held Γ σ q → H q = some u → H' q = some u) (fr : ∀ q, Held Γ σ q → F' q = none) : HS N Γ σ F' H' := by
  refine ⟨w, h.sl.imp fun i e o e1 e2 s => ?_, h.ds⟩
  cases e with
  | dead => trivial
  | per a =>
    obtain ⟨v, e3, r⟩ := s
    exact ⟨v, e3, Rp.mono eF r⟩
  | lst xs =>
    obtain ⟨p, vs, e3, m, hp, d⟩ := s
    have hl : Held Γ σ p := ⟨i, _, e1, rfl, by rw [e2, e3]⟩
    exact ⟨p, vs, e3, m.mono (fr p hl), keep p _ hl hp, dpAll_same eF _ _ d⟩
  | ins a fs w =>
    obtain ⟨p, dx, us, e3, m, hp, d, hw⟩ := s
    have hl : Held Γ σ p := ⟨i, _, e1, rfl, by rw [e2, e3]⟩
    exact ⟨p, dx, us, e3, ⟨fr p hl, m.h0, m.s⟩, keep p _ hl hp, flR_mono eF d, hw⟩
  | bor xs =>
    obtain ⟨q, vs, e3, h1, h2, h3, h4, d⟩ := s
    exact ⟨q, vs, e3, h1, h2, h3, h4, dpAll_same eF _ _ d⟩
  | ptr p => exact s
  | src => exact s
  | gen R b =>
    obtain ⟨p, u, e3, m, hb, hp, r⟩ := s
    have hl : Held Γ σ p := ⟨i, _, e1, rfl, by rw [e2, e3]⟩
    exact ⟨p, u, e3, ⟨fr p hl, m.h0, m.s⟩, hb, keep p _ hl hp, R.mono eF r⟩
/-- a new object that is known from now on -/
theorem HS.laid (h : HS N Γ σ F H) {p : Addr} {o : HO} (hp : H p = none) : HS N Γ σ (upd F p o) (upd H p o) ∧ Same F (upd F p o) := by
  have fp : F p = none := Same.free h.w.fh hp
  have w : W N (upd F p o) (upd H p o) := by
    refine ⟨fun a u e => ?_, Same.trans h.w.f0 (same_new fp), fun a u e => ?_, fun a u nb e => ?_, fun a e => ?_, fun q c e => ?_, h.w.sb, fun a u e => ?_⟩
    · by_cases ha : a = p
      · subst ha; rw [upd_same] at e ⊢; exact e
      · rw [upd_ne ha] at e ⊢; exact h.w.fh a u e
    · by_cases ha : a = p
      · subst ha; exact .inr (h.w.dm _ hp)
      · rw [upd_ne ha] at e; exact h.w.nw a u e
    · have x := h.w.kp a u nb e
      rw [upd_ne (ne_of_none x hp)]; exact x
    · by_cases ha : a = p
      · subst ha; rw [upd_same] at e; cases e
      · rw [upd_ne ha] at e; exact h.w.dm a e
    · have s := h.w.sr q c e
      obtain ⟨st, ix, cs, h1, h2, r⟩ := s.at_
      have n1 : q ≠ p := ne_of_none h1 hp
      have n2 : c ≠ p := ne_of_none h2 hp
      exact ⟨by rw [upd_ne n1]; exact s.fp, by rw [upd_ne n2]; exact s.fc, s.ne, st, ix, cs, by rw [upd_ne n1]; exact h1, by rw [upd_ne n2]; exact h2, r⟩
    · have x := h.w.os a u e
      have y := ne_of_none x.1.1 hp
      exact ⟨⟨by rw [upd_ne y]; exact x.1.1, by rw [upd_ne y]; exact x.1.2⟩, x.2⟩
  refine ⟨h.move w (same_new fp) (fun q vs _ e => ?_) fun q hl => ?_, same_new fp⟩
  · rw [upd_ne (ne_of_none e hp)]; exact e
  · obtain ⟨m, vs, e⟩ := h.held hl
    rw [upd_ne (ne_of_none e hp)]; exact m.f
/-- a new list is no more to be changed -/
theorem HS.freeze (h : HS N Γ σ F H) {p : Addr} {o : HO} (hp : H p = some o) (m : Mine N F p) (h0 : N.H0 p = none) (nh : ¬ Held Γ σ p) (no : N.O p = none) : HS N Γ σ (upd F p o) H ∧ Same F (upd F p o) := by
  have w : W N (upd F p o) H := by
    refine ⟨fun a u e => ?_, Same.trans h.w.f0 (same_new m.f), fun a u e => ?_, h.w.kp, h.w.dm, fun q c e => ?_, h.w.sb, fun a u e => ?_⟩
    · by_cases ha : a = p
      · subst ha; rw [upd_same] at e; rw [hp]; exact e
      · rw [upd_ne ha] at e; exact h.w.fh a u e
    · by_cases ha : a = p
      · subst ha; exact .inr h0
      · rw [upd_ne ha] at e; exact h.w.nw a u e
    · have s := h.w.sr q c e
      have x := m.s q c e
      exact ⟨by rw [upd_ne (Ne.symm x.1)]; exact s.fp, by rw [upd_ne (Ne.symm x.2)]; exact s.fc, s.ne, s.at_⟩
    · have x := h.w.os a u e
      have y : a ≠ p := fun z => by rw [z, no] at e; cases e
      exact ⟨⟨x.1.1, by rw [upd_ne y]; exact x.1.2⟩, x.2⟩
  refine ⟨h.move w (same_new m.f) (fun q vs _ e => e) fun q hl => ?_, same_new m.f⟩
  have : q ≠ p := fun z => nh (z ▸ hl)
  rw [upd_ne this]; exact (h.held hl).1.f
end
end Ty

namespace Ty
open PySem PySem.Spec PyProof.Rows L2
open Enc (enc)
/-! ### judgements -/
def fieldsOf (cls : String) : List Str := if cls = "InvalidText" then ["word", "line"] else if cls = "InvalidWord" then ["index"] else if cls = "UnknownWord" then ["index"] else []
def ERep (G : Glob) (ex : Exc) (C : Value) (d : Option Addr) (F H : Hp) : Prop :=
  C = .ref (G.exc ex.cls) ∧ ((ex.args = [] ∧ d = none) ∨ ∃ dx vs, d = some dx ∧ F dx = some (.xd ((fieldsOf ex.cls).zip vs)) ∧ (fieldsOf ex.cls).length = vs.length ∧ DqAll G.K F vs ex.args ∧ fieldsOf ex.cls ≠ [])
variable {G : Glob}
def EP (G : Glob) (N : NN) : Exc → Prop := fun ex => ∀ F' H' C d, W N F' H' → ERep G ex C d F' H' → N.E C d H'
/-- an expression's reading; a new list's; a test's; arguments'; a walked thing's; a target's; statements' -/
def EV {α : Type} [Rp G α] (N : NN) (Γ : Env G) (te : TE) (m : Prog α) : Prop := ∀ σ F H, HS N Γ σ F H → ∀ Q : VK, wp m (fun a => ∀ v F' H', HS N Γ σ F' H' → Same F F' → Rp.rp (G := G) a v F' → Q v H') (EP G N) → te σ H Q
structure NewAt (N : NN) (Γ : Env G) (σ : L2.St) (F : Hp) (p : Addr) : Prop where
  mine : Mine N F p
  h0 : N.H0 p = none
  nh : ¬ Held Γ σ p
  no : N.O p = none
def EVN {α : Type} [Enc α] (N : NN) (Γ : Env G) (te : TE) (m : Prog (L α)) : Prop := ∀ σ F H, HS N Γ σ F H → ∀ Q : VK, wp m (fun (xs : List α) => ∀ p vs F' H', HS N Γ σ F' H' → Same F F' → NewAt N Γ σ F' p → H' p = some (.lst vs) → DqAll G.K F' vs (xs.map enc) → Q (.ref p) H') (EP G N) → te σ H Q
def TV (N : NN) (Γ : Env G) (tt : TT) (m : Prog Bool) : Prop := ∀ σ F H, HS N Γ σ F H → ∀ Q : Bool → Hp → Prop, wp m (fun b => ∀ F' H', HS N Γ σ F' H' → Same F F' → Q b H') (EP G N) → tt σ H Q
def EVA {τ : Type} (N : NN) (Γ : Env G) (ta : TA) (m : Prog τ) (ra : τ → List V → Hp → Prop) : Prop := ∀ σ F H, HS N Γ σ F H → ∀ Q : List V → Hp → Prop, wp m (fun a => ∀ vs F' H', HS N Γ σ F' H' → Same F F' → ra a vs F' → Q vs H') (EP G N) → ta σ H Q
def GV {α : Type} [Rp G α] (N : NN) (Γ : Env G) (g : TG) (a : α) (Γ' : Env G) : Prop := ∀ σ F H x, HS N Γ σ F H → Rp.rp (G := G) a x F → ∀ Q : L2.St → Hp → Prop, (∀ σ' F' H', HS N Γ' σ' F' H' → Same F F' → Q σ' H') → g x σ H Q
/-- what a block is to reach: F the data known at its start -/
structure Aim (ω : Type) where
  J : Hp → ω → Ends → Prop
  mono : ∀ {F F' : Hp} {o : ω} {D : Ends}, Same F F' → J F o D → J F' o D
def SV {ω : Type} (N : NN) (Γ : Env G) (ts : TS) (J : Aim ω) (m : Prog ω) : Prop := ∀ σ F H D, HS N Γ σ F H → wp m (fun o => J.J F o D) (EP G N) → ts D σ H
/-- the end of a block with the frame as Γ says; a return -/
def JN {β : Type} (N : NN) (Γ : β → Env G) : Aim β := ⟨fun F b D => ∀ σ' F' H', HS N (Γ b) σ' F' H' → Same F F' → D.nx σ' H', fun e h σ' F' H' hs e' => h σ' F' H' hs (Same.trans e e')⟩
def JR {ρ : Type} (G : Glob) [Rp G ρ] (N : NN) : Aim ρ := ⟨fun _ r D => ∀ v F' H', W N F' H' → Rp.rp (G := G) r v F' → D.rt v H', fun _ h => h⟩
/-- a def that hands back a new list -/
def JRN {α : Type} [Enc α] (G : Glob) (N : NN) : Aim (L α) := ⟨fun _ (xs : List α) D => ∀ p vs F' H', W N F' H' → Mine N F' p → N.H0 p = none → H' p = some (.lst vs) → DqAll G.K F' vs (xs.map enc) → D.rt (.ref p) H', fun _ h => h⟩
inductive Fl (β ρ : Type) where
  | nx (b : β)
  | rt (r : ρ)
def flJ {β ρ : Type} (JN : Hp → β → Ends → Prop) (JR : Hp → ρ → Ends → Prop) : Hp → Fl β ρ → Ends → Prop
  | F, .nx b, D => JN F b D
  | F, .rt r, D => JR F r D
def JF {β ρ : Type} (A : Aim β) (B : Aim ρ) : Aim (Fl β ρ) := ⟨flJ A.J B.J, fun {F F' o D} e h => by
  cases o with
  | nx b => exact A.mono e h
  | rt r => exact B.mono e h⟩
/-- an aim that only returns reach -/
def Aim.Ret {ω : Type} (A : Aim ω) : Prop := ∀ F r D D', D.rt = D'.rt → A.J F r D → A.J F r D'
def Aim.To {ω ρ : Type} (A : Aim ω) (ret : ρ → ω) (B : Aim ρ) : Prop := ∀ F r D D', D.rt = D'.rt → A.J F (ret r) D → B.J F r D'

section
variable {α β γ ω ρ τ : Type} [iα : Rp G α] [iβ : Rp G β] [iγ : Rp G γ] {N : NN} {Γ Γ' : Env G} {te ta tb tc : TE} {tt tu : TT} {tz ts ts' : TS}
theorem EV.of_eq {m m' : Prog α} (h : EV N Γ te m) (e : m = m') : EV N Γ te m' := e ▸ h
theorem ev_var {i : Nat} {a : α} (h : Γ[i]? = some (.per a)) : EV N Γ (tVar i) (.ok a) := fun σ F H hs Q q => by
  obtain ⟨o, e1, v, e2, r⟩ := hs.sl.get h
  subst e2
  exact ⟨v, e1, q v F H hs (Same.refl F) r⟩
theorem ev_int {i : Int} : EV N Γ (tC (.int i)) (.ok i) := fun σ F H hs Q q => q _ F H hs (Same.refl F) (.int i)
theorem ev_bl {b : Bool} : EV N Γ (tC (.bl b)) (.ok b) := fun σ F H hs Q q => q _ F H hs (Same.refl F) (.bl b)
theorem ev_str {x : Str} {s : Tx} (h : x.cps.toList = s) : EV N Γ (tC (.str x)) (.ok s) := fun σ F H hs Q q => q _ F H hs (Same.refl F) (by
  subst h
  exact .str x)
theorem ev_non {α : Type} [Enc α] : EV N Γ (tC .non) (.ok (none : Option α)) := fun σ F H hs Q q => q _ F H hs (Same.refl F) .non
theorem ev_nonD : EV N Γ (tC .non) (.ok PyData.none) := fun σ F H hs Q q => q _ F H hs (Same.refl F) .non
theorem ev_some {α : Type} [Enc α] {m : Prog α} (h : EV N Γ te m) : EV N Γ te (m >>= fun a => .ok (some a)) := fun σ F H hs Q q => h σ F H hs Q (wp_bind.1 q)
theorem ev_dat {α : Type} [Enc α] {m : Prog α} (h : EV N Γ te m) : EV N Γ te (m >>= fun a => .ok (enc a)) := fun σ F H hs Q q => h σ F H hs Q (wp_bind.1 q)
/-- a new list as a value -/
theorem ev_new {α : Type} [Enc α] {m : Prog (L α)} (h : EVN N Γ te m) : EV N Γ te m := fun σ F H hs Q q => h σ F H hs Q (wp_mono q fun xs k p vs F' H' hs' e n hp d => by
  obtain ⟨hs2, e2⟩ := hs'.freeze hp n.mine n.h0 n.nh n.no
  exact k _ _ _ hs2 (Same.trans e e2) (.lst upd_same (dpAll_same e2 _ _ d)))
/-- two values -/
def OPV (r : R2) (g : α → β → Prog γ) : Prop := ∀ (N : NN) (Γ : Env G) (σ : L2.St) (F H : Hp) (x y : V) (a : α) (b : β), HS N Γ σ F H → iα.rp a x F → iβ.rp b y F → ∀ Q : VK,
  wp (g a b) (fun c => ∀ v F' H', HS N Γ σ F' H' → Same F F' → iγ.rp c v F' → Q v H') (EP G N) → r x y H Q
theorem ev_op {r : R2} {g : α → β → Prog γ} {m1 : Prog α} {m2 : Prog β} (h1 : EV N Γ ta m1) (h2 : EV N Γ tb m2) (ho : OPV (G := G) r g) : EV N Γ (tOp r ta tb) (m1 >>= fun a => m2 >>= fun b => g a b) := fun σ F H hs Q q =>
  h1 σ F H hs _ (wp_mono (wp_bind.1 q) fun a q1 x F1 H1 hs1 e1 r1 => h2 σ F1 H1 hs1 _ (wp_mono (wp_bind.1 q1) fun b q2 y F2 H2 hs2 e2 r2 =>
    ho N Γ σ F2 H2 x y a b hs2 (Rp.mono e2 r1) r2 Q (wp_mono q2 fun c k v F3 H3 hs3 e3 r3 => k v F3 H3 hs3 (Same.trans e1 (Same.trans e2 e3)) r3)))
/-- one value -/
def UNV (r : V → Hp → VK → Prop) (g : α → Prog γ) : Prop := ∀ (N : NN) (Γ : Env G) (σ : L2.St) (F H : Hp) (x : V) (a : α), HS N Γ σ F H → iα.rp a x F → ∀ Q : VK,
  wp (g a) (fun c => ∀ v F' H', HS N Γ σ F' H' → Same F F' → iγ.rp c v F' → Q v H') (EP G N) → r x H Q
theorem ev_un {r : V → Hp → VK → Prop} {g : α → Prog γ} {m1 : Prog α} (h1 : EV N Γ ta m1) (ho : UNV (G := G) r g) : EV N Γ (tUn r ta) (m1 >>= fun a => g a) := fun σ F H hs Q q =>
  h1 σ F H hs _ (wp_mono (wp_bind.1 q) fun a q1 x F1 H1 hs1 e1 r1 => ho N Γ σ F1 H1 x a hs1 r1 Q (wp_mono q1 fun c k v F3 H3 hs3 e3 r3 => k v F3 H3 hs3 (Same.trans e1 e3) r3))
/-! arguments -/
theorem eva_nil : EVA N Γ tNil (.ok ()) (fun _ vs _ => vs = []) := fun σ F H hs Q q => q [] F H hs (Same.refl F) rfl
theorem eva_cons {m1 : Prog α} {tr : TA} {m2 : Prog τ} {ra : τ → List V → Hp → Prop} (hra : ∀ a vs F F', Same F F' → ra a vs F → ra a vs F') (h1 : EV N Γ ta m1) (h2 : EVA N Γ tr m2 ra) :
    EVA N Γ (tCons ta tr) (m1 >>= fun a => m2 >>= fun b => .ok (a, b)) (fun p vs F => ∃ v ws, vs = v :: ws ∧ iα.rp p.1 v F ∧ ra p.2 ws F) := fun σ F H hs Q q =>
  h1 σ F H hs _ (wp_mono (wp_bind.1 q) fun a q1 x F1 H1 hs1 e1 r1 => h2 σ F1 H1 hs1 _ (wp_mono (wp_bind.1 q1) fun b q2 vs F2 H2 hs2 e2 r2 => q2 (x :: vs) F2 H2 hs2 (Same.trans e1 e2) ⟨x, vs, rfl, Rp.mono e2 r1, r2⟩))
/-- one kind of items, all told: the items of a display -/
theorem evl_nil {α : Type} [Enc α] : EVA N Γ tNil (.ok ([] : List α)) (fun xs vs F => DqAll G.K F vs (xs.map enc)) := fun σ F H hs Q q => q [] F H hs (Same.refl F) .nil
theorem evl_cons {α : Type} [Enc α] {m1 : Prog α} {tr : TA} {m2 : Prog (List α)} (h1 : EV N Γ ta m1) (h2 : EVA N Γ tr m2 (fun xs vs F => DqAll G.K F vs (xs.map enc))) :
    EVA N Γ (tCons ta tr) (m1 >>= fun a => m2 >>= fun b => .ok (a :: b)) (fun xs vs F => DqAll G.K F vs (xs.map enc)) := fun σ F H hs Q q =>
  h1 σ F H hs _ (wp_mono (wp_bind.1 q) fun a q1 x F1 H1 hs1 e1 r1 => h2 σ F1 H1 hs1 _ (wp_mono (wp_bind.1 q1) fun b q2 vs F2 H2 hs2 e2 r2 => q2 (x :: vs) F2 H2 hs2 (Same.trans e1 e2) (.cons (dp_same e2 _ _ r1) r2)))
theorem dpAll_length {K : PySem.W.Frag} {F : Hp} : ∀ {ds : List PyData} {vs : List V}, DqAll K F vs ds → vs.length = ds.length
  | [], _, h => by cases h; rfl
  | _ :: _, _, h => by
    cases h with
    | cons _ h2 => exact congrArg (· + 1) (dpAll_length h2)
/-- tuples and lists made -/
theorem ev_tupA {τ : Type} {α : Type} [Enc α] {t : TA} {m : Prog τ} {ra : τ → List V → Hp → Prop} {f : τ → α} (h : EVA N Γ t m ra) (hd : ∀ a vs F, ra a vs F → ∃ ds, enc (f a) = .tuple ds ∧ DqAll G.K F vs ds ∧ vs.length ≤ 100000) :
    EV N Γ (tTup t) (m >>= fun a => .ok (f a)) := fun σ F H hs Q q => h σ F H hs _ (wp_mono (wp_bind.1 q) fun a q1 vs F1 H1 hs1 e1 r1 => by
  obtain ⟨ds, e2, d, hl⟩ := hd a vs F1 r1
  refine ⟨Nat.le_trans hl (by decide), fun p hp => ?_⟩
  obtain ⟨hs2, e3⟩ := hs1.laid (o := .tup vs) hp
  refine q1 (.ref p) _ _ hs2 (Same.trans e1 e3) ?_
  show Dq _ _ _ (enc (f a))
  rw [e2]
  exact .tup (.inl (.inl upd_same)) (dpAll_same e3 _ _ d))
theorem ev_tup {α : Type} [Enc α] {t : TA} {m : Prog (List α)} (h : EVA N Γ t m (fun xs vs F => DqAll G.K F vs (xs.map enc))) : EV N Γ (tTup t) (m >>= fun xs => if xs.length ≤ 100000 then .ok xs else .stuck) := fun σ F H hs Q q =>
  h σ F H hs _ (wp_mono (wp_bind.1 q) fun xs q1 vs F1 H1 hs1 e1 d => by
    by_cases hl : xs.length ≤ 100000
    · rw [if_pos hl] at q1
      have e := dpAll_length d
      rw [List.length_map] at e
      refine ⟨Nat.le_trans (by omega) (by decide : 100000 ≤ sizeLine), fun p hp => ?_⟩
      obtain ⟨hs2, e3⟩ := hs1.laid (o := .tup vs) hp
      exact q1 (.ref p) _ _ hs2 (Same.trans e1 e3) (.tup (.inl (.inl upd_same)) (dpAll_same e3 _ _ d))
    · rw [if_neg hl] at q1
      exact q1.elim)
theorem hs_newlist {σ : L2.St} {F H : Hp} (hs : HS N Γ σ F H) {p : Addr} {vs : List V} (hp : H p = none) : HS N Γ σ F (upd H p (.lst vs)) ∧ NewAt N Γ σ F p := by
  have fp : F p = none := Same.free hs.w.fh hp
  have nh : ¬ Held Γ σ p := fun x => by
    obtain ⟨_, ws, e⟩ := hs.held x
    rw [hp] at e; cases e
  have ns : ∀ q c, N.S = some (q, c) → p ≠ q ∧ p ≠ c := fun q c e => by
    obtain ⟨st, ix, cs, h1, h2, _⟩ := (hs.w.sr q c e).at_
    exact ⟨(ne_of_none h1 hp).symm, (ne_of_none h2 hp).symm⟩
  have no : N.O p = none := by
    cases z : N.O p with
    | none => rfl
    | some o => exact absurd (hs.w.os p o z).1.1 (by rw [hp]; intro y; cases y)
  refine ⟨hs.move ⟨fun a u e => ?_, hs.w.f0, hs.w.nw, fun a u nb e => ?_, fun a e => ?_, fun q c e => ?_, hs.w.sb, fun a u e => ?_⟩ (Same.refl F) (fun q ws hl e => ?_) fun q hl => (hs.held hl).1.f, ⟨⟨fp, hs.w.dm _ hp, ns⟩, hs.w.dm _ hp, nh, no⟩⟩
  · rw [upd_ne (ne_of_none e fp)]; exact hs.w.fh a u e
  · have x := hs.w.kp a u nb e
    rw [upd_ne (ne_of_none x hp)]; exact x
  · by_cases ha : a = p
    · subst ha; rw [upd_same] at e; cases e
    · rw [upd_ne ha] at e; exact hs.w.dm a e
  · have s := hs.w.sr q c e
    obtain ⟨st, ix, cs, h1, h2, r⟩ := s.at_
    exact ⟨s.fp, s.fc, s.ne, st, ix, cs, by rw [upd_ne (ne_of_none h1 hp)]; exact h1, by rw [upd_ne (ne_of_none h2 hp)]; exact h2, r⟩
  · have x := hs.w.os a u e
    exact ⟨⟨by rw [upd_ne (ne_of_none x.1.1 hp)]; exact x.1.1, x.1.2⟩, x.2⟩
  · rw [upd_ne (ne_of_none e hp)]; exact e
theorem evn_lst {α : Type} [Enc α] {t : TA} {m : Prog (List α)} (h : EVA N Γ t m (fun xs vs F => DqAll G.K F vs (xs.map enc))) : EVN N Γ (tLst t) (m >>= fun xs => if xs.length ≤ 100000 then .ok (xs : L α) else .stuck) := fun σ F H hs Q q =>
  h σ F H hs _ (wp_mono (wp_bind.1 q) fun xs q1 vs F1 H1 hs1 e1 d => by
    by_cases hl : xs.length ≤ 100000
    · rw [if_pos hl] at q1
      have e := dpAll_length d
      rw [List.length_map] at e
      refine ⟨Nat.le_trans (by omega) (by decide : 100000 ≤ sizeLine), fun p hp => ?_⟩
      obtain ⟨hs2, n⟩ := hs_newlist (vs := vs) hs1 hp
      exact q1 p vs _ _ hs2 e1 n upd_same d
    · rw [if_neg hl] at q1
      exact q1.elim)
/-! ### tests -/
theorem tv_test {m : Prog Bool} (h : EV N Γ te m) : TV N Γ (tTest te) m := fun σ F H hs Q q => h σ F H hs _ (wp_mono q fun b k v F' H' hs' e r => by
  have r' : Dq G.K F' v (.bool b) := r
  cases r'
  exact ⟨b, rfl, k F' H' hs' e⟩)
theorem tv_B {m : Prog Bool} (h : EV N Γ te m) : TV N Γ (tB te) m := fun σ F H hs Q q => h σ F H hs _ (wp_mono q fun b k v F' H' hs' e r => by
  have r' : Dq G.K F' v (.bool b) := r
  cases r'
  exact ⟨b, rfl, k F' H' hs' e⟩)
theorem tv_and {m1 m2 : Prog Bool} (h1 : TV N Γ tt m1) (h2 : TV N Γ tu m2) : TV N Γ (tAnd tt tu) (m1 >>= fun a => if a then m2 else .ok false) := fun σ F H hs Q q => h1 σ F H hs _ (wp_mono (wp_bind.1 q) fun b k F' H' hs' e => by
  cases b with
  | true => exact h2 σ F' H' hs' Q (wp_mono k fun b k2 F2 H2 hs2 e2 => k2 F2 H2 hs2 (Same.trans e e2))
  | false => exact k F' H' hs' e)
theorem tv_or {m1 m2 : Prog Bool} (h1 : TV N Γ tt m1) (h2 : TV N Γ tu m2) : TV N Γ (tOr tt tu) (m1 >>= fun a => if a then .ok true else m2) := fun σ F H hs Q q => h1 σ F H hs _ (wp_mono (wp_bind.1 q) fun b k F' H' hs' e => by
  cases b with
  | false => exact h2 σ F' H' hs' Q (wp_mono k fun b k2 F2 H2 hs2 e2 => k2 F2 H2 hs2 (Same.trans e e2))
  | true => exact k F' H' hs' e)
theorem tv_not {m1 : Prog Bool} (h1 : TV N Γ tt m1) : TV N Γ (tNot tt) (m1 >>= fun a => .ok (!a)) := fun σ F H hs Q q => h1 σ F H hs _ (wp_mono (wp_bind.1 q) fun b k F' H' hs' e => k F' H' hs' e)
theorem ev_and {m1 m2 : Prog Bool} (h1 : EV N Γ ta m1) (h2 : EV N Γ tb m2) : EV N Γ (tAndV ta tb) (m1 >>= fun a => if a then m2 else .ok false) := fun σ F H hs Q q => h1 σ F H hs _ (wp_mono (wp_bind.1 q) fun b k v F' H' hs' e r => by
  have r' : Dq G.K F' v (.bool b) := r
  cases r'
  refine ⟨b, rfl, ?_⟩
  cases b with
  | true => exact h2 σ F' H' hs' Q (wp_mono k fun b k2 v F2 H2 hs2 e2 r2 => k2 v F2 H2 hs2 (Same.trans e e2) r2)
  | false => exact k _ F' H' hs' e (.bl false))
theorem ev_or {m1 m2 : Prog Bool} (h1 : EV N Γ ta m1) (h2 : EV N Γ tb m2) : EV N Γ (tOrV ta tb) (m1 >>= fun a => if a then .ok true else m2) := fun σ F H hs Q q => h1 σ F H hs _ (wp_mono (wp_bind.1 q) fun b k v F' H' hs' e r => by
  have r' : Dq G.K F' v (.bool b) := r
  cases r'
  refine ⟨b, rfl, ?_⟩
  cases b with
  | false => exact h2 σ F' H' hs' Q (wp_mono k fun b k2 v F2 H2 hs2 e2 r2 => k2 v F2 H2 hs2 (Same.trans e e2) r2)
  | true => exact k _ F' H' hs' e (.bl true))
theorem ev_not {m1 : Prog Bool} (h1 : EV N Γ ta m1) : EV N Γ (tNotV ta) (m1 >>= fun a => .ok (!a)) := fun σ F H hs Q q => h1 σ F H hs _ (wp_mono (wp_bind.1 q) fun b k v F' H' hs' e r => by
  have r' : Dq G.K F' v (.bool b) := r
  cases r'
  exact ⟨b, rfl, k _ F' H' hs' e (.bl (!b))⟩)
theorem ev_if {m0 : Prog Bool} {m1 m2 : Prog α} (h0 : TV N Γ tt m0) (h1 : EV N Γ ta m1) (h2 : EV N Γ tb m2) : EV N Γ (tIf tt ta tb) (m0 >>= fun c => if c then m1 else m2) := fun σ F H hs Q q => h0 σ F H hs _ (wp_mono (wp_bind.1 q) fun b k F' H' hs' e => by
  cases b with
  | true => exact h1 σ F' H' hs' Q (wp_mono k fun b k2 v F2 H2 hs2 e2 r2 => k2 v F2 H2 hs2 (Same.trans e e2) r2)
  | false => exact h2 σ F' H' hs' Q (wp_mono k fun b k2 v F2 H2 hs2 e2 r2 => k2 v F2 H2 hs2 (Same.trans e e2) r2))
/-! ### statements -/
theorem HS.setPer {σ : L2.St} {F H : Hp} (hs : HS N Γ σ F H) (i : Nat) {a : α} {v : V} (r : iα.rp a v F) : HS N (Γ.set i (.per a)) (σ.set i (some v)) F H := by
  refine ⟨hs.w, hs.sl.set i ⟨v, rfl, r⟩, fun j k e e' p h1 h2 o1 o2 s1 s2 => ?_⟩
  have ne : ∀ {j : Nat} {e : Ent G}, (Γ.set i (.per a))[j]? = some e → e.own = true → j ≠ i := fun {j e} h o z => by
    subst z
    rw [List.getElem?_set] at h
    split at h
    · split at h
      · cases h; cases o
      · cases h
    · exact absurd rfl ‹_›
  have n1 := ne h1 o1
  have n2 := ne h2 o2
  rw [List.getElem?_set_ne (Ne.symm n1)] at h1 s1
  rw [List.getElem?_set_ne (Ne.symm n2)] at h2 s2
  exact hs.ds j k e e' p h1 h2 o1 o2 s1 s2
theorem HS.setOwn {α : Type} [Enc α] {σ : L2.St} {F H : Hp} (hs : HS N Γ σ F H) (i : Nat) {xs : List α} {p : Addr} {vs : List V} (n : NewAt N Γ σ F p) (hp : H p = some (.lst vs)) (d : DqAll G.K F vs (xs.map enc)) : HS N (Γ.set i (.lst xs)) (σ.set i (some (.ref p))) F H := by
  refine ⟨hs.w, hs.sl.set i ⟨p, vs, rfl, n.mine, hp, d⟩, fun j k e e' q h1 h2 o1 o2 s1 s2 => ?_⟩
  have at_ : ∀ {j : Nat} {e : Ent G}, (Γ.set i (.lst xs))[j]? = some e → e.own = true → (σ.set i (some (.ref p)))[j]? = some (some (.ref q)) → (j = i ∧ q = p) ∨ (j ≠ i ∧ Γ[j]? = some e ∧ σ[j]? = some (some (.ref q)) ∧ q ≠ p) := fun {j e} h o s => by
    by_cases hj : j = i
    · subst hj
      rw [List.getElem?_set] at s
      split at s
      · split at s
        · cases s; exact .inl ⟨rfl, rfl⟩
        · cases s
      · exact absurd rfl ‹_›
    · rw [List.getElem?_set_ne (Ne.symm hj)] at h s
      exact .inr ⟨hj, h, s, fun z => n.nh ⟨j, e, h, o, z ▸ s⟩⟩
  rcases at_ h1 o1 s1 with ⟨a1, b1⟩ | ⟨a1, b1, c1, d1⟩
  · rcases at_ h2 o2 s2 with ⟨a2, b2⟩ | ⟨a2, b2, c2, d2⟩
    · rw [a1, a2]
    · exact absurd b1 d2
  · rcases at_ h2 o2 s2 with ⟨a2, b2⟩ | ⟨a2, b2, c2, d2⟩
    · exact absurd b2 d1
    · exact hs.ds j k e e' q b1 b2 o1 o2 c1 c2
theorem sv_asg {i : Nat} {m : Prog α} {J : Aim ω} {k : α → Prog ω} (h : EV N Γ te m) (hk : ∀ a, SV N (Γ.set i (.per a)) tz J (k a)) : SV N Γ (tSeq (tAsg te (gName i)) tz) J (m >>= k) := fun σ F H D hs q =>
  h σ F H hs _ (wp_mono (wp_bind.1 q) fun a q1 v F1 H1 hs1 e1 r1 => hk a _ F1 H1 D (hs1.setPer i r1) (wp_mono q1 fun o x => J.mono e1 x))
theorem sv_asgN {α : Type} [Enc α] {i : Nat} {m : Prog (L α)} {J : Aim ω} {k : L α → Prog ω} (h : EVN N Γ te m) (hk : ∀ xs : List α, SV N (Γ.set i (.lst xs)) tz J (k xs)) : SV N Γ (tSeq (tAsg te (gName i)) tz) J (m >>= k) := fun σ F H D hs q =>
  h σ F H hs _ (wp_mono (wp_bind.1 q) fun xs q1 p vs F1 H1 hs1 e1 n hp d => hk xs _ F1 H1 D (hs1.setOwn i n hp d) (wp_mono q1 fun o x => J.mono e1 x))
theorem sv_drop {m : Prog α} {J : Aim ω} {k : Prog ω} (h : EV N Γ te m) (hk : SV N Γ tz J k) : SV N Γ (tSeq (tDrop te) tz) J (m >>= fun _ => k) := fun σ F H D hs q =>
  h σ F H hs _ (wp_mono (wp_bind.1 q) fun a q1 v F1 H1 hs1 e1 r1 => hk _ F1 H1 D hs1 (wp_mono q1 fun o x => J.mono e1 x))
theorem sv_next {β : Type} {Γi : β → Env G} {b : β} (hw : ∀ σ F H, HS N Γ σ F H → HS N (Γi b) σ F H) : SV N Γ tNext (JN N Γi) (.ok b) := fun σ F H D hs q => q σ F H (hw σ F H hs) (Same.refl F)
theorem sv_nextF {β : Type} {Γi : β → Env G} {b : β} {Jr : Aim ρ} (hw : ∀ σ F H, HS N Γ σ F H → HS N (Γi b) σ F H) : SV N Γ tNext (JF (JN N Γi) Jr) (.ok (.nx b)) := fun σ F H D hs q => q σ F H (hw σ F H hs) (Same.refl F)
theorem sv_ret [iρ : Rp G ρ] {m : Prog ρ} (h : EV N Γ te m) : SV N Γ (tSeq (tRet te) tz) (JR G N) m := fun σ F H D hs q =>
  h σ F H hs _ (wp_mono q fun a k v F1 H1 hs1 e1 r1 => k v F1 H1 hs1.w r1)
theorem sv_retF [iρ : Rp G ρ] {β : Type} {m : Prog ρ} {Jn : Aim β} (h : EV N Γ te m) : SV N Γ (tSeq (tRet te) tz) (JF Jn (JR G N)) (m >>= fun r => .ok (.rt r)) := fun σ F H D hs q =>
  h σ F H hs _ (wp_mono (wp_bind.1 q) fun a k v F1 H1 hs1 e1 r1 => k v F1 H1 hs1.w r1)
theorem sv_retN {α : Type} [Enc α] {m : Prog (L α)} (h : EVN N Γ te m) : SV N Γ (tSeq (tRet te) tz) (JRN G N) m := fun σ F H D hs q =>
  h σ F H hs _ (wp_mono q fun xs k p vs F1 H1 hs1 e1 n hp d => k p vs F1 H1 hs1.w n.mine n.h0 hp d)
theorem sv_retNF {α β : Type} [Enc α] {m : Prog (L α)} {Jn : Aim β} (h : EVN N Γ te m) : SV N Γ (tSeq (tRet te) tz) (JF Jn (JRN G N)) (m >>= fun r => .ok (.rt r)) := fun σ F H D hs q =>
  h σ F H hs _ (wp_mono (wp_bind.1 q) fun xs k p vs F1 H1 hs1 e1 n hp d => k p vs F1 H1 hs1.w n.mine n.h0 hp d)
/-- no slot's word but dead ones -/
def Wk : Env G → Env G → Prop
  | [], [] => True
  | e :: Γ, e' :: Γ' => (e' = .dead ∨ e = e') ∧ Wk Γ Γ'
  | _, _ => False
theorem Wk.get : ∀ {Γ Γ' : Env G}, Wk Γ Γ' → Γ.length = Γ'.length ∧ ∀ (i : Nat) (e : Ent G), Γ'[i]? = some e → e = .dead ∨ Γ[i]? = some e
  | [], [], _ => ⟨rfl, fun i e h => by simp at h⟩
  | [], _ :: _, h => h.elim
  | _ :: _, [], h => h.elim
  | e :: Γ, e' :: Γ', h => by
    obtain ⟨a, b⟩ := Wk.get (Γ := Γ) (Γ' := Γ') h.2
    refine ⟨congrArg (· + 1) a, fun i e2 q => ?_⟩
    cases i with
    | zero =>
      have q' : e' = e2 := Option.some.inj q
      subst q'
      exact h.1.imp id fun z => by rw [z]; rfl
    | succ i => exact b i e2 q
theorem Slots.of {F H : Hp} : ∀ {Γ : Env G} {σ : L2.St}, Γ.length = σ.length → (∀ (i : Nat) e o, Γ[i]? = some e → σ[i]? = some o → Sl N F H e o) → Slots N F H Γ σ
  | [], [], _, _ => trivial
  | [], _ :: _, h, _ => by cases h
  | _ :: _, [], h, _ => by cases h
  | e :: Γ, o :: σ, h, k => ⟨k 0 e o rfl rfl, Slots.of (Nat.succ.inj h) fun i e' o' a b => k (i + 1) e' o' a b⟩
theorem wk_hs (w : Wk Γ Γ') : ∀ σ F H, HS N Γ σ F H → HS N Γ' σ F H := fun σ F H hs => by
  obtain ⟨hl, hg⟩ := w.get
  refine ⟨hs.w, Slots.of (hl.symm.trans hs.sl.len) fun i e o h1 h2 => ?_, fun i j e e' p h1 h2 o1 o2 s1 s2 => ?_⟩
  · rcases hg i e h1 with z | z
    · subst z; trivial
    · obtain ⟨o', e1, s⟩ := hs.sl.get z
      rw [h2] at e1
      cases e1
      exact s
  · rcases hg i e h1 with z | z
    · subst z; cases o1
    · rcases hg j e' h2 with z' | z'
      · subst z'; cases o2
      · exact hs.ds i j e e' p z z' o1 o2 s1 s2
theorem sv_weak {J : Aim ω} {m : Prog ω} (w : Wk Γ Γ') (h : SV N Γ' ts J m) : SV N Γ ts J m := fun σ F H D hs q => h σ F H D (wk_hs w σ F H hs) q
/-- an if whose branch leaves, then the rest -/
theorem sv_ifret {J : Aim ω} {m0 : Prog Bool} {m1 m2 : Prog ω} (hr : J.Ret) (h0 : TV N Γ tt m0) (h1 : SV N Γ ts J m1) (h2 : SV N Γ tz J m2) : SV N Γ (tSeq (tIfS tt ts tNext) tz) J (m0 >>= fun c => if c then m1 else m2) := fun σ F H D hs q =>
  h0 σ F H hs _ (wp_mono (wp_bind.1 q) fun b k F' H' hs' e => by
    cases b with
    | true => exact h1 σ F' H' { D with nx := tz D } hs' (wp_mono k fun o x => hr _ o D _ rfl (J.mono e x))
    | false => exact h2 σ F' H' D hs' (wp_mono k fun o x => J.mono e x))
theorem sv_ifretF {Jr : Aim ρ} {J : Aim ω} {ret : ρ → ω} {m0 : Prog Bool} {m1 : Prog ρ} {m2 : Prog ω} (hr : J.To ret Jr) (h0 : TV N Γ tt m0) (h1 : SV N Γ ts Jr m1) (h2 : SV N Γ tz J m2) : SV N Γ (tSeq (tIfS tt ts tNext) tz) J (m0 >>= fun c => if c then m1 >>= (fun r => .ok (ret r)) else m2) := fun σ F H D hs q =>
  h0 σ F H hs _ (wp_mono (wp_bind.1 q) fun b k F' H' hs' e => by
    cases b with
    | true => exact h1 σ F' H' { D with nx := tz D } hs' (wp_mono (wp_bind.1 k) fun o x => hr _ o D _ rfl (J.mono e x))
    | false => exact h2 σ F' H' D hs' (wp_mono k fun o x => J.mono e x))
/-- both branches leave -/
theorem sv_ifelse {J : Aim ω} {m0 : Prog Bool} {m1 m2 : Prog ω} (hr : J.Ret) (h0 : TV N Γ tt m0) (h1 : SV N Γ ts J m1) (h2 : SV N Γ ts' J m2) : SV N Γ (tSeq (tIfS tt ts ts') tz) J (m0 >>= fun c => if c then m1 else m2) := fun σ F H D hs q =>
  h0 σ F H hs _ (wp_mono (wp_bind.1 q) fun b k F' H' hs' e => by
    cases b with
    | true => exact h1 σ F' H' { D with nx := tz D } hs' (wp_mono k fun o x => hr _ o D _ rfl (J.mono e x))
    | false => exact h2 σ F' H' { D with nx := tz D } hs' (wp_mono k fun o x => hr _ o D _ rfl (J.mono e x)))
theorem jr_ret [Rp G ρ] : (JR (ρ := ρ) G N).Ret := fun F r D D' e h v F' H' w x => e ▸ h v F' H' w x
theorem jrn_ret {α : Type} [Enc α] : (JRN (α := α) G N).Ret := fun F r D D' e h p vs F' H' a b c d x => e ▸ h p vs F' H' a b c d x
theorem jr_to {β : Type} {A : Aim β} {B : Aim ρ} (h : B.Ret) : (JF A B).To .rt B := fun F r D D' e x => h F r D D' e x
theorem jr_id {B : Aim ρ} (h : B.Ret) : B.To id B := fun F r D D' e x => h F r D D' e x
/-- the two branches, what they change said by b, then the rest -/
theorem sv_if {β : Type} {Γi : β → Env G} {J : Aim ω} {m0 : Prog Bool} {m1 m2 : Prog β} {k : β → Prog ω} (h0 : TV N Γ tt m0) (h1 : SV N Γ ts (JN N Γi) m1) (h2 : SV N Γ ts' (JN N Γi) m2) (h3 : ∀ b, SV N (Γi b) tz J (k b)) :
    SV N Γ (tSeq (tIfS tt ts ts') tz) J (m0 >>= fun c => (if c then m1 else m2) >>= k) := fun σ F H D hs q =>
  h0 σ F H hs _ (wp_mono (wp_bind.1 q) fun b q1 F' H' hs' e => by
    cases b with
    | true => exact h1 σ F' H' _ hs' (wp_mono (wp_bind.1 q1) fun b q2 σ2 F2 H2 hs2 e2 => h3 b σ2 F2 H2 D hs2 (wp_mono q2 fun o x => J.mono (Same.trans e e2) x))
    | false => exact h2 σ F' H' _ hs' (wp_mono (wp_bind.1 q1) fun b q2 σ2 F2 H2 hs2 e2 => h3 b σ2 F2 H2 D hs2 (wp_mono q2 fun o x => J.mono (Same.trans e e2) x)))
/-- .. that may also return -/
def flK {β : Type} (k : β → Prog ω) (ret : ρ → ω) : Fl β ρ → Prog ω
  | .nx b => k b
  | .rt r => .ok (ret r)
theorem flK_go {β : Type} {Γi : β → Env G} {J : Aim ω} {Jr : Aim ρ} {ret : ρ → ω} {k : β → Prog ω} (hr : J.To ret Jr) (h3 : ∀ b, SV N (Γi b) tz J (k b)) {F F' : Hp} {D D' : Ends} (e : Same F F') (o : Fl β ρ) (en : D'.nx = tz D) (er : D.rt = D'.rt) (x : wp (flK k ret o) (fun o => J.J F o D) (EP G N)) : (JF (JN N Γi) Jr).J F' o D' := by
  cases o with
  | nx b =>
    intro σ2 F2 H2 hs2 e2
    rw [en]
    exact h3 b σ2 F2 H2 D hs2 (wp_mono (show wp (k b) _ _ from x) fun o x => J.mono (Same.trans e e2) x)
  | rt r => exact hr F' r D _ er (J.mono e x)
theorem sv_ifF {β : Type} {Γi : β → Env G} {J : Aim ω} {Jr : Aim ρ} {ret : ρ → ω} {m0 : Prog Bool} {m1 m2 : Prog (Fl β ρ)} {k : β → Prog ω} (hr : J.To ret Jr) (h0 : TV N Γ tt m0) (h1 : SV N Γ ts (JF (JN N Γi) Jr) m1)
    (h2 : SV N Γ ts' (JF (JN N Γi) Jr) m2) (h3 : ∀ b, SV N (Γi b) tz J (k b)) : SV N Γ (tSeq (tIfS tt ts ts') tz) J (m0 >>= fun c => (if c then m1 else m2) >>= flK k ret) := fun σ F H D hs q =>
  h0 σ F H hs _ (wp_mono (wp_bind.1 q) fun b q1 F' H' hs' e => by
    cases b with
    | true => exact h1 σ F' H' _ hs' (wp_mono (wp_bind.1 q1) fun o x => flK_go hr h3 e o rfl rfl x)
    | false => exact h2 σ F' H' _ hs' (wp_mono (wp_bind.1 q1) fun o x => flK_go hr h3 e o rfl rfl x))
/-! ### loops -/
/-- what a walked thing yields: data, the heap as it is, or one new object laid -/
structure Gen (N : NN) (Γ : Env G) (F : Hp) (J : It) (xs : List α) : Prop where
  go : ∀ (i : Nat) σ F' H', HS N Γ σ F' H' → Same F F' → i < xs.length → J.go i H'
  yld : ∀ (i : Nat) (a : α) σ F' H' x H2, HS N Γ σ F' H' → Same F F' → xs[i]? = some a → J.yld i H' x H2 → (H2 = H' ∧ iα.rp a x F') ∨ ∃ T o, H' T = none ∧ H2 = upd H' T o ∧ iα.rp a x (upd F' T o)
  stop : ∀ (i : Nat) σ F' H', HS N Γ σ F' H' → Same F F' → xs.length ≤ i → J.stop i H'
def EVI (N : NN) (Γ : Env G) (wi : TI) (m : Prog (List α)) (Γl : Env G → Prop) : Prop := ∀ σ F H, HS N Γ σ F H → ∀ R : It → Hp → Prop, wp m (fun xs => ∀ F' H' J, HS N Γ σ F' H' → Same F F' → (∀ N1 Γ', Γl Γ' → Gen N1 Γ' F' J xs) → R J H') (EP G N) → wi σ H R
def foldP {β : Type} (f : β → α → Prog β) : List α → β → Prog β
  | [], b => .ok b
  | a :: r, b => f b a >>= fun b' => foldP f r b'
def foldF {β : Type} (f : β → α → Prog (Fl β ρ)) : List α → β → Prog (Fl β ρ)
  | [], b => .ok (.nx b)
  | a :: r, b => f b a >>= fun o => match o with
    | .nx b' => foldF f r b'
    | .rt x => .ok (.rt x)
/-- a for: what its turns change said by b; F1 the data known ahead -/
theorem for_core {βs : Type} {Γi : βs → Env G} {Γt : βs → α → Env G} {g : TG} {tb : TS} {D : Ends} {JJ : It} {xs : List α} {F1 : Hp} {b0 : βs} {σ : L2.St} {H1 : Hp} {Inv : Nat → βs → Prop} {bk : Ends}
    (h0 : HS N (Γi b0) σ F1 H1) (i0 : Inv 0 b0) (gen : ∀ b, Gen N (Γi b) F1 JJ xs) (hg : ∀ b a, GV N (Γi b) g a (Γt b a))
    (hb : ∀ i b a σ4 F4 H4 (N' : L2.St → Hp → Prop), xs[i]? = some a → Inv i b → HS N (Γt b a) σ4 F4 H4 → Same F1 F4 → (∀ b' σ5 F5 H5, Inv (i + 1) b' → HS N (Γi b') σ5 F5 H5 → Same F4 F5 → N' σ5 H5) → tb { D with nx := N', ct := N', bk := D.nx } σ4 H4)
    (hd : ∀ b σ2 F2 H2, Inv xs.length b → HS N (Γi b) σ2 F2 H2 → Same F1 F2 → D.nx σ2 H2) :
    ∃ W : Nat → Nat → L2.St → Hp → Prop, (∃ m, W 0 m σ H1) ∧ ∀ i m σ H, W i m σ H → (JJ.stop i H ∧ D.nx σ H) ∨ (JJ.go i H ∧ ∃ N : L2.St → Hp → Prop, (∀ σ' H', N σ' H' → ∃ m', m' < m ∧ W (i + 1) m' σ' H') ∧ ∀ x H', JJ.yld i H x H' → g x σ H' fun σ2 H2 => tb { D with nx := N, ct := N, bk := D.nx } σ2 H2) := by
  refine ⟨fun i m σ' H' => ∃ b F', HS N (Γi b) σ' F' H' ∧ Same F1 F' ∧ i ≤ xs.length ∧ m = xs.length - i ∧ Inv i b, ⟨_, b0, F1, h0, Same.refl F1, Nat.zero_le _, rfl, i0⟩, ?_⟩
  rintro i m σ2 H2 ⟨b, F2, hs2, e2, hle, rfl, q2⟩
  by_cases hi : i < xs.length
  · refine .inr ⟨(gen b).go i σ2 F2 H2 hs2 e2 hi, fun σ' H' => ∃ b F', HS N (Γi b) σ' F' H' ∧ Same F1 F' ∧ Inv (i + 1) b, ?_, fun x H3 hy => ?_⟩
    · rintro σ' H' ⟨b', F', hs', e', q'⟩
      exact ⟨xs.length - (i + 1), by omega, b', F', hs', e', hi, rfl, q'⟩
    · have ex : xs[i]? = some xs[i] := List.getElem?_eq_getElem hi
      have fin : ∀ F3, HS N (Γi b) σ2 F3 H3 → Same F1 F3 → iα.rp xs[i] x F3 → g x σ2 H3 fun σ4 H4 => tb { D with nx := fun σ' H' => ∃ b F', HS N (Γi b) σ' F' H' ∧ Same F1 F' ∧ Inv (i + 1) b, ct := fun σ' H' => ∃ b F', HS N (Γi b) σ' F' H' ∧ Same F1 F' ∧ Inv (i + 1) b, bk := D.nx } σ4 H4 := fun F3 hs3 e3 r3 =>
        hg b xs[i] σ2 F3 H3 x hs3 r3 _ fun σ4 F4 H4 hs4 e4 => hb i b xs[i] σ4 F4 H4 _ ex q2 hs4 (Same.trans e3 e4) fun b' σ5 F5 H5 q5 hs5 e5 => ⟨b', F5, hs5, Same.trans e3 (Same.trans e4 e5), q5⟩
      rcases (gen b).yld i xs[i] σ2 F2 H2 x H3 hs2 e2 ex hy with ⟨rfl, r⟩ | ⟨T, o, hT, rfl, r⟩
      · exact fin F2 hs2 e2 r
      · obtain ⟨hs3, e3⟩ := hs2.laid (o := o) hT
        exact fin _ hs3 (Same.trans e2 e3) r
  · have e : i = xs.length := by omega
    subst e
    exact .inl ⟨(gen b).stop _ σ2 F2 H2 hs2 e2 (Nat.le_refl _), hd b σ2 F2 H2 q2 hs2 e2⟩
theorem sv_for {βs : Type} {Γi : βs → Env G} {Γt : βs → α → Env G} {wi : TI} {g : TG} {tb : TS} {J : Aim ω} {mi : Prog (List α)} {body : βs → α → Prog βs} {k : βs → Prog ω} {b0 : βs} {Γl : Env G → Prop}
    (hi : EVI (α := α) N Γ wi mi Γl) (h0 : ∀ σ F H, HS N Γ σ F H → HS N (Γi b0) σ F H) (hl : ∀ b, Γl (Γi b)) (hg : ∀ b a, GV N (Γi b) g a (Γt b a)) (hb : ∀ b a, SV N (Γt b a) tb (JN N Γi) (body b a)) (hk : ∀ b, SV N (Γi b) tz J (k b)) :
    SV N Γ (tSeq (tFor wi g tb) tz) J (mi >>= fun xs => foldP body xs b0 >>= k) := fun σ F H D hs q =>
  hi σ F H hs _ (wp_mono (wp_bind.1 q) fun xs q1 F1 H1 JJ hs1 e1 gen =>
    for_core (D := { D with nx := tz D }) (Inv := fun i b => wp (foldP body (xs.drop i) b) (fun b' => wp (k b') (fun o => J.J F o D) (EP G N)) (EP G N)) (bk := D) (h0 σ F1 H1 hs1) (wp_bind.1 q1) (fun b => gen _ _ (hl b)) hg
      (fun i b a σ4 F4 H4 N' ex iv hs4 e4 kn => hb b a σ4 F4 H4 _ hs4 (by
        obtain ⟨hi, ex'⟩ := List.getElem?_eq_some_iff.mp ex
        rw [List.drop_eq_getElem_cons hi, ex'] at iv
        exact wp_mono (wp_bind.1 iv) fun b' x σ5 F5 H5 hs5 e5 => kn b' σ5 F5 H5 x hs5 e5))
      (fun b σ2 F2 H2 iv hs2 e2 => hk b σ2 F2 H2 D hs2 (by
        rw [List.drop_length] at iv
        exact wp_mono (show wp (k b) _ _ from iv) fun o x => J.mono (Same.trans e1 e2) x)))
/-- a for that may return -/
theorem sv_forF {βs : Type} {Γi : βs → Env G} {Γt : βs → α → Env G} {wi : TI} {g : TG} {tb : TS} {J : Aim ω} {Jr : Aim ρ} {ret : ρ → ω} {mi : Prog (List α)} {body : βs → α → Prog (Fl βs ρ)} {k : βs → Prog ω} {b0 : βs} {Γl : Env G → Prop} (hr : J.To ret Jr)
    (hi : EVI (α := α) N Γ wi mi Γl) (h0 : ∀ σ F H, HS N Γ σ F H → HS N (Γi b0) σ F H) (hl : ∀ b, Γl (Γi b)) (hg : ∀ b a, GV N (Γi b) g a (Γt b a)) (hb : ∀ b a, SV N (Γt b a) tb (JF (JN N Γi) Jr) (body b a)) (hk : ∀ b, SV N (Γi b) tz J (k b)) :
    SV N Γ (tSeq (tFor wi g tb) tz) J (mi >>= fun xs => foldF body xs b0 >>= flK k ret) := fun σ F H D hs q =>
  hi σ F H hs _ (wp_mono (wp_bind.1 q) fun xs q1 F1 H1 JJ hs1 e1 gen =>
    for_core (D := { D with nx := tz D }) (Inv := fun i b => wp (foldF body (xs.drop i) b) (fun o => wp (flK k ret o) (fun o => J.J F o D) (EP G N)) (EP G N)) (bk := D) (h0 σ F1 H1 hs1) (wp_bind.1 q1) (fun b => gen _ _ (hl b)) hg
      (fun i b a σ4 F4 H4 N' ex iv hs4 e4 kn => hb b a σ4 F4 H4 _ hs4 (by
        obtain ⟨hi, ex'⟩ := List.getElem?_eq_some_iff.mp ex
        rw [List.drop_eq_getElem_cons hi, ex'] at iv
        exact wp_mono (wp_bind.1 iv) fun o x => by
          cases o with
          | nx b' => exact fun σ5 F5 H5 hs5 e5 => kn b' σ5 F5 H5 x hs5 e5
          | rt r => exact hr _ r D _ rfl (J.mono (Same.trans e1 e4) x)))
      (fun b σ2 F2 H2 iv hs2 e2 => hk b σ2 F2 H2 D hs2 (by
        rw [List.drop_length] at iv
        exact wp_mono (show wp (k b) _ _ from iv) fun o x => J.mono (Same.trans e1 e2) x)))
/-- while, by fuel -/
def whileP {β : Type} (c : β → Prog Bool) (f : β → Prog β) : Nat → β → Prog β
  | 0, _ => .stuck
  | n + 1, b => c b >>= fun t => if t then f b >>= whileP c f n else .ok b
def whileF {β : Type} (c : β → Prog Bool) (f : β → Prog (Fl β ρ)) : Nat → β → Prog (Fl β ρ)
  | 0, _ => .stuck
  | n + 1, b => c b >>= fun t => if t then f b >>= (fun o => match o with
    | .nx b' => whileF c f n b'
    | .rt r => .ok (.rt r)) else .ok (.nx b)
theorem sv_while {βs : Type} {Γi : βs → Env G} {tb : TS} {J : Aim ω} {mc : βs → Prog Bool} {body : βs → Prog βs} {k : βs → Prog ω} {b0 : βs} {fuel : Nat}
    (h0 : ∀ σ F H, HS N Γ σ F H → HS N (Γi b0) σ F H) (hc : ∀ b, TV N (Γi b) tt (mc b)) (hb : ∀ b, SV N (Γi b) tb (JN N Γi) (body b)) (hk : ∀ b, SV N (Γi b) tz J (k b)) :
    SV N Γ (tSeq (tWhile tt tb) tz) J (whileP mc body fuel b0 >>= k) := fun σ F H D hs q => by
  refine ⟨fun n σ' H' => ∃ b F', HS N (Γi b) σ' F' H' ∧ Same F F' ∧ wp (whileP mc body n b) (fun b' => wp (k b') (fun o => J.J F o D) (EP G N)) (EP G N), ⟨fuel, b0, F, h0 σ F H hs, Same.refl F, wp_bind.1 q⟩, ?_⟩
  rintro n σ2 H2 ⟨b, F2, hs2, e2, q2⟩
  cases n with
  | zero => exact q2.elim
  | succ n =>
    refine hc b σ2 F2 H2 hs2 _ (wp_mono (wp_bind.1 q2) fun t q3 F3 H3 hs3 e3 => ?_)
    cases t with
    | true => exact ⟨_, fun σ' H' x => ⟨n, Nat.lt_succ_self n, x⟩, hb b σ2 F3 H3 _ hs3 (wp_mono (wp_bind.1 q3) fun b' q4 σ4 F4 H4 hs4 e4 => ⟨b', F4, hs4, Same.trans e2 (Same.trans e3 e4), q4⟩)⟩
    | false => exact hk b σ2 F3 H3 D hs3 (wp_mono (show wp (k b) _ _ from q3) fun o x => J.mono (Same.trans e2 e3) x)
theorem sv_whileF {βs : Type} {Γi : βs → Env G} {tb : TS} {J : Aim ω} {Jr : Aim ρ} {ret : ρ → ω} {mc : βs → Prog Bool} {body : βs → Prog (Fl βs ρ)} {k : βs → Prog ω} {b0 : βs} {fuel : Nat} (hr : J.To ret Jr)
    (h0 : ∀ σ F H, HS N Γ σ F H → HS N (Γi b0) σ F H) (hc : ∀ b, TV N (Γi b) tt (mc b)) (hb : ∀ b, SV N (Γi b) tb (JF (JN N Γi) Jr) (body b)) (hk : ∀ b, SV N (Γi b) tz J (k b)) :
    SV N Γ (tSeq (tWhile tt tb) tz) J (whileF mc body fuel b0 >>= flK k ret) := fun σ F H D hs q => by
  refine ⟨fun n σ' H' => ∃ b F', HS N (Γi b) σ' F' H' ∧ Same F F' ∧ wp (whileF mc body n b) (fun o => wp (flK k ret o) (fun o => J.J F o D) (EP G N)) (EP G N), ⟨fuel, b0, F, h0 σ F H hs, Same.refl F, wp_bind.1 q⟩, ?_⟩
  rintro n σ2 H2 ⟨b, F2, hs2, e2, q2⟩
  cases n with
  | zero => exact q2.elim
  | succ n =>
    refine hc b σ2 F2 H2 hs2 _ (wp_mono (wp_bind.1 q2) fun t q3 F3 H3 hs3 e3 => ?_)
    cases t with
    | true => exact ⟨_, fun σ' H' x => ⟨n, Nat.lt_succ_self n, x⟩, hb b σ2 F3 H3 _ hs3 (wp_mono (wp_bind.1 q3) fun o q4 => by
        cases o with
        | nx b' => exact fun σ4 F4 H4 hs4 e4 => ⟨b', F4, hs4, Same.trans e2 (Same.trans e3 e4), q4⟩
        | rt r => exact hr _ r D _ rfl (J.mono (Same.trans e2 e3) q4))⟩
    | false => exact hk b σ2 F3 H3 D hs3 (wp_mono (show wp (k b) _ _ from q3) fun o x => J.mono (Same.trans e2 e3) x)
end
end Ty

namespace Ty
open PySem PySem.Spec PyProof.Rows L2
open Enc (enc)
variable {G : Glob}
/-! ### calls -/
section
variable {N : NN} {Γ : Env G} {σ : L2.St} {F H F' H' : Hp}
/-- behind a call: the callee's world was N' -/
theorem HS.call {B : Addr → Prop} {S : Option (Addr × Addr)} {E : XK} (hs : HS N Γ σ F H) (hB : ∀ a, B a → ∃ p c, N.S = some (p, c) ∧ S = some (p, c) ∧ (a = p ∨ a = c)) (w : W ⟨F, H, B, S, E, fun _ => none⟩ F' H') : HS N Γ σ F' H' ∧ Same F F' := by
  have e : Same F F' := w.f0
  have fr : ∀ q o, F q = none → H q = some o → F' q = none := fun q o f h => by
    cases z : F' q with
    | none => rfl
    | some u =>
      rcases w.nw q u z with x | x
      · rw [show F q = some u from x] at f; cases f
      · rw [show H q = none from x] at h; cases h
  have kp : ∀ a o, ¬ B a → H a = some o → H' a = some o := w.kp
  refine ⟨hs.move ⟨w.fh, Same.trans hs.w.f0 e, fun a u z => ?_, fun a u nb h0 => ?_, fun a z => hs.w.dm a (w.dm a z), fun p c z => ?_, hs.w.sb, fun a u z => ?_⟩ e (fun q vs hl h => ?_) (fun q hl => ?_), e⟩
  · rcases w.nw a u z with x | x
    · exact hs.w.nw a u x
    · exact .inr (hs.w.dm a x)
  · refine kp a u (fun hb => ?_) (hs.w.kp a u nb h0)
    obtain ⟨p, c, hS, _, hac⟩ := hB a hb
    have sb := hs.w.sb p c hS
    rcases hac with r | r
    · subst r
      rcases sb.1 with x | x
      · rw [x] at h0; cases h0
      · exact nb x
    · subst r
      rcases sb.2 with x | x
      · rw [x] at h0; cases h0
      · exact nb x
  · have s := hs.w.sr p c z
    obtain ⟨st, ix, cs, h1, h2, r⟩ := s.at_
    by_cases hb : B p ∨ B c
    · have hS' : S = some (p, c) := by
        rcases hb with hb | hb
        · obtain ⟨p', c', a, b, _⟩ := hB _ hb
          rw [z] at a; cases a; exact b
        · obtain ⟨p', c', a, b, _⟩ := hB _ hb
          rw [z] at a; cases a; exact b
      exact w.sr p c hS'
    · exact ⟨fr p _ s.fp h1, fr c _ s.fc h2, s.ne, st, ix, cs, kp p _ (fun x => hb (.inl x)) h1, kp c _ (fun x => hb (.inr x)) h2, r⟩
  · obtain ⟨x, y⟩ := hs.w.os a u z
    refine ⟨⟨kp a u (fun hb => ?_) x.1, fr a u x.2 x.1⟩, y⟩
    obtain ⟨p, c, hS, _, hac⟩ := hB a hb
    rcases hac with r | r
    · exact (y p c hS).1 r
    · exact (y p c hS).2 r
  · refine kp q _ (fun hb => ?_) h
    obtain ⟨p, c, hS, _, hac⟩ := hB q hb
    have m := (hs.held hl).1.s p c hS
    rcases hac with r | r
    · exact m.1 r
    · exact m.2 r
  · obtain ⟨m, vs, h⟩ := hs.held hl
    exact fr q _ m.f h
theorem HS.newAt {E : XK} {B : Addr → Prop} {S : Option (Addr × Addr)} (hs : HS N Γ σ F H) {p : Addr} (m : Mine ⟨F, H, B, S, E, fun _ => none⟩ F' p) (h0 : H p = none) : NewAt N Γ σ F' p := by
  have no : N.O p = none := by
    cases z : N.O p with
    | none => rfl
    | some o => exact absurd (hs.w.os p o z).1.1 (by rw [h0]; intro y; cases y)
  refine ⟨⟨m.f, hs.w.dm p h0, fun q c e => ?_⟩, hs.w.dm p h0, fun hl => ?_, no⟩
  · obtain ⟨st, ix, cs, h1, h2, r⟩ := (hs.w.sr q c e).at_
    refine ⟨fun z => ?_, fun z => ?_⟩
    · rw [z, h1] at h0; cases h0
    · rw [z, h2] at h0; cases h0
  · obtain ⟨_, vs, h⟩ := hs.held hl
    rw [h0] at h; cases h
end
section
variable {α β γ ω ρ τ : Type} [iα : Rp G α] [iβ : Rp G β] [iγ : Rp G γ] [iρ : Rp G ρ]
def ra0 : Unit → List V → Hp → Prop := fun _ vs _ => vs = []
def raC (α : Type) [iα : Rp G α] (ra : τ → List V → Hp → Prop) : α × τ → List V → Hp → Prop := fun p vs F => ∃ v ws, vs = v :: ws ∧ iα.rp p.1 v F ∧ ra p.2 ws F
def NN.of (F H : Hp) (E : XK) : NN := ⟨F, H, fun _ => False, none, E, fun _ => none⟩
def NN.src (F H : Hp) (p c : Addr) (E : XK) : NN := ⟨F, H, fun a => a = p ∨ a = c, some (p, c), E, fun _ => none⟩
/-- the promise of a def: from data to data; to a new list; with the source of draws first -/
def SpF (G : Glob) {ρ τ : Type} [Rp G ρ] (ra : τ → List V → Hp → Prop) (f : τ → Prog ρ) : Sp := fun vs H Q E => ∃ F x, Same F H ∧ ra x vs F ∧
  wp (f x) (fun r => ∀ v F' H', W (.of F H E) F' H' → Rp.rp (G := G) r v F' → Q v H') (EP G (.of F H E))
def SpN (G : Glob) {α τ : Type} [Enc α] (ra : τ → List V → Hp → Prop) (f : τ → Prog (L α)) : Sp := fun vs H Q E => ∃ F x, Same F H ∧ ra x vs F ∧
  wp (f x) (fun (r : List α) => ∀ p ws F' H', W (.of F H E) F' H' → Mine (.of F H E) F' p → H p = none → H' p = some (.lst ws) → DqAll G.K F' ws (r.map enc) → Q (.ref p) H') (EP G (.of F H E))
def SpS (G : Glob) {ρ τ : Type} [Rp G ρ] (ra : τ → List V → Hp → Prop) (f : τ → Prog ρ) : Sp := fun vs H Q E => ∃ p c us F x, vs = .ref p :: us ∧ SrcAt p c F H ∧ Same F H ∧ ra x us F ∧
  wp (f x) (fun r => ∀ v F' H', W (.src F H p c E) F' H' → Rp.rp (G := G) r v F' → Q v H') (EP G (.src F H p c E))
def SpSN (G : Glob) {α τ : Type} [Enc α] (ra : τ → List V → Hp → Prop) (f : τ → Prog (L α)) : Sp := fun vs H Q E => ∃ p c us F x, vs = .ref p :: us ∧ SrcAt p c F H ∧ Same F H ∧ ra x us F ∧
  wp (f x) (fun (r : List α) => ∀ q ws F' H', W (.src F H p c E) F' H' → Mine (.src F H p c E) F' q → H q = none → H' q = some (.lst ws) → DqAll G.K F' ws (r.map enc) → Q (.ref q) H') (EP G (.src F H p c E))
variable {N : NN} {Γ Γ' : Env G} {te ta tb tc td tf : TE} {t : TA} {tt tu : TT} {tz ts ts' : TS}
theorem ep_of {F H : Hp} {σ : L2.St} {B : Addr → Prop} {S : Option (Addr × Addr)} {F1 H1 : Hp} (hs : HS N Γ σ F1 H1) (hB : ∀ a, B a → ∃ p c, N.S = some (p, c) ∧ S = some (p, c) ∧ (a = p ∨ a = c)) (e : Exc) (h : EP G N e) : EP G ⟨F1, H1, B, S, N.E, fun _ => none⟩ e :=
  fun F' H' C d w r => h F' H' C d (hs.call hB w).1.w r
theorem noB {N : NN} {S : Option (Addr × Addr)} : ∀ a : Addr, (fun _ => False : Addr → Prop) a → ∃ p c, N.S = some (p, c) ∧ S = some (p, c) ∧ (a = p ∨ a = c) := fun _ h => h.elim
theorem ev_call {ra : τ → List V → Hp → Prop} {f : τ → Prog ρ} {m : Prog τ} (h : EVA N Γ t m ra) : EV N Γ (tCall (SpF G ra f) [] N.E t) (m >>= f) := fun σ F H hs Q q =>
  h σ F H hs _ (wp_mono (wp_bind.1 q) fun x q1 vs F1 H1 hs1 e1 r1 => ⟨F1, x, hs1.w.fh, by rw [List.append_nil]; exact r1, wp_imp q1 (fun r k v F' H' w rr => by
    obtain ⟨hs2, e2⟩ := hs1.call noB w
    exact k v F' H' hs2 (Same.trans e1 e2) rr) fun e he => ep_of (F := F) (H := H) hs1 noB e he⟩)
theorem evn_call {α τ : Type} [Enc α] {ra : τ → List V → Hp → Prop} {f : τ → Prog (L α)} {m : Prog τ} (h : EVA N Γ t m ra) : EVN N Γ (tCall (SpN G ra f) [] N.E t) (m >>= f) := fun σ F H hs Q q =>
  h σ F H hs _ (wp_mono (wp_bind.1 q) fun x q1 vs F1 H1 hs1 e1 r1 => ⟨F1, x, hs1.w.fh, by rw [List.append_nil]; exact r1, wp_imp q1 (fun r k p ws F' H' w m h0 hp d => by
    obtain ⟨hs2, e2⟩ := hs1.call noB w
    exact k p ws F' H' hs2 (Same.trans e1 e2) (hs1.newAt m h0) hp d) fun e he => ep_of (F := F) (H := H) hs1 noB e he⟩)
theorem srcB {N : NN} {p c : Addr} (h : N.S = some (p, c)) : ∀ a : Addr, (fun a => a = p ∨ a = c : Addr → Prop) a → ∃ p' c', N.S = some (p', c') ∧ some (p, c) = some (p', c') ∧ (a = p' ∨ a = c') := fun a x => ⟨p, c, h, rfl, x⟩
theorem ev_callS {ra : τ → List V → Hp → Prop} {f : τ → Prog ρ} {m : Prog τ} {i : Nat} (hi : Γ[i]? = some .src) (h : EVA N Γ t m ra) : EV N Γ (tCall (SpS G ra f) [] N.E (tCons (tVar i) t)) (m >>= f) := fun σ F H hs Q q => by
  obtain ⟨o, e0, p, c, e2, hS⟩ := hs.sl.get hi
  subst e2
  refine ⟨.ref p, e0, h σ F H hs _ (wp_mono (wp_bind.1 q) fun x q1 vs F1 H1 hs1 e1 r1 => ⟨p, c, vs, F1, x, by rw [List.append_nil], hs1.w.sr p c hS, hs1.w.fh, r1, wp_imp q1 (fun r k v F' H' w rr => ?_) fun e he => ep_of (F := F) (H := H) hs1 (srcB hS) e he⟩)⟩
  obtain ⟨hs2, e2⟩ := hs1.call (srcB hS) w
  exact k v F' H' hs2 (Same.trans e1 e2) rr
theorem evn_callS {α τ : Type} [Enc α] {ra : τ → List V → Hp → Prop} {f : τ → Prog (L α)} {m : Prog τ} {i : Nat} (hi : Γ[i]? = some .src) (h : EVA N Γ t m ra) : EVN N Γ (tCall (SpSN G ra f) [] N.E (tCons (tVar i) t)) (m >>= f) := fun σ F H hs Q q => by
  obtain ⟨o, e0, p, c, e2, hS⟩ := hs.sl.get hi
  subst e2
  refine ⟨.ref p, e0, h σ F H hs _ (wp_mono (wp_bind.1 q) fun x q1 vs F1 H1 hs1 e1 r1 => ⟨p, c, vs, F1, x, by rw [List.append_nil], hs1.w.sr p c hS, hs1.w.fh, r1, wp_imp q1 (fun r k q ws F' H' w m h0 hp d => ?_) fun e he => ep_of (F := F) (H := H) hs1 (srcB hS) e he⟩)⟩
  obtain ⟨hs2, e2⟩ := hs1.call (srcB hS) w
  exact k q ws F' H' hs2 (Same.trans e1 e2) (hs1.newAt m h0) hp d
theorem raC_mono {ra : τ → List V → Hp → Prop} (h : ∀ a vs F F', Same F F' → ra a vs F → ra a vs F') : ∀ (a : α × τ) vs F F', Same F F' → raC (G := G) α ra a vs F → raC (G := G) α ra a vs F' := fun a vs F F' e ⟨v, ws, e1, r, q⟩ => ⟨v, ws, e1, Rp.mono e r, h _ _ _ _ e q⟩
theorem ra0_mono : ∀ (a : Unit) (vs : List V) (F F' : Hp), Same F F' → ra0 a vs F → ra0 a vs F' := fun _ _ _ _ _ h => h
variable {δ ε : Type} [iδ : Rp G δ] [iε : Rp G ε]
variable {m1 : Prog α} {m2 : Prog β} {m3 : Prog γ} {m4 : Prog δ} {m5 : Prog ε}
theorem eva1 (h1 : EV N Γ ta m1) : EVA N Γ (tCons ta tNil) (m1 >>= fun a => .ok (a, ())) (raC (G := G) α ra0) := eva_cons ra0_mono h1 eva_nil
theorem eva2 (h1 : EV N Γ ta m1) (h2 : EV N Γ tb m2) : EVA N Γ (tCons ta (tCons tb tNil)) (m1 >>= fun a => m2 >>= fun b => .ok (a, b, ())) (raC (G := G) α (raC (G := G) β ra0)) := by
  have h := eva_cons (raC_mono ra0_mono) h1 (eva1 h2)
  simp only [bind_bind, ok_bind] at h
  exact h
theorem eva3 (h1 : EV N Γ ta m1) (h2 : EV N Γ tb m2) (h3 : EV N Γ tc m3) : EVA N Γ (tCons ta (tCons tb (tCons tc tNil))) (m1 >>= fun a => m2 >>= fun b => m3 >>= fun c => .ok (a, b, c, ())) (raC (G := G) α (raC (G := G) β (raC (G := G) γ ra0))) := by
  have h := eva_cons (raC_mono (raC_mono ra0_mono)) h1 (eva2 h2 h3)
  simp only [bind_bind, ok_bind] at h
  exact h
theorem eva4 (h1 : EV N Γ ta m1) (h2 : EV N Γ tb m2) (h3 : EV N Γ tc m3) (h4 : EV N Γ td m4) : EVA N Γ (tCons ta (tCons tb (tCons tc (tCons td tNil)))) (m1 >>= fun a => m2 >>= fun b => m3 >>= fun c => m4 >>= fun d => .ok (a, b, c, d, ())) (raC (G := G) α (raC (G := G) β (raC (G := G) γ (raC (G := G) δ ra0)))) := by
  have h := eva_cons (raC_mono (raC_mono (raC_mono ra0_mono))) h1 (eva3 h2 h3 h4)
  simp only [bind_bind, ok_bind] at h
  exact h
abbrev SpF1 (G : Glob) (α : Type) [Rp G α] (f : α → Prog ρ) [Rp G ρ] : Sp := SpF G (raC (G := G) α ra0) (fun p => f p.1)
abbrev SpF2 (G : Glob) (α β : Type) [Rp G α] [Rp G β] (f : α → β → Prog ρ) [Rp G ρ] : Sp := SpF G (raC (G := G) α (raC (G := G) β ra0)) (fun p => f p.1 p.2.1)
abbrev SpF3 (G : Glob) (α β γ : Type) [Rp G α] [Rp G β] [Rp G γ] (f : α → β → γ → Prog ρ) [Rp G ρ] : Sp := SpF G (raC (G := G) α (raC (G := G) β (raC (G := G) γ ra0))) (fun p => f p.1 p.2.1 p.2.2.1)
abbrev SpF4 (G : Glob) (α β γ δ : Type) [Rp G α] [Rp G β] [Rp G γ] [Rp G δ] (f : α → β → γ → δ → Prog ρ) [Rp G ρ] : Sp := SpF G (raC (G := G) α (raC (G := G) β (raC (G := G) γ (raC (G := G) δ ra0)))) (fun p => f p.1 p.2.1 p.2.2.1 p.2.2.2.1)
abbrev SpN1 (G : Glob) (α : Type) [Rp G α] {ρ : Type} [Enc ρ] (f : α → Prog (L ρ)) : Sp := SpN G (raC (G := G) α ra0) (fun p => f p.1)
abbrev SpN2 (G : Glob) (α β : Type) [Rp G α] [Rp G β] {ρ : Type} [Enc ρ] (f : α → β → Prog (L ρ)) : Sp := SpN G (raC (G := G) α (raC (G := G) β ra0)) (fun p => f p.1 p.2.1)
abbrev SpN3 (G : Glob) (α β γ : Type) [Rp G α] [Rp G β] [Rp G γ] {ρ : Type} [Enc ρ] (f : α → β → γ → Prog (L ρ)) : Sp := SpN G (raC (G := G) α (raC (G := G) β (raC (G := G) γ ra0))) (fun p => f p.1 p.2.1 p.2.2.1)
abbrev SpN4 (G : Glob) (α β γ δ : Type) [Rp G α] [Rp G β] [Rp G γ] [Rp G δ] {ρ : Type} [Enc ρ] (f : α → β → γ → δ → Prog (L ρ)) : Sp := SpN G (raC (G := G) α (raC (G := G) β (raC (G := G) γ (raC (G := G) δ ra0)))) (fun p => f p.1 p.2.1 p.2.2.1 p.2.2.2.1)
abbrev SpS0 (G : Glob) (f : Prog ρ) [Rp G ρ] : Sp := SpS G ra0 (fun _ => f)
abbrev SpS1 (G : Glob) (α : Type) [Rp G α] (f : α → Prog ρ) [Rp G ρ] : Sp := SpS G (raC (G := G) α ra0) (fun p => f p.1)
abbrev SpS2 (G : Glob) (α β : Type) [Rp G α] [Rp G β] (f : α → β → Prog ρ) [Rp G ρ] : Sp := SpS G (raC (G := G) α (raC (G := G) β ra0)) (fun p => f p.1 p.2.1)
abbrev SpS3 (G : Glob) (α β γ : Type) [Rp G α] [Rp G β] [Rp G γ] (f : α → β → γ → Prog ρ) [Rp G ρ] : Sp := SpS G (raC (G := G) α (raC (G := G) β (raC (G := G) γ ra0))) (fun p => f p.1 p.2.1 p.2.2.1)
theorem ev_call1 {f : α → Prog ρ} (h1 : EV N Γ ta m1) : EV N Γ (tCall (SpF1 G α f) [] N.E (tCons ta tNil)) (m1 >>= fun a => f a) := by
  have h := ev_call (f := fun p : α × Unit => f p.1) (eva1 h1)
  simp only [bind_bind, ok_bind] at h
  exact h
theorem ev_call2 {f : α → β → Prog ρ} (h1 : EV N Γ ta m1) (h2 : EV N Γ tb m2) : EV N Γ (tCall (SpF2 G α β f) [] N.E (tCons ta (tCons tb tNil))) (m1 >>= fun a => m2 >>= fun b => f a b) := by
  have h := ev_call (f := fun p : α × β × Unit => f p.1 p.2.1) (eva2 h1 h2)
  simp only [bind_bind, ok_bind] at h
  exact h
theorem ev_call3 {f : α → β → γ → Prog ρ} (h1 : EV N Γ ta m1) (h2 : EV N Γ tb m2) (h3 : EV N Γ tc m3) : EV N Γ (tCall (SpF3 G α β γ f) [] N.E (tCons ta (tCons tb (tCons tc tNil)))) (m1 >>= fun a => m2 >>= fun b => m3 >>= fun c => f a b c) := by
  have h := ev_call (f := fun p : α × β × γ × Unit => f p.1 p.2.1 p.2.2.1) (eva3 h1 h2 h3)
  simp only [bind_bind, ok_bind] at h
  exact h
theorem ev_call4 {f : α → β → γ → δ → Prog ρ} (h1 : EV N Γ ta m1) (h2 : EV N Γ tb m2) (h3 : EV N Γ tc m3) (h4 : EV N Γ td m4) : EV N Γ (tCall (SpF4 G α β γ δ f) [] N.E (tCons ta (tCons tb (tCons tc (tCons td tNil))))) (m1 >>= fun a => m2 >>= fun b => m3 >>= fun c => m4 >>= fun d => f a b c d) := by
  have h := ev_call (f := fun p : α × β × γ × δ × Unit => f p.1 p.2.1 p.2.2.1 p.2.2.2.1) (eva4 h1 h2 h3 h4)
  simp only [bind_bind, ok_bind] at h
  exact h
theorem evn_call1 {ζ : Type} [Enc ζ] {f : α → Prog (L ζ)} (h1 : EV N Γ ta m1) : EVN N Γ (tCall (SpN1 G α f) [] N.E (tCons ta tNil)) (m1 >>= fun a => f a) := by
  have h := evn_call (f := fun p : α × Unit => f p.1) (eva1 h1)
  simp only [bind_bind, ok_bind] at h
  exact h
theorem evn_call2 {ζ : Type} [Enc ζ] {f : α → β → Prog (L ζ)} (h1 : EV N Γ ta m1) (h2 : EV N Γ tb m2) : EVN N Γ (tCall (SpN2 G α β f) [] N.E (tCons ta (tCons tb tNil))) (m1 >>= fun a => m2 >>= fun b => f a b) := by
  have h := evn_call (f := fun p : α × β × Unit => f p.1 p.2.1) (eva2 h1 h2)
  simp only [bind_bind, ok_bind] at h
  exact h
theorem evn_call3 {ζ : Type} [Enc ζ] {f : α → β → γ → Prog (L ζ)} (h1 : EV N Γ ta m1) (h2 : EV N Γ tb m2) (h3 : EV N Γ tc m3) : EVN N Γ (tCall (SpN3 G α β γ f) [] N.E (tCons ta (tCons tb (tCons tc tNil)))) (m1 >>= fun a => m2 >>= fun b => m3 >>= fun c => f a b c) := by
  have h := evn_call (f := fun p : α × β × γ × Unit => f p.1 p.2.1 p.2.2.1) (eva3 h1 h2 h3)
  simp only [bind_bind, ok_bind] at h
  exact h
theorem evn_call4 {ζ : Type} [Enc ζ] {f : α → β → γ → δ → Prog (L ζ)} (h1 : EV N Γ ta m1) (h2 : EV N Γ tb m2) (h3 : EV N Γ tc m3) (h4 : EV N Γ td m4) : EVN N Γ (tCall (SpN4 G α β γ δ f) [] N.E (tCons ta (tCons tb (tCons tc (tCons td tNil))))) (m1 >>= fun a => m2 >>= fun b => m3 >>= fun c => m4 >>= fun d => f a b c d) := by
  have h := evn_call (f := fun p : α × β × γ × δ × Unit => f p.1 p.2.1 p.2.2.1 p.2.2.2.1) (eva4 h1 h2 h3 h4)
  simp only [bind_bind, ok_bind] at h
  exact h
theorem ev_callS0 {f : Prog ρ} {i : Nat} (hi : Γ[i]? = some .src) : EV N Γ (tCall (SpS0 G f) [] N.E (tCons (tVar i) tNil)) f := ev_callS (m := .ok ()) hi eva_nil
theorem ev_callS1 {f : α → Prog ρ} {i : Nat} (hi : Γ[i]? = some .src) (h1 : EV N Γ ta m1) : EV N Γ (tCall (SpS1 G α f) [] N.E (tCons (tVar i) (tCons ta tNil))) (m1 >>= fun a => f a) := by
  have h := ev_callS (f := fun p : α × Unit => f p.1) hi (eva1 h1)
  simp only [bind_bind, ok_bind] at h
  exact h
theorem ev_callS2 {f : α → β → Prog ρ} {i : Nat} (hi : Γ[i]? = some .src) (h1 : EV N Γ ta m1) (h2 : EV N Γ tb m2) : EV N Γ (tCall (SpS2 G α β f) [] N.E (tCons (tVar i) (tCons ta (tCons tb tNil)))) (m1 >>= fun a => m2 >>= fun b => f a b) := by
  have h := ev_callS (f := fun p : α × β × Unit => f p.1 p.2.1) hi (eva2 h1 h2)
  simp only [bind_bind, ok_bind] at h
  exact h
theorem ev_callS3 {f : α → β → γ → Prog ρ} {i : Nat} (hi : Γ[i]? = some .src) (h1 : EV N Γ ta m1) (h2 : EV N Γ tb m2) (h3 : EV N Γ tc m3) : EV N Γ (tCall (SpS3 G α β γ f) [] N.E (tCons (tVar i) (tCons ta (tCons tb (tCons tc tNil))))) (m1 >>= fun a => m2 >>= fun b => m3 >>= fun c => f a b c) := by
  have h := ev_callS (f := fun p : α × β × γ × Unit => f p.1 p.2.1 p.2.2.1) hi (eva3 h1 h2 h3)
  simp only [bind_bind, ok_bind] at h
  exact h
end
/-! ### a def of the text keeps its promise -/
section
variable {P : Program} {w : World} {mg : Str → Option Value} {base : Heap} {ρ τ : Type} [iρ : Rp G ρ]
/-- falls off its end -/
def JV (N : NN) : Aim Unit := ⟨fun _ _ D => (∀ F' H', W N F' H' → D.rt .non H') ∧ ∀ σ' F' H', W N F' H' → D.nx σ' H', fun _ h => h⟩
theorem sv_end {N : NN} {Γ : Env G} : SV N Γ tNext (JV N) (.ok ()) := fun σ F H D hs q => q.2 σ F H hs.w
theorem hs_start {ra : τ → List V → Hp → Prop} {Γ0 : τ → Env G} {Ns : List Str} {F H : Hp} {vs : List V} {x : τ} {E : XK} (e : Same F H) (h : ∀ N : NN, Slots N F H (Γ0 x) (start Ns vs)) (nown : ∀ (x : τ), ∀ e ∈ Γ0 x, e.own = false) : HS (.of F H E) (Γ0 x) (start Ns vs) F H :=
  ⟨⟨e, Same.refl F, fun a o h => .inl h, fun a o _ h => h, fun a h => h, fun p c h => (nomatch h), fun p c h => (nomatch h), fun a o h => (nomatch h)⟩, h _, fun i j e e' p h1 _ o1 => by
    have := nown x e (List.mem_of_getElem? h1)
    rw [o1] at this; cases this⟩
theorem hs_startS {ra : τ → List V → Hp → Prop} {Γ0 : τ → Env G} {Ns : List Str} {F H : Hp} {vs : List V} {x : τ} {E : XK} {p c : Addr} (e : Same F H) (sr : SrcAt p c F H) (h : ∀ N : NN, N.S = some (p, c) → Slots N F H (Γ0 x) (start Ns vs)) (nown : ∀ (x : τ), ∀ e ∈ Γ0 x, e.own = false) : HS (.src F H p c E) (Γ0 x) (start Ns vs) F H :=
  ⟨⟨e, Same.refl F, fun a o h => .inl h, fun a o _ h => h, fun a h => h, fun p' c' h => by cases h; exact sr, fun p' c' h => by cases h; exact ⟨.inr (.inl rfl), .inr (.inr rfl)⟩, fun a o h => (nomatch h)⟩, h _ rfl, fun i j e e' p h1 _ o1 => by
    have := nown x e (List.mem_of_getElem? h1)
    rw [o1] at this; cases this⟩
theorem fn_ok {x qual : Str} {st : Stmt} {f : Addr} {fd : FuncData} {Ns ps : List Str} {k : Nat} {ra : τ → List V → Hp → Prop} {g : τ → Prog ρ} (Fu : Fun G.K x qual st f fd) (S : FnScope Ns ps (defScope st)) (Γ0 : τ → Env G)
    (len : ∀ a vs F, ra a vs F → vs.length = ps.length) (h0 : ∀ (a : τ) vs F H (N : NN), ra a vs F → Slots N F H (Γ0 a) (start Ns vs)) (nown : ∀ (x : τ), ∀ e ∈ Γ0 x, e.own = false)
    (hbody : ∀ (cdv : Value) (A : Around) (outer : List PySem.Env) (s : Shared) (H F : Hp) (E : XK), Room k (A.deeper (envOfC qual (defScope st) s.heap.objs.size f cdv)) →
      ∃ t, PSs (cxOf (L2.CX P w) P w G.K mg base Ns qual (defScope st) f cdv A outer s H E) (defBody st) t ∧ ∀ a : τ, SV (.of F H E) (Γ0 a) t (JR G (.of F H E)) (g a)) : FnOk P w G.K mg base (L2.CX P w) (k + 1) f fd ps (SpF G ra g) :=
  Fu.okX S (fun vs H Q E ⟨F, a, _, r, _⟩ => len a vs F r) fun cdv A outer s H vs Q E hr ⟨F, a, e, r, q⟩ => by
    obtain ⟨t, hp, hv⟩ := hbody cdv A outer s H F E hr
    exact ⟨t, hp, hv a _ F H _ (hs_start (ra := ra) e (fun N => h0 a vs F H N r) nown) (wp_mono q fun r k v F' H' w rr => k v F' H' w rr)⟩
theorem fn_okV {x qual : Str} {st : Stmt} {f : Addr} {fd : FuncData} {Ns ps : List Str} {k : Nat} {ra : τ → List V → Hp → Prop} {g : τ → Prog Unit} (Fu : Fun G.K x qual st f fd) (S : FnScope Ns ps (defScope st)) (Γ0 : τ → Env G)
    (len : ∀ a vs F, ra a vs F → vs.length = ps.length) (h0 : ∀ (a : τ) vs F H (N : NN), ra a vs F → Slots N F H (Γ0 a) (start Ns vs)) (nown : ∀ (x : τ), ∀ e ∈ Γ0 x, e.own = false)
    (hbody : ∀ (cdv : Value) (A : Around) (outer : List PySem.Env) (s : Shared) (H F : Hp) (E : XK), Room k (A.deeper (envOfC qual (defScope st) s.heap.objs.size f cdv)) →
      ∃ t, PSs (cxOf (L2.CX P w) P w G.K mg base Ns qual (defScope st) f cdv A outer s H E) (defBody st) t ∧ ∀ a : τ, SV (.of F H E) (Γ0 a) t (JV (.of F H E)) (g a)) : FnOk P w G.K mg base (L2.CX P w) (k + 1) f fd ps (SpF G ra g) :=
  Fu.okX S (fun vs H Q E ⟨F, a, _, r, _⟩ => len a vs F r) fun cdv A outer s H vs Q E hr ⟨F, a, e, r, q⟩ => by
    obtain ⟨t, hp, hv⟩ := hbody cdv A outer s H F E hr
    exact ⟨t, hp, hv a _ F H _ (hs_start (ra := ra) e (fun N => h0 a vs F H N r) nown) (wp_mono q fun r k => ⟨fun F' H' w => k .non F' H' w .non, fun σ' F' H' w => k .non F' H' w .non⟩)⟩
theorem fn_okN {α : Type} [Enc α] {x qual : Str} {st : Stmt} {f : Addr} {fd : FuncData} {Ns ps : List Str} {k : Nat} {ra : τ → List V → Hp → Prop} {g : τ → Prog (L α)} (Fu : Fun G.K x qual st f fd) (S : FnScope Ns ps (defScope st)) (Γ0 : τ → Env G)
    (len : ∀ a vs F, ra a vs F → vs.length = ps.length) (h0 : ∀ (a : τ) vs F H (N : NN), ra a vs F → Slots N F H (Γ0 a) (start Ns vs)) (nown : ∀ (x : τ), ∀ e ∈ Γ0 x, e.own = false)
    (hbody : ∀ (cdv : Value) (A : Around) (outer : List PySem.Env) (s : Shared) (H F : Hp) (E : XK), Room k (A.deeper (envOfC qual (defScope st) s.heap.objs.size f cdv)) →
      ∃ t, PSs (cxOf (L2.CX P w) P w G.K mg base Ns qual (defScope st) f cdv A outer s H E) (defBody st) t ∧ ∀ a : τ, SV (.of F H E) (Γ0 a) t (JRN G (.of F H E)) (g a)) : FnOk P w G.K mg base (L2.CX P w) (k + 1) f fd ps (SpN G ra g) :=
  Fu.okX S (fun vs H Q E ⟨F, a, _, r, _⟩ => len a vs F r) fun cdv A outer s H vs Q E hr ⟨F, a, e, r, q⟩ => by
    obtain ⟨t, hp, hv⟩ := hbody cdv A outer s H F E hr
    exact ⟨t, hp, hv a _ F H _ (hs_start (ra := ra) e (fun N => h0 a vs F H N r) nown) (wp_mono q fun r k p ws F' H' w m h0 hp d => k p ws F' H' w m h0 hp d)⟩
theorem fn_okS {x qual : Str} {st : Stmt} {f : Addr} {fd : FuncData} {Ns ps : List Str} {k : Nat} {ra : τ → List V → Hp → Prop} {g : τ → Prog ρ} (Fu : Fun G.K x qual st f fd) (S : FnScope Ns ps (defScope st)) (Γ0 : τ → Env G)
    (len : ∀ a vs F, ra a vs F → vs.length + 1 = ps.length) (h0 : ∀ (a : τ) vs F H (N : NN) p c, N.S = some (p, c) → ra a vs F → Slots N F H (Γ0 a) (start Ns (.ref p :: vs))) (nown : ∀ (x : τ), ∀ e ∈ Γ0 x, e.own = false)
    (hbody : ∀ (cdv : Value) (A : Around) (outer : List PySem.Env) (s : Shared) (H F : Hp) (p c : Addr) (E : XK), Room k (A.deeper (envOfC qual (defScope st) s.heap.objs.size f cdv)) →
      ∃ t, PSs (cxOf (L2.CX P w) P w G.K mg base Ns qual (defScope st) f cdv A outer s H E) (defBody st) t ∧ ∀ a : τ, SV (.src F H p c E) (Γ0 a) t (JR G (.src F H p c E)) (g a)) : FnOk P w G.K mg base (L2.CX P w) (k + 1) f fd ps (SpS G ra g) :=
  Fu.okX S (fun vs H Q E ⟨p, c, us, F, a, e1, _, _, r, _⟩ => by rw [e1]; exact len a us F r) fun cdv A outer s H vs Q E hr ⟨p, c, us, F, a, e1, sr, e, r, q⟩ => by
    subst e1
    obtain ⟨t, hp, hv⟩ := hbody cdv A outer s H F p c E hr
    exact ⟨t, hp, hv a _ F H _ (hs_startS (ra := ra) e sr (fun N hS => h0 a us F H N p c hS r) nown) (wp_mono q fun r k v F' H' w rr => k v F' H' w rr)⟩
theorem fn_okSN {α : Type} [Enc α] {x qual : Str} {st : Stmt} {f : Addr} {fd : FuncData} {Ns ps : List Str} {k : Nat} {ra : τ → List V → Hp → Prop} {g : τ → Prog (L α)} (Fu : Fun G.K x qual st f fd) (S : FnScope Ns ps (defScope st)) (Γ0 : τ → Env G)
    (len : ∀ a vs F, ra a vs F → vs.length + 1 = ps.length) (h0 : ∀ (a : τ) vs F H (N : NN) p c, N.S = some (p, c) → ra a vs F → Slots N F H (Γ0 a) (start Ns (.ref p :: vs))) (nown : ∀ (x : τ), ∀ e ∈ Γ0 x, e.own = false)
    (hbody : ∀ (cdv : Value) (A : Around) (outer : List PySem.Env) (s : Shared) (H F : Hp) (p c : Addr) (E : XK), Room k (A.deeper (envOfC qual (defScope st) s.heap.objs.size f cdv)) →
      ∃ t, PSs (cxOf (L2.CX P w) P w G.K mg base Ns qual (defScope st) f cdv A outer s H E) (defBody st) t ∧ ∀ a : τ, SV (.src F H p c E) (Γ0 a) t (JRN G (.src F H p c E)) (g a)) : FnOk P w G.K mg base (L2.CX P w) (k + 1) f fd ps (SpSN G ra g) :=
  Fu.okX S (fun vs H Q E ⟨p, c, us, F, a, e1, _, _, r, _⟩ => by rw [e1]; exact len a us F r) fun cdv A outer s H vs Q E hr ⟨p, c, us, F, a, e1, sr, e, r, q⟩ => by
    subst e1
    obtain ⟨t, hp, hv⟩ := hbody cdv A outer s H F p c E hr
    exact ⟨t, hp, hv a _ F H _ (hs_startS (ra := ra) e sr (fun N hS => h0 a us F H N p c hS r) nown) (wp_mono q fun r k q ws F' H' w m h0 hp d => k q ws F' H' w m h0 hp d)⟩
end
end Ty

namespace Ty
open PySem PySem.Spec PyProof.Rows L2
open Enc (enc)
variable {G : Glob}
/-! ### plain functions of the mirrors -/
def cut {α : Type} (xs : List α) (lo hi : Option Int) : List α := (xs.drop (HT.sIx xs.length 0 lo)).take (HT.sIx xs.length xs.length hi - HT.sIx xs.length 0 lo)
def getI {α : Type} (xs : List α) (i : Int) : Prog α := match atI xs i with
  | some a => .ok a
  | none => .stuck
def memB {α : Type} [DecidableEq α] (a : α) (xs : List α) : Bool := decide (a ∈ xs)
theorem memB_eq {α : Type} [DecidableEq α] (a : α) (xs : List α) : memB a xs = decide (a ∈ xs) := rfl
def small (n : Nat) : Bool := decide (n ≤ 100000)
def chk {α : Type} (b : Bool) (m : Prog α) : Prog α := if b then m else .stuck
@[simp] theorem chk_true {α : Type} (m : Prog α) : chk true m = m := rfl
theorem wp_chk {α : Type} {b : Bool} {m : Prog α} {P : α → Prop} {E : Exc → Prop} (h : wp (chk b m) P E) : b = true ∧ wp m P E := by
  cases b with
  | true => exact ⟨rfl, h⟩
  | false => exact h.elim
theorem small_le {n : Nat} (h : small n = true) : n ≤ sizeLine := Nat.le_trans (of_decide_eq_true h) (by decide)
theorem small_lt {n : Nat} (h : small n = true) : n < sizeLine := Nat.lt_of_le_of_lt (of_decide_eq_true h) (by decide)

/-! ### scalars -/
class Scl (α : Type) [Enc α] where
  tv : α → V
  dp : ∀ {K : PySem.W.Frag} {F : Hp} {v : V} {a : α}, Dq K F v (enc a) → v = tv a
  pd : ∀ {K : PySem.W.Frag} {F : Hp} (a : α), Dq K F (tv a) (enc a)
  sc : ∀ a b : α, scal (tv a) (tv b) = true
  inj : ∀ a b : α, tv a = tv b → a = b
  fl : ∀ a : α, flatV (tv a) = true
  ev : ∀ a b : α, eqV (tv a) (tv b) = true ↔ a = b
instance : Scl Int := ⟨.int, fun h => by cases h; rfl, fun a => .int a, fun _ _ => rfl, fun a b e => by cases e; rfl, fun _ => rfl, fun a b => by
  show (a == b) = true ↔ _
  exact beq_iff_eq⟩
instance : Scl Bool := ⟨.bl, fun h => by cases h; rfl, fun a => .bl a, fun _ _ => rfl, fun a b e => by cases e; rfl, fun _ => rfl, fun a b => by
  show (a == b) = true ↔ _
  exact beq_iff_eq⟩
abbrev sx (s : Tx) : Str := ⟨s.toArray⟩
theorem sx_inj {a b : Tx} (h : sx a = sx b) : a = b := by
  have e := congrArg (fun x : Str => x.cps.toList) h
  exact e
instance : Scl (List Nat) := ⟨fun s => .str (sx s), fun h => by cases h; rfl, fun a => .str _, fun _ _ => rfl, fun a b e => sx_inj (V.str.inj e), fun _ => rfl, fun a b => by
  show (sx a == sx b) = true ↔ _
  rw [beq_iff_eq]
  exact ⟨sx_inj, fun e => by rw [e]⟩⟩
section
variable {α β γ : Type}
section
variable [Enc α] [Scl α]
theorem opv_eq [DecidableEq α] : OPV (G := G) (α := α) (β := α) (γ := Bool) rEq (fun a b => .ok (decide (a = b))) := fun N Γ σ F H x y a b hs ra rb Q q => by
  have e1 : x = Scl.tv a := Scl.dp ra
  have e2 : y = Scl.tv b := Scl.dp rb
  subst e1 e2
  have e : decide (Scl.tv a = Scl.tv b) = decide (a = b) := decide_eq_decide.2 ⟨Scl.inj a b, fun e => by rw [e]⟩
  exact ⟨Scl.sc a b, e ▸ q _ F H hs (Same.refl F) (.bl (decide (a = b)))⟩
theorem opv_ne [DecidableEq α] : OPV (G := G) (α := α) (β := α) (γ := Bool) rNe (fun a b => .ok (!decide (a = b))) := fun N Γ σ F H x y a b hs ra rb Q q => by
  have e1 : x = Scl.tv a := Scl.dp ra
  have e2 : y = Scl.tv b := Scl.dp rb
  subst e1 e2
  have e : decide (Scl.tv a = Scl.tv b) = decide (a = b) := decide_eq_decide.2 ⟨Scl.inj a b, fun e => by rw [e]⟩
  exact ⟨Scl.sc a b, by rw [e]; exact q _ F H hs (Same.refl F) (.bl _)⟩
theorem dpAll_scl {K : PySem.W.Frag} {F : Hp} : ∀ {xs : List α} {vs : List V}, DqAll K F vs (xs.map enc) → vs = xs.map Scl.tv
  | [], _, h => by cases h; rfl
  | x :: xs, _, h => by
    cases h with
    | cons h1 h2 => rw [Scl.dp h1, dpAll_scl h2]; rfl
theorem inV_scl [DecidableEq α] (a : α) : ∀ xs : List α, inV (Scl.tv a) (xs.map Scl.tv) = decide (a ∈ xs)
  | [] => by simp [inV]
  | x :: xs => by
    have ih := inV_scl a xs
    unfold inV at ih ⊢
    rw [List.map_cons, List.any_cons, ih]
    by_cases e : a = x
    · subst e
      have := (Scl.ev a a).2 rfl
      simp [this]
    · have : eqV (Scl.tv x) (Scl.tv a) = false := by
        cases h : eqV (Scl.tv x) (Scl.tv a) with
        | false => rfl
        | true => exact absurd ((Scl.ev x a).1 h).symm e
      simp [this, e]
theorem all_flat (xs : List α) : (xs.map Scl.tv).all flatV = true := by
  rw [List.all_eq_true]
  intro v hv
  obtain ⟨a, _, rfl⟩ := List.mem_map.1 hv
  exact Scl.fl a
theorem dp_tup {K : PySem.W.Frag} {F : Hp} {v : V} {xs : List α} (h : Dq K F v (.tuple (xs.map enc))) : ∃ p, v = .ref p ∧ SqT K F p (xs.map Scl.tv) := by
  cases h with
  | tup hs ha => exact ⟨_, rfl, dpAll_scl ha ▸ hs⟩
theorem dp_lst {K : PySem.W.Frag} {F : Hp} {v : V} {xs : List α} (h : Dq K F v (.list (xs.map enc))) : ∃ p, v = .ref p ∧ SqL K F p (xs.map Scl.tv) := by
  cases h with
  | lst hs ha => exact ⟨_, rfl, .inl (.inl (dpAll_scl ha ▸ hs))⟩
theorem opv_inT [DecidableEq α] : OPV (G := G) (α := α) (β := List α) (γ := Bool) (rIn G.K false) (fun a xs => .ok (memB a xs)) := fun N Γ σ F H x y a xs hs ra rb Q q => by
  have e1 : x = Scl.tv a := Scl.dp ra
  subst e1
  obtain ⟨p, rfl, hq⟩ := dp_tup rb
  exact ⟨p, _, rfl, .inr (sqt_same hs.w.fh hq), Scl.fl a, all_flat xs, by rw [if_neg Bool.false_ne_true, inV_scl]; exact q _ F H hs (Same.refl F) (.bl _)⟩
theorem opv_ninT [DecidableEq α] : OPV (G := G) (α := α) (β := List α) (γ := Bool) (rIn G.K true) (fun a xs => .ok (!memB a xs)) := fun N Γ σ F H x y a xs hs ra rb Q q => by
  have e1 : x = Scl.tv a := Scl.dp ra
  subst e1
  obtain ⟨p, rfl, hq⟩ := dp_tup rb
  exact ⟨p, _, rfl, .inr (sqt_same hs.w.fh hq), Scl.fl a, all_flat xs, by rw [if_pos rfl, inV_scl]; exact q _ F H hs (Same.refl F) (.bl _)⟩
theorem opv_inL [DecidableEq α] : OPV (G := G) (α := α) (β := L α) (γ := Bool) (rIn G.K false) (fun a (xs : L α) => .ok (memB a (un xs))) := fun N Γ σ F H x y a xs hs ra rb Q q => by
  have e1 : x = Scl.tv a := Scl.dp ra
  subst e1
  obtain ⟨p, rfl, hq⟩ := dp_lst rb
  exact ⟨p, _, rfl, .inl (sql_same hs.w.fh hq), Scl.fl a, all_flat _, Eq.mpr (congrArg (fun b => Q (.bl b) H) (inV_scl a xs)) (q _ F H hs (Same.refl F) (.bl _))⟩
theorem opv_ninL [DecidableEq α] : OPV (G := G) (α := α) (β := L α) (γ := Bool) (rIn G.K true) (fun a (xs : L α) => .ok (!memB a (un xs))) := fun N Γ σ F H x y a xs hs ra rb Q q => by
  have e1 : x = Scl.tv a := Scl.dp ra
  subst e1
  obtain ⟨p, rfl, hq⟩ := dp_lst rb
  exact ⟨p, _, rfl, .inl (sql_same hs.w.fh hq), Scl.fl a, all_flat _, Eq.mpr (congrArg (fun b => Q (.bl (!b)) H) (inV_scl a xs)) (q _ F H hs (Same.refl F) (.bl _))⟩
end
/-! ints -/
theorem opv_I0 {f : Int → Int → Int} : OPV (G := G) (α := Int) (β := Int) (γ := Int) (rI0 fun i j => .int (f i j)) (fun a b => .ok (f a b)) := fun N Γ σ F H x y a b hs ra rb Q q => by
  have e1 : x = .int a := Scl.dp ra
  have e2 : y = .int b := Scl.dp rb
  exact ⟨a, b, e1, e2, q _ F H hs (Same.refl F) (.int _)⟩
theorem opv_B0 {f : Int → Int → Bool} : OPV (G := G) (α := Int) (β := Int) (γ := Bool) (rI0 fun i j => .bl (f i j)) (fun a b => .ok (f a b)) := fun N Γ σ F H x y a b hs ra rb Q q => by
  have e1 : x = .int a := Scl.dp ra
  have e2 : y = .int b := Scl.dp rb
  exact ⟨a, b, e1, e2, q _ F H hs (Same.refl F) (.bl _)⟩
theorem opv_I {C : Int → Int → Prop} {f : Int → Int → Int} (c : Int → Int → Bool) (hc : ∀ i j, c i j = true → C i j) : OPV (G := G) (α := Int) (β := Int) (γ := Int) (rI C fun i j => .int (f i j)) (fun a b => chk (c a b) (.ok (f a b))) := fun N Γ σ F H x y a b hs ra rb Q q => by
  have e1 : x = .int a := Scl.dp ra
  have e2 : y = .int b := Scl.dp rb
  obtain ⟨h, q⟩ := wp_chk q
  exact ⟨a, b, e1, e2, hc a b h, q _ F H hs (Same.refl F) (.int _)⟩
def cMul (i j : Int) : Bool := decide (i.natAbs < 2 ^ 63) || decide (j.natAbs < 2 ^ 63)
theorem cMul_ok (i j : Int) (h : cMul i j = true) : CMul i j := by
  rcases Bool.or_eq_true_iff.1 h with h | h
  · have := of_decide_eq_true h
    left; omega
  · have := of_decide_eq_true h
    right; omega
def cPos (_ j : Int) : Bool := decide (0 < j)
theorem cPos_ok (i j : Int) (h : cPos i j = true) : 0 < j := of_decide_eq_true h
def cDiv (_ j : Int) : Bool := decide (0 < j) && decide (j.natAbs.log2 < 9000)
theorem cDiv_ok (i j : Int) (h : cDiv i j = true) : CDivW i j := by
  obtain ⟨a, b⟩ := Bool.and_eq_true_iff.1 h
  exact ⟨of_decide_eq_true a, of_decide_eq_true b⟩
def cPow (i j : Int) : Bool := decide (0 ≤ j) && decide (j ≤ 100) && decide (i.natAbs < 2 ^ 63)
theorem cPow_ok (i j : Int) (h : cPow i j = true) : CPow i j := by
  obtain ⟨a, b⟩ := Bool.and_eq_true_iff.1 h
  obtain ⟨a, c⟩ := Bool.and_eq_true_iff.1 a
  have b := of_decide_eq_true b
  have c := of_decide_eq_true c
  exact ⟨of_decide_eq_true a, by omega, by omega⟩
theorem unv_neg : UNV (G := G) (α := Int) (γ := Int) (rU fun i => .int (-i)) (fun a => .ok (-a)) := fun N Γ σ F H x a hs ra Q q => by
  have e1 : x = .int a := Scl.dp ra
  exact ⟨a, e1, q _ F H hs (Same.refl F) (.int _)⟩
/-! texts -/
theorem opv_addS : OPV (G := G) (α := Tx) (β := Tx) (γ := Tx) (fun x y H Q => ∃ i j, x = .str i ∧ y = .str j ∧ i.length + j.length ≤ sizeLine ∧ Q (.str (i ++ j)) H) (fun a b => chk (small (a.length + b.length)) (.ok (a ++ b))) := fun N Γ σ F H x y a b hs ra rb Q q => by
  have e1 : x = .str (sx a) := Scl.dp (α := Tx) ra
  have e2 : y = .str (sx b) := Scl.dp (α := Tx) rb
  obtain ⟨h, q⟩ := wp_chk q
  refine ⟨sx a, sx b, e1, e2, by have := small_le h; simpa [Str.length, sx] using this, ?_⟩
  have e : (sx a ++ sx b : Str) = sx (a ++ b) := by
    show (⟨a.toArray ++ b.toArray⟩ : Str) = _
    simp [sx]
  rw [e]
  exact q _ F H hs (Same.refl F) (.str _)
/-! == of data -/
def eqP [Enc α] [Enc β] (a : α) (b : β) : Prog Bool := chk (SeqAt.shaped (enc a) && SeqAt.shaped (enc b)) (.ok (PyData.eqv (enc a) (enc b)))
def neP [Enc α] [Enc β] (a : α) (b : β) : Prog Bool := chk (SeqAt.shaped (enc a) && SeqAt.shaped (enc b)) (.ok (!PyData.eqv (enc a) (enc b)))
theorem opv_eqD [Enc α] [Enc β] : OPV (G := G) (α := α) (β := β) (γ := Bool) (rEqD G.K) eqP := fun N Γ σ F H x y a b hs ra rb Q q => by
  obtain ⟨h, q⟩ := wp_chk q
  obtain ⟨h1, h2⟩ := Bool.and_eq_true_iff.1 h
  exact ⟨enc a, enc b, dq_dp _ _ (dp_same hs.w.fh _ _ ra), dq_dp _ _ (dp_same hs.w.fh _ _ rb), h1, h2, q _ F H hs (Same.refl F) (.bl _)⟩
theorem opv_neD [Enc α] [Enc β] : OPV (G := G) (α := α) (β := β) (γ := Bool) (rNeD G.K) neP := fun N Γ σ F H x y a b hs ra rb Q q => by
  obtain ⟨h, q⟩ := wp_chk q
  obtain ⟨h1, h2⟩ := Bool.and_eq_true_iff.1 h
  exact ⟨enc a, enc b, dq_dp _ _ (dp_same hs.w.fh _ _ ra), dq_dp _ _ (dp_same hs.w.fh _ _ rb), h1, h2, q _ F H hs (Same.refl F) (.bl _)⟩
/-! x is None -/
class Noneness (α : Type) [Enc α] where
  isN : α → Bool
  ok : ∀ {K : PySem.W.Frag} {F : Hp} {v : V} {a : α}, Dq K F v (enc a) → decide (v = .non) = isN a
instance : Noneness PyData := ⟨fun d => match d with | .none => true | _ => false, fun {K F v a} h => by
  have h' : Dq K F v a := h
  cases h' <;> rfl⟩
class NotNone (α : Type) [Enc α] : Prop where
  nn : ∀ {K : PySem.W.Frag} {F : Hp} {v : V} {a : α}, Dq K F v (enc a) → v ≠ .non
instance : NotNone Int := ⟨fun h => by cases h; intro z; cases z⟩
instance : NotNone Bool := ⟨fun h => by cases h; intro z; cases z⟩
instance : NotNone (List Nat) := ⟨fun h => by cases h; intro z; cases z⟩
instance {α : Type} [Enc α] : NotNone (List α) := ⟨fun h => by
  have h' : Dq _ _ _ (.tuple _) := h
  cases h'; intro z; cases z⟩
instance {α : Type} [Enc α] : NotNone (L α) := ⟨fun h => by
  have h' : Dq _ _ _ (.list _) := h
  cases h'; intro z; cases z⟩
instance {α β : Type} [Enc α] [Enc β] : NotNone (α × β) := ⟨fun h => by
  have h' : Dq _ _ _ (.tuple _) := h
  cases h'; intro z; cases z⟩
instance {α β γ : Type} [Enc α] [Enc β] [Enc γ] : NotNone (T3 α β γ) := ⟨fun h => by
  have h' : Dq _ _ _ (.tuple _) := h
  cases h'; intro z; cases z⟩
instance {α β γ δ : Type} [Enc α] [Enc β] [Enc γ] [Enc δ] : NotNone (T4 α β γ δ) := ⟨fun h => by
  have h' : Dq _ _ _ (.tuple _) := h
  cases h'; intro z; cases z⟩
instance {α : Type} [Enc α] [NotNone α] : Noneness (Option α) := ⟨fun o => o.isNone, fun {K F v a} h => by
  cases a with
  | none =>
    have h' : Dq K F v .none := h
    cases h'; rfl
  | some a => exact decide_eq_false (NotNone.nn (a := a) h)⟩
def rIsNone : R2 := fun x y H Q => y = .non ∧ Q (.bl (decide (x = .non))) H
def rNotNone : R2 := fun x y H Q => y = .non ∧ Q (.bl (!decide (x = .non))) H
theorem ev_isN [Enc α] [Noneness α] {N : NN} {Γ : Env G} {ta : TE} {m : Prog α} (h : EV N Γ ta m) : EV N Γ (tOp (fun x y H Q => y = .non ∧ Q (.bl (decide (x = .non))) H) ta (tC .non)) (m >>= fun a => .ok (Noneness.isN a)) := fun σ F H hs Q q =>
  h σ F H hs _ (wp_mono (wp_bind.1 q) fun a k v F1 H1 hs1 e1 r1 => ⟨rfl, by rw [Noneness.ok r1]; exact k _ F1 H1 hs1 e1 (.bl _)⟩)
theorem ev_notN [Enc α] [Noneness α] {N : NN} {Γ : Env G} {ta : TE} {m : Prog α} (h : EV N Γ ta m) : EV N Γ (tOp (fun x y H Q => y = .non ∧ Q (.bl (!decide (x = .non))) H) ta (tC .non)) (m >>= fun a => .ok (!Noneness.isN a)) := fun σ F H hs Q q =>
  h σ F H hs _ (wp_mono (wp_bind.1 q) fun a k v F1 H1 hs1 e1 r1 => ⟨rfl, by rw [Noneness.ok r1]; exact k _ F1 H1 hs1 e1 (.bl _)⟩)
end
/-! ### chains, subscripts, slices -/
section
variable {α β γ δ ω : Type} [iα : Rp G α] [iβ : Rp G β] [iγ : Rp G γ] {N : NN} {Γ Γ' : Env G} {te ta tb tc : TE} {tt tu : TT} {tz : TS}
theorem ev_chain {r r' : R2} {g : α → β → Prog Bool} {g' : β → γ → Prog Bool} {m1 : Prog α} {m2 : Prog β} {m3 : Prog γ} (h1 : EV N Γ ta m1) (h2 : EV N Γ tb m2) (h3 : EV N Γ tc m3) (ho : OPV (G := G) r g) (ho' : OPV (G := G) r' g') :
    EV N Γ (tChain r r' ta tb tc) (m1 >>= fun a => m2 >>= fun b => g a b >>= fun k => if k then m3 >>= fun c => g' b c else .ok false) := fun σ F H hs Q q =>
  h1 σ F H hs _ (wp_mono (wp_bind.1 q) fun a q1 x F1 H1 hs1 e1 r1 => h2 σ F1 H1 hs1 _ (wp_mono (wp_bind.1 q1) fun b q2 y F2 H2 hs2 e2 r2 =>
    ho N Γ σ F2 H2 x y a b hs2 (Rp.mono e2 r1) r2 _ (wp_mono (wp_bind.1 q2) fun k q3 z F3 H3 hs3 e3 r3 => by
      have e : z = .bl k := Scl.dp (α := Bool) r3
      refine ⟨k, e, ?_⟩
      cases k with
      | true => exact h3 σ F3 H3 hs3 _ (wp_mono (wp_bind.1 q3) fun c q4 z' F4 H4 hs4 e4 r4 => ho' N Γ σ F4 H4 y z' b c hs4 (Rp.mono (Same.trans e3 e4) r2) r4 Q (wp_mono q4 fun d q5 v F5 H5 hs5 e5 r5 => q5 v F5 H5 hs5 (Same.trans e1 (Same.trans e2 (Same.trans e3 (Same.trans e4 e5)))) r5))
      | false => exact q3 _ F3 H3 hs3 (Same.trans e1 (Same.trans e2 e3)) (.bl false))))
theorem dpAll_at {K : PySem.W.Frag} {F : Hp} {α : Type} [Enc α] : ∀ {xs : List α} {vs : List V} {j : Nat} {a : α}, DqAll K F vs (xs.map enc) → xs[j]? = some a → ∃ v, vs[j]? = some v ∧ Dq K F v (enc a)
  | [], _, _, _, _, h => by simp at h
  | x :: xs, _, 0, a, h, e => by
    cases h with
    | cons h1 h2 =>
      have e1 : x = a := Option.some.inj e
      subst e1
      exact ⟨_, rfl, h1⟩
  | x :: xs, _, j + 1, a, h, e => by
    cases h with
    | cons h1 h2 => exact dpAll_at (j := j) h2 e
theorem dpAll_len {K : PySem.W.Frag} {F : Hp} {α : Type} [Enc α] {xs : List α} {vs : List V} (h : DqAll K F vs (xs.map enc)) : vs.length = xs.length := by
  have e := dpAll_length h
  rw [List.length_map] at e
  exact e
theorem atI_dp {K : PySem.W.Frag} {F : Hp} {α : Type} [Enc α] {xs : List α} {vs : List V} {i : Int} {a : α} (h : DqAll K F vs (xs.map enc)) (e : atI xs i = some a) : ∃ v, atI vs i = some v ∧ Dq K F v (enc a) := by
  unfold atI at e ⊢
  rw [dpAll_len h]
  cases hj : ixN xs.length i with
  | none => rw [hj] at e; cases e
  | some j =>
    rw [hj] at e
    exact dpAll_at h e
theorem wp_getI {α : Type} {xs : List α} {i : Int} {P : α → Prop} {E : Exc → Prop} (h : wp (getI xs i) P E) : ∃ a, atI xs i = some a ∧ P a := by
  unfold getI at h
  cases e : atI xs i with
  | none => rw [e] at h; exact h.elim
  | some a => rw [e] at h; exact ⟨a, rfl, h⟩
theorem opv_ixT {α : Type} [Enc α] : OPV (G := G) (α := List α) (β := Int) (γ := α) (rIxT G.K) (fun xs i => getI xs i) := fun N Γ σ F H x y xs i hs ra rb Q q => by
  have e2 : y = .int i := Scl.dp rb
  obtain ⟨a, e, q⟩ := wp_getI q
  have h : Dq G.K F x (.tuple (xs.map enc)) := ra
  cases h with
  | tup hq ha =>
    obtain ⟨v, e3, d⟩ := atI_dp ha e
    exact ⟨_, _, i, v, rfl, e2, sqt_same hs.w.fh hq, e3, q v F H hs (Same.refl F) d⟩
theorem opv_ixL {α : Type} [Enc α] : OPV (G := G) (α := L α) (β := Int) (γ := α) (rIxL G.K) (fun (xs : List α) i => getI xs i) := fun N Γ σ F H x y xs i hs ra rb Q q => by
  have e2 : y = .int i := Scl.dp rb
  obtain ⟨a, e, q⟩ := wp_getI q
  have h : Dq G.K F x (.list (List.map enc xs)) := ra
  cases h with
  | lst hq0 ha =>
    have hq := Rd.of hq0
    obtain ⟨v, e3, d⟩ := atI_dp ha e
    exact ⟨_, _, i, v, rfl, e2, sql_same hs.w.fh (.inl hq), e3, q v F H hs (Same.refl F) d⟩
def getS (s : Tx) (i : Int) : Prog Tx := chk (small s.length) (getI s i >>= fun c => .ok [c])
theorem opv_ixS : OPV (G := G) (α := Tx) (β := Int) (γ := Tx) rIxS getS := fun N Γ σ F H x y s i hs ra rb Q q => by
  have e1 : x = .str (sx s) := Scl.dp (α := Tx) ra
  have e2 : y = .int i := Scl.dp rb
  obtain ⟨h, q⟩ := wp_chk q
  obtain ⟨c, e, q⟩ := wp_getI (wp_bind.1 q)
  exact ⟨sx s, i, c, e1, e2, by simpa [Str.length, sx] using small_le h, e, q _ F H hs (Same.refl F) (.str _)⟩
/-- a fixed place of a tuple or list of several kinds -/
theorem ev_at {τ α : Type} [Enc τ] [Enc α] {f : τ → α} {r : R2} {k : Int} {m : Prog τ} (hr : ∀ (t : τ) (x : V) F H (Q : VK), Dq G.K F x (enc t) → Same F H → (∀ v, Dq G.K F v (enc (f t)) → Q v H) → r x (.int k) H Q) (h : EV N Γ ta m) :
    EV N Γ (tOp r ta (tC (.int k))) (m >>= fun t => .ok (f t)) := fun σ F H hs Q q =>
  h σ F H hs _ (wp_mono (wp_bind.1 q) fun t q1 x F1 H1 hs1 e1 r1 => hr t x F1 H1 Q r1 hs1.w.fh fun v d => q1 v F1 H1 hs1 e1 d)
section
variable {α β γ δ : Type} [Enc α] [Enc β] [Enc γ] [Enc δ]
theorem at_tup {ds : List PyData} {d : PyData} {k : Nat} (hk : ds[k]? = some d) {x : V} {F H : Hp} {Q : VK} (h : Dq G.K F x (.tuple ds)) (e : Same F H) (q : ∀ v, Dq G.K F v d → Q v H) : rIxT G.K x (.int (k : Nat)) H Q := by
  cases h with
  | tup hq ha =>
    have go : ∀ (ds : List PyData) (vs : List V) (k : Nat), DqAll G.K F vs ds → ds[k]? = some d → ∃ v, vs[k]? = some v ∧ Dq G.K F v d := by
      intro ds
      induction ds with
      | nil => intro vs k _ h; simp at h
      | cons y ys ih =>
        intro vs k ha hk
        cases ha with
        | cons h1 h2 =>
          cases k with
          | zero => cases hk; exact ⟨_, rfl, h1⟩
          | succ k => exact ih _ k h2 hk
    obtain ⟨v, e3, dd⟩ := go _ _ _ ha hk
    exact ⟨_, _, _, v, rfl, rfl, sqt_same e hq, atI_nat e3, q v dd⟩
theorem at_lst {ds : List PyData} {d : PyData} {k : Nat} (hk : ds[k]? = some d) {x : V} {F H : Hp} {Q : VK} (h : Dq G.K F x (.list ds)) (e : Same F H) (q : ∀ v, Dq G.K F v d → Q v H) : rIxL G.K x (.int (k : Nat)) H Q := by
  cases h with
  | lst hq0 ha =>
    have hq := Rd.of hq0
    have go : ∀ (ds : List PyData) (vs : List V) (k : Nat), DqAll G.K F vs ds → ds[k]? = some d → ∃ v, vs[k]? = some v ∧ Dq G.K F v d := by
      intro ds
      induction ds with
      | nil => intro vs k _ h; simp at h
      | cons y ys ih =>
        intro vs k ha hk
        cases ha with
        | cons h1 h2 =>
          cases k with
          | zero => cases hk; exact ⟨_, rfl, h1⟩
          | succ k => exact ih _ k h2 hk
    obtain ⟨v, e3, dd⟩ := go _ _ _ ha hk
    exact ⟨_, _, _, v, rfl, rfl, sql_same e (.inl hq), atI_nat e3, q v dd⟩
theorem ev_p1 {m : Prog (α × β)} (h : EV N Γ ta m) : EV N Γ (tOp (rIxT G.K) ta (tC (.int 0))) (m >>= fun t => .ok t.1) := ev_at (fun t x F H Q d e q => at_tup (k := 0) rfl d e q) h
theorem ev_p2 {m : Prog (α × β)} (h : EV N Γ ta m) : EV N Γ (tOp (rIxT G.K) ta (tC (.int 1))) (m >>= fun t => .ok t.2) := ev_at (fun t x F H Q d e q => at_tup (k := 1) rfl d e q) h
theorem ev_t1 {m : Prog (T3 α β γ)} (h : EV N Γ ta m) : EV N Γ (tOp (rIxT G.K) ta (tC (.int 0))) (m >>= fun t => .ok t.a) := ev_at (fun t x F H Q d e q => at_tup (k := 0) rfl d e q) h
theorem ev_t2 {m : Prog (T3 α β γ)} (h : EV N Γ ta m) : EV N Γ (tOp (rIxT G.K) ta (tC (.int 1))) (m >>= fun t => .ok t.b) := ev_at (fun t x F H Q d e q => at_tup (k := 1) rfl d e q) h
theorem ev_t3 {m : Prog (T3 α β γ)} (h : EV N Γ ta m) : EV N Γ (tOp (rIxT G.K) ta (tC (.int 2))) (m >>= fun t => .ok t.c) := ev_at (fun t x F H Q d e q => at_tup (k := 2) rfl d e q) h
theorem ev_l1 {m : Prog (L2v α β)} (h : EV N Γ ta m) : EV N Γ (tOp (rIxL G.K) ta (tC (.int 0))) (m >>= fun t => .ok t.a) := ev_at (fun t x F H Q d e q => at_lst (k := 0) rfl d e q) h
theorem ev_l2 {m : Prog (L2v α β)} (h : EV N Γ ta m) : EV N Γ (tOp (rIxL G.K) ta (tC (.int 1))) (m >>= fun t => .ok t.b) := ev_at (fun t x F H Q d e q => at_lst (k := 1) rfl d e q) h
theorem ev_mkp {m1 : Prog α} {m2 : Prog β} (h1 : EV N Γ ta m1) (h2 : EV N Γ tb m2) : EV N Γ (tTup (tCons ta (tCons tb tNil))) (m1 >>= fun a => m2 >>= fun b => .ok (a, b)) := by
  have h := ev_tupA (f := fun p : α × β × Unit => (p.1, p.2.1)) (eva2 h1 h2) (fun a vs F r => by
    obtain ⟨v, ws, rfl, r1, w, us, rfl, r2, rfl⟩ := r
    exact ⟨_, rfl, .cons r1 (.cons r2 .nil), by show 2 ≤ 100000; decide⟩)
  simp only [bind_bind, ok_bind] at h
  exact h
theorem ev_mk3 {m1 : Prog α} {m2 : Prog β} {m3 : Prog γ} (h1 : EV N Γ ta m1) (h2 : EV N Γ tb m2) (h3 : EV N Γ tc m3) : EV N Γ (tTup (tCons ta (tCons tb (tCons tc tNil)))) (m1 >>= fun a => m2 >>= fun b => m3 >>= fun c => .ok (T3.mk a b c)) := by
  have h := ev_tupA (f := fun p : α × β × γ × Unit => (⟨p.1, p.2.1, p.2.2.1⟩ : T3 α β γ)) (eva3 h1 h2 h3) (fun a vs F r => by
    obtain ⟨v, ws, rfl, r1, w, us, rfl, r2, w3, us3, rfl, r3, rfl⟩ := r
    exact ⟨_, rfl, .cons r1 (.cons r2 (.cons r3 .nil)), by show 3 ≤ 100000; decide⟩)
  simp only [bind_bind, ok_bind] at h
  exact h
theorem ev_mkl {m1 : Prog α} {m2 : Prog β} (h1 : EV N Γ ta m1) (h2 : EV N Γ tb m2) : EV N Γ (tLst (tCons ta (tCons tb tNil))) (m1 >>= fun a => m2 >>= fun b => .ok (L2v.mk a b)) := fun σ F H hs Q q => by
  refine eva2 h1 h2 σ F H hs _ ?_
  rw [wp_bind] at q ⊢
  refine wp_mono q fun a q1 => ?_
  rw [wp_bind] at q1 ⊢
  refine wp_mono q1 fun b q2 vs F1 H1 hs1 e1 r => ?_
  obtain ⟨v, ws, rfl, r1, w, us, rfl, r2, rfl⟩ := r
  refine ⟨by show 2 ≤ sizeLine; decide, fun p hp => ?_⟩
  obtain ⟨hs2, e3⟩ := hs1.laid (o := .lst [v, w]) hp
  exact q2 (.ref p) _ _ hs2 (Same.trans e1 e3) (.lst upd_same (dpAll_same e3 _ _ (.cons r1 (.cons r2 .nil))))
end
/-! slices -/
def EVO (N : NN) (Γ : Env G) (to : TO) (m : Prog (Option Int)) : Prop := ∀ σ F H, HS N Γ σ F H → ∀ Q : Option Int → Hp → Prop, wp m (fun o => ∀ F' H', HS N Γ σ F' H' → Same F F' → Q o H') (EP G N) → to σ H Q
theorem evo_none : EVO N Γ tNoPart (.ok none) := fun σ F H hs Q q => q F H hs (Same.refl F)
theorem evo_some {m : Prog Int} (h : EV N Γ te m) : EVO N Γ (tPart te) (m >>= fun i => .ok (some i)) := fun σ F H hs Q q =>
  h σ F H hs _ (wp_mono (wp_bind.1 q) fun i q1 v F1 H1 hs1 e1 r1 => ⟨i, Scl.dp r1, q1 F1 H1 hs1 e1⟩)
def SLV (r : V → Option Int → Option Int → Hp → VK → Prop) (g : α → Option Int → Option Int → Prog β) : Prop := ∀ (N : NN) (Γ : Env G) (σ : L2.St) (F H : Hp) (x : V) (a : α) (lo hi : Option Int), HS N Γ σ F H → iα.rp a x F → ∀ Q : VK,
  wp (g a lo hi) (fun c => ∀ v F' H', HS N Γ σ F' H' → Same F F' → iβ.rp c v F' → Q v H') (EP G N) → r x lo hi H Q
theorem ev_slice {r : V → Option Int → Option Int → Hp → VK → Prop} {g : α → Option Int → Option Int → Prog β} {m : Prog α} {tl th : TO} {ml mh : Prog (Option Int)} (h : EV N Γ te m) (hl : EVO N Γ tl ml) (hh : EVO N Γ th mh) (hr : SLV (G := G) r g) :
    EV N Γ (tSl r te tl th) (m >>= fun a => ml >>= fun lo => mh >>= fun hi => g a lo hi) := fun σ F H hs Q q =>
  h σ F H hs _ (wp_mono (wp_bind.1 q) fun a q1 x F1 H1 hs1 e1 r1 => hl σ F1 H1 hs1 _ (wp_mono (wp_bind.1 q1) fun lo q2 F2 H2 hs2 e2 => hh σ F2 H2 hs2 _ (wp_mono (wp_bind.1 q2) fun hi q3 F3 H3 hs3 e3 =>
    hr N Γ σ F3 H3 x a lo hi hs3 (Rp.mono (Same.trans e2 e3) r1) Q (wp_mono q3 fun c q4 v F4 H4 hs4 e4 r4 => q4 v F4 H4 hs4 (Same.trans e1 (Same.trans e2 (Same.trans e3 e4))) r4))))
theorem slv_txt : SLV (G := G) (α := Tx) (β := Tx) rSlS (fun s lo hi => chk (small s.length) (.ok (cut s lo hi))) := fun N Γ σ F H x s lo hi hs ra Q q => by
  have e1 : x = .str (sx s) := Scl.dp (α := Tx) ra
  obtain ⟨h, q⟩ := wp_chk q
  refine ⟨sx s, e1, by simpa [Str.length, sx] using small_le h, ?_⟩
  have e : cutS (sx s) lo hi = sx (cut s lo hi) := by simp [cutS, cut, sx, Str.length]
  rw [e]
  exact q _ F H hs (Same.refl F) (.str _)
theorem dpAll_drop {K : PySem.W.Frag} {F : Hp} : ∀ {ds : List PyData} {vs : List V} (n : Nat), DqAll K F vs ds → DqAll K F (vs.drop n) (ds.drop n)
  | _, _, 0, h => h
  | [], _, n + 1, h => by cases h; exact .nil
  | d :: ds, _, n + 1, h => by
    cases h with
    | cons h1 h2 => exact dpAll_drop n h2
theorem dpAll_take {K : PySem.W.Frag} {F : Hp} : ∀ {ds : List PyData} {vs : List V} (n : Nat), DqAll K F vs ds → DqAll K F (vs.take n) (ds.take n)
  | _, _, 0, h => .nil
  | [], _, n + 1, h => by cases h; exact .nil
  | d :: ds, _, n + 1, h => by
    cases h with
    | cons h1 h2 => exact .cons h1 (dpAll_take n h2)
theorem dpAll_append {K : PySem.W.Frag} {F : Hp} : ∀ {ds es : List PyData} {vs ws : List V}, DqAll K F vs ds → DqAll K F ws es → DqAll K F (vs ++ ws) (ds ++ es)
  | [], _, _, _, h, k => by cases h; exact k
  | d :: ds, _, _, _, h, k => by
    cases h with
    | cons h1 h2 => exact .cons h1 (dpAll_append h2 k)
theorem dpAll_cut {K : PySem.W.Frag} {F : Hp} {α : Type} [Enc α] {xs : List α} {vs : List V} (lo hi : Option Int) (h : DqAll K F vs (xs.map enc)) : DqAll K F (cutV vs lo hi) ((cut xs lo hi).map enc) := by
  unfold cutV cut
  rw [dpAll_len h, List.map_take, List.map_drop]
  exact dpAll_take _ (dpAll_drop _ h)
theorem slv_tup {α : Type} [Enc α] : SLV (G := G) (α := List α) (β := List α) (rSlA G.K) (fun xs lo hi => .ok (cut xs lo hi)) := fun N Γ σ F H x xs lo hi hs ra Q q => by
  have h : Dq G.K F x (.tuple (xs.map enc)) := ra
  cases h with
  | tup hq ha =>
    have hl := dpAll_len ha
    refine ⟨_, _, rfl, sqt_same hs.w.fh hq, fun hw => ?_, fun _ p hp => ?_⟩
    · have e : cut xs lo hi = xs := by
        unfold cut
        rw [← hl, hw.1, hw.2, hl]
        simp
      exact q _ F H hs (Same.refl F) (by
        show Dq G.K F _ (.tuple ((cut xs lo hi).map enc))
        rw [e]
        exact .tup hq ha)
    · obtain ⟨hs2, e2⟩ := hs.laid hp
      exact q _ _ _ hs2 e2 (.tup (.inl (.inl upd_same)) (dpAll_same e2 _ _ (dpAll_cut lo hi ha)))
theorem evn_cutL {α : Type} [Enc α] {m : Prog (L α)} {tl th : TO} {ml mh : Prog (Option Int)} (h : EV N Γ te m) (hl : EVO N Γ tl ml) (hh : EVO N Γ th mh) :
    EVN N Γ (tSl (rSlL G.K) te tl th) (m >>= fun (xs : List α) => ml >>= fun lo => mh >>= fun hi => .ok (cut xs lo hi : L α)) := fun σ F H hs Q q =>
  h σ F H hs _ (wp_mono (wp_bind.1 q) fun a q1 x F1 H1 hs1 e1 r1 => hl σ F1 H1 hs1 _ (wp_mono (wp_bind.1 q1) fun lo q2 F2 H2 hs2 e2 => hh σ F2 H2 hs2 _ (wp_mono (wp_bind.1 q2) fun hi q3 F3 H3 hs3 e3 => by
    have hd : Dq G.K F3 x (.list (List.map enc a)) := dp_same (Same.trans e2 e3) _ _ r1
    cases hd with
    | lst hq0 ha =>
      have hq := Rd.of hq0
      refine ⟨_, _, rfl, sql_same hs3.w.fh (.inl hq), fun p hp => ?_⟩
      obtain ⟨hs4, n⟩ := hs_newlist (vs := cutV _ lo hi) hs3 hp
      exact q3 p _ _ _ hs4 (Same.trans e1 (Same.trans e2 e3)) n upd_same (dpAll_cut lo hi ha))))
/-! len -/
theorem ev_lenT {α : Type} [Enc α] {m : Prog (List α)} (h : EV N Γ ta m) : EV N Γ (tCB (fun xs H Q => ∃ p ys, xs = [.ref p] ∧ (SqL G.K H p ys ∨ SqT G.K H p ys) ∧ Q (.int ys.length) H) (tCons ta tNil)) (m >>= fun xs => .ok (xs.length : Int)) := fun σ F H hs Q q =>
  h σ F H hs _ (wp_mono (wp_bind.1 q) fun xs q1 x F1 H1 hs1 e1 r1 => by
    have hd : Dq G.K F1 x (.tuple (xs.map enc)) := r1
    cases hd with
    | tup hq ha => exact ⟨_, _, rfl, .inr (sqt_same hs1.w.fh hq), by rw [dpAll_len ha]; exact q1 _ F1 H1 hs1 e1 (.int _)⟩)
theorem ev_lenL {α : Type} [Enc α] {m : Prog (L α)} (h : EV N Γ ta m) : EV N Γ (tCB (fun xs H Q => ∃ p ys, xs = [.ref p] ∧ (SqL G.K H p ys ∨ SqT G.K H p ys) ∧ Q (.int ys.length) H) (tCons ta tNil)) (m >>= fun (xs : List α) => .ok (xs.length : Int)) := fun σ F H hs Q q =>
  h σ F H hs _ (wp_mono (wp_bind.1 q) fun xs q1 x F1 H1 hs1 e1 r1 => by
    have hd : Dq G.K F1 x (.list (List.map enc xs)) := r1
    cases hd with
    | lst hq ha => exact ⟨_, _, rfl, .inl (sql_same hs1.w.fh (.inl (Rd.of hq))), by rw [dpAll_len ha]; exact q1 _ F1 H1 hs1 e1 (.int _)⟩)
theorem ev_lenS {m : Prog Tx} (h : EV N Γ ta m) : EV N Γ (tCB (fun xs H Q => ∃ z, xs = [.str z] ∧ z.length ≤ sizeLine ∧ Q (.int z.length) H) (tCons ta tNil)) (m >>= fun s => chk (small s.length) (.ok (s.length : Int))) := fun σ F H hs Q q =>
  h σ F H hs _ (wp_mono (wp_bind.1 q) fun s q1 x F1 H1 hs1 e1 r1 => by
    have e : x = .str (sx s) := Scl.dp (α := Tx) r1
    obtain ⟨hl, q1⟩ := wp_chk q1
    refine ⟨sx s, by rw [e], by simpa [Str.length, sx] using small_le hl, ?_⟩
    have e2 : (sx s).length = s.length := by simp [Str.length, sx]
    rw [e2]
    exact q1 _ F1 H1 hs1 e1 (.int _))
end
end Ty

namespace Ty
open PySem PySem.Spec PyProof.Rows L2
open Enc (enc)
variable {G : Glob}
section
variable {α β γ δ ω ρ : Type} [iα : Rp G α] [iβ : Rp G β] [iγ : Rp G γ] {N : NN} {Γ Γ' : Env G} {te ta tb tc : TE} {tt tu : TT} {tz ts : TS}
/-! ### what is walked -/
abbrev anyE : Env G → Prop := fun _ => True
theorem evi_tup {α : Type} [Enc α] {m : Prog (List α)} (h : EV N Γ te m) : EVI (α := α) N Γ (iTup G.K te) m anyE := fun σ F H hs R q =>
  h σ F H hs _ (wp_mono q fun xs k x F1 H1 hs1 e1 r1 => by
    have hd : Dq G.K F1 x (.tuple (xs.map enc)) := r1
    cases hd with
    | tup hq ha =>
      refine ⟨_, rfl, ⟨_, sqt_same hs1.w.fh hq⟩, k F1 H1 _ hs1 e1 fun N1 Γ' _ => ⟨fun i σ F' H' hs' e' hi => ?_, fun i a σ F' H' x H2 hs' e' hx y => ?_, fun i σ F' H' hs' e' hi => ?_⟩⟩
      · obtain ⟨v, hv, _⟩ := dpAll_at ha (List.getElem?_eq_getElem hi)
        exact ⟨_, v, sqt_same (Same.trans e' hs'.w.fh) hq, hv⟩
      · obtain ⟨v, hv, d⟩ := dpAll_at ha hx
        obtain ⟨e2, y⟩ := y
        have e3 : x = v := Option.some.inj ((y _ (sqt_same (Same.trans e' hs'.w.fh) hq)).symm.trans hv)
        subst e3
        exact .inl ⟨e2, dp_same e' _ _ d⟩
      · exact ⟨_, sqt_same (Same.trans e' hs'.w.fh) hq, by rw [dpAll_len ha]; exact hi⟩)
theorem evi_lst {α : Type} [Enc α] {m : Prog (L α)} (h : EV N Γ te m) : EVI (α := α) N Γ (iList G.K te) m anyE := fun σ F H hs R q =>
  h σ F H hs _ (wp_mono q fun (xs : List α) k x F1 H1 hs1 e1 r1 => by
    have hd : Dq G.K F1 x (.list (xs.map enc)) := r1
    cases hd with
    | lst hq0 ha =>
      have hq := Rd.of hq0
      refine ⟨_, rfl, ⟨_, sql_same hs1.w.fh (.inl hq)⟩, k F1 H1 _ hs1 e1 fun N1 Γ' _ => ⟨fun i σ F' H' hs' e' hi => ?_, fun i a σ F' H' x H2 hs' e' hx y => ?_, fun i σ F' H' hs' e' hi => ?_⟩⟩
      · obtain ⟨v, hv, _⟩ := dpAll_at ha (List.getElem?_eq_getElem hi)
        exact ⟨_, v, sql_same (Same.trans e' hs'.w.fh) (.inl hq), hv⟩
      · obtain ⟨v, hv, d⟩ := dpAll_at ha hx
        obtain ⟨e2, y⟩ := y
        have e3 : x = v := Option.some.inj ((y _ (sql_same (Same.trans e' hs'.w.fh) (.inl hq))).symm.trans hv)
        subst e3
        exact .inl ⟨e2, dp_same e' _ _ d⟩
      · exact ⟨_, sql_same (Same.trans e' hs'.w.fh) (.inl hq), by rw [dpAll_len ha]; exact hi⟩)
def signs (s : Tx) : List Tx := s.map fun c => [c]
theorem evi_str {m : Prog Tx} (h : EV N Γ te m) : EVI (α := Tx) N Γ (iStr te) (m >>= fun s => .ok (signs s)) anyE := fun σ F H hs R q =>
  h σ F H hs _ (wp_mono (wp_bind.1 q) fun s k x F1 H1 hs1 e1 r1 => by
    have e : x = .str (sx s) := Scl.dp (α := Tx) r1
    refine ⟨sx s, e, k F1 H1 _ hs1 e1 fun N1 Γ' _ => ⟨fun i σ F' H' hs' e' hi => ?_, fun i a σ F' H' x H2 hs' e' hx y => ?_, fun i σ F' H' hs' e' hi => ?_⟩⟩
    · show i < (sx s).cps.size
      simpa [signs] using hi
    · obtain ⟨e2, c, hc, e3⟩ := y
      have hc' : s[i]? = some c := by simpa using hc
      have ha : a = [c] := by
        unfold signs at hx
        rw [List.getElem?_map, hc'] at hx
        exact (Option.some.inj hx).symm
      subst ha e3
      exact .inl ⟨e2, .str _⟩
    · show (sx s).cps.size ≤ i
      simpa [signs] using hi)
def rng (lo hi : Int) : List Int := (List.range (hi - lo).toNat).map fun (i : Nat) => lo + (i : Int)
def rngD (lo hi : Int) : List Int := (List.range (lo - hi).toNat).map fun (i : Nat) => lo - (i : Int)
def inRange (i : Int) : Bool := decide (i.natAbs < 2 ^ 61)
theorem inRange_ok {i : Int} (h : inRange i = true) : -(2 ^ 62) ≤ i ∧ i < 2 ^ 62 := by
  have := of_decide_eq_true h
  omega
theorem gen_itr {lo : Int} {n : Nat} {F : Hp} : Gen (G := G) (α := Int) N Γ F (Itr lo n) ((List.range n).map fun (i : Nat) => lo + (i : Int)) where
  go := fun i σ F' H' hs' e' hi => by
    show i < n
    simpa using hi
  yld := fun i a σ F' H' x H2 hs' e' hx y => by
    obtain ⟨e2, y⟩ := y
    have hi : i < n := by
      have := (List.getElem?_eq_some_iff.1 hx).1
      simpa using this
    rw [List.getElem?_map, List.getElem?_range hi] at hx
    have ha : lo + (i : Int) = a := Option.some.inj hx
    subst ha y
    exact .inl ⟨e2, .int _⟩
  stop := fun i σ F' H' hs' e' hi => by
    show n ≤ i
    simpa using hi
theorem evi_rng1 {m : Prog Int} (h : EV N Γ te m) : EVI (α := Int) N Γ (iRng1 (tCons te tNil)) (m >>= fun n => chk (inRange n) (.ok (rng 0 n))) anyE := fun σ F H hs R q =>
  h σ F H hs _ (wp_mono (wp_bind.1 q) fun n q1 x F1 H1 hs1 e1 r1 => by
    have e : x = .int n := Scl.dp r1
    obtain ⟨hr, k⟩ := wp_chk q1
    obtain ⟨a, b⟩ := inRange_ok hr
    have en : n.toNat = (n - 0).toNat := by rw [Int.sub_zero]
    exact ⟨n, by rw [e], a, b, k F1 H1 _ hs1 e1 fun N1 Γ' _ => by rw [en]; exact gen_itr⟩)
theorem evi_rng2 {m m2 : Prog Int} (h : EV N Γ te m) (h2 : EV N Γ ta m2) : EVI (α := Int) N Γ (iRng2 (tCons te (tCons ta tNil))) (m >>= fun a => m2 >>= fun b => chk (inRange a && inRange b) (.ok (rng a b))) anyE := fun σ F H hs R q =>
  h σ F H hs _ (wp_mono (wp_bind.1 q) fun a q1 x F1 H1 hs1 e1 r1 => h2 σ F1 H1 hs1 _ (wp_mono (wp_bind.1 q1) fun b q2 y F2 H2 hs2 e2 r2 => by
    have ea : x = .int a := Scl.dp r1
    have eb : y = .int b := Scl.dp r2
    obtain ⟨hr, k⟩ := wp_chk q2
    obtain ⟨ha, hb⟩ := Bool.and_eq_true_iff.1 hr
    obtain ⟨a1, a2⟩ := inRange_ok ha
    obtain ⟨b1, b2⟩ := inRange_ok hb
    exact ⟨a, b, by rw [ea, eb], ⟨a1, a2, b1, b2⟩, k F2 H2 _ hs2 (Same.trans e1 e2) fun N1 Γ' _ => gen_itr⟩))
theorem gen_itc {lo : Int} {n : Nat} {F : Hp} : Gen (G := G) (α := Int) N Γ F (Itc lo (-1) n) ((List.range n).map fun (i : Nat) => lo - (i : Int)) where
  go := fun i σ F' H' hs' e' hi => by
    show i < n
    simpa using hi
  yld := fun i a σ F' H' x H2 hs' e' hx y => by
    obtain ⟨e2, y⟩ := y
    have hi : i < n := by
      have := (List.getElem?_eq_some_iff.1 hx).1
      simpa using this
    rw [List.getElem?_map, List.getElem?_range hi] at hx
    have ha : lo - (i : Int) = a := Option.some.inj hx
    subst y
    refine .inl ⟨e2, ?_⟩
    have : lo + (i : Int) * (-1) = a := by omega
    rw [this]
    exact .int _
  stop := fun i σ F' H' hs' e' hi => by
    show n ≤ i
    simpa using hi
theorem evi_rngD {m m2 : Prog Int} (h : EV N Γ te m) (h2 : EV N Γ ta m2) : EVI (α := Int) N Γ (iRng3 (tCons te (tCons ta (tCons (tUn (rU fun i => .int (-i)) (tC (.int 1))) tNil)))) (m >>= fun a => m2 >>= fun b => chk (inRange a && inRange b) (.ok (rngD a b))) anyE := fun σ F H hs R q =>
  h σ F H hs _ (wp_mono (wp_bind.1 q) fun a q1 x F1 H1 hs1 e1 r1 => h2 σ F1 H1 hs1 _ (wp_mono (wp_bind.1 q1) fun b q2 y F2 H2 hs2 e2 r2 => by
    have ea : x = .int a := Scl.dp r1
    have eb : y = .int b := Scl.dp r2
    obtain ⟨hr, k⟩ := wp_chk q2
    obtain ⟨ha, hb⟩ := Bool.and_eq_true_iff.1 hr
    obtain ⟨a1, a2⟩ := inRange_ok ha
    obtain ⟨b1, b2⟩ := inRange_ok hb
    exact ⟨1, rfl, a, b, -1, (a - b).toNat, by rw [ea, eb], RgC.neg a1 a2 b1 b2, k F2 H2 _ hs2 (Same.trans e1 e2) fun N1 Γ' _ => gen_itc⟩))
/-! ### targets -/
theorem gv_name {i : Nat} {a : α} : GV N Γ (gName i) a (Γ.set i (.per a)) := fun σ F H x hs r Q q => q _ F H (hs.setPer i r) (Same.refl F)
theorem gv_tup2 {α β : Type} [Enc α] [Enc β] {i j : Nat} {a : α × β} : GV N Γ (gTup G.K 2 (gCons (gName i) (gCons (gName j) gNil))) a ((Γ.set i (.per a.1)).set j (.per a.2)) := fun σ F H x hs r Q q => by
  have h : Dq G.K F x (.tuple [enc a.1, enc a.2]) := r
  cases h with
  | tup hq ha =>
    cases ha with
    | cons d1 h2 =>
      cases h2 with
      | cons d2 h3 =>
        cases h3
        exact ⟨_, _, rfl, sqt_same hs.w.fh hq, rfl, _, _, rfl, _, _, rfl, rfl, q _ F H ((hs.setPer (a := a.1) i d1).setPer (a := a.2) j d2) (Same.refl F)⟩
theorem gv_tup3 {α β γ : Type} [Enc α] [Enc β] [Enc γ] {i j k : Nat} {a : T3 α β γ} : GV N Γ (gTup G.K 3 (gCons (gName i) (gCons (gName j) (gCons (gName k) gNil)))) a (((Γ.set i (.per a.a)).set j (.per a.b)).set k (.per a.c)) := fun σ F H x hs r Q q => by
  have h : Dq G.K F x (.tuple [enc a.a, enc a.b, enc a.c]) := r
  cases h with
  | tup hq ha =>
    cases ha with
    | cons d1 h2 =>
      cases h2 with
      | cons d2 h3 =>
        cases h3 with
        | cons d3 h4 =>
          cases h4
          exact ⟨_, _, rfl, sqt_same hs.w.fh hq, rfl, _, _, rfl, _, _, rfl, _, _, rfl, rfl, q _ F H (((hs.setPer (a := a.a) i d1).setPer (a := a.b) j d2).setPer (a := a.c) k d3) (Same.refl F)⟩
/-- target = value, any target -/
theorem sv_asgT {g : TG} {m : Prog α} {J : Aim ω} {k : α → Prog ω} {Γt : α → Env G} (h : EV N Γ te m) (hg : ∀ a, GV N Γ g a (Γt a)) (hk : ∀ a, SV N (Γt a) tz J (k a)) : SV N Γ (tSeq (tAsg te g) tz) J (m >>= k) := fun σ F H D hs q =>
  h σ F H hs _ (wp_mono (wp_bind.1 q) fun a q1 v F1 H1 hs1 e1 r1 => hg a σ F1 H1 v hs1 r1 _ fun σ2 F2 H2 hs2 e2 => hk a σ2 F2 H2 D hs2 (wp_mono q1 fun o x => J.mono (Same.trans e1 e2) x))
/-! ### lists that the def owns -/
theorem HS.lstAt {α : Type} [Enc α] {σ : L2.St} {F H : Hp} {i : Nat} {xs : List α} (hs : HS N Γ σ F H) (hi : Γ[i]? = some (.lst xs)) : ∃ p vs, σ[i]? = some (some (.ref p)) ∧ Mine N F p ∧ H p = some (.lst vs) ∧ DqAll G.K F vs (xs.map enc) ∧ Held Γ σ p := by
  obtain ⟨o, e0, p, vs, e1, m, hp, d⟩ := hs.sl.get hi
  subst e1
  exact ⟨p, vs, e0, m, hp, d, i, _, hi, rfl, e0⟩
/-- the list in slot i is written -/
theorem HS.put {α β : Type} [Enc α] [Enc β] {σ : L2.St} {F H : Hp} {i : Nat} {xs : List α} {ys : List β} {p : Addr} {ws : List V} (hs : HS N Γ σ F H) (hO : ∀ a, N.O a = none) (hi : Γ[i]? = some (.lst xs)) (hp : σ[i]? = some (some (.ref p))) (d : DqAll G.K F ws (ys.map enc)) :
    HS N (Γ.set i (.lst ys)) σ F (upd H p (.lst ws)) := by
  obtain ⟨p', vs, e0, m, h0, _, hl⟩ := hs.lstAt hi
  rw [hp] at e0
  cases e0
  have hσ : σ.set i (some (.ref p)) = σ := by
    obtain ⟨h1, h2⟩ := List.getElem?_eq_some_iff.1 hp
    apply List.ext_getElem?
    intro k
    by_cases hk : k = i
    · subst hk; rw [List.getElem?_set_self h1, hp]
    · rw [List.getElem?_set_ne (Ne.symm hk)]
  have n1 : ∀ q o, F q = some o → q ≠ p := fun q o e => ne_of_none e m.f
  have w : W N F (upd H p (.lst ws)) := by
    refine ⟨fun a u e => ?_, hs.w.f0, hs.w.nw, fun a u nb e => ?_, fun a e => ?_, fun q c e => ?_, hs.w.sb, fun a u e => ?_⟩
    · rw [upd_ne (n1 a u e)]; exact hs.w.fh a u e
    · rw [upd_ne (ne_of_none e m.h0)]; exact hs.w.kp a u nb e
    · by_cases ha : a = p
      · subst ha; rw [upd_same] at e; cases e
      · rw [upd_ne ha] at e; exact hs.w.dm a e
    · have s := hs.w.sr q c e
      obtain ⟨st, ix, cs, h1, h2, r⟩ := s.at_
      have x := m.s q c e
      exact ⟨s.fp, s.fc, s.ne, st, ix, cs, by rw [upd_ne (Ne.symm x.1)]; exact h1, by rw [upd_ne (Ne.symm x.2)]; exact h2, r⟩
    · rw [hO] at e; cases e
  refine ⟨w, ?_, fun j k e e' q h1 h2 o1 o2 s1 s2 => ?_⟩
  · have go : ∀ {j : Nat} {e : Ent G} {o : Option V}, j ≠ i → Γ[j]? = some e → σ[j]? = some o → Sl N F H e o → Sl N F (upd H p (.lst ws)) e o := fun {j e o} hj h1 h2 s => by
      cases e with
      | dead => trivial
      | per a => exact s
      | lst zs =>
        obtain ⟨q, us, e3, mq, hq, dq⟩ := s
        refine ⟨q, us, e3, mq, ?_, dq⟩
        have : q ≠ p := fun z => by
          subst z
          exact hj (hs.ds j i _ _ q h1 hi rfl rfl (by rw [h2, e3]) hp)
        rw [upd_ne this]; exact hq
      | ins C z w =>
        obtain ⟨q, dx, us, e3, mq, hq, dq⟩ := s
        refine ⟨q, dx, us, e3, mq, ?_, dq⟩
        have : q ≠ p := fun z => by
          subst z
          exact hj (hs.ds j i _ _ q h1 hi rfl rfl (by rw [h2, e3]) hp)
        rw [upd_ne this]; exact hq
      | bor z => exact s
      | ptr z => exact s
      | src => exact s
      | gen R b =>
        obtain ⟨q, u, e3, mq, hb, hq, dq⟩ := s
        refine ⟨q, u, e3, mq, hb, ?_, dq⟩
        have : q ≠ p := fun z => by
          subst z
          exact hj (hs.ds j i _ _ q h1 hi rfl rfl (by rw [h2, e3]) hp)
        rw [upd_ne this]; exact hq
    have sl := hs.sl
    have key : ∀ {Γ1 : Env G} {σ1 : L2.St} (P : Nat → Prop), Slots N F H Γ1 σ1 → (∀ (j : Nat) e o, Γ1[j]? = some e → σ1[j]? = some o → Sl N F H e o → Sl N F (upd H p (.lst ws)) e o) → Slots N F (upd H p (.lst ws)) Γ1 σ1 := fun {Γ1 σ1} P h k => h.imp k
    refine Slots.of ?_ fun j e o h1 h2 => ?_
    · rw [List.length_set]; exact sl.len
    · by_cases hj : j = i
      · subst hj
        have hlt : j < Γ.length := (List.getElem?_eq_some_iff.1 hi).1
        rw [List.getElem?_set_self hlt] at h1
        cases h1
        rw [hp] at h2
        cases h2
        exact ⟨p, ws, rfl, m, upd_same, d⟩
      · rw [List.getElem?_set_ne (Ne.symm hj)] at h1
        obtain ⟨o', e1, s⟩ := sl.get h1
        rw [h2] at e1
        cases e1
        exact go hj h1 h2 s
  · have at_ : ∀ {j : Nat} {e : Ent G}, (Γ.set i (.lst ys))[j]? = some e → e.own = true → ∃ e', Γ[j]? = some e' ∧ e'.own = true := fun {j e} h o => by
      by_cases hj : j = i
      · subst hj; exact ⟨_, hi, rfl⟩
      · rw [List.getElem?_set_ne (Ne.symm hj)] at h
        exact ⟨e, h, o⟩
    obtain ⟨e1, g1, p1⟩ := at_ h1 o1
    obtain ⟨e2, g2, p2⟩ := at_ h2 o2
    exact hs.ds j k e1 e2 q g1 g2 p1 p2 s1 s2
theorem sv_append {α : Type} [Enc α] {i : Nat} {xs : List α} {m : Prog α} {J : Aim ω} {k : α → Prog ω} (hO : ∀ a, N.O a = none) (hi : Γ[i]? = some (.lst xs)) (h : EV N Γ te m) (hk : ∀ a, SV N (Γ.set i (.lst (xs ++ [a]))) tz J (k a)) :
    SV N Γ (tSeq (tDrop (tBM G.K "list" rAppend (tVar i) (tCons te tNil))) tz) J (m >>= fun a => chk (small xs.length) (k a)) := fun σ F H D hs q => by
  obtain ⟨p, vs, e0, m0, hp, d, hl⟩ := hs.lstAt hi
  refine ⟨.ref p, e0, .inl ⟨rfl, vs, .inl (.inl hp)⟩, h σ F H hs _ (wp_mono (wp_bind.1 q) fun a q1 v F1 H1 hs1 e1 r1 => ?_)⟩
  obtain ⟨hz, q1⟩ := wp_chk q1
  obtain ⟨p', vs', e0', m0', hp', d', _⟩ := hs1.lstAt hi
  rw [e0] at e0'
  cases e0'
  refine ⟨p, vs', v, rfl, rfl, hp', by rw [dpAll_len d']; exact small_lt hz, ?_⟩
  exact hk a σ F1 _ D (hs1.put hO hi e0 (by rw [List.map_append]; exact dpAll_append d' (.cons r1 .nil))) (wp_mono q1 fun o x => J.mono e1 x)
/-- xs.extend(a list made there) -/
theorem sv_extend {α : Type} [Enc α] {i : Nat} {xs : List α} {m : Prog (L α)} {J : Aim ω} {k : L α → Prog ω} (hO : ∀ a, N.O a = none) (hi : Γ[i]? = some (.lst xs)) (h : EVN N Γ te m) (hk : ∀ ys : List α, SV N (Γ.set i (.lst (xs ++ ys))) tz J (k ys)) :
    SV N Γ (tSeq (tDrop (tBM G.K "list" rExtend (tVar i) (tCons te tNil))) tz) J (m >>= fun (ys : List α) => chk (small (xs.length + ys.length)) (k ys)) := fun σ F H D hs q => by
  obtain ⟨p, vs, e0, m0, hp, d, hl⟩ := hs.lstAt hi
  refine ⟨.ref p, e0, .inl ⟨rfl, vs, .inl (.inl hp)⟩, h σ F H hs _ (wp_mono (wp_bind.1 q) fun (ys : List α) q1 b us F1 H1 hs1 e1 n hb db => ?_)⟩
  obtain ⟨hz, q1⟩ := wp_chk q1
  obtain ⟨p', vs', e0', m0', hp', d', _⟩ := hs1.lstAt hi
  rw [e0] at e0'
  cases e0'
  refine ⟨p, b, vs', us, rfl, rfl, hp', hb, by rw [dpAll_len d', dpAll_len db]; exact small_le hz, ?_⟩
  exact hk ys σ F1 _ D (hs1.put hO hi e0 (by rw [List.map_append]; exact dpAll_append d' db)) (wp_mono q1 fun o x => J.mono e1 x)
/-- from here on the list is data -/
theorem HS.thaw {α : Type} [Enc α] {σ : L2.St} {F H : Hp} {i : Nat} {xs : List α} (hO : ∀ a, N.O a = none) (hs : HS N Γ σ F H) (hi : Γ[i]? = some (.lst xs)) : ∃ p vs, σ[i]? = some (some (.ref p)) ∧ H p = some (.lst vs) ∧ HS N (Γ.set i (@Ent.per G (L α) _ xs)) σ (upd F p (.lst vs)) H ∧ Same F (upd F p (.lst vs)) := by
  obtain ⟨p, vs, e0, m0, hp, d, hl⟩ := hs.lstAt hi
  have hlt : i < Γ.length := (List.getElem?_eq_some_iff.1 hi).1
  -- forget the slot, then freeze
  have hd : HS N (Γ.set i .dead) σ F H := by
    refine ⟨hs.w, Slots.of (by rw [List.length_set]; exact hs.sl.len) fun j e o h1 h2 => ?_, fun j k e e' q h1 h2 o1 o2 s1 s2 => ?_⟩
    · by_cases hj : j = i
      · subst hj
        rw [List.getElem?_set_self hlt] at h1
        cases h1; trivial
      · rw [List.getElem?_set_ne (Ne.symm hj)] at h1
        obtain ⟨o', e1, s⟩ := hs.sl.get h1
        rw [h2] at e1; cases e1; exact s
    · have at_ : ∀ {j : Nat} {e : Ent G}, (Γ.set i .dead)[j]? = some e → e.own = true → Γ[j]? = some e := fun {j e} h o => by
        by_cases hj : j = i
        · subst hj
          rw [List.getElem?_set_self hlt] at h
          cases h; cases o
        · rw [List.getElem?_set_ne (Ne.symm hj)] at h; exact h
      exact hs.ds j k e e' q (at_ h1 o1) (at_ h2 o2) o1 o2 s1 s2
  have nh : ¬ Held (Γ.set i .dead) σ p := fun ⟨j, e, h1, o1, s1⟩ => by
    by_cases hj : j = i
    · subst hj
      rw [List.getElem?_set_self hlt] at h1
      cases h1; cases o1
    · rw [List.getElem?_set_ne (Ne.symm hj)] at h1
      exact hj (hs.ds j i _ _ p h1 hi o1 rfl s1 e0)
  obtain ⟨hs2, e2⟩ := hd.freeze hp m0 m0.h0 nh (hO p)
  refine ⟨p, vs, e0, hp, ?_, e2⟩
  have h3 := hs2.setPer (α := L α) (a := xs) (v := .ref p) i (.lst upd_same (dpAll_same e2 _ _ d))
  rw [List.set_set] at h3
  have hσ : σ.set i (some (.ref p)) = σ := by
    obtain ⟨h1, _⟩ := List.getElem?_eq_some_iff.1 e0
    apply List.ext_getElem?
    intro k
    by_cases hk : k = i
    · subst hk; rw [List.getElem?_set_self h1, e0]
    · rw [List.getElem?_set_ne (Ne.symm hk)]
  rw [hσ] at h3
  exact h3
theorem sv_freeze {α : Type} [Enc α] (i : Nat) {xs : List α} {J : Aim ω} {m : Prog ω} (hO : ∀ a, N.O a = none) (hi : Γ[i]? = some (.lst xs)) (h : SV N (Γ.set i (@Ent.per G (L α) _ xs)) ts J m) : SV N Γ ts J m := fun σ F H D hs q => by
  obtain ⟨_, _, _, _, hs', e⟩ := hs.thaw hO hi
  exact h σ _ H D hs' (wp_mono q fun o x => J.mono e x)
/-- .. for one expression whose value is plain -/
class Flat (α : Type) [Enc α] : Prop where
  fl : ∀ {K : PySem.W.Frag} {F F' : Hp} {v : V} {a : α}, Dq K F v (enc a) → Dq K F' v (enc a)
instance : Flat Int := ⟨fun h => by cases h; exact .int _⟩
instance : Flat Bool := ⟨fun h => by cases h; exact .bl _⟩
instance : Flat (List Nat) := ⟨fun h => by cases h; exact .str _⟩
instance {α : Type} [Enc α] [Flat α] : Flat (Option α) := ⟨fun {K F F' v a} h => by
  cases a with
  | none =>
    have h' : Dq K F v .none := h
    cases h'; exact .non
  | some a => exact Flat.fl (a := a) h⟩
def cutH (F : Hp) (p : Addr) : Hp := fun a => if a = p then none else F a
theorem cutH_ne {F : Hp} {p a : Addr} (h : a ≠ p) : cutH F p a = F a := if_neg h
theorem cutH_same {F : Hp} {p : Addr} : cutH F p p = none := if_pos rfl
def NN.snap (N : NN) (O : Addr → Option HO) : NN := ⟨N.F0, N.H0, N.B, N.S, N.E, O⟩
theorem W.snap {F H : Hp} {O : Addr → Option HO} (w : W N F H) (h : ∀ a o, O a = some o → (H a = some o ∧ F a = none) ∧ ∀ p c, N.S = some (p, c) → a ≠ p ∧ a ≠ c) : W (N.snap O) F H := ⟨w.fh, w.f0, w.nw, w.kp, w.dm, w.sr, w.sb, h⟩
theorem W.unsnap {F H : Hp} {O : Addr → Option HO} (w : W (N.snap O) F H) (h : ∀ a o, N.O a = some o → (H a = some o ∧ F a = none) ∧ ∀ p c, N.S = some (p, c) → a ≠ p ∧ a ≠ c) : W N F H := ⟨w.fh, w.f0, w.nw, w.kp, w.dm, w.sr, w.sb, h⟩
theorem Sl.nn {N' : NN} {F H : Hp} (h0 : N'.H0 = N.H0) (hS : N'.S = N.S) (hB : N'.B = N.B) (hF : N'.F0 = N.F0) {e : Ent G} {o : Option V} (s : Sl N F H e o) : Sl N' F H e o := by
  cases e with
  | dead => trivial
  | per a => exact s
  | lst xs =>
    obtain ⟨p, vs, e, m, hp, d⟩ := s
    exact ⟨p, vs, e, ⟨m.f, by rw [h0]; exact m.h0, fun q c z => m.s q c (by rw [← hS]; exact z)⟩, hp, d⟩
  | ins C xs w =>
    obtain ⟨p, dx, vs, e, m, hp, d⟩ := s
    exact ⟨p, dx, vs, e, ⟨m.f, by rw [h0, hB]; exact m.h0, fun q c z => m.s q c (by rw [← hS]; exact z)⟩, hp, d⟩
  | bor xs =>
    obtain ⟨q, vs, e, h1, h2, h3, h4, d⟩ := s
    exact ⟨q, vs, e, by rw [hF]; exact h1, by rw [h0]; exact h2, by rw [hB]; exact h3, fun q c z => h4 q c (by rw [← hS]; exact z), d⟩
  | ptr z => exact s
  | src =>
    obtain ⟨p, c, e, z⟩ := s
    exact ⟨p, c, e, by rw [hS]; exact z⟩
  | gen R b =>
    obtain ⟨p, u, e, m, hb, hp, d⟩ := s
    exact ⟨p, u, e, ⟨m.f, by rw [h0, hB]; exact m.h0, fun q c z => m.s q c (by rw [← hS]; exact z)⟩, fun z => by rw [h0]; exact hb z, hp, d⟩
/-- a plain expression over the frame with one of its lists taken as data -/
theorem ev_borrow {α ρ : Type} [Enc α] [Enc ρ] [Flat ρ] (i : Nat) {xs : List α} {m : Prog ρ} (hO : ∀ a, N.O a = none) (hi : Γ[i]? = some (.lst xs)) (h : ∀ O, EV (N.snap O) (Γ.set i (@Ent.per G (L α) _ xs)) te m) : EV N Γ te m := fun σ F H hs Q q => by
  obtain ⟨p, vs, e0, m0, hp, d, hl⟩ := hs.lstAt hi
  have hlt : i < Γ.length := (List.getElem?_eq_some_iff.1 hi).1
  obtain ⟨p', vs', e0', hp', hs1, e1⟩ := hs.thaw hO hi
  rw [e0] at e0'; cases e0'
  rw [hp] at hp'; cases hp'
  let O : Addr → Option HO := fun a => by
    classical
    exact if Held Γ σ a ∧ a ≠ p then H a else none
  have hOs : ∀ a o, O a = some o → (Held Γ σ a ∧ a ≠ p) ∧ H a = some o := fun a o x => by
    by_cases y : Held Γ σ a ∧ a ≠ p
    · exact ⟨y, by simpa [O, y] using x⟩
    · simp only [O, if_neg y] at x
      cases x
  have hOh : ∀ a, Held Γ σ a → a ≠ p → O a = H a := fun a y z => by simp [O, y, z]
  have held' : ∀ q, Held Γ σ q → q ≠ p → Held (Γ.set i (@Ent.per G (L α) _ xs)) σ q := fun q ⟨j, en, x1, x2, x3⟩ nq => by
    have hj : j ≠ i := fun z => by
      subst z
      rw [x3] at e0; cases e0; exact nq rfl
    exact ⟨j, en, by rw [List.getElem?_set_ne (Ne.symm hj)]; exact x1, x2, x3⟩
  have hs1' : HS (N.snap O) (Γ.set i (@Ent.per G (L α) _ xs)) σ (upd F p (.lst vs)) H := ⟨hs1.w.snap fun a o x => by
    obtain ⟨y, z⟩ := hOs a o x
    exact ⟨⟨z, (hs1.held (held' a y.1 y.2)).1.f⟩, (hs.held y.1).1.s⟩, hs1.sl.imp fun j e o _ _ s => Sl.nn (N := N) (N' := N.snap O) rfl rfl rfl rfl s, hs1.ds⟩
  refine h O σ _ H hs1' Q (wp_imp q (fun a k v F2 H2 hs2 e2 r => ?_) fun e he F' H' C dd w r => he F' H' C dd (w.unsnap fun a o x => by rw [hO] at x; cases x) r)
  have hp2 : H2 p = some (.lst vs) := hs2.w.fh p _ (e2 p _ upd_same)
  have h2 : ∀ q us, Held Γ σ q → H q = some us → H2 q = some us := fun q us y z => by
    by_cases nq : q = p
    · subst nq; rw [hp] at z; cases z; exact hp2
    · exact (hs2.w.os q _ ((hOh q y nq).trans z)).1.1
  have hF : Same F (cutH F2 p) := fun a o x => by
    have ne : a ≠ p := ne_of_none x m0.f
    rw [cutH_ne ne]
    exact Same.trans e1 e2 a o x
  have w : W N (cutH F2 p) H2 := by
    refine ⟨fun a o x => ?_, Same.trans hs.w.f0 hF, fun a o x => ?_, hs2.w.kp, hs2.w.dm, fun q c z => ?_, hs.w.sb, fun a o x => by rw [hO] at x; cases x⟩
    · by_cases ha : a = p
      · subst ha; rw [cutH_same] at x; cases x
      · rw [cutH_ne ha] at x; exact hs2.w.fh a o x
    · by_cases ha : a = p
      · subst ha; rw [cutH_same] at x; cases x
      · rw [cutH_ne ha] at x; exact hs2.w.nw a o x
    · have s := hs2.w.sr q c z
      have y := m0.s q c z
      exact ⟨by rw [cutH_ne (Ne.symm y.1)]; exact s.fp, by rw [cutH_ne (Ne.symm y.2)]; exact s.fc, s.ne, s.at_⟩
  exact k v _ H2 (hs.move w hF h2 fun q y => by
    by_cases nq : q = p
    · subst nq; exact cutH_same
    · rw [cutH_ne nq]; exact (hs2.held (held' q y nq)).1.f) hF (Flat.fl (a := a) r)
theorem tv_of_ev {m : Prog Bool} (h : EV N Γ te m) : TV N Γ (tTest te) m := tv_test h
/-- .. a test -/
theorem tv_borrow {α : Type} [Enc α] (i : Nat) {xs : List α} {m : Prog Bool} (hO : ∀ a, N.O a = none) (hi : Γ[i]? = some (.lst xs)) (h : ∀ O, TV (N.snap O) (Γ.set i (@Ent.per G (L α) _ xs)) tt m) : TV N Γ tt m := fun σ F H hs Q q => by
  have := ev_borrow (ρ := Bool) (te := fun σ H Q => tt σ H fun b H' => Q (.bl b) H') i hO hi (fun O σ F H hs Q q => h O σ F H hs _ (wp_mono q fun b k F' H' hs' e => k _ F' H' hs' e (.bl b))) σ F H hs (fun v H' => ∀ b, v = .bl b → Q b H') (wp_mono q fun b k v F' H' hs' e r c hc => by
    have : v = .bl b := Scl.dp (α := Bool) r
    rw [this] at hc; cases hc
    exact k F' H' hs' e)
  exact cast (by simp) this
end
end Ty

namespace Ty
open PySem PySem.Spec PyProof.Rows L2
open Enc (enc)
variable {G : Glob}
/-! ### list comprehensions -/
section
variable {α β : Type}
def compP (t : α → Prog Bool) (f : α → Prog β) : List α → Prog (List β)
  | [] => .ok []
  | a :: r => t a >>= fun b => if b then f a >>= fun y => compP t f r >>= fun ys => .ok (y :: ys) else compP t f r
def mapP (f : α → Prog β) : List α → Prog (List β)
  | [] => .ok []
  | a :: r => f a >>= fun y => mapP f r >>= fun ys => .ok (y :: ys)
def noerr : Prog α → Prog α
  | .ok a => .ok a
  | .err _ => .stuck
  | .stuck => .stuck
  | .draw n k => .draw n fun i => noerr (k i)
@[simp] theorem noerr_ok (a : α) : noerr (.ok a) = .ok a := rfl
@[simp] theorem noerr_stuck : noerr (.stuck : Prog α) = .stuck := rfl
@[simp] theorem noerr_draw (n : Int) (k : Int → Prog α) : noerr (.draw n k) = .draw n fun i => noerr (k i) := rfl
theorem noerr_bind (m : Prog α) (f : α → Prog β) : noerr (m >>= f) = noerr m >>= fun a => noerr (f a) := by
  induction m with
  | ok a => rfl
  | err e => rfl
  | stuck => rfl
  | draw n k ih =>
    show Prog.draw n _ = Prog.draw n _
    congr 1
    funext i
    exact ih i
theorem wp_noerr {m : Prog α} {P : α → Prop} {E : Exc → Prop} (h : wp (noerr m) P E) : wp m P (fun _ => False) := by
  induction m with
  | ok a => exact h
  | err e => exact h.elim
  | stuck => exact h
  | draw n k ih => exact ⟨h.1, h.2.1, fun i a b => ih i (h.2.2 i a b)⟩
end
theorem wipe_get (σ : L2.St) : ∀ (vs : List Nat) (k : Nat), (wipe σ vs)[k]? = if k ∈ vs then (σ[k]?).map (fun _ => none) else σ[k]?
  | [], k => by simp [wipe]
  | v :: vs, k => by
    show ((wipe σ vs).set v none)[k]? = _
    rw [List.getElem?_set, wipe_length]
    by_cases e : v = k
    · subst e
      rw [if_pos rfl, if_pos List.mem_cons_self]
      by_cases h : v < σ.length
      · rw [if_pos h, List.getElem?_eq_getElem h]; rfl
      · rw [if_neg h, List.getElem?_eq_none (by omega)]; rfl
    · rw [if_neg e, wipe_get σ vs k]
      by_cases h : k ∈ vs
      · rw [if_pos h, if_pos (List.mem_cons_of_mem _ h)]
      · rw [if_neg h, if_neg (by simp only [List.mem_cons, not_or]; exact ⟨fun z => e z.symm, h⟩)]
def wipeE (Γ : Env G) : List Nat → Env G
  | [] => Γ
  | v :: vs => (wipeE Γ vs).set v .dead
theorem wipeE_len (Γ : Env G) : ∀ vs : List Nat, (wipeE Γ vs).length = Γ.length
  | [] => rfl
  | v :: vs => by unfold wipeE; rw [List.length_set, wipeE_len Γ vs]
theorem wipeE_get (Γ : Env G) : ∀ (vs : List Nat) (k : Nat), (wipeE Γ vs)[k]? = if k ∈ vs then (Γ[k]?).map (fun _ => .dead) else Γ[k]?
  | [], k => by simp [wipeE]
  | v :: vs, k => by
    show ((wipeE Γ vs).set v .dead)[k]? = _
    rw [List.getElem?_set, wipeE_len]
    by_cases e : v = k
    · subst e
      rw [if_pos rfl, if_pos List.mem_cons_self]
      by_cases h : v < Γ.length
      · rw [if_pos h, List.getElem?_eq_getElem h]; rfl
      · rw [if_neg h, List.getElem?_eq_none (by omega)]; rfl
    · rw [if_neg e, wipeE_get Γ vs k]
      by_cases h : k ∈ vs
      · rw [if_pos h, if_pos (List.mem_cons_of_mem _ h)]
      · rw [if_neg h, if_neg (by simp only [List.mem_cons, not_or]; exact ⟨fun z => e z.symm, h⟩)]
section
variable {α β γ ω : Type} [iα : Rp G α] {N : NN} {Γ Γ' : Env G} {te ta tb : TE} {tt : TT}
theorem HS.wiped {σ : L2.St} {F H : Hp} (hs : HS N Γ σ F H) (vs : List Nat) : HS N (wipeE Γ vs) (wipe σ vs) F H := by
  refine ⟨hs.w, Slots.of (by rw [wipeE_len, wipe_length]; exact hs.sl.len) fun i e o h1 h2 => ?_, fun i j e e' p h1 h2 o1 o2 s1 s2 => ?_⟩
  · rw [wipeE_get] at h1
    rw [wipe_get] at h2
    by_cases hi : i ∈ vs
    · rw [if_pos hi] at h1
      cases hg : Γ[i]? with
      | none => rw [hg] at h1; cases h1
      | some e' => rw [hg] at h1; cases h1; trivial
    · rw [if_neg hi] at h1 h2
      obtain ⟨o', e1, s⟩ := hs.sl.get h1
      rw [h2] at e1; cases e1; exact s
  · have nd : ∀ {i : Nat} {e : Ent G}, (wipeE Γ vs)[i]? = some e → e.own = true → i ∉ vs ∧ Γ[i]? = some e := fun {i e} h o => by
      rw [wipeE_get] at h
      by_cases hi : i ∈ vs
      · rw [if_pos hi] at h
        cases hg : Γ[i]? with
        | none => rw [hg] at h; cases h
        | some e' => rw [hg] at h; cases h; cases o
      · rw [if_neg hi] at h; exact ⟨hi, h⟩
    obtain ⟨a1, b1⟩ := nd h1 o1
    obtain ⟨a2, b2⟩ := nd h2 o2
    rw [wipe_get, if_neg a1] at s1
    rw [wipe_get, if_neg a2] at s2
    exact hs.ds i j e e' p b1 b2 o1 o2 s1 s2
/-- a comprehension's target -/
def GC (N : NN) (Γ : Env G) (g : TG) (a : α) (Γ' : Env G) (vs : List Nat) : Prop := ∀ σ F H x, HS N Γ σ F H → iα.rp a x F → ∀ Q : L2.St → Hp → Prop, (∀ σ' F', HS N Γ' σ' F' H → Same F F' → wipe σ' vs = wipe σ vs → Q σ' H) → g x σ H Q
theorem gc_name {i : Nat} {a : α} : GC N Γ (gName i) a (Γ.set i (.per a)) [i] := fun σ F H x hs r Q q => q _ F (hs.setPer i r) (Same.refl F) (by show (σ.set i (some x)).set i none = σ.set i none; rw [List.set_set])
theorem gc_tup2 {α β : Type} [Enc α] [Enc β] {i j : Nat} {a : α × β} (hij : i ≠ j) : GC N Γ (gTup G.K 2 (gCons (gName i) (gCons (gName j) gNil))) a ((Γ.set i (.per a.1)).set j (.per a.2)) [i, j] := fun σ F H x hs r Q q => by
  have h : Dq G.K F x (.tuple [enc a.1, enc a.2]) := r
  cases h with
  | tup hq ha =>
    cases ha with
    | cons d1 h2 =>
      cases h2 with
      | cons d2 h3 =>
        cases h3
        refine ⟨_, _, rfl, sqt_same hs.w.fh hq, rfl, _, _, rfl, _, _, rfl, rfl, q _ F ((hs.setPer (a := a.1) i d1).setPer (a := a.2) j d2) (Same.refl F) ?_⟩
        show ((((σ.set i _).set j _).set j none).set i none) = ((σ.set j none).set i none)
        rw [List.set_set, List.set_comm _ _ hij, List.set_set]
def notOwn (Γ : Env G) (vs : List Nat) : Prop := ∀ i ∈ vs, ∀ e, Γ[i]? = some e → e.own = false
/-- N with other wishes about exceptions, and a look at what must stay -/
def NN.wi (N : NN) (E : XK) (O : Addr → Option HO) : NN := ⟨N.F0, N.H0, N.B, N.S, E, O⟩
theorem HS.wi {E : XK} {O : Addr → Option HO} {σ : L2.St} {F H : Hp} (hs : HS N Γ σ F H) (h : ∀ a o, O a = some o → (H a = some o ∧ F a = none) ∧ ∀ p c, N.S = some (p, c) → a ≠ p ∧ a ≠ c) : HS (N.wi E O) Γ σ F H :=
  ⟨⟨hs.w.fh, hs.w.f0, hs.w.nw, hs.w.kp, hs.w.dm, hs.w.sr, hs.w.sb, h⟩, hs.sl.imp fun j e o _ _ s => Sl.nn (N := N) (N' := N.wi E O) rfl rfl rfl rfl s, hs.ds⟩
theorem HS.unwi {E : XK} {O : Addr → Option HO} {σ : L2.St} {F H : Hp} (hs : HS (N.wi E O) Γ σ F H) (h : ∀ a o, N.O a = some o → (H a = some o ∧ F a = none) ∧ ∀ p c, N.S = some (p, c) → a ≠ p ∧ a ≠ c) : HS N Γ σ F H :=
  ⟨⟨hs.w.fh, hs.w.f0, hs.w.nw, hs.w.kp, hs.w.dm, hs.w.sr, hs.w.sb, h⟩, hs.sl.imp fun j e o _ _ s => Sl.nn (N := N.wi E O) (N' := N) rfl rfl rfl rfl s, hs.ds⟩
/-- the new list of a comprehension grows -/
theorem HS.grow {σ : L2.St} {F H : Hp} {p : Addr} {vs : List V} (hs : HS N Γ σ F H) (fp : F p = none) (h0 : N.H0 p = none) (ns : ∀ q c, N.S = some (q, c) → p ≠ q ∧ p ≠ c) (nh : ¬ Held Γ σ p) (nO : ∀ o, N.O p ≠ some o) : HS N Γ σ F (upd H p (.lst vs)) := by
  have w : W N F (upd H p (.lst vs)) := by
    refine ⟨fun a u e => ?_, hs.w.f0, hs.w.nw, fun a u nb e => ?_, fun a e => ?_, fun q c e => ?_, hs.w.sb, fun a u e => ?_⟩
    · rw [upd_ne (ne_of_none e fp)]; exact hs.w.fh a u e
    · rw [upd_ne (ne_of_none e h0)]; exact hs.w.kp a u nb e
    · by_cases ha : a = p
      · subst ha; rw [upd_same] at e; cases e
      · rw [upd_ne ha] at e; exact hs.w.dm a e
    · have s := hs.w.sr q c e
      obtain ⟨st, ix, cs, h1, h2, r⟩ := s.at_
      have x := ns q c e
      exact ⟨s.fp, s.fc, s.ne, st, ix, cs, by rw [upd_ne (Ne.symm x.1)]; exact h1, by rw [upd_ne (Ne.symm x.2)]; exact h2, r⟩
    · have x := hs.w.os a u e
      have y : a ≠ p := fun z => nO u (z ▸ e)
      exact ⟨⟨by rw [upd_ne y]; exact x.1.1, x.1.2⟩, x.2⟩
  exact hs.move w (Same.refl F) (fun q ws hl e => by
    have ne : q ≠ p := fun z => by rw [z] at hl; exact nh hl
    rw [upd_ne ne]; exact e) fun q hl => (hs.held hl).1.f
theorem Held.wiped {σ : L2.St} {vs : List Nat} {q : Addr} (hv : notOwn Γ vs) (h : Held Γ σ q) : Held (wipeE Γ vs) (wipe σ vs) q := by
  obtain ⟨i, e, h1, o, h2⟩ := h
  have hi : i ∉ vs := fun z => by
    have := hv i z e h1
    rw [o] at this; cases this
  exact ⟨i, e, by rw [wipeE_get, if_neg hi]; exact h1, o, by rw [wipe_get, if_neg hi]; exact h2⟩
theorem Held.unwiped {σ : L2.St} {vs : List Nat} {q : Addr} (h : Held (wipeE Γ vs) (wipe σ vs) q) : Held Γ σ q := by
  obtain ⟨i, e, h1, o, h2⟩ := h
  rw [wipeE_get] at h1
  rw [wipe_get] at h2
  by_cases hi : i ∈ vs
  · rw [if_pos hi] at h1
    cases hg : Γ[i]? with
    | none => rw [hg] at h1; cases h1
    | some e' => rw [hg] at h1; cases h1; cases o
  · rw [if_neg hi] at h1 h2
    exact ⟨i, e, h1, o, h2⟩
theorem wipe_wipe (σ : L2.St) (vs : List Nat) : wipe (wipe σ vs) vs = wipe σ vs := by
  apply List.ext_getElem?
  intro k
  rw [wipe_get, wipe_get]
  by_cases h : k ∈ vs
  · rw [if_pos h, if_pos h, Option.map_map]; rfl
  · rw [if_neg h, if_neg h]
theorem comp_core {δ : Type} [Enc δ] {wi : TI} {g : TG} {vs : List Nat} {mi : Prog (List α)} {t : α → Prog Bool} {f : α → Prog δ} {Γt : α → Env G} {Γl : Env G → Prop} {Ec : XK}
    (hi : EVI (α := α) N Γ wi mi Γl) (hv : notOwn Γ vs) (hl : Γl (wipeE Γ vs)) (hΓ : ∀ a, wipeE (Γt a) vs = wipeE Γ vs) (hg : ∀ O a, GC (N.wi Ec O) (wipeE Γ vs) g a (Γt a) vs)
    (ht : ∀ O a, TV (N.wi Ec O) (Γt a) tt (t a)) (he : ∀ O a, EV (N.wi Ec O) (Γt a) te (f a)) {fin : Exc → Prop} (hE : ∀ O, (∀ a o, N.O a = some o → O a = some o) → ∀ e, fin e → EP G (N.wi Ec O) e) {M : List α → Prog (L δ)}
    (hM : ∀ xs (P : List δ → Prop), wp (M xs) P (EP G N) → small xs.length = true ∧ wp (compP t f xs) P fin) :
    EVN N Γ (tLc wi g tt te vs) (mi >>= M) := fun σ F H hs Q q =>
  hi σ F H hs _ (wp_mono (wp_bind.1 q) fun xs q1 F1 H1 JJ hs1 e1 gen D hD => by
    obtain ⟨hsm, q1⟩ := hM xs _ q1
    have hsm' := of_decide_eq_true hsm
    let O : List V → Addr → Option HO := fun us a => by
      classical
      exact if a = D then some (.lst us) else if Held Γ σ a then H1 a else N.O a
    have nheld : ¬ Held Γ σ D := fun x => by
      obtain ⟨_, vs, h⟩ := hs1.held x
      rw [hD] at h; cases h
    have fD : F1 D = none := Same.free hs1.w.fh hD
    have h0D : N.H0 D = none := hs1.w.dm D hD
    have sD : ∀ p c, N.S = some (p, c) → D ≠ p ∧ D ≠ c := fun p c e => by
      obtain ⟨st, ix, cs, h1, h2, _⟩ := (hs1.w.sr p c e).at_
      refine ⟨fun z => ?_, fun z => ?_⟩
      · rw [← z, hD] at h1; cases h1
      · rw [← z, hD] at h2; cases h2
    have nOD : N.O D = none := by
      cases z : N.O D with
      | none => rfl
      | some o => exact absurd (hs1.w.os D o z).1.1 (by rw [hD]; intro y; cases y)
    have hOD : ∀ us, O us D = some (.lst us) := fun us => by simp [O]
    have hOh : ∀ us a, Held Γ σ a → O us a = H1 a := fun us a hh => by
      have : a ≠ D := fun z => nheld (z ▸ hh)
      simp [O, this, hh]
    have hON : ∀ us a o, N.O a = some o → O us a = some o := fun us a o h => by
      have ne : a ≠ D := fun z => by rw [z, nOD] at h; cases h
      by_cases hh : Held Γ σ a
      · rw [hOh us a hh]; exact (hs1.w.os a o h).1.1
      · simp [O, ne, hh, h]
    have hOs : ∀ us a o, O us a = some o → a ≠ D → (H1 a = some o ∧ F1 a = none) ∧ ∀ p c, N.S = some (p, c) → a ≠ p ∧ a ≠ c := fun us a o h ne => by
      by_cases hh : Held Γ σ a
      · rw [hOh us a hh] at h
        exact ⟨⟨h, (hs1.held hh).1.f⟩, (hs1.held hh).1.s⟩
      · have : O us a = N.O a := by simp [O, ne, hh]
        rw [this] at h
        exact hs1.w.os a o h
    have unO : ∀ {us : List V} {Γ' : Env G} {σ' : L2.St} {F' H' : Hp}, HS (N.wi Ec (O us)) Γ' σ' F' H' → HS N Γ' σ' F' H' := fun {us Γ' σ' F' H'} h => h.unwi fun a o x => h.w.os a o (hON us a o x)
    -- the state between two turns
    let B : List δ → Hp → Hp → Prop := fun acc F' H' => ∃ us, HS (N.wi Ec (O us)) (wipeE Γ vs) (wipe σ vs) F' H' ∧ Same F1 F' ∧ DqAll G.K F' us (acc.map enc)
    have start : B [] F1 (upd H1 D (.lst [])) := by
      have w2 := (hs_newlist (vs := []) (hs1.wiped vs) hD).1
      refine ⟨[], w2.wi fun a o x => ?_, Same.refl F1, .nil⟩
      by_cases ha : a = D
      · subst ha
        rw [hOD] at x
        rw [upd_same]
        exact ⟨⟨x, fD⟩, sD⟩
      · rw [upd_ne ha]
        exact hOs [] a o x ha
    have step : ∀ {us : List V} {Γ' : Env G} {σ' : L2.St} {F' H' : Hp}, HS (N.wi Ec (O us)) Γ' σ' F' H' → wipeE Γ' vs = wipeE Γ vs → wipe σ' vs = wipe σ vs → HS (N.wi Ec (O us)) (wipeE Γ vs) (wipe σ vs) F' H' := fun {us Γ' σ' F' H'} h a b => by
      rw [← a, ← b]
      exact h.wiped vs
    have grow : ∀ {us us' : List V} {F' H' : Hp}, HS (N.wi Ec (O us)) (wipeE Γ vs) (wipe σ vs) F' H' → HS (N.wi Ec (O us')) (wipeE Γ vs) (wipe σ vs) F' (upd H' D (.lst us')) := fun {us us' F' H'} h => by
      have hf : F' D = none := (h.w.os D _ (hOD us)).1.2
      have h1 : HS N (wipeE Γ vs) (wipe σ vs) F' (upd H' D (.lst us')) := (unO h).grow hf h0D sD (fun x => nheld x.unwiped) (fun o x => by rw [nOD] at x; cases x)
      refine h1.wi fun a o x => ?_
      by_cases ha : a = D
      · subst ha
        rw [hOD] at x
        rw [upd_same]
        exact ⟨⟨x, hf⟩, sD⟩
      · rw [upd_ne ha]
        have x' : O us a = some o := by
          have : O us a = O us' a := by simp [O, ha]
          rw [this]; exact x
        exact h.w.os a o x'
    refine ⟨fun i m H' => ∃ acc F', B acc F' H' ∧ i ≤ xs.length ∧ m = xs.length - i ∧ acc.length ≤ i ∧ wp (compP t f (xs.drop i)) (fun ys => ∀ p vs F' H', HS N Γ σ F' H' → Same F1 F' → NewAt N Γ σ F' p → H' p = some (.lst vs) → DqAll G.K F' vs ((acc ++ ys).map enc) → Q (.ref p) H') fin, ⟨_, [], F1, start, Nat.zero_le _, rfl, Nat.le_refl _, wp_mono q1 fun ys k p vs F' H' a b c d e => k p vs F' H' a (Same.trans e1 b) c d e⟩, ?_⟩
    rintro i m H2 ⟨acc, F2, ⟨us, hs2, e2, d2⟩, hle, rfl, hacc, q2⟩
    have hG := gen N (wipeE Γ vs) hl
    have hsN := unO hs2
    by_cases hi : i < xs.length
    · have ex : xs[i]? = some xs[i] := List.getElem?_eq_getElem hi
      rw [List.drop_eq_getElem_cons hi] at q2
      refine .inr ⟨hG.go i _ F2 H2 hsN e2 hi, fun H' => ∃ acc' F', B acc' F' H' ∧ acc'.length ≤ i + 1 ∧ wp (compP t f (xs.drop (i + 1))) (fun ys => ∀ p vs F' H', HS N Γ σ F' H' → Same F1 F' → NewAt N Γ σ F' p → H' p = some (.lst vs) → DqAll G.K F' vs ((acc' ++ ys).map enc) → Q (.ref p) H') fin, ?_, fun x H3 hy => ?_⟩
      · rintro H' ⟨acc', F', hB, hl', q'⟩
        exact ⟨xs.length - (i + 1), by omega, acc', F', hB, hi, rfl, hl', q'⟩
      · have q3 := wp_bind.1 q2
        have fin2 : ∀ F3, HS (N.wi Ec (O us)) (wipeE Γ vs) (wipe σ vs) F3 H3 → Same F2 F3 → iα.rp xs[i] x F3 → g x (wipe σ vs) H3 fun σ2 H2 => wipe σ2 vs = wipe σ vs ∧ tt σ2 H2 fun b H3 => if b = true then te σ2 H3 fun y H4 => ∃ acc, H4 D = some (.lst acc) ∧ acc.length < sizeLine ∧ ∃ acc' F', B acc' F' (upd H4 D (.lst (acc ++ [y]))) ∧ acc'.length ≤ i + 1 ∧ wp (compP t f (xs.drop (i + 1))) (fun ys => ∀ p vs F' H', HS N Γ σ F' H' → Same F1 F' → NewAt N Γ σ F' p → H' p = some (.lst vs) → DqAll G.K F' vs ((acc' ++ ys).map enc) → Q (.ref p) H') fin
              else ∃ acc' F', B acc' F' H3 ∧ acc'.length ≤ i + 1 ∧ wp (compP t f (xs.drop (i + 1))) (fun ys => ∀ p vs F' H', HS N Γ σ F' H' → Same F1 F' → NewAt N Γ σ F' p → H' p = some (.lst vs) → DqAll G.K F' vs ((acc' ++ ys).map enc) → Q (.ref p) H') fin := fun F3 hs3 e3 r3 => by
          refine hg (O us) xs[i] _ F3 H3 x hs3 r3 _ fun σ4 F4 hs4 e4 hw => ⟨hw.trans (wipe_wipe σ vs), ?_⟩
          have hw' : wipe σ4 vs = wipe σ vs := hw.trans (wipe_wipe σ vs)
          refine ht (O us) xs[i] σ4 F4 H3 hs4 _ (wp_imp q3 (fun b q4 F5 H5 hs5 e5 => ?_) (hE (O us) (hON us)))
          have e15 : Same F2 F5 := Same.trans e3 (Same.trans e4 e5)
          cases b with
          | true =>
            rw [if_pos rfl]
            refine he (O us) xs[i] σ4 F5 H5 hs5 _ (wp_imp (wp_bind.1 q4) (fun y q5 v F6 H6 hs6 e6 r6 => ?_) (hE (O us) (hON us)))
            have hD6 : H6 D = some (.lst us) := (hs6.w.os D _ (hOD us)).1.1
            have d6 := dpAll_same (Same.trans e15 e6) _ _ d2
            have l6 := dpAll_len d6
            refine ⟨us, hD6, ?_, acc ++ [y], F6, ⟨us ++ [v], grow (step hs6 (hΓ _) hw'), Same.trans e2 (Same.trans e15 e6), by rw [List.map_append]; exact dpAll_append d6 (.cons r6 .nil)⟩, by rw [List.length_append]; exact Nat.succ_le_succ hacc, ?_⟩
            · rw [l6]
              exact Nat.lt_of_le_of_lt (Nat.le_trans hacc (Nat.le_trans hle hsm')) (by decide)
            · refine wp_mono (wp_bind.1 q5) fun ys q6 => ?_
              have q6' : ∀ p vs F' H', HS N Γ σ F' H' → Same F1 F' → NewAt N Γ σ F' p → H' p = some (.lst vs) → DqAll G.K F' vs ((acc ++ (y :: ys)).map enc) → Q (.ref p) H' := q6
              rw [List.append_assoc]
              exact q6'
          | false =>
            rw [if_neg Bool.false_ne_true]
            exact ⟨acc, F5, ⟨us, step hs5 (hΓ _) hw', Same.trans e2 e15, dpAll_same e15 _ _ d2⟩, Nat.le_succ_of_le hacc, q4⟩
        rcases hG.yld i xs[i] _ F2 H2 x H3 hsN e2 ex hy with ⟨rfl, r⟩ | ⟨T, o, hT, rfl, r⟩
        · exact fin2 F2 hs2 (Same.refl F2) r
        · obtain ⟨hs3, e3⟩ := hs2.laid (o := o) hT
          exact fin2 _ hs3 e3 r
    · have e : i = xs.length := by omega
      subst e
      rw [List.drop_length] at q2
      have q2' : ∀ p vs F' H', HS N Γ σ F' H' → Same F1 F' → NewAt N Γ σ F' p → H' p = some (.lst vs) → DqAll G.K F' vs ((acc ++ []).map enc) → Q (.ref p) H' := q2
      refine .inl ⟨hG.stop _ _ F2 H2 hsN e2 (Nat.le_refl _), ?_⟩
      have hD2 := (hs2.w.os D _ (hOD us)).1
      have hs3 : HS N Γ σ F2 H2 := hs1.move hsN.w e2 (fun q ws hl h => (hs2.w.os q _ ((hOh us q hl).trans h)).1.1) (fun q hl => by
        obtain ⟨m, ws, h⟩ := hs1.held hl
        exact (hs2.w.os q _ ((hOh us q hl).trans h)).1.2)
      exact q2' D us F2 H2 hs3 e2 ⟨⟨hD2.2, h0D, sD⟩, h0D, nheld, nOD⟩ hD2.1 (by rw [List.append_nil]; exact d2))
theorem ep_wi {O : Addr → Option HO} (h : ∀ a o, N.O a = some o → O a = some o) (e : Exc) (k : EP G N e) : EP G (N.wi N.E O) e := fun F' H' C d w r => k F' H' C d ⟨w.fh, w.f0, w.nw, w.kp, w.dm, w.sr, w.sb, fun a o x => w.os a o (h a o x)⟩ r
theorem tv_yes : TV N Γ tYes (.ok true) := fun σ F H hs Q q => q F H hs (Same.refl F)
theorem compP_map {δ : Type} (f : α → Prog δ) : ∀ xs : List α, compP (fun _ => .ok true) f xs = mapP f xs
  | [] => rfl
  | a :: r => by
    show (f a >>= fun y => compP (fun _ => .ok true) f r >>= fun ys => Prog.ok (y :: ys)) = (f a >>= fun y => mapP f r >>= fun ys => Prog.ok (y :: ys))
    rw [compP_map f r]
section
variable {δ : Type} [Enc δ] {wi : TI} {g : TG} {vs : List Nat} {mi : Prog (List α)} {t : α → Prog Bool} {f : α → Prog δ} {Γt : α → Env G} {Γl : Env G → Prop}
theorem evn_lc (hi : EVI (α := α) N Γ wi mi Γl) (hv : notOwn Γ vs) (hl : Γl (wipeE Γ vs)) (hg : ∀ O a, GC (N.wi N.E O) (wipeE Γ vs) g a (Γt a) vs)
    (ht : ∀ O a, TV (N.wi N.E O) (Γt a) tt (t a)) (he : ∀ O a, EV (N.wi N.E O) (Γt a) te (f a)) (hΓ : ∀ a, wipeE (Γt a) vs = wipeE Γ vs) :
    EVN N Γ (tLc wi g tt te vs) (mi >>= fun xs => chk (small xs.length) (compP t f xs : Prog (L δ))) :=
  comp_core (Ec := N.E) (fin := EP G N) hi hv hl hΓ hg ht he (fun O h e => ep_wi h e) fun xs P h => wp_chk h
theorem evn_map (hi : EVI (α := α) N Γ wi mi Γl) (hv : notOwn Γ vs) (hl : Γl (wipeE Γ vs)) (hg : ∀ O a, GC (N.wi N.E O) (wipeE Γ vs) g a (Γt a) vs)
    (he : ∀ O a, EV (N.wi N.E O) (Γt a) te (f a)) (hΓ : ∀ a, wipeE (Γt a) vs = wipeE Γ vs) : EVN N Γ (tLc wi g tYes te vs) (mi >>= fun xs => chk (small xs.length) (mapP f xs : Prog (L δ))) :=
  comp_core (Ec := N.E) (fin := EP G N) (t := fun _ => .ok true) hi hv hl hΓ hg (fun O a => tv_yes) he (fun O h e => ep_wi h e) fun xs P h => by
    rw [compP_map]
    exact wp_chk h
/-- .. where the block calls defs: no error may leave it -/
theorem evn_lcE (hi : EVI (α := α) N Γ wi mi Γl) (hv : notOwn Γ vs) (hl : Γl (wipeE Γ vs)) (hg : ∀ O a, GC (N.wi E0 O) (wipeE Γ vs) g a (Γt a) vs)
    (ht : ∀ O a, TV (N.wi E0 O) (Γt a) tt (t a)) (he : ∀ O a, EV (N.wi E0 O) (Γt a) te (f a)) (hΓ : ∀ a, wipeE (Γt a) vs = wipeE Γ vs) :
    EVN N Γ (tLc wi g tt te vs) (mi >>= fun xs => chk (small xs.length) (noerr (compP t f xs) : Prog (L δ))) :=
  comp_core (Ec := E0) (fin := fun _ => False) hi hv hl hΓ hg ht he (fun O h e x => x.elim) fun xs P h => by
    obtain ⟨a, b⟩ := wp_chk h
    exact ⟨a, wp_noerr b⟩
theorem evn_mapE (hi : EVI (α := α) N Γ wi mi Γl) (hv : notOwn Γ vs) (hl : Γl (wipeE Γ vs)) (hg : ∀ O a, GC (N.wi E0 O) (wipeE Γ vs) g a (Γt a) vs)
    (he : ∀ O a, EV (N.wi E0 O) (Γt a) te (f a)) (hΓ : ∀ a, wipeE (Γt a) vs = wipeE Γ vs) : EVN N Γ (tLc wi g tYes te vs) (mi >>= fun xs => chk (small xs.length) (noerr (mapP f xs) : Prog (L δ))) :=
  comp_core (Ec := E0) (fin := fun _ => False) (t := fun _ => .ok true) hi hv hl hΓ hg (fun O a => tv_yes) he (fun O h e x => x.elim) fun xs P h => by
    rw [compP_map]
    obtain ⟨a, b⟩ := wp_chk h
    exact ⟨a, wp_noerr b⟩
end
end
end Ty

namespace Ty
open PySem PySem.Spec PyProof.Rows L2
open Enc (enc)
variable {G : Glob}
/-! ### comprehensions with two fors -/
def comp2P {α β δ : Type} (t : α → Prog Bool) (mi : α → Prog (List β)) (t1 : α → β → Prog Bool) (f : α → β → Prog δ) : List α → Prog (List δ)
  | [] => .ok []
  | a :: r => t a >>= fun b => if b then mi a >>= fun ys => chk (decide (ys.length ≤ 160)) (compP (t1 a) (f a) ys >>= fun zs => comp2P t mi t1 f r >>= fun rs => .ok (zs ++ rs)) else comp2P t mi t1 f r
theorem wipe_sub (σ : L2.St) {vs vs1 : List Nat} (h : ∀ i ∈ vs1, i ∈ vs) : wipe (wipe σ vs1) vs = wipe σ vs := by
  apply List.ext_getElem?
  intro k
  rw [wipe_get, wipe_get, wipe_get]
  by_cases h1 : k ∈ vs
  · rw [if_pos h1, if_pos h1]
    by_cases h2 : k ∈ vs1
    · rw [if_pos h2, Option.map_map]; rfl
    · rw [if_neg h2]
  · rw [if_neg h1, if_neg h1, if_neg fun z => h1 (h _ z)]
theorem gc_more {α : Type} [iα : Rp G α] {N : NN} {Γ Γ' : Env G} {g : TG} {a : α} {us vs : List Nat} (h : GC N Γ g a Γ' us) (hs : ∀ i ∈ us, i ∈ vs) : GC N Γ g a Γ' vs := fun σ F H x h0 r Q q =>
  h σ F H x h0 r Q fun σ' F' h1 e1 w => q σ' F' h1 e1 (by rw [← wipe_sub σ' hs, w, wipe_sub σ hs])
theorem wipeE_sub (Γ : Env G) {vs vs1 : List Nat} (h : ∀ i ∈ vs1, i ∈ vs) : wipeE (wipeE Γ vs1) vs = wipeE Γ vs := by
  apply List.ext_getElem?
  intro k
  rw [wipeE_get, wipeE_get, wipeE_get]
  by_cases h1 : k ∈ vs
  · rw [if_pos h1, if_pos h1]
    by_cases h2 : k ∈ vs1
    · rw [if_pos h2, Option.map_map]; rfl
    · rw [if_neg h2]
  · rw [if_neg h1, if_neg h1, if_neg fun z => h1 (h _ z)]
section
variable {α β γ ω : Type} [iα : Rp G α] [iβ : Rp G β] {N : NN} {Γ Γ' : Env G} {te ta tb : TE} {tt tt1 : TT}
theorem comp2_core {δ : Type} [Enc δ] {wi wi1 : TI} {g g1 : TG} {vs vs1 : List Nat} {mi : Prog (List α)} {t : α → Prog Bool} {mi1 : α → Prog (List β)} {t1 : α → β → Prog Bool} {f : α → β → Prog δ} {Γt : α → Env G} {Γu : α → β → Env G} {Γl : Env G → Prop} {Γl1 : α → Env G → Prop} {Ec : XK}
    (hi : EVI (α := α) N Γ wi mi Γl) (hv : notOwn Γ vs) (hsub : ∀ i ∈ vs1, i ∈ vs) (hl : Γl (wipeE Γ vs)) (hΓ : ∀ a, wipeE (Γt a) vs = wipeE Γ vs) (hno : ∀ a, notOwn (Γt a) vs) (hg : ∀ O a, GC (N.wi Ec O) (wipeE Γ vs) g a (Γt a) vs)
    (ht : ∀ O a, TV (N.wi Ec O) (Γt a) tt (t a)) (hi1 : ∀ O a, EVI (α := β) (N.wi Ec O) (Γt a) wi1 (mi1 a) (Γl1 a)) (hl1 : ∀ a, Γl1 a (wipeE (Γt a) vs1)) (hΓ1 : ∀ a b, wipeE (Γu a b) vs1 = wipeE (Γt a) vs1)
    (hg1 : ∀ O a b, GC (N.wi Ec O) (wipeE (Γt a) vs1) g1 b (Γu a b) vs1) (ht1 : ∀ O a b, TV (N.wi Ec O) (Γu a b) tt1 (t1 a b)) (he : ∀ O a b, EV (N.wi Ec O) (Γu a b) te (f a b))
    {fin : Exc → Prop} (hE : ∀ O, (∀ a o, N.O a = some o → O a = some o) → ∀ e, fin e → EP G (N.wi Ec O) e) {M : List α → Prog (L δ)}
    (hM : ∀ xs (P : List δ → Prop), wp (M xs) P (EP G N) → small xs.length = true ∧ wp (comp2P t mi1 t1 f xs) P fin) :
    EVN N Γ (tLc2 wi g tt wi1 g1 tt1 te vs vs1) (mi >>= M) := fun σ F H hs Q q =>
  hi σ F H hs _ (wp_mono (wp_bind.1 q) fun xs q1 F1 H1 JJ hs1 e1 gen D hD => by
    obtain ⟨hsm, q1⟩ := hM xs _ q1
    have hsm' := of_decide_eq_true hsm
    let O : List V → Addr → Option HO := fun us a => by
      classical
      exact if a = D then some (.lst us) else if Held Γ σ a then H1 a else N.O a
    have nheld : ¬ Held Γ σ D := fun x => by
      obtain ⟨_, vs, h⟩ := hs1.held x
      rw [hD] at h; cases h
    have fD : F1 D = none := Same.free hs1.w.fh hD
    have h0D : N.H0 D = none := hs1.w.dm D hD
    have sD : ∀ p c, N.S = some (p, c) → D ≠ p ∧ D ≠ c := fun p c e => by
      obtain ⟨st, ix, cs, h1, h2, _⟩ := (hs1.w.sr p c e).at_
      refine ⟨fun z => ?_, fun z => ?_⟩
      · rw [← z, hD] at h1; cases h1
      · rw [← z, hD] at h2; cases h2
    have nOD : N.O D = none := by
      cases z : N.O D with
      | none => rfl
      | some o => exact absurd (hs1.w.os D o z).1.1 (by rw [hD]; intro y; cases y)
    have hOD : ∀ us, O us D = some (.lst us) := fun us => by simp [O]
    have hOh : ∀ us a, Held Γ σ a → O us a = H1 a := fun us a hh => by
      have : a ≠ D := fun z => nheld (z ▸ hh)
      simp [O, this, hh]
    have hON : ∀ us a o, N.O a = some o → O us a = some o := fun us a o h => by
      have ne : a ≠ D := fun z => by rw [z, nOD] at h; cases h
      by_cases hh : Held Γ σ a
      · rw [hOh us a hh]; exact (hs1.w.os a o h).1.1
      · simp [O, ne, hh, h]
    have hOs : ∀ us a o, O us a = some o → a ≠ D → (H1 a = some o ∧ F1 a = none) ∧ ∀ p c, N.S = some (p, c) → a ≠ p ∧ a ≠ c := fun us a o h ne => by
      by_cases hh : Held Γ σ a
      · rw [hOh us a hh] at h
        exact ⟨⟨h, (hs1.held hh).1.f⟩, (hs1.held hh).1.s⟩
      · have : O us a = N.O a := by simp [O, ne, hh]
        rw [this] at h
        exact hs1.w.os a o h
    have unO : ∀ {us : List V} {Γ' : Env G} {σ' : L2.St} {F' H' : Hp}, HS (N.wi Ec (O us)) Γ' σ' F' H' → HS N Γ' σ' F' H' := fun {us Γ' σ' F' H'} h => h.unwi fun a o x => h.w.os a o (hON us a o x)
    let B : List δ → Hp → Hp → Prop := fun acc F' H' => ∃ us, HS (N.wi Ec (O us)) (wipeE Γ vs) (wipe σ vs) F' H' ∧ Same F1 F' ∧ DqAll G.K F' us (acc.map enc)
    have start : B [] F1 (upd H1 D (.lst [])) := by
      have w2 := (hs_newlist (vs := []) (hs1.wiped vs) hD).1
      refine ⟨[], w2.wi fun a o x => ?_, Same.refl F1, .nil⟩
      by_cases ha : a = D
      · subst ha
        rw [hOD] at x
        rw [upd_same]
        exact ⟨⟨x, fD⟩, sD⟩
      · rw [upd_ne ha]
        exact hOs [] a o x ha
    have grow : ∀ {us us' : List V} {Γ' : Env G} {σ' : L2.St} {F' H' : Hp}, ¬ Held Γ' σ' D → HS (N.wi Ec (O us)) Γ' σ' F' H' → HS (N.wi Ec (O us')) Γ' σ' F' (upd H' D (.lst us')) := fun {us us' Γ' σ' F' H'} nh h => by
      have hf : F' D = none := (h.w.os D _ (hOD us)).1.2
      have h1 : HS N Γ' σ' F' (upd H' D (.lst us')) := (unO h).grow hf h0D sD nh (fun o x => by rw [nOD] at x; cases x)
      refine h1.wi fun a o x => ?_
      by_cases ha : a = D
      · subst ha
        rw [hOD] at x
        rw [upd_same]
        exact ⟨⟨x, hf⟩, sD⟩
      · rw [upd_ne ha]
        have x' : O us a = some o := by
          have : O us a = O us' a := by simp [O, ha]
          rw [this]; exact x
        exact h.w.os a o x'
    -- what is wanted behind the whole
    let Z : List δ → List δ → Prop := fun acc ys => ∀ p vs F' H', HS N Γ σ F' H' → Same F1 F' → NewAt N Γ σ F' p → H' p = some (.lst vs) → DqAll G.K F' vs ((acc ++ ys).map enc) → Q (.ref p) H'
    refine ⟨fun i m H' => ∃ acc F', B acc F' H' ∧ i ≤ xs.length ∧ m = xs.length - i ∧ acc.length ≤ i * 160 ∧ wp (comp2P t mi1 t1 f (xs.drop i)) (Z acc) fin, ⟨_, [], F1, start, Nat.zero_le _, rfl, Nat.zero_le _, wp_mono q1 fun ys k p vs F' H' a b c d e => k p vs F' H' a (Same.trans e1 b) c d e⟩, ?_⟩
    rintro i m H2 ⟨acc, F2, ⟨us, hs2, e2, d2⟩, hle, rfl, hacc, q2⟩
    have hG := gen N (wipeE Γ vs) hl
    have hsN := unO hs2
    by_cases hi : i < xs.length
    · have ex : xs[i]? = some xs[i] := List.getElem?_eq_getElem hi
      rw [List.drop_eq_getElem_cons hi] at q2
      refine .inr ⟨hG.go i _ F2 H2 hsN e2 hi, fun H' => ∃ acc' F', B acc' F' H' ∧ acc'.length ≤ (i + 1) * 160 ∧ wp (comp2P t mi1 t1 f (xs.drop (i + 1))) (Z acc') fin, ?_, fun x H3 hy => ?_⟩
      · rintro H' ⟨acc', F', hB, hl', q'⟩
        exact ⟨xs.length - (i + 1), by omega, acc', F', hB, hi, rfl, hl', q'⟩
      · have q3 := wp_bind.1 q2
        have fin2 : ∀ F3, HS (N.wi Ec (O us)) (wipeE Γ vs) (wipe σ vs) F3 H3 → Same F2 F3 → iα.rp xs[i] x F3 → g x (wipe σ vs) H3 fun σ2 H3 => wipe σ2 vs = wipe σ vs ∧ tt σ2 H3 fun b H3 =>
            if b = true then wi1 σ2 H3 fun J1 H4 => ∃ W1 : Nat → Nat → Hp → Prop, (∃ m, W1 0 m H4) ∧ ∀ j k H, W1 j k H →
              (J1.stop j H ∧ (fun H' => ∃ acc' F', B acc' F' H' ∧ acc'.length ≤ (i + 1) * 160 ∧ wp (comp2P t mi1 t1 f (xs.drop (i + 1))) (Z acc') fin) H) ∨ (J1.go j H ∧ ∃ Nx1 : Hp → Prop, (∀ H', Nx1 H' → ∃ k', k' < k ∧ W1 (j + 1) k' H') ∧ ∀ x H', J1.yld j H x H' → g1 x (wipe σ2 vs1) H' fun σ3 H5 => wipe σ3 vs1 = wipe σ2 vs1 ∧ tt1 σ3 H5 fun b H6 =>
                if b = true then te σ3 H6 fun y H7 => ∃ acc, H7 D = some (.lst acc) ∧ acc.length < sizeLine ∧ Nx1 (upd H7 D (.lst (acc ++ [y]))) else Nx1 H6)
            else (fun H' => ∃ acc' F', B acc' F' H' ∧ acc'.length ≤ (i + 1) * 160 ∧ wp (comp2P t mi1 t1 f (xs.drop (i + 1))) (Z acc') fin) H3 := fun F3 hs3 e3 r3 => by
          refine hg (O us) xs[i] _ F3 H3 x hs3 r3 _ fun σ4 F4 hs4 e4 hw => ⟨hw.trans (wipe_wipe σ vs), ?_⟩
          have hw' : wipe σ4 vs = wipe σ vs := hw.trans (wipe_wipe σ vs)
          refine ht (O us) xs[i] σ4 F4 H3 hs4 _ (wp_imp q3 (fun b q4 F5 H5 hs5 e5 => ?_) (hE (O us) (hON us)))
          have e15 : Same F2 F5 := Same.trans e3 (Same.trans e4 e5)
          cases b with
          | false =>
            rw [if_neg Bool.false_ne_true]
            have hback := hs5.wiped vs
            rw [hΓ, hw'] at hback
            exact ⟨acc, F5, ⟨us, hback, Same.trans e2 e15, dpAll_same e15 _ _ d2⟩, by omega, q4⟩
          | true =>
            rw [if_pos rfl]
            refine hi1 (O us) xs[i] σ4 F5 H5 hs5 _ (wp_imp (wp_bind.1 q4) (fun ys q5 F6 H6 J1 hs6 e6 gen1 => ?_) (hE (O us) (hON us)))
            obtain ⟨hys, q5⟩ := wp_chk q5
            have hys := of_decide_eq_true hys
            have nh1 : ∀ σ' , wipe σ' vs1 = wipe σ4 vs1 → ¬ Held (wipeE (Γt xs[i]) vs1) (wipe σ' vs1) D := fun σ' hσ hh => by
              rw [hσ] at hh
              have nn : notOwn (wipeE (Γt xs[i]) vs1) vs := fun k hk e ek => by
                rw [wipeE_get] at ek
                by_cases hk1 : k ∈ vs1
                · rw [if_pos hk1] at ek
                  cases hz : (Γt xs[i])[k]? with
                  | none => rw [hz] at ek; cases ek
                  | some e' => rw [hz] at ek; cases ek; rfl
                · rw [if_neg hk1] at ek
                  exact hno _ k hk e ek
              have := hh.wiped nn
              rw [wipeE_sub _ hsub, hΓ, wipe_sub _ hsub, hw'] at this
              exact nheld this.unwiped
            have e26 : Same F2 F6 := Same.trans e15 e6
            have hG1 := fun Oz => gen1 (N.wi Ec Oz) _ (hl1 xs[i])
            have s0 := hs6.wiped vs1
            refine ⟨fun j k H' => ∃ acc1 F' us1, HS (N.wi Ec (O us1)) (wipeE (Γt xs[i]) vs1) (wipe σ4 vs1) F' H' ∧ Same F6 F' ∧ DqAll G.K F' us1 (acc1.map enc) ∧ j ≤ ys.length ∧ k = ys.length - j ∧ acc1.length ≤ i * 160 + j ∧
              wp (compP (t1 xs[i]) (f xs[i]) (ys.drop j)) (fun zs => wp (comp2P t mi1 t1 f (xs.drop (i + 1))) (fun rs => Z acc1 (zs ++ rs)) fin) fin, ⟨_, acc, F6, us, s0, Same.refl F6, dpAll_same e26 _ _ d2, Nat.zero_le _, rfl, by omega, ?_⟩, ?_⟩
            · exact wp_mono (wp_bind.1 q5) fun zs q6 => wp_mono (wp_bind.1 q6) fun rs q7 => q7
            rintro j k H7 ⟨acc1, F7, us1, hs7, e7, d7, hj, rfl, ha1, q7⟩
            by_cases hjl : j < ys.length
            · have ey : ys[j]? = some ys[j] := List.getElem?_eq_getElem hjl
              rw [List.drop_eq_getElem_cons hjl] at q7
              refine .inr ⟨(hG1 (O us1)).go j _ F7 H7 hs7 e7 hjl, fun H' => ∃ acc2 F' us2, HS (N.wi Ec (O us2)) (wipeE (Γt xs[i]) vs1) (wipe σ4 vs1) F' H' ∧ Same F6 F' ∧ DqAll G.K F' us2 (acc2.map enc) ∧ acc2.length ≤ i * 160 + (j + 1) ∧
                wp (compP (t1 xs[i]) (f xs[i]) (ys.drop (j + 1))) (fun zs => wp (comp2P t mi1 t1 f (xs.drop (i + 1))) (fun rs => Z acc2 (zs ++ rs)) fin) fin, ?_, fun y H8 hy1 => ?_⟩
              · rintro H' ⟨acc2, F', us2, y1, y2, y3, y4, y5⟩
                exact ⟨ys.length - (j + 1), by omega, acc2, F', us2, y1, y2, y3, hjl, rfl, y4, y5⟩
              · have q8 := wp_bind.1 q7
                have fin3 : ∀ F8, HS (N.wi Ec (O us1)) (wipeE (Γt xs[i]) vs1) (wipe σ4 vs1) F8 H8 → Same F7 F8 → iβ.rp ys[j] y F8 → g1 y (wipe σ4 vs1) H8 fun σ3 H5 => wipe σ3 vs1 = wipe σ4 vs1 ∧ tt1 σ3 H5 fun b H6 =>
                    if b = true then te σ3 H6 fun y H7 => ∃ acc, H7 D = some (.lst acc) ∧ acc.length < sizeLine ∧ (fun H' => ∃ acc2 F' us2, HS (N.wi Ec (O us2)) (wipeE (Γt xs[i]) vs1) (wipe σ4 vs1) F' H' ∧ Same F6 F' ∧ DqAll G.K F' us2 (acc2.map enc) ∧ acc2.length ≤ i * 160 + (j + 1) ∧
                      wp (compP (t1 xs[i]) (f xs[i]) (ys.drop (j + 1))) (fun zs => wp (comp2P t mi1 t1 f (xs.drop (i + 1))) (fun rs => Z acc2 (zs ++ rs)) fin) fin) (upd H7 D (.lst (acc ++ [y])))
                    else (fun H' => ∃ acc2 F' us2, HS (N.wi Ec (O us2)) (wipeE (Γt xs[i]) vs1) (wipe σ4 vs1) F' H' ∧ Same F6 F' ∧ DqAll G.K F' us2 (acc2.map enc) ∧ acc2.length ≤ i * 160 + (j + 1) ∧
                      wp (compP (t1 xs[i]) (f xs[i]) (ys.drop (j + 1))) (fun zs => wp (comp2P t mi1 t1 f (xs.drop (i + 1))) (fun rs => Z acc2 (zs ++ rs)) fin) fin) H6 := fun F8 hs8 e8 r8 => by
                  refine hg1 (O us1) xs[i] ys[j] _ F8 H8 y hs8 r8 _ fun σ9 F9 hs9 e9 hw9 => ⟨hw9.trans (wipe_wipe σ4 vs1), ?_⟩
                  have hw9' : wipe σ9 vs1 = wipe σ4 vs1 := hw9.trans (wipe_wipe σ4 vs1)
                  refine ht1 (O us1) xs[i] ys[j] σ9 F9 H8 hs9 _ (wp_imp q8 (fun b q9 F10 H10 hs10 e10 => ?_) (hE (O us1) (hON us1)))
                  have e710 : Same F7 F10 := Same.trans e8 (Same.trans e9 e10)
                  cases b with
                  | true =>
                    rw [if_pos rfl]
                    refine he (O us1) xs[i] ys[j] σ9 F10 H10 hs10 _ (wp_imp (wp_bind.1 q9) (fun z q10 v F11 H11 hs11 e11 r11 => ?_) (hE (O us1) (hON us1)))
                    have hD11 : H11 D = some (.lst us1) := (hs11.w.os D _ (hOD us1)).1.1
                    have d11 := dpAll_same (Same.trans e710 e11) _ _ d7
                    have l11 := dpAll_len d11
                    have hb := hs11.wiped vs1
                    rw [hΓ1, hw9'] at hb
                    refine ⟨us1, hD11, ?_, acc1 ++ [z], F11, us1 ++ [v], grow (nh1 σ4 rfl) hb, Same.trans e7 (Same.trans e710 e11), by rw [List.map_append]; exact dpAll_append d11 (.cons r11 .nil), by rw [List.length_append]; show acc1.length + 1 ≤ _; omega, ?_⟩
                    · rw [l11, sizeLine_eq]
                      omega
                    · refine wp_mono (wp_bind.1 q10) fun zs q11 => ?_
                      refine wp_mono (show wp (comp2P t mi1 t1 f (xs.drop (i + 1))) (fun rs => Z acc1 (z :: zs ++ rs)) fin from q11) fun rs q12 => ?_
                      show ∀ p vs F' H', _ → _ → _ → _ → DqAll G.K F' vs ((acc1 ++ [z] ++ (zs ++ rs)).map enc) → _
                      rw [show acc1 ++ [z] ++ (zs ++ rs) = acc1 ++ (z :: zs ++ rs) by simp]
                      exact q12
                  | false =>
                    rw [if_neg Bool.false_ne_true]
                    have hb := hs10.wiped vs1
                    rw [hΓ1, hw9'] at hb
                    exact ⟨acc1, F10, us1, hb, Same.trans e7 e710, dpAll_same e710 _ _ d7, by omega, q9⟩
                rcases (hG1 (O us1)).yld j ys[j] _ F7 H7 y H8 hs7 e7 ey hy1 with ⟨rfl, r⟩ | ⟨T, o, hT, rfl, r⟩
                · exact fin3 F7 hs7 (Same.refl F7) r
                · obtain ⟨hs8, e8⟩ := hs7.laid (o := o) hT
                  exact fin3 _ hs8 e8 r
            · have ej : j = ys.length := by omega
              subst ej
              rw [List.drop_length] at q7
              have hback := hs7.wiped vs
              rw [wipeE_sub _ hsub, hΓ, wipe_sub _ hsub, hw'] at hback
              refine .inl ⟨(hG1 (O us1)).stop _ _ F7 H7 hs7 e7 (Nat.le_refl _), acc1, F7, ⟨us1, hback, Same.trans e2 (Same.trans e26 e7), d7⟩, by omega, ?_⟩
              exact (show wp (comp2P t mi1 t1 f (xs.drop (i + 1))) (fun rs => Z acc1 ([] ++ rs)) fin from q7)
        rcases hG.yld i xs[i] _ F2 H2 x H3 hsN e2 ex hy with ⟨rfl, r⟩ | ⟨T, o, hT, rfl, r⟩
        · exact fin2 F2 hs2 (Same.refl F2) r
        · obtain ⟨hs3, e3⟩ := hs2.laid (o := o) hT
          exact fin2 _ hs3 e3 r
    · have e : i = xs.length := by omega
      subst e
      rw [List.drop_length] at q2
      have q2' : ∀ p vs F' H', HS N Γ σ F' H' → Same F1 F' → NewAt N Γ σ F' p → H' p = some (.lst vs) → DqAll G.K F' vs ((acc ++ []).map enc) → Q (.ref p) H' := q2
      refine .inl ⟨hG.stop _ _ F2 H2 hsN e2 (Nat.le_refl _), ?_⟩
      have hD2 := (hs2.w.os D _ (hOD us)).1
      have hs3 : HS N Γ σ F2 H2 := hs1.move hsN.w e2 (fun q ws hl h => (hs2.w.os q _ ((hOh us q hl).trans h)).1.1) (fun q hl => by
        obtain ⟨m, ws, h⟩ := hs1.held hl
        exact (hs2.w.os q _ ((hOh us q hl).trans h)).1.2)
      exact q2' D us F2 H2 hs3 e2 ⟨⟨hD2.2, h0D, sD⟩, h0D, nheld, nOD⟩ hD2.1 (by rw [List.append_nil]; exact d2))
section
variable {δ : Type} [Enc δ] {wi wi1 : TI} {g g1 : TG} {vs vs1 : List Nat} {mi : Prog (List α)} {t : α → Prog Bool} {mi1 : α → Prog (List β)} {t1 : α → β → Prog Bool} {f : α → β → Prog δ} {Γt : α → Env G} {Γu : α → β → Env G} {Γl : Env G → Prop} {Γl1 : α → Env G → Prop}
theorem evn_lc2 (hi : EVI (α := α) N Γ wi mi Γl) (hv : notOwn Γ vs) (hsub : ∀ i ∈ vs1, i ∈ vs) (hl : Γl (wipeE Γ vs)) (hg : ∀ O a, GC (N.wi N.E O) (wipeE Γ vs) g a (Γt a) vs) (hno : ∀ a, notOwn (Γt a) vs)
    (ht : ∀ O a, TV (N.wi N.E O) (Γt a) tt (t a)) (hi1 : ∀ O a, EVI (α := β) (N.wi N.E O) (Γt a) wi1 (mi1 a) (Γl1 a)) (hl1 : ∀ a, Γl1 a (wipeE (Γt a) vs1))
    (hg1 : ∀ O a b, GC (N.wi N.E O) (wipeE (Γt a) vs1) g1 b (Γu a b) vs1) (ht1 : ∀ O a b, TV (N.wi N.E O) (Γu a b) tt1 (t1 a b)) (he : ∀ O a b, EV (N.wi N.E O) (Γu a b) te (f a b)) (hΓ : ∀ a, wipeE (Γt a) vs = wipeE Γ vs) (hΓ1 : ∀ a b, wipeE (Γu a b) vs1 = wipeE (Γt a) vs1) :
    EVN N Γ (tLc2 wi g tt wi1 g1 tt1 te vs vs1) (mi >>= fun xs => chk (small xs.length) (comp2P t mi1 t1 f xs : Prog (L δ))) :=
  comp2_core (Ec := N.E) (fin := EP G N) hi hv hsub hl hΓ hno hg ht hi1 hl1 hΓ1 hg1 ht1 he (fun O h e => ep_wi h e) fun xs P h => wp_chk h
theorem evn_lc2E (hi : EVI (α := α) N Γ wi mi Γl) (hv : notOwn Γ vs) (hsub : ∀ i ∈ vs1, i ∈ vs) (hl : Γl (wipeE Γ vs)) (hg : ∀ O a, GC (N.wi E0 O) (wipeE Γ vs) g a (Γt a) vs) (hno : ∀ a, notOwn (Γt a) vs)
    (ht : ∀ O a, TV (N.wi E0 O) (Γt a) tt (t a)) (hi1 : ∀ O a, EVI (α := β) (N.wi E0 O) (Γt a) wi1 (mi1 a) (Γl1 a)) (hl1 : ∀ a, Γl1 a (wipeE (Γt a) vs1))
    (hg1 : ∀ O a b, GC (N.wi E0 O) (wipeE (Γt a) vs1) g1 b (Γu a b) vs1) (ht1 : ∀ O a b, TV (N.wi E0 O) (Γu a b) tt1 (t1 a b)) (he : ∀ O a b, EV (N.wi E0 O) (Γu a b) te (f a b)) (hΓ : ∀ a, wipeE (Γt a) vs = wipeE Γ vs) (hΓ1 : ∀ a b, wipeE (Γu a b) vs1 = wipeE (Γt a) vs1) :
    EVN N Γ (tLc2 wi g tt wi1 g1 tt1 te vs vs1) (mi >>= fun xs => chk (small xs.length) (noerr (comp2P t mi1 t1 f xs) : Prog (L δ))) :=
  comp2_core (Ec := E0) (fin := fun _ => False) hi hv hsub hl hΓ hno hg ht hi1 hl1 hΓ1 hg1 ht1 he (fun O h e x => x.elim) fun xs P h => by
    obtain ⟨a, b⟩ := wp_chk h
    exact ⟨a, wp_noerr b⟩
end
end
end Ty

/-! rules for constructs that the layer has no row for -/
namespace TyL
open PySem PySem.Spec PyProof.Rows L2
section
variable {X : Cx}
/-! ### enumerate(tuple) -/
theorem meets_enumT (l : Addr) (items : Array Value) (n : Nat) (dct : Option Addr) (sl : Array (Option Value)) :
    Meets (Builtin.«enumerate.__new__» ⟨[.type "enumerate", .ref l], []⟩) (fun _ R s => s.heap.get? l = some { cls := .type "tuple", dict := dct, data := .seq items n, slots := sl } ∧
      R (.ok (.ret (.ref (s.heap.push { cls := .type "tuple_iterator", data := .fields #[.ref l, .int 0 0] }).objs.size)))
        { s with heap := (s.heap.push { cls := .type "tuple_iterator", data := .fields #[.ref l, .int 0 0] }).push { cls := .type "enumerate", data := .fields #[.none, .bool false, .ref s.heap.objs.size, rawInt 0, .none, .none] } }) :=
  .of_wp fun prog w A R s h => by
    obtain ⟨hp, g, d, tk, os⟩ := s; obtain ⟨hl, h⟩ := h
    have hsub := sub_enumerate
    have hL : Heap.IsTuple (Shared.heap ⟨hp, g, d, tk, os⟩) l items := ⟨_, hl, rfl, n, rfl⟩
    wp_walk using AutoSeq1.wpAny_loadPart' hl
    refine wpAny_stack_any fun st => wpAny_pure ?_
    split
    · rename_i c _ _ _ _ _
      cases (c == Value.type "enumerate")
      · wp_walk using AutoSeq1.wpAny_loadPart' hl, wpAny_pyIter_tuple hL
        exact ⟨_, rfl, h⟩
      · wp_walk using AutoSeq1.wpAny_loadPart' hl, wpAny_pyIter_tuple hL
        exact ⟨_, rfl, h⟩
    · wp_walk using AutoSeq1.wpAny_loadPart' hl, wpAny_pyIter_tuple hL
      exact ⟨_, rfl, h⟩
theorem call_enumT {prog : Program} {w : World} {A : Around} {E : Value → Shared → Prop} {s : Shared} {l : Addr} {items : Array Value} {Q : Value → Shared → Prop} (hL : s.heap.IsTuple l items)
    (h : ∀ h', IsEnum h' (s.heap.objs.size + 1) s.heap.objs.size 0 .none → h'.IsTupleIter s.heap.objs.size l 0 → h'.objs.size = s.heap.objs.size + 2 →
      (∀ b o, s.heap.get? b = some o → h'.get? b = some o) → Q (.ref (s.heap.objs.size + 1)) { s with heap := h' }) :
    wpAny (model prog w) A (call (.type "enumerate") [.ref l]) Q E s := by
  obtain ⟨⟨c, dct, dt, sl⟩, hl, hc, n, hd⟩ := hL
  replace hc : c = .type "tuple" := hc
  replace hd : dt = .seq items n := hd
  subst hc hd
  refine callType_new F.called_enumerate (by decide) (F.typeCall_enumerate_1 _) (F.newCall_enumerate_1 _) (fun obj => F.args_object_init_2 obj _) F.entry_enumerate_new
    (meets_enumT l items n dct sl) ⟨hl, ?_⟩
  have hz : (s.heap.push { cls := .type "tuple_iterator", data := .fields #[.ref l, .int 0 0] }).objs.size = s.heap.objs.size + 1 := Heap.size_push ..
  show _ ∧ _
  rw [hz]
  have he : IsEnum ((s.heap.push { cls := .type "tuple_iterator", data := .fields #[.ref l, .int 0 0] }).push
      { cls := .type "enumerate", data := .fields #[.none, .bool false, .ref s.heap.objs.size, rawInt 0, .none, .none] }) (s.heap.objs.size + 1) s.heap.objs.size 0 .none := by
    have := Heap.get?_push_size (s.heap.push { cls := .type "tuple_iterator", data := .fields #[.ref l, .int 0 0] })
      (o := { cls := .type "enumerate", data := .fields #[.none, .bool false, .ref s.heap.objs.size, rawInt 0, .none, .none] }) rfl
    rw [hz] at this; exact this
  refine ⟨⟨_, he, rfl⟩, h _ he ⟨_, Heap.get?_push_of_some _ (Heap.get?_push_size _ rfl), rfl, rfl⟩ (by rw [Heap.size_push, hz]) fun b o x => Heap.get?_push_of_some _ (Heap.get?_push_of_some _ x)⟩
def IteT (K : PySem.W.Frag) (a : Addr) : It :=
  ⟨fun i H => ∃ (xs : List V) (x : V), SqT K H a xs ∧ xs[i]? = some x, fun i H v H' => ∃ T x, v = .ref T ∧ H T = none ∧ H' = upd H T (.tup [.int (i : Nat), x]) ∧ ∀ xs, SqT K H a xs → xs[i]? = some x, fun i H => ∃ xs : List V, SqT K H a xs ∧ xs.length ≤ i⟩
theorem turn_enumT {P : Program} {w : World} {K : PySem.W.Frag} {elts : List Expr} {kk : Nat} {tpos : Pos} (a e it : Addr) :
    Turn P w K (.Tuple elts kk tpos) (IteT K a) [e, it] e (fun i h => (∃ old, IsEnum h e it ((i : Nat) : Int) old) ∧ h.IsTupleIter it a i ∧ e ≠ it) where
  mem := by simp
  obj := fun i h st b hb => by
    obtain ⟨⟨old, he⟩, ⟨o, ho, hc, hd⟩, _⟩ := st
    have e' : b = e ∨ b = it := by simpa using hb
    rcases e' with z | z
    · rw [z]; exact ⟨_, he, fun v q => nomatch q⟩
    · rw [z]; exact ⟨o, ho, fun v q => by rw [hd] at q; cases q⟩
  keep := fun i h h' st k => let ⟨⟨old, he⟩, hi, hne⟩ := st; ⟨⟨old, k e (by simp) _ he⟩, hi.at fun o q => k it (by simp) o q, hne⟩
  item := by
    intro X hP hw hK hc i pins s σ H E I hf st hg
    subst hP hw hK
    obtain ⟨⟨old, he⟩, hit, hne⟩ := st
    obtain ⟨xs, x, hq, hx⟩ := hg
    obtain ⟨its, rv, p, hz⟩ := I.tuple hq
    obtain ⟨u, hu, ru⟩ := rv.get hx
    have hel : e < s.heap.objs.size := Heap.lt_size he
    have hil : it < s.heap.objs.size := by obtain ⟨_, q, _⟩ := hit; exact Heap.lt_size q
    have hia : a ≠ it := fun z => by
      obtain ⟨o, q1, q2, q3⟩ := id hit
      obtain ⟨o', q4, q5, _⟩ := id p
      rw [z, q1] at q4; cases q4
      rw [q2] at q5
      injection q5 with q6
      exact absurd q6 (by decide)
    have hea : e ≠ a := fun z => by
      obtain ⟨o', q4, q5, _⟩ := id p
      rw [← z, show s.heap.get? e = some _ from he] at q4; cases q4
      injection q5 with q6
      exact absurd q6 (by decide)
    have hh : X.A.in1.handled = none := I.ok.hd hc
    have D := Draws.tuple (prog := X.prog) (w := X.w) (A := X.A.in1) hh it a hia its.toArray
    have hlen : i < its.toArray.size := by
      obtain ⟨h1, _⟩ := List.getElem?_eq_some_iff.1 hu
      simpa using h1
    refine wpAny_pyNext_enum_itemD D he ⟨hit, p⟩ hlen hne (by simp [hne, hea]) fun x2 h' tk hx2 ho hst' hT hsz hk => ?_
    have hu2 : x2 = u := by
      have : its.toArray[i]? = some x2 := hx2
      rw [List.getElem?_toArray] at this
      exact Option.some.inj (this.symm.trans hu)
    subst hu2
    refine ⟨_, rfl, wpAny_letOwnedTupleGo_enum (s := { s with heap := h', toks := tk + 1 }) ho fun h'' he' sb => ?_⟩
    have hT2 : h''.get? s.heap.objs.size = some { cls := .type "tuple", data := .seq #[.int i tk, x2] } := (sb.2 _ (Nat.ne_of_gt hel)).trans hT
    have new : ObjOk X.prog X.w (upd H s.heap.objs.size (.tup [.int (i : Nat), x])) h'' s.heap.objs.size (.tup [.int (i : Nat), x]) :=
      ⟨by show 2 ≤ sizeLine; decide, [.int i tk, x2], .cons ⟨_, rfl⟩ (.cons ru .nil), ⟨_, hT2, rfl, _, rfl⟩⟩
    have I1 : Inv X pins σ (upd H s.heap.objs.size (.tup [.int (i : Nat), x])) { s with heap := h'', toks := tk + 1 } :=
      I.turnedNew (ch := [e, it]) (fun b ob hb q => (sb.2 b (fun z => hb (by simp [z]))).trans (hk b ob (fun z => hb (by simp [z])) (fun z => hb (by simp [z])) q)) hf (Nat.le_refl _) new
    refine ⟨.ref s.heap.objs.size, _, I1, rfl, ⟨_, x, rfl, I.hok.fresh (Nat.le_refl _), rfl, fun ys hy => by rw [I.tuple_inj hy hq]; exact hx⟩, ⟨⟨x2, ?_⟩, hst'.1.at fun o q => (sb.2 it (Ne.symm hne)).trans q, hne⟩, fun b hb => ?_⟩
    · have e1 : ((i + 1 : Nat) : Int) = (i : Int) + 1 := by omega
      rw [e1]; exact he'
    · have hb' : b < s.heap.objs.size := by
        have e' : b = e ∨ b = it := by simpa using hb
        rcases e' with z | z
        · rw [z]; exact hel
        · rw [z]; exact hil
      rw [upd_ne (Nat.ne_of_lt hb')]
      exact (hf b hb).1
  done := by
    intro X hP hw hK hc i pins s σ H E I hf st hg
    subst hP hw hK
    obtain ⟨⟨old, he⟩, hit, hne⟩ := st
    obtain ⟨xs, hq, hx⟩ := hg
    obtain ⟨its, rv, p, hz⟩ := I.tuple hq
    obtain ⟨f0, f1, f2, f3, f4, f5⟩ := hf it (by simp)
    have hl := rv.length
    have hia : a ≠ it := fun z => by
      obtain ⟨o, q1, q2, q3⟩ := id hit
      obtain ⟨o', q4, q5, _⟩ := id p
      rw [z, q1] at q4; cases q4
      rw [q2] at q5
      injection q5 with q6
      exact absurd q6 (by decide)
    have hh : X.A.in1.handled = none := I.ok.hd hc
    have D : Draws X.prog X.w X.A.in1 it [it, a] i (fun i v => its.toArray[i]? = some v) (fun j h => j = i ∧ h.IsTupleIter it a i ∧ h.IsTuple a its.toArray) :=
      { live := fun _ _ st => let ⟨o, ho, _⟩ := st.2.1; ⟨o, ho⟩
        frame := fun _ _ _ st hk => ⟨st.1, st.2.1.at fun o e => hk it (by simp) o e, st.2.2.at fun o e => hk a (by simp) o e⟩
        item := fun j s Q E hj st hQ => absurd st.1 (Nat.ne_of_lt hj)
        done := fun s Q E st hE => wpAny_nextOf_tuple_end hh st.2.1 st.2.2 (by simp; omega) hE }
    exact wpAny_pyNext_enum_endD D he ⟨rfl, hit, p⟩ fun h' eb => ⟨rfl, I.turned (t' := s.toks) (fun b o hb q => eb b o hb q) f0 f1 f3 f4 f5⟩
  self := fun A i s Q E st h => let ⟨⟨_, he⟩, _⟩ := st; wpAny_pyIter_enum he h
def iEnumT (K : PySem.W.Frag) (ta : TA) : TI := fun σ H R => ta σ H fun vs H1 => ∃ a xs, vs = [.ref a] ∧ SqT K H1 a xs ∧ R (IteT K a) H1
theorem pi_enumT {e : Expr} {ta : TA} {p pos tpos : Pos} {elts : List Expr} {kk : Nat} (hg : Gl X "enumerate") (hm : X.mg "enumerate" = none) (ha : PA X [e] ta) (hs : starEach [e] X.env = [(false, eval e X.env)] := by rfl) :
    PI X (.Tuple elts kk tpos) (.Call (.Name "enumerate" p) [e] [] pos) (iEnumT X.K ta) := by
  refine ⟨fun pins s σ H R I h => ?_⟩
  refine Call_ (ld_blt I hg hm boot_enumerate (PyProof.Rows.callWith_type1 (thn (ha.run pos pins s σ H _ I h) fun us s1 ⟨vs, H1, I1, r1, q1⟩ => ?_) hs rfl))
  obtain ⟨a, xs, ex, hq, q⟩ := q1
  subst ex
  cases r1 with
  | cons r rr =>
    cases rr
    cases r
    obtain ⟨its, rv, p', hz⟩ := I1.tuple hq
    refine call_enumT p' fun h' he hit hsz hk => wpAny_pyIter_enum he ?_
    have I2 : Inv X pins σ H1 { s1 with heap := h' } := I1.kept (t' := s1.toks) hk
    refine ⟨s1.heap.objs.size + 1, [s1.heap.objs.size + 1, s1.heap.objs.size], _, _, H1, rfl, I2, turn_enumT a (s1.heap.objs.size + 1) s1.heap.objs.size, ⟨⟨.none, he⟩, hit, Nat.succ_ne_self _⟩, fun b hb => ?_, q⟩
    have e' : b = s1.heap.objs.size + 1 ∨ b = s1.heap.objs.size := by simpa using hb
    have hle : s1.heap.objs.size ≤ b := by
      rcases e' with z | z
      · rw [z]; exact Nat.le_add_right _ _
      · rw [z]; exact Nat.le_refl _
    exact I1.fpOk hle (I1.hok.fresh hle)
/-! ### list + list, of any lists known -/
theorem Inv.rdl {pins : List (Addr × Obj)} {σ : L2.St} {H : Hp} {s : Shared} {a : Addr} {xs : List V} (I : L2.Inv X pins σ H s) (h : Rd H a (.lst xs)) : xs.length ≤ sizeLine ∧ ∃ (its : List Value) (n : Nat), Vals xs its ∧ s.heap.get? a = some { cls := .type "list", data := .seq its.toArray n } := by
  obtain ⟨z, its, n, r, e⟩ := h.ok I.hok
  exact ⟨z, its, n, r, e⟩
def rCatL : R2 := fun x y H Q => ∃ l b xs zs, x = .ref l ∧ y = .ref b ∧ Rd H l (.lst xs) ∧ Rd H b (.lst zs) ∧ xs.length + zs.length ≤ sizeLine ∧ ∀ p, H p = none → Q (.ref p) (upd H p (.lst (xs ++ zs)))
theorem op_catL : OpR X (binaryOp .Add) rCatL := by
  intro pins s σ H x y v u Q I rx ry h
  obtain ⟨l, b, xs, zs, rfl, rfl, hH, hB, hz, q⟩ := h
  cases rx
  cases ry
  obtain ⟨_, its, n, r, e⟩ := Inv.rdl I hH
  obtain ⟨_, its2, n2, r2, e2⟩ := Inv.rdl I hB
  have hl := r.length
  have hl2 := r2.length
  refine PySem.P.add_list e e2 ?_ (by rw [List.size_toArray, List.size_toArray]; omega)
  have ea : its.toArray ++ its2.toArray = (its ++ its2).toArray := by simp
  rw [ea]
  exact ⟨.ref _, _, I.lnew (t' := s.toks) (r.append r2) (by rw [List.length_append]; omega), rfl, q _ I.fresh⟩
/-! ### text * int -/
def rMulS : R2 := fun x y H Q => ∃ z n, x = .str z ∧ y = .int n ∧ -(2 ^ 62) ≤ n ∧ n < 2 ^ 62 ∧ z.length * n.toNat ≤ sizeLine ∧ Q (.str ⟨(List.replicate n.toNat z.cps.toList).flatten.toArray⟩) H
theorem foldl_cat (x : Array Nat) : ∀ (k : Nat) (acc : Array Nat), (List.replicate k x).foldl (· ++ ·) acc = acc ++ (List.replicate k x.toList).flatten.toArray
  | 0, acc => by simp
  | k + 1, acc => by
    rw [List.replicate_succ, List.foldl_cons, foldl_cat x k (acc ++ x), List.replicate_succ, List.flatten_cons]
    apply Array.ext'
    simp
theorem op_mulS : OpR X (binaryOp .Mult) rMulS := by
  intro pins s σ H x y v u Q I rx ry h
  obtain ⟨z, n, rfl, rfl, h1, h2, hz, q⟩ := h
  obtain ⟨t, rfl⟩ := rx
  obtain ⟨t', rfl⟩ := ry
  refine PySem.P.mul_str (by simp; omega) (fun a b c => ?_) (fun a b => ?_) ?_
  · have : (z.length : Int) * n ≤ 16777216 := by
      have h3 : z.length * n.toNat ≤ 16777216 := hz
      have h4 : ((z.length * n.toNat : Nat) : Int) ≤ 16777216 := by omega
      rw [Int.natCast_mul] at h4
      have h5 : ((n.toNat : Nat) : Int) = n := by omega
      rw [h5] at h4
      exact h4
    have hn : 0 < n := by omega
    have h6 : (z.length : Int) ≤ (2 ^ 63 - 1) / n := by
      rw [Int.le_ediv_iff_mul_le hn]
      omega
    omega
  · show decide (z.length * n.toNat > sizeLine) = false
    exact decide_eq_false (Nat.not_lt.mpr hz)
  · have e0 : ∀ k : Nat, (List.replicate k ([] : List Nat)).flatten = [] := fun k => by
      induction k with
      | zero => rfl
      | succ k ih => rw [List.replicate_succ, List.flatten_cons, ih]; rfl
    by_cases c1 : n < 1
    · rw [if_pos c1]
      have : n.toNat = 0 := by omega
      rw [this] at q
      exact ⟨Nat.zero_le _, .str _, H, I.tok _, ⟨_, rfl⟩, q⟩
    · rw [if_neg c1]
      by_cases c2 : (n == 1 || z.length == 0) = true
      · rw [if_pos c2]
        have ez : (⟨(List.replicate n.toNat z.cps.toList).flatten.toArray⟩ : Str) = z := by
          rcases Bool.or_eq_true_iff.1 c2 with c | c
          · have : n = 1 := by simpa using c
            subst this
            simp
          · have hz0 : z.cps.toList = [] := by
              have : z.cps.size = 0 := by simpa [Str.length] using c
              exact List.eq_nil_of_length_eq_zero (by simpa using this)
            rw [hz0, e0]
            have : z.cps = #[] := Array.ext' hz0
            cases z
            simp_all
        rw [ez] at q
        exact ⟨.str z, H, I, ⟨t, rfl⟩, q⟩
      · rw [if_neg c2, foldl_cat]
        refine ⟨?_, .str _, H, I.tok _, ⟨_, rfl⟩, by simpa using q⟩
        simp [Str.length]
        have : z.length = z.cps.size := rfl
        rw [Nat.mul_comm, ← this]
        exact hz
/-! ### a text turned round -/
theorem pick_all (x : List Nat) : ∀ k : Nat, k ≤ x.length → (((List.range k).map fun i => k - 1 - i).filterMap fun i => x[i]?) = (x.take k).reverse
  | 0, _ => by simp
  | k + 1, h => by
    have ih := pick_all x k (by omega)
    have hk : x[k]? = some x[k] := List.getElem?_eq_getElem (by omega)
    rw [List.range_succ_eq_map, List.map_cons, List.map_map]
    have e1 : (List.range k).map ((fun i => k + 1 - 1 - i) ∘ Nat.succ) = (List.range k).map fun i => k - 1 - i := List.map_congr_left fun i _ => by
      show k + 1 - 1 - (i + 1) = k - 1 - i
      omega
    rw [e1]
    have e2 : k + 1 - 1 - 0 = k := by omega
    rw [e2, List.filterMap_cons_some hk, ih, List.take_add_one, hk, List.reverse_append]
    rfl
theorem rev_ix (x : Str) : ((Builtin.Str.strSliceIndices none none (-1) x.length).filterMap (x.cps[·]?)).toArray = x.cps.toList.reverse.toArray := by
  congr 1
  have e : Builtin.Str.strSliceIndices none none (-1) x.length = (List.range x.length).map fun i => x.length - 1 - i := by
    unfold Builtin.Str.strSliceIndices
    show sliceRange (((x.length : Nat) : Int) - 1) (-1) (-1) = _
    unfold sliceRange
    by_cases h0 : x.length = 0
    · rw [h0]; rfl
    · have hc : (if (-1 : Int) > 0 then (if ((x.length : Nat) : Int) - 1 < -1 then (-1 - (((x.length : Nat) : Int) - 1) + -1 - 1) / -1 else 0) else (if ((x.length : Nat) : Int) - 1 > -1 then (((x.length : Nat) : Int) - 1 - -1 - -1 - 1) / - -1 else 0)) = (x.length : Int) := by
        rw [if_neg (by decide), if_pos (by omega)]
        have : (((x.length : Nat) : Int) - 1 - -1 - -1 - 1) = (x.length : Int) := by omega
        rw [this]
        simp
      simp only [hc]
      rw [Int.toNat_natCast]
      refine List.map_congr_left fun i hi => ?_
      have := List.mem_range.1 hi
      omega
  rw [e]
  have h := pick_all x.cps.toList x.length (by simp [Str.length])
  have h2 : x.cps.toList.take x.length = x.cps.toList := by
    rw [show x.length = x.cps.toList.length by simp [Str.length], List.take_length]
  rw [h2] at h
  rw [← h]
  congr 1
  funext i
  simp
def tRevS (te : TE) : TE := fun σ H Q => te σ H fun x H1 => ∃ z, x = .str z ∧ z.length ≤ sizeLine ∧ Q (.str ⟨z.cps.toList.reverse.toArray⟩) H1
theorem pe_revS {e : Expr} {te : TE} {k : Nat} {p1 p2 p3 pos : Pos} (he : PE X e te) : PE X (.Subscript e (.Slice none none (some (.UnaryOp .USub (.Constant (.int 1) k p1) p2)) p3) pos) (tRevS te) := by
  refine ⟨fun pins s σ H Q I h => ?_⟩
  refine Subscript_ (thn (he.run pins s σ H _ I h) fun v s1 ⟨x, H1, I1, r1, q1⟩ => ?_)
  obtain ⟨z, ex, hz, q⟩ := q1
  subst ex
  obtain ⟨t, rfl⟩ := r1
  have hst : PO X (some (.UnaryOp .USub (.Constant (.int 1) k p1) p2)) (tPart (tUn (rU fun i => .int (-i)) (tC (.int 1)))) := po_some (pe_un un_neg pe_int)
  refine wpAny_Slice (thn (po_none.run pins s1 σ H1 (fun o H2 => o = none ∧ H2 = H1) I1 ⟨rfl, rfl⟩) fun vl s2 ⟨l, H2, I2, pl, el, e2⟩ => ?_)
  subst el e2
  refine thn (po_none.run pins s2 σ H2 (fun o H3 => o = none ∧ H3 = H2) I2 ⟨rfl, rfl⟩) fun vu s3 ⟨u, H3, I3, pu, eu, e3⟩ => ?_
  subst eu e3
  refine thn (hst.run pins s3 σ H3 (fun o H4 => o = some (-1) ∧ H4 = H3) I3 ⟨1, rfl, -1, rfl, rfl, rfl⟩) fun vs s4 ⟨o, H4, I4, ps, eo, e4⟩ => ?_
  subst eo e4
  have I5 : Inv X pins σ H4 { s4 with heap := s4.heap.push { cls := .type "slice", data := .fields #[vl, vu, vs] } } := I4.kept (t' := s4.toks) fun b ob q => Heap.get?_push_of_some _ q
  show wpAny (model X.prog X.w) X.A (subscriptTail e (.Slice none none (some (.UnaryOp .USub (.Constant (.int 1) k p1) p2)) p3) (.str z t) (.ref s4.heap.objs.size)) (EP X pins σ Q) X.xe { s4 with heap := s4.heap.push { cls := .type "slice", data := .fields #[vl, vu, vs] } }
  obtain ⟨l, rfl, hl⟩ := IsPart.raw pl
  obtain ⟨u, rfl, hu⟩ := IsPart.raw pu
  obtain ⟨st, rfl, hs⟩ := IsPart.raw ps
  refine tail_any (ops := [.str z t, .ref s4.heap.objs.size]) (typeIs_str _ _ _) F.slot_str_getitem.lookup ?_ (by with_unfolding_all rfl)
  have hn : (st.map (·.1)).getD 1 = -1 := by rw [hs]; rfl
  refine wpAny_getItem_str_slice (l := l) (u := u) (st := st) ⟨_, Heap.get?_push_size _ rfl, rfl, rfl⟩ (by rw [hn]; rfl) ?_
  show Made.post (if (((st.map (·.1)).getD 1 == 1 && (Builtin.Str.strSliceIndices (l.map (·.1)) (u.map (·.1)) ((st.map (·.1)).getD 1) z.length).length == z.length) = true) then Made.val (.str z t)
    else Made.str ⟨((Builtin.Str.strSliceIndices (l.map (·.1)) (u.map (·.1)) ((st.map (·.1)).getD 1) z.length).filterMap (z.cps[·]?)).toArray⟩) _ _
  rw [hn, hl, hu, if_neg (by simp)]
  rw [rev_ix]
  refine ⟨?_, .str _, H4, I5.tok _, ⟨_, rfl⟩, q⟩
  simp [Str.length]
  exact hz
end
end TyL

namespace Ty
open PySem PySem.Spec PyProof.Rows L2
open Enc (enc)
variable {G : Glob}
section
variable {α β γ δ ω : Type} [iα : Rp G α] [iβ : Rp G β] [iγ : Rp G γ] {N : NN} {Γ Γ' : Env G} {te ta tb tc : TE} {tt tu : TT} {tz : TS}
/-! ### texts -/
theorem ev_revS {m : Prog Tx} (h : EV N Γ te m) : EV N Γ (TyL.tRevS te) (m >>= fun s => chk (small s.length) (.ok s.reverse)) := fun σ F H hs Q q =>
  h σ F H hs _ (wp_mono (wp_bind.1 q) fun s q1 x F1 H1 hs1 e1 r1 => by
    have e : x = .str (sx s) := Scl.dp (α := Tx) r1
    obtain ⟨hl, q1⟩ := wp_chk q1
    exact ⟨sx s, e, by simpa [Str.length, sx] using small_le hl, q1 _ F1 H1 hs1 e1 (.str _)⟩)
def mulS (s : Tx) (n : Int) : Tx := (List.replicate n.toNat s).flatten
theorem opv_mulS : OPV (G := G) (α := Tx) (β := Int) (γ := Tx) TyL.rMulS (fun s n => chk (inRange n && small (s.length * n.toNat)) (.ok (mulS s n))) := fun N Γ σ F H x y s n hs ra rb Q q => by
  have e1 : x = .str (sx s) := Scl.dp (α := Tx) ra
  have e2 : y = .int n := Scl.dp rb
  obtain ⟨h, q⟩ := wp_chk q
  obtain ⟨h1, h2⟩ := Bool.and_eq_true_iff.1 h
  obtain ⟨a, b⟩ := inRange_ok h1
  exact ⟨sx s, n, e1, e2, a, b, by simpa [Str.length, sx] using small_le h2, q _ F H hs (Same.refl F) (.str _)⟩
/-! in, of texts -/
def subS (a b : Tx) : Bool := !(Builtin.Str.occurrences (sx b) (sx a) 0 (sx b).length 1).isEmpty
theorem opv_inS : OPV (G := G) (α := Tx) (β := Tx) (γ := Bool) (fun x y H Q => ∃ i j, x = .str i ∧ y = .str j ∧ Q (.bl (!(Builtin.Str.occurrences j i 0 j.length 1).isEmpty)) H) (fun a b => .ok (subS a b)) := fun N Γ σ F H x y a b hs ra rb Q q => by
  have e1 : x = .str (sx a) := Scl.dp (α := Tx) ra
  have e2 : y = .str (sx b) := Scl.dp (α := Tx) rb
  exact ⟨sx a, sx b, e1, e2, q _ F H hs (Same.refl F) (.bl _)⟩
/-! join, split, str, int -/
def joinT (a : Tx) (xs : List Tx) : Tx := TL.joinL a xs
theorem txt_join (a : Str) (xs : List Str) : (Txt.join a xs).cps.toList = TL.joinL a.cps.toList (xs.map fun x => x.cps.toList) := by
  rw [TL.join_eq]
  exact TL.tl_join a xs
def sumLen (xs : List Tx) : Nat := (xs.map List.length).sum
theorem ev_join {m1 : Prog Tx} {m2 : Prog (L Tx)} (h1 : EV N Γ ta m1) (h2 : EV N Γ tb m2) : EV N Γ (tM1 (fun x xs H Q => ∃ a p, ∃ ys : List Str, x = .str a ∧ xs = [.ref p] ∧ (SqL G.K H p (ys.map V.str) ∨ SqT G.K H p (ys.map V.str)) ∧
      (ys.map (·.length)).sum + ys.length * a.length ≤ 16777216 ∧ Q (.str (Txt.join a ys)) H) ta tb) (m1 >>= fun a => m2 >>= fun (xs : List Tx) => chk (small (sumLen xs + xs.length * a.length)) (.ok (joinT a xs))) := fun σ F H hs Q q =>
  h1 σ F H hs _ (wp_mono (wp_bind.1 q) fun a q1 x F1 H1 hs1 e1 r1 => by
    have ea : x = .str (sx a) := Scl.dp (α := Tx) r1
    refine ⟨⟨_, ea⟩, h2 σ F1 H1 hs1 _ (wp_mono (wp_bind.1 q1) fun (xs : List Tx) q2 y F2 H2 hs2 e2 r2 => ?_)⟩
    obtain ⟨hl, q2⟩ := wp_chk q2
    obtain ⟨p, rfl, hq⟩ := dp_lst (α := Tx) (xs := xs) r2
    have em : xs.map Scl.tv = (xs.map sx).map V.str := by rw [List.map_map]; rfl
    rw [em] at hq
    have hz : ((xs.map sx).map (·.length)).sum + (xs.map sx).length * (sx a).length ≤ 16777216 := by
      have h3 : ((xs.map sx).map (·.length)) = xs.map List.length := by
        rw [List.map_map]
        exact List.map_congr_left fun s _ => by simp [sx, Str.length]
      have h4 : (sx a).length = a.length := by simp [sx, Str.length]
      rw [h3, List.length_map, h4]
      have := of_decide_eq_true hl
      unfold sumLen at this
      omega
    refine ⟨sx a, p, xs.map sx, ea, rfl, .inl (sql_same hs2.w.fh hq), hz, ?_⟩
    have ej : Txt.join (sx a) (xs.map sx) = sx (joinT a xs) := by
      have h5 := txt_join (sx a) (xs.map sx)
      have h6 : (xs.map sx).map (fun x => x.cps.toList) = xs := by rw [List.map_map]; exact List.map_id _
      rw [h6] at h5
      show Txt.join (sx a) (xs.map sx) = ⟨(TL.joinL a xs).toArray⟩
      rw [← h5]
    rw [ej]
    exact q2 _ F2 H2 hs2 (Same.trans e1 e2) (.str _))
/-! any, all, of a list of bools -/
theorem ev_all {m : Prog (L Bool)} (h : EV N Γ ta m) : EV N Γ (tCB (rAll G.K) (tCons ta tNil)) (m >>= fun (xs : List Bool) => .ok (xs.all id)) := fun σ F H hs Q q =>
  h σ F H hs _ (wp_mono (wp_bind.1 q) fun (xs : List Bool) q1 x F1 H1 hs1 e1 r1 => by
    obtain ⟨p, rfl, hq⟩ := dp_lst (α := Bool) (xs := xs) r1
    exact ⟨p, xs, rfl, sql_same hs1.w.fh hq, q1 _ F1 H1 hs1 e1 (.bl _)⟩)
theorem ev_any {m : Prog (L Bool)} (h : EV N Γ ta m) : EV N Γ (tCB (rAny G.K) (tCons ta tNil)) (m >>= fun (xs : List Bool) => .ok (xs.any id)) := fun σ F H hs Q q =>
  h σ F H hs _ (wp_mono (wp_bind.1 q) fun (xs : List Bool) q1 x F1 H1 hs1 e1 r1 => by
    obtain ⟨p, rfl, hq⟩ := dp_lst (α := Bool) (xs := xs) r1
    exact ⟨p, xs, rfl, sql_same hs1.w.fh hq, q1 _ F1 H1 hs1 e1 (.bl _)⟩)
theorem ev_sum {m : Prog (L Int)} (h : EV N Γ ta m) : EV N Γ (tCB (rSum G.K) (tCons ta tNil)) (m >>= fun (xs : List Int) => .ok xs.sum) := fun σ F H hs Q q =>
  h σ F H hs _ (wp_mono (wp_bind.1 q) fun (xs : List Int) q1 x F1 H1 hs1 e1 r1 => by
    obtain ⟨p, rfl, hq⟩ := dp_lst (α := Int) (xs := xs) r1
    exact ⟨p, xs, rfl, sql_same hs1.w.fh hq, q1 _ F1 H1 hs1 e1 (.int _)⟩)
/-! tuple(list), list(tuple), list(list) -/
theorem ev_tupleL {α : Type} [Enc α] {m : Prog (L α)} (h : EV N Γ ta m) : EV N Γ (tCB (fun xs H Q => ∃ p ys, xs = [.ref p] ∧ ((SqL G.K H p ys ∧ ∀ l, H l = none → Q (.ref l) (upd H l (.tup ys))) ∨ (SqT G.K H p ys ∧ Q (.ref p) H))) (tCons ta tNil)) (m >>= fun (xs : List α) => .ok xs) := fun σ F H hs Q q =>
  h σ F H hs _ (wp_mono (wp_bind.1 q) fun (xs : List α) q1 x F1 H1 hs1 e1 r1 => by
    have hd : Dq G.K F1 x (.list (xs.map enc)) := r1
    cases hd with
    | lst hq0 ha =>
      have hq := Rd.of hq0
      refine ⟨_, _, rfl, .inl ⟨sql_same hs1.w.fh (.inl hq), fun p hp => ?_⟩⟩
      obtain ⟨hs2, e2⟩ := hs1.laid (o := .tup _) hp
      exact q1 (.ref p) _ _ hs2 (Same.trans e1 e2) (.tup (.inl (.inl upd_same)) (dpAll_same e2 _ _ ha)))
theorem evn_listT {α : Type} [Enc α] {m : Prog (List α)} (h : EV N Γ ta m) : EVN N Γ (tCB (fun xs H Q => ∃ p ys, xs = [.ref p] ∧ (SqL G.K H p ys ∨ SqT G.K H p ys) ∧ ∀ l, H l = none → Q (.ref l) (upd H l (.lst ys))) (tCons ta tNil)) (m >>= fun xs => .ok (xs : L α)) := fun σ F H hs Q q =>
  h σ F H hs _ (wp_mono (wp_bind.1 q) fun (xs : List α) q1 x F1 H1 hs1 e1 r1 => by
    have hd : Dq G.K F1 x (.tuple (xs.map enc)) := r1
    cases hd with
    | tup hq ha =>
      refine ⟨_, _, rfl, .inr (sqt_same hs1.w.fh hq), fun p hp => ?_⟩
      obtain ⟨hs2, n⟩ := hs_newlist (vs := _) hs1 hp
      exact q1 p _ _ _ hs2 e1 n upd_same ha)
theorem evn_listL {α : Type} [Enc α] {m : Prog (L α)} (h : EV N Γ ta m) : EVN N Γ (tCB (fun xs H Q => ∃ p ys, xs = [.ref p] ∧ (SqL G.K H p ys ∨ SqT G.K H p ys) ∧ ∀ l, H l = none → Q (.ref l) (upd H l (.lst ys))) (tCons ta tNil)) (m >>= fun xs => .ok xs) := fun σ F H hs Q q =>
  h σ F H hs _ (wp_mono (wp_bind.1 q) fun (xs : List α) q1 x F1 H1 hs1 e1 r1 => by
    have hd : Dq G.K F1 x (.list (xs.map enc)) := r1
    cases hd with
    | lst hq0 ha =>
      have hq := Rd.of hq0
      refine ⟨_, _, rfl, .inl (sql_same hs1.w.fh (.inl hq)), fun p hp => ?_⟩
      obtain ⟨hs2, n⟩ := hs_newlist (vs := _) hs1 hp
      exact q1 p _ _ _ hs2 e1 n upd_same ha)
/-! list + list, tuple + tuple, list * int -/
theorem evn_catL {α : Type} [Enc α] {m1 m2 : Prog (L α)} (h1 : EV N Γ ta m1) (h2 : EV N Γ tb m2) : EVN N Γ (tOp TyL.rCatL ta tb) (m1 >>= fun (xs : List α) => m2 >>= fun (ys : List α) => chk (small (xs.length + ys.length)) (.ok (xs ++ ys : L α))) := fun σ F H hs Q q =>
  h1 σ F H hs _ (wp_mono (wp_bind.1 q) fun (xs : List α) q1 x F1 H1 hs1 e1 r1 => h2 σ F1 H1 hs1 _ (wp_mono (wp_bind.1 q1) fun (ys : List α) q2 y F2 H2 hs2 e2 r2 => by
    obtain ⟨hl, q2⟩ := wp_chk q2
    have hd1 : Dq G.K F2 x (.list (xs.map enc)) := dp_same e2 _ _ r1
    have hd2 : Dq G.K F2 y (.list (ys.map enc)) := r2
    cases hd1 with
    | lst hq0 ha =>
      have hq := Rd.of hq0
      cases hd2 with
      | lst hq2 ha2 =>
        refine ⟨_, _, _, _, rfl, rfl, rd_same hs2.w.fh hq, rd_same hs2.w.fh (Rd.of hq2), by rw [dpAll_len ha, dpAll_len ha2]; exact small_le hl, fun p hp => ?_⟩
        obtain ⟨hs3, n⟩ := hs_newlist (vs := _) hs2 hp
        exact q2 p _ _ _ hs3 (Same.trans e1 e2) n upd_same (by rw [List.map_append]; exact dpAll_append ha ha2)))
theorem opv_catT {α : Type} [Enc α] : OPV (G := G) (α := List α) (β := List α) (γ := List α) (rCatA G.K) (fun xs ys => chk (small (xs.length + ys.length)) (.ok (xs ++ ys))) := fun N Γ σ F H x y xs ys hs ra rb Q q => by
  obtain ⟨hl, q⟩ := wp_chk q
  have hd1 : Dq G.K F x (.tuple (xs.map enc)) := ra
  have hd2 : Dq G.K F y (.tuple (ys.map enc)) := rb
  cases hd1 with
  | tup hq ha =>
    cases hd2 with
    | tup hq2 ha2 =>
      have l1 := dpAll_len ha
      have l2 := dpAll_len ha2
      refine ⟨_, _, _, _, rfl, rfl, sqt_same hs.w.fh hq, sqt_same hs.w.fh hq2, by rw [l1, l2]; exact small_le hl, fun e => ?_, fun n e => ?_, fun n1 n2 p hp => ?_⟩
      · have ex : xs = [] := by
          rw [e] at l1
          exact List.eq_nil_of_length_eq_zero l1.symm
        subst ex
        exact q _ F H hs (Same.refl F) (.tup hq2 ha2)
      · have ex : ys = [] := by
          rw [e] at l2
          exact List.eq_nil_of_length_eq_zero l2.symm
        subst ex
        refine q _ F H hs (Same.refl F) ?_
        show Dq G.K F _ (.tuple ((xs ++ []).map enc))
        rw [List.append_nil]
        exact .tup hq ha
      · obtain ⟨hs2, e2⟩ := hs.laid (o := .tup _) hp
        refine q _ _ _ hs2 e2 ?_
        show Dq G.K _ _ (.tuple ((xs ++ ys).map enc))
        rw [List.map_append]
        exact .tup (.inl (.inl upd_same)) (dpAll_same e2 _ _ (dpAll_append ha ha2))
def rep {α : Type} (xs : List α) (n : Int) : List α := (List.replicate n.toNat xs).flatten
theorem dpAll_rep {K : PySem.W.Frag} {F : Hp} {α : Type} [Enc α] {xs : List α} {vs : List V} (h : DqAll K F vs (xs.map enc)) : ∀ k : Nat, DqAll K F (List.replicate k vs).flatten ((List.replicate k xs).flatten.map enc)
  | 0 => .nil
  | k + 1 => by
    rw [List.replicate_succ, List.replicate_succ, List.flatten_cons, List.flatten_cons, List.map_append]
    exact dpAll_append h (dpAll_rep h k)
/-- [a] * n, the list made there -/
theorem evn_rep {α : Type} [Enc α] {m1 : Prog (L α)} {m2 : Prog Int} (h1 : EVN N Γ ta m1) (h2 : ∀ O, EV (N.wi N.E O) Γ tb m2) : EVN N Γ (tOp rRep ta tb) (m1 >>= fun (xs : List α) => m2 >>= fun n => chk (inRange n && small (xs.length * n.toNat)) (.ok (rep xs n : L α))) := fun σ F H hs Q q =>
  h1 σ F H hs _ (wp_mono (wp_bind.1 q) fun (xs : List α) q1 p vs F1 H1 hs1 e1 n1 hp d1 => by
    have hO : HS (N.wi N.E fun a => if a = p then some (.lst vs) else N.O a) Γ σ F1 H1 := hs1.wi fun a o x => by
      by_cases ha : a = p
      · subst ha
        rw [if_pos rfl] at x
        exact ⟨⟨hp.trans x, n1.mine.f⟩, n1.mine.s⟩
      · rw [if_neg ha] at x
        exact hs1.w.os a o x
    have hON : ∀ a o, N.O a = some o → (fun a => if a = p then some (HO.lst vs) else N.O a) a = some o := fun a o x => by
      have ne : a ≠ p := fun z => by rw [z, n1.no] at x; cases x
      show (if a = p then some (HO.lst vs) else N.O a) = some o
      rw [if_neg ne]
      exact x
    refine h2 _ σ F1 H1 hO _ (wp_imp (wp_bind.1 q1) (fun n q2 y F2 H2 hs2 e2 r2 => ?_) fun e h => ep_wi hON e h)
    obtain ⟨hl, q2⟩ := wp_chk q2
    obtain ⟨ha, hb⟩ := Bool.and_eq_true_iff.1 hl
    obtain ⟨b1, b2⟩ := inRange_ok ha
    have e3 : y = .int n := Scl.dp r2
    have hp2 : H2 p = some (.lst vs) := (hs2.w.os p _ (if_pos rfl)).1.1
    have hs3 : HS N Γ σ F2 H2 := hs2.unwi fun a o x => hs2.w.os a o (hON a o x)
    refine ⟨p, n, vs, rfl, e3, hp2, by omega, by omega, by rw [dpAll_len d1]; exact small_le hb, fun l hl => ?_⟩
    obtain ⟨hs4, n4⟩ := hs_newlist (vs := (List.replicate n.toNat vs).flatten) hs3 hl
    exact q2 l _ _ _ hs4 (Same.trans e1 e2) n4 upd_same (dpAll_rep (dpAll_same e2 _ _ d1) _))
/-! (*row, x) and the like: arguments with a star -/
theorem evl_star {α : Type} [Enc α] {m1 : Prog (List α)} {tr : TA} {m2 : Prog (List α)} (h1 : EV N Γ ta m1) (h2 : EVA N Γ tr m2 (fun xs vs F => DqAll G.K F vs (xs.map enc))) :
    EVA N Γ (StX.tStar G.K ta tr) (m1 >>= fun a => m2 >>= fun b => .ok (a ++ b)) (fun xs vs F => DqAll G.K F vs (xs.map enc)) := fun σ F H hs Q q =>
  h1 σ F H hs _ (wp_mono (wp_bind.1 q) fun a q1 x F1 H1 hs1 e1 r1 => by
    have hd : Dq G.K F1 x (.tuple (a.map enc)) := r1
    cases hd with
    | tup hq ha => exact ⟨_, _, rfl, .inl (sqt_same hs1.w.fh hq), h2 σ F1 H1 hs1 _ (wp_mono (wp_bind.1 q1) fun b q2 vs F2 H2 hs2 e2 r2 => q2 _ F2 H2 hs2 (Same.trans e1 e2) (by
      show DqAll G.K F2 _ ((a ++ b).map enc)
      rw [List.map_append]
      exact dpAll_append (dpAll_same e2 _ _ ha) r2))⟩)
theorem evl_starL {α : Type} [Enc α] {m1 : Prog (L α)} {tr : TA} {m2 : Prog (List α)} (h1 : EV N Γ ta m1) (h2 : EVA N Γ tr m2 (fun xs vs F => DqAll G.K F vs (xs.map enc))) :
    EVA N Γ (StX.tStar G.K ta tr) (m1 >>= fun (a : List α) => m2 >>= fun b => .ok (a ++ b)) (fun xs vs F => DqAll G.K F vs (xs.map enc)) := fun σ F H hs Q q =>
  h1 σ F H hs _ (wp_mono (wp_bind.1 q) fun (a : List α) q1 x F1 H1 hs1 e1 r1 => by
    have hd : Dq G.K F1 x (.list (a.map enc)) := r1
    cases hd with
    | lst hq ha => exact ⟨_, _, rfl, .inr (sql_same hs1.w.fh (.inl (Rd.of hq))), h2 σ F1 H1 hs1 _ (wp_mono (wp_bind.1 q1) fun b q2 vs F2 H2 hs2 e2 r2 => q2 _ F2 H2 hs2 (Same.trans e1 e2) (by
      show DqAll G.K F2 _ ((a ++ b).map enc)
      rw [List.map_append]
      exact dpAll_append (dpAll_same e2 _ _ ha) r2))⟩)
/-! int(..), max, min, str -/
theorem ev_intI {m : Prog Int} (h : EV N Γ ta m) : EV N Γ (tCB (fun xs H Q => (∃ i, xs = [.int i] ∧ Q (.int i) H) ∨ ∃ k, xs = [.bl k] ∧ Q (.int (if k then 1 else 0)) H) (tCons ta tNil)) m := fun σ F H hs Q q =>
  h σ F H hs _ (wp_mono q fun i q1 x F1 H1 hs1 e1 r1 => .inl ⟨i, by rw [Scl.dp (α := Int) r1]; rfl, q1 _ F1 H1 hs1 e1 (.int _)⟩)
theorem ev_intB {m : Prog Bool} (h : EV N Γ ta m) : EV N Γ (tCB (fun xs H Q => (∃ i, xs = [.int i] ∧ Q (.int i) H) ∨ ∃ k, xs = [.bl k] ∧ Q (.int (if k then 1 else 0)) H) (tCons ta tNil)) (m >>= fun b => .ok (if b then (1 : Int) else 0)) := fun σ F H hs Q q =>
  h σ F H hs _ (wp_mono (wp_bind.1 q) fun b q1 x F1 H1 hs1 e1 r1 => .inr ⟨b, by rw [Scl.dp (α := Bool) r1]; rfl, q1 _ F1 H1 hs1 e1 (.int _)⟩)
theorem ev_max2 {m1 m2 : Prog Int} (h1 : EV N Γ ta m1) (h2 : EV N Γ tb m2) : EV N Γ (tCB (fun xs H Q => ∃ i j, xs = [.int i, .int j] ∧ Q (.int (if j > i then j else i)) H) (tCons ta (tCons tb tNil))) (m1 >>= fun a => m2 >>= fun b => .ok (if b > a then b else a)) := fun σ F H hs Q q =>
  h1 σ F H hs _ (wp_mono (wp_bind.1 q) fun a q1 x F1 H1 hs1 e1 r1 => h2 σ F1 H1 hs1 _ (wp_mono (wp_bind.1 q1) fun b q2 y F2 H2 hs2 e2 r2 => ⟨a, b, by rw [Scl.dp (α := Int) r1, Scl.dp (α := Int) r2]; rfl, q2 _ F2 H2 hs2 (Same.trans e1 e2) (.int _)⟩))
theorem ev_min2 {m1 m2 : Prog Int} (h1 : EV N Γ ta m1) (h2 : EV N Γ tb m2) : EV N Γ (tCB (fun xs H Q => ∃ i j, xs = [.int i, .int j] ∧ Q (.int (if j < i then j else i)) H) (tCons ta (tCons tb tNil))) (m1 >>= fun a => m2 >>= fun b => .ok (if b < a then b else a)) := fun σ F H hs Q q =>
  h1 σ F H hs _ (wp_mono (wp_bind.1 q) fun a q1 x F1 H1 hs1 e1 r1 => h2 σ F1 H1 hs1 _ (wp_mono (wp_bind.1 q1) fun b q2 y F2 H2 hs2 e2 r2 => ⟨a, b, by rw [Scl.dp (α := Int) r1, Scl.dp (α := Int) r2]; rfl, q2 _ F2 H2 hs2 (Same.trans e1 e2) (.int _)⟩))
/-! enumerate -/
def enumT {α : Type} (xs : List α) : List (Int × α) := xs.zipIdx.map fun p => ((p.2 : Int), p.1)
theorem enumT_get {α : Type} (xs : List α) (i : Nat) : (enumT xs)[i]? = (xs[i]?).map fun a => ((i : Int), a) := by
  unfold enumT
  rw [List.getElem?_map, List.getElem?_zipIdx]
  cases xs[i]? with
  | none => rfl
  | some a => simp
theorem enumT_len {α : Type} (xs : List α) : (enumT xs).length = xs.length := by simp [enumT]
theorem evi_enumT {α : Type} [Enc α] {m : Prog (List α)} (h : EV N Γ te m) : EVI (α := Int × α) N Γ (TyL.iEnumT G.K (tCons te tNil)) (m >>= fun xs => .ok (enumT xs)) anyE := fun σ F H hs R q =>
  h σ F H hs _ (wp_mono (wp_bind.1 q) fun xs k x F1 H1 hs1 e1 r1 => by
    have hd : Dq G.K F1 x (.tuple (xs.map enc)) := r1
    cases hd with
    | tup hq ha =>
      refine ⟨_, _, rfl, sqt_same hs1.w.fh hq, k F1 H1 _ hs1 e1 fun N1 Γ' _ => ⟨fun i σ F' H' hs' e' hi => ?_, fun i a σ F' H' x H2 hs' e' hx y => ?_, fun i σ F' H' hs' e' hi => ?_⟩⟩
      · rw [enumT_len] at hi
        obtain ⟨v, hv, _⟩ := dpAll_at ha (List.getElem?_eq_getElem hi)
        exact ⟨_, v, sqt_same (Same.trans e' hs'.w.fh) hq, hv⟩
      · rw [enumT_get] at hx
        cases hc : xs[i]? with
        | none => rw [hc] at hx; cases hx
        | some c =>
          rw [hc] at hx
          have hx' : ((i : Int), c) = a := Option.some.inj hx
          subst hx'
          obtain ⟨v, hv, d⟩ := dpAll_at ha hc
          obtain ⟨T, w, e1, e2, e3, y⟩ := y
          have e4 : w = v := Option.some.inj ((y _ (sqt_same (Same.trans e' hs'.w.fh) hq)).symm.trans hv)
          subst e1 e4
          have fT : F' T = none := Same.free hs'.w.fh e2
          exact .inr ⟨T, _, e2, e3, .tup (.inl (.inl upd_same)) (.cons (.int _) (.cons (dp_same (Same.trans e' (same_new fT)) _ _ d) .nil))⟩
      · rw [enumT_len] at hi
        exact ⟨_, sqt_same (Same.trans e' hs'.w.fh) hq, by rw [dpAll_len ha]; exact hi⟩)
/-! changes of owned lists -/
theorem sv_insert {α : Type} [Enc α] {i : Nat} {xs : List α} {m1 : Prog Int} {m2 : Prog α} {J : Aim ω} {k : Int → α → Prog ω} (hO : ∀ a, N.O a = none) (hi : Γ[i]? = some (.lst xs)) (h1 : EV N Γ ta m1) (h2 : EV N Γ tb m2) (hk : ∀ j a, SV N (Γ.set i (.lst (xs.take j.toNat ++ [a] ++ xs.drop j.toNat))) tz J (k j a)) :
    SV N Γ (tSeq (tDrop (tBM G.K "list" (fun x vs H Q => ∃ (l : Addr) (xs : List V) (i : Int) (y : V), x = .ref l ∧ vs = [.int i, y] ∧ H l = some (.lst xs) ∧ xs.length < sizeLine ∧ 0 ≤ i ∧ i < 2 ^ 63 ∧ Q .non (upd H l (.lst (xs.take i.toNat ++ [y] ++ xs.drop i.toNat)))) (tVar i) (tCons ta (tCons tb tNil)))) tz) J
      (m1 >>= fun j => m2 >>= fun a => chk (small xs.length && decide (0 ≤ j) && inRange j) (k j a)) := fun σ F H D hs q => by
  obtain ⟨p, vs, e0, m0, hp, d, hl⟩ := hs.lstAt hi
  refine ⟨.ref p, e0, .inl ⟨rfl, vs, .inl (.inl hp)⟩, h1 σ F H hs _ (wp_mono (wp_bind.1 q) fun j q1 w F1 H1 hs1 e1 r1 => h2 σ F1 H1 hs1 _ (wp_mono (wp_bind.1 q1) fun a q2 v F2 H2 hs2 e2 r2 => ?_))⟩
  obtain ⟨hz, q2⟩ := wp_chk q2
  obtain ⟨hz, hz3⟩ := Bool.and_eq_true_iff.1 hz
  obtain ⟨hz1, hz2⟩ := Bool.and_eq_true_iff.1 hz
  have hz2 := of_decide_eq_true hz2
  obtain ⟨b1, b2⟩ := inRange_ok hz3
  obtain ⟨p', vs', e0', m0', hp', d', _⟩ := hs2.lstAt hi
  rw [e0] at e0'
  cases e0'
  refine ⟨p, vs', j, v, rfl, by rw [Scl.dp (α := Int) r1]; rfl, hp', by rw [dpAll_len d']; exact small_lt hz1, hz2, by omega, ?_⟩
  refine hk j a σ F2 _ D (hs2.put hO hi e0 ?_) (wp_mono q2 fun o x => J.mono (Same.trans e1 e2) x)
  rw [List.map_append, List.map_append, List.map_take, List.map_drop]
  exact dpAll_append (dpAll_append (dpAll_take _ d') (.cons r2 .nil)) (dpAll_drop _ d')
theorem dpAll_erase {K : PySem.W.Frag} {F : Hp} : ∀ {ds : List PyData} {vs : List V} (n : Nat), DqAll K F vs ds → DqAll K F (vs.eraseIdx n) (ds.eraseIdx n)
  | [], _, n, h => by cases h; exact .nil
  | d :: ds, _, 0, h => by
    cases h with
    | cons h1 h2 => exact h2
  | d :: ds, _, n + 1, h => by
    cases h with
    | cons h1 h2 => exact .cons h1 (dpAll_erase n h2)
/-- xs.pop(i), its value dropped -/
theorem sv_popAtD {α : Type} [Enc α] {i : Nat} {xs : List α} {m1 : Prog Int} {J : Aim ω} {k : Int → Prog ω} (hO : ∀ a, N.O a = none) (hi : Γ[i]? = some (.lst xs)) (h1 : EV N Γ ta m1) (hk : ∀ j, SV N (Γ.set i (.lst (xs.eraseIdx j.toNat))) tz J (k j)) :
    SV N Γ (tSeq (tDrop (tBM G.K "list" rPopAt (tVar i) (tCons ta tNil))) tz) J (m1 >>= fun j => chk (decide (0 ≤ j) && decide (j < xs.length) && inRange j) (k j)) := fun σ F H D hs q => by
  obtain ⟨p, vs, e0, m0, hp, d, hl⟩ := hs.lstAt hi
  refine ⟨.ref p, e0, .inl ⟨rfl, vs, .inl (.inl hp)⟩, h1 σ F H hs _ (wp_mono (wp_bind.1 q) fun j q1 w F1 H1 hs1 e1 r1 => ?_)⟩
  obtain ⟨hz, q1⟩ := wp_chk q1
  obtain ⟨hz, hz3⟩ := Bool.and_eq_true_iff.1 hz
  obtain ⟨hz1, hz2⟩ := Bool.and_eq_true_iff.1 hz
  have hz1 := of_decide_eq_true hz1
  have hz2 := of_decide_eq_true hz2
  obtain ⟨b1, b2⟩ := inRange_ok hz3
  obtain ⟨p', vs', e0', m0', hp', d', _⟩ := hs1.lstAt hi
  rw [e0] at e0'
  cases e0'
  have hlt : j.toNat < vs'.length := by rw [dpAll_len d']; omega
  refine ⟨p, vs', j, j.toNat, vs'[j.toNat], rfl, by rw [Scl.dp (α := Int) r1]; rfl, hp', by omega, by omega, ?_, List.getElem?_eq_getElem hlt, ?_⟩
  · have hx : ixN vs'.length j = some j.toNat := by
      unfold ixN
      rw [if_pos hz1, if_pos (by omega)]
    exact (ixN_seq hx).1
  · refine hk j σ F1 _ D (hs1.put hO hi e0 ?_) (wp_mono q1 fun o x => J.mono e1 x)
    have e : ∀ (l : List α) (n : Nat), (l.eraseIdx n).map (enc : α → PyData) = (l.map enc).eraseIdx n := fun l => by
      induction l with
      | nil => intro n; rfl
      | cons a l ih =>
        intro n
        cases n with
        | zero => rfl
        | succ n => show enc a :: _ = enc a :: _; rw [ih n]
    rw [e]
    exact dpAll_erase _ d'
/-! x op= e -/
theorem sv_aug {i : Nat} {f : Int → Int → Int} {a : Int} {m : Prog Int} {J : Aim ω} {k : Int → Prog ω} (hi : Γ[i]? = some (@Ent.per G Int _ a)) (h : EV N Γ te m) (hk : ∀ b, SV N (Γ.set i (@Ent.per G Int _ (f a b))) tz J (k b)) :
    SV N Γ (tSeq (tAug i te (ipI f)) tz) J (m >>= k) := fun σ F H D hs q => by
  obtain ⟨o, e1, v, e2, r⟩ := hs.sl.get hi
  subst e2
  have ev : v = .int a := Scl.dp (α := Int) r
  subst ev
  refine ⟨_, e1, h σ F H hs _ (wp_mono (wp_bind.1 q) fun b q1 w F1 H1 hs1 e1 r1 => ⟨a, b, rfl, Scl.dp r1, ?_⟩)⟩
  exact hk b _ F1 H1 D (hs1.setPer (a := f a b) i (.int _)) (wp_mono q1 fun o x => J.mono e1 x)
/-- a name stored that is never asked again, or code that is not reached -/
theorem sv_never {J : Aim ω} {ts : TS} (e : ts = tNever) : SV N Γ ts J (.stuck : Prog ω) := fun σ F H D hs q => q.elim
end
end Ty

namespace Ty
open PySem PySem.Spec PyProof.Rows L2
open Enc (enc)
variable {G : Glob}
section
variable {α β γ δ ω : Type} [iα : Rp G α] {N : NN} {Γ Γ' : Env G} {te ta tb tc : TE} {tt tu : TT} {tz : TS}
/-! ### isinstance of data against a built-in class -/
def tyName : PyData → String
  | .none => "NoneType"
  | .bool _ => "bool"
  | .int _ => "int"
  | .str _ => "str"
  | .list _ => "list"
  | .tuple _ => "tuple"
  | .dict _ => "dict"
def isD (T : String) (d : PyData) : Bool := (L2.kitB (tyName d) T).getD false
/-- the class is one of those whose answers the kit knows -/
def Known (T : String) : Prop := ∀ n ∈ ["NoneType", "bool", "int", "str", "list", "tuple", "dict"], (L2.kitB n T).isSome = true
instance (T : String) : Decidable (Known T) := inferInstanceAs (Decidable (∀ n ∈ ["NoneType", "bool", "int", "str", "list", "tuple", "dict"], (L2.kitB n T).isSome = true))
theorem tyx_of {K : PySem.W.Frag} {H : Hp} {d : PyData} {v : V} (h : Dq K H v d) : L2.TyX K H v (.type (tyName d)) := by
  cases h with
  | non => exact .base .non
  | bl b => exact .base (.bl b)
  | int i => exact .base (.int i)
  | str x => exact .base (.str x)
  | lst hq0 ha =>
    have hq := Rd.of hq0
    rcases hq with hq | ⟨o, hq⟩
    · exact .base (.lst hq)
    · exact .base (.frz hq)
  | tup hq ha =>
    rcases hq with (hq | ⟨o, hq⟩) | ⟨o, its, n, hk, hc, _⟩
    · exact .base (.tup hq)
    · exact .fTuple hq
    · exact .kTuple hk hc
theorem isD_some {T : String} (k : Known T) (d : PyData) : L2.kitB (tyName d) T = some (isD T d) := by
  have h : (L2.kitB (tyName d) T).isSome = true := k _ (by cases d <;> simp [tyName])
  unfold isD
  cases e : L2.kitB (tyName d) T with
  | none => rw [e] at h; cases h
  | some b => rfl
theorem ev_isi {α : Type} [Enc α] {T : String} (k : Known T) {m : Prog α} (h : EV N Γ ta m) : EV N Γ (tCB (L2.rIsi G.K) (tCons ta (tCons (tC (.ty T)) tNil))) (m >>= fun a => .ok (isD T (enc a))) := fun σ F H hs Q q =>
  h σ F H hs _ (wp_mono (wp_bind.1 q) fun a q1 x F1 H1 hs1 e1 r1 => ⟨x, .ty T, _, _, isD T (enc a), rfl, .ty T, tyx_of (dp_same hs1.w.fh _ _ r1), L2.kit_ty (isD_some k _), q1 _ F1 H1 hs1 e1 (.bl _)⟩)
/-! ### code.many, code.parts -/
structure CodeFacts (G : Glob) : Prop where
  sc : SlX.SCls G.K G.code
  many : ∃ p, SlX.Slot1 G.K G.code "many" p 0
  parts : ∃ p, SlX.Slot1 G.K G.code "parts" p 1
theorem slt_same {F F' : Hp} {a C dx : Addr} {vs : List (Option V)} (e : Same F F') (h : SlX.Slt F a C dx vs) : SlX.Slt F' a C dx vs := by
  rcases h with ⟨h1, h2⟩ | ⟨h1, h2⟩
  · exact .inl ⟨e _ _ h1, h2⟩
  · exact .inr ⟨e _ _ h1, e _ _ h2⟩
theorem ev_many (cf : CodeFacts G) {m : Prog CodeV} (h : EV N Γ ta m) : EV N Γ (SlX.tSl G.K ta "many") (m >>= fun c => .ok c.many) := fun σ F H hs Q q =>
  h σ F H hs _ (wp_mono (wp_bind.1 q) fun c q1 x F1 H1 hs1 e1 r1 => by
    obtain ⟨a, dx, y, e, s, d⟩ := r1
    obtain ⟨p, sl⟩ := cf.many
    exact ⟨a, G.code, dx, p, _, 0, _, e, slt_same hs1.w.fh s, cf.sc, sl, rfl, q1 _ F1 H1 hs1 e1 (.int _)⟩)
theorem ev_parts (cf : CodeFacts G) {m : Prog CodeV} (h : EV N Γ ta m) : EV N Γ (SlX.tSl G.K ta "parts") (m >>= fun c => .ok c.parts) := fun σ F H hs Q q =>
  h σ F H hs _ (wp_mono (wp_bind.1 q) fun c q1 x F1 H1 hs1 e1 r1 => by
    obtain ⟨a, dx, y, e, s, d⟩ := r1
    obtain ⟨p, sl⟩ := cf.parts
    exact ⟨a, G.code, dx, p, _, 1, _, e, slt_same hs1.w.fh s, cf.sc, sl, rfl, q1 _ F1 H1 hs1 e1 d⟩)
end
section
variable {α β γ δ ω ρ : Type} [iα : Rp G α] {N : NN} {Γ Γ' : Env G} {te ta tb tc : TE} {tt tu : TT} {tz ts : TS}
theorem sv_retO {α : Type} [Enc α] {i : Nat} {xs : List α} (hi : Γ[i]? = some (.lst xs)) : SV N Γ (tSeq (tRet (tVar i)) tz) (JRN G N) (.ok (xs : L α)) := fun σ F H D hs q => by
  obtain ⟨p, vs, e0, m0, hp, d, hl⟩ := hs.lstAt hi
  exact ⟨.ref p, e0, q p vs F H hs.w m0 m0.h0 hp d⟩
theorem sv_retOF {α β : Type} [Enc α] {i : Nat} {xs : List α} {Jn : Aim β} (hi : Γ[i]? = some (.lst xs)) : SV N Γ (tSeq (tRet (tVar i)) tz) (JF Jn (JRN G N)) (.ok (.rt (xs : L α))) := fun σ F H D hs q => by
  obtain ⟨p, vs, e0, m0, hp, d, hl⟩ := hs.lstAt hi
  exact ⟨.ref p, e0, q p vs F H hs.w m0 m0.h0 hp d⟩
theorem sv_ifnever {J : Aim ω} {m0 : Prog Bool} {m2 : Prog ω} (h0 : TV N Γ tt m0) (h2 : SV N Γ tz J m2) : SV N Γ (tSeq (tIfS tt tNever tNext) tz) J (m0 >>= fun c => if c then .stuck else m2) := fun σ F H D hs q =>
  h0 σ F H hs _ (wp_mono (wp_bind.1 q) fun b k F' H' hs' e => by
    cases b with
    | true => exact k.elim
    | false => exact h2 σ F' H' D hs' (wp_mono k fun o x => J.mono e x))
theorem wk_n : Wk ([] : Env G) [] := trivial
theorem wk_s {e : Ent G} (h : Wk Γ Γ') : Wk (e :: Γ) (e :: Γ') := ⟨.inr rfl, h⟩
theorem wk_d {e : Ent G} (h : Wk Γ Γ') : Wk (e :: Γ) (.dead :: Γ') := ⟨.inl rfl, h⟩
theorem own_n : ∀ e ∈ ([] : Env G), e.own = false := fun e h => by cases h
theorem own_c {e : Ent G} (h : e.own = false) (k : ∀ e ∈ Γ, e.own = false) : ∀ e' ∈ e :: Γ, e'.own = false := fun e' x => by
  cases x with
  | head => exact h
  | tail _ y => exact k e' y
theorem no_own1 {i : Nat} {e : Ent G} (h : Γ[i]? = some e) (o : e.own = false) : notOwn Γ [i] := fun j hj e' h' => by
  cases hj with
  | head => rw [h] at h'; cases h'; exact o
  | tail _ y => cases y
theorem no_own2 {i j : Nat} {e e2 : Ent G} (h : Γ[i]? = some e) (o : e.own = false) (h2 : Γ[j]? = some e2) (o2 : e2.own = false) : notOwn Γ [i, j] := fun k hk e' h' => by
  cases hk with
  | head => rw [h] at h'; cases h'; exact o
  | tail _ y =>
    cases y with
    | head => rw [h2] at h'; cases h'; exact o2
    | tail _ z => cases z
theorem hO_of (F H : Hp) (E : XK) : ∀ a, (NN.of F H E).O a = none := fun _ => rfl
theorem hO_src (F H : Hp) (p c : Addr) (E : XK) : ∀ a, (NN.src F H p c E).O a = none := fun _ => rfl
end
/-! ### any value, taken as what it is -/
def asTx : PyData → Prog Tx
  | .str x => .ok x.cps.toList
  | _ => .stuck
def asInt : PyData → Prog Int
  | .int x => .ok x
  | _ => .stuck
def asTup : PyData → Prog (List PyData)
  | .tuple xs => .ok xs
  | _ => .stuck
section
variable {N : NN} {Γ : Env G} {te : TE}
theorem ev_asTx {m : Prog PyData} (h : EV N Γ te m) : EV N Γ te (m >>= asTx) := fun σ F H hs Q q =>
  h σ F H hs _ (wp_mono (wp_bind.1 q) fun d q1 x F1 H1 hs1 e1 r1 => by
    cases d with
    | str y => exact q1 x F1 H1 hs1 e1 r1
    | _ => exact q1.elim)
theorem ev_asInt {m : Prog PyData} (h : EV N Γ te m) : EV N Γ te (m >>= asInt) := fun σ F H hs Q q =>
  h σ F H hs _ (wp_mono (wp_bind.1 q) fun d q1 x F1 H1 hs1 e1 r1 => by
    cases d with
    | int y => exact q1 x F1 H1 hs1 e1 r1
    | _ => exact q1.elim)
theorem ev_asTup {m : Prog PyData} (h : EV N Γ te m) : EV N Γ te (m >>= asTup) := fun σ F H hs Q q =>
  h σ F H hs _ (wp_mono (wp_bind.1 q) fun d q1 x F1 H1 hs1 e1 r1 => by
    cases d with
    | tuple ys =>
      refine q1 x F1 H1 hs1 e1 ?_
      show Dq G.K F1 x (.tuple (ys.map enc))
      have e : ys.map (enc : PyData → PyData) = ys := List.map_id _
      rw [e]
      exact r1
    | _ => exact q1.elim)
end
/-! ### the text's defs, by name -/
structure Df (K : PySem.W.Frag) (mg : Str → Option Value) (x qual : Str) (st : Stmt) (ps : List Str) where
  f : Addr
  fd : FuncData
  Fu : Fun K x qual st f fd
  b : Binds K fd ps []
  g : mg x = some (.ref f)
end Ty

namespace Ty
open PySem PySem.Spec PyProof.Rows L2
open Enc (enc)
variable {G : Glob}
/-! ### instances that a def owns -/
section
variable {N : NN} {Γ : Env G} {σ : L2.St} {F H : Hp} {i : Nat} {C : Addr} {fs : List (Fld G)} {w : Option Addr}
theorem HS.insAt (hs : HS N Γ σ F H) (hi : Γ[i]? = some (.ins C fs w)) : ∃ p dx us, σ[i]? = some (some (.ref p)) ∧ MineI N F p ∧ H p = some (.ins C dx us) ∧ FlR F fs us ∧ (∀ q, w = some q → q = p) ∧ Held Γ σ p := by
  obtain ⟨o, e0, p, dx, us, e1, m, hp, d, hw⟩ := hs.sl.get hi
  subst e1
  exact ⟨p, dx, us, e0, m, hp, d, hw, i, _, hi, rfl, e0⟩
theorem HS.dead (hs : HS N Γ σ F H) (i : Nat) : HS N (Γ.set i .dead) σ F H := by
  have sub : ∀ {j : Nat} {e : Ent G}, (Γ.set i .dead)[j]? = some e → e = .dead ∨ (j ≠ i ∧ Γ[j]? = some e) := fun {j e} h => by
    by_cases hj : j = i
    · subst hj
      rw [List.getElem?_set] at h
      split at h
      · split at h
        · cases h; exact .inl rfl
        · cases h
      · exact absurd rfl ‹_›
    · rw [List.getElem?_set_ne (Ne.symm hj)] at h; exact .inr ⟨hj, h⟩
  refine ⟨hs.w, Slots.of (by rw [List.length_set]; exact hs.sl.len) fun j e o h1 h2 => ?_, fun j k e e' p h1 h2 o1 o2 s1 s2 => ?_⟩
  · rcases sub h1 with z | ⟨_, z⟩
    · subst z; trivial
    · obtain ⟨o', e1, s⟩ := hs.sl.get z
      rw [h2] at e1; cases e1; exact s
  · rcases sub h1 with z | ⟨_, z⟩
    · subst z; cases o1
    · rcases sub h2 with z' | ⟨_, z'⟩
      · subst z'; cases o2
      · exact hs.ds j k e e' p z z' o1 o2 s1 s2
theorem HS.notHeld {e : Ent G} {p : Addr} (hs : HS N Γ σ F H) (hi : Γ[i]? = some e) (he : e.own = true) (e0 : σ[i]? = some (some (.ref p))) : ¬ Held (Γ.set i .dead) σ p := fun ⟨j, e', h1, o1, s1⟩ => by
  by_cases hj : j = i
  · subst hj
    rw [List.getElem?_set_self (List.getElem?_eq_some_iff.1 hi).1] at h1
    cases h1; cases o1
  · rw [List.getElem?_set_ne (Ne.symm hj)] at h1
    exact hj (hs.ds j i _ _ p h1 hi o1 he s1 e0)
theorem HS.writeO {p : Addr} {u : HO} (hs : HS N Γ σ F H) (no : N.O p = none) (m : MineI N F p) (nh : ¬ Held Γ σ p) : HS N Γ σ F (upd H p u) := by
  refine hs.move ⟨fun a u e => ?_, hs.w.f0, hs.w.nw, fun a u nb e => ?_, fun a e => ?_, fun q c e => ?_, hs.w.sb, fun a u e => ?_⟩ (Same.refl F) (fun q u hl e => ?_) fun q hl => (hs.held hl).1.f
  · rw [upd_ne (ne_of_none e m.f)]; exact hs.w.fh a u e
  · have : a ≠ p := fun z => by
      subst z
      rcases m.h0 with x | x
      · rw [x] at e; cases e
      · exact nb x
    rw [upd_ne this]; exact hs.w.kp a u nb e
  · by_cases ha : a = p
    · subst ha; rw [upd_same] at e; cases e
    · rw [upd_ne ha] at e; exact hs.w.dm a e
  · have s := hs.w.sr q c e
    obtain ⟨st, ix, cs, h1, h2, r⟩ := s.at_
    have x := m.s q c e
    exact ⟨s.fp, s.fc, s.ne, st, ix, cs, by rw [upd_ne (Ne.symm x.1)]; exact h1, by rw [upd_ne (Ne.symm x.2)]; exact h2, r⟩
  · have x := hs.w.os a u e
    have ne : a ≠ p := fun z => by rw [z, no] at e; cases e
    exact ⟨⟨by rw [upd_ne ne]; exact x.1.1, x.1.2⟩, x.2⟩
  · have : q ≠ p := fun z => nh (z ▸ hl)
    rw [upd_ne this]; exact e
theorem HS.write {p : Addr} {u : HO} (hs : HS N Γ σ F H) (hO : ∀ a, N.O a = none) (m : MineI N F p) (nh : ¬ Held Γ σ p) : HS N Γ σ F (upd H p u) := hs.writeO (hO p) m nh
theorem HS.own {p : Addr} {e : Ent G} (hs : HS N Γ σ F H) (i : Nat) (nh : ¬ Held Γ σ p) (s : Sl N F H e (some (.ref p))) : HS N (Γ.set i e) (σ.set i (some (.ref p))) F H := by
  refine ⟨hs.w, hs.sl.set i s, fun j k e1 e2 q h1 h2 o1 o2 s1 s2 => ?_⟩
  have at_ : ∀ {j : Nat} {e1 : Ent G}, (Γ.set i e)[j]? = some e1 → e1.own = true → (σ.set i (some (.ref p)))[j]? = some (some (.ref q)) → (j = i ∧ q = p) ∨ (j ≠ i ∧ Γ[j]? = some e1 ∧ σ[j]? = some (some (.ref q)) ∧ q ≠ p) := fun {j e1} h o s => by
    by_cases hj : j = i
    · subst hj
      rw [List.getElem?_set] at s
      split at s
      · split at s
        · cases s; exact .inl ⟨rfl, rfl⟩
        · cases s
      · exact absurd rfl ‹_›
    · rw [List.getElem?_set_ne (Ne.symm hj)] at h s
      exact .inr ⟨hj, h, s, fun z => nh ⟨j, e1, h, o, z ▸ s⟩⟩
  rcases at_ h1 o1 s1 with ⟨a1, b1⟩ | ⟨a1, b1, c1, d1⟩
  · rcases at_ h2 o2 s2 with ⟨a2, b2⟩ | ⟨a2, b2, c2, d2⟩
    · rw [a1, a2]
    · exact absurd b1 d2
  · rcases at_ h2 o2 s2 with ⟨a2, b2⟩ | ⟨a2, b2, c2, d2⟩
    · exact absurd b2 d1
    · exact hs.ds j k e1 e2 q b1 b2 o1 o2 c1 c2
theorem set_id {p : Option V} (hp : σ[i]? = some p) : σ.set i p = σ := by
  obtain ⟨h1, h2⟩ := List.getElem?_eq_some_iff.1 hp
  apply List.ext_getElem?
  intro k
  by_cases hk : k = i
  · subst hk; rw [List.getElem?_set_self h1, hp]
  · rw [List.getElem?_set_ne (Ne.symm hk)]
theorem HS.putI {p : Addr} {fs' : List (Fld G)} {dx : Addr} {us : List (Str × V)} (hs : HS N Γ σ F H) (hO : ∀ a, N.O a = none) (hi : Γ[i]? = some (.ins C fs w)) (hp : σ[i]? = some (some (.ref p))) (d : FlR F fs' us) :
    HS N (Γ.set i (.ins C fs' w)) σ F (upd H p (.ins C dx us)) := by
  obtain ⟨p', dx', us', e0, m, h0, _, hw, hl⟩ := hs.insAt hi
  rw [hp] at e0
  cases e0
  have h1 := ((hs.dead i).write (u := .ins C dx us) hO m (hs.notHeld hi rfl hp)).own (e := .ins C fs' w) i (hs.notHeld hi rfl hp) ⟨p, dx, us, rfl, m, upd_same, d, hw⟩
  rw [List.set_set, set_id hp] at h1
  exact h1
end
theorem flR_get {F : Hp} {n : Str} : ∀ {fs : List (Fld G)} {us : List (Str × V)}, FlR F fs us → ∀ {f : Fld G}, fs.find? (fun f => n == f.n) = some f → ∃ v, us.lookup n = some v ∧ f.i.rp f.a v F
  | [], [], _, f, h => by simp at h
  | [], _ :: _, h, _, _ => h.elim
  | _ :: _, [], h, _, _ => h.elim
  | g :: fs, (k, v) :: us, h, f, hf => by
    obtain ⟨e1, r, h2⟩ := h
    have e1 : g.n = k := e1
    subst e1
    rw [List.find?_cons] at hf
    rw [List.lookup_cons]
    cases hb : (n == g.n) with
    | true =>
      rw [hb] at hf
      cases hf
      exact ⟨v, rfl, r⟩
    | false =>
      rw [hb] at hf
      exact flR_get h2 hf
theorem flR_none {F : Hp} {n : Str} : ∀ {fs : List (Fld G)} {us : List (Str × V)}, FlR F fs us → fs.find? (fun f => n == f.n) = none → us.lookup n = none
  | [], [], _, _ => rfl
  | [], _ :: _, h, _ => h.elim
  | _ :: _, [], h, _ => h.elim
  | g :: fs, (k, v) :: us, h, hf => by
    obtain ⟨e1, r, h2⟩ := h
    have e1 : g.n = k := e1
    subst e1
    rw [List.find?_cons] at hf
    rw [List.lookup_cons]
    cases hb : (n == g.n) with
    | true => rw [hb] at hf; cases hf
    | false =>
      rw [hb] at hf
      exact flR_none h2 hf
def putFl (f : Fld G) : List (Fld G) → List (Fld G)
  | [] => [f]
  | g :: r => if g.n = f.n then f :: r else g :: putFl f r
theorem flR_put {F : Hp} {f : Fld G} {v : V} (r : f.i.rp f.a v F) : ∀ {fs : List (Fld G)} {us : List (Str × V)}, FlR F fs us → FlR F (putFl f fs) (putF f.n v us)
  | [], [], _ => ⟨rfl, r, trivial⟩
  | [], _ :: _, h => h.elim
  | _ :: _, [], h => h.elim
  | g :: fs, (k, x) :: us, h => by
    obtain ⟨e1, r1, h2⟩ := h
    have e1 : g.n = k := e1
    subst e1
    unfold putFl putF
    by_cases hk : g.n = f.n
    · rw [if_pos hk, if_pos hk]; exact ⟨hk.symm, r, h2⟩
    · rw [if_neg hk, if_neg hk]; exact ⟨rfl, r1, flR_put r h2⟩
theorem flR_len {F : Hp} : ∀ {fs : List (Fld G)} {us : List (Str × V)}, FlR F fs us → us.length = fs.length
  | [], [], _ => rfl
  | [], _ :: _, h => h.elim
  | _ :: _, [], h => h.elim
  | _ :: _, _ :: _, h => congrArg (· + 1) (flR_len h.2.2)
section
variable {α β γ ω ρ τ : Type} [iα : Rp G α] [iβ : Rp G β] [iρ : Rp G ρ] {N : NN} {Γ Γ' : Env G} {te ta tb : TE} {t : TA} {tt tu : TT} {tz ts : TS}
variable {i : Nat} {C : Addr} {fs : List (Fld G)} {w : Option Addr} {n : Str}
theorem ev_fld {a : α} {n' : Str} (hi : Γ[i]? = some (.ins C fs w)) (hf : fs.find? (fun f => n == f.n) = some (Fld.mk (i := iα) n' a)) (c : Cls G.K C) (na : NoAttr G.K C n) : EV N Γ (tFld G.K (tVar i) n) (.ok a) := fun σ F H hs Q q => by
  obtain ⟨p, dx, us, e0, m, hp, d, _⟩ := hs.insAt hi
  obtain ⟨v, hv, r⟩ := flR_get d hf
  exact ⟨.ref p, e0, p, C, dx, us, v, rfl, hp, c, na, hv, q v F H hs (Same.refl F) r⟩
theorem sv_fld {m : Prog α} {J : Aim ω} {k : α → Prog ω} (hO : ∀ a, N.O a = none) (hi : Γ[i]? = some (.ins C fs w)) (c : Cls G.K C) (na : NoAttr G.K C n) (hz : fs.length < 1000) (h : EV N Γ te m)
    (hk : ∀ a, SV N (Γ.set i (.ins C (putFl (Fld.mk (i := iα) n a) fs) w)) tz J (k a)) : SV N Γ (tSeq (sFld G.K (tVar i) te n) tz) J (m >>= k) := fun σ F H D hs q =>
  h σ F H hs _ (wp_mono (wp_bind.1 q) fun a q1 v F1 H1 hs1 e1 r1 => by
    obtain ⟨p, dx, us, e0, m, hp, d, _⟩ := hs1.insAt hi
    refine ⟨.ref p, e0, p, C, dx, us, rfl, hp, c, na, by rw [flR_len d]; exact hz, ?_⟩
    exact hk a σ F1 _ D (hs1.putI hO hi e0 (flR_put (f := Fld.mk (i := iα) n a) r1 d)) (wp_mono q1 fun o x => J.mono e1 x))
theorem sv_fldaug {a : Int} {n' : Str} {m : Prog Int} {J : Aim ω} {k : Int → Prog ω} (hO : ∀ a, N.O a = none) (hi : Γ[i]? = some (.ins C fs w)) (hf : fs.find? (fun f => n == f.n) = some (Fld.mk (i := (rpEnc : Rp G Int)) n' a)) (c : Cls G.K C) (na : NoAttr G.K C n) (hz : fs.length < 1000) (h : EV N Γ te m)
    (hk : ∀ b, SV N (Γ.set i (.ins C (putFl (Fld.mk (i := (rpEnc : Rp G Int)) n (a + b)) fs) w)) tz J (k b)) : SV N Γ (tSeq (sFldAug G.K (tVar i) te rAdd n) tz) J (m >>= k) := fun σ F H D hs q => by
  obtain ⟨p, dx, us, e0, m0, hp, d, _⟩ := hs.insAt hi
  obtain ⟨v, hv, r⟩ := flR_get d hf
  refine ⟨.ref p, e0, p, C, dx, us, v, rfl, hp, c, na, hv, h σ F H hs _ (wp_mono (wp_bind.1 q) fun b q1 y F1 H1 hs1 e1 r1 => ?_)⟩
  obtain ⟨p', dx', us', e0', m', hp', d', _⟩ := hs1.insAt hi
  rw [e0] at e0'
  cases e0'
  refine ⟨a, b, Scl.dp (α := Int) r, Scl.dp (α := Int) r1, dx', us', hp', by rw [flR_len d']; exact hz, ?_⟩
  exact hk b σ F1 _ D (hs1.putI hO hi e0 (flR_put (f := Fld.mk (i := (rpEnc : Rp G Int)) n (a + b)) (Dq.int (a + b)) d')) (wp_mono q1 fun o x => J.mono e1 x)
/-! calls that change an owned instance -/
def NN.slf (F H : Hp) (p : Addr) (E : XK) : NN := ⟨F, H, fun a => a = p, none, E, fun _ => none⟩
def SpI (G : Glob) {ρ τ R0 R : Type} [Rp G ρ] (C : Addr) (fl0 : R0 → List (Fld G)) (fl : R → List (Fld G)) (ra : τ → List V → Hp → Prop) (f : R0 → τ → Prog (ρ × R)) : Sp := fun vs H Q E => ∃ a us F dx fs r x, vs = .ref a :: us ∧ F a = none ∧ H a = some (.ins C dx fs) ∧ FlR F (fl0 r) fs ∧ Same F H ∧ ra x us F ∧
  wp (f r x) (fun q => ∀ v F' H' dx' fs', W (.slf F H a E) F' H' → Rp.rp (G := G) q.1 v F' → F' a = none → H' a = some (.ins C dx' fs') → FlR F' (fl q.2) fs' → Q v H') (EP G (.slf F H a E))
/-- an expression that changes what the frame owns -/
def EVX {ξ : Type} (N : NN) (Γ : Env G) (te : TE) (m : Prog (α × ξ)) (Γx : ξ → Env G) : Prop := ∀ σ F H, HS N Γ σ F H → ∀ Q : VK, wp m (fun x => ∀ v F' H', HS N (Γx x.2) σ F' H' → Same F F' → iα.rp x.1 v F' → Q v H') (EP G N) → te σ H Q
theorem W.slf {σ : L2.St} {F H F' H' : Hp} {p : Addr} {E : XK} (hs : HS N Γ σ F H) (hO : ∀ a, N.O a = none) (m : MineI N F p) (w : W (.slf F H p E) F' H') : W N F' H' := by
  have kp : ∀ a o, a ≠ p → H a = some o → H' a = some o := fun a o n h => w.kp a o n h
  refine ⟨w.fh, Same.trans hs.w.f0 w.f0, fun a u z => ?_, fun a u nb h0 => ?_, fun a z => hs.w.dm a (w.dm a z), fun q c z => ?_, hs.w.sb, fun a u z => by rw [hO] at z; cases z⟩
  · rcases w.nw a u z with x | x
    · exact hs.w.nw a u x
    · exact .inr (hs.w.dm a x)
  · refine kp a u (fun z => ?_) (hs.w.kp a u nb h0)
    subst z
    rcases m.h0 with x | x
    · rw [x] at h0; cases h0
    · exact nb x
  · have s := hs.w.sr q c z
    obtain ⟨st, ix, cs, h1, h2, r⟩ := s.at_
    have x := m.s q c z
    have fr : ∀ q o, F q = none → H q = some o → F' q = none := fun q o f h => by
      cases z : F' q with
      | none => rfl
      | some u =>
        rcases w.nw q u z with x | x
        · rw [show F q = some u from x] at f; cases f
        · rw [show H q = none from x] at h; cases h
    exact ⟨fr q _ s.fp h1, fr c _ s.fc h2, s.ne, st, ix, cs, kp q _ (Ne.symm x.1) h1, kp c _ (Ne.symm x.2) h2, r⟩
/-- behind a call that changed the object at p -/
theorem HS.callI {σ : L2.St} {F H F' H' : Hp} {p : Addr} {u u' : HO} {E : XK} (hs : HS N Γ σ F H) (hO : ∀ a, N.O a = none) (m : MineI N F p) (hp : H p = some u) (nh : ¬ Held Γ σ p) (w : W (.slf F H p E) F' H') (fp : F' p = none) (hp' : H' p = some u') : HS N Γ σ F' H' ∧ Same F F' ∧ MineI N F' p := by
  have w2 : W (.of F H E) F' (upd H' p u) := by
    refine ⟨fun a o e => ?_, w.f0, w.nw, fun a o _ e => ?_, fun a e => ?_, fun q c e => (nomatch e), fun q c e => (nomatch e), fun a o e => (nomatch e)⟩
    · rw [upd_ne (ne_of_none e fp)]; exact w.fh a o e
    · by_cases ha : a = p
      · subst ha; rw [upd_same]; exact hp.symm.trans e
      · rw [upd_ne ha]; exact w.kp a o ha e
    · by_cases ha : a = p
      · subst ha; rw [upd_same] at e; cases e
      · rw [upd_ne ha] at e; exact w.dm a e
  obtain ⟨h1, e1⟩ := hs.call noB w2
  have h2 := h1.write (u := u') hO ⟨fp, m.h0, m.s⟩ nh
  have e2 : upd (upd H' p u) p u' = H' := by
    funext a
    by_cases ha : a = p
    · subst ha; rw [upd_same, hp']
    · rw [upd_ne ha, upd_ne ha]
  rw [e2] at h2
  exact ⟨h2, e1, fp, m.h0, m.s⟩
theorem ep_slf {σ : L2.St} {F1 H1 : Hp} {p : Addr} (hs : HS N Γ σ F1 H1) (hO : ∀ a, N.O a = none) (m : MineI N F1 p) (e : Exc) (h : EP G N e) : EP G (.slf F1 H1 p N.E) e := fun F' H' C d w r => h F' H' C d (W.slf hs hO m w) r
theorem evx_meth {R : Type} {fl : R → List (Fld G)} {ra : τ → List V → Hp → Prop} {f : R → τ → Prog (ρ × R)} {m : Prog τ} {r : R} {mn : Str} (hO : ∀ a, N.O a = none) (hi : Γ[i]? = some (.ins C (fl r) w)) (hm : (fl r).find? (fun f => mn == f.n) = none) (h : EVA N Γ t m ra) :
    EVX N Γ (tMeth C mn (SpI G C fl fl ra f) [] N.E (tVar i) t) (m >>= fun x => f r x) (fun r' => Γ.set i (.ins C (fl r') w)) := fun σ F H hs Q q => by
  obtain ⟨p, dx, us, e0, m0, hp, d, hw, _⟩ := hs.insAt hi
  refine ⟨.ref p, e0, p, dx, us, rfl, hp, flR_none d hm, h σ F H hs _ (wp_mono (wp_bind.1 q) fun x q1 vs F1 H1 hs1 e1 r1 => ?_)⟩
  obtain ⟨p', dx', us', e0', m1, hp1, d1, hw1, _⟩ := hs1.insAt hi
  rw [e0] at e0'
  cases e0'
  refine ⟨p, vs, F1, dx', us', r, x, by rw [List.append_nil], m1.f, hp1, d1, hs1.w.fh, r1, wp_imp q1 (fun r' k v F' H' dx2 us2 w2 rr fp hp2 d2 => ?_) fun e he => ep_slf hs1 hO m1 e he⟩
  obtain ⟨h2, e2, m2⟩ := (hs1.dead i).callI hO m1 hp1 (hs1.notHeld hi rfl e0) w2 fp hp2
  have h3 := h2.own (e := .ins C (fl r'.2) w) i (hs1.notHeld hi rfl e0) ⟨p, dx2, us2, rfl, m2, hp2, d2, hw⟩
  rw [List.set_set, set_id e0] at h3
  exact k v F' H' h3 (Same.trans e1 e2) rr
theorem sv_dropX {ξ : Type} {m : Prog (α × ξ)} {Γx : ξ → Env G} {J : Aim ω} {k : α × ξ → Prog ω} (h : EVX N Γ te m Γx) (hk : ∀ y, SV N (Γx y.2) tz J (k y)) : SV N Γ (tSeq (tDrop te) tz) J (m >>= k) := fun σ F H D hs q =>
  h σ F H hs _ (wp_mono (wp_bind.1 q) fun a q1 v F1 H1 hs1 e1 r1 => hk a _ F1 H1 D hs1 (wp_mono q1 fun o x => J.mono e1 x))
theorem sv_asgX {ξ : Type} {j : Nat} {m : Prog (α × ξ)} {Γx : ξ → Env G} {J : Aim ω} {k : α × ξ → Prog ω} (h : EVX N Γ te m Γx) (hk : ∀ y, SV N ((Γx y.2).set j (.per y.1)) tz J (k y)) : SV N Γ (tSeq (tAsg te (gName j)) tz) J (m >>= k) := fun σ F H D hs q =>
  h σ F H hs _ (wp_mono (wp_bind.1 q) fun a q1 v F1 H1 hs1 e1 r1 => hk a _ F1 H1 D (hs1.setPer j r1) (wp_mono q1 fun o x => J.mono e1 x))
/-! the defs of such a class -/
def JRI (G : Glob) {ρ R : Type} [Rp G ρ] (N : NN) (a C : Addr) (fl : R → List (Fld G)) : Aim (ρ × R) := ⟨fun _ r D => ∀ v F' H' dx us, W N F' H' → Rp.rp (G := G) r.1 v F' → F' a = none → H' a = some (.ins C dx us) → FlR F' (fl r.2) us → D.rt v H', fun _ h => h⟩
def JVI (G : Glob) {R : Type} (N : NN) (a C : Addr) (fl : R → List (Fld G)) : Aim (Unit × R) := ⟨fun _ r D => ∀ F' H' dx us, W N F' H' → F' a = none → H' a = some (.ins C dx us) → FlR F' (fl r.2) us → D.rt .non H' ∧ ∀ σ', D.nx σ' H', fun _ h => h⟩
theorem jri_ret {R : Type} {a C : Addr} {fl : R → List (Fld G)} : (JRI (ρ := ρ) G N a C fl).Ret := fun F r D D' e h v F' H' dx us x1 x2 x3 x4 x5 => e ▸ h v F' H' dx us x1 x2 x3 x4 x5
theorem sv_retI {R : Type} {a : Addr} {fl : R → List (Fld G)} {r : R} {m : Prog ρ} (hi : Γ[i]? = some (.ins C (fl r) (some a))) (h : EV N Γ te m) : SV N Γ (tSeq (tRet te) tz) (JRI G N a C fl) (m >>= fun x => .ok (x, r)) := fun σ F H D hs q =>
  h σ F H hs _ (wp_mono (wp_bind.1 q) fun x k v F1 H1 hs1 e1 r1 => by
    obtain ⟨p, dx, us, e0, m0, hp, d, hw, _⟩ := hs1.insAt hi
    have := hw a rfl
    subst this
    exact k v F1 H1 dx us hs1.w r1 m0.f hp d)
theorem sv_endI {R : Type} {a : Addr} {fl : R → List (Fld G)} {r : R} (hi : Γ[i]? = some (.ins C (fl r) (some a))) : SV N Γ tNext (JVI G N a C fl) (.ok ((), r)) := fun σ F H D hs q => by
  obtain ⟨p, dx, us, e0, m0, hp, d, hw, _⟩ := hs.insAt hi
  have := hw a rfl
  subst this
  exact (q F H dx us hs.w m0.f hp d).2 σ
theorem hs_startI {Γ0 : Env G} {Ns : List Str} {F H : Hp} {vs : List V} {E : XK} {p : Addr} (e : Same F H) (h : ∀ N : NN, MineI N F p → N.F0 = F → N.H0 = H → (∀ a, N.B a → a = p) → N.S = none → Slots N F H Γ0 (start Ns vs)) (fp : F p = none) (nown : ∀ (j : Nat) (e : Ent G), Γ0[j]? = some e → e.own = true → j = 0) : HS (.slf F H p E) Γ0 (start Ns vs) F H :=
  ⟨⟨e, Same.refl F, fun a o h => .inl h, fun a o _ h => h, fun a h => h, fun p c h => (nomatch h), fun p c h => (nomatch h), fun a o h => (nomatch h)⟩, h _ ⟨fp, .inr rfl, fun q c h => (nomatch h)⟩ rfl rfl (fun _ h => h) rfl, fun i j e e' p h1 h2 o1 o2 _ _ => by rw [nown i e h1 o1, nown j e' h2 o2]⟩
end
section
variable {P : Program} {w : World} {mg : Str → Option Value} {base : Heap} {ρ τ : Type} [iρ : Rp G ρ]
theorem fn_okI {R0 R : Type} {fl0 : R0 → List (Fld G)} {fl : R → List (Fld G)} {C : Addr} {x qual : Str} {st : Stmt} {f : Addr} {fd : FuncData} {Ns ps : List Str} {k : Nat} {ra : τ → List V → Hp → Prop} {g : R0 → τ → Prog (ρ × R)} (Fu : Fun G.K x qual st f fd) (S : FnScope Ns ps (defScope st)) (Γ0 : R0 → τ → Addr → Env G)
    (len : ∀ a vs F, ra a vs F → vs.length + 1 = ps.length) (h0 : ∀ r (a : τ) vs F H (N : NN) p dx us, MineI N F p → H p = some (.ins C dx us) → FlR F (fl0 r) us → ra a vs F → Slots N F H (Γ0 r a p) (start Ns (.ref p :: vs))) (nown : ∀ r (x : τ) p (j : Nat) e, (Γ0 r x p)[j]? = some e → e.own = true → j = 0)
    (hbody : ∀ (cdv : Value) (A : Around) (outer : List PySem.Env) (s : Shared) (H F : Hp) (p : Addr) (E : XK), Room k (A.deeper (envOfC qual (defScope st) s.heap.objs.size f cdv)) →
      ∃ t, PSs (cxOf (L2.CX P w) P w G.K mg base Ns qual (defScope st) f cdv A outer s H E) (defBody st) t ∧ ∀ r (a : τ), SV (.slf F H p E) (Γ0 r a p) t (JRI G (.slf F H p E) p C fl) (g r a)) : FnOk P w G.K mg base (L2.CX P w) (k + 1) f fd ps (SpI G C fl0 fl ra g) :=
  Fu.okX S (fun vs H Q E ⟨p, us, F, dx, fs, r, a, e1, _, _, _, _, h, _⟩ => by rw [e1]; exact len a us F h) fun cdv A outer s H vs Q E hr ⟨p, us, F, dx, fs, r, a, e1, fp, hp, d, e, h, q⟩ => by
    subst e1
    obtain ⟨t, hP, hv⟩ := hbody cdv A outer s H F p E hr
    exact ⟨t, hP, hv r a _ F H _ (hs_startI e (fun N m _ _ _ _ => h0 r a us F H N p dx fs m hp d h) fp (nown r a p)) (wp_mono q fun r k v F' H' dx' us' w1 w2 w3 w4 w5 => k v F' H' dx' us' w1 w2 w3 w4 w5)⟩
theorem fn_okIV {R0 R : Type} {fl0 : R0 → List (Fld G)} {fl : R → List (Fld G)} {C : Addr} {x qual : Str} {st : Stmt} {f : Addr} {fd : FuncData} {Ns ps : List Str} {k : Nat} {ra : τ → List V → Hp → Prop} {g : R0 → τ → Prog (Unit × R)} (Fu : Fun G.K x qual st f fd) (S : FnScope Ns ps (defScope st)) (Γ0 : R0 → τ → Addr → Env G)
    (len : ∀ a vs F, ra a vs F → vs.length + 1 = ps.length) (h0 : ∀ r (a : τ) vs F H (N : NN) p dx us, MineI N F p → H p = some (.ins C dx us) → FlR F (fl0 r) us → ra a vs F → Slots N F H (Γ0 r a p) (start Ns (.ref p :: vs))) (nown : ∀ r (x : τ) p (j : Nat) e, (Γ0 r x p)[j]? = some e → e.own = true → j = 0)
    (hbody : ∀ (cdv : Value) (A : Around) (outer : List PySem.Env) (s : Shared) (H F : Hp) (p : Addr) (E : XK), Room k (A.deeper (envOfC qual (defScope st) s.heap.objs.size f cdv)) →
      ∃ t, PSs (cxOf (L2.CX P w) P w G.K mg base Ns qual (defScope st) f cdv A outer s H E) (defBody st) t ∧ ∀ r (a : τ), SV (.slf F H p E) (Γ0 r a p) t (JVI G (.slf F H p E) p C fl) (g r a)) : FnOk P w G.K mg base (L2.CX P w) (k + 1) f fd ps (SpI G C fl0 fl ra g) :=
  Fu.okX S (fun vs H Q E ⟨p, us, F, dx, fs, r, a, e1, _, _, _, _, h, _⟩ => by rw [e1]; exact len a us F h) fun cdv A outer s H vs Q E hr ⟨p, us, F, dx, fs, r, a, e1, fp, hp, d, e, h, q⟩ => by
    subst e1
    obtain ⟨t, hP, hv⟩ := hbody cdv A outer s H F p E hr
    exact ⟨t, hP, hv r a _ F H _ (hs_startI e (fun N m _ _ _ _ => h0 r a us F H N p dx fs m hp d h) fp (nown r a p)) (wp_mono q fun r k F' H' dx' us' w1 w3 w4 w5 => ⟨k .non F' H' dx' us' w1 .non w3 w4 w5, fun _ => k .non F' H' dx' us' w1 .non w3 w4 w5⟩)⟩
end
/-! a new instance -/
section
variable {ω τ : Type} {N : NN} {Γ : Env G} {t : TA} {tz : TS}
theorem hs_newO {σ : L2.St} {F H : Hp} (hs : HS N Γ σ F H) {p : Addr} {u : HO} (hp : H p = none) : HS N Γ σ F (upd H p u) ∧ NewAt N Γ σ F p := by
  obtain ⟨_, n⟩ := hs_newlist (vs := []) hs hp
  refine ⟨hs.move ⟨fun a u e => ?_, hs.w.f0, hs.w.nw, fun a u nb e => ?_, fun a e => ?_, fun q c e => ?_, hs.w.sb, fun a u e => ?_⟩ (Same.refl F) (fun q ws hl e => ?_) fun q hl => (hs.held hl).1.f, n⟩
  · rw [upd_ne (ne_of_none e n.mine.f)]; exact hs.w.fh a u e
  · have x := hs.w.kp a u nb e
    rw [upd_ne (ne_of_none x hp)]; exact x
  · by_cases ha : a = p
    · subst ha; rw [upd_same] at e; cases e
    · rw [upd_ne ha] at e; exact hs.w.dm a e
  · have s := hs.w.sr q c e
    obtain ⟨st, ix, cs, h1, h2, r⟩ := s.at_
    exact ⟨s.fp, s.fc, s.ne, st, ix, cs, by rw [upd_ne (ne_of_none h1 hp)]; exact h1, by rw [upd_ne (ne_of_none h2 hp)]; exact h2, r⟩
  · have x := hs.w.os a u e
    exact ⟨⟨by rw [upd_ne (ne_of_none x.1.1 hp)]; exact x.1.1, x.1.2⟩, x.2⟩
  · rw [upd_ne (ne_of_none e hp)]; exact e
theorem sv_make {R : Type} {fl : R → List (Fld G)} {C : Addr} {ra : τ → List V → Hp → Prop} {f : Unit → τ → Prog (Unit × R)} {m : Prog τ} {j : Nat} {J : Aim ω} {k : Unit × R → Prog ω} (hO : ∀ a, N.O a = none) (h : EVA N Γ t m ra) (hk : ∀ r, SV N (Γ.set j (.ins C (fl r.2) none)) tz J (k r)) :
    SV N Γ (tSeq (tAsg (tMake C (SpI G C (fun _ : Unit => []) fl ra f) [] N.E t) (gName j)) tz) J (m >>= fun x => f () x >>= k) := fun σ F H D hs q =>
  h σ F H hs _ (wp_mono (wp_bind.1 q) fun x q1 vs F1 H1 hs1 e1 r1 => fun p dx hp hdx ne => by
    have hs2 := (hs_newO (u := .own p) hs1 hdx).1
    obtain ⟨hs3, n3⟩ := hs_newO (u := .ins C dx []) hs2 (p := p) (by rw [upd_ne (Ne.symm ne)]; exact hp)
    refine ⟨p, vs, F1, dx, [], (), x, by rw [List.append_nil], n3.mine.f, upd_same, trivial, hs3.w.fh, r1, wp_imp (wp_bind.1 q1) (fun r k2 v F' H' dx2 us2 w2 rr fp hp2 d2 => ?_) fun e he => ep_slf hs3 hO n3.mine.weak e he⟩
    obtain ⟨h2, e2, m2⟩ := hs3.callI hO n3.mine.weak upd_same n3.nh w2 fp hp2
    refine ⟨?_, ?_⟩
    · have rr' : Dq G.K F' v .none := rr
      cases rr'
      rfl
    · exact hk r _ F' H' D (h2.own (e := .ins C (fl r.2) none) j n3.nh ⟨p, dx2, us2, rfl, m2, hp2, d2, fun q z => by cases z⟩) (wp_mono k2 fun o x => J.mono (Same.trans e1 e2) x))
end
end Ty

namespace Ty
open PySem PySem.Spec PyProof.Rows L2
open Enc (enc)
variable {G : Glob}
section
variable {α β γ ω ρ τ : Type} [iα : Rp G α] [iβ : Rp G β] [iρ : Rp G ρ] {N : NN} {Γ Γ' : Env G} {te ta tb : TE} {t : TA} {tt tu : TT} {tz ts : TS}
variable {i l : Nat} {C : Addr} {fs : List (Fld G)} {w : Option Addr} {n : Str}
/-! texts and ints -/
def intS (s : Tx) : Prog Int := match PySem.intText? (sx s) with
  | some n => if s.length ≤ 640 then .ok n else .stuck
  | none => .stuck
theorem intS_wp {s : Tx} {P : Int → Prop} {E : Exc → Prop} (h : wp (intS s) P E) : ∃ n, PySem.intText? (sx s) = some n ∧ (sx s).length ≤ 640 ∧ P n := by
  unfold intS at h
  split at h
  · rename_i n hn
    split at h
    · exact ⟨n, hn, by simpa [Str.length, sx] using ‹s.length ≤ 640›, h⟩
    · exact h.elim
  · exact h.elim
theorem evx_intS {ξ : Type} {m : Prog (Tx × ξ)} {Γx : ξ → Env G} (h : EVX N Γ te m Γx) : EVX N Γ (tCB (fun xs H Q => ∃ a n, xs = [.str a] ∧ PySem.intText? a = some n ∧ a.length ≤ 640 ∧ Q (.int n) H) (tCons te tNil)) (m >>= fun x => intS x.1 >>= fun n => .ok (n, x.2)) Γx := fun σ F H hs Q q =>
  h σ F H hs _ (wp_mono (wp_bind.1 q) fun x q1 v F1 H1 hs1 e1 r1 => by
    obtain ⟨n, h1, h2, q2⟩ := intS_wp (wp_bind.1 q1)
    exact ⟨sx x.1, n, by rw [Scl.dp (α := Tx) r1]; rfl, h1, h2, q2 _ F1 H1 hs1 e1 (Dq.int n)⟩)
theorem ev_intS {m : Prog Tx} (h : EV N Γ te m) : EV N Γ (tCB (fun xs H Q => ∃ a n, xs = [.str a] ∧ PySem.intText? a = some n ∧ a.length ≤ 640 ∧ Q (.int n) H) (tCons te tNil)) (m >>= intS) := fun σ F H hs Q q =>
  h σ F H hs _ (wp_mono (wp_bind.1 q) fun x q1 v F1 H1 hs1 e1 r1 => by
    obtain ⟨n, h1, h2, q2⟩ := intS_wp q1
    exact ⟨sx x, n, by rw [Scl.dp (α := Tx) r1]; rfl, h1, h2, q2 _ F1 H1 hs1 e1 (Dq.int n)⟩)
def strI (i : Int) : Prog Tx := if i.natAbs.log2 < 1920 then .ok ((toString i : Str).cps.toList) else .stuck
theorem strI_wp {i : Int} {P : Tx → Prop} {E : Exc → Prop} (h : wp (strI i) P E) : i.natAbs.log2 < 1920 ∧ P ((toString i : Str).cps.toList) := by
  unfold strI at h
  split at h
  · exact ⟨‹_›, h⟩
  · exact h.elim
theorem ev_strI {m : Prog Int} (h : EV N Γ te m) : EV N Γ (tCB (fun xs H Q => ∃ i, xs = [.int i] ∧ i.natAbs.log2 < 1920 ∧ Q (.str (toString i)) H) (tCons te tNil)) (m >>= strI) := fun σ F H hs Q q =>
  h σ F H hs _ (wp_mono (wp_bind.1 q) fun x q1 v F1 H1 hs1 e1 r1 => by
    obtain ⟨h1, q2⟩ := strI_wp q1
    exact ⟨x, by rw [Scl.dp (α := Int) r1]; rfl, h1, q2 _ F1 H1 hs1 e1 (.str _)⟩)
theorem ev_fmtI {m : Prog Int} (h : EV N Γ te m) : EV N Γ (tFmt te) (m >>= strI) := fun σ F H hs Q q =>
  h σ F H hs _ (wp_mono (wp_bind.1 q) fun x q1 v F1 H1 hs1 e1 r1 => by
    obtain ⟨h1, q2⟩ := strI_wp q1
    exact .inr ⟨x, Scl.dp (α := Int) r1, h1, q2 _ F1 H1 hs1 e1 (.str _)⟩)
theorem sx_app (a b : Tx) : (sx a ++ sx b : Str) = sx (a ++ b) := by
  show (⟨a.toArray ++ b.toArray⟩ : Str) = _
  simp [sx]
theorem ev_fstr2 {m1 m2 : Prog Tx} (h1 : EV N Γ ta m1) (h2 : EV N Γ tb m2) : EV N Γ (fun σ H Q => tJs [ta, tb] Str.empty σ H fun out H1 => Q (.str out) H1) (m1 >>= fun a => chk (small a.length) (m2 >>= fun b => chk (small (a.length + b.length)) (.ok (a ++ b)))) := fun σ F H hs Q q =>
  h1 σ F H hs _ (wp_mono (wp_bind.1 q) fun a q1 v F1 H1 hs1 e1 r1 => by
    obtain ⟨ha, q1⟩ := wp_chk q1
    refine ⟨sx a, Scl.dp (α := Tx) r1, ?_, h2 σ F1 H1 hs1 _ (wp_mono (wp_bind.1 q1) fun b q2 u F2 H2 hs2 e2 r2 => ?_)⟩
    · have : (Str.empty ++ sx a : Str) = sx ([] ++ a) := sx_app [] a
      rw [this]
      have h3 : (sx ([] ++ a)).length = a.length := by simp [Str.length, sx]
      rw [h3]; exact small_le ha
    · obtain ⟨hl, q2⟩ := wp_chk q2
      have e0 : (Str.empty ++ sx a : Str) = sx a := sx_app [] a
      refine ⟨sx b, Scl.dp (α := Tx) r2, ?_, ?_⟩
      · rw [e0, sx_app]
        have h3 : (sx (a ++ b)).length = a.length + b.length := by simp [Str.length, sx]
        rw [h3]; exact small_le hl
      · show Q (.str (Str.empty ++ sx a ++ sx b)) H2
        rw [e0, sx_app]
        exact q2 _ F2 H2 hs2 (Same.trans e1 e2) (.str _))
/-! split -/
theorem sx_cps (x : Str) : sx x.cps.toList = x := by
  cases x; simp [sx]
theorem dq_strs {K : PySem.W.Frag} {F : Hp} : ∀ ys : List Str, DqAll K F (ys.map V.str) ((ys.map fun x => x.cps.toList).map (enc : Tx → PyData))
  | [] => .nil
  | y :: ys => .cons (by
      have e : (enc (y.cps.toList) : PyData) = .str y := congrArg PyData.str (sx_cps y)
      show Dq K F (.str y) (enc (y.cps.toList))
      rw [e]
      exact .str y) (dq_strs ys)
def splitT (s b : Tx) : List Tx := (Txt.split (sx s) (sx b)).map fun x => x.cps.toList
theorem evn_split {m1 m2 : Prog Tx} (h1 : EV N Γ ta m1) (h2 : EV N Γ tb m2) : EVN N Γ (tM1 (fun x xs H Q => ∃ a b, x = .str a ∧ xs = [.str b] ∧ (b.length == 0) = false ∧ a.length + 2 ≤ sizeLine ∧ rNewStrs (Txt.split a b) H Q) ta tb)
    (m1 >>= fun a => m2 >>= fun b => chk (small (a.length + 2) && !b.isEmpty) (.ok (splitT a b : L Tx))) := fun σ F H hs Q q =>
  h1 σ F H hs _ (wp_mono (wp_bind.1 q) fun a q1 v F1 H1 hs1 e1 r1 => by
    have ea : v = .str (sx a) := Scl.dp (α := Tx) r1
    refine ⟨⟨_, ea⟩, h2 σ F1 H1 hs1 _ (wp_mono (wp_bind.1 q1) fun b q2 u F2 H2 hs2 e2 r2 => ?_)⟩
    obtain ⟨hl, q2⟩ := wp_chk q2
    obtain ⟨hl1, hl2⟩ := Bool.and_eq_true_iff.1 hl
    have eb : u = .str (sx b) := Scl.dp (α := Tx) r2
    refine ⟨sx a, sx b, ea, by rw [eb], ?_, ?_, fun p hp => ?_⟩
    · cases b with
      | nil => simp at hl2
      | cons c b => simp [Str.length, sx]
    · have := small_le hl1
      simpa [Str.length, sx] using this
    · obtain ⟨hs3, n⟩ := hs_newlist (vs := (Txt.split (sx a) (sx b)).map V.str) hs2 hp
      exact q2 p _ _ _ hs3 (Same.trans e1 e2) n upd_same (dq_strs _))
/-! enumerate(list) -/
theorem evi_enumL {α : Type} [Enc α] {m : Prog (L α)} (h : EV N Γ te m) : EVI (α := Int × α) N Γ (iEnum G.K (tCons te tNil)) (m >>= fun xs => .ok (enumT (un xs))) anyE := fun σ F H hs R q =>
  h σ F H hs _ (wp_mono (wp_bind.1 q) fun (xs : List α) k x F1 H1 hs1 e1 r1 => by
    have hd : Dq G.K F1 x (.list (xs.map enc)) := r1
    cases hd with
    | lst hq0 ha =>
      have hq := Rd.of hq0
      refine ⟨_, _, rfl, sql_same hs1.w.fh (.inl hq), k F1 H1 _ hs1 e1 fun N1 Γ' _ => ⟨fun i σ F' H' hs' e' hi => ?_, fun i a σ F' H' x H2 hs' e' hx y => ?_, fun i σ F' H' hs' e' hi => ?_⟩⟩
      · rw [enumT_len] at hi
        obtain ⟨v, hv, _⟩ := dpAll_at ha (List.getElem?_eq_getElem hi)
        exact ⟨_, v, sql_same (Same.trans e' hs'.w.fh) (.inl hq), hv⟩
      · rw [enumT_get] at hx
        cases hc : (un xs)[i]? with
        | none => rw [hc] at hx; cases hx
        | some c =>
          rw [hc] at hx
          have hx' : ((i : Int), c) = a := Option.some.inj hx
          subst hx'
          obtain ⟨v, hv, d⟩ := dpAll_at ha hc
          obtain ⟨T, w, e1, e2, e3, y⟩ := y
          have e4 : w = v := Option.some.inj ((y _ (sql_same (Same.trans e' hs'.w.fh) (.inl hq))).symm.trans hv)
          subst e1 e4
          have fT : F' T = none := Same.free hs'.w.fh e2
          exact .inr ⟨T, _, e2, e3, .tup (.inl (.inl upd_same)) (.cons (.int _) (.cons (dp_same (Same.trans e' (same_new fT)) _ _ d) .nil))⟩
      · rw [enumT_len] at hi
        exact ⟨_, sql_same (Same.trans e' hs'.w.fh) (.inl hq), by rw [dpAll_len ha]; exact hi⟩)
/-! an append of what a changing call yields -/
theorem sv_appendX {α ξ : Type} [Enc α] {i : Nat} {xs : List α} {m : Prog (α × ξ)} {Γx : ξ → Env G} {J : Aim ω} {k : α × ξ → Prog ω} (hO : ∀ a, N.O a = none) (hi : Γ[i]? = some (.lst xs)) (hx : ∀ x, (Γx x)[i]? = some (.lst xs)) (h : EVX N Γ te m Γx)
    (hk : ∀ y, SV N ((Γx y.2).set i (.lst (xs ++ [y.1]))) tz J (k y)) :
    SV N Γ (tSeq (tDrop (tBM G.K "list" rAppend (tVar i) (tCons te tNil))) tz) J (m >>= fun x => chk (small xs.length) (k x)) := fun σ F H D hs q => by
  obtain ⟨p, vs, e0, m0, hp, d, hl⟩ := hs.lstAt hi
  refine ⟨.ref p, e0, .inl ⟨rfl, vs, .inl (.inl hp)⟩, h σ F H hs _ (wp_mono (wp_bind.1 q) fun a q1 v F1 H1 hs1 e1 r1 => ?_)⟩
  obtain ⟨hz, q1⟩ := wp_chk q1
  obtain ⟨p', vs', e0', m0', hp', d', _⟩ := hs1.lstAt (hx a.2)
  rw [e0] at e0'
  cases e0'
  refine ⟨p, vs', v, rfl, rfl, hp', by rw [dpAll_len d']; exact small_lt hz, ?_⟩
  exact hk a σ F1 _ D (hs1.put hO (hx a.2) e0 (by rw [List.map_append]; exact dpAll_append d' (.cons r1 .nil))) (wp_mono q1 fun o x => J.mono e1 x)
/-! a list of the caller, only read -/
theorem HS.borAt {β : Type} [Enc β] {σ : L2.St} {F H : Hp} {xs : List β} (hs : HS N Γ σ F H) (hi : Γ[i]? = some (.bor xs)) : ∃ q vs, σ[i]? = some (some (.ref q)) ∧ H q = some (.lst vs) ∧ DqAll G.K F vs (xs.map enc) := by
  obtain ⟨o, e0, q, vs, e1, h1, h2, h3, h4, d⟩ := hs.sl.get hi
  subst e1
  exact ⟨q, vs, e0, hs.w.kp q _ h3 h2, d⟩
theorem ev_inB {β : Type} [Enc β] [Scl β] [DecidableEq β] {xs : List β} {m : Prog β} (hi : Γ[i]? = some (.bor xs)) (h : EV N Γ te m) : EV N Γ (tOp (rIn G.K false) te (tVar i)) (m >>= fun a => .ok (memB a xs)) := fun σ F H hs Q q =>
  h σ F H hs _ (wp_mono (wp_bind.1 q) fun a q1 v F1 H1 hs1 e1 r1 => by
    obtain ⟨p, vs, e0, hp, d⟩ := hs1.borAt hi
    have e2 : v = Scl.tv a := Scl.dp r1
    have e3 := dpAll_scl d
    subst e2 e3
    exact ⟨.ref p, e0, p, _, rfl, .inl (.inl (.inl hp)), Scl.fl a, all_flat xs, Eq.mpr (congrArg (fun b => Q (.bl b) H1) (inV_scl a xs)) (q1 _ F1 H1 hs1 e1 (.bl _))⟩)
def SpIB (G : Glob) {ρ R β : Type} (α : Type) [Rp G ρ] [Rp G α] [Enc β] (C : Addr) (fl : R → List (Fld G)) (f : R → α → List β → Prog (ρ × R)) : Sp := fun vs H Q E => ∃ a v q ws F dx fs r x xs, vs = [.ref a, v, .ref q] ∧ F a = none ∧ H a = some (.ins C dx fs) ∧ FlR F (fl r) fs ∧ Same F H ∧ Rp.rp (G := G) x v F ∧
  F q = none ∧ H q = some (.lst ws) ∧ q ≠ a ∧ DqAll G.K F ws (xs.map enc) ∧
  wp (f r x xs) (fun q => ∀ v F' H' dx' fs', W (.slf F H a E) F' H' → Rp.rp (G := G) q.1 v F' → F' a = none → H' a = some (.ins C dx' fs') → FlR F' (fl q.2) fs' → Q v H') (EP G (.slf F H a E))
theorem evx_methB {R β : Type} [Enc β] {fl : R → List (Fld G)} {f : R → α → List β → Prog (ρ × R)} {m : Prog α} {r : R} {mn : Str} {xs : List β} (hO : ∀ a, N.O a = none) (hi : Γ[i]? = some (.ins C (fl r) w)) (hl : Γ[l]? = some (.lst xs)) (hm : (fl r).find? (fun f => mn == f.n) = none) (h : EV N Γ te m) :
    EVX N Γ (tMeth C mn (SpIB G α C fl f) [] N.E (tVar i) (tCons te (tCons (tVar l) tNil))) (m >>= fun x => f r x xs) (fun r' => Γ.set i (.ins C (fl r') w)) := fun σ F H hs Q q => by
  obtain ⟨p, dx, us, e0, m0, hp, d, hw, _⟩ := hs.insAt hi
  refine ⟨.ref p, e0, p, dx, us, rfl, hp, flR_none d hm, h σ F H hs _ (wp_mono (wp_bind.1 q) fun x q1 v F1 H1 hs1 e1 r1 => ?_)⟩
  obtain ⟨p', dx', us', e0', m1, hp1, d1, hw1, _⟩ := hs1.insAt hi
  rw [e0] at e0'
  cases e0'
  obtain ⟨b, ws, eb, mb, hb, db, _⟩ := hs1.lstAt hl
  have ne : b ≠ p := fun z => by
    subst z
    have := hs1.ds l i _ _ b hl hi rfl rfl eb e0
    subst this
    rw [hi] at hl
    cases hl
  refine ⟨.ref b, eb, p, v, b, ws, F1, dx', us', r, x, xs, rfl, m1.f, hp1, d1, hs1.w.fh, r1, mb.f, hb, ne, db, wp_imp q1 (fun r' k v F' H' dx2 us2 w2 rr fp hp2 d2 => ?_) fun e he => ep_slf hs1 hO m1 e he⟩
  obtain ⟨h2, e2, m2⟩ := (hs1.dead i).callI hO m1 hp1 (hs1.notHeld hi rfl e0) w2 fp hp2
  have h3 := h2.own (e := .ins C (fl r'.2) w) i (hs1.notHeld hi rfl e0) ⟨p, dx2, us2, rfl, m2, hp2, d2, hw⟩
  rw [List.set_set, set_id e0] at h3
  exact k v F' H' h3 (Same.trans e1 e2) rr
end
section
variable {P : Program} {w : World} {mg : Str → Option Value} {base : Heap} {ρ α β : Type} [iρ : Rp G ρ] [iα : Rp G α] [iβ : Enc β]
theorem fn_okIB {R : Type} {fl : R → List (Fld G)} {C : Addr} {x qual : Str} {st : Stmt} {f : Addr} {fd : FuncData} {Ns ps : List Str} {k : Nat} {g : R → α → List β → Prog (ρ × R)} (Fu : Fun G.K x qual st f fd) (S : FnScope Ns ps (defScope st)) (Γ0 : R → α → List β → Addr → Env G)
    (len : ps.length = 3) (h0 : ∀ r (a : α) (xs : List β) v F H (N : NN) p q ws dx us, MineI N F p → H p = some (.ins C dx us) → FlR F (fl r) us → Rp.rp (G := G) a v F → N.F0 q = none → N.H0 q = some (.lst ws) → ¬ N.B q → N.S = none → DqAll G.K F ws (xs.map enc) → Slots N F H (Γ0 r a xs p) (start Ns [.ref p, v, .ref q])) (nown : ∀ r (x : α) (xs : List β) p (j : Nat) e, (Γ0 r x xs p)[j]? = some e → e.own = true → j = 0)
    (hbody : ∀ (cdv : Value) (A : Around) (outer : List PySem.Env) (s : Shared) (H F : Hp) (p : Addr) (E : XK), Room k (A.deeper (envOfC qual (defScope st) s.heap.objs.size f cdv)) →
      ∃ t, PSs (cxOf (L2.CX P w) P w G.K mg base Ns qual (defScope st) f cdv A outer s H E) (defBody st) t ∧ ∀ r (a : α) (xs : List β), SV (.slf F H p E) (Γ0 r a xs p) t (JRI G (.slf F H p E) p C fl) (g r a xs)) : FnOk P w G.K mg base (L2.CX P w) (k + 1) f fd ps (SpIB G α C fl g) :=
  Fu.okX S (fun vs H Q E ⟨p, v, q, ws, F, dx, fs, r, a, xs, e1, _⟩ => by rw [e1, len]; rfl) fun cdv A outer s H vs Q E hr ⟨p, v, b, ws, F, dx, fs, r, a, xs, e1, fp, hp, d, e, h, fb, hb, ne, db, q⟩ => by
    subst e1
    obtain ⟨t, hP, hv⟩ := hbody cdv A outer s H F p E hr
    exact ⟨t, hP, hv r a xs _ F H _ (hs_startI e (fun N m e1 e2 e3 e4 => h0 r a xs v F H N p b ws dx fs m hp d h (by rw [e1]; exact fb) (by rw [e2]; exact hb) (fun z => ne (e3 b z)) e4 db) fp (nown r a xs p)) (wp_mono q fun r k v F' H' dx' us' w1 w2 w3 w4 w5 => k v F' H' dx' us' w1 w2 w3 w4 w5)⟩
end
abbrev SpI0 (G : Glob) {ρ R : Type} [Rp G ρ] (C : Addr) (fl : R → List (Fld G)) (f : R → Prog (ρ × R)) : Sp := SpI G C fl fl ra0 (fun r _ => f r)
abbrev SpI1 (G : Glob) {ρ R : Type} (α : Type) [Rp G ρ] [Rp G α] (C : Addr) (fl : R → List (Fld G)) (f : R → α → Prog (ρ × R)) : Sp := SpI G C fl fl (raC (G := G) α ra0) (fun r p => f r p.1)
abbrev SpI2 (G : Glob) {ρ R : Type} (α β : Type) [Rp G ρ] [Rp G α] [Rp G β] (C : Addr) (fl : R → List (Fld G)) (f : R → α → β → Prog (ρ × R)) : Sp := SpI G C fl fl (raC (G := G) α (raC (G := G) β ra0)) (fun r p => f r p.1 p.2.1)
abbrev SpM1 (G : Glob) {R : Type} (α : Type) [Rp G α] (C : Addr) (fl : R → List (Fld G)) (f : α → Prog (Unit × R)) : Sp := SpI G C (fun _ : Unit => []) fl (raC (G := G) α ra0) (fun _ p => f p.1)
abbrev SpM2 (G : Glob) {R : Type} (α β : Type) [Rp G α] [Rp G β] (C : Addr) (fl : R → List (Fld G)) (f : α → β → Prog (Unit × R)) : Sp := SpI G C (fun _ : Unit => []) fl (raC (G := G) α (raC (G := G) β ra0)) (fun _ p => f p.1 p.2.1)
section
variable {α β ω ρ R : Type} [iα : Rp G α] [iβ : Rp G β] [iρ : Rp G ρ] {N : NN} {Γ : Env G} {ta tb : TE} {tz : TS} {i j : Nat} {C : Addr} {w : Option Addr} {mn : Str} {fl : R → List (Fld G)} {r : R} {m1 : Prog α} {m2 : Prog β}
theorem evx_meth0 {f : R → Prog (ρ × R)} (hO : ∀ a, N.O a = none) (hi : Γ[i]? = some (.ins C (fl r) w)) (hm : (fl r).find? (fun f => mn == f.n) = none) :
    EVX N Γ (tMeth C mn (SpI0 G C fl f) [] N.E (tVar i) tNil) (f r) (fun r' => Γ.set i (.ins C (fl r') w)) := evx_meth (f := fun r _ => f r) (m := .ok ()) hO hi hm eva_nil
theorem evx_meth1 {f : R → α → Prog (ρ × R)} (hO : ∀ a, N.O a = none) (hi : Γ[i]? = some (.ins C (fl r) w)) (hm : (fl r).find? (fun f => mn == f.n) = none) (h1 : EV N Γ ta m1) :
    EVX N Γ (tMeth C mn (SpI1 G α C fl f) [] N.E (tVar i) (tCons ta tNil)) (m1 >>= fun a => f r a) (fun r' => Γ.set i (.ins C (fl r') w)) := by
  have h := evx_meth (f := fun r (p : α × Unit) => f r p.1) hO hi hm (eva1 h1)
  simp only [bind_bind, ok_bind] at h
  exact h
theorem evx_meth2 {f : R → α → β → Prog (ρ × R)} (hO : ∀ a, N.O a = none) (hi : Γ[i]? = some (.ins C (fl r) w)) (hm : (fl r).find? (fun f => mn == f.n) = none) (h1 : EV N Γ ta m1) (h2 : EV N Γ tb m2) :
    EVX N Γ (tMeth C mn (SpI2 G α β C fl f) [] N.E (tVar i) (tCons ta (tCons tb tNil))) (m1 >>= fun a => m2 >>= fun b => f r a b) (fun r' => Γ.set i (.ins C (fl r') w)) := by
  have h := evx_meth (f := fun r (p : α × β × Unit) => f r p.1 p.2.1) hO hi hm (eva2 h1 h2)
  simp only [bind_bind, ok_bind] at h
  exact h
theorem sv_make1 {f : α → Prog (Unit × R)} {J : Aim ω} {k : Unit × R → Prog ω} (hO : ∀ a, N.O a = none) (h1 : EV N Γ ta m1) (hk : ∀ r, SV N (Γ.set j (.ins C (fl r.2) none)) tz J (k r)) :
    SV N Γ (tSeq (tAsg (tMake C (SpM1 G α C fl f) [] N.E (tCons ta tNil)) (gName j)) tz) J (m1 >>= fun a => f a >>= k) := by
  have h := sv_make (f := fun _ (p : α × Unit) => f p.1) (J := J) (k := k) hO (eva1 h1) hk
  simp only [bind_bind, ok_bind] at h
  exact h
theorem sv_make2 {f : α → β → Prog (Unit × R)} {J : Aim ω} {k : Unit × R → Prog ω} (hO : ∀ a, N.O a = none) (h1 : EV N Γ ta m1) (h2 : EV N Γ tb m2) (hk : ∀ r, SV N (Γ.set j (.ins C (fl r.2) none)) tz J (k r)) :
    SV N Γ (tSeq (tAsg (tMake C (SpM2 G α β C fl f) [] N.E (tCons ta (tCons tb tNil))) (gName j)) tz) J (m1 >>= fun a => m2 >>= fun b => f a b >>= k) := by
  have h := sv_make (f := fun _ (p : α × β × Unit) => f p.1 p.2.1) (J := J) (k := k) hO (eva2 h1 h2) hk
  simp only [bind_bind, ok_bind] at h
  exact h
end
theorem hO_slf (F H : Hp) (p : Addr) (E : XK) : ∀ a, (NN.slf F H p E).O a = none := fun _ => rfl
theorem own_i {e : Ent G} {Γ : Env G} (k : ∀ e ∈ Γ, e.own = false) : ∀ (j : Nat) (e' : Ent G), (e :: Γ)[j]? = some e' → e'.own = true → j = 0 := fun j e' h o => by
  cases j with
  | zero => rfl
  | succ j =>
    have := k e' (List.mem_of_getElem? h)
    rw [o] at this; cases this
/-- what the proof needs of a class, of a method -/
structure Dc (G : Glob) (mg : Str → Option Value) (C : Addr) (nm : Str) : Prop where
  c : Cls G.K C
  g : mg nm = some (.ref C)
structure Dm (K : PySem.W.Frag) (C : Addr) (x qual : Str) (st : Stmt) (ps : List Str) where
  f : Addr
  fd : FuncData
  Fu : Fun K x qual st f fd
  b : Binds K fd ps []
  me : Meth K C x f
structure Di (K : PySem.W.Frag) (C : Addr) (x qual : Str) (st : Stmt) (ps : List Str) where
  f : Addr
  fd : FuncData
  Fu : Fun K x qual st f fd
  b : Binds K fd ps []
  mki : Mk K C f
end Ty

namespace Ty
open PySem PySem.Spec PyProof.Rows L2
open Enc (enc)
variable {G : Glob}
/-! ### a Code is made -/
section
variable {α β γ ω ρ τ : Type} [iα : Rp G α] [iβ : Rp G β] {N : NN} {Γ Γ' : Env G} {te ta tb : TE} {t : TA} {tt tu : TT} {tz ts : TS}
def JC (G : Glob) (N : NN) (x dx : Addr) : Aim CodeV := ⟨fun _ c D => ∀ y F' H' σ', W N F' H' → Dq G.K F' y (enc c.parts) → D.nx σ' (SlX.slH H' x G.code dx [some (.int c.many), some y]), fun _ h => h⟩
theorem sv_setCode (cf : CodeFacts G) {x dx : Addr} {many : Int} {parts : List Tx} (h0 : Γ[0]? = some (.ptr x)) (h1 : Γ[1]? = some (@Ent.per G Int _ many)) (h2 : Γ[2]? = some (@Ent.per G (List Tx) _ parts)) (hx : N.H0 x = some (.ins G.code dx [])) (nb : ¬ N.B x) (ne : dx ≠ x) :
    SV N Γ (tSeq (SlX.sSl G.K (tVar 0) (tVar 1) "many") (tSeq (SlX.sSl G.K (tVar 0) (tVar 2) "parts") tNext)) (JC G N x dx) (.ok ⟨many, parts⟩) := fun σ F H D hs q => by
  obtain ⟨o0, e0, z0⟩ := hs.sl.get h0
  have z0 : o0 = some (.ref x) := z0
  subst z0
  obtain ⟨o1, e1, v1, z1, r1⟩ := hs.sl.get h1
  subst z1
  obtain ⟨o2, e2, v2, z2, r2⟩ := hs.sl.get h2
  subst z2
  obtain ⟨p1, s1⟩ := cf.many
  obtain ⟨p2, s2⟩ := cf.parts
  have hx1 : H x = some (.ins G.code dx []) := hs.w.kp x _ nb hx
  have ev : v1 = .int many := Scl.dp (α := Int) r1
  subst ev
  refine ⟨_, e1, .ref x, e0, x, G.code, dx, p1, [], 0, rfl, .inl ⟨hx1, rfl⟩, cf.sc, s1, ?_⟩
  refine ⟨_, e2, .ref x, e0, x, G.code, dx, p2, _, 1, rfl, SlX.slH_slt ne, cf.sc, s2, ?_⟩
  show D.nx σ _
  rw [SlX.slH_twice ne]
  exact q v2 F H σ hs.w r2
def SpC (G : Glob) (f : Int → List Tx → Prog CodeV) : Sp := fun vs H Q E => ∃ x dx us F a, vs = .ref x :: us ∧ F x = none ∧ H x = some (.ins G.code dx []) ∧ dx ≠ x ∧ Same F H ∧ raC (G := G) Int (raC (G := G) (List Tx) ra0) a us F ∧
  wp (f a.1 a.2.1) (fun c => ∀ y F1 H1, W (.of F H E) F1 H1 → Dq G.K F1 y (enc c.parts) → Q .non (SlX.slH H1 x G.code dx [some (.int c.many), some y])) (EP G (.of F H E))
theorem ev_make {f : Int → List Tx → Prog CodeV} {m1 : Prog Int} {m2 : Prog (List Tx)} (h1 : EV N Γ ta m1) (h2 : EV N Γ tb m2) : EV N Γ (tMake G.code (SpC G f) [] N.E (tCons ta (tCons tb tNil))) (m1 >>= fun a => m2 >>= fun b => f a b) := fun σ F H hs Q q => by
  have h := eva2 (G := G) h1 h2
  refine h σ F H hs _ ?_
  refine wp_bind.2 (wp_mono (wp_bind.1 q) fun a q1 => wp_bind.2 (wp_mono (wp_bind.1 q1) fun b q2 => ?_))
  intro vs F1 H1 hs1 e1 r1 x dx hx hdx ne
  obtain ⟨hs2, n2⟩ := hs_newO (u := .own x) hs1 hdx
  obtain ⟨hs3, n3⟩ := hs_newO (u := .ins G.code dx []) hs2 (p := x) (by rw [upd_ne (Ne.symm ne)]; exact hx)
  refine ⟨x, dx, vs, F1, (a, b, ()), by rw [List.append_nil], n3.mine.f, upd_same, ne, hs3.w.fh, r1, wp_imp q2 (fun c k y F2 H2 w2 d2 => ?_) fun e he => ep_of (F := F) (H := H) hs3 noB e he⟩
  obtain ⟨hs4, e2⟩ := hs3.call noB w2
  have fr : ∀ q o, F1 q = none → upd (upd H1 dx (.own x)) x (.ins G.code dx []) q = some o → F2 q = none := fun q o f h => by
    cases z : F2 q with
    | none => rfl
    | some u =>
      rcases w2.nw q u z with y | y
      · rw [show F1 q = some u from y] at f; cases f
      · rw [show upd (upd H1 dx (.own x)) x (.ins G.code dx []) q = none from y] at h; cases h
  have fx : F2 x = none := fr x _ n3.mine.f upd_same
  have fdx : F2 dx = none := fr dx _ n2.mine.f (by rw [upd_ne ne]; exact upd_same)
  have mdx : Mine N F2 dx := n2.mine.mono fdx
  have mx : Mine N F2 x := n3.mine.mono fx
  -- the dict, then the object
  have hs5 := hs4.writeO (u := .xd []) n2.no mdx.weak n2.nh
  obtain ⟨hs6, e6⟩ := hs5.freeze upd_same mdx n2.h0 n2.nh n2.no
  have fx6 : upd F2 dx (.xd []) x = none := by rw [upd_ne (Ne.symm ne)]; exact fx
  have hs7 := hs6.writeO (u := SlX.SlO x G.code dx [some (.int c.many), some y]) n3.no (mx.mono fx6).weak n3.nh
  obtain ⟨hs8, e8⟩ := hs7.freeze upd_same (mx.mono fx6) n3.h0 n3.nh n3.no
  refine ⟨rfl, k (.ref x) _ _ hs8 (Same.trans e1 (Same.trans e2 (Same.trans e6 e8))) ⟨x, dx, y, rfl, .inr ⟨upd_same, by rw [upd_ne ne]; exact upd_same⟩, dp_same (Same.trans e6 e8) _ _ d2⟩⟩
theorem hs_startC {Γ0 : Env G} {Ns : List Str} {F H : Hp} {vs : List V} {E : XK} (e : Same F H) (h : ∀ N : NN, Slots N F H Γ0 (start Ns vs)) (nown : ∀ e ∈ Γ0, e.own = false) : HS (.of F H E) Γ0 (start Ns vs) F H :=
  ⟨⟨e, Same.refl F, fun a o h => .inl h, fun a o _ h => h, fun a h => h, fun p c h => (nomatch h), fun p c h => (nomatch h), fun a o h => (nomatch h)⟩, h _, fun i j e e' p h1 _ o1 => by
    have := nown e (List.mem_of_getElem? h1)
    rw [o1] at this; cases this⟩
theorem fn_okC {P : Program} {w : World} {mg : Str → Option Value} {base : Heap} {x qual : Str} {st : Stmt} {f : Addr} {fd : FuncData} {Ns ps : List Str} {k : Nat} {g : Int → List Tx → Prog CodeV} (Fu : Fun G.K x qual st f fd) (S : FnScope Ns ps (defScope st)) (hNs : Ns.length = 3) (hps : ps.length = 3)
    (hbody : ∀ (cdv : Value) (A : Around) (outer : List PySem.Env) (s : Shared) (H F : Hp) (E : XK), Room k (A.deeper (envOfC qual (defScope st) s.heap.objs.size f cdv)) →
      ∃ t, PSs (cxOf (L2.CX P w) P w G.K mg base Ns qual (defScope st) f cdv A outer s H E) (defBody st) t ∧ ∀ x dx many parts, H x = some (.ins G.code dx []) → dx ≠ x → SV (.of F H E) [.ptr x, @Ent.per G Int _ many, @Ent.per G (List Tx) _ parts] t (JC G (.of F H E) x dx) (g many parts)) : FnOk P w G.K mg base (L2.CX P w) (k + 1) f fd ps (SpC G g) :=
  Fu.okX S (fun vs H Q E ⟨x, dx, us, F, a, e1, _, _, _, _, ⟨v1, _, e2, _, v2, _, e3, _, e4⟩, _⟩ => by rw [e1, e2, e3, e4, hps]; rfl) fun cdv A outer s H vs Q E hr ⟨x, dx, us, F, a, e1, fx, hx, ne, e, ⟨v1, us2, e2, r1, v2, us3, e3, r2, e4⟩, q⟩ => by
    subst e1 e2 e3
    have e4 : us3 = [] := e4
    subst e4
    obtain ⟨t, hP, hv⟩ := hbody cdv A outer s H F E hr
    refine ⟨t, hP, hv x dx a.1 a.2.1 hx ne _ F H _ (hs_startC e (fun N => ?_) (by simp [Ent.own])) (wp_mono q fun c k y F' H' σ' w' d => k y F' H' w' d)⟩
    match Ns, hNs with
    | [n1, n2, n3], _ => exact ⟨rfl, ⟨v1, rfl, r1⟩, ⟨v2, rfl, r2⟩, trivial⟩
/-! ### c == d -/
theorem ev_eqCode {f : CodeV → CodeV → Prog Bool} {m1 m2 : Prog CodeV} (nf : PySem.W.notFirst G.K G.code (.ref G.code) = true) (h1 : EV N Γ ta m1) (h2 : EV N Γ tb m2) : EV N Γ (tOp (SlX.rOwn G.K G.code (SpF2 G CodeV CodeV f) N.E) ta tb) (m1 >>= fun a => m2 >>= fun b => f a b) := fun σ F H hs Q q =>
  h1 σ F H hs _ (wp_mono (wp_bind.1 q) fun a q1 x F1 H1 hs1 e1 r1 => h2 σ F1 H1 hs1 _ (wp_mono (wp_bind.1 q1) fun b q2 y F2 H2 hs2 e2 r2 => by
    have r1' := Rp.mono (G := G) e2 r1
    obtain ⟨p1, d1, z1, g1, s1, k1⟩ := id r1'
    obtain ⟨p2, d2, z2, g2, s2, k2⟩ := id r2
    refine ⟨p1, d1, _, p2, G.code, d2, _, g1, g2, slt_same hs2.w.fh s1, slt_same hs2.w.fh s2, nf, F2, (a, b, ()), hs2.w.fh, ⟨x, _, rfl, r1', y, _, rfl, r2, rfl⟩, wp_imp q2 (fun r k v F' H' w rr => ?_) fun e he => ep_of (F := F) (H := H) hs2 noB e he⟩
    obtain ⟨hs3, e3⟩ := hs2.call noB w
    exact k v F' H' hs3 (Same.trans e1 (Same.trans e2 e3)) rr))
theorem ev_isCode (cf : CodeFacts G) (si : SlX.SIsi G.K G.code) (kc : PySem.W.kitOne G.K (.ref G.code) (.ref G.code) = some true) {m : Prog CodeV} (h : EV N Γ ta m) : EV N Γ (tCB (SlX.rIsiSl G.K (.ref G.code)) (tCons ta (tCons (tC (.ref G.code)) tNil))) (m >>= fun _ => .ok true) := fun σ F H hs Q q =>
  h σ F H hs _ (wp_mono (wp_bind.1 q) fun a q1 x F1 H1 hs1 e1 r1 => by
    obtain ⟨p, dx, z, e, s, d⟩ := r1
    exact ⟨p, G.code, dx, _, .ref G.code, true, by rw [e], rfl, fun w h => h, slt_same hs1.w.fh s, cf.sc, si, kc, q1 _ F1 H1 hs1 e1 (.bl true)⟩)
end
theorem fnr {P : Program} {w : World} {K : PySem.W.Frag} {mg : Str → Option Value} {base : Heap} {CX : CXT} {k : Nat} {f : Addr} {fd : FuncData} {ps : List Str} {sp : Sp} (F : FnOk P w K mg base CX k f fd ps sp) (hb : Binds K fd ps []) : FnR P w K mg base CX k f sp :=
  (F.raw hb .nil).imp fun vs H Q E h => by rw [List.append_nil]; exact h
structure CodeEq (G : Glob) (f : Addr) : Prop where
  at_ : PySem.W.findIn G.K (.ref G.code) (cmpInfo .Eq).2.1 = some (some (.ref f))
  fn : PySem.W.isFn G.K (.ref f) = true
structure CodeCls (G : Glob) (mg : Str → Option Value) : Prop where
  g : mg "Code" = some (.ref G.code)
  si : SlX.SIsi G.K G.code
  kc : PySem.W.kitOne G.K (.ref G.code) (.ref G.code) = some true
  nf : PySem.W.notFirst G.K G.code (.ref G.code) = true
structure De (G : Glob) (x qual : Str) (st : Stmt) (ps : List Str) where
  f : Addr
  fd : FuncData
  Fu : Fun G.K x qual st f fd
  b : Binds G.K fd ps []
  eq : CodeEq G f
end Ty

namespace Ty
open PySem PySem.Spec PyProof.Rows L2
open Enc (enc)
section
variable {G : Glob} {P : Program} {w : World} {mg : Str → Option Value} {base : Heap}
theorem src_set {N : NN} {Γ : Env G} {σ : L2.St} {F H : Hp} {p c : Addr} (hs : HS N Γ σ F H) (hS : N.S = some (p, c)) (hO : ∀ a, N.O a = none) {st ix : Int} {cs : List Int} {H' : Hp} (hp : H' p = some (.lst [.int st, .ref c, .int ix, .int 14])) (hc : H' c = some (.lst (cs.map V.int))) (hl : cs.length ≤ 64) (k : ∀ a, a ≠ p → a ≠ c → H' a = H a) : HS N Γ σ F H' := by
  have s := hs.w.sr p c hS
  have sb := hs.w.sb p c hS
  obtain ⟨st0, ix0, cs0, h1, h2, _⟩ := s.at_
  have ne : ∀ a o, F a = some o → a ≠ p ∧ a ≠ c := fun a o e => ⟨ne_of_none e s.fp, ne_of_none e s.fc⟩
  refine hs.move ⟨fun a u e => ?_, hs.w.f0, hs.w.nw, fun a u nb e => ?_, fun a e => ?_, fun q d e => ?_, hs.w.sb, fun a o x => by rw [hO] at x; cases x⟩ (Same.refl F) (fun q vs hl e => ?_) fun q hl => (hs.held hl).1.f
  · rw [k a (ne a u e).1 (ne a u e).2]; exact hs.w.fh a u e
  · have n1 : a ≠ p := fun z => by
      subst z
      rcases sb.1 with x | x
      · rw [x] at e; cases e
      · exact nb x
    have n2 : a ≠ c := fun z => by
      subst z
      rcases sb.2 with x | x
      · rw [x] at e; cases e
      · exact nb x
    rw [k a n1 n2]; exact hs.w.kp a u nb e
  · by_cases n1 : a = p
    · subst n1; rw [hp] at e; cases e
    · by_cases n2 : a = c
      · subst n2; rw [hc] at e; cases e
      · rw [k a n1 n2] at e; exact hs.w.dm a e
  · rw [hS] at e; cases e
    exact ⟨s.fp, s.fc, s.ne, st, ix, cs, hp, hc, hl⟩
  · have m := (hs.held hl).1.s p c hS
    rw [k q m.1 m.2]; exact e
theorem mod_lt_len {ix : Int} {cs : List Int} : ∃ x, atI (cs.map V.int ++ [.int 0]) (ix % (if (cs.length : Int) > 1 then (cs.length : Int) else 1)) = some (.int x) := by
  have h1 : 0 ≤ ix % (if (cs.length : Int) > 1 then (cs.length : Int) else 1) := Int.emod_nonneg _ (by split <;> omega)
  have h2 : ix % (if (cs.length : Int) > 1 then (cs.length : Int) else 1) < (if (cs.length : Int) > 1 then (cs.length : Int) else 1) := Int.emod_lt_of_pos _ (by split <;> omega)
  generalize hk : ix % (if (cs.length : Int) > 1 then (cs.length : Int) else 1) = k at h1 h2
  have h3 : k.toNat < ((cs ++ [0]).map V.int).length := by
    rw [List.length_map, List.length_append]
    simp
    split at h2 <;> omega
  have e : cs.map V.int ++ [.int 0] = (cs ++ [0]).map V.int := by simp
  have h4 : (k.toNat : Int) = k := by omega
  rw [e, ← h4]
  refine ⟨(cs ++ [0])[k.toNat]'(by simpa using h3), atI_nat ?_⟩
  rw [List.getElem?_eq_getElem h3, List.getElem_map]
def SpMix (K : PySem.W.Frag) : Sp := fun vs H Q _ => ∃ (a : Addr) (ns : List Int) (seed : Int), vs = [.ref a, .int seed] ∧ SqL K H a (ns.map V.int) ∧ ns.length ≤ 64 ∧
  ∀ H' p c st, Same H H' → (∀ b, H' b = none → H b = none) → H p = none → H c = none → p ≠ c → H' p = some (.lst [.int st, .ref c, .int 0, .int 14]) → H' c = some (.lst (ns.map V.int)) → Q (.ref p) H'

def SpLaw (K : PySem.W.Frag) : Sp := fun vs H Q _ => ∃ (a : Addr) (ns : List Int), vs = [.ref a] ∧ SqL K H a (ns.map V.int) ∧ ns.length ≤ 63 ∧ ∀ H', Q (.bl true) H'
theorem hs_law {Γ : Env G} {σ : L2.St} {H' : Hp} {p c : Addr} {E : XK} {st : Int} {ns : List Int} (e1 : H' p = some (.lst [.int st, .ref c, .int 0, .int 14])) (e2 : H' c = some (.lst (ns.map V.int))) (ne : p ≠ c) (hl : ns.length ≤ 64) (sl : ∀ N : NN, N.S = some (p, c) → Slots N (fun _ => none) H' Γ σ) (nown : ∀ e ∈ Γ, e.own = false) : HS (.src (fun _ => none) H' p c E) Γ σ (fun _ => none) H' :=
  ⟨⟨fun a u z => (nomatch z), Same.refl _, fun a o z => (nomatch z), fun a o _ z => z, fun a z => z, fun p' c' z => by cases z; exact ⟨rfl, rfl, ne, st, 0, ns, e1, e2, hl⟩, fun p' c' z => by cases z; exact ⟨.inr (.inl rfl), .inr (.inr rfl)⟩, fun a o z => (nomatch z)⟩, sl _ rfl, fun i j e e' q h1 _ o1 => by
    have := nown e (List.mem_of_getElem? h1)
    rw [o1] at this; cases this⟩
theorem law_cx {H : Hp} {s : Shared} {e : Value} {s' : Shared} (h : L2.CX P w [] H s (fun _ _ _ => False) e s') : False := by
  obtain ⟨_, _, _, _, _, _, _, _, _, _, _, _, z⟩ := h
  exact z
theorem kit_self {K : PySem.W.Frag} {a : Addr} : PySem.W.kitOne K (.ref a) (.ref a) = some true := by
  unfold PySem.W.kitOne
  rw [if_pos]
  simp
theorem first_self {K : PySem.W.Frag} {a : Addr} : PySem.W.notFirst K a (.ref a) = true := by
  unfold PySem.W.notFirst
  simp
end
end Ty

/-! the plain law: what the mirrors compute -/
namespace Ty
open PySem PySem.Spec PyProof.Rows L2
open Enc (enc)
section
variable {α β γ : Type} {E : Exc → Prop}
@[simp] theorem chk_bind (b : Bool) (m : Prog α) (f : α → Prog β) : chk b m >>= f = chk b (m >>= f) := by cases b <;> rfl
theorem ite_bind (b : Bool) (m m' : Prog α) (f : α → Prog β) : (if b then m else m') >>= f = if b then m >>= f else m' >>= f := by cases b <;> rfl
theorem wp_chk_of {b : Bool} {m : Prog α} {P : α → Prop} (hb : b = true) (h : wp m P E) : wp (chk b m) P E := by subst hb; exact h
theorem wp_foldP {f : β → α → Prog β} {Inv : β → Prop} : ∀ {xs : List α} {b : β}, Inv b → (∀ b a, a ∈ xs → Inv b → wp (f b a) Inv E) → wp (foldP f xs b) Inv E
  | [], b, h, _ => h
  | a :: r, b, h, k => wp_bind.2 (wp_mono (k b a List.mem_cons_self h) fun b' h' => wp_foldP h' fun b a m i => k b a (List.mem_cons_of_mem _ m) i)
/-- with what is left -/
theorem wp_foldP' {f : β → α → Prog β} {Inv : List α → β → Prop} : ∀ {xs : List α} {b : β}, Inv xs b → (∀ b a r, Inv (a :: r) b → wp (f b a) (Inv r) E) → wp (foldP f xs b) (Inv []) E
  | [], b, h, _ => h
  | a :: r, b, h, k => wp_bind.2 (wp_mono (k b a r h) fun b' h' => wp_foldP' h' k)
theorem wp_mapP {f : α → Prog β} {Q : α → β → Prop} : ∀ {xs : List α}, (∀ a, a ∈ xs → wp (f a) (Q a) E) → wp (mapP f xs) (fun ys => ys.length = xs.length ∧ (∀ y ∈ ys, ∃ a ∈ xs, Q a y)) E
  | [], _ => ⟨rfl, fun y h => by cases h⟩
  | a :: r, k => wp_bind.2 (wp_mono (k a List.mem_cons_self) fun y hy => wp_bind.2 (wp_mono (wp_mapP fun b m => k b (List.mem_cons_of_mem _ m)) fun ys h => ⟨by simp [h.1], fun z hz => by
      rcases List.mem_cons.1 hz with e | e
      · exact ⟨a, List.mem_cons_self, e ▸ hy⟩
      · obtain ⟨b, m, q⟩ := h.2 z e
        exact ⟨b, List.mem_cons_of_mem _ m, q⟩⟩))
/-- item by item -/
def All2 (Q : α → β → Prop) : List α → List β → Prop
  | [], [] => True
  | a :: r, b :: q => Q a b ∧ All2 Q r q
  | _, _ => False
theorem wp_mapP2 {f : α → Prog β} {Q : α → β → Prop} : ∀ {xs : List α}, (∀ a, a ∈ xs → wp (f a) (Q a) E) → wp (mapP f xs) (All2 Q xs) E
  | [], _ => trivial
  | a :: r, k => wp_bind.2 (wp_mono (k a List.mem_cons_self) fun y hy => wp_bind.2 (wp_mono (wp_mapP2 fun b m => k b (List.mem_cons_of_mem _ m)) fun ys h => ⟨hy, h⟩))
theorem mapP_ok {f : α → Prog β} {g : α → β} : ∀ {xs : List α}, (∀ a ∈ xs, f a = .ok (g a)) → mapP f xs = .ok (xs.map g)
  | [], _ => rfl
  | a :: r, k => by
    show f a >>= _ = _
    rw [k a List.mem_cons_self, ok_bind, mapP_ok fun b m => k b (List.mem_cons_of_mem _ m), ok_bind]
    rfl
theorem compP_ok {t : α → Prog Bool} {f : α → Prog β} {p : α → Bool} {g : α → β} : ∀ {xs : List α}, (∀ a ∈ xs, t a = .ok (p a)) → (∀ a ∈ xs, f a = .ok (g a)) → compP t f xs = .ok ((xs.filter p).map g)
  | [], _, _ => rfl
  | a :: r, k1, k2 => by
    show t a >>= _ = _
    rw [k1 a List.mem_cons_self, ok_bind, List.filter_cons]
    have ih := compP_ok (fun b m => k1 b (List.mem_cons_of_mem _ m)) fun b m => k2 b (List.mem_cons_of_mem _ m)
    cases hp : p a with
    | true => rw [if_pos rfl, if_pos rfl, k2 a List.mem_cons_self, ok_bind, ih, ok_bind]; rfl
    | false => rw [if_neg Bool.false_ne_true, if_neg Bool.false_ne_true, ih]
theorem wp_noerr_of {m : Prog α} {P : α → Prop} (h : wp m P (fun _ => False)) : wp (noerr m) P E := by
  induction m with
  | ok a => exact h
  | err e => exact h.elim
  | stuck => exact h
  | draw n k ih => exact ⟨h.1, h.2.1, fun i a b => ih i (h.2.2 i a b)⟩
theorem small_of {n : Nat} (h : n ≤ 100000) : small n = true := decide_eq_true h
theorem getI_nat {xs : List α} {i : Int} {a : α} (h0 : 0 ≤ i) (h : xs[i.toNat]? = some a) : getI xs i = .ok a := by
  have e : atI xs i = some a := by
    have := atI_nat (xs := xs) h
    rwa [Int.toNat_of_nonneg h0] at this
  unfold getI
  rw [e]
theorem getI_ex {xs : List α} {i : Int} (h0 : 0 ≤ i) (h1 : i < xs.length) : ∃ a, xs[i.toNat]? = some a ∧ a ∈ xs ∧ getI xs i = .ok a := by
  have hlt : i.toNat < xs.length := by omega
  exact ⟨xs[i.toNat], List.getElem?_eq_getElem hlt, List.getElem_mem hlt, getI_nat h0 (List.getElem?_eq_getElem hlt)⟩
theorem sIx_lo (n : Nat) (d : Nat) {i : Int} (h : 0 ≤ i) : HT.sIx n d (some i) = min i.toNat n := by
  have := HT.sIx_nat n d i.toNat
  rwa [Int.toNat_of_nonneg h] at this
theorem cut_to {xs : List α} {i : Int} (h : 0 ≤ i) : cut xs none (some i) = xs.take i.toNat := by
  unfold cut
  rw [HT.sIx_none, sIx_lo _ _ h]
  simp
theorem cut_from {xs : List α} {i : Int} (h : 0 ≤ i) : cut xs (some i) none = xs.drop i.toNat := by
  unfold cut
  rw [HT.sIx_none, sIx_lo _ _ h]
  by_cases hi : i.toNat ≤ xs.length
  · rw [Nat.min_eq_left hi, List.take_of_length_le (by rw [List.length_drop]; omega)]
  · rw [Nat.min_eq_right (by omega), List.drop_of_length_le (by omega), List.drop_of_length_le (by omega)]
    simp
end
/-! ### codes -/
def Lett (many : Int) (c : Nat) : Prop := c = 97 ∨ c = 98 ∨ (c = 99 ∧ many = 3)
def Word (many : Int) (w : Tx) : Prop := (∀ c ∈ w, Lett many c) ∧ 1 ≤ w.length ∧ w.length ≤ 4
structure Cd (many : Int) (ws : List Tx) : Prop where
  m : many = 2 ∨ many = 3
  l1 : 1 ≤ ws.length
  l6 : ws.length ≤ 6
  nd : ws.Nodup
  w : ∀ w ∈ ws, Word many w
/-- leaves of a tree -/
def Apart (x y : Tx) : Prop := ¬ x <+: y ∧ ¬ y <+: x
theorem apart_grow {x y : Tx} {c : Nat} (h : Apart x y) : Apart (x ++ [c]) y := by
  refine ⟨fun p => h.1 ((List.prefix_append x [c]).trans p), fun p => ?_⟩
  rw [List.prefix_concat_iff] at p
  rcases p with e | p
  · exact h.1 (e ▸ List.prefix_append x [c])
  · exact h.2 p
theorem Apart.symm {x y : Tx} (h : Apart x y) : Apart y x := ⟨h.2, h.1⟩
theorem apart_sibs {x : Tx} {c d : Nat} (h : c ≠ d) : Apart (x ++ [c]) (x ++ [d]) := by
  have k : ∀ {c d : Nat}, c ≠ d → ¬ (x ++ [c]) <+: (x ++ [d]) := fun {c d} h p => by
    have e := p.eq_of_length (by simp)
    have := List.append_cancel_left e
    cases this
    exact h rfl
  exact ⟨k h, k (Ne.symm h)⟩
theorem pairwise_split {l r m : List Tx} {x : Tx} (h : (l ++ x :: r).Pairwise Apart) (hm : m.Pairwise Apart) (hx : ∀ y ∈ m, ∀ z, Apart x z → Apart y z) : (l ++ m ++ r).Pairwise Apart := by
  rw [List.pairwise_append] at h
  obtain ⟨h1, h2, h3⟩ := h
  rw [List.pairwise_cons] at h2
  rw [List.append_assoc, List.pairwise_append, List.pairwise_append]
  refine ⟨h1, ⟨hm, h2.2, fun a ha b hb => hx a ha b (h2.1 b hb)⟩, fun a ha b hb => ?_⟩
  rcases List.mem_append.1 hb with q | q
  · exact (hx b q a (h3 a ha x List.mem_cons_self).symm).symm
  · exact h3 a ha b (List.mem_cons_of_mem _ q)
theorem nodup_of_apart {l : List Tx} (h : l.Pairwise Apart) : l.Nodup := h.imp fun {a b} k => fun e => k.1 (by rw [e]; exact List.prefix_refl b)
end Ty

/-! equality of data by types -/
namespace Ty
open PySem PySem.Spec PyProof.Rows L2
open Enc (enc)
class Shp (α : Type) [Enc α] [DecidableEq α] where
  dep : Nat
  ok : α → Prop
  lay : ∀ a : α, ok a → PyData.canLay0 (enc a) = true
  dle : ∀ a : α, PyData.depth (enc a) ≤ dep
  eqv : ∀ a b : α, PyData.eqv (enc a) (enc b) = decide (a = b)
instance : Shp Int := ⟨0, fun _ => True, fun a _ => by simp [Enc.enc, PyData.canLay0], fun a => by simp [Enc.enc, PyData.depth], fun a b => by
  by_cases h : a = b <;> simp [Enc.enc, PyData.eqv, h]⟩
instance : Shp Bool := ⟨0, fun _ => True, fun a _ => by simp [Enc.enc, PyData.canLay0], fun a => by simp [Enc.enc, PyData.depth], fun a b => by
  cases a <;> cases b <;> simp [Enc.enc, PyData.eqv]⟩
def okT (a : Tx) : Prop := PyData.strOk (sx a) = true
instance : Shp (List Nat) := ⟨0, okT, fun a h => by
  show PyData.canLay0 (.str (sx a)) = true
  simp only [PyData.canLay0]
  exact h, fun a => by simp [Enc.enc, PyData.depth], fun a b => by
  by_cases h : a = b
  · subst h; simp [Enc.enc, PyData.eqv]
  · have : ¬ (⟨a.toArray⟩ : Str) = ⟨b.toArray⟩ := fun e => h (by simpa using e)
    simp [Enc.enc, PyData.eqv, h, this]⟩
section
variable {α β : Type} [Enc α] [Enc β] [DecidableEq α] [DecidableEq β] [Shp α] [Shp β]
theorem shp_layAll : ∀ xs : List α, (∀ x ∈ xs, Shp.ok x) → PyData.canLayAll0 (xs.map enc) = true
  | [], _ => by simp [PyData.canLayAll0]
  | x :: xs, h => by
    have h1 := Shp.lay x (h x List.mem_cons_self)
    have h2 := shp_layAll xs fun y m => h y (List.mem_cons_of_mem _ m)
    simp [PyData.canLayAll0, h1, h2]
theorem shp_depAll : ∀ xs : List α, PyData.depthAll (xs.map enc) ≤ Shp.dep α
  | [] => by simp [PyData.depthAll]
  | x :: xs => by
    have h1 := Shp.dle x
    have h2 := shp_depAll xs
    simp [PyData.depthAll]
    omega
theorem shp_eqvAll : ∀ xs ys : List α, PyData.eqvAll (xs.map enc) (ys.map enc) = decide (xs = ys)
  | [], [] => by simp [PyData.eqvAll]
  | [], _ :: _ => by simp [PyData.eqvAll]
  | _ :: _, [] => by simp [PyData.eqvAll]
  | x :: xs, y :: ys => by
    simp only [List.map_cons, PyData.eqvAll, Shp.eqv, shp_eqvAll xs ys]
    by_cases h : x = y <;> by_cases h' : xs = ys <;> simp [h, h']
instance shpT : Shp (List α) := ⟨Shp.dep α + 1, fun a => ∀ x ∈ a, Shp.ok x, fun a h => by
    show PyData.canLay0 (.tuple (a.map enc)) = true
    simp only [PyData.canLay0]
    exact shp_layAll a h, fun a => by
    have := shp_depAll a
    show PyData.depth (.tuple (a.map enc)) ≤ _
    simp [PyData.depth]; omega, fun a b => by
    show PyData.eqv (.tuple (a.map enc)) (.tuple (b.map enc)) = _
    rw [PyData.eqv]; exact shp_eqvAll a b⟩
instance : DecidableEq (L α) := inferInstanceAs (DecidableEq (List α))
instance shpL : Shp (L α) := ⟨Shp.dep α + 1, fun (a : List α) => ∀ x ∈ a, Shp.ok x, fun (a : List α) h => by
    show PyData.canLay0 (.list (List.map enc a)) = true
    simp only [PyData.canLay0]
    exact shp_layAll a h, fun (a : List α) => by
    have := shp_depAll a
    show PyData.depth (.list (a.map enc)) ≤ _
    simp [PyData.depth]; omega, fun a b => by
    show PyData.eqv (.list (List.map enc a)) (.list (List.map enc b)) = _
    rw [PyData.eqv]; exact shp_eqvAll a b⟩
instance shpP : Shp (α × β) := ⟨max (Shp.dep α) (Shp.dep β) + 1, fun a => Shp.ok a.1 ∧ Shp.ok a.2, fun a h => by
    have h1 := Shp.lay a.1 h.1
    have h2 := Shp.lay a.2 h.2
    show PyData.canLay0 (.tuple [enc a.1, enc a.2]) = true
    simp [PyData.canLay0, PyData.canLayAll0, h1, h2], fun a => by
    have h1 := Shp.dle a.1
    have h2 := Shp.dle a.2
    show PyData.depth (.tuple [enc a.1, enc a.2]) ≤ _
    simp [PyData.depth, PyData.depthAll]; omega, fun a b => by
    show PyData.eqv (.tuple [enc a.1, enc a.2]) (.tuple [enc b.1, enc b.2]) = _
    simp only [PyData.eqv, PyData.eqvAll, Shp.eqv]
    rcases a with ⟨a1, a2⟩
    rcases b with ⟨b1, b2⟩
    by_cases h : a1 = b1 <;> by_cases h' : a2 = b2 <;> simp [h, h']⟩
theorem eqP_dec (h : Shp.dep α ≤ 64) {a b : α} (ha : Shp.ok a) (hb : Shp.ok b) : eqP a b = .ok (decide (a = b)) := by
  have k : ∀ a : α, Shp.ok a → SeqAt.shaped (enc a) = true := fun a h' => by
    simp [SeqAt.shaped, Shp.lay a h', Nat.le_trans (Shp.dle a) h]
  unfold eqP
  rw [k a ha, k b hb, Shp.eqv]
  rfl
theorem neP_dec (h : Shp.dep α ≤ 64) {a b : α} (ha : Shp.ok a) (hb : Shp.ok b) : neP a b = .ok (!decide (a = b)) := by
  have k : ∀ a : α, Shp.ok a → SeqAt.shaped (enc a) = true := fun a h' => by
    simp [SeqAt.shaped, Shp.lay a h', Nat.le_trans (Shp.dle a) h]
  unfold neP
  rw [k a ha, k b hb, Shp.eqv]
  rfl
end
theorem eqL_tx {xs ys : List Tx} (hx : ∀ x ∈ xs, okT x) (hy : ∀ x ∈ ys, okT x) : eqP (α := L Tx) (β := L Tx) xs ys = .ok (decide (@Eq (List Tx) xs ys)) := eqP_dec (α := L Tx) (by decide) hx hy
theorem eqT_tx {xs ys : List Tx} (hx : ∀ x ∈ xs, okT x) (hy : ∀ x ∈ ys, okT x) : eqP xs ys = .ok (decide (@Eq (List Tx) xs ys)) := eqP_dec (by decide) hx hy
theorem wp_eq_ok {α : Type} {m : Prog α} {x : α} {P : α → Prop} {E : Exc → Prop} (h : m = .ok x) (hp : P x) : wp m P E := by rw [h]; exact hp
theorem mapP_bind_ok {α β γ : Type} {f : α → Prog β} {g : α → β} {xs : List α} {k : List β → Prog γ} (h : ∀ a ∈ xs, f a = .ok (g a)) : (mapP f xs >>= k) = k (xs.map g) := by rw [mapP_ok h, ok_bind]
theorem memB_no {α : Type} [DecidableEq α] {xs : List α} {a : α} (h : a ∉ xs) : memB a xs = false := by simp [memB, h]
theorem memB_yes {α : Type} [DecidableEq α] {xs : List α} {a : α} (h : a ∈ xs) : memB a xs = true := by simp [memB, h]
theorem bind_step {α β : Type} {m : Prog α} {x : α} {k : α → Prog β} {r : Prog β} (h : m = .ok x) (h2 : k x = r) : (m >>= k) = r := by rw [h, ok_bind]; exact h2
end Ty

/-! split by one sign, join -/
namespace Ty
open PySem PySem.Spec PyProof.Rows L2
open Enc (enc)
theorem splitT_eq {c : Nat} (hc : c < 256) (s : Tx) : splitT s [c] = TL.spl [c] 0 [] s := by
  have h := TL.split_spl (sx s) (sx [c]) (by simp [sx, TL.tl]) (TL.kind_ok (by simp [sx, hc]))
  have e1 : TL.tl (sx s) = s := by simp [sx, TL.tl]
  have e2 : TL.tl (sx [c]) = [c] := by simp [sx, TL.tl]
  rw [e1, e2] at h
  exact h
theorem split_join {c : Nat} (hc : c < 256) {ps : List Tx} (hne : ps ≠ []) (h : ∀ p ∈ ps, c ∉ p) : splitT (joinT [c] ps) [c] = ps := by
  rw [splitT_eq hc]
  exact TL.spl_join hne h
theorem split_one {c : Nat} (hc : c < 256) {p : Tx} (h : c ∉ p) : splitT p [c] = [p] := by
  rw [splitT_eq hc]
  exact TL.spl_last1 h
theorem split_part {c : Nat} (hc : c < 256) {p s : Tx} (h : c ∉ p) : splitT (p ++ c :: s) [c] = p :: splitT s [c] := by
  rw [splitT_eq hc, splitT_eq hc]
  exact TL.spl_part1 h
theorem split_two {c : Nat} (hc : c < 256) {p q : Tx} (hp : c ∉ p) (hq : c ∉ q) : splitT (p ++ c :: q) [c] = [p, q] := by rw [split_part hc hp, split_one hc hq]
theorem joinL_length (c : Nat) : ∀ ps : List Tx, (TL.joinL [c] ps).length ≤ sumLen ps + ps.length
  | [] => by simp [TL.joinL, sumLen]
  | [p] => by simp [TL.joinL, sumLen]
  | p :: q :: r => by
    have ih := joinL_length c (q :: r)
    unfold sumLen at ih ⊢
    simp only [TL.joinL, List.length_append, List.map_cons, List.sum_cons, List.length_cons, List.length_nil] at ih ⊢
    omega
theorem joinT_length (c : Nat) (ps : List Tx) : (joinT [c] ps).length ≤ sumLen ps + ps.length := joinL_length c ps
theorem sumLen_le {n : Nat} : ∀ {ps : List Tx}, (∀ p ∈ ps, p.length ≤ n) → sumLen ps ≤ ps.length * n
  | [], _ => by simp [sumLen]
  | p :: r, h => by
    have ih := sumLen_le fun q m => h q (List.mem_cons_of_mem _ m)
    have h1 := h p List.mem_cons_self
    unfold sumLen at ih ⊢
    rw [List.map_cons, List.sum_cons, List.length_cons, Nat.add_mul]
    omega
/-- what stands between blanks -/
def flds (s : Tx) : List Tx := (splitT s [32]).filter fun p => !decide (p = [])
theorem flds_nil : flds [] = [] := by
  unfold flds
  rw [split_one (by decide) (by simp)]
  rfl
theorem flds_blank (s : Tx) : flds (32 :: s) = flds s := by
  have h : splitT (32 :: s) [32] = [] :: splitT s [32] := split_part (p := []) (by decide) (by simp)
  unfold flds
  rw [h, List.filter_cons]
  simp
theorem flds_blanks (k : Nat) (s : Tx) : flds (List.replicate k 32 ++ s) = flds s := by
  induction k with
  | zero => rfl
  | succ k ih => rw [List.replicate_succ, List.cons_append, flds_blank, ih]
theorem flds_part {p s : Tx} (hp : 32 ∉ p) (ne : p ≠ []) : flds (p ++ 32 :: s) = p :: flds s := by
  unfold flds
  rw [split_part (by decide) hp, List.filter_cons]
  simp [ne]
theorem flds_one {p : Tx} (hp : 32 ∉ p) (ne : p ≠ []) : flds p = [p] := by
  unfold flds
  rw [split_one (by decide) hp, List.filter_cons]
  simp [ne]
theorem mulS_blank (n : Int) : mulS [32] n = List.replicate n.toNat 32 := by
  unfold mulS
  induction n.toNat with
  | zero => rfl
  | succ k ih => rw [List.replicate_succ, List.flatten_cons, ih]; rfl
theorem split_length {c : Nat} (hc : c < 256) : ∀ (s : Tx) (acc : Tx), (TL.spl [c] 0 acc s).length ≤ s.length + 1
  | [], acc => by rw [TL.spl_nil]; simp
  | x :: s, acc => by
    by_cases h : TL.pre [c] (x :: s) = true
    · rw [TL.spl_hit h]
      have := split_length hc s []
      simp at this ⊢
      omega
    · rw [TL.spl_miss (by simpa using h)]
      have := split_length hc s (acc ++ [x])
      simp at this ⊢
      omega
theorem splitT_length {c : Nat} (hc : c < 256) (s : Tx) : (splitT s [c]).length ≤ s.length + 1 := by
  rw [splitT_eq hc]
  exact split_length hc s []
end Ty

namespace TyL
open PySem PySem.Spec PyProof.Rows L2
/-- X(), X an own exception class without own __init__ -/
theorem pmk_own0 {X : Cx} {C : Addr} {bmB : List Value} {B newId initId : String} {x : Str} {p pos : Pos} (F : ExcBaseFacts B newId initId bmB) (q : PySem.W.excIn X.K C bmB newId = true) (gC : X.mg x = some (.ref C))
    (kC : PySem.W.keepIn X.K (.ref C) = true) (r : Raises X (.ref C)) (hg : Gl X x) (hdb : (x == ("__debug__" : Str)) = false := by decide) :
    PMk X (.Call (.Name x p) [] [] pos) (fun _ H Q => Q (.ref C) none H) := by
  intro pins s σ H Q I h
  refine wpAny_Call_Name_kw (ld_glob I hg gC ?_ hdb)
  refine PySem.W.callWith_K0 I.kIn kC ?_
  show wpAny _ _ (call (.ref C) []) _ _ _
  obtain ⟨bm, N, nm, qn, bs, hdct, sn, sub, ab, col, dd, k0, k1, k2, k3, k5, mN, hC, hN, hni, T⟩ := exc_obj I.kIn q
  refine wpAny_call_exc_subT F T hC hN hni (fun h' e hm => ?_) (by decide)
  exact mk_of I hm r h (I.hok.gone hm.new)
end TyL
namespace Ty
open PySem PySem.Spec PyProof.Rows L2
open Enc (enc)
variable {G : Glob}
/-- an own exception class without __init__ -/
structure Xc (G : Glob) (mg : Str → Option Value) (nm : Str) (x : String) : Prop where
  g : mg nm = some (.ref (G.exc x))
  ex : PySem.W.excIn G.K (G.exc x) [.type "ValueError", .type "Exception", .type "BaseException", .type "object"] "ValueError.__new__" = true
  kp : PySem.W.keepIn G.K (.ref (G.exc x)) = true
  b : PySem.W.subIn G.K (.ref (G.exc x)) (.type "BaseException") = some true
  t : PySem.W.typeIn G.K (.ref (G.exc x)) = some (.type "type")
section
variable {α β ω ρ τ : Type} [iα : Rp G α] {N : NN} {Γ Γ' : Env G} {te ta tb : TE} {tt : TT} {tz ts : TS}
/-- a block that only raises: what -/
def raiseP {ω : Type} (r : Prog Exc) : Prog ω := r >>= Prog.err
theorem wp_raise {r : Prog Exc} {P : ω → Prop} {E : Exc → Prop} : wp (raiseP r : Prog ω) P E ↔ wp r E E := by
  unfold raiseP
  rw [wp_bind]
  exact Iff.rfl
def SX (N : NN) (Γ : Env G) (ts : TS) (r : Prog Exc) : Prop := ∀ σ F H D, HS N Γ σ F H → wp r (EP G N) (EP G N) → ts D σ H
theorem sx_raise0 (x : String) : SX N Γ (tSeq (fun _ σ H => N.E (.ref (G.exc x)) none H) tz) (.ok ⟨x, []⟩) := fun σ F H D hs q => q F H _ none hs.w ⟨rfl, .inl ⟨rfl, rfl⟩⟩
theorem sv_raise {J : Aim ω} {r : Prog Exc} (h : SX N Γ ts r) : SV N Γ ts J (raiseP r) := fun σ F H D hs q => h σ F H D hs (wp_raise.1 q)
theorem sv_ifraise {J : Aim ω} {m0 : Prog Bool} {r : Prog Exc} {m2 : Prog ω} (h0 : TV N Γ tt m0) (h1 : SX N Γ ts r) (h2 : SV N Γ tz J m2) : SV N Γ (tSeq (tIfS tt ts tNext) tz) J (m0 >>= fun c => if c then raiseP r else m2) := fun σ F H D hs q =>
  h0 σ F H hs _ (wp_mono (wp_bind.1 q) fun b k F' H' hs' e => by
    cases b with
    | true => exact h1 σ F' H' _ hs' (wp_raise.1 k)
    | false => exact h2 σ F' H' D hs' (wp_mono k fun o x => J.mono e x))
/-! try -/
def catchP (h : Exc → Option (Prog β)) : Prog β → Prog β
  | .ok a => .ok a
  | .err e => match h e with
    | some p => p
    | none => .err e
  | .stuck => .stuck
  | .draw n k => .draw n fun i => catchP h (k i)
theorem wp_catch {h : Exc → Option (Prog β)} {m : Prog β} {P : β → Prop} {E : Exc → Prop} : wp (catchP h m) P E ↔ wp m P (fun e => match h e with
    | some p => wp p P E
    | none => E e) := by
  induction m with
  | ok a => exact Iff.rfl
  | err e =>
    show wp (match h e with | some p => p | none => .err e) P E ↔ _
    show _ ↔ (match h e with | some p => wp p P E | none => E e)
    cases h e <;> exact Iff.rfl
  | stuck => exact Iff.rfl
  | draw n k ih => exact ⟨fun x => ⟨x.1, x.2.1, fun i a b => (ih i).1 (x.2.2 i a b)⟩, fun x => ⟨x.1, x.2.1, fun i a b => (ih i).2 (x.2.2 i a b)⟩⟩
structure Hd (β : Type) where
  c : String
  p : Prog β
  ts : Addr → Value → Option Addr → TS
def hsel (known : List String) (e : Exc) : List (String × Prog β) → Option (Prog β)
  | [] => none
  | (c, p) :: r => if e.cls = c then some p else if e.cls ∈ known then hsel known e r else some .stuck
def Plain : Env G → Prop
  | [] => True
  | e :: Γ => (match e with
    | .dead => True
    | @Ent.per _ _ _ _ => True
    | .src => True
    | _ => False) ∧ Plain Γ
theorem Plain.at : ∀ {Γ : Env G}, Plain Γ → ∀ {i : Nat} {e : Ent G}, Γ[i]? = some e → (match e with
    | .dead => True
    | @Ent.per _ _ _ _ => True
    | .src => True
    | _ => False)
  | [], _, i, e, h => by simp at h
  | e :: Γ, h, 0, e', q => by cases q; exact h.1
  | e :: Γ, h, i + 1, e', q => Plain.at h.2 (i := i) q
/-- the frame as it stands now, taken as a start -/
def NN.now (N : NN) (F H : Hp) (E : XK) : NN := ⟨F, H, fun a => ∃ p c, N.S = some (p, c) ∧ (a = p ∨ a = c), N.S, E, fun _ => none⟩
theorem HS.now {σ : L2.St} {F H : Hp} {E : XK} (hs : HS N Γ σ F H) (hp : Plain Γ) : HS (N.now F H E) Γ σ F H := by
  refine ⟨⟨hs.w.fh, Same.refl F, fun a o z => .inl z, fun a o _ z => z, fun a z => z, hs.w.sr, fun p c z => ⟨.inr ⟨p, c, z, .inl rfl⟩, .inr ⟨p, c, z, .inr rfl⟩⟩, fun a o z => (nomatch z)⟩, hs.sl.imp fun i e o h1 h2 s => ?_, hs.ds⟩
  have := hp.at h1
  cases e with
  | dead => trivial
  | per a => exact s
  | src => exact s
  | lst xs => exact this.elim
  | ins C fs w => exact this.elim
  | bor xs => exact this.elim
  | ptr p => exact this.elim
  | gen R b => exact this.elim
theorem nowB {N : NN} : ∀ a : Addr, (fun a => ∃ p c, N.S = some (p, c) ∧ (a = p ∨ a = c) : Addr → Prop) a → ∃ p c, N.S = some (p, c) ∧ N.S = some (p, c) ∧ (a = p ∨ a = c) := fun a ⟨p, c, x, y⟩ => ⟨p, c, x, x, y⟩
def hV (G : Glob) {β : Type} (l : List (Hd β)) : List (Value × (Addr → Value → Option Addr → TS)) := l.map fun h => (.ref (G.exc h.c), h.ts)
theorem many_ok {Γi : β → Env G} {known : List String} {σ : L2.St} {F H : Hp} {D : Ends} {Wout : WX} {e : Exc} {C : Value} {d : Option Addr} (hs : HS N Γ σ F H) (er : ERep G e C d F H) : ∀ (l : List (Hd β)),
    (∀ h ∈ l, ∀ a cls d, SV N Γ (h.ts a cls d) (JN N Γi) h.p) → (∀ y, ∀ h ∈ l, (y = h.c ∨ y ∈ known) → PySem.W.exmOne G.K (.ref (G.exc y)) (.ref (G.exc h.c)) = some (decide (y = h.c))) →
    (match hsel known e (l.map fun h => (h.c, h.p)) with
    | some p => wp p (fun b => (JN N Γi).J F b D) (EP G N)
    | none => Wout C d σ H) → wMany G.K Wout D (hV G l) C d σ H
  | [], _, _, q => q
  | h :: l, hsv, hx, q => by
    have eC : C = .ref (G.exc e.cls) := er.1
    unfold hV
    rw [List.map_cons]
    show ∃ b, PySem.W.exmOne G.K C (.ref (G.exc h.c)) = some b ∧ (b = true → ∀ a, H a = none → h.ts a C d D σ H) ∧ (b = false → wMany G.K Wout D (hV G l) C d σ H)
    rw [List.map_cons] at q
    unfold hsel at q
    by_cases h1 : e.cls = h.c
    · rw [if_pos h1] at q
      refine ⟨true, ?_, fun _ a _ => hsv h List.mem_cons_self a C d σ F H D hs q, fun z => (nomatch z)⟩
      rw [eC, hx e.cls h List.mem_cons_self (.inl h1), decide_eq_true h1]
    · rw [if_neg h1] at q
      by_cases h2 : e.cls ∈ known
      · rw [if_pos h2] at q
        refine ⟨false, ?_, fun z => (nomatch z), fun _ => many_ok hs er l (fun h m => hsv h (List.mem_cons_of_mem _ m)) (fun y h m => hx y h (List.mem_cons_of_mem _ m)) q⟩
        rw [eC, hx e.cls h List.mem_cons_self (.inr h2), decide_eq_false h1]
      · rw [if_neg h2] at q
        exact q.elim
theorem sv_try {Γi : β → Env G} {te : XK → TE} {m : Prog α} {b0 : β} {known : List String} {l : List (Hd β)} {J : Aim ω} {k : β → Prog ω} (hp : Plain Γ)
    (h : ∀ N' : NN, N'.S = N.S → EV N' Γ (te N'.E) m) (hw0 : ∀ σ F H, HS N Γ σ F H → HS N (Γi b0) σ F H)
    (hsv : ∀ h ∈ l, ∀ a cls d, SV N Γ (h.ts a cls d) (JN N Γi) h.p) (hx : ∀ y, ∀ h ∈ l, (y = h.c ∨ y ∈ known) → PySem.W.exmOne G.K (.ref (G.exc y)) (.ref (G.exc h.c)) = some (decide (y = h.c)))
    (hk : ∀ b, SV N (Γi b) tz J (k b)) :
    SV N Γ (tSeq (fun D σ H => tSeq (tDrop (fun σ H Q => te (fun c d H => wMany G.K (fun c d _ H => N.E c d H) D (hV G l) c d σ H) σ H Q)) tNext D σ H) tz) J (catchP (fun e => hsel known e (l.map fun h => (h.c, h.p))) (m >>= fun _ => .ok b0) >>= k) := fun σ F H D hs q => by
  have q1 := wp_catch.1 (wp_bind.1 q)
  have q2 := wp_bind.1 q1
  let E' : XK := fun c d H => wMany G.K (fun c d _ H => N.E c d H) { D with nx := tz D } (hV G l) c d σ H
  have hn : HS (N.now F H E') Γ σ F H := hs.now hp
  refine h (N.now F H E') rfl σ F H hn _ (wp_imp q2 (fun a kk v F' H' hs' e r => ?_) fun e he F' H' C d w r => ?_)
  · obtain ⟨h2, e2⟩ := hs.call nowB hs'.w
    exact hk b0 σ F' H' D (hw0 _ _ _ h2) (wp_mono kk fun o x => J.mono e2 x)
  · obtain ⟨h2, e2⟩ := hs.call nowB w
    refine many_ok (Γi := Γi) (known := known) h2 r l hsv hx ?_
    revert he
    cases hsel known e (l.map fun h => (h.c, h.p)) with
    | some p => exact fun he => wp_mono he fun b kk σ2 F2 H2 hs2 e3 => hk b σ2 F2 H2 D hs2 (wp_mono kk fun o x => J.mono (Same.trans e2 e3) x)
    | none => exact fun he => he F' H' C d h2.w r
end
end Ty

namespace Ty
open PySem PySem.Spec PyProof.Rows L2
open Enc (enc)
variable {G : Glob}
/-! an own exception with two fields -/
def SpXi2 (C : Addr) (f1 f2 : Str) : Sp := fun vs H Q _ => ∃ a v1 v2, vs = [.ref a, v1, v2] ∧ H a = some (exo a C none) ∧ ∀ dx, H dx = none → dx ≠ a → Q .non (upd (upd (upd H dx (exd dx [(f1, v1)])) a (exo a C (some dx))) dx (exd dx [(f2, v2), (f1, v1)]))
structure Xi2 (G : Glob) (mg : Str → Option Value) (nm : Str) (x : String) (f1 f2 : Str) (qual : Str) (st : Stmt) (ps : List Str) where
  f : Addr
  fd : FuncData
  Fu : Fun G.K "__init__" qual st f fd
  b : Binds G.K fd ps []
  g : mg nm = some (.ref (G.exc x))
  T : OexC G.K (G.exc x)
  iC : PySem.W.findIn G.K (.ref (G.exc x)) "__init__" = some (some (.ref f))
  tI : PySem.W.typeIn G.K (.ref f) = some (.type "function")
  n1 : PySem.W.findIn G.K (.ref (G.exc x)) f1 = some none
  n2 : PySem.W.findIn G.K (.ref (G.exc x)) f2 = some none
  xf : XfC G.K (G.exc x)
theorem fn_xi2 {P : Program} {w : World} {mg : Str → Option Value} {base : Heap} {nm f1 f2 qual : Str} {x : String} {st : Stmt} {ps Ns : List Str} (I : Xi2 G mg nm x f1 f2 qual st ps) (S : FnScope Ns ps (defScope st)) (hNs : Ns.length = 3) (hps : ps.length = 3)
    (hb : ∀ (cdv : Value) (A : Around) (outer : List PySem.Env) (s : Shared) (H : Hp) (E : XK), PSs (cxOf (L2.CX P w) P w G.K mg base Ns qual (defScope st) I.f cdv A outer s H E) (defBody st) (tSeq (tOst G.K f1 (tVar 0) (tVar 1)) (tSeq (tOst G.K f2 (tVar 0) (tVar 2)) tNext))) :
    FnOk P w G.K mg base (L2.CX P w) 1 I.f I.fd ps (SpXi2 (G.exc x) f1 f2) :=
  I.Fu.okX S (fun vs H Q E ⟨a, v1, v2, e, _⟩ => by rw [e, hps]; rfl) fun cdv A outer s H vs Q E hr ⟨a, v1, v2, e, ha, q⟩ => by
    subst e
    refine ⟨_, hb cdv A outer s H E, ?_⟩
    match Ns, hNs with
    | [m1, m2, m3], _ =>
      refine ⟨v1, rfl, .ref a, rfl, a, G.exc x, rfl, I.T, I.n1, .inl ⟨ha, fun dx hdx ne => ?_⟩⟩
      refine ⟨v2, rfl, .ref a, rfl, a, G.exc x, rfl, I.T, I.n2, .inr ⟨dx, [(f1, v1)], upd_same, ?_, by show 1 ≤ 900; decide, ?_⟩⟩
      · rw [upd_ne ne]; exact upd_same
      · exact q dx hdx ne
section
variable {α β ω : Type} [iα : Enc α] [iβ : Enc β] {N : NN} {Γ : Env G} {ta tb : TE} {tz : TS} {m1 : Prog α} {m2 : Prog β}
theorem sx_raise2 {x : String} {f1 f2 : Str} (hf : fieldsOf x = [f2, f1]) (h1 : EV N Γ ta m1) (h2 : EV N Γ tb m2) :
    SX N Γ (tSeq (fun _ σ H => tMkO (G.exc x) (SpXi2 (G.exc x) f1 f2) [] (tCons ta (tCons tb tNil)) σ H fun cls d H' => N.E cls d H') tz) (m1 >>= fun a => m2 >>= fun b => .ok ⟨x, [enc b, enc a]⟩) := fun σ F H D hs q =>
  h1 σ F H hs _ (wp_mono (wp_bind.1 q) fun a q1 v1 F1 H1 hs1 e1 r1 => h2 σ F1 H1 hs1 _ (wp_mono (wp_bind.1 q1) fun b q2 v2 F2 H2 hs2 e2 r2 => by
    refine ⟨by show 2 ≤ 1000; decide, fun e he => ⟨e, v1, v2, rfl, upd_same, fun dx hdx ne => ⟨rfl, dx, [(f2, v2), (f1, v1)], ?_, upd_same, ?_, ?_⟩⟩⟩
    · rw [upd_ne (Ne.symm ne)]; exact upd_same
    · rw [upd_ne ne] at hdx; exact hdx
    · have hd2 : H2 dx = none := by rw [upd_ne ne] at hdx; exact hdx
      obtain ⟨hs3, e3⟩ := hs2.laid (o := .xd [(f2, v2), (f1, v1)]) hd2
      have eh : upd (del (upd (upd (upd (upd H2 e (exo e (G.exc x) none)) dx (exd dx [(f1, v1)])) e (exo e (G.exc x) (some dx))) dx (exd dx [(f2, v2), (f1, v1)])) e) dx (.xd [(f2, v2), (f1, v1)]) = upd H2 dx (.xd [(f2, v2), (f1, v1)]) := by
        funext b
        by_cases hb : b = dx
        · subst hb; rw [upd_same, upd_same]
        · rw [upd_ne hb, upd_ne hb]
          by_cases hbe : b = e
          · subst hbe; rw [del_same, he]
          · rw [del_ne hbe, upd_ne hb, upd_ne hbe, upd_ne hb, upd_ne hbe]
      show N.E _ _ _
      rw [eh]
      refine q2 _ _ _ (some dx) hs3.w ⟨rfl, .inr ⟨dx, [v2, v1], rfl, ?_, by rw [hf]; rfl, .cons (dp_same e3 _ _ r2) (.cons (dp_same (Same.trans e2 e3) _ _ r1) .nil), by rw [hf]; simp⟩⟩
      rw [upd_same, hf]
      rfl))
/-- a block that calls what never comes back -/
def outP {ω : Type} (n : Prog α) : Prog ω := n >>= fun _ => .stuck
theorem wp_out {α ω : Type} {n : Prog α} {P : ω → Prop} {E : Exc → Prop} : wp (outP n : Prog ω) P E ↔ wp n (fun _ => False) E := by
  unfold outP
  rw [wp_bind]
  exact Iff.rfl
theorem sv_ifout {ρ ξ : Type} [Rp G ρ] {tt : TT} {J : Aim ω} {m0 : Prog Bool} {n : Prog (ρ × ξ)} {Γx : ξ → Env G} {m2 : Prog ω} (h0 : TV N Γ tt m0) (h1 : EVX N Γ ta n Γx) (h2 : SV N Γ tz J m2) : SV N Γ (tSeq (tIfS tt (tSeq (tDrop ta) tNext) tNext) tz) J (m0 >>= fun c => if c then outP n else m2) := fun σ F H D hs q =>
  h0 σ F H hs _ (wp_mono (wp_bind.1 q) fun b k F' H' hs' e => by
    cases b with
    | true => exact h1 σ F' H' hs' _ (wp_mono (wp_out.1 k) fun _ z => z.elim)
    | false => exact h2 σ F' H' D hs' (wp_mono k fun o x => J.mono e x))
end
/-! except X as e, of a class with fields -/
structure XObj where
  a : Addr
  dd : Addr
  cls : String
  args : List PyData
instance rpX : Rp G XObj := ⟨fun x v F => v = .ref x.a ∧ ∃ vs, F x.dd = some (.xd ((fieldsOf x.cls).zip vs)) ∧ (fieldsOf x.cls).length = vs.length ∧ DqAll G.K F vs x.args, fun e ⟨h1, vs, h2, h3, h4⟩ => ⟨h1, vs, e _ _ h2, h3, dpAll_same e _ _ h4⟩⟩
def argX (args : List PyData) (j : Nat) : Prog PyData := match args[j]? with
  | some d => .ok d
  | none => .stuck
theorem zip_lookup {n : Str} {v : V} : ∀ {ns : List Str} {vs : List V} {j : Nat}, ns.idxOf n = j → ns[j]? = some n → vs[j]? = some v → (ns.zip vs).lookup n = some v
  | [], _, j, _, h, _ => by simp at h
  | m :: ns, [], j, _, _, h => by simp at h
  | m :: ns, u :: vs, j, hi, hn, hv => by
    rw [List.zip_cons_cons, List.lookup_cons]
    rw [List.idxOf_cons] at hi
    by_cases e : m = n
    · subst e
      have hj : j = 0 := by rw [← hi]; simp
      subst hj
      have : u = v := Option.some.inj hv
      subst this
      simp
    · have e1 : (n == m) = false := beq_eq_false_iff_ne.2 fun z => e z.symm
      have e2 : (m == n) = false := beq_eq_false_iff_ne.2 e
      rw [e2] at hi
      simp at hi
      rw [e1]
      cases j with
      | zero => omega
      | succ j =>
        have hj : ns.idxOf n = j := by omega
        exact zip_lookup hj hn hv
section
variable {β ω α : Type} [iα : Rp G α] {N : NN} {Γ : Env G} {tz : TS} {i : Nat}
theorem ev_xf {x : XObj} {C : Addr} {n : Str} (j : Nat) (hi : Γ[i]? = some (.per x)) (hk : (fieldsOf x.cls).idxOf n = j) (hn : (fieldsOf x.cls)[j]? = some n) : EV N Γ (tXf x.a (.ref C) (some x.dd) C n (tVar i)) (argX x.args j) := fun σ F H hs Q q => by
  obtain ⟨o, e0, v, e1, h1, vs, h2, h3, h4⟩ := hs.sl.get hi
  subst e1 h1
  refine ⟨_, e0, rfl, rfl, x.dd, (fieldsOf x.cls).zip vs, ?_⟩
  unfold argX at q
  cases hc : x.args[j]? with
  | none => rw [hc] at q; exact q.elim
  | some d =>
    rw [hc] at q
    obtain ⟨v, hv, dv⟩ := dpAll_at (α := PyData) (xs := x.args) (F := F) (K := G.K) (vs := vs) (by rw [show x.args.map (enc : PyData → PyData) = x.args from List.map_id _]; exact h4) hc
    exact ⟨v, rfl, hs.w.fh _ _ h2, zip_lookup hk hn hv, q v F H hs (Same.refl F) dv⟩
theorem HS.drop {σ : L2.St} {F H : Hp} (hs : HS N Γ σ F H) (hi : Γ[i]? = some .dead ∨ Γ[i]? = none) (o : Option V) : HS N Γ (σ.set i o) F H := by
  refine ⟨hs.w, Slots.of (by rw [List.length_set]; exact hs.sl.len) fun j e u h1 h2 => ?_, fun j k e e' p h1 h2 o1 o2 s1 s2 => ?_⟩
  · by_cases hj : j = i
    · subst hj
      rcases hi with z | z
      · rw [z] at h1; cases h1; trivial
      · rw [z] at h1; cases h1
    · rw [List.getElem?_set_ne (Ne.symm hj)] at h2
      obtain ⟨o', e1, s⟩ := hs.sl.get h1
      rw [h2] at e1; cases e1; exact s
  · have ne : ∀ {j : Nat} {e : Ent G}, Γ[j]? = some e → e.own = true → j ≠ i := fun {j e} h o z => by
      subst z
      rcases hi with z | z
      · rw [z] at h; cases h; cases o
      · rw [z] at h; cases h
    rw [List.getElem?_set_ne (Ne.symm (ne h1 o1))] at s1
    rw [List.getElem?_set_ne (Ne.symm (ne h2 o2))] at s2
    exact hs.ds j k e e' p h1 h2 o1 o2 s1 s2
theorem sv_tryas {Γi : β → Env G} {te : XK → TE} {m : Prog α} {b0 : β} {known : List String} {c : String} {p : Exc → Prog β} {ts : Addr → Value → Option Addr → TS} {J : Aim ω} {k : β → Prog ω} (hp : Plain Γ) (hfc : fieldsOf c ≠ [])
    (h : ∀ N' : NN, N'.S = N.S → EV N' Γ (te N'.E) m) (hw0 : ∀ σ F H, HS N Γ σ F H → HS N (Γi b0) σ F H)
    (hdead : ∀ b, (Γi b)[i]? = some .dead) (harg : ∀ e : Exc, e.cls = c → e.args = [] → p e = .stuck)
    (hsv : ∀ a dd (e : Exc), e.cls = c → SV N (Γ.set i (.per (XObj.mk a dd c e.args))) (ts a (.ref (G.exc c)) (some dd)) (JN N Γi) (p e))
    (hx : ∀ y, (y = c ∨ y ∈ known) → PySem.W.exmOne G.K (.ref (G.exc y)) (.ref (G.exc c)) = some (decide (y = c)))
    (hk : ∀ b, SV N (Γi b) tz J (k b)) :
    SV N Γ (tSeq (fun D σ H => tSeq (tDrop (fun σ H Q => te (fun cl d H => wAs G.K (.ref (G.exc c)) i ts (fun cl d _ H => N.E cl d H) D cl d σ H) σ H Q)) tNext D σ H) tz) J (catchP (fun e => if e.cls = c then some (p e) else if e.cls ∈ known then none else some .stuck) (m >>= fun _ => .ok b0) >>= k) := fun σ F H D hs q => by
  have q1 := wp_catch.1 (wp_bind.1 q)
  have q2 := wp_bind.1 q1
  let E' : XK := fun cl d H => wAs G.K (.ref (G.exc c)) i ts (fun cl d _ H => N.E cl d H) { D with nx := tz D } cl d σ H
  have hn : HS (N.now F H E') Γ σ F H := hs.now hp
  refine h (N.now F H E') rfl σ F H hn _ (wp_imp q2 (fun a kk v F' H' hs' e r => ?_) fun e he F' H' C d w r => ?_)
  · obtain ⟨h2, e2⟩ := hs.call nowB hs'.w
    exact hk b0 σ F' H' D (hw0 _ _ _ h2) (wp_mono kk fun o x => J.mono e2 x)
  · obtain ⟨h2, e2⟩ := hs.call nowB w
    have eC : C = .ref (G.exc e.cls) := r.1
    show ∃ b, PySem.W.exmOne G.K C (.ref (G.exc c)) = some b ∧ _
    by_cases h1 : e.cls = c
    · rw [if_pos h1] at he
      refine ⟨true, by rw [eC, hx e.cls (.inl h1), decide_eq_true h1], fun _ a _ => ?_, fun z => (nomatch z)⟩
      rcases r.2 with ⟨ea, ed⟩ | ⟨dx, vs, ed, hF, hl, da, _⟩
      · have he : wp (p e) _ _ := he
        rw [harg e h1 ea] at he
        exact he.elim
      · subst ed
        rw [eC, h1]
        have rx : Rp.rp (G := G) (XObj.mk a dx c e.args) (.ref a) F' := ⟨rfl, vs, by rw [← h1]; exact hF, by rw [← h1]; exact hl, da⟩
        refine hsv a dx e h1 _ F' H' _ (h2.setPer i rx) (wp_mono he fun b kk σ2 F2 H2 hs2 e3 => ?_)
        exact hk b _ F2 H2 D (hs2.drop (.inl (hdead b)) none) (wp_mono kk fun o x => J.mono (Same.trans e2 e3) x)
    · rw [if_neg h1] at he
      by_cases h3 : e.cls ∈ known
      · rw [if_pos h3] at he
        exact ⟨false, by rw [eC, hx e.cls (.inr h3), decide_eq_false h1], fun z => (nomatch z), fun _ => he F' H' C d h2.w r⟩
      · rw [if_neg h3] at he
        exact he.elim
end
theorem exm_mk {K : PySem.W.Frag} {Y X : Addr} {v : Bool} (b : PySem.W.subIn K (.ref X) (.type "BaseException") = some true) (i : PySem.W.isClsIn K X = true) (t : PySem.W.typeIn K (.ref X) = some (.type "type")) (s : PySem.W.subIn K (.ref Y) (.ref X) = some v) : PySem.W.exmOne K (.ref Y) (.ref X) = some v := by
  unfold PySem.W.exmOne
  rw [if_pos (by rw [b]; rfl)]
  unfold PySem.W.kitCls
  have i' : (PySem.W.clsIn K X).isSome = true := i
  show (if ((PySem.W.clsIn K X).isSome && PySem.W.typeIn K (.ref X) == some (.type "type")) = true then PySem.W.subIn K (.ref Y) (.ref X) else none) = some v
  rw [if_pos (by rw [i', t]; simp)]
  exact s
theorem opv_ninS : OPV (G := G) (α := Tx) (β := Tx) (γ := Bool) (fun x y H Q => ∃ i j, x = .str i ∧ y = .str j ∧ Q (.bl (!(!(Builtin.Str.occurrences j i 0 j.length 1).isEmpty))) H) (fun a b => .ok (!subS a b)) := fun N Γ σ F H x y a b hs ra rb Q q => by
  have e1 : x = .str (sx a) := Scl.dp (α := Tx) ra
  have e2 : y = .str (sx b) := Scl.dp (α := Tx) rb
  exact ⟨sx a, sx b, e1, e2, q _ F H hs (Same.refl F) (.bl _)⟩
end Ty

namespace TyL
open PySem PySem.Spec PyProof.Rows L2
section
variable {X : Cx}
def rInDT (K : PySem.W.Frag) (neg : Bool) : R2 := fun x y H Q => ∃ d ds, Dp K H x d ∧ Dp K H y (.tuple ds) ∧ SeqAt.shaped d = true ∧ SeqAt.shaped (.tuple ds) = true ∧ Q (.bl (if neg then !ds.any fun z => PyData.eqv z d else ds.any fun z => PyData.eqv z d)) H
theorem op_inDT (hu : X.A.units + 65 < cLine) : OpR X (compareOp .In) (rInDT X.K false) := by
  intro pins s σ H x y v u Q I rx ry h
  obtain ⟨d, ds, hd, he, sd, se, q⟩ := h
  obtain ⟨as, r1⟩ := Dp.reads I d x v hd rx
  obtain ⟨bs, r2⟩ := Dp.reads I (.tuple ds) y u he ry
  exact SeqAt.in_tuple_reads r2 r1 (SeqAt.canLay_of_shaped se) (SeqAt.canLay_of_shaped sd) (room_in_shaped sd hu) ⟨.bl _, H, I, rfl, q⟩
theorem op_notInDT (hu : X.A.units + 65 < cLine) : OpR X (compareOp .NotIn) (rInDT X.K true) := by
  intro pins s σ H x y v u Q I rx ry h
  obtain ⟨d, ds, hd, he, sd, se, q⟩ := h
  obtain ⟨as, r1⟩ := Dp.reads I d x v hd rx
  obtain ⟨bs, r2⟩ := Dp.reads I (.tuple ds) y u he ry
  exact SeqAt.notIn_tuple_reads r2 r1 (SeqAt.canLay_of_shaped se) (SeqAt.canLay_of_shaped sd) (room_in_shaped sd hu) ⟨.bl _, H, I, rfl, q⟩
end
theorem room65 {k : Nat} {A : Around} (h : Room k A) : A.units + 65 < cLine := by
  have := h.un
  omega
end TyL
namespace Ty
open PySem PySem.Spec PyProof.Rows L2
open Enc (enc)
variable {G : Glob}
section
variable {α : Type} [iα : Enc α]
def inDT (a : α) (xs : List α) : Prog Bool := chk (SeqAt.shaped (enc a) && SeqAt.shaped (.tuple (xs.map enc))) (.ok ((xs.map enc).any fun z => PyData.eqv z (enc a)))
def inDL (a : α) (xs : List α) : Prog Bool := chk (SeqAt.shaped (enc a) && SeqAt.shaped (.list (xs.map enc))) (.ok ((xs.map enc).any fun z => PyData.eqv z (enc a)))
theorem opv_inDT : OPV (G := G) (α := α) (β := List α) (γ := Bool) (TyL.rInDT G.K false) inDT := fun N Γ σ F H x y a b hs ra rb Q q => by
  obtain ⟨h, q⟩ := wp_chk q
  obtain ⟨h1, h2⟩ := Bool.and_eq_true_iff.1 h
  exact ⟨enc a, b.map enc, dq_dp _ _ (dp_same hs.w.fh _ _ ra), dq_dp _ _ (dp_same hs.w.fh _ _ rb), h1, h2, q _ F H hs (Same.refl F) (.bl _)⟩
theorem opv_ninDT : OPV (G := G) (α := α) (β := List α) (γ := Bool) (TyL.rInDT G.K true) (fun a xs => inDT a xs >>= fun b => .ok (!b)) := fun N Γ σ F H x y a b hs ra rb Q q => by
  obtain ⟨h, q⟩ := wp_chk (wp_bind.1 q)
  obtain ⟨h1, h2⟩ := Bool.and_eq_true_iff.1 h
  exact ⟨enc a, b.map enc, dq_dp _ _ (dp_same hs.w.fh _ _ ra), dq_dp _ _ (dp_same hs.w.fh _ _ rb), h1, h2, q _ F H hs (Same.refl F) (.bl _)⟩
theorem opv_inDL : OPV (G := G) (α := α) (β := L α) (γ := Bool) (rInD G.K) (fun a xs => inDL a (un xs)) := fun N Γ σ F H x y a (b : List α) hs ra rb Q q => by
  obtain ⟨h, q⟩ := wp_chk q
  obtain ⟨h1, h2⟩ := Bool.and_eq_true_iff.1 h
  exact ⟨enc a, b.map enc, dq_dp _ _ (dp_same hs.w.fh _ _ ra), dq_dp _ _ (dp_same hs.w.fh _ _ rb), h1, h2, q _ F H hs (Same.refl F) (.bl _)⟩
theorem opv_ninDL : OPV (G := G) (α := α) (β := L α) (γ := Bool) (rNotInD G.K) (fun a xs => inDL a (un xs) >>= fun b => .ok (!b)) := fun N Γ σ F H x y a (b : List α) hs ra rb Q q => by
  obtain ⟨h, q⟩ := wp_chk (wp_bind.1 q)
  obtain ⟨h1, h2⟩ := Bool.and_eq_true_iff.1 h
  exact ⟨enc a, b.map enc, dq_dp _ _ (dp_same hs.w.fh _ _ ra), dq_dp _ _ (dp_same hs.w.fh _ _ rb), h1, h2, q _ F H hs (Same.refl F) (.bl _)⟩
end
section
variable {α : Type} [Enc α] [DecidableEq α] [Shp α]
theorem any_eqv (a : α) : ∀ xs : List α, ((xs.map enc).any fun z => PyData.eqv z (enc a)) = decide (a ∈ xs)
  | [] => by simp
  | x :: xs => by
    rw [List.map_cons, List.any_cons, any_eqv a xs, Shp.eqv]
    by_cases h : x = a
    · simp [h]
    · simp [h, Ne.symm h]
theorem inDT_dec (h : Shp.dep α ≤ 63) {a : α} {xs : List α} (ha : Shp.ok a) (hx : ∀ x ∈ xs, Shp.ok x) : inDT a xs = .ok (decide (a ∈ xs)) := by
  have k : ∀ {β : Type} [Enc β] [DecidableEq β] [Shp β], Shp.dep β ≤ 64 → ∀ a : β, Shp.ok a → SeqAt.shaped (enc a) = true := fun hd a h' => by
    simp [SeqAt.shaped, Shp.lay a h', Nat.le_trans (Shp.dle a) hd]
  have k2 : SeqAt.shaped (.tuple (xs.map enc)) = true := k (β := List α) (show Shp.dep α + 1 ≤ 64 by omega) xs hx
  unfold inDT
  rw [k (by omega) a ha, k2, any_eqv]
  rfl
theorem inDL_dec (h : Shp.dep α ≤ 63) {a : α} {xs : List α} (ha : Shp.ok a) (hx : ∀ x ∈ xs, Shp.ok x) : inDL a xs = .ok (decide (a ∈ xs)) := by
  have k : ∀ {β : Type} [Enc β] [DecidableEq β] [Shp β], Shp.dep β ≤ 64 → ∀ a : β, Shp.ok a → SeqAt.shaped (enc a) = true := fun hd a h' => by
    simp [SeqAt.shaped, Shp.lay a h', Nat.le_trans (Shp.dle a) hd]
  have k2 : SeqAt.shaped (.list (xs.map enc)) = true := k (β := L α) (show Shp.dep α + 1 ≤ 64 by omega) xs hx
  unfold inDL
  rw [k (by omega) a ha, k2, any_eqv]
  rfl
end
/-! a name that may be unset -/
def mb {α : Type} [Rp G α] (o : Option α) : Ent G := match o with
  | none => .dead
  | some a => .per a
def fromSome {α : Type} (o : Option α) : Prog α := match o with
  | some a => .ok a
  | none => .stuck
theorem ev_mb {α : Type} [iα : Rp G α] {N : NN} {Γ : Env G} {i : Nat} {o : Option α} (h : Γ[i]? = some (mb o)) : EV N Γ (tVar i) (fromSome o) := by
  cases o with
  | none => exact fun σ F H hs Q q => q.elim
  | some a => exact ev_var h
theorem ev_some_of {α : Type} [Enc α] {N : NN} {Γ : Env G} {te : TE} {m : Prog (Option α)} (h : EV N Γ te m) : EV N Γ te (m >>= fromSome) := fun σ F H hs Q q =>
  h σ F H hs Q (wp_mono (wp_bind.1 q) fun o k v F' H' hs' e r => by
    cases o with
    | none => exact k.elim
    | some a => exact k v F' H' hs' e r)
end Ty

namespace Ty
open PySem PySem.Spec PyProof.Rows L2
/-! more of split and join -/
theorem spl_sum {c : Nat} (hc : c < 256) : ∀ (s acc : Tx), sumLen (TL.spl [c] 0 acc s) + (TL.spl [c] 0 acc s).length = acc.length + s.length + 1
  | [], acc => by rw [TL.spl_nil]; simp [sumLen]
  | x :: s, acc => by
    by_cases h : TL.pre [c] (x :: s) = true
    · rw [TL.spl_hit h]
      have := spl_sum hc s []
      simp [sumLen] at this ⊢
      omega
    · rw [TL.spl_miss (by simpa using h)]
      have := spl_sum hc s (acc ++ [x])
      simp at this ⊢
      omega
theorem splitT_sum {c : Nat} (hc : c < 256) (s : Tx) : sumLen (splitT s [c]) + (splitT s [c]).length = s.length + 1 := by
  rw [splitT_eq hc, spl_sum hc]
  simp
theorem spl_mem {c : Nat} (hc : c < 256) : ∀ (s acc p : Tx), p ∈ TL.spl [c] 0 acc s → ∀ x ∈ p, x ∈ acc ∨ x ∈ s
  | [], acc, p, m, x, mx => by
    rw [TL.spl_nil] at m
    rw [List.mem_singleton.1 m] at mx
    exact .inl mx
  | y :: s, acc, p, m, x, mx => by
    by_cases h : TL.pre [c] (y :: s) = true
    · rw [TL.spl_hit h] at m
      rcases List.mem_cons.1 m with e | m
      · rw [e] at mx; exact .inl mx
      · rcases spl_mem hc s [] p m x mx with z | z
        · cases z
        · exact .inr (List.mem_cons_of_mem _ z)
    · rw [TL.spl_miss (by simpa using h)] at m
      rcases spl_mem hc s (acc ++ [y]) p m x mx with z | z
      · rcases List.mem_append.1 z with z | z
        · exact .inl z
        · rw [List.mem_singleton.1 z]; exact .inr List.mem_cons_self
      · exact .inr (List.mem_cons_of_mem _ z)
theorem splitT_mem {c : Nat} (hc : c < 256) {s p : Tx} (m : p ∈ splitT s [c]) : ∀ x ∈ p, x ∈ s := fun x mx => by
  rw [splitT_eq hc] at m
  rcases spl_mem hc s [] p m x mx with z | z
  · cases z
  · exact z
theorem sumLen_mem : ∀ {ps : List Tx} {p : Tx}, p ∈ ps → p.length ≤ sumLen ps
  | q :: ps, p, m => by
    unfold sumLen
    rw [List.map_cons, List.sum_cons]
    rcases List.mem_cons.1 m with e | m
    · rw [e]; omega
    · have := sumLen_mem m
      unfold sumLen at this
      omega
theorem splitT_part {c : Nat} (hc : c < 256) {s p : Tx} (m : p ∈ splitT s [c]) : p.length ≤ s.length := by
  have h1 := splitT_sum hc s
  have h2 := sumLen_mem m
  have h3 : 1 ≤ (splitT s [c]).length := List.length_pos_of_mem m
  omega
theorem flds_part_le {s p : Tx} (m : p ∈ flds s) : p.length ≤ s.length := splitT_part (by decide) (List.mem_filter.1 m).1
theorem flds_mem {s p : Tx} (m : p ∈ flds s) : ∀ x ∈ p, x ∈ s := splitT_mem (by decide) (List.mem_filter.1 m).1
theorem joinL_mem {a : Tx} : ∀ {ps : List Tx} {x : Nat}, x ∈ TL.joinL a ps → x ∈ a ∨ ∃ p ∈ ps, x ∈ p
  | [], x, h => by cases h
  | [p], x, h => by
    have h' : x ∈ p := by simpa [TL.joinL] using h
    exact .inr ⟨p, List.mem_cons_self, h'⟩
  | p :: q :: r, x, h => by
    simp only [TL.joinL] at h
    rcases List.mem_append.1 h with h | h
    · exact .inr ⟨p, List.mem_cons_self, h⟩
    · rcases List.mem_append.1 h with h | h
      · exact .inl h
      rcases joinL_mem (ps := q :: r) h with z | ⟨u, m, z⟩
      · exact .inl z
      · exact .inr ⟨u, List.mem_cons_of_mem _ m, z⟩
theorem sumLen_app (a b : List Tx) : sumLen (a ++ b) = sumLen a + sumLen b := by simp [sumLen]
theorem sumLen_take (ps : List Tx) (k : Nat) : sumLen (ps.take k) ≤ sumLen ps := by
  have e : sumLen (ps.take k) + sumLen (ps.drop k) = sumLen ps := by rw [← sumLen_app, List.take_append_drop]
  omega
theorem sumLen_td (ps : List Tx) (k j : Nat) (h : k ≤ j) : sumLen (ps.take k) + sumLen (ps.drop j) ≤ sumLen ps := by
  have e : sumLen (ps.take k) + sumLen (ps.drop k) = sumLen ps := by rw [← sumLen_app, List.take_append_drop]
  have e2 : ps.drop j = (ps.drop k).drop (j - k) := by rw [List.drop_drop]; congr 1; omega
  have e3 : sumLen ((ps.drop k).take (j - k)) + sumLen ((ps.drop k).drop (j - k)) = sumLen (ps.drop k) := by rw [← sumLen_app, List.take_append_drop]
  rw [e2]
  omega
end Ty

namespace TyL
open PySem PySem.Spec PyProof.Rows L2
/-! dicts whose keys are tuples, of any depth -/
mutual
def nkey : PyData → NestedKey
  | .none => .none
  | .bool b => .num (if b = true then 1 else 0)
  | .int i => .num i
  | .str x => .text x
  | .tuple ds => .tup (nkeys ds)
  | .list _ => .none
  | .dict _ => .none
def nkeys : List PyData → List NestedKey
  | [] => []
  | d :: ds => nkey d :: nkeys ds
end
mutual
def hshb : PyData → Bool
  | .none => true
  | .bool _ => true
  | .int _ => true
  | .str _ => true
  | .tuple ds => hshbs ds
  | .list _ => false
  | .dict _ => false
def hshbs : List PyData → Bool
  | [] => true
  | d :: ds => hshb d && hshbs ds
end
mutual
theorem reads_nested {h : Heap} : ∀ (d : PyData) (v : Value) (as : List Addr), Reads h v d as → hshb d = true → NestedIs h (nkey d) v
  | .none, _, _, r, _ => by cases r; exact .none
  | .bool b, _, _, r, _ => by cases r; exact .bool rfl
  | .int i, _, _, r, _ => by cases r; exact .int _ _
  | .str x, _, _, r, _ => by cases r; exact .text _ _
  | .tuple ds, _, _, r, hh => by
    cases r with
    | tuple h1 h2 h3 h4 => exact .tup h1 h2 h3 (readsAll_nested ds _ _ h4 hh)
  | .list _, _, _, _, hh => by cases hh
  | .dict _, _, _, _, hh => by cases hh
theorem readsAll_nested {h : Heap} : ∀ (ds : List PyData) (vs : List Value) (as : List Addr), ReadsAll h vs ds as → hshbs ds = true → NestedAll h (nkeys ds) vs
  | [], _, _, r, _ => by cases r; exact .nil
  | d :: ds, _, _, r, hh => by
    obtain ⟨a, b⟩ := Bool.and_eq_true_iff.1 hh
    cases r with
    | cons r1 r2 => exact .cons (reads_nested d _ _ r1 a) (readsAll_nested ds _ _ r2 b)
end
/-- the tuple at b is the key d -/
structure KeyD (K : PySem.W.Frag) (H : Hp) (d : PyData) (b : Addr) : Prop where
  dp : Dp K H (.ref b) d
  hs : hshb d = true
  de : (nkey d).depth ≤ 8
abbrev DXs := List (PyData × Addr × V)
def DXr (p : PyData × Addr × V) (q : NestedKey × Addr × Value) : Prop := nkey p.1 = q.1 ∧ p.2.1 = q.2.1 ∧ RelV p.2.2 q.2.2
def DX (P : Program) (w : World) (a : Addr) (xs : DXs) : HO := .ext fun h => (a == sysModules) = false ∧ xs.length ≤ sizeLine ∧ ∃ ys : List (NestedKey × Addr × Value), Paired DXr xs ys ∧ ∃ o es ep, h.get? a = some o ∧ o.ExactDict ∧ o.data = .dict es ep ∧ es.toList = ys.map (entryOfKey (nestedKind P w)) ∧ (ys.map (·.1)).Nodup
def lookX (xs : DXs) (k : NestedKey) : Option V := (xs.find? fun e => decide (nkey e.1 = k)).map (·.2.2)
def putX (xs : DXs) (d : PyData) (b : Addr) (v : V) : DXs := if (lookX xs (nkey d)).isSome = true then xs.map (fun e => if nkey e.1 = nkey d then (e.1, e.2.1, v) else e) else xs ++ [(d, b, v)]
theorem dxr_look : ∀ {xs : DXs} {ys : List (NestedKey × Addr × Value)} (k : NestedKey), Paired DXr xs ys → RelO (lookX xs k) ((atKey ys k).map (·.2))
  | _, _, k, .nil => trivial
  | p :: xs, q :: ys, k, .cons r t => by
    have ih := dxr_look k t
    unfold lookX atKey at ih ⊢
    rw [List.find?_cons, List.find?_cons, r.1]
    by_cases h : q.1 = k
    · rw [decide_eq_true h]
      exact r.2.2
    · rw [decide_eq_false h]
      exact ih
theorem relO_isSome {x : Option V} {y : Option Value} (r : RelO x y) : x.isSome = y.isSome := by
  cases x <;> cases y <;> first | rfl | exact r.elim
theorem dxr_at {xs : DXs} {ys : List (NestedKey × Addr × Value)} (k : NestedKey) (r : Paired DXr xs ys) : (lookX xs k).isSome = (atKey ys k).isSome := by
  have := relO_isSome (dxr_look k r)
  rw [this, Option.isSome_map]
theorem dxr_put {xs : DXs} {ys : List (NestedKey × Addr × Value)} {d : PyData} {b : Addr} {v : V} {u : Value} (r : Paired DXr xs ys) (rv : RelV v u) : Paired DXr (putX xs d b v) (storedH ys (nkey d) b u) := by
  unfold putX storedH
  rw [dxr_at _ r]
  by_cases h : (atKey ys (nkey d)).isSome = true
  · rw [if_pos h, if_pos h]
    clear h
    induction r with
    | nil => exact .nil
    | cons r t ih =>
      rename_i p q xs ys
      refine .cons ?_ ih
      unfold putAt
      dsimp only
      by_cases e : q.1 = nkey d
      · rw [if_pos (r.1.trans e), if_pos e]
        exact ⟨r.1, r.2.1, rv⟩
      · rw [if_neg (fun z => e (r.1.symm.trans z)), if_neg e]
        exact r
  · rw [if_neg h, if_neg h]
    clear h
    induction r with
    | nil => exact .cons ⟨rfl, rfl, rv⟩ .nil
    | cons r t ih => exact .cons r ih
theorem putX_len (xs : DXs) (d : PyData) (b : Addr) (v : V) : (putX xs d b v).length ≤ xs.length + 1 := by
  unfold putX
  split
  · rw [List.length_map]; omega
  · simp
theorem dx_stay {P : Program} {w : World} {a : Addr} {xs : DXs} {h1 h2 : Heap} (x : (fun h : Heap => (a == sysModules) = false ∧ xs.length ≤ sizeLine ∧ ∃ ys : List (NestedKey × Addr × Value), Paired DXr xs ys ∧ ∃ o es ep, h.get? a = some o ∧ o.ExactDict ∧ o.data = .dict es ep ∧ es.toList = ys.map (entryOfKey (nestedKind P w)) ∧ (ys.map (·.1)).Nodup) h1) (k : ∀ o, h1.get? a = some o → h2.get? a = some o) :
    (fun h : Heap => (a == sysModules) = false ∧ xs.length ≤ sizeLine ∧ ∃ ys : List (NestedKey × Addr × Value), Paired DXr xs ys ∧ ∃ o es ep, h.get? a = some o ∧ o.ExactDict ∧ o.data = .dict es ep ∧ es.toList = ys.map (entryOfKey (nestedKind P w)) ∧ (ys.map (·.1)).Nodup) h2 := by
  obtain ⟨h1, h2, ys, r, o, es, ep, ho, q⟩ := x
  exact ⟨h1, h2, ys, r, o, es, ep, k o ho, q⟩
theorem dx_new {P : Program} {w : World} {H : Hp} {h : Heap} {a : Addr} {xs : DXs} {ys : List (NestedKey × Addr × Value)} (hd : (a == sysModules) = false) (hl : xs.length ≤ sizeLine) (r : Paired DXr xs ys) (m : h.DictOfH (nestedKind P w) a ys) : ObjOk P w H h a (DX P w a xs) := by
  obtain ⟨o, es, ep, h1, h2, h3, h4, h5, h6⟩ := m
  exact ⟨⟨hd, hl, ys, r, o, es, ep, h1, h2, h3, h4, h6⟩, ⟨o, h1⟩, fun _ _ x k => dx_stay x k⟩
section
variable {X : Cx} {pins : List (Addr × Obj)} {σ : L2.St} {H : Hp} {s : Shared} {a b : Addr} {xs : DXs} {d : PyData} {A : Around} {E : Value → Shared → Prop}
theorem key_is (I : L2.Inv X pins σ H s) (k : KeyD X.K H d b) : (nestedKind X.prog X.w).is s.heap (nkey d) b := by
  obtain ⟨as, r⟩ := Dp.reads I d (.ref b) (.ref b) k.dp rfl
  exact ⟨reads_nested d _ _ r k.hs, k.de⟩
theorem dxr_keys {P : Program} {w : World} {h : Heap} : ∀ {xs : DXs} {ys : List (NestedKey × Addr × Value)}, Paired DXr xs ys → (∀ p ∈ xs, (nestedKind P w).is h (nkey p.1) p.2.1) → ∀ x ∈ ys, (nestedKind P w).is h x.1 x.2.1
  | _, _, .nil, _, x, mx => by cases mx
  | p :: xs, q :: ys, .cons r t, hk, x, mx => by
    rcases List.mem_cons.1 mx with e | mx
    · subst e
      have := hk p List.mem_cons_self
      rw [r.1, r.2.1] at this
      exact this
    · exact dxr_keys t (fun p mp => hk p (List.mem_cons_of_mem _ mp)) x mx
theorem dx_at (I : L2.Inv X pins σ H s) (e : Rd H a (DX X.prog X.w a xs)) (hk : ∀ p ∈ xs, KeyD X.K H p.1 p.2.1) : ∃ ys, Paired DXr xs ys ∧ s.heap.DictOfH (nestedKind X.prog X.w) a ys ∧ (a == sysModules) = false ∧ xs.length ≤ sizeLine := by
  obtain ⟨⟨hd, hl, ys, r, o, es, ep, h1, h2, h3, h4, h5⟩, _⟩ := e.ok I.hok
  exact ⟨ys, r, ⟨o, es, ep, h1, h2, h3, h4, dxr_keys r fun p mp => key_is I (hk p mp), h5⟩, hd, hl⟩
theorem room8 {P : Program} {w : World} (hu : A.units + 65 < cLine) : (nestedKind P w).room A.in1 := by
  show A.in1.units + 8 < cLine
  have : A.in1.units = A.units + 1 := rfl
  omega
theorem room80 {P : Program} {w : World} (hu : A.units + 65 < cLine) : (nestedKind P w).room A := by
  show A.units + 8 < cLine
  omega
theorem paired_len {α β : Type} {R : α → β → Prop} : ∀ {xs : List α} {ys : List β}, Paired R xs ys → xs.length = ys.length
  | _, _, .nil => rfl
  | _, _, .cons _ t => congrArg (· + 1) (paired_len t)
end
section
variable {X : Cx}
def rInX (P : Program) (w : World) (K : PySem.W.Frag) (neg : Bool) : R2 := fun x y H Q => ∃ a xs d b, x = .ref b ∧ y = .ref a ∧ Rd H a (DX P w a xs) ∧ (∀ p ∈ xs, KeyD K H p.1 p.2.1) ∧ KeyD K H d b ∧ Q (.bl (if neg then !(lookX xs (nkey d)).isSome else (lookX xs (nkey d)).isSome)) H
theorem val_some {kvs : List (NestedKey × Addr × Value)} {k : NestedKey} : valueAt (pairsH kvs) k = (atKey kvs k).map (·.2) := valueAt_pairsH kvs k
theorem op_inX (hu : X.A.units + 65 < cLine) : OpR X (compareOp .In) (rInX X.prog X.w X.K false) := by
  intro pins s σ H x y v u Q I rx ry h
  obtain ⟨a, xs, d, b, rfl, rfl, e, hk, kd, q⟩ := h
  obtain rfl : v = Value.ref b := rx
  obtain rfl : u = Value.ref a := ry
  obtain ⟨ys, r, m, hd, _⟩ := dx_at I e hk
  refine in_keyed (knd := nestedKind X.prog X.w) (room8 hu) (key_is I kd) hd ⟨ys, m, rfl⟩ ⟨.bl _, H, I.tok _, rfl, ?_⟩
  rw [val_some, Option.isSome_map, ← dxr_at _ r]
  exact q
theorem op_notInX (hu : X.A.units + 65 < cLine) : OpR X (compareOp .NotIn) (rInX X.prog X.w X.K true) := by
  intro pins s σ H x y v u Q I rx ry h
  obtain ⟨a, xs, d, b, rfl, rfl, e, hk, kd, q⟩ := h
  obtain rfl : v = Value.ref b := rx
  obtain rfl : u = Value.ref a := ry
  obtain ⟨ys, r, m, hd, _⟩ := dx_at I e hk
  refine notIn_keyed (knd := nestedKind X.prog X.w) (room8 hu) (key_is I kd) hd ⟨ys, m, rfl⟩ ⟨.bl _, H, I.tok _, rfl, ?_⟩
  rw [val_some, Option.isSome_map, ← dxr_at _ r]
  exact q
def rGetX (P : Program) (w : World) (K : PySem.W.Frag) : R2 := fun x y H Q => ∃ a xs d b v, x = .ref a ∧ y = .ref b ∧ Rd H a (DX P w a xs) ∧ (∀ p ∈ xs, KeyD K H p.1 p.2.1) ∧ KeyD K H d b ∧ lookX xs (nkey d) = some v ∧ Q v H
theorem pe_xget {o i : Expr} {pos : Pos} {td ty : TE} (hu : X.A.units + 65 < cLine) (ho : PE X o td) (hi : PE X i ty) (hs : NoSl i) : PE X (.Subscript o i pos) (tOp (rGetX X.prog X.w X.K) td ty) := by
  refine ⟨fun pins s σ H Q I h => ?_⟩
  refine subD_of PySem.F.slot_dict_getitem.lookup hs (thn (ho.run pins s σ H _ I h) fun u s1 ⟨x, H1, I1, rx, q1⟩ => thn (hi.run pins s1 σ H1 _ I1 q1) fun iv s2 ⟨y, H2, I2, ry, a, xs, d, b, v, ex, ey, e, hk, kd, hv, q2⟩ => ?_)
  subst ex ey
  obtain rfl : u = Value.ref a := rx
  obtain rfl : iv = Value.ref b := ry
  obtain ⟨ys, r, m, hd, _⟩ := dx_at I2 e hk
  have rl := dxr_look (nkey d) r
  rw [hv] at rl
  refine ⟨m.typeIs, ?_⟩
  cases hw : (atKey ys (nkey d)).map (·.2) with
  | none => rw [hw] at rl; exact rl.elim
  | some w' =>
    rw [hw] at rl
    exact getItem_keyed (knd := nestedKind X.prog X.w) (room8 hu) (key_is I2 kd) ⟨ys, m, rfl⟩ (by rw [val_some]; exact hw) ⟨v, H2, I2.tok _, rl, q2⟩
def IsX (P : Program) (w : World) (H : Hp) (a : Addr) : Prop := ∃ xs, Rd H a (DX P w a xs)
theorem isX_at {pins : List (Addr × Obj)} {σ : L2.St} {H : Hp} {s : Shared} {a : Addr} (I : L2.Inv X pins σ H s) (d : IsX X.prog X.w H a) : s.TypeIs (.ref a) "dict" ∧ (∀ b, Value.ref a = .ref b → ∃ ob, s.heap.get? b = some ob ∧ ob.dict = none) := by
  obtain ⟨xs, e⟩ := d
  obtain ⟨⟨hd, hl, ys, r, o, es, ep, h1, h2, h3, h4, h5⟩, _⟩ := e.ok I.hok
  refine ⟨⟨o, h1, h2.1⟩, fun b q => ?_⟩
  cases q
  exact ⟨o, h1, h2.2.1⟩
def tXGet2 (P : Program) (w : World) (K : PySem.W.Frag) (td ty tx : TE) : TE := fun σ H Q => td σ H fun x H1 => ∃ a, x = .ref a ∧ IsX P w H1 a ∧ ty σ H1 fun y H2 => tx σ H2 fun z H3 => ∃ xs d b, y = .ref b ∧ Rd H3 a (DX P w a xs) ∧ (∀ p ∈ xs, KeyD K H3 p.1 p.2.1) ∧ KeyD K H3 d b ∧ Q ((lookX xs (nkey d)).getD z) H3
theorem pe_xget2 {o e f : Expr} {apos cpos : Pos} {td ty tx : TE} (hu : X.A.units + 65 < cLine) (ho : PE X o td) (he : PE X e ty) (hf : PE X f tx) (m : M2 X o "get" apos e f cpos) : PE X (.Call (.Attribute o "get" apos) [e, f] [] cpos) (tXGet2 X.prog X.w X.K td ty tx) := by
  refine ⟨fun pins s σ H Q I h => ?_⟩
  refine wpAny_Call_method m.base m.few m.line PySem.F.plainAttrs_dict PySem.F.slot_dict_get PySem.F.type_dict_get (thn (ho.run pins s σ H _ I h) fun u s1 ⟨x, H1, I1, rx, a, ex, d, q1⟩ => ?_)
  subst ex
  obtain rfl : u = Value.ref a := rx
  obtain ⟨t1, t2⟩ := isX_at I1 d
  refine ⟨t1, t2, ?_⟩
  rw [m.trees]
  refine Calls.callWith_builtin rfl (Calls.evalArgs_plain (Calls.spliced_cons (thn (he.run pins s1 σ H1 _ I1 q1) fun iv s2 ⟨y, H2, I2, ry, q2⟩ =>
    Calls.spliced_cons (thn (hf.run pins s2 σ H2 _ I2 q2) fun fv s3 ⟨z, H3, I3, rz, xs, dd, b, ey, e, hk, kd, q3⟩ => Calls.spliced_nil ?_))))
  subst ey
  obtain rfl : iv = Value.ref b := ry
  obtain ⟨ys, r, mm, hd, _⟩ := dx_at I3 e hk
  refine getOr_keyed (knd := nestedKind X.prog X.w) (room8 hu) (key_is I3 kd) hd ⟨ys, mm, rfl⟩ ⟨_, H3, I3.tok _, ?_, q3⟩
  rw [val_some]
  have rl := dxr_look (nkey dd) r
  cases h1 : lookX xs (nkey dd) with
  | none =>
    rw [h1] at rl
    cases h2 : (atKey ys (nkey dd)).map (·.2) with
    | none => exact rz
    | some w' => rw [h2] at rl; exact rl.elim
  | some v =>
    rw [h1] at rl
    cases h2 : (atKey ys (nkey dd)).map (·.2) with
    | none => rw [h2] at rl; exact rl.elim
    | some w' => rw [h2] at rl; exact rl
def sXPut (P : Program) (w : World) (K : PySem.W.Frag) (td ty tv : TE) : TS := fun D σ H => tv σ H fun v H1 => td σ H1 fun x H2 => ty σ H2 fun y H3 => ∃ a xs d b, x = .ref a ∧ y = .ref b ∧ H3 a = some (DX P w a xs) ∧ (∀ p ∈ xs, KeyD K H3 p.1 p.2.1) ∧ KeyD K H3 d b ∧ xs.length < sizeLine ∧ D.nx σ (upd H3 a (DX P w a (putX xs d b v)))
theorem ps_xput {o i value : Expr} {pos pos' : Pos} {td ty tv : TE} (hu : X.A.units + 65 < cLine) (ho : PE X o td) (hi : PE X i ty) (hv : PE X value tv) (hs : swapsWith value (some (.Subscript o i pos')) pos.line X.env = pure false) :
    PS X (.Assign [.Subscript o i pos'] value pos) (sXPut X.prog X.w X.K td ty tv) := by
  refine ⟨fun pins s σ H D I h => ?_⟩
  refine wpAny_Assign_Subscript (thn (hv.run pins s σ H _ I h) fun r s1 ⟨v, H1, I1, rv, q1⟩ => thn (ho.run pins s1 σ H1 _ I1 q1) fun u s2 ⟨x, H2, I2, rx, q2⟩ => thn (hi.run pins s2 σ H2 _ I2 q2) fun iv s3 ⟨y, H3, I3, ry, a, xs, d, b, ex, ey, e, hk, kd, hz, q3⟩ => ?_) hs
  subst ex ey
  obtain rfl : u = Value.ref a := rx
  obtain rfl : iv = Value.ref b := ry
  obtain ⟨ys, r', m, hd, hl⟩ := dx_at I3 (.inl e) hk
  have hly := paired_len r'
  refine wpAny_setItem_heap (hsz := by omega) (knd := nestedKind X.prog X.w) (room8 hu) (key_is I3 kd) m fun h' m' hs' => ?_
  have he : ∃ q, h'.get? a = some q := let ⟨q, _, _, hq, _⟩ := m'; ⟨q, hq⟩
  refine ⟨σ, _, I3.write (x := a) (e := a) (by rw [e]; exact True.intro) (.inl rfl) (fun b q hb z => (hs'.2 b hb).trans z) he (dx_new hd (by have := putX_len xs d b v; omega) (dxr_put r' rv) m'), q3⟩
def tDNewX (P : Program) (w : World) : TE := fun _ H Q => ∀ p, H p = none → Q (.ref p) (upd H p (DX P w p []))
theorem dx_empty {P : Program} {w : World} {H : Hp} (h : Heap) (hb : sysModules < h.objs.size) : ObjOk P w H (h.push { cls := .type "dict", data := .dict #[] }) h.objs.size (DX P w h.objs.size []) :=
  dx_new (beq_eq_false_iff_ne.mpr (Ne.symm (Nat.ne_of_lt hb))) (Nat.zero_le _) .nil (Heap.DictOfH.new h)
theorem pe_dnewX {pos : Pos} : PE X (.Dict [] [] pos) (tDNewX X.prog X.w) := ⟨fun pins s σ H Q I h =>
  wpAny_Dict_empty ⟨.ref s.heap.objs.size, _, I.laid (a := s.heap.objs.size) (o := DX X.prog X.w s.heap.objs.size []) (t' := s.toks) (fun _ _ q => Heap.get?_push_of_some _ q) (Nat.le_refl _) (dx_empty s.heap I.big), rfl, h _ (I.hok.fresh (Nat.le_refl _))⟩⟩
end
end TyL

namespace TyL
open PySem PySem.Spec PyProof.Rows L2
/-! {k: v}, and walks over such dicts -/
def tDispX (P : Program) (w : World) (K : PySem.W.Frag) (tk tv : TE) : TE := fun σ H Q => ∀ p, H p = none → tk σ (upd H p (DX P w p [])) fun x H1 => tv σ H1 fun y H2 => H2 p = some (DX P w p []) ∧ ∃ d b, x = .ref b ∧ KeyD K H2 d b ∧ Q (.ref p) (upd H2 p (DX P w p [(d, b, y)]))
section
variable {X : Cx}
theorem dict_pairsA {K : Type} [DecidableEq K] {prog : Program} {w : World} {knd : HeapKind prog w K} {A : Around} {E : Value → Shared → Prop} {s : Shared} {env : PySem.Env} {keys : List (Option Expr)} {values : List Expr} {pos : Pos} {pairs : List (Sem Value × Sem Value)} {Q : Value → Shared → Prop} (hu : knd.room A)
    (hshape : (evalEachOpt keys env).zip ((evalEach values env).map fun v => do let x ← v; standAt pos; pure x) = pairs.map fun p => (some p.1, p.2)) (h0 : pairs ≠ []) (hlen : pairs.length ≤ 15)
    (h : wpAny (model prog w) A (evalPairs pairs) (fun vs s₁ => ∃ ps, CarriesH knd s₁.heap vs ps ∧ s₁.heap.DictOfH knd s.heap.objs.size [] ∧
      ∀ h' tk, h'.DictOfH knd s.heap.objs.size (storedAllH [] ps) → Heap.SameBut s.heap.objs.size s₁.heap h' → Q (.ref s.heap.objs.size) { s₁ with heap := h', toks := tk }) E
      { s with heap := s.heap.push { cls := .type "dict", data := .dict #[] } }) :
    wpAny (model prog w) A (eval (.Dict keys values pos) env) Q E s := by
  rw [arm_eval_Dict, hshape, dictDisplay_pairs pairs h0 (by omega)]
  exact wpAny_bind (wpAny_standAt (wpAny_bind (wpAny_subDictH (knd := knd) (Q := fun d s' => wpAny (model prog w) A (pure (Value.ref d)) Q E s') hu hlen
    (wpAny_mono h (fun vs s₁ h₁ => by obtain ⟨ps, hc, hm, hq⟩ := h₁; exact ⟨ps, hc, hm, fun h' tk a b => wpAny_pure (hq h' tk a b)⟩) fun _ _ e => e))))
theorem merged_one {α : Type} [DecidableEq α] (k : α) (v : Value) : merged [] [(k, v)] = [(k, v)] := rfl
theorem pe_dispX {k v : Expr} {pos : Pos} {tk tv : TE} (hu : X.A.units + 65 < cLine) (hk : PE X k tk) (hv : PE X v tv) : PE X (.Dict [some k] [v] pos) (tDispX X.prog X.w X.K tk tv) := by
  refine ⟨fun pins s σ H Q I q => ?_⟩
  have hn := I.hok.fresh (Nat.le_refl s.heap.objs.size)
  have I1 := I.laid (a := s.heap.objs.size) (o := DX X.prog X.w s.heap.objs.size []) (h' := s.heap.push { cls := .type "dict", data := .dict #[] }) (t' := s.toks) (fun _ _ q => Heap.get?_push_of_some _ q) (Nat.le_refl _) (dx_empty s.heap I.big)
  let Q' : List (V × V) → Hp → Prop := fun ps H2 => match ps with
    | [(x, y)] => H2 s.heap.objs.size = some (DX X.prog X.w s.heap.objs.size []) ∧ ∃ d b, x = V.ref b ∧ KeyD X.K H2 d b ∧ Q (.ref s.heap.objs.size) (upd H2 s.heap.objs.size (DX X.prog X.w s.heap.objs.size [(d, b, y)]))
    | _ => False
  have q' : tPairs [(tk, tv)] σ (upd H s.heap.objs.size (DX X.prog X.w s.heap.objs.size [])) Q' := q _ hn
  refine dict_pairsA (knd := nestedKind X.prog X.w) (pairs := pairTrees [some k] [v] X.env pos) (room80 hu) (by rfl) (fun z => by cases z) (by show 1 ≤ 15; decide) (thn ((pps_cons (pos := pos) hk hv pps_nil).run pins _ σ _ _ I1 q') fun ws s2 ⟨ps, H2, I2, rel, q2⟩ => ?_)
  rcases ps with _ | ⟨⟨x, y⟩, _ | ⟨_, _⟩⟩
  · exact q2.elim
  · obtain ⟨e, d, b, ex, kd, q3⟩ := q2
    cases rel with
    | @cons a0 w0 as bs r0 t =>
      cases t
      obtain ⟨w1, w2⟩ := w0
      obtain ⟨r1, r2⟩ := r0
      subst ex
      have ew : w1 = Value.ref b := r1
      subst ew
      obtain ⟨ys, r, m, hd, _⟩ := dx_at I2 (.inl e) (fun p mp => by cases mp)
      cases r
      refine ⟨[(nkey d, b, w2)], ⟨rfl, rfl, key_is I2 kd, trivial⟩, m, fun h' tk' dd hs => ⟨.ref s.heap.objs.size, _, ?_, rfl, q3⟩⟩
      have he : ∃ q, h'.get? s.heap.objs.size = some q := let ⟨q, _, _, hq, _⟩ := dd; ⟨q, hq⟩
      exact I2.write (x := s.heap.objs.size) (e := s.heap.objs.size) (by rw [e]; exact True.intro) (.inl rfl) (fun b q hb z => (hs.2 b hb).trans z) he (dx_new (ys := [(nkey d, b, w2)]) hd (by show 1 ≤ sizeLine; decide) (.cons ⟨rfl, rfl, r2⟩ .nil) dd)
  · exact q2.elim
end
/-! locked ones, walked -/
def ItkX (P : Program) (w : World) (d : Addr) (o : Obj) (xs : DXs) : It :=
  ⟨fun i H => H d = some (.frz o (DX P w d xs)) ∧ i < xs.length, fun i H x H' => H' = H ∧ ∃ e, xs[i]? = some e ∧ x = .ref e.2.1, fun i H => H d = some (.frz o (DX P w d xs)) ∧ xs.length ≤ i⟩
def ItiX (P : Program) (w : World) (d : Addr) (o : Obj) (xs : DXs) : It :=
  ⟨fun i H => H d = some (.frz o (DX P w d xs)) ∧ i < xs.length, fun i H x H' => ∃ T e, xs[i]? = some e ∧ x = .ref T ∧ H T = none ∧ H' = upd H T (.tup [.ref e.2.1, e.2.2]), fun i H => H d = some (.frz o (DX P w d xs)) ∧ xs.length ≤ i⟩
section
variable {P : Program} {w : World} {K : PySem.W.Frag} {tg : Expr} {o : Obj} {d : Addr} {es : Array DictEntry} {ep : Nat} {xs : DXs}
theorem frzX {X : Cx} {pins : List (Addr × Obj)} {σ : L2.St} {H : Hp} {s : Shared} (I : L2.Inv X pins σ H s) (h : H d = some (.frz o (DX X.prog X.w d xs))) :
    (d == sysModules) = false ∧ ∃ es ep, s.heap.DictRaw d es ep ∧ o.data = .dict es ep ∧ es.size = xs.length ∧ ∀ (i : Nat) e, xs[i]? = some e → ∃ (hi : i < es.size) (u : Value), es[i].key = .ref e.2.1 ∧ es[i].val = u ∧ RelV e.2.2 u := by
  obtain ⟨h0, ⟨hd, hl, ys, r, o', es, ep, h1, h2, h3, h4, h5⟩, _⟩ := I.hok d _ h
  rw [h0] at h1
  cases h1
  have hs := size_of_entries h4
  have hlen := paired_len r
  refine ⟨hd, es, ep, ⟨o, h0, h2, h3⟩, h3, by omega, fun i e he => ?_⟩
  have hi : i < xs.length := (List.getElem?_eq_some_iff.1 he).1
  have hi2 : i < es.size := by omega
  have hy : i < ys.length := by omega
  have e1 := entry_at h4 i
  rw [Array.getElem?_eq_getElem hi2, List.getElem?_eq_getElem hy, Option.map_some] at e1
  have e1 := Option.some.inj e1
  have rr : ∀ {xs : DXs} {ys : List (NestedKey × Addr × Value)} {i : Nat} {p q}, Paired DXr xs ys → xs[i]? = some p → ys[i]? = some q → DXr p q := by
    intro xs ys i p q r
    induction r generalizing i with
    | nil => intro z; simp at z
    | cons r t ih =>
      intro z1 z2
      cases i with
      | zero => cases z1; cases z2; exact r
      | succ i => exact ih z1 z2
  have q := rr r he (List.getElem?_eq_getElem hy)
  exact ⟨hi2, _, by rw [e1, q.2.1]; rfl, rfl, by rw [e1]; exact q.2.2⟩
theorem raw_same {X : Cx} {s : Shared} {es es' : Array DictEntry} {ep ep' : Nat} (h : o.data = .dict es ep) (h' : o.data = .dict es' ep') : es = es' ∧ ep = ep' := by
  rw [h] at h'
  cases h'
  exact ⟨rfl, rfl⟩
theorem turn_keysX (it : Addr) (hod : o.data = .dict es ep) : Turn P w K tg (ItkX P w d o xs) [it] it (fun i h => h.IsKeyIter it d i xs.length ep) where
  mem := by simp
  obj := fun i h st b hb => by
    have e : b = it := by simpa using hb
    subst e
    obtain ⟨oi, e, c, dd⟩ := st
    exact ⟨oi, e, fun v z => by rw [dd] at z; cases z⟩
  keep := fun i h h' st k => by
    obtain ⟨oi, e, c, dd⟩ := st
    exact ⟨oi, k it (by simp) oi e, c, dd⟩
  item := by
    intro X hP hw hK hc i pins s σ H E I hf st hg
    subst hP hw hK
    obtain ⟨hd, hi⟩ := hg
    obtain ⟨f0, f1, f2, f3, f4, f5⟩ := hf it (by simp)
    obtain ⟨hs, es', ep', hm, hdt, hsz, ent⟩ := frzX I hd
    obtain ⟨rfl, rfl⟩ := raw_same (X := X) (s := s) hod hdt
    obtain ⟨e, he⟩ : ∃ p, xs[i]? = some p := ⟨xs[i], List.getElem?_eq_getElem hi⟩
    obtain ⟨hi2, u, hk, hv, ru⟩ := ent i e he
    rw [← hsz] at st
    refine wpAny_pyNext_keys_item_raw st hm hi2 fun h' st' sb => ?_
    have I1 : L2.Inv X pins σ H { s with heap := h' } := I.turned (t' := s.toks) (fun b ob hb e => (sb.2 b hb).trans e) f0 f1 f3 f4 f5
    obtain ⟨oi, e1, c, dd⟩ := id st'
    refine ⟨_, rfl, go_of (s := { s with heap := h' }) e1 c dd (by decide) ⟨.ref e.2.1, H, I1, hk, ⟨rfl, e, he, rfl⟩, ?_, fun b hb => (hf b hb).1⟩⟩
    show h'.IsKeyIter it d (i + 1) xs.length _
    rw [← hsz]
    exact st'
  done := by
    intro X hP hw hK hc i pins s σ H E I hf st hg
    subst hP hw hK
    obtain ⟨hd, hi⟩ := hg
    obtain ⟨f0, f1, f2, f3, f4, f5⟩ := hf it (by simp)
    obtain ⟨hs, es', ep', hm, hdt, hsz, ent⟩ := frzX I hd
    obtain ⟨rfl, rfl⟩ := raw_same (X := X) (s := s) hod hdt
    rw [← hsz] at st
    exact wpAny_pyNext_keys_end_raw (I.ok.hd hc) st hm (by omega) fun h' eb => ⟨rfl, I.turned (t' := s.toks) (fun b ob hb e => eb b ob hb e) f0 f1 f3 f4 f5⟩
  self := fun A i s Q E st h => wpAny_pyIter_keyiter st h
theorem turn_itemsX {elts : List Expr} {kk : Nat} {tpos : Pos} (it : Addr) (hod : o.data = .dict es ep) :
    Turn P w K (.Tuple elts kk tpos) (ItiX P w d o xs) [it] it (fun i h => ∃ ok ov, IsItemIter h it d i xs.length ep ok ov) where
  mem := by simp
  obj := fun i h st b hb => by
    have e : b = it := by simpa using hb
    subst e
    obtain ⟨ok, ov, e⟩ := st
    exact ⟨_, e, fun v z => nomatch z⟩
  keep := fun i h h' st k => let ⟨ok, ov, e⟩ := st; ⟨ok, ov, k it (by simp) _ e⟩
  item := by
    intro X hP hw hK hc i pins s σ H E I hf st hg
    subst hP hw hK
    obtain ⟨hd, hi⟩ := hg
    obtain ⟨hs, es', ep', hm, hdt, hsz, ent⟩ := frzX I hd
    obtain ⟨rfl, rfl⟩ := raw_same (X := X) (s := s) hod hdt
    obtain ⟨e, he⟩ : ∃ p, xs[i]? = some p := ⟨xs[i], List.getElem?_eq_getElem hi⟩
    obtain ⟨hi2, u, hk, hv, ru⟩ := ent i e he
    obtain ⟨ok, ov, hit⟩ := st
    rw [← hsz] at hit
    have hlt : it < s.heap.objs.size := Heap.lt_size hit
    refine wpAny_pyNext_items_item_raw hit hm hi2 fun h' ho hT hz hkp => ?_
    refine ⟨_, rfl, wpAny_letOwnedTupleGo_items (s := { s with heap := h' }) ho fun h'' he' sb => ?_⟩
    rw [hk, hv] at hT
    have hT2 : h''.get? s.heap.objs.size = some { cls := .type "tuple", data := .seq #[.ref e.2.1, u] } := (sb.2 _ (Nat.ne_of_gt hlt)).trans hT
    have new : ObjOk X.prog X.w (upd H s.heap.objs.size (.tup [.ref e.2.1, e.2.2])) h'' s.heap.objs.size (.tup [.ref e.2.1, e.2.2]) :=
      ⟨by show 2 ≤ sizeLine; decide, [.ref e.2.1, u], .cons rfl (.cons ru .nil), ⟨_, hT2, rfl, _, rfl⟩⟩
    have I1 : L2.Inv X pins σ (upd H s.heap.objs.size (.tup [.ref e.2.1, e.2.2])) { s with heap := h'' } :=
      I.turnedNew (t' := s.toks) (ch := [it]) (fun b ob hb e => (sb.2 b (by simpa using hb)).trans (hkp b ob (by simpa using hb) e)) hf (Nat.le_refl _) new
    refine ⟨.ref s.heap.objs.size, _, I1, rfl, ⟨_, e, he, rfl, I.hok.fresh (Nat.le_refl _), rfl⟩, ⟨es[i].key, es[i].val, ?_⟩, fun b hb => ?_⟩
    · rw [← hsz]; exact he'
    · have e : b = it := by simpa using hb
      rw [e, upd_ne (Nat.ne_of_lt hlt)]
      exact (hf it (by simp)).1
  done := by
    intro X hP hw hK hc i pins s σ H E I hf st hg
    subst hP hw hK
    obtain ⟨hd, hi⟩ := hg
    obtain ⟨f0, f1, f2, f3, f4, f5⟩ := hf it (by simp)
    obtain ⟨hs, es', ep', hm, hdt, hsz, ent⟩ := frzX I hd
    obtain ⟨rfl, rfl⟩ := raw_same (X := X) (s := s) hod hdt
    obtain ⟨ok, ov, he⟩ := st
    rw [← hsz] at he
    exact wpAny_pyNext_items_end_raw (I.ok.hd hc) he hm (by omega) fun h' eb => ⟨rfl, I.turned (t' := s.toks) (fun b ob hb e => eb b ob hb e) f0 f1 f3 f4 f5⟩
  self := fun A i s Q E st h => let ⟨_, _, e⟩ := st; PySem.W.kcp_self e h
end
def iKeysX (P : Program) (w : World) (td : TE) : TI := fun σ H R => td σ H fun x H1 => ∃ d o xs, x = .ref d ∧ H1 d = some (.frz o (DX P w d xs)) ∧ R (ItkX P w d o xs) H1
def iItemsX (P : Program) (w : World) (td : TE) : TI := fun σ H R => td σ H fun x H1 => ∃ d o xs, x = .ref d ∧ H1 d = some (.frz o (DX P w d xs)) ∧ R (ItiX P w d o xs) H1
section
variable {X : Cx} {tg e : Expr} {td : TE} {apos cpos : Pos}
theorem pi_keysX (he : PE X e td) : PI X tg e (iKeysX X.prog X.w td) := by
  refine ⟨fun pins s σ H R I h => ?_⟩
  refine thn (he.run pins s σ H _ I h) fun u s1 ⟨x, H1, I1, rx, d, o, xs, ex, hd, q⟩ => ?_
  subst ex
  obtain rfl : u = Value.ref d := rx
  obtain ⟨hs, es, ep, hm, hdt, hsz, _⟩ := frzX I1 hd
  refine wpAny_pyIter_dict_raw hs hm (pi_one (tk := s1.toks) I1 _ (turn_keysX _ hdt) ⟨_, Heap.get?_push_size _ rfl, rfl, ?_⟩ q)
  rw [hsz] <;> rfl
theorem pi_itemsX {elts : List Expr} {kk : Nat} {tpos : Pos} (he : PE X e td) (hbase : attributeBase e "items" X.env (eval e X.env) = eval e X.env := by rfl) (hline : (apos.endLine == cpos.line) = true := by rfl) :
    PI X (.Tuple elts kk tpos) (.Call (.Attribute e "items" apos) [] [] cpos) (iItemsX X.prog X.w td) := by
  refine ⟨fun pins s σ H R I h => ?_⟩
  refine wpAny_Call_method (T := "dict") (id := "dict.items") hbase rfl hline F.plainAttrs_dict F.slot_dict_items F.type_dict_items (thn (he.run pins s σ H _ I h) fun u s1 ⟨x, H1, I1, rx, d, o, xs, ex, hd, q⟩ => ?_)
  subst ex
  obtain rfl : u = Value.ref d := rx
  obtain ⟨hs, es, ep, hm, hdt, hsz, _⟩ := frzX I1 hd
  obtain ⟨od, h1, h2, h3⟩ := id hm
  refine ⟨hm.typeIs, fun b q => by cases q; exact ⟨od, h1, h2.2.1⟩, ?_⟩
  have I2 : L2.Inv X pins σ H1 { s1 with heap := s1.heap.push { cls := .type "dict_items", data := .fields #[.ref d] } } := I1.kept (t' := s1.toks) fun b ob q => Heap.get?_push_of_some _ q
  have fin : wpAny (model X.prog X.w) X.A (pyIter (.ref s1.heap.objs.size)) (PIE X pins σ (.Tuple elts kk tpos) R) X.xe { s1 with heap := s1.heap.push { cls := .type "dict_items", data := .fields #[.ref d] } } := by
    refine wpAny_pyIter_items_raw (d := d) ⟨_, Heap.get?_push_size _ rfl, rfl, rfl⟩ (hm.at fun o e => Heap.get?_push_of_some _ e) (pi_one (tk := s1.toks) I2 _ (turn_itemsX _ hdt) ⟨.none, .none, ?_⟩ q)
    rw [← hsz]
    exact Heap.get?_push_size _ rfl
  show wpAny _ _ (callWith cpos (.builtin "dict.items") [.ref d] [] []) _ X.xe s1
  exact method_meetsIn F.slot_dict_items F.entry_dict_items rfl (PySem.evalArgs_none ⟨rfl, hm.typeIs, F.args_dict_items_1 _, _, meets_dict_items_raw d hs, ⟨es, ep, hm⟩, fin⟩)
end
end TyL

namespace Ty
open PySem PySem.Spec PyProof.Rows L2
open Enc (enc)
variable {G : Glob}
/-! ### dicts as lists of pairs -/
section
variable {κ ν : Type} [DecidableEq κ]
def dget (kvs : List (κ × ν)) (k : κ) : Option ν := (kvs.find? fun e => decide (e.1 = k)).map (·.2)
def dhas (kvs : List (κ × ν)) (k : κ) : Bool := (dget kvs k).isSome
def dput (kvs : List (κ × ν)) (k : κ) (v : ν) : List (κ × ν) := if dhas kvs k = true then kvs.map (fun e => if e.1 = k then (e.1, v) else e) else kvs ++ [(k, v)]
def dgetP (kvs : List (κ × ν)) (k : κ) : Prog ν := match dget kvs k with
  | some v => .ok v
  | none => .stuck
end
/-! ### keys -/
class Kc (κ : Type) [Enc κ] where
  dep : Nat
  inj : ∀ a b : κ, TyL.nkey (enc a) = TyL.nkey (enc b) → a = b
  hs : ∀ a : κ, TyL.hshb (enc a) = true
  de : ∀ a : κ, (TyL.nkey (enc a)).depth ≤ dep
instance : Kc Int := ⟨0, fun a b h => by
  have h' : NestedKey.num a = NestedKey.num b := h
  cases h'; rfl, fun _ => rfl, fun _ => Nat.le_refl _⟩
instance : Kc (List Nat) := ⟨0, fun a b h => by
  have h' : NestedKey.text (sx a) = NestedKey.text (sx b) := h
  exact sx_inj (NestedKey.text.inj h'), fun _ => rfl, fun _ => Nat.le_refl _⟩
instance : Kc Bool := ⟨0, fun a b h => by
  have h' : NestedKey.num (if a = true then 1 else 0) = NestedKey.num (if b = true then 1 else 0) := h
  cases a <;> cases b <;> first | rfl | (exact absurd (NestedKey.num.inj h') (by decide)), fun _ => rfl, fun _ => Nat.le_refl _⟩
section
variable {α β γ : Type} [Enc α] [Enc β] [Enc γ] [Kc α] [Kc β] [Kc γ]
theorem nkeys_inj : ∀ xs ys : List α, TyL.nkeys (xs.map enc) = TyL.nkeys (ys.map enc) → xs = ys
  | [], [], _ => rfl
  | [], _ :: _, h => by cases h
  | _ :: _, [], h => by cases h
  | x :: xs, y :: ys, h => by
    have h' : TyL.nkey (enc x) :: TyL.nkeys (xs.map enc) = TyL.nkey (enc y) :: TyL.nkeys (ys.map enc) := h
    rw [Kc.inj x y (List.cons.inj h').1, nkeys_inj xs ys (List.cons.inj h').2]
theorem hshbs_all : ∀ xs : List α, TyL.hshbs (xs.map enc) = true
  | [] => rfl
  | x :: xs => by
    show (TyL.hshb (enc x) && TyL.hshbs (xs.map enc)) = true
    rw [Kc.hs, hshbs_all xs]; rfl
theorem depth_all : ∀ xs : List α, NestedKey.depthAll (TyL.nkeys (xs.map enc)) ≤ Kc.dep α
  | [] => Nat.zero_le _
  | x :: xs => by
    show max (TyL.nkey (enc x)).depth (NestedKey.depthAll (TyL.nkeys (xs.map enc))) ≤ _
    have h1 := Kc.de x
    have h2 := depth_all xs
    omega
instance kcT : Kc (List α) := ⟨Kc.dep α + 1, fun a b h => by
  have h' : NestedKey.tup (TyL.nkeys (a.map enc)) = NestedKey.tup (TyL.nkeys (b.map enc)) := h
  exact nkeys_inj a b (NestedKey.tup.inj h'), fun a => hshbs_all a, fun a => Nat.succ_le_succ (depth_all a)⟩
instance kcP : Kc (α × β) := ⟨max (Kc.dep α) (Kc.dep β) + 1, fun a b h => by
  have h' : NestedKey.tup [TyL.nkey (enc a.1), TyL.nkey (enc a.2)] = NestedKey.tup [TyL.nkey (enc b.1), TyL.nkey (enc b.2)] := h
  have h1 := NestedKey.tup.inj h'
  have e1 := Kc.inj a.1 b.1 (List.cons.inj h1).1
  have e2 := Kc.inj a.2 b.2 (List.cons.inj (List.cons.inj h1).2).1
  exact Prod.ext e1 e2, fun a => by
  show (TyL.hshb (enc a.1) && (TyL.hshb (enc a.2) && true)) = true
  rw [Kc.hs, Kc.hs]; rfl, fun a => by
  show max (TyL.nkey (enc a.1)).depth (max (TyL.nkey (enc a.2)).depth 0) + 1 ≤ _
  have h1 := Kc.de a.1
  have h2 := Kc.de a.2
  omega⟩
instance kcT3 : Kc (T3 α β γ) := ⟨max (Kc.dep α) (max (Kc.dep β) (Kc.dep γ)) + 1, fun a b h => by
  have h' : NestedKey.tup [TyL.nkey (enc a.a), TyL.nkey (enc a.b), TyL.nkey (enc a.c)] = NestedKey.tup [TyL.nkey (enc b.a), TyL.nkey (enc b.b), TyL.nkey (enc b.c)] := h
  have h1 := NestedKey.tup.inj h'
  have e1 := Kc.inj a.a b.a (List.cons.inj h1).1
  have e2 := Kc.inj a.b b.b (List.cons.inj (List.cons.inj h1).2).1
  have e3 := Kc.inj a.c b.c (List.cons.inj (List.cons.inj (List.cons.inj h1).2).2).1
  obtain ⟨a1, a2, a3⟩ := a
  obtain ⟨b1, b2, b3⟩ := b
  simp only at e1 e2 e3
  rw [e1, e2, e3], fun a => by
  show (TyL.hshb (enc a.a) && (TyL.hshb (enc a.b) && (TyL.hshb (enc a.c) && true))) = true
  rw [Kc.hs, Kc.hs, Kc.hs]; rfl, fun a => by
  show max (TyL.nkey (enc a.a)).depth (max (TyL.nkey (enc a.b)).depth (max (TyL.nkey (enc a.c)).depth 0)) + 1 ≤ _
  have h1 := Kc.de a.a
  have h2 := Kc.de a.b
  have h3 := Kc.de a.c
  omega⟩
end
/-- keys that are tuples -/
class Kt (κ : Type) [Enc κ] : Prop where
  tup : ∀ a : κ, ∃ ds, enc a = .tuple ds
instance {α : Type} [Enc α] : Kt (List α) := ⟨fun a => ⟨_, rfl⟩⟩
instance {α β : Type} [Enc α] [Enc β] : Kt (α × β) := ⟨fun a => ⟨_, rfl⟩⟩
instance {α β γ : Type} [Enc α] [Enc β] [Enc γ] : Kt (T3 α β γ) := ⟨fun a => ⟨_, rfl⟩⟩
theorem Kt.ref {κ : Type} [Enc κ] [Kt κ] {K : PySem.W.Frag} {F : Hp} {v : V} {a : κ} (h : Dq K F v (enc a)) : ∃ b, v = .ref b := by
  obtain ⟨ds, e⟩ := Kt.tup a
  rw [e] at h
  cases h
  exact ⟨_, rfl⟩
/-! ### what stands there -/
section
variable {κ ν : Type} [Enc κ] [Enc ν]
def DxE (K : PySem.W.Frag) (F : Hp) (kv : κ × ν) (e : PyData × Addr × V) : Prop := e.1 = enc kv.1 ∧ Dq K F (.ref e.2.1) (enc kv.1) ∧ Dq K F e.2.2 (enc kv.2)
theorem dxE_mono {K : PySem.W.Frag} {F F' : Hp} (e : Same F F') : ∀ {kvs : List (κ × ν)} {ws : TyL.DXs}, Paired (DxE K F) kvs ws → Paired (DxE K F') kvs ws
  | _, _, .nil => .nil
  | _, _, .cons r t => .cons ⟨r.1, dp_same e _ _ r.2.1, dp_same e _ _ r.2.2⟩ (dxE_mono e t)
def DxAt (G : Glob) (F : Hp) (p : Addr) (u : HO) (kvs : List (κ × ν)) : Prop := ∃ ws, (u = TyL.DX G.P G.w p ws ∨ ∃ o, u = .frz o (TyL.DX G.P G.w p ws)) ∧ Paired (DxE G.K F) kvs ws
def dxR (G : Glob) (kvs : List (κ × ν)) : OwnR := ⟨fun F p u => ∃ ws, u = TyL.DX G.P G.w p ws ∧ Paired (DxE G.K F) kvs ws, fun e ⟨ws, h1, h2⟩ => ⟨ws, h1, dxE_mono e h2⟩⟩
theorem DxAt.mono {F F' : Hp} {p : Addr} {u : HO} {kvs : List (κ × ν)} (e : Same F F') (h : DxAt G F p u kvs) : DxAt G F' p u kvs := by
  obtain ⟨ws, h1, h2⟩ := h
  exact ⟨ws, h1, dxE_mono e h2⟩
/-- locked: as it stands -/
def lockR (p : Addr) (od : Obj) (u : HO) (R : OwnR) : OwnR := ⟨fun F q o => q = p ∧ o = .frz od u ∧ R.R F p u, fun e ⟨h1, h2, h3⟩ => ⟨h1, h2, R.mono e h3⟩⟩
/-- a dict that is data -/
structure Dv (κ ν : Type) where
  kvs : List (κ × ν)
instance rpDv [Kt κ] : Rp G (Dv κ ν) := ⟨fun d v F => ∃ p u, v = .ref p ∧ F p = some u ∧ DxAt G F p u d.kvs, fun e ⟨p, u, h1, h2, h3⟩ => ⟨p, u, h1, e _ _ h2, h3.mono e⟩⟩
section
variable [DecidableEq κ] [Kc κ]
theorem dx_look {K : PySem.W.Frag} {F : Hp} (k : κ) : ∀ {kvs : List (κ × ν)} {ws : TyL.DXs}, Paired (DxE K F) kvs ws → (dget kvs k = none ∧ TyL.lookX ws (TyL.nkey (enc k)) = none) ∨ ∃ a v, dget kvs k = some a ∧ TyL.lookX ws (TyL.nkey (enc k)) = some v ∧ Dq K F v (enc a)
  | _, _, .nil => .inl ⟨rfl, rfl⟩
  | kv :: kvs, e :: ws, .cons r t => by
    have ih := dx_look k t
    unfold dget TyL.lookX at ih ⊢
    rw [List.find?_cons, List.find?_cons, r.1]
    by_cases h : kv.1 = k
    · rw [decide_eq_true h, decide_eq_true (by rw [h])]
      exact .inr ⟨_, _, rfl, rfl, r.2.2⟩
    · rw [decide_eq_false h, decide_eq_false (fun z => h (Kc.inj _ _ z))]
      exact ih
theorem dx_has {K : PySem.W.Frag} {F : Hp} (k : κ) {kvs : List (κ × ν)} {ws : TyL.DXs} (h : Paired (DxE K F) kvs ws) : (TyL.lookX ws (TyL.nkey (enc k))).isSome = dhas kvs k := by
  unfold dhas
  rcases dx_look k h with ⟨a, b⟩ | ⟨x, v, a, b, _⟩ <;> rw [a, b] <;> rfl
theorem dx_put {K : PySem.W.Frag} {F : Hp} {k : κ} {a : ν} {b : Addr} {v : V} {kvs : List (κ × ν)} {ws : TyL.DXs} (h : Paired (DxE K F) kvs ws) (hk : Dq K F (.ref b) (enc k)) (hv : Dq K F v (enc a)) : Paired (DxE K F) (dput kvs k a) (TyL.putX ws (enc k) b v) := by
  unfold dput TyL.putX
  rw [dx_has k h]
  by_cases hb : dhas kvs k = true
  · rw [if_pos hb, if_pos hb]
    clear hb
    induction h with
    | nil => exact .nil
    | @cons kv e kvs ws r t ih =>
      refine .cons ?_ ih
      dsimp only
      by_cases h : kv.1 = k
      · rw [if_pos h, if_pos (show TyL.nkey e.1 = TyL.nkey (enc k) by rw [r.1, h])]
        exact ⟨r.1, r.2.1, hv⟩
      · rw [if_neg h, if_neg (fun z => h (Kc.inj _ _ (by rw [r.1] at z; exact z)))]
        exact r
  · rw [if_neg hb, if_neg hb]
    clear hb
    induction h with
    | nil => exact .cons ⟨rfl, hk, hv⟩ .nil
    | cons r t ih => exact .cons r ih
theorem dx_keyD {N : NN} {K : PySem.W.Frag} {F H : Hp} (hd : Kc.dep κ ≤ 8) (e : Same F H) {k : κ} {b : Addr} (h : Dq K F (.ref b) (enc k)) : TyL.KeyD K H (enc k) b := ⟨dq_dp _ _ (dp_same e _ _ h), Kc.hs k, Nat.le_trans (Kc.de k) hd⟩
theorem dx_keys {K : PySem.W.Frag} {F H : Hp} (hd : Kc.dep κ ≤ 8) (e : Same F H) : ∀ {kvs : List (κ × ν)} {ws : TyL.DXs}, Paired (DxE K F) kvs ws → ∀ p ∈ ws, TyL.KeyD K H p.1 p.2.1
  | _, _, .nil, p, mp => by cases mp
  | kv :: kvs, w :: ws, .cons r t, p, mp => by
    rcases List.mem_cons.1 mp with z | mp
    · subst z
      rw [r.1]
      exact dx_keyD (N := ⟨F, F, fun _ => False, none, fun _ _ _ => True, fun _ => none⟩) hd e r.2.1
    · exact dx_keys hd e t p mp
theorem dx_len {K : PySem.W.Frag} {F : Hp} {kvs : List (κ × ν)} {ws : TyL.DXs} (h : Paired (DxE K F) kvs ws) : kvs.length = ws.length := TyL.paired_len h
end
end
/-! ### the frame's own objects -/
section
variable {α β γ ω : Type} [iα : Rp G α] {N : NN} {Γ Γ' : Env G} {te ta tb tk tv : TE} {tz ts : TS} {i : Nat} {R R' : OwnR} {b : Bool}
theorem HS.genAt {σ : L2.St} {F H : Hp} (hs : HS N Γ σ F H) (hi : Γ[i]? = some (.gen R b)) : ∃ p u, σ[i]? = some (some (.ref p)) ∧ MineI N F p ∧ (b = false → N.H0 p = none) ∧ H p = some u ∧ R.R F p u ∧ Held Γ σ p := by
  obtain ⟨o, e0, p, u, e1, m, hb, hp, d⟩ := hs.sl.get hi
  subst e1
  exact ⟨p, u, e0, m, hb, hp, d, i, _, hi, rfl, e0⟩
theorem HS.putG {σ : L2.St} {F H : Hp} {p : Addr} {u : HO} (hs : HS N Γ σ F H) (hO : N.O p = none) (hi : Γ[i]? = some (.gen R b)) (hp : σ[i]? = some (some (.ref p))) (r : R'.R F p u) : HS N (Γ.set i (.gen R' b)) σ F (upd H p u) := by
  obtain ⟨p', u', e0, m, hb, h0, _, hl⟩ := hs.genAt hi
  rw [hp] at e0
  cases e0
  have h1 := ((hs.dead i).writeO (u := u) hO m (hs.notHeld hi rfl hp)).own (e := .gen R' b) i (hs.notHeld hi rfl hp) ⟨p, u, rfl, m, hb, upd_same, r⟩
  rw [List.set_set, set_id hp] at h1
  exact h1
/-- a new object -/
def EVG {γ : Type} (N : NN) (Γ : Env G) (te : TE) (m : Prog γ) (R : γ → OwnR) : Prop := ∀ σ F H, HS N Γ σ F H → ∀ Q : VK, wp m (fun a => ∀ p u F' H', HS N Γ σ F' H' → Same F F' → NewAt N Γ σ F' p → H' p = some u → (R a).R F' p u → Q (.ref p) H') (EP G N) → te σ H Q
theorem hs_newG {σ : L2.St} {F H : Hp} (hs : HS N Γ σ F H) {p : Addr} {u : HO} (hp : H p = none) : HS N Γ σ F (upd H p u) ∧ NewAt N Γ σ F p := hs_newO hs hp
theorem sv_asgG {γ : Type} {m : Prog γ} {R : γ → OwnR} {J : Aim ω} {k : γ → Prog ω} (h : EVG N Γ te m R) (hk : ∀ a, SV N (Γ.set i (.gen (R a) false)) tz J (k a)) : SV N Γ (tSeq (tAsg te (gName i)) tz) J (m >>= k) := fun σ F H D hs q =>
  h σ F H hs _ (wp_mono (wp_bind.1 q) fun a q1 p u F1 H1 hs1 e1 n hp r => hk a _ F1 H1 D (hs1.own i n.nh ⟨p, u, rfl, n.mine.weak, fun _ => n.h0, hp, r⟩) (wp_mono q1 fun o x => J.mono e1 x))
/-- the name j holds from now on what the name i held -/
theorem HS.moved {σ : L2.St} {F H : Hp} {e : Ent G} {p : Addr} (j : Nat) (hs : HS N Γ σ F H) (hi : Γ[i]? = some e) (he : e.own = true) (e0 : σ[i]? = some (some (.ref p))) (ne : i ≠ j) : HS N ((Γ.set i .dead).set j e) (σ.set j (some (.ref p))) F H := by
  obtain ⟨o, e1, s⟩ := hs.sl.get hi
  rw [e0] at e1
  cases e1
  exact (hs.dead i).own j (hs.notHeld hi he e0) s
theorem sv_moveG {j : Nat} {J : Aim ω} {k : Prog ω} (hi : Γ[i]? = some (.gen R b)) (ne : i ≠ j) (hk : SV N ((Γ.set i .dead).set j (.gen R b)) tz J k) : SV N Γ (tSeq (tAsg (tVar i) (gName j)) tz) J k := fun σ F H D hs q => by
  obtain ⟨p, u, e0, _⟩ := hs.genAt hi
  exact ⟨.ref p, e0, hk _ F H D (hs.moved j hi rfl e0 ne) q⟩
/-- from here on it is data -/
theorem HS.thawG {σ : L2.St} {F H : Hp} (hO : ∀ a, N.O a = none) (hs : HS N Γ σ F H) (hi : Γ[i]? = some (.gen R false)) : ∃ p u, σ[i]? = some (some (.ref p)) ∧ H p = some u ∧ R.R (upd F p u) p u ∧ HS N (Γ.set i .dead) σ (upd F p u) H ∧ Same F (upd F p u) := by
  obtain ⟨p, u, e0, m, hb, hp, r, hl⟩ := hs.genAt hi
  have h0 := hb rfl
  obtain ⟨hs2, e2⟩ := (hs.dead i).freeze hp ⟨m.f, h0, m.s⟩ h0 (hs.notHeld hi rfl e0) (hO p)
  exact ⟨p, u, e0, hp, R.mono e2 r, hs2, e2⟩
theorem sv_freezeG [iα : Rp G α] {a : α} {J : Aim ω} {m : Prog ω} (i : Nat) (hO : ∀ a, N.O a = none) (hi : Γ[i]? = some (.gen R false)) (hr : ∀ F p u, F p = some u → R.R F p u → iα.rp a (.ref p) F) (h : SV N (Γ.set i (.per a)) ts J m) : SV N Γ ts J m := fun σ F H D hs q => by
  obtain ⟨p, u, e0, hp, r, hs2, e2⟩ := hs.thawG hO hi
  have h3 := hs2.setPer (a := a) (v := .ref p) i (hr _ p u upd_same r)
  rw [List.set_set, set_id e0] at h3
  exact h σ _ H D h3 (wp_mono q fun o x => J.mono e2 x)
/-- the statement runs while what the name i holds is locked -/
theorem sv_lock {βs : Type} {Γi : βs → Env G} {J : Aim ω} {m : Prog βs} {k : βs → Prog ω} (hO : ∀ a, N.O a = none) (hi : Γ[i]? = some (.gen R b)) (hmu : ∀ F p u, R.R F p u → Mut (some u))
    (hb : ∀ p od u, SV N (Γ.set i (.gen (lockR p od u R) b)) (fun D => ts D) (JN N fun x => (Γi x).set i (.gen (lockR p od u R) b)) m) (hl : ∀ x, i < (Γi x).length) (hk : ∀ x, SV N ((Γi x).set i (.gen R b)) tz J (k x)) : SV N Γ (tSeq (tLock ts) tz) J (m >>= k) := fun σ F H D hs q => by
  obtain ⟨p, u, e0, m0, hb0, hp, r, hl0⟩ := hs.genAt hi
  refine ⟨p, u, hp, hmu F p u r, fun od => ?_⟩
  have hs1 : HS N (Γ.set i (.gen (lockR p od u R) b)) σ F (upd H p (.frz od u)) := hs.putG (hO p) hi e0 ⟨rfl, rfl, r⟩
  refine hb p od u σ F _ _ hs1 (wp_mono (wp_bind.1 q) fun x q1 σ2 F2 H2 hs2 e2 => ?_)
  have hi2 : ((Γi x).set i (.gen (lockR p od u R) b))[i]? = some (.gen (lockR p od u R) b) := List.getElem?_set_self (hl x)
  obtain ⟨p2, u2, f0, m2, hb2, hp2, ⟨z1, z2, r2⟩, _⟩ := hs2.genAt hi2
  subst z1 z2
  have hs3 := hs2.putG (R' := R) (u := u) (hO p2) hi2 f0 r2
  rw [List.set_set] at hs3
  exact ⟨hp2, hk x σ2 F2 _ D hs3 (wp_mono q1 fun o x => J.mono e2 x)⟩
/-- .. an expression that makes a list -/
theorem evn_lock {δ : Type} [Enc δ] {m : Prog (L δ)} (hO : ∀ a, N.O a = none) (hi : Γ[i]? = some (.gen R b)) (hmu : ∀ F p u, R.R F p u → Mut (some u))
    (hb : ∀ p od u, EVN N (Γ.set i (.gen (lockR p od u R) b)) te m) : EVN N Γ (tLockE te) m := fun σ F H hs Q q => by
  obtain ⟨p, u, e0, m0, hb0, hp, r, hl0⟩ := hs.genAt hi
  refine ⟨p, u, hp, hmu F p u r, fun od => ?_⟩
  have hs1 : HS N (Γ.set i (.gen (lockR p od u R) b)) σ F (upd H p (.frz od u)) := hs.putG (hO p) hi e0 ⟨rfl, rfl, r⟩
  have hlt : i < Γ.length := (List.getElem?_eq_some_iff.1 hi).1
  have hi2 : (Γ.set i (.gen (lockR p od u R) b))[i]? = some (.gen (lockR p od u R) b) := List.getElem?_set_self hlt
  refine hb p od u σ F _ hs1 _ (wp_mono q fun xs k p1 vs F2 H2 hs2 e2 n hv d => ?_)
  obtain ⟨p2, u2, f0, m2, hb2, hp2, ⟨z1, z2, r2⟩, hl2⟩ := hs2.genAt hi2
  subst z1 z2
  have hs3 := hs2.putG (R' := R) (u := u) (hO p2) hi2 f0 r2
  have eΓ : (Γ.set i (.gen (lockR p2 od u R) b)).set i (.gen R b) = Γ := by
    rw [List.set_set]
    apply List.ext_getElem?
    intro j
    by_cases hj : j = i
    · subst hj; rw [List.getElem?_set_self hlt, hi]
    · rw [List.getElem?_set_ne (Ne.symm hj)]
  rw [eΓ] at hs3
  have ne : p1 ≠ p2 := fun z => n.nh (z ▸ hl2)
  have hheld : ∀ q, Held Γ σ q → Held (Γ.set i (.gen (lockR p2 od u R) b)) σ q := fun q ⟨j, e, x1, x2, x3⟩ => by
    by_cases hj : j = i
    · subst hj
      rw [hi] at x1; cases x1
      exact ⟨j, _, hi2, rfl, x3⟩
    · exact ⟨j, e, by rw [List.getElem?_set_ne (Ne.symm hj)]; exact x1, x2, x3⟩
  exact ⟨hp2, k p1 vs F2 _ hs3 e2 ⟨n.mine, n.h0, fun x => n.nh (hheld _ x), n.no⟩ (by rw [upd_ne ne]; exact hv) d⟩
end
end Ty

namespace Ty
open PySem PySem.Spec PyProof.Rows L2
open Enc (enc)
variable {G : Glob}
section
variable {κ ν ω : Type} [Enc κ] [Enc ν] [DecidableEq κ] [Kc κ] [Kt κ] {N : NN} {Γ Γ' : Env G} {td tk tv tx : TE} {tz ts : TS} {i : Nat} {R R' : OwnR} {b : Bool} {kvs : List (κ × ν)}
/-! ### dicts with tuple keys -/
theorem dxR_at {F : Hp} {p : Addr} {u : HO} (h : (dxR G kvs).R F p u) : DxAt G F p u kvs := let ⟨ws, a, b⟩ := h; ⟨ws, .inl a, b⟩
theorem dxR_lock {F : Hp} {p q : Addr} {u o : HO} {od : Obj} (h : (lockR p od u (dxR G kvs)).R F q o) : DxAt G F q o kvs := by
  obtain ⟨rfl, e, ws, a, b⟩ := h
  exact ⟨ws, .inr ⟨od, by rw [e, a]⟩, b⟩
theorem dxR_mut : ∀ F p u, (dxR G kvs).R F p u → Mut (some u) := fun F p u ⟨ws, e, _⟩ => by rw [e]; exact True.intro
theorem DxAt.rd {F H : Hp} {p : Addr} {u : HO} (h : DxAt G F p u kvs) (e : H p = some u) : ∃ ws, Rd H p (TyL.DX G.P G.w p ws) ∧ Paired (DxE G.K F) kvs ws := by
  obtain ⟨ws, h1, h2⟩ := h
  refine ⟨ws, ?_, h2⟩
  rcases h1 with z | ⟨o, z⟩
  · subst z; exact .inl e
  · subst z; exact .inr ⟨o, e⟩
def EVDX (N : NN) (Γ : Env G) (td : TE) (m : Prog (List (κ × ν))) : Prop := ∀ σ F H, HS N Γ σ F H → ∀ Q : VK, wp m (fun kvs => ∀ p F' H', HS N Γ σ F' H' → Same F F' → (∀ F2 H2, HS N Γ σ F2 H2 → Same F' F2 → ∃ u, H2 p = some u ∧ DxAt G F2 p u kvs) → Q (.ref p) H') (EP G N) → td σ H Q
theorem evdx_slot (hi : Γ[i]? = some (.gen R b)) (hR : ∀ F p u, R.R F p u → DxAt G F p u kvs) : EVDX N Γ (tVar i) (.ok kvs) := fun σ F H hs Q q => by
  obtain ⟨p, u, e0, _, _, hp, r, _⟩ := hs.genAt hi
  refine ⟨.ref p, e0, q p F H hs (Same.refl F) fun F2 H2 hs2 e2 => ?_⟩
  obtain ⟨p2, u2, f0, _, _, hp2, r2, _⟩ := hs2.genAt hi
  rw [e0] at f0
  cases f0
  exact ⟨u2, hp2, hR _ _ _ r2⟩
theorem evdx_of {m : Prog (Dv κ ν)} (h : EV N Γ td m) : EVDX N Γ td (m >>= fun d => .ok d.kvs) := fun σ F H hs Q q => h σ F H hs Q (wp_mono (wp_bind.1 q) fun d k v F' H' hs' e r => by
  obtain ⟨p, u, e1, e2, e3⟩ := r
  subst e1
  exact k p F' H' hs' e fun F2 H2 hs2 e4 => ⟨u, hs2.w.fh _ _ (e4 _ _ e2), e3.mono e4⟩)
theorem ev_xin (hd : Kc.dep κ ≤ 8) {m1 : Prog κ} {m2 : Prog (List (κ × ν))} (h1 : EV N Γ tk m1) (h2 : EVDX N Γ td m2) : EV N Γ (tOp (TyL.rInX G.P G.w G.K false) tk td) (m1 >>= fun k => m2 >>= fun kvs => .ok (dhas kvs k)) := fun σ F H hs Q q =>
  h1 σ F H hs _ (wp_mono (wp_bind.1 q) fun k q1 v F1 H1 hs1 e1 r1 => h2 σ F1 H1 hs1 _ (wp_mono (wp_bind.1 q1) fun kvs q2 p F2 H2 hs2 e2 hst => by
    obtain ⟨u, hp, hx⟩ := hst F2 H2 hs2 (Same.refl F2)
    obtain ⟨ws, hr, hw⟩ := hx.rd hp
    obtain ⟨b, rfl⟩ := Kt.ref r1
    refine ⟨p, ws, enc k, b, rfl, rfl, hr, dx_keys hd hs2.w.fh hw, dx_keyD (N := N) hd hs2.w.fh (dp_same e2 _ _ r1), ?_⟩
    rw [if_neg Bool.false_ne_true, dx_has k hw]
    exact q2 _ F2 H2 hs2 (Same.trans e1 e2) (.bl _)))
theorem ev_xnin (hd : Kc.dep κ ≤ 8) {m1 : Prog κ} {m2 : Prog (List (κ × ν))} (h1 : EV N Γ tk m1) (h2 : EVDX N Γ td m2) : EV N Γ (tOp (TyL.rInX G.P G.w G.K true) tk td) (m1 >>= fun k => m2 >>= fun kvs => .ok (!dhas kvs k)) := fun σ F H hs Q q =>
  h1 σ F H hs _ (wp_mono (wp_bind.1 q) fun k q1 v F1 H1 hs1 e1 r1 => h2 σ F1 H1 hs1 _ (wp_mono (wp_bind.1 q1) fun kvs q2 p F2 H2 hs2 e2 hst => by
    obtain ⟨u, hp, hx⟩ := hst F2 H2 hs2 (Same.refl F2)
    obtain ⟨ws, hr, hw⟩ := hx.rd hp
    obtain ⟨b, rfl⟩ := Kt.ref r1
    refine ⟨p, ws, enc k, b, rfl, rfl, hr, dx_keys hd hs2.w.fh hw, dx_keyD (N := N) hd hs2.w.fh (dp_same e2 _ _ r1), ?_⟩
    rw [if_pos rfl, dx_has k hw]
    exact q2 _ F2 H2 hs2 (Same.trans e1 e2) (.bl _)))
theorem wp_dget {κ ν : Type} [DecidableEq κ] {kvs : List (κ × ν)} {k : κ} {P : ν → Prop} {E : Exc → Prop} (h : wp (dgetP kvs k) P E) : ∃ a, dget kvs k = some a ∧ P a := by
  unfold dgetP at h
  cases e : dget kvs k with
  | none => rw [e] at h; exact h.elim
  | some a => rw [e] at h; exact ⟨a, rfl, h⟩
theorem ev_xget (hd : Kc.dep κ ≤ 8) {m1 : Prog (List (κ × ν))} {m2 : Prog κ} (h1 : EVDX N Γ td m1) (h2 : EV N Γ tk m2) : EV N Γ (tOp (TyL.rGetX G.P G.w G.K) td tk) (m1 >>= fun kvs => m2 >>= fun k => dgetP kvs k) := fun σ F H hs Q q =>
  h1 σ F H hs _ (wp_mono (wp_bind.1 q) fun kvs q1 p F1 H1 hs1 e1 hst => h2 σ F1 H1 hs1 _ (wp_mono (wp_bind.1 q1) fun k q2 v F2 H2 hs2 e2 r2 => by
    obtain ⟨u, hp, hx⟩ := hst F2 H2 hs2 e2
    obtain ⟨ws, hr, hw⟩ := hx.rd hp
    obtain ⟨b, rfl⟩ := Kt.ref r2
    obtain ⟨a, ea, q3⟩ := wp_dget q2
    rcases dx_look k hw with ⟨z, _⟩ | ⟨a', v', z1, z2, z3⟩
    · rw [z] at ea; cases ea
    · rw [z1] at ea
      cases ea
      exact ⟨p, ws, enc k, b, v', rfl, rfl, hr, dx_keys hd hs2.w.fh hw, dx_keyD (N := N) hd hs2.w.fh r2, z2, q3 v' F2 H2 hs2 (Same.trans e1 e2) z3⟩))
theorem ev_xget2 (hd : Kc.dep κ ≤ 8) {m1 : Prog (List (κ × ν))} {m2 : Prog κ} {m3 : Prog ν} (h1 : EVDX N Γ td m1) (h2 : EV N Γ tk m2) (h3 : EV N Γ tx m3) : EV N Γ (TyL.tXGet2 G.P G.w G.K td tk tx) (m1 >>= fun kvs => m2 >>= fun k => m3 >>= fun d => .ok ((dget kvs k).getD d)) := fun σ F H hs Q q =>
  h1 σ F H hs _ (wp_mono (wp_bind.1 q) fun kvs q1 p F1 H1 hs1 e1 hst => by
    obtain ⟨u, hp, hx⟩ := hst F1 H1 hs1 (Same.refl F1)
    obtain ⟨ws, hr, hw⟩ := hx.rd hp
    refine ⟨p, rfl, ⟨ws, hr⟩, h2 σ F1 H1 hs1 _ (wp_mono (wp_bind.1 q1) fun k q2 v F2 H2 hs2 e2 r2 => h3 σ F2 H2 hs2 _ (wp_mono (wp_bind.1 q2) fun d q3 z F3 H3 hs3 e3 r3 => ?_))⟩
    obtain ⟨u, hp, hx⟩ := hst F3 H3 hs3 (Same.trans e2 e3)
    obtain ⟨ws, hr, hw⟩ := hx.rd hp
    obtain ⟨b, rfl⟩ := Kt.ref r2
    refine ⟨ws, enc k, b, rfl, hr, dx_keys hd hs3.w.fh hw, dx_keyD (N := N) hd hs3.w.fh (dp_same e3 _ _ r2), ?_⟩
    rcases dx_look k hw with ⟨z1, z2⟩ | ⟨a', v', z1, z2, z3⟩
    · rw [z2]
      rw [z1] at q3
      exact q3 _ F3 H3 hs3 (Same.trans e1 (Same.trans e2 e3)) r3
    · rw [z2]
      rw [z1] at q3
      exact q3 _ F3 H3 hs3 (Same.trans e1 (Same.trans e2 e3)) z3)
theorem sv_xput (hd : Kc.dep κ ≤ 8) {J : Aim ω} {m1 : Prog ν} {m2 : Prog κ} {c : ν → κ → Prog ω} (hO : ∀ a, N.O a = none) (hi : Γ[i]? = some (.gen (dxR G kvs) b)) (h1 : EV N Γ tv m1) (h2 : EV N Γ tk m2) (hk : ∀ v k, SV N (Γ.set i (.gen (dxR G (dput kvs k v)) b)) tz J (c v k)) :
    SV N Γ (tSeq (TyL.sXPut G.P G.w G.K (tVar i) tk tv) tz) J (m1 >>= fun v => m2 >>= fun k => chk (small kvs.length) (c v k)) := fun σ F H D hs q =>
  h1 σ F H hs _ (wp_mono (wp_bind.1 q) fun a q1 v F1 H1 hs1 e1 r1 => by
    obtain ⟨p, u, e0, _, _, _, _, _⟩ := hs1.genAt hi
    refine ⟨.ref p, e0, h2 σ F1 H1 hs1 _ (wp_mono (wp_bind.1 q1) fun k q2 y F2 H2 hs2 e2 r2 => ?_)⟩
    obtain ⟨hz, q3⟩ := wp_chk q2
    obtain ⟨p2, u2, f0, m2, hb2, hp2, ⟨ws, hw1, hw2⟩, hl2⟩ := hs2.genAt hi
    rw [e0] at f0
    cases f0
    obtain ⟨bb, rfl⟩ := Kt.ref r2
    subst hw1
    refine ⟨p, ws, enc k, bb, rfl, rfl, hp2, dx_keys hd hs2.w.fh hw2, dx_keyD (N := N) hd hs2.w.fh r2, by rw [← dx_len hw2]; exact small_lt hz, ?_⟩
    exact hk a k σ F2 _ D (hs2.putG (hO p) hi e0 ⟨_, rfl, dx_put hw2 r2 (dp_same e2 _ _ r1)⟩) (wp_mono q3 fun o x => J.mono (Same.trans e1 e2) x))
theorem evg_newX : EVG N Γ (TyL.tDNewX G.P G.w) (.ok ([] : List (κ × ν))) (fun kvs => dxR G kvs) := fun σ F H hs Q q p hp => by
  obtain ⟨hs2, n⟩ := hs_newG (u := TyL.DX G.P G.w p []) hs hp
  exact q p _ F _ hs2 (Same.refl F) n upd_same ⟨[], rfl, .nil⟩
theorem evg_dispX (hd : Kc.dep κ ≤ 8) {m1 : Prog κ} {m2 : Prog ν} (h1 : ∀ O, EV (N.wi N.E O) Γ tk m1) (h2 : ∀ O, EV (N.wi N.E O) Γ tv m2) : EVG N Γ (TyL.tDispX G.P G.w G.K tk tv) (m1 >>= fun k => m2 >>= fun v => .ok [(k, v)]) (fun kvs => dxR G kvs) := fun σ F H hs Q q p hp => by
  obtain ⟨hs1, n1⟩ := hs_newG (u := TyL.DX G.P G.w p []) hs hp
  have hO : HS (N.wi N.E fun a => if a = p then some (TyL.DX G.P G.w p []) else N.O a) Γ σ F (upd H p (TyL.DX G.P G.w p [])) := hs1.wi fun a o x => by
    by_cases ha : a = p
    · subst ha
      rw [if_pos rfl] at x
      exact ⟨⟨upd_same.trans x, n1.mine.f⟩, n1.mine.s⟩
    · rw [if_neg ha] at x
      exact hs1.w.os a o x
  have hON : ∀ a o, N.O a = some o → (fun a => if a = p then some (TyL.DX G.P G.w p []) else N.O a) a = some o := fun a o x => by
    have ne : a ≠ p := fun z => by rw [z, n1.no] at x; cases x
    show (if a = p then some (TyL.DX G.P G.w p []) else N.O a) = some o
    rw [if_neg ne]
    exact x
  refine h1 _ σ F _ hO _ (wp_imp (wp_bind.1 q) (fun k q1 x F1 H1 hsa e1 r1 => h2 _ σ F1 H1 hsa _ (wp_imp (wp_bind.1 q1) (fun v q2 y F2 H2 hs2 e2 r2 => ?_) fun e h => ep_wi hON e h)) fun e h => ep_wi hON e h)
  have hp2 := hs2.w.os p _ (if_pos rfl)
  have hs3 : HS N Γ σ F2 H2 := hs2.unwi fun a o x => hs2.w.os a o (hON a o x)
  obtain ⟨b, rfl⟩ := Kt.ref r1
  refine ⟨hp2.1.1, enc k, b, rfl, dx_keyD (N := N) hd hs3.w.fh (dp_same e2 _ _ r1), ?_⟩
  have hs4 : HS N Γ σ F2 (upd H2 p (TyL.DX G.P G.w p [(enc k, b, y)])) := hs3.writeO n1.no ⟨hp2.1.2, .inl n1.h0, n1.mine.s⟩ n1.nh
  exact q2 p _ F2 _ hs4 (Same.trans e1 e2) ⟨⟨hp2.1.2, n1.h0, n1.mine.s⟩, n1.h0, n1.nh, n1.no⟩ upd_same ⟨_, rfl, .cons ⟨rfl, dp_same e2 _ _ r1, r2⟩ .nil⟩
end
end Ty

namespace Ty
open PySem PySem.Spec PyProof.Rows L2
open Enc (enc)
variable {G : Glob}
/-! ### dicts with plain keys -/
class Sk (κ : Type) [Enc κ] where
  key : κ → Key
  inj : ∀ a b : κ, key a = key b → a = b
  dp : ∀ {K : PySem.W.Frag} {F : Hp} {v : V} {a : κ}, Dq K F v (enc a) → v = kV (key a)
  pd : ∀ {K : PySem.W.Frag} {F : Hp} (a : κ), Dq K F (kV (key a)) (enc a)
instance : Sk Int := ⟨.inl, fun _ _ e => Sum.inl.inj e, fun h => by cases h; rfl, fun a => .int a⟩
instance : Sk (List Nat) := ⟨fun s => .inr (sx s), fun _ _ e => sx_inj (Sum.inr.inj e), fun h => by cases h; rfl, fun a => .str _⟩
section
variable {κ ν ω : Type} [Enc κ] [Enc ν] [DecidableEq κ] [Sk κ] {N : NN} {Γ Γ' : Env G} {td tk tv tx : TE} {tz ts : TS} {i : Nat} {R R' : OwnR} {b : Bool} {kvs : List (κ × ν)}
def DkE (K : PySem.W.Frag) (F : Hp) (kv : κ × ν) (e : Key × V) : Prop := e.1 = Sk.key kv.1 ∧ Dq K F e.2 (enc kv.2)
theorem dkE_mono {K : PySem.W.Frag} {F F' : Hp} (e : Same F F') : ∀ {kvs : List (κ × ν)} {ws : List (Key × V)}, Paired (DkE K F) kvs ws → Paired (DkE K F') kvs ws
  | _, _, .nil => .nil
  | _, _, .cons r t => .cons ⟨r.1, dp_same e _ _ r.2⟩ (dkE_mono e t)
def DkAt (G : Glob) (F : Hp) (p : Addr) (u : HO) (kvs : List (κ × ν)) : Prop := ∃ ws, (u = .dK ws ∨ ∃ o, u = .frz o (.dK ws)) ∧ Paired (DkE G.K F) kvs ws
def dkR (G : Glob) (kvs : List (κ × ν)) : OwnR := ⟨fun F p u => ∃ ws, u = .dK ws ∧ Paired (DkE G.K F) kvs ws, fun e ⟨ws, h1, h2⟩ => ⟨ws, h1, dkE_mono e h2⟩⟩
theorem DkAt.mono {F F' : Hp} {p : Addr} {u : HO} {kvs : List (κ × ν)} (e : Same F F') (h : DkAt G F p u kvs) : DkAt G F' p u kvs := by
  obtain ⟨ws, h1, h2⟩ := h
  exact ⟨ws, h1, dkE_mono e h2⟩
/-- such a dict as data -/
structure Dw (κ ν : Type) where
  kvs : List (κ × ν)
instance rpDw : Rp G (Dw κ ν) := ⟨fun d v F => ∃ p u, v = .ref p ∧ F p = some u ∧ DkAt G F p u d.kvs, fun e ⟨p, u, h1, h2, h3⟩ => ⟨p, u, h1, e _ _ h2, h3.mono e⟩⟩
theorem dk_look {K : PySem.W.Frag} {F : Hp} (k : κ) : ∀ {kvs : List (κ × ν)} {ws : List (Key × V)}, Paired (DkE K F) kvs ws → (dget kvs k = none ∧ valV ws (Sk.key k) = none) ∨ ∃ a v, dget kvs k = some a ∧ valV ws (Sk.key k) = some v ∧ Dq K F v (enc a)
  | _, _, .nil => .inl ⟨rfl, rfl⟩
  | kv :: kvs, e :: ws, .cons r t => by
    have ih := dk_look k t
    unfold dget valV at ih ⊢
    rw [List.find?_cons, List.find?_cons, r.1]
    by_cases h : kv.1 = k
    · rw [decide_eq_true h, decide_eq_true (by rw [h])]
      exact .inr ⟨_, _, rfl, rfl, r.2⟩
    · rw [decide_eq_false h, decide_eq_false (fun z => h (Sk.inj _ _ z))]
      exact ih
theorem dk_has {K : PySem.W.Frag} {F : Hp} (k : κ) {kvs : List (κ × ν)} {ws : List (Key × V)} (h : Paired (DkE K F) kvs ws) : (valV ws (Sk.key k)).isSome = dhas kvs k := by
  unfold dhas
  rcases dk_look k h with ⟨a, b⟩ | ⟨x, v, a, b, _⟩ <;> rw [a, b] <;> rfl
theorem valV_any {ws : List (Key × V)} {k : Key} : (ws.any fun kv => decide (kv.1 = k)) = (valV ws k).isSome := by
  induction ws with
  | nil => rfl
  | cons e ws ih =>
    unfold valV at ih ⊢
    rw [List.any_cons, List.find?_cons, ih]
    by_cases h : e.1 = k
    · rw [decide_eq_true h]; rfl
    · rw [decide_eq_false h]; rfl
theorem dk_put {K : PySem.W.Frag} {F : Hp} {k : κ} {a : ν} {v : V} {kvs : List (κ × ν)} {ws : List (Key × V)} (h : Paired (DkE K F) kvs ws) (hv : Dq K F v (enc a)) : Paired (DkE K F) (dput kvs k a) (putK ws (Sk.key k) v) := by
  unfold dput putK
  rw [valV_any, dk_has k h]
  by_cases hb : dhas kvs k = true
  · rw [if_pos hb, if_pos hb]
    clear hb
    induction h with
    | nil => exact .nil
    | @cons kv e kvs ws r t ih =>
      refine .cons ?_ ih
      dsimp only
      by_cases h : kv.1 = k
      · rw [if_pos h, if_pos (show e.1 = Sk.key k by rw [r.1, h])]
        exact ⟨r.1, hv⟩
      · rw [if_neg h, if_neg (fun z => h (Sk.inj _ _ (by rw [r.1] at z; exact z)))]
        exact r
  · rw [if_neg hb, if_neg hb]
    clear hb
    induction h with
    | nil => exact .cons ⟨rfl, hv⟩ .nil
    | cons r t ih => exact .cons r ih
theorem dkR_at {F : Hp} {p : Addr} {u : HO} (h : (dkR G kvs).R F p u) : DkAt G F p u kvs := let ⟨ws, a, b⟩ := h; ⟨ws, .inl a, b⟩
theorem dkR_lock {F : Hp} {p q : Addr} {u o : HO} {od : Obj} (h : (lockR p od u (dkR G kvs)).R F q o) : DkAt G F q o kvs := by
  obtain ⟨rfl, e, ws, a, b⟩ := h
  exact ⟨ws, .inr ⟨od, by rw [e, a]⟩, b⟩
theorem dkR_mut : ∀ F p u, (dkR G kvs).R F p u → Mut (some u) := fun F p u ⟨ws, e, _⟩ => by rw [e]; exact True.intro
theorem DkAt.rd {F H : Hp} {p : Addr} {u : HO} (h : DkAt G F p u kvs) (e : H p = some u) : ∃ ws, Rd H p (.dK ws) ∧ Paired (DkE G.K F) kvs ws := by
  obtain ⟨ws, h1, h2⟩ := h
  refine ⟨ws, ?_, h2⟩
  rcases h1 with z | ⟨o, z⟩
  · subst z; exact .inl e
  · subst z; exact .inr ⟨o, e⟩
def EVDK (N : NN) (Γ : Env G) (td : TE) (m : Prog (List (κ × ν))) : Prop := ∀ σ F H, HS N Γ σ F H → ∀ Q : VK, wp m (fun kvs => ∀ p F' H', HS N Γ σ F' H' → Same F F' → (∀ F2 H2, HS N Γ σ F2 H2 → Same F' F2 → ∃ u, H2 p = some u ∧ DkAt G F2 p u kvs) → Q (.ref p) H') (EP G N) → td σ H Q
theorem evdk_slot (hi : Γ[i]? = some (.gen R b)) (hR : ∀ F p u, R.R F p u → DkAt G F p u kvs) : EVDK N Γ (tVar i) (.ok kvs) := fun σ F H hs Q q => by
  obtain ⟨p, u, e0, _, _, hp, r, _⟩ := hs.genAt hi
  refine ⟨.ref p, e0, q p F H hs (Same.refl F) fun F2 H2 hs2 e2 => ?_⟩
  obtain ⟨p2, u2, f0, _, _, hp2, r2, _⟩ := hs2.genAt hi
  rw [e0] at f0
  cases f0
  exact ⟨u2, hp2, hR _ _ _ r2⟩
theorem evdk_of {m : Prog (Dw κ ν)} (h : EV N Γ td m) : EVDK N Γ td (m >>= fun d => .ok d.kvs) := fun σ F H hs Q q => h σ F H hs Q (wp_mono (wp_bind.1 q) fun d k v F' H' hs' e r => by
  obtain ⟨p, u, e1, e2, e3⟩ := r
  subst e1
  exact k p F' H' hs' e fun F2 H2 hs2 e4 => ⟨u, hs2.w.fh _ _ (e4 _ _ e2), e3.mono e4⟩)
theorem pg_get {H : Hp} {p : Addr} {ws : List (Key × V)} (h : Rd H p (.dK ws)) (k : Key) : DGet H p (kV k) (valV ws k) := .inl ⟨ws, k, h, rfl, rfl⟩
theorem tv_kin {m1 : Prog κ} {m2 : Prog (List (κ × ν))} (h1 : EV N Γ tk m1) (h2 : EVDK N Γ td m2) : EV N Γ (tDIn tk td) (m1 >>= fun k => m2 >>= fun kvs => .ok (dhas kvs k)) := fun σ F H hs Q q =>
  h1 σ F H hs _ (wp_mono (wp_bind.1 q) fun k q1 v F1 H1 hs1 e1 r1 => h2 σ F1 H1 hs1 _ (wp_mono (wp_bind.1 q1) fun kvs q2 p F2 H2 hs2 e2 hst => by
    obtain ⟨u, hp, hx⟩ := hst F2 H2 hs2 (Same.refl F2)
    obtain ⟨ws, hr, hw⟩ := hx.rd hp
    have ev := Sk.dp r1
    subst ev
    exact ⟨p, _, rfl, pg_get hr _, by rw [dk_has k hw]; exact q2 _ F2 H2 hs2 (Same.trans e1 e2) (.bl _)⟩))
theorem tv_knin {m1 : Prog κ} {m2 : Prog (List (κ × ν))} (h1 : EV N Γ tk m1) (h2 : EVDK N Γ td m2) : EV N Γ (tDNotIn tk td) (m1 >>= fun k => m2 >>= fun kvs => .ok (!dhas kvs k)) := fun σ F H hs Q q =>
  h1 σ F H hs _ (wp_mono (wp_bind.1 q) fun k q1 v F1 H1 hs1 e1 r1 => h2 σ F1 H1 hs1 _ (wp_mono (wp_bind.1 q1) fun kvs q2 p F2 H2 hs2 e2 hst => by
    obtain ⟨u, hp, hx⟩ := hst F2 H2 hs2 (Same.refl F2)
    obtain ⟨ws, hr, hw⟩ := hx.rd hp
    have ev := Sk.dp r1
    subst ev
    exact ⟨p, _, rfl, pg_get hr _, by rw [dk_has k hw]; exact q2 _ F2 H2 hs2 (Same.trans e1 e2) (.bl _)⟩))
theorem ev_kget {m1 : Prog (List (κ × ν))} {m2 : Prog κ} (h1 : EVDK N Γ td m1) (h2 : EV N Γ tk m2) : EV N Γ (tDGet td tk) (m1 >>= fun kvs => m2 >>= fun k => dgetP kvs k) := fun σ F H hs Q q =>
  h1 σ F H hs _ (wp_mono (wp_bind.1 q) fun kvs q1 p F1 H1 hs1 e1 hst => h2 σ F1 H1 hs1 _ (wp_mono (wp_bind.1 q1) fun k q2 v F2 H2 hs2 e2 r2 => by
    obtain ⟨u, hp, hx⟩ := hst F2 H2 hs2 e2
    obtain ⟨ws, hr, hw⟩ := hx.rd hp
    have ev := Sk.dp r2
    subst ev
    obtain ⟨a, ea, q3⟩ := wp_dget q2
    rcases dk_look k hw with ⟨z, _⟩ | ⟨a', v', z1, z2, z3⟩
    · rw [z] at ea; cases ea
    · rw [z1] at ea
      cases ea
      exact ⟨p, v', rfl, by rw [← z2]; exact pg_get hr _, q3 v' F2 H2 hs2 (Same.trans e1 e2) z3⟩))
theorem ev_kget2 {m1 : Prog (List (κ × ν))} {m2 : Prog κ} {m3 : Prog ν} (h1 : EVDK N Γ td m1) (h2 : EV N Γ tk m2) (h3 : EV N Γ tx m3) : EV N Γ (tDGet2 td tk tx) (m1 >>= fun kvs => m2 >>= fun k => m3 >>= fun d => .ok ((dget kvs k).getD d)) := fun σ F H hs Q q =>
  h1 σ F H hs _ (wp_mono (wp_bind.1 q) fun kvs q1 p F1 H1 hs1 e1 hst => by
    obtain ⟨u, hp, hx⟩ := hst F1 H1 hs1 (Same.refl F1)
    obtain ⟨ws, hr, hw⟩ := hx.rd hp
    refine ⟨p, rfl, .inl ⟨ws, hr⟩, h2 σ F1 H1 hs1 _ (wp_mono (wp_bind.1 q1) fun k q2 v F2 H2 hs2 e2 r2 => h3 σ F2 H2 hs2 _ (wp_mono (wp_bind.1 q2) fun d q3 z F3 H3 hs3 e3 r3 => ?_))⟩
    obtain ⟨u, hp, hx⟩ := hst F3 H3 hs3 (Same.trans e2 e3)
    obtain ⟨ws, hr, hw⟩ := hx.rd hp
    have ev := Sk.dp r2
    subst ev
    refine ⟨_, pg_get hr _, ?_⟩
    rcases dk_look k hw with ⟨z1, z2⟩ | ⟨a', v', z1, z2, z3⟩
    · rw [z2]
      rw [z1] at q3
      exact q3 _ F3 H3 hs3 (Same.trans e1 (Same.trans e2 e3)) r3
    · rw [z2]
      rw [z1] at q3
      exact q3 _ F3 H3 hs3 (Same.trans e1 (Same.trans e2 e3)) z3)
/-- d.get(k, None) -/
theorem ev_kgetN {m1 : Prog (List (κ × ν))} {m2 : Prog κ} (h1 : EVDK N Γ td m1) (h2 : EV N Γ tk m2) : EV N Γ (tDGet2 td tk (tC .non)) (m1 >>= fun kvs => m2 >>= fun k => .ok (dget kvs k)) := fun σ F H hs Q q =>
  h1 σ F H hs _ (wp_mono (wp_bind.1 q) fun kvs q1 p F1 H1 hs1 e1 hst => by
    obtain ⟨u, hp, hx⟩ := hst F1 H1 hs1 (Same.refl F1)
    obtain ⟨ws, hr, hw⟩ := hx.rd hp
    refine ⟨p, rfl, .inl ⟨ws, hr⟩, h2 σ F1 H1 hs1 _ (wp_mono (wp_bind.1 q1) fun k q2 v F2 H2 hs2 e2 r2 => ?_)⟩
    obtain ⟨u, hp, hx⟩ := hst F2 H2 hs2 e2
    obtain ⟨ws, hr, hw⟩ := hx.rd hp
    have ev := Sk.dp r2
    subst ev
    refine ⟨_, pg_get hr _, ?_⟩
    rcases dk_look k hw with ⟨z1, z2⟩ | ⟨a', v', z1, z2, z3⟩
    · rw [z2]
      rw [z1] at q2
      exact q2 _ F2 H2 hs2 (Same.trans e1 e2) .non
    · rw [z2]
      rw [z1] at q2
      exact q2 _ F2 H2 hs2 (Same.trans e1 e2) z3)
theorem sv_kput {J : Aim ω} {m1 : Prog ν} {m2 : Prog κ} {c : ν → κ → Prog ω} (hO : ∀ a, N.O a = none) (hi : Γ[i]? = some (.gen (dkR G kvs) b)) (h1 : EV N Γ tv m1) (h2 : EV N Γ tk m2) (hk : ∀ v k, SV N (Γ.set i (.gen (dkR G (dput kvs k v)) b)) tz J (c v k)) :
    SV N Γ (tSeq (sDPut (tVar i) tk tv) tz) J (m1 >>= fun v => m2 >>= fun k => chk (small kvs.length) (c v k)) := fun σ F H D hs q =>
  h1 σ F H hs _ (wp_mono (wp_bind.1 q) fun a q1 v F1 H1 hs1 e1 r1 => by
    obtain ⟨p, u, e0, _, _, _, _, _⟩ := hs1.genAt hi
    refine ⟨.ref p, e0, h2 σ F1 H1 hs1 _ (wp_mono (wp_bind.1 q1) fun k q2 y F2 H2 hs2 e2 r2 => ?_)⟩
    obtain ⟨hz, q3⟩ := wp_chk q2
    obtain ⟨p2, u2, f0, m2, hb2, hp2, ⟨ws, hw1, hw2⟩, hl2⟩ := hs2.genAt hi
    rw [e0] at f0
    cases f0
    have ev := Sk.dp r2
    subst hw1 ev
    refine ⟨p, _, rfl, .inl ⟨ws, _, hp2, rfl, by rw [← TyL.paired_len hw2]; exact small_lt hz, rfl⟩, ?_⟩
    exact hk a k σ F2 _ D (hs2.putG (hO p) hi e0 ⟨_, rfl, dk_put hw2 (dp_same e2 _ _ r1)⟩) (wp_mono q3 fun o x => J.mono (Same.trans e1 e2) x))
theorem evg_newK : EVG N Γ tDNewK (.ok ([] : List (κ × ν))) (fun kvs => dkR G kvs) := fun σ F H hs Q q p hp => by
  obtain ⟨hs2, n⟩ := hs_newG (u := .dK []) hs hp
  exact q p _ F _ hs2 (Same.refl F) n upd_same ⟨[], rfl, .nil⟩
theorem evg_dispK {m1 : Prog κ} {m2 : Prog ν} (h1 : ∀ O, EV (N.wi N.E O) Γ tk m1) (h2 : ∀ O, EV (N.wi N.E O) Γ tv m2) : EVG N Γ (tDisp [(tk, tv)]) (m1 >>= fun k => m2 >>= fun v => .ok [(k, v)]) (fun kvs => dkR G kvs) := fun σ F H hs Q q p hp => by
  obtain ⟨hs1, n1⟩ := hs_newG (u := .dK []) hs hp
  have hO : HS (N.wi N.E fun a => if a = p then some (.dK []) else N.O a) Γ σ F (upd H p (.dK [])) := hs1.wi fun a o x => by
    by_cases ha : a = p
    · subst ha
      rw [if_pos rfl] at x
      exact ⟨⟨upd_same.trans x, n1.mine.f⟩, n1.mine.s⟩
    · rw [if_neg ha] at x
      exact hs1.w.os a o x
  have hON : ∀ a o, N.O a = some o → (fun a => if a = p then some (HO.dK []) else N.O a) a = some o := fun a o x => by
    have ne : a ≠ p := fun z => by rw [z, n1.no] at x; cases x
    show (if a = p then some (HO.dK []) else N.O a) = some o
    rw [if_neg ne]
    exact x
  refine h1 _ σ F _ hO _ (wp_imp (wp_bind.1 q) (fun k q1 x F1 H1 hsa e1 r1 => h2 _ σ F1 H1 hsa _ (wp_imp (wp_bind.1 q1) (fun v q2 y F2 H2 hs2 e2 r2 => ?_) fun e h => ep_wi hON e h)) fun e h => ep_wi hON e h)
  have hp2 := hs2.w.os p _ (if_pos rfl)
  have hs3 : HS N Γ σ F2 H2 := hs2.unwi fun a o x => hs2.w.os a o (hON a o x)
  have ev := Sk.dp r1
  subst ev
  refine ⟨hp2.1.1, [(Sk.key k, y)], rfl, by show 1 ≤ 15; decide, ?_⟩
  have hs4 : HS N Γ σ F2 (upd H2 p (.dK [(Sk.key k, y)])) := hs3.writeO n1.no ⟨hp2.1.2, .inl n1.h0, n1.mine.s⟩ n1.nh
  exact q2 p _ F2 _ hs4 (Same.trans e1 e2) ⟨⟨hp2.1.2, n1.h0, n1.mine.s⟩, n1.h0, n1.nh, n1.no⟩ upd_same ⟨_, rfl, .cons ⟨rfl, r2⟩ .nil⟩
/-- dict(d) -/
theorem evg_copyK {m : Prog (List (κ × ν))} (h : EVDK N Γ td m) : EVG N Γ (tCB (fun xs H Q => ∃ (a : Addr) (kvs : List (Key × V)), xs = [.ref a] ∧ Rd H a (.dK kvs) ∧ ∀ p, H p = none → Q (.ref p) (upd H p (.dK kvs))) (tCons td tNil)) m (fun kvs => dkR G kvs) := fun σ F H hs Q q =>
  h σ F H hs _ (wp_mono q fun kvs q1 p F1 H1 hs1 e1 hst => by
    obtain ⟨u, hp, hx⟩ := hst F1 H1 hs1 (Same.refl F1)
    obtain ⟨ws, hr, hw⟩ := hx.rd hp
    refine ⟨p, ws, rfl, hr, fun l hl => ?_⟩
    obtain ⟨hs2, n⟩ := hs_newG (u := .dK ws) hs1 hl
    exact q1 l _ F1 _ hs2 e1 n upd_same ⟨ws, rfl, hw⟩)
theorem dk_keysV {K : PySem.W.Frag} {F : Hp} : ∀ {kvs : List (κ × ν)} {ws : List (Key × V)}, Paired (DkE K F) kvs ws → DqAll K F (ws.map fun kv => kV kv.1) ((kvs.map (·.1)).map enc)
  | _, _, .nil => .nil
  | _, _, .cons r t => by
    refine .cons ?_ (dk_keysV t)
    dsimp only
    rw [r.1]
    exact Sk.pd _
/-- list(d) -/
theorem evn_listK {m : Prog (List (κ × ν))} (h : EVDK N Γ td m) : EVN N Γ (tCB (fun xs H Q => ∃ (a : Addr) (kvs : List (Key × V)), xs = [.ref a] ∧ Rd H a (.dK kvs) ∧ ∀ p, H p = none → Q (.ref p) (upd H p (.lst (kvs.map fun kv => kV kv.1)))) (tCons td tNil)) (m >>= fun kvs => .ok (kvs.map (·.1) : L κ)) := fun σ F H hs Q q =>
  h σ F H hs _ (wp_mono (wp_bind.1 q) fun kvs q1 p F1 H1 hs1 e1 hst => by
    obtain ⟨u, hp, hx⟩ := hst F1 H1 hs1 (Same.refl F1)
    obtain ⟨ws, hr, hw⟩ := hx.rd hp
    refine ⟨p, ws, rfl, hr, fun l hl => ?_⟩
    obtain ⟨hs2, n⟩ := hs_newlist (vs := ws.map fun kv => kV kv.1) hs1 hl
    exact q1 l _ F1 _ hs2 e1 n upd_same (dk_keysV hw))
/-- for k in d -/
theorem evi_keysK {p : Addr} {od : Obj} {u : HO} (hi : Γ[i]? = some (.gen (lockR p od u (dkR G kvs)) b)) : EVI (G := G) (α := κ) N Γ (iKeys (tVar i)) (.ok (kvs.map (·.1))) (fun Γ' => Γ'[i]? = some (.gen (lockR p od u (dkR G kvs)) b)) := fun σ F H hs R q => by
  obtain ⟨p1, u1, e0, _, _, hp, ⟨z1, z2, ws, z3, hw⟩, _⟩ := hs.genAt hi
  subst z1 z2 z3
  have hl := TyL.paired_len hw
  refine ⟨.ref p1, e0, p1, od, rfl, .inl ⟨ws, hp, q F H _ hs (Same.refl F) fun N1 Γ' hΓ => ⟨fun j σ' F' H' hs' e' hj => ?_, fun j a σ' F' H' x H2 hs' e' hx y => ?_, fun j σ' F' H' hs' e' hj => ?_⟩⟩⟩
  · obtain ⟨p2, u2, f0, _, _, hp2, ⟨y1, y2, _⟩, _⟩ := hs'.genAt hΓ
    subst y1 y2
    exact ⟨hp2, by rw [List.length_map] at hj; omega⟩
  · obtain ⟨e2, k, v, hk, ex⟩ := y
    have rr : ∀ {kvs : List (κ × ν)} {ws : List (Key × V)} {j : Nat} {a} {kv : Key × V}, Paired (DkE G.K F) kvs ws → (kvs.map (·.1))[j]? = some a → ws[j]? = some kv → kv.1 = Sk.key a := by
      intro kvs ws j a kv r
      induction r generalizing j with
      | nil => intro z; simp at z
      | cons r t ih =>
        intro z1 z2
        cases j with
        | zero => cases z1; cases z2; exact r.1
        | succ j => exact ih (j := j) z1 z2
    have := rr hw hx hk
    refine .inl ⟨e2, ?_⟩
    rw [ex, show k = Sk.key a from this]
    exact Sk.pd a
  · obtain ⟨p2, u2, f0, _, _, hp2, ⟨y1, y2, _⟩, _⟩ := hs'.genAt hΓ
    subst y1 y2
    exact ⟨hp2, by rw [List.length_map] at hj; omega⟩
end
section
variable {κ ν ω : Type} [Enc κ] [Enc ν] [DecidableEq κ] [Kc κ] [Kt κ] {N : NN} {Γ Γ' : Env G} {i : Nat} {b : Bool} {kvs : List (κ × ν)}
theorem dx_pair {K : PySem.W.Frag} {F : Hp} : ∀ {kvs : List (κ × ν)} {ws : TyL.DXs} {j : Nat} {kv : κ × ν} {e : PyData × Addr × V}, Paired (DxE K F) kvs ws → kvs[j]? = some kv → ws[j]? = some e → DxE K F kv e
  | _, _, j, _, _, .nil, z, _ => by simp at z
  | _, _, 0, _, _, .cons r t, z1, z2 => by cases z1; cases z2; exact r
  | _, _, j + 1, _, _, .cons r t, z1, z2 => dx_pair (j := j) t z1 z2
theorem evi_keysX {p : Addr} {od : Obj} {u : HO} (hi : Γ[i]? = some (.gen (lockR p od u (dxR G kvs)) b)) : EVI (G := G) (α := κ) N Γ (TyL.iKeysX G.P G.w (tVar i)) (.ok (kvs.map (·.1))) (fun Γ' => Γ'[i]? = some (.gen (lockR p od u (dxR G kvs)) b)) := fun σ F H hs R q => by
  obtain ⟨p1, u1, e0, _, _, hp, ⟨z1, z2, ws, z3, hw⟩, _⟩ := hs.genAt hi
  subst z1 z2 z3
  have hl := dx_len hw
  refine ⟨.ref p1, e0, p1, od, ws, rfl, hp, q F H _ hs (Same.refl F) fun N1 Γ' hΓ => ⟨fun j σ' F' H' hs' e' hj => ?_, fun j a σ' F' H' x H2 hs' e' hx y => ?_, fun j σ' F' H' hs' e' hj => ?_⟩⟩
  · obtain ⟨p2, u2, f0, _, _, hp2, ⟨y1, y2, _⟩, _⟩ := hs'.genAt hΓ
    subst y1 y2
    exact ⟨hp2, by rw [List.length_map] at hj; omega⟩
  · obtain ⟨e2, e, he, ex⟩ := y
    rw [List.getElem?_map] at hx
    obtain ⟨kv, hkv, ek⟩ := Option.map_eq_some_iff.1 hx
    have r := dx_pair hw hkv he
    refine .inl ⟨e2, ?_⟩
    rw [ex, ← ek]
    exact dp_same e' _ _ r.2.1
  · obtain ⟨p2, u2, f0, _, _, hp2, ⟨y1, y2, _⟩, _⟩ := hs'.genAt hΓ
    subst y1 y2
    exact ⟨hp2, by rw [List.length_map] at hj; omega⟩
theorem evi_itemsX {p : Addr} {od : Obj} {u : HO} (hi : Γ[i]? = some (.gen (lockR p od u (dxR G kvs)) b)) : EVI (G := G) (α := κ × ν) N Γ (TyL.iItemsX G.P G.w (tVar i)) (.ok kvs) (fun Γ' => Γ'[i]? = some (.gen (lockR p od u (dxR G kvs)) b)) := fun σ F H hs R q => by
  obtain ⟨p1, u1, e0, _, _, hp, ⟨z1, z2, ws, z3, hw⟩, _⟩ := hs.genAt hi
  subst z1 z2 z3
  have hl := dx_len hw
  refine ⟨.ref p1, e0, p1, od, ws, rfl, hp, q F H _ hs (Same.refl F) fun N1 Γ' hΓ => ⟨fun j σ' F' H' hs' e' hj => ?_, fun j a σ' F' H' x H2 hs' e' hx y => ?_, fun j σ' F' H' hs' e' hj => ?_⟩⟩
  · obtain ⟨p2, u2, f0, _, _, hp2, ⟨y1, y2, _⟩, _⟩ := hs'.genAt hΓ
    subst y1 y2
    exact ⟨hp2, by omega⟩
  · obtain ⟨T, e, he, ex, hT, eH⟩ := y
    have r := dx_pair hw hx he
    refine .inr ⟨T, _, hT, eH, ?_⟩
    have fT : F' T = none := Same.free hs'.w.fh hT
    have s := Same.trans e' (same_new (o := .tup [.ref e.2.1, e.2.2]) fT)
    rw [ex]
    exact .tup (.inl (.inl upd_same)) (.cons (dp_same s _ _ r.2.1) (.cons (dp_same s _ _ r.2.2) .nil))
  · obtain ⟨p2, u2, f0, _, _, hp2, ⟨y1, y2, _⟩, _⟩ := hs'.genAt hΓ
    subst y1 y2
    exact ⟨hp2, by omega⟩
end
end Ty

namespace TyL
open PySem PySem.Spec PyProof.Rows L2
theorem get_list {X : Cx} : PGet X (rIxL X.K) := by
  intro pins s σ H o i ov iv Q I ro ri h
  obtain ⟨p, xs, k, z, rfl, rfl, hq, he, q⟩ := h
  obtain rfl : ov = Value.ref p := ro
  obtain ⟨t, rfl⟩ := ri
  obtain ⟨its, r, pl, hz⟩ := I.list hq
  obtain ⟨j, h1, h2, h3, h4, h5⟩ := atI_get he
  obtain ⟨w, ew, rw'⟩ := r.get h2
  have hl := r.length
  have hn := line63
  have fin : EP X pins σ Q w s := ⟨z, H, I, rw', q⟩
  by_cases h0 : 0 ≤ k
  · have hj : k.toNat = j := by
      rw [seqIndex_of h0 h5] at h1
      exact Option.some.inj h1
    exact wpAny_getItem_list pl.isList h0 (by omega) (by rw [hj]; simpa using ew) fin
  · have hj : (k + (its.toArray.size : Int)).toNat = j := by
      rw [seqIndex_neg (by omega) h4] at h1
      rw [List.size_toArray, ← hl]
      exact Option.some.inj h1
    exact wpAny_getItem_list_neg pl.isList (by omega) (by rw [List.size_toArray] <;> omega) (by omega) (by rw [hj]; simpa using ew) fin
end TyL
namespace Ty
open PySem PySem.Spec PyProof.Rows L2
open Enc (enc)
variable {G : Glob}
section
variable {α β γ ω : Type} [Enc α] {N : NN} {Γ Γ' : Env G} {te ta tb : TE} {tz ts : TS} {i : Nat} {xs : List α}
theorem map_eraseIdx' : ∀ (l : List α) (n : Nat), (l.eraseIdx n).map (enc : α → PyData) = (l.map enc).eraseIdx n
  | [], n => by simp
  | a :: l, 0 => rfl
  | a :: l, n + 1 => by show enc a :: _ = enc a :: _; rw [map_eraseIdx' l n]
theorem map_dropLast' : ∀ (l : List α), (l.dropLast).map (enc : α → PyData) = (l.map enc).dropLast
  | [] => rfl
  | [a] => rfl
  | a :: b :: l => by show enc a :: _ = enc a :: _; rw [map_dropLast' (b :: l)]; rfl
theorem dpAll_dropLast {K : PySem.W.Frag} {F : Hp} : ∀ {ds : List PyData} {vs : List V}, DqAll K F vs ds → DqAll K F vs.dropLast ds.dropLast
  | [], _, h => by cases h; exact .nil
  | [d], _, h => by
    cases h with
    | cons h1 h2 => cases h2; exact .nil
  | d :: e :: ds, _, h => by
    cases h with
    | cons h1 h2 =>
      cases h2 with
      | cons h3 h4 => exact .cons h1 (dpAll_dropLast (.cons h3 h4))
/-- xs.pop(): the last one, and the list without it -/
def popP (xs : List α) : Prog (α × List α) := match xs.getLast? with
  | some a => .ok (a, xs.dropLast)
  | none => .stuck
def popAtP (xs : List α) (j : Int) : Prog (α × List α) := match xs[j.toNat]? with
  | some a => chk (decide (0 ≤ j) && inRange j) (.ok (a, xs.eraseIdx j.toNat))
  | none => .stuck
theorem evx_pop (hO : ∀ a, N.O a = none) (hi : Γ[i]? = some (.lst xs)) : EVX N Γ (tBM0 G.K "list" rPop (tVar i)) (popP xs) (fun ys : List α => Γ.set i (.lst ys)) := fun σ F H hs Q q => by
  obtain ⟨p, vs, e0, m0, hp, d, hl⟩ := hs.lstAt hi
  unfold popP at q
  cases hg : xs.getLast? with
  | none => rw [hg] at q; exact q.elim
  | some a =>
    rw [hg] at q
    have hlen := dpAll_len d
    have hx : xs[xs.length - 1]? = some a := by rw [← List.getLast?_eq_getElem?]; exact hg
    obtain ⟨v, hv, dv⟩ := dpAll_at d hx
    refine ⟨.ref p, e0, .inl ⟨rfl, vs, .inl (.inl hp)⟩, p, vs, v, rfl, rfl, hp, by rw [hlen]; exact hv, ?_⟩
    exact q v F _ (hs.put hO hi e0 (by rw [map_dropLast']; exact dpAll_dropLast d)) (Same.refl F) dv
theorem evx_popAt {m : Prog Int} (hO : ∀ a, N.O a = none) (hi : Γ[i]? = some (.lst xs)) (h : EV N Γ ta m) : EVX N Γ (tBM G.K "list" rPopAt (tVar i) (tCons ta tNil)) (m >>= fun j => popAtP xs j) (fun ys : List α => Γ.set i (.lst ys)) := fun σ F H hs Q q => by
  obtain ⟨p, vs, e0, m0, hp, d, hl⟩ := hs.lstAt hi
  refine ⟨.ref p, e0, .inl ⟨rfl, vs, .inl (.inl hp)⟩, h σ F H hs _ (wp_mono (wp_bind.1 q) fun j q1 w F1 H1 hs1 e1 r1 => ?_)⟩
  obtain ⟨p', vs', e0', m0', hp', d', _⟩ := hs1.lstAt hi
  rw [e0] at e0'
  cases e0'
  unfold popAtP at q1
  cases hg : xs[j.toNat]? with
  | none => rw [hg] at q1; exact q1.elim
  | some a =>
    rw [hg] at q1
    obtain ⟨hz, q1⟩ := wp_chk q1
    obtain ⟨hz1, hz2⟩ := Bool.and_eq_true_iff.1 hz
    have hz1 := of_decide_eq_true hz1
    obtain ⟨b1, b2⟩ := inRange_ok hz2
    obtain ⟨v, hv, dv⟩ := dpAll_at d' hg
    have hlt : j.toNat < vs'.length := (List.getElem?_eq_some_iff.1 hv).1
    refine ⟨p, vs', j, j.toNat, v, rfl, by rw [Scl.dp (α := Int) r1]; rfl, hp', by omega, by omega, ?_, hv, ?_⟩
    · have hx : ixN vs'.length j = some j.toNat := by
        unfold ixN
        rw [if_pos hz1, if_pos (by omega)]
      exact (ixN_seq hx).1
    · exact q1 v F1 _ (hs1.put hO hi e0 (by rw [map_eraseIdx']; exact dpAll_erase _ d')) e1 dv
/-- a, b = (a call that changes the frame) -/
theorem sv_asgTX {α ξ : Type} [iα : Rp G α] {g : TG} {m : Prog (α × ξ)} {Γx : ξ → Env G} {J : Aim ω} {k : α × ξ → Prog ω} {Γt : α × ξ → Env G} (h : EVX N Γ te m Γx) (hg : ∀ y, GV N (Γx y.2) g y.1 (Γt y)) (hk : ∀ y, SV N (Γt y) tz J (k y)) : SV N Γ (tSeq (tAsg te g) tz) J (m >>= k) := fun σ F H D hs q =>
  h σ F H hs _ (wp_mono (wp_bind.1 q) fun y q1 v F1 H1 hs1 e1 r1 => hg y σ F1 H1 v hs1 r1 _ fun σ2 F2 H2 hs2 e2 => hk y σ2 F2 H2 D hs2 (wp_mono q1 fun o x => J.mono (Same.trans e1 e2) x))
/-! xs[j] = e, xs[j] += e -/
def setI (xs : List α) (j : Int) (a : α) : Prog (List α) := match ixN xs.length j with
  | some k => .ok (xs.set k a)
  | none => .stuck
theorem dpAll_set {K : PySem.W.Frag} {F : Hp} {v : V} {d : PyData} (hv : Dq K F v d) : ∀ {ds : List PyData} {vs : List V} (n : Nat), DqAll K F vs ds → DqAll K F (vs.set n v) (ds.set n d)
  | [], _, n, h => by cases h; exact .nil
  | e :: ds, _, n, h => by
    cases h with
    | cons h1 h2 =>
      cases n with
      | zero => exact .cons hv h2
      | succ n => exact .cons h1 (dpAll_set hv n h2)
theorem sv_setI {m1 : Prog α} {m2 : Prog Int} {J : Aim ω} {k : List α → Prog ω} (hO : ∀ a, N.O a = none) (hi : Γ[i]? = some (.lst xs)) (h1 : EV N Γ ta m1) (h2 : EV N Γ tb m2) (hk : ∀ ys : List α, SV N (Γ.set i (.lst ys)) tz J (k ys)) :
    SV N Γ (tSeq (tAsg ta (gSub (tVar i) tb rSetL)) tz) J (m1 >>= fun a => m2 >>= fun j => setI xs j a >>= k) := fun σ F H D hs q =>
  h1 σ F H hs _ (wp_mono (wp_bind.1 q) fun a q1 v F1 H1 hs1 e1 r1 => by
    obtain ⟨p, vs, e0, m0, hp, d, hl⟩ := hs1.lstAt hi
    refine ⟨.ref p, e0, h2 σ F1 H1 hs1 _ (wp_mono (wp_bind.1 q1) fun j q2 w F2 H2 hs2 e2 r2 => ?_)⟩
    obtain ⟨p', vs', e0', m0', hp', d', _⟩ := hs2.lstAt hi
    rw [e0] at e0'
    cases e0'
    unfold setI at q2
    cases hx : ixN xs.length j with
    | none => rw [hx] at q2; exact q2.elim
    | some n =>
      rw [hx] at q2
      refine ⟨p, vs', j, n, rfl, Scl.dp (α := Int) r2, hp', by rw [dpAll_len d']; exact hx, ?_⟩
      exact hk _ σ F2 _ D (hs2.put hO hi e0 (by rw [List.map_set]; exact dpAll_set (dp_same e2 _ _ r1) n d')) (wp_mono q2 fun o x => J.mono (Same.trans e1 e2) x))
end
section
variable {ω : Type} {N : NN} {Γ Γ' : Env G} {te ta tb : TE} {tz ts : TS} {i : Nat} {xs : List Int}
theorem sv_augI {m1 m2 : Prog Int} {J : Aim ω} {k : List Int → Prog ω} (hO : ∀ a, N.O a = none) (hi : Γ[i]? = some (.lst xs)) (h1 : EV N Γ ta m1) (h2 : EV N Γ tb m2) (hk : ∀ ys : List Int, SV N (Γ.set i (.lst ys)) tz J (k ys)) :
    SV N Γ (tSeq (tAugS (tVar i) ta tb (rIxL G.K) (ipI fun i j => i + j) rSetL) tz) J (m1 >>= fun j => getI xs j >>= fun a => m2 >>= fun b => setI xs j (a + b) >>= k) := fun σ F H D hs q => by
  obtain ⟨p, vs, e0, m0, hp, d, hl⟩ := hs.lstAt hi
  refine ⟨.ref p, e0, h1 σ F H hs _ (wp_mono (wp_bind.1 q) fun j q1 w F1 H1 hs1 e1 r1 => ?_)⟩
  obtain ⟨p', vs', e0', m0', hp', d', _⟩ := hs1.lstAt hi
  rw [e0] at e0'
  cases e0'
  have ew : w = .int j := Scl.dp r1
  subst ew
  obtain ⟨a, ea, q2⟩ := wp_getI (wp_bind.1 q1)
  obtain ⟨v, ev, dv⟩ := atI_dp d' ea
  have dv' : v = .int a := Scl.dp (α := Int) dv
  subst dv'
  refine ⟨p, vs', j, .int a, rfl, rfl, .inl (.inl hp'), ev, h2 σ F1 H1 hs1 _ (wp_mono (wp_bind.1 q2) fun b q3 y F2 H2 hs2 e2 r2 => ?_)⟩
  have ey : y = .int b := Scl.dp r2
  subst ey
  obtain ⟨p2, vs2, e02, m02, hp2, d2, _⟩ := hs2.lstAt hi
  rw [e0] at e02
  cases e02
  unfold setI at q3
  cases hx : ixN xs.length j with
  | none => rw [hx] at q3; exact q3.elim
  | some n =>
    rw [hx] at q3
    refine ⟨a, b, rfl, rfl, p, vs2, j, n, rfl, rfl, hp2, by rw [dpAll_len d2]; exact hx, ?_⟩
    exact hk _ σ F2 _ D (hs2.put hO hi e0 (by rw [List.map_set]; exact dpAll_set (.int _) n d2)) (wp_mono q3 fun o x => J.mono (Same.trans e1 e2) x)
end
end Ty

namespace Ty
open PySem PySem.Spec PyProof.Rows L2
open Enc (enc)
variable {G : Glob}
section
variable {α γ ω : Type} [iα : Rp G α] {N : NN} {Γ Γ' : Env G} {te ta : TE} {tz ts : TS} {i : Nat} {R R' : OwnR} {b : Bool}
theorem sv_lockF {βs : Type} {Γi : βs → Env G} {Γl : Addr → Obj → HO → βs → Env G} {J : Aim ω} {m : Prog βs} {k : βs → Prog ω} (hO : ∀ a, N.O a = none) (hi : Γ[i]? = some (.gen R b)) (hmu : ∀ F p u, R.R F p u → Mut (some u))
    (hb : ∀ p od u, SV N (Γ.set i (.gen (lockR p od u R) b)) (tSeq ts tNext) (JN N (Γl p od u)) m) (hl : ∀ p od u x, (Γl p od u x)[i]? = some (.gen (lockR p od u R) b)) (hs : ∀ p od u x, (Γl p od u x).set i (.gen R b) = Γi x)
    (hk : ∀ x, SV N (Γi x) tz J (k x)) : SV N Γ (tSeq (tLock ts) tz) J (m >>= k) := fun σ F H D hs0 q => by
  obtain ⟨p, u, e0, m0, hb0, hp, r, hl0⟩ := hs0.genAt hi
  refine ⟨p, u, hp, hmu F p u r, fun od => ?_⟩
  have hs1 : HS N (Γ.set i (.gen (lockR p od u R) b)) σ F (upd H p (.frz od u)) := hs0.putG (hO p) hi e0 ⟨rfl, rfl, r⟩
  let D' : Ends := ⟨fun σ' H' => H' p = some (.frz od u) ∧ tz D σ' (upd H' p u), fun v H' => H' p = some (.frz od u) ∧ D.rt v (upd H' p u), fun σ' H' => H' p = some (.frz od u) ∧ D.bk σ' (upd H' p u), fun σ' H' => H' p = some (.frz od u) ∧ D.ct σ' (upd H' p u)⟩
  suffices key : tSeq ts tNext D' σ (upd H p (.frz od u)) from key
  refine hb p od u σ F _ D' hs1 (wp_mono (wp_bind.1 q) fun x q1 σ2 F2 H2 hs2 e2 => ?_)
  obtain ⟨p2, u2, f0, m2, hb2, hp2, ⟨z1, z2, r2⟩, _⟩ := hs2.genAt (hl p od u x)
  subst z1 z2
  have hs3 := hs2.putG (R' := R) (u := u) (hO p2) (hl p2 od u x) f0 r2
  rw [hs p2 od u x] at hs3
  exact ⟨hp2, hk x σ2 F2 _ D hs3 (wp_mono q1 fun o x => J.mono e2 x)⟩
/-- y = [.. for .. in a dict ..] -/
theorem sv_asgNL {δ : Type} [Enc δ] {j : Nat} {m : Prog (L δ)} {J : Aim ω} {k : L δ → Prog ω} (h : EVN N Γ (tLockE te) m) (hk : ∀ xs : List δ, SV N (Γ.set j (.lst xs)) tz J (k xs)) : SV N Γ (tSeq (tLock (tAsg te (gName j))) tz) J (m >>= k) := sv_asgN (te := tLockE te) h hk
theorem sv_asgL [iα : Rp G α] {j : Nat} {m : Prog α} {J : Aim ω} {k : α → Prog ω} (h : EV N Γ (tLockE te) m) (hk : ∀ a, SV N (Γ.set j (.per a)) tz J (k a)) : SV N Γ (tSeq (tLock (tAsg te (gName j))) tz) J (m >>= k) := sv_asg (te := tLockE te) h hk
/-- xs.extend(a list that is data) -/
theorem sv_extendD {α : Type} [Enc α] {xs : List α} {m : Prog (L α)} {J : Aim ω} {k : L α → Prog ω} (hO : ∀ a, N.O a = none) (hi : Γ[i]? = some (.lst xs)) (h : EV N Γ te m) (hk : ∀ ys : List α, SV N (Γ.set i (.lst (xs ++ ys))) tz J (k ys)) :
    SV N Γ (tSeq (tDrop (tBM G.K "list" rExtend (tVar i) (tCons te tNil))) tz) J (m >>= fun (ys : List α) => chk (small (xs.length + ys.length)) (k ys)) := fun σ F H D hs q => by
  obtain ⟨p, vs, e0, m0, hp, d, hl⟩ := hs.lstAt hi
  refine ⟨.ref p, e0, .inl ⟨rfl, vs, .inl (.inl hp)⟩, h σ F H hs _ (wp_mono (wp_bind.1 q) fun (ys : List α) q1 b F1 H1 hs1 e1 r1 => ?_)⟩
  obtain ⟨hz, q1⟩ := wp_chk q1
  obtain ⟨p', vs', e0', m0', hp', d', _⟩ := hs1.lstAt hi
  rw [e0] at e0'
  cases e0'
  have hd : Dq G.K F1 b (.list (ys.map enc)) := r1
  cases hd with
  | lst hq ha =>
    refine ⟨p, _, vs', _, rfl, rfl, hp', hs1.w.fh _ _ hq, by rw [dpAll_len d', dpAll_len ha]; exact small_le hz, ?_⟩
    exact hk ys σ F1 _ D (hs1.put hO hi e0 (by rw [List.map_append]; exact dpAll_append d' ha)) (wp_mono q1 fun o x => J.mono e1 x)
theorem ev_tup0D : EV N Γ (tTup tNil) (.ok (PyData.tuple [])) := fun σ F H hs Q q => by
  refine ⟨by show 0 ≤ sizeLine; decide, fun p hp => ?_⟩
  obtain ⟨hs2, e3⟩ := hs.laid (o := .tup []) hp
  exact q (.ref p) _ _ hs2 e3 (.tup (.inl (.inl upd_same)) .nil)
theorem no_own3 {i j k : Nat} {e e2 e3 : Ent G} (h : Γ[i]? = some e) (o : e.own = false) (h2 : Γ[j]? = some e2) (o2 : e2.own = false) (h3 : Γ[k]? = some e3) (o3 : e3.own = false) : notOwn Γ [i, j, k] := fun n hn e' h' => by
  rcases List.mem_cons.1 hn with z | hn
  · subst z; rw [h] at h'; cases h'; exact o
  · exact no_own2 h2 o2 h3 o3 n hn e' h'
theorem no_own4 {i j k l : Nat} {e e2 e3 e4 : Ent G} (h : Γ[i]? = some e) (o : e.own = false) (h2 : Γ[j]? = some e2) (o2 : e2.own = false) (h3 : Γ[k]? = some e3) (o3 : e3.own = false) (h4 : Γ[l]? = some e4) (o4 : e4.own = false) : notOwn Γ [i, j, k, l] := fun n hn e' h' => by
  rcases List.mem_cons.1 hn with z | hn
  · subst z; rw [h] at h'; cases h'; exact o
  · exact no_own3 h2 o2 h3 o3 h4 o4 n hn e' h'
end
theorem dv_rp {κ ν : Type} [Enc κ] [Enc ν] [Kt κ] {kvs : List (κ × ν)} : ∀ F p u, F p = some u → (dxR G kvs).R F p u → Rp.rp (G := G) (Dv.mk kvs) (.ref p) F := fun F p u h r => ⟨p, u, rfl, h, let ⟨ws, a, b⟩ := r; ⟨ws, .inl a, b⟩⟩
theorem dw_rp {κ ν : Type} [Enc κ] [Enc ν] [DecidableEq κ] [Sk κ] {kvs : List (κ × ν)} : ∀ F p u, F p = some u → (dkR G kvs).R F p u → Rp.rp (G := G) (Dw.mk kvs) (.ref p) F := fun F p u h r => ⟨p, u, rfl, h, let ⟨ws, a, b⟩ := r; ⟨ws, .inl a, b⟩⟩
end Ty

namespace Ty
open PySem PySem.Spec PyProof.Rows L2
open Enc (enc)
variable {G : Glob}
section
variable {α β γ ω : Type} [iα : Rp G α] [iβ : Rp G β] [iγ : Rp G γ] {N : NN} {Γ : Env G} {ta tb tc : TE} {tz : TS} {i j l : Nat} {J : Aim ω}
/-- a, b = x, y for plain local names -/
theorem sv_par {m1 : Prog α} {m2 : Prog β} {k : α → β → Prog ω} (h1 : EV N Γ ta m1) (h2 : EV N Γ tb m2) (hk : ∀ a b, SV N ((Γ.set i (.per a)).set j (.per b)) tz J (k a b)) :
    SV N Γ (tSeq (tPar i j (tCons ta (tCons tb tNil))) tz) J (m1 >>= fun a => m2 >>= fun b => k a b) := fun σ F H D hs q => by
  show (tCons ta (tCons tb tNil)) σ H (fun vs H1 => ∃ v w, vs = [v, w] ∧ tz D ((σ.set i (some v)).set j (some w)) H1)
  refine eva2 h1 h2 σ F H hs _ ?_
  rw [wp_bind] at q ⊢
  refine wp_mono q fun a q1 => ?_
  rw [wp_bind] at q1 ⊢
  refine wp_mono q1 fun b q2 vs F1 H1 hs1 e1 r => ?_
  obtain ⟨v, ws, rfl, r1, w, us, rfl, r2, rfl⟩ := r
  exact ⟨v, w, rfl, hk a b _ F1 H1 D ((hs1.setPer (a := a) i r1).setPer (a := b) j r2) (wp_mono q2 fun o x => J.mono e1 x)⟩
/-- a, b, c = x, y, z -/
theorem sv_par3 {m1 : Prog α} {m2 : Prog β} {m3 : Prog γ} {k : α → β → γ → Prog ω} (h1 : EV N Γ ta m1) (h2 : EV N Γ tb m2) (h3 : EV N Γ tc m3) (hk : ∀ a b c, SV N (((Γ.set i (.per a)).set j (.per b)).set l (.per c)) tz J (k a b c)) :
    SV N Γ (tSeq (tPar3 i j l (tCons ta (tCons tb (tCons tc tNil)))) tz) J (m1 >>= fun a => m2 >>= fun b => m3 >>= fun c => k a b c) := fun σ F H D hs q => by
  show (tCons ta (tCons tb (tCons tc tNil))) σ H (fun vs H1 => ∃ u v w, vs = [u, v, w] ∧ tz D (((σ.set i (some u)).set j (some v)).set l (some w)) H1)
  refine eva3 h1 h2 h3 σ F H hs _ ?_
  rw [wp_bind] at q ⊢
  refine wp_mono q fun a q1 => ?_
  rw [wp_bind] at q1 ⊢
  refine wp_mono q1 fun b q2 => ?_
  rw [wp_bind] at q2 ⊢
  refine wp_mono q2 fun c q3 vs F1 H1 hs1 e1 r => ?_
  obtain ⟨v, ws, rfl, r1, w, us, rfl, r2, w3, us3, rfl, r3, rfl⟩ := r
  exact ⟨v, w, w3, rfl, hk a b c _ F1 H1 D (((hs1.setPer (a := a) i r1).setPer (a := b) j r2).setPer (a := c) l r3) (wp_mono q3 fun o x => J.mono e1 x)⟩
end
end Ty

/-! sorted(xs) of tuples of ints, any number of them -/
namespace TyL
open PySem PySem.Spec PyProof.Rows L2
def lexL : List Int → List Int → Bool
  | [], [] => false
  | [], _ :: _ => true
  | _ :: _, [] => false
  | x :: xs, y :: ys => if x = y then lexL xs ys else decide (x < y)
theorem lex_asym : ∀ {x y : List Int}, lexL x y = true → lexL y x = false
  | [], [], h => by cases h
  | [], _ :: _, _ => rfl
  | _ :: _, [], h => by cases h
  | x :: xs, y :: ys, h => by
    unfold lexL at h ⊢
    by_cases e : x = y
    · subst e
      rw [if_pos rfl] at h ⊢
      exact lex_asym h
    · rw [if_neg e] at h
      rw [if_neg (Ne.symm e)]
      have := of_decide_eq_true h
      exact decide_eq_false (by omega)
theorem lex_tr : ∀ {x y z : List Int}, lexL y x = false → lexL z y = false → lexL z x = false
  | [], [], _, _, h => h
  | [], _ :: _, [], _, _ => rfl
  | [], y :: ys, z :: zs, _, _ => rfl
  | x :: xs, [], _, h, _ => by cases h
  | x :: xs, y :: ys, [], _, h => by cases h
  | x :: xs, y :: ys, z :: zs, h1, h2 => by
    unfold lexL at h1 h2 ⊢
    by_cases e1 : y = x
    · subst e1
      rw [if_pos rfl] at h1
      by_cases e2 : z = y
      · subst e2
        rw [if_pos rfl] at h2 ⊢
        exact lex_tr h1 h2
      · rw [if_neg e2] at h2 ⊢
        exact h2
    · rw [if_neg e1] at h1
      have k1 := of_decide_eq_false h1
      by_cases e2 : z = y
      · subst e2
        rw [if_neg e1]
        exact h1
      · rw [if_neg e2] at h2
        have k2 := of_decide_eq_false h2
        have : z ≠ x := by omega
        rw [if_neg this]
        exact decide_eq_false (by omega)
theorem lex_eq : ∀ {x y : List Int}, lexL x y = false → lexL y x = false → x = y
  | [], [], _, _ => rfl
  | [], _ :: _, h, _ => by cases h
  | _ :: _, [], _, h => by cases h
  | x :: xs, y :: ys, h1, h2 => by
    unfold lexL at h1 h2
    by_cases e : x = y
    · subst e
      rw [if_pos rfl] at h1 h2
      rw [lex_eq h1 h2]
    · rw [if_neg e] at h1
      rw [if_neg (Ne.symm e)] at h2
      have k1 := of_decide_eq_false h1
      have k2 := of_decide_eq_false h2
      omega
theorem swo_lexL {α : Type} (k : α → List Int) : SrtO.Swo fun v u => lexL (k v) (k u) := ⟨fun _ _ h => lex_asym h, fun _ _ _ h1 h2 => lex_tr h1 h2⟩
/-- a tuple of ints -/
def IsIT (h : Heap) (v : Value) (ns : List Int) : Prop := ∃ a o its n, v = .ref a ∧ h.get? a = some o ∧ o.cls = .type "tuple" ∧ o.data = .seq its n ∧ IntsAre its.toList ns
theorem IsIT.keeps {h h' : Heap} {v : Value} {ns : List Int} (x : IsIT h v ns) (k : ∀ b o, h.get? b = some o → o.cls = .type "tuple" → h'.get? b = some o) : IsIT h' v ns := by
  obtain ⟨a, o, its, n, e, ho, hc, hd, hi⟩ := x
  exact ⟨a, o, its, n, e, k a o ho hc, hc, hd, hi⟩
section
variable {prog : Program} {w : World} {A : Around} {s : Shared}
theorem kat_ints {fin : Bool} {Q : Bool → Shared → Prop} : ∀ {us vs : List Value} {xs ys : List Int} {i : Nat}, IntsAre us xs → IntsAre vs ys → fin = decide (us.length < vs.length) → Q (lexL xs ys) s → PySem.W.KatLex prog w A true fin Q (us.zip vs) i s
  | _, _, _, _, i, .nil, .nil, hf, q => by
    refine PySem.W.kat_nil ?_
    rw [hf]; exact q
  | _, _, _, _, i, .nil, .cons y u h, hf, q => by
    refine PySem.W.kat_nil ?_
    have : fin = true := by rw [hf]; simp
    rw [this]; exact q
  | _, _, _, _, i, .cons x t h, .nil, hf, q => by
    refine PySem.W.kat_nil ?_
    have : fin = false := by rw [hf]; simp
    rw [this]; exact q
  | _, _, _, _, i, .cons (vs := us) (ns := xs) x t h1, .cons (vs := vs) (ns := ys) y u h2, hf, q => by
    rw [List.zip_cons_cons]
    refine PySem.W.kat_cons (SeqAt.EqAt.int_int x t y u prog w _ _ ?_)
    refine PySem.W.kat_go (fun e1 => ?_) (fun e1 => ?_)
    · have ex : x = y := by simpa using e1
      refine PySem.W.kat_yes (kat_ints h1 h2 (by rw [hf]; simp) ?_)
      unfold lexL at q
      rw [if_pos ex] at q
      exact q
    · have ex : ¬ x = y := by simpa using e1
      unfold lexL at q
      rw [if_neg ex] at q
      cases i with
      | zero => exact PySem.W.kat_no (oneLt_int q)
      | succ i => exact PySem.W.kat_no (PySem.W.kat_one _ _ (PyProof.Rows.lt_int q))
theorem it_cmp {vs : List Value} {k : Value → List Int} (hp : ∀ v ∈ vs, IsIT s.heap v (k v)) : SrtO.Cmp prog w A s (tuples' true) (fun p => p.1 ∈ vs) (SrtO.lt2 fun v u => lexL (k v) (k u)) := by
  intro p q hm hm'
  have h1 := hp _ hm
  have h2 := hp _ hm'
  show wpAny (model prog w) A (keyLt' (tuples' true) p.1 q.1) (fun r s' => s' = s ∧ r = lexL (k p.1) (k q.1)) (fun _ _ => False) s
  generalize k p.1 = xs at h1 ⊢
  generalize k q.1 = ys at h2 ⊢
  obtain ⟨a, o, its, n, e, ho, hc, hd, hi⟩ := h1
  obtain ⟨a', o', its', n', e', ho', hc', hd', hi'⟩ := h2
  rw [e, e']
  refine PySem.W.kat_lt ho hd ho' hd' ?_
  exact kat_ints hi hi' (by simp) ⟨rfl, rfl⟩
theorem it_firsts {h : Heap} : ∀ {vs : List Value} {k : Value → List Int}, (∀ v ∈ vs, IsIT h v (k v) ∧ k v ≠ []) → ∃ fs : List Value, PySem.W.KatTups h vs fs ∧ fs.length = vs.length ∧ ∀ f ∈ fs, ∃ x t, f = Value.int x t
  | [], k, _ => ⟨[], .nil, rfl, fun f m => by cases m⟩
  | v :: vs, k, hv => by
    obtain ⟨fs, h1, h2, h3⟩ := it_firsts (vs := vs) (k := k) fun u m => hv u (List.mem_cons_of_mem _ m)
    obtain ⟨⟨a, o, its, n, e, ho, hc, hd, hi⟩, hne⟩ := hv v List.mem_cons_self
    generalize k v = xs at hi hne
    generalize hl : its.toList = l at hi
    cases hi with
    | nil => exact absurd rfl hne
    | @cons x t us ns hi =>
      subst e
      have e0 : its[0]? = some (Value.int x t) := by
        rw [← Array.getElem?_toList, hl]
        rfl
      exact ⟨_ :: fs, .cons ho hc hd e0 h1, by rw [List.length_cons, List.length_cons, h2], fun f m => by
        rcases List.mem_cons.1 m with m | m
        · exact ⟨x, t, m⟩
        · exact h3 f m⟩
theorem it_sortable {a : Addr} {vs : List Value} {k : Value → List Int} (h0 : 0 < vs.length) (hp : ∀ v ∈ vs, IsIT s.heap v (k v) ∧ k v ≠ []) (ha : ∀ o, s.heap.get? a = some o → o.cls ≠ .type "tuple") : SrtO.SortableO prog w A s a vs fun v u => lexL (k v) (k u) := by
  intro h' keep
  have hp' : ∀ v ∈ vs, IsIT h' v (k v) ∧ k v ≠ [] := fun v hm => ⟨(hp v hm).1.keeps fun b o e c => keep b o (fun z => by subst z; exact ha o e c) e, (hp v hm).2⟩
  obtain ⟨fs, h1, h2, h3⟩ := it_firsts hp'
  refine ⟨tuples' true, fun Q E hq => ?_, it_cmp fun v m => (hp' v m).1⟩
  refine PySem.W.kat_kind (T := .type "int") h1 (by omega) (fun f hm => ?_) (by rfl) ?_
  · obtain ⟨x, t, rfl⟩ := h3 f hm
    exact PySem.W.Looks.now
  · have e : (Value.type "int" != Value.type "tuple") = true := by first | decide +kernel | rfl | decide
    rw [e]
    exact hq
end
/-- sorted(xs) -/
def rSortedT (K : PySem.W.Frag) : List V → Hp → VK → Prop := fun vs H Q => ∃ (a : Addr) (ys : List V) (k : V → List Int), vs = [V.ref a] ∧ SqL K H a ys ∧ (∀ y ∈ ys, ∃ t, y = V.ref t ∧ SqT K H t ((k y).map V.int)) ∧ (2 ≤ ys.length → ∀ y ∈ ys, k y ≠ []) ∧
  ∀ (zs : List V) (p : Addr), SrtO.Srtd (fun v u => lexL (k v) (k u)) zs → zs.Perm ys → H p = none → Q (.ref p) (upd H p (.lst zs))
section
variable {X : Cx}
theorem cr_sortedT : CallR X (.builtin "sorted") (rSortedT X.K) := by
  intro pins s σ H vs us Q I r h
  obtain ⟨a, ys, k, rfl, hs, hx, hne, q⟩ := h
  obtain ⟨its, rv, hl, hz⟩ := I.list hs
  rw [Vals.ref1 r]
  obtain ⟨e1, e2⟩ := refs_back rv fun x m => by
    obtain ⟨t, e, _⟩ := hx x m
    exact ⟨t, e⟩
  have hp : ∀ v ∈ its, IsIT s.heap v (k (backV v)) := fun v hv => by
    obtain ⟨t, rfl⟩ := e2 v hv
    have hm : V.ref t ∈ ys := by rw [e1]; exact List.mem_map.mpr ⟨_, hv, rfl⟩
    obtain ⟨t', e, ht⟩ := hx _ hm
    cases e
    obtain ⟨its2, r2, ⟨o, ho, hc, n, hd⟩, _⟩ := I.tuple ht
    exact ⟨t, o, its2.toArray, n, rfl, ho, hc, hd, show IntsAre its2.toArray.toList (k (V.ref t)) from Vals.ints r2⟩
  have hlen : ys.length = its.length := by rw [e1]; simp
  have hne' : 2 ≤ its.length → ∀ v ∈ its, k (backV v) ≠ [] := fun h2 v hv => hne (by omega) _ (by rw [e1]; exact List.mem_map.mpr ⟨_, hv, rfl⟩)
  refine SrtO.sorted_ord (swo_lexL fun u => k (backV u)) hl.isList (by rw [← rv.length]; exact hz) (fun h2 h₁ a' ha kk => it_sortable (s := { s with heap := h₁ }) (by omega) (fun v hm => ⟨(hp v hm).keeps fun b o e _ => (kk b o e).2, hne' h2 v hm⟩) fun o e => ?_) fun out h1 h2 => ?_
  · have e' : some o = some (seqObj "list" its.toArray 0) := e.symm.trans ha
    cases e'
    intro c
    exact absurd (Value.type.inj c) (by decide)
  · have h3 : ∀ u ∈ out, ∃ a, u = Value.ref a := fun u hu => e2 u (h2.perm.mem_iff.mp hu)
    obtain ⟨ep, he'⟩ := PyProof.Rows.sortedAll_at s.heap its out.toArray
    have hpm : (out.map backV).Perm ys := by rw [e1]; exact h2.perm.map backV
    have hlen : (out.map backV).length ≤ sizeLine := by rw [hpm.length_eq]; exact hz
    exact ⟨.ref _, upd H (s.heap.objs.size + 1) (.lst (out.map backV)), I.laid (t' := s.toks) (fun _ _ => PyProof.Rows.sortedAll_old) (Nat.le_succ _) ⟨hlen, out, ep, vals_back h3, he'⟩, rfl, q _ _ (SrtO.srtd_map h1) hpm (I.hok.fresh (Nat.le_succ _))⟩
/-- sorted(xs), with the numbers beside -/
def rSortedZ (K : PySem.W.Frag) : List V → Hp → VK → Prop := fun vs H Q => ∃ (a : Addr) (ys : List V) (ns : List (List Int)), vs = [V.ref a] ∧ SqL K H a ys ∧ ys.length = ns.length ∧ (∀ y n, (y, n) ∈ ys.zip ns → ∃ t, y = V.ref t ∧ SqT K H t (n.map V.int)) ∧ (2 ≤ ns.length → ∀ n ∈ ns, n ≠ []) ∧
  ∀ (zs : List V) (ms : List (List Int)) (p : Addr), ms.Pairwise (fun x y => lexL y x = false) → zs.length = ms.length → (zs.zip ms).Perm (ys.zip ns) → H p = none → Q (.ref p) (upd H p (.lst zs))
theorem int_inj : ∀ {x y : List Int}, x.map V.int = y.map V.int → x = y
  | [], [], _ => rfl
  | [], _ :: _, h => by cases h
  | _ :: _, [], h => by cases h
  | x :: xs, y :: ys, h => by
    rw [List.map_cons, List.map_cons] at h
    obtain ⟨h1, h2⟩ := List.cons.inj h
    rw [V.int.inj h1, int_inj h2]
open Classical in
noncomputable def itK (K : PySem.W.Frag) (H : Hp) : V → List Int
  | .ref t => if h : ∃ ns : List Int, SqT K H t (ns.map V.int) then Classical.choose h else []
  | _ => []
theorem zip_map_self {α β : Type} (f : α → β) : ∀ {xs : List α} {ys : List β}, xs.length = ys.length → (∀ x y, (x, y) ∈ xs.zip ys → f x = y) → xs.map f = ys
  | [], [], _, _ => rfl
  | [], _ :: _, h, _ => by cases h
  | _ :: _, [], h, _ => by cases h
  | x :: xs, y :: ys, h, k => by
    rw [List.map_cons, k x y (by simp), zip_map_self f (by simpa using h) fun a b m => k a b (by rw [List.zip_cons_cons]; exact List.mem_cons_of_mem _ m)]
theorem zip_map {α β : Type} (f : α → β) : ∀ xs : List α, xs.zip (xs.map f) = xs.map fun x => (x, f x)
  | [] => rfl
  | x :: xs => by rw [List.map_cons, List.zip_cons_cons, zip_map f xs, List.map_cons]
theorem cr_sortedZ : CallR X (.builtin "sorted") (rSortedZ X.K) := by
  intro pins s σ H vs us Q I r h
  obtain ⟨a, ys, ns, e, hs, hl, hx, hne, q⟩ := h
  have kk : ∀ y n, (y, n) ∈ ys.zip ns → itK X.K H y = n := fun y n m => by
    obtain ⟨t, rfl, ht⟩ := hx y n m
    have he : ∃ ns : List Int, SqT X.K H t (ns.map V.int) := ⟨n, ht⟩
    unfold itK
    dsimp only
    rw [dif_pos he]
    exact int_inj (I.tuple_inj (Classical.choose_spec he) ht)
  have em : ys.map (itK X.K H) = ns := zip_map_self _ hl kk
  have inz : ∀ y ∈ ys, (y, itK X.K H y) ∈ ys.zip ns := fun y m => by
    rw [← em, zip_map]
    exact List.mem_map.2 ⟨y, m, rfl⟩
  refine cr_sortedT pins s σ H vs us Q I r ⟨a, ys, itK X.K H, e, hs, fun y m => hx _ _ (inz y m), fun h2 y m => hne (by omega) _ (by rw [← em]; exact List.mem_map.2 ⟨y, m, rfl⟩), fun zs p h1 h2 h3 => ?_⟩
  refine q zs (zs.map (itK X.K H)) p (List.pairwise_map.2 (h1.imp fun {x y} h => h)) (by simp) ?_ h3
  rw [← em, zip_map, zip_map]
  exact h2.map _
end
end TyL

namespace Ty
open PySem PySem.Spec PyProof.Rows L2
open Enc (enc)
open TyL (lexL)
variable {G : Glob}
section
variable {N : NN} {Γ : Env G} {ta : TE}
def leL (a b : List Int) : Bool := !lexL b a
def sortT (xs : List (List Int)) : List (List Int) := xs.mergeSort leL
theorem leL_tr (a b c : List Int) (h1 : leL a b = true) (h2 : leL b c = true) : leL a c = true := by
  unfold leL at *
  have k1 : lexL b a = false := by simpa using h1
  have k2 : lexL c b = false := by simpa using h2
  rw [TyL.lex_tr k1 k2]; rfl
theorem leL_tot (a b : List Int) : (leL a b || leL b a) = true := by
  unfold leL
  cases h : lexL b a with
  | false => simp
  | true => rw [TyL.lex_asym h]; simp
theorem leL_anti {a b : List Int} (h1 : leL a b = true) (h2 : leL b a = true) : a = b := by
  unfold leL at *
  exact TyL.lex_eq (by simpa using h2) (by simpa using h1)
theorem sortT_perm (xs : List (List Int)) : (sortT xs).Perm xs := List.mergeSort_perm xs leL
theorem sortT_pw (xs : List (List Int)) : (sortT xs).Pairwise fun a b => leL a b = true := List.pairwise_mergeSort leL_tr leL_tot xs
theorem sortT_uniq {xs ys : List (List Int)} (hp : ys.Perm xs) (hs : ys.Pairwise fun a b => leL a b = true) : ys = sortT xs :=
  List.Perm.eq_of_pairwise (fun a b _ _ h1 h2 => leL_anti h1 h2) hs (sortT_pw xs) (hp.trans (sortT_perm xs).symm)
theorem dqAll_ints {K : PySem.W.Frag} {F : Hp} : ∀ {vs : List V} {ns : List Int}, DqAll K F vs (ns.map enc) → vs = ns.map V.int
  | _, [], h => by cases h; rfl
  | _, n :: ns, h => by
    cases h with
    | cons h1 h2 =>
      cases h1
      rw [dqAll_ints h2]
      rfl
theorem dq_it {K : PySem.W.Frag} {F : Hp} {v : V} {ns : List Int} (h : Dq K F v (enc ns)) : ∃ t, v = .ref t ∧ SqT K F t (ns.map V.int) := by
  have h : Dq K F v (.tuple (ns.map enc)) := h
  cases h with
  | tup hq ha =>
    rw [dqAll_ints ha] at hq
    exact ⟨_, rfl, hq⟩
theorem dqAll_zip {K : PySem.W.Frag} {F : Hp} {α : Type} [Enc α] : ∀ {vs : List V} {xs : List α}, DqAll K F vs (xs.map enc) → vs.length = xs.length ∧ ∀ v x, (v, x) ∈ vs.zip xs → Dq K F v (enc x)
  | _, [], h => by cases h; exact ⟨rfl, fun v x m => by cases m⟩
  | _, x :: xs, h => by
    cases h with
    | cons h1 h2 =>
      obtain ⟨e, k⟩ := dqAll_zip h2
      refine ⟨by rw [List.length_cons, List.length_cons, e], fun v y m => ?_⟩
      rw [List.zip_cons_cons] at m
      rcases List.mem_cons.1 m with m | m
      · cases m; exact h1
      · exact k v y m
theorem dqAll_of_zip {K : PySem.W.Frag} {F : Hp} {α : Type} [Enc α] : ∀ {vs : List V} {xs : List α}, vs.length = xs.length → (∀ v x, (v, x) ∈ vs.zip xs → Dq K F v (enc x)) → DqAll K F vs (xs.map enc)
  | [], [], _, _ => .nil
  | [], _ :: _, h, _ => by cases h
  | _ :: _, [], h, _ => by cases h
  | v :: vs, x :: xs, h, k => .cons (k v x (by simp)) (dqAll_of_zip (by simpa using h) fun a b m => k a b (by rw [List.zip_cons_cons]; exact List.mem_cons_of_mem _ m))
theorem zip_snd {α β : Type} : ∀ {xs : List α} {ys : List β}, xs.length = ys.length → (xs.zip ys).map (·.2) = ys
  | [], [], _ => rfl
  | [], _ :: _, h => by cases h
  | _ :: _, [], h => by cases h
  | x :: xs, y :: ys, h => by rw [List.zip_cons_cons, List.map_cons, zip_snd (by simpa using h)]
def srtOk (xs : List (List Int)) : Bool := decide (xs.length < 2) || xs.all fun x => !x.isEmpty
theorem evn_sortedT {m : Prog (L (List Int))} (h : EV N Γ ta m) : EVN N Γ (tCB (TyL.rSortedZ G.K) (tCons ta tNil)) (m >>= fun (xs : List (List Int)) => chk (srtOk xs) (.ok (sortT xs : L (List Int)))) := fun σ F H hs Q q =>
  h σ F H hs _ (wp_mono (wp_bind.1 q) fun (xs : List (List Int)) q1 x F1 H1 hs1 e1 r1 => by
    obtain ⟨hz, q1⟩ := wp_chk q1
    have hd : Dq G.K F1 x (.list (xs.map enc)) := r1
    cases hd with
    | lst hq0 ha =>
      have hq := Rd.of hq0
      obtain ⟨el, hall⟩ := dqAll_zip ha
      refine ⟨_, _, xs, rfl, sql_same hs1.w.fh (.inl hq), el, fun y n m => ?_, fun h2 n m => ?_, fun zs ms p hp hl hpm hn => ?_⟩
      · obtain ⟨t, e, ht⟩ := dq_it (hall y n m)
        exact ⟨t, e, sqt_same hs1.w.fh ht⟩
      · unfold srtOk at hz
        rw [decide_eq_false (by omega), Bool.false_or, List.all_eq_true] at hz
        intro z
        have := hz n m
        rw [z] at this
        cases this
      · have e2 : ms = sortT xs := by
          refine sortT_uniq ?_ (hp.imp fun {a b} h => by unfold leL; rw [h]; rfl)
          have := hpm.map (·.2)
          rwa [zip_snd hl, zip_snd el] at this
        obtain ⟨hs4, n⟩ := hs_newlist (vs := zs) hs1 hn
        have hda : DqAll G.K F1 zs (ms.map enc) := dqAll_of_zip hl fun v x m => hall v x (hpm.mem_iff.1 m)
        rw [e2] at hda
        exact q1 p _ _ _ hs4 e1 n upd_same hda)
end
end Ty

namespace Ty
open PySem PySem.Spec PyProof.Rows L2
open Enc (enc)
variable {G : Glob}
section
variable {N : NN} {Γ : Env G} {te : TE}
def allInts : List PyData → Option (List Int)
  | [] => some []
  | .int n :: r => (allInts r).map fun ns => n :: ns
  | _ :: _ => none
theorem allInts_eq : ∀ {ds : List PyData} {ns : List Int}, allInts ds = some ns → ds = ns.map enc
  | [], ns, h => by
    unfold allInts at h; cases h; rfl
  | d :: r, ns, h => by
    cases d with
    | int n =>
      unfold allInts at h
      cases e : allInts r with
      | none => rw [e] at h; cases h
      | some ms =>
        rw [e] at h
        cases h
        rw [allInts_eq e]
        rfl
    | _ => exact absurd h (by unfold allInts; exact fun z => by cases z)
def asInts : PyData → Prog (List Int)
  | .tuple xs => match allInts xs with
    | some ns => .ok ns
    | none => .stuck
  | _ => .stuck
theorem ev_asInts {m : Prog PyData} (h : EV N Γ te m) : EV N Γ te (m >>= asInts) := fun σ F H hs Q q =>
  h σ F H hs _ (wp_mono (wp_bind.1 q) fun d q1 x F1 H1 hs1 e1 r1 => by
    cases d with
    | tuple ys =>
      unfold asInts at q1
      dsimp only at q1
      cases e : allInts ys with
      | none => rw [e] at q1; exact q1.elim
      | some ns =>
        rw [e] at q1
        refine q1 x F1 H1 hs1 e1 ?_
        show Dq G.K F1 x (.tuple (ns.map enc))
        rw [← allInts_eq e]
        exact r1
    | _ => exact q1.elim)
end
end Ty

namespace Ty
open PySem PySem.Spec PyProof.Rows L2
open Enc (enc)
variable {G : Glob}
/-! except X as e, of a class without fields; isinstance(e, Y) -/
structure XO0 where
  a : Addr
instance rpX0 : Rp G XO0 := ⟨fun x v F => v = .ref x.a, fun _ h => h⟩
section
variable {β ω α : Type} [iα : Rp G α] {N : NN} {Γ : Env G} {tz : TS} {i : Nat}
theorem sv_tryas0 {Γi : β → Env G} {te : XK → TE} {m : Prog α} {b0 : β} {known : List String} {c : String} {p : Prog β} {ts : Addr → Value → Option Addr → TS} {J : Aim ω} {k : β → Prog ω} (hp : Plain Γ) (hfc : fieldsOf c = [])
    (h : ∀ N' : NN, N'.S = N.S → EV N' Γ (te N'.E) m) (hw0 : ∀ σ F H, HS N Γ σ F H → HS N (Γi b0) σ F H)
    (hdead : ∀ b, (Γi b)[i]? = some .dead)
    (hsv : ∀ a, SV N (Γ.set i (.per (XO0.mk a))) (ts a (.ref (G.exc c)) none) (JN N Γi) p)
    (hx : ∀ y, (y = c ∨ y ∈ known) → PySem.W.exmOne G.K (.ref (G.exc y)) (.ref (G.exc c)) = some (decide (y = c)))
    (hk : ∀ b, SV N (Γi b) tz J (k b)) :
    SV N Γ (tSeq (fun D σ H => tSeq (tDrop (fun σ H Q => te (fun cl d H => wAs G.K (.ref (G.exc c)) i ts (fun cl d _ H => N.E cl d H) D cl d σ H) σ H Q)) tNext D σ H) tz) J (catchP (fun e => if e.cls = c then some p else if e.cls ∈ known then none else some .stuck) (m >>= fun _ => .ok b0) >>= k) := fun σ F H D hs q => by
  have q1 := wp_catch.1 (wp_bind.1 q)
  have q2 := wp_bind.1 q1
  let E' : XK := fun cl d H => wAs G.K (.ref (G.exc c)) i ts (fun cl d _ H => N.E cl d H) { D with nx := tz D } cl d σ H
  have hn : HS (N.now F H E') Γ σ F H := hs.now hp
  refine h (N.now F H E') rfl σ F H hn _ (wp_imp q2 (fun a kk v F' H' hs' e r => ?_) fun e he F' H' C d w r => ?_)
  · obtain ⟨h2, e2⟩ := hs.call nowB hs'.w
    exact hk b0 σ F' H' D (hw0 _ _ _ h2) (wp_mono kk fun o x => J.mono e2 x)
  · obtain ⟨h2, e2⟩ := hs.call nowB w
    have eC : C = .ref (G.exc e.cls) := r.1
    show ∃ b, PySem.W.exmOne G.K C (.ref (G.exc c)) = some b ∧ _
    by_cases h1 : e.cls = c
    · rw [if_pos h1] at he
      refine ⟨true, by rw [eC, hx e.cls (.inl h1), decide_eq_true h1], fun _ a _ => ?_, fun z => (nomatch z)⟩
      rcases r.2 with ⟨ea, ed⟩ | ⟨dx, vs, ed, hF, hl, da, hne⟩
      · have he : wp p _ _ := he
        subst ed
        rw [eC, h1]
        have rx : Rp.rp (G := G) (XO0.mk a) (.ref a) F' := rfl
        refine hsv a _ F' H' _ (h2.setPer i rx) (wp_mono he fun b kk σ2 F2 H2 hs2 e3 => ?_)
        exact hk b _ F2 H2 D (hs2.drop (.inl (hdead b)) none) (wp_mono kk fun o x => J.mono (Same.trans e2 e3) x)
      · rw [h1] at hne
        exact absurd hfc hne
    · rw [if_neg h1] at he
      by_cases h3 : e.cls ∈ known
      · rw [if_pos h3] at he
        exact ⟨false, by rw [eC, hx e.cls (.inr h3), decide_eq_false h1], fun z => (nomatch z), fun _ => he F' H' C d h2.w r⟩
      · rw [if_neg h3] at he
        exact he.elim
/-- isinstance(e, Y), e the exception that the suite holds -/
def rIsE' (K : PySem.W.Frag) (D a : Addr) (cls : Value) (d : Option Addr) : List V → Hp → VK → Prop := fun xs H Q => cls = .ref D ∧ d = none ∧ rIsE K D a xs H Q
theorem call_isE' {X : Cx} {a D : Addr} {oe : Obj} {cls : Value} {d : Option Addr} {pn : List (Addr × Obj)} (C : ExcC X.K D) (hz : Zc cls d oe) (hf : ∃ vs, oe.data = .fields vs) : CallR (X.suite a ((a, oe) :: pn)) (.builtin "isinstance") (rIsE' X.K D a cls d) := by
  intro pins s σ H xs us Q I r h
  obtain ⟨rfl, rfl, h⟩ := h
  exact call_isE C hz hf pins s σ H xs us Q I r h
theorem ev_isE {x : XO0} {D Y : Addr} {b : Bool} (hi : Γ[i]? = some (.per x)) (hk : PySem.W.kitOne G.K (.ref D) (.ref Y) = some b) : EV N Γ (tCB (rIsE' G.K D x.a (.ref D) none) (tCons (tVar i) (tCons (tC (.ref Y)) tNil))) (.ok b) := fun σ F H hs Q q => by
  obtain ⟨o, e0, v, e1, h1⟩ := hs.sl.get hi
  subst e1 h1
  exact ⟨_, e0, rfl, rfl, .ref Y, .ref Y, b, rfl, fun u r => by cases r; rfl, hk, q _ F H hs (Same.refl F) (.bl b)⟩
theorem kit_mk {K : PySem.W.Frag} {Y X : Addr} (i : PySem.W.isClsIn K X = true) (t : PySem.W.typeIn K (.ref X) = some (.type "type")) (s : PySem.W.subIn K (.ref Y) (.ref X) = some true) : PySem.W.kitOne K (.ref Y) (.ref X) = some true := by
  unfold PySem.W.kitOne
  split
  · rfl
  · unfold PySem.W.kitCls
    have i' : (PySem.W.clsIn K X).isSome = true := i
    show (if ((PySem.W.clsIn K X).isSome && PySem.W.typeIn K (.ref X) == some (.type "type")) = true then PySem.W.subIn K (.ref Y) (.ref X) else none) = some true
    rw [if_pos (by rw [i', t]; simp)]
    exact s
end
end Ty

namespace Ty
open PySem PySem.Spec PyProof.Rows L2
open Enc (enc)
variable {G : Glob}
/-! a tuple of texts that the module holds -/
def KTup (K : PySem.W.Frag) (a : Addr) (ws : List Str) : Prop := ∃ (o : Obj) (its : Array Value) (n : Nat), K.lookup a = some o ∧ o.cls = .type "tuple" ∧ o.data = .seq its n ∧ its.size ≤ sizeLine ∧ Vals (ws.map V.str) its.toList
theorem dq_strs' {K : PySem.W.Frag} {F : Hp} : ∀ ws : List Str, DqAll K F (ws.map V.str) (ws.map fun s => (PyData.str s : PyData))
  | [] => .nil
  | s :: ws => .cons (.str s) (dq_strs' ws)
section
variable {N : NN} {Γ : Env G}
theorem ev_ktup {a : Addr} {ws : List Str} {xs : List Tx} (h : KTup G.K a ws) (e : ws = xs.map sx) : EV N Γ (tC (.ref a)) (.ok xs) := fun σ F H hs Q q => by
  refine q (.ref a) F H hs (Same.refl F) ?_
  show Dq G.K F (.ref a) (.tuple (xs.map enc))
  have e2 : xs.map (enc : Tx → PyData) = ws.map fun s => (PyData.str s : PyData) := by
    rw [e, List.map_map]
    rfl
  rw [e2]
  exact .tup (.inr h) (dq_strs' ws)
end
/-- list(range(n)) -/
theorem dq_ints {K : PySem.W.Frag} {F : Hp} : ∀ ns : List Int, DqAll K F (ns.map V.int) (ns.map enc)
  | [] => .nil
  | n :: ns => .cons (.int n) (dq_ints ns)
theorem evn_listR {N : NN} {Γ : Env G} {ta : TE} {m : Prog Int} (h : EV N Γ ta m) : EVN N Γ (tLstRg (tRg1 ta)) (m >>= fun n => chk (inRange n && small n.toNat) (.ok (rng 0 n : L Int))) := fun σ F H hs Q q =>
  h σ F H hs _ (wp_mono (wp_bind.1 q) fun n q1 x F1 H1 hs1 e1 r1 => by
    obtain ⟨hz, q1⟩ := wp_chk q1
    obtain ⟨h1, h2⟩ := Bool.and_eq_true_iff.1 hz
    have ex : x = .int n := Scl.dp (α := Int) r1
    have h3 := inRange_ok h1
    have h4 : n.toNat ≤ 100000 := of_decide_eq_true h2
    refine ⟨n, ex, ⟨by decide, by decide, h3.1, h3.2, by show (n - 0).toNat ≤ _; omega⟩, fun p hp => ?_⟩
    have e : rgV 0 n = (rng 0 n).map V.int := by
      unfold rgV rng
      rw [List.map_map]
      rfl
    rw [e]
    obtain ⟨hs4, nw⟩ := hs_newlist (vs := (rng 0 n).map V.int) hs1 hp
    exact q1 p _ _ _ hs4 e1 nw upd_same (dq_ints _))
theorem fn_stuck {P : Program} {w : World} {K : PySem.W.Frag} {mg : Str → Option Value} {base : Heap} {CX : CXT} {k : Nat} {f : Addr} {fd : FuncData} {ps : List Str} {sp : Sp} (h : ∀ vs H Q E, sp vs H Q E → False) : FnOk P w K mg base CX k f fd ps sp :=
  ⟨fun vs H Q E q => (h vs H Q E q).elim, fun A outer s H args us vs Q E hr he hb hv hs => (h _ _ _ _ hs).elim⟩
end Ty

namespace Ty
open PySem PySem.Spec PyProof.Rows L2
/-! an own exception with one field -/
open Enc (enc)
variable {G : Glob}
def SpXi1 (C : Addr) (f1 : Str) : Sp := fun vs H Q _ => ∃ a v1, vs = [.ref a, v1] ∧ H a = some (exo a C none) ∧ ∀ dx, H dx = none → dx ≠ a → Q .non (upd (upd H dx (exd dx [(f1, v1)])) a (exo a C (some dx)))
structure Xi1 (G : Glob) (mg : Str → Option Value) (nm : Str) (x : String) (f1 : Str) (qual : Str) (st : Stmt) (ps : List Str) where
  f : Addr
  fd : FuncData
  Fu : Fun G.K "__init__" qual st f fd
  b : Binds G.K fd ps []
  g : mg nm = some (.ref (G.exc x))
  T : OexC G.K (G.exc x)
  iC : PySem.W.findIn G.K (.ref (G.exc x)) "__init__" = some (some (.ref f))
  tI : PySem.W.typeIn G.K (.ref f) = some (.type "function")
  n1 : PySem.W.findIn G.K (.ref (G.exc x)) f1 = some none
  xf : XfC G.K (G.exc x)
theorem fn_xi1 {P : Program} {w : World} {mg : Str → Option Value} {base : Heap} {nm f1 qual : Str} {x : String} {st : Stmt} {ps Ns : List Str} (I : Xi1 G mg nm x f1 qual st ps) (S : FnScope Ns ps (defScope st)) (hNs : Ns.length = 2) (hps : ps.length = 2)
    (hb : ∀ (cdv : Value) (A : Around) (outer : List PySem.Env) (s : Shared) (H : Hp) (E : XK), PSs (cxOf (L2.CX P w) P w G.K mg base Ns qual (defScope st) I.f cdv A outer s H E) (defBody st) (tSeq (tOst G.K f1 (tVar 0) (tVar 1)) tNext)) :
    FnOk P w G.K mg base (L2.CX P w) 1 I.f I.fd ps (SpXi1 (G.exc x) f1) :=
  I.Fu.okX S (fun vs H Q E ⟨a, v1, e, _⟩ => by rw [e, hps]; rfl) fun cdv A outer s H vs Q E hr ⟨a, v1, e, ha, q⟩ => by
    subst e
    refine ⟨_, hb cdv A outer s H E, ?_⟩
    match Ns, hNs with
    | [m1, m2], _ => exact ⟨v1, rfl, .ref a, rfl, a, G.exc x, rfl, I.T, I.n1, .inl ⟨ha, fun dx hdx ne => q dx hdx ne⟩⟩
section
variable {α : Type} [iα : Enc α] {N : NN} {Γ : Env G} {ta : TE} {tz : TS} {m1 : Prog α}
theorem sx_raise1 {x : String} {f1 : Str} (hf : fieldsOf x = [f1]) (h1 : EV N Γ ta m1) :
    SX N Γ (tSeq (fun _ σ H => tMkO (G.exc x) (SpXi1 (G.exc x) f1) [] (tCons ta tNil) σ H fun cls d H' => N.E cls d H') tz) (m1 >>= fun a => .ok ⟨x, [enc a]⟩) := fun σ F H D hs q =>
  h1 σ F H hs _ (wp_mono (wp_bind.1 q) fun a q1 v1 F1 H1 hs1 e1 r1 => by
    refine ⟨by show 1 ≤ 1000; decide, fun e he => ⟨e, v1, rfl, upd_same, fun dx hdx ne => ⟨rfl, dx, [(f1, v1)], upd_same, ?_, ?_, ?_⟩⟩⟩
    · rw [upd_ne ne]; exact upd_same
    · rw [upd_ne ne] at hdx; exact hdx
    · have hd2 : H1 dx = none := by rw [upd_ne ne] at hdx; exact hdx
      obtain ⟨hs3, e3⟩ := hs1.laid (o := .xd [(f1, v1)]) hd2
      have eh : upd (del (upd (upd (upd H1 e (exo e (G.exc x) none)) dx (exd dx [(f1, v1)])) e (exo e (G.exc x) (some dx))) e) dx (.xd [(f1, v1)]) = upd H1 dx (.xd [(f1, v1)]) := by
        funext b
        by_cases hb : b = dx
        · subst hb; rw [upd_same, upd_same]
        · rw [upd_ne hb, upd_ne hb]
          by_cases hbe : b = e
          · subst hbe; rw [del_same, he]
          · rw [del_ne hbe, upd_ne hbe, upd_ne hb, upd_ne hbe]
      show N.E _ _ _
      rw [eh]
      refine q1 _ _ _ (some dx) hs3.w ⟨rfl, .inr ⟨dx, [v1], rfl, ?_, by rw [hf]; rfl, .cons (dp_same e3 _ _ r1) .nil, by rw [hf]; simp⟩⟩
      rw [upd_same, hf]
      rfl)
end
end Ty

/-! a list made while an exception is handled: [e for t in range(n)] -/
namespace TyL
open PySem PySem.Spec PyProof.Rows L2 L2H
/-- the block's context, with the handled exception among its pins -/
abbrev blkP (X : Cx) (p : Addr × Obj) : Cx := { X with pn := [p] }
section
variable {X : Cx} {p : Addr × Obj} {st : L2.St} {F : Hp} {s : Shared}
theorem toP (hn : X.pn = []) (J : Inv X [p] st F s) : Inv (blkP X p) [] st F s :=
  ⟨⟨J.ok.mod, J.ok.kind, J.ok.glob, J.ok.blt, J.ok.above, J.ok.inj, J.ok.has, J.ok.cab, J.ok.hd, J.ok.frames, J.ok.stk, J.ok.exf, J.ok.bs, J.ok.bsz, J.ok.noex, J.ok.exfs, J.ok.funs, J.ok.frf⟩, J.os, J.bare, J.base, J.loc, J.cell, J.free, J.freeC, fun q hq => J.pin q (by rw [hn]; exact hq), J.hok, J.len⟩
theorem ofP (hn : X.pn = []) (J : Inv (blkP X p) [] st F s) (ok : X.Ok) : Inv X [p] st F s :=
  ⟨ok, J.os, J.bare, J.base, J.loc, J.cell, J.free, J.freeC, fun q hq => J.pin q (by rw [hn] at hq; exact hq), J.hok, J.len⟩
end
section
variable {X : Cx}
theorem lc_hot {pins : List (Addr × Obj)} {s : Shared} {st : L2.St} {F : Hp} {Q : VK} {el tg it0 : Expr} {ifs : List Expr} {sc : Scope} {own : List (Str × Nat)} {ps ps' : Pos} {wi : TI} {g : TG} {tt : TT} {te : TE} {use : Option (Value → Sem Unit)} {Qf : Value → Shared → Prop}
    (hot : HotC X) (nd : X.N.Nodup) (J : Inv X pins st F s) (hi : PIH X tg it0 wi) (bo : BlkOk X.N X.env.scope sc own)
    (hg : ∀ (s : Shared) (F : Hp) (C : Addr) (cl : List (Str × Addr)) (fp : List Addr), PG (X.blk s F sc (compEnvC sc cl C X.env) fp) tg g)
    (ht : ∀ (s : Shared) (F : Hp) (C : Addr) (cl : List (Str × Addr)) (fp : List Addr), PTs (X.blk s F sc (compEnvC sc cl C X.env) fp) ifs tt)
    (he : ∀ (s : Shared) (F : Hp) (C : Addr) (cl : List (Str × Addr)) (fp : List Addr), PE (X.blk s F sc (compEnvC sc cl C X.env) fp) el te) (fs : ∀ x, foldedSetIterable it0 X.env x = pure x)
    (h : tLc wi g tt te (own.map (·.2)) st F Q)
    (back : ∀ D C s' m F', Inv X pins st F' s' → Q (.ref D) F' → s'.heap.Ns C m → FpOk X pins F' C → compPost (model X.prog X.w) X.A X.xe use Qf (.ref D) C (.ok .next) s') :
    wpAny (model X.prog X.w) X.A (comprehension (.ListComp el [⟨tg, it0, ifs, 0⟩] sc ps) sc X.env ps' (newList []) false (eval it0 X.env) use) Qf X.xe s := by
  obtain ⟨p, hot1, hpn⟩ := hot
  have fr : ∀ y ∈ sc.names, y.2 = .free → ∃ c, X.env.cells.lookup y.1 = some c := fun y my e => (bo.free y my e).elim (fun k => J.ok.has _ (.inl k)) fun k => J.ok.has _ (.inr k)
  refine wpAny_comprehension_free (use := use) rfl fs (closure_ok fr) bo.kind (fun y my e => by rw [bo.uniq y my, e]) (thn (hi.run pins s st F _ J h) fun xv s1 hx => thn hx fun itv s2 h2 => ?_)
  obtain ⟨it, fp, tn, W0, F2, e, J2, T, t2, f2, q⟩ := h2
  subst e
  refine wpAny_newObj_type (newEnv_comp ?_) (by show 0 ≤ sizeLine; decide)
  generalize hD : s2.heap.objs.size = D
  have nD : F2 D = none := J2.hok.fresh (Nat.le_of_eq hD)
  obtain ⟨W, ⟨m0, w0⟩, turn⟩ := q D nD
  generalize es3 : ({ s2 with heap := s2.heap.push { cls := .type "list", data := .seq ([] : List Value).toArray } } : Shared) = s3
  have J3 : Inv X pins st (upd F2 D (.lst [])) s3 := es3 ▸ J2.laid (t' := s2.toks) (fun b o e => Heap.get?_push_of_some _ e) (Nat.le_of_eq hD) ⟨Nat.zero_le _, [], 0, .nil, by rw [← hD]; exact Heap.get?_push_size _ rfl⟩
  have h3 : s3.heap = s2.heap.push { cls := .type "list", data := .seq ([] : List Value).toArray } := by rw [← es3]
  have lt2 : ∀ b ∈ fp, b < s2.heap.objs.size := fun b mb => (T.obj _ _ t2 b mb).elim fun o z => Heap.lt_size z.1
  have f3 : ∀ b ∈ fp, FpOk X pins (upd F2 D (.lst [])) b ∧ b < s3.heap.objs.size := fun b mb => by
    have l := lt2 b mb
    exact ⟨⟨by rw [upd_ne (by rw [← hD]; exact Nat.ne_of_lt l)]; exact (f2 b mb).1, (f2 b mb).2⟩, by rw [h3, Heap.size_push]; exact Nat.lt_succ_of_lt l⟩
  have t3 : tn 0 s3.heap := T.keep _ _ _ t2 fun b _ o e => by rw [h3]; exact Heap.get?_push_of_some _ e
  have J4 := block_start J3 bo nd f3
  have pP := J3.pin p (List.mem_append_left _ hpn)
  let cl := cellsFrom (s3.heap.objs.size + 1) sc.names (cloFrom X.env.cells sc.names [])
  have pg := hg s3 (upd F2 D (.lst [])) s3.heap.objs.size cl fp
  have pt := ht s3 (upd F2 D (.lst [])) s3.heap.objs.size cl fp
  have pe := he s3 (upd F2 D (.lst [])) s3.heap.objs.size cl fp
  show codeAny _ _ (.compStart (.ListComp el [⟨tg, it0, ifs, 0⟩] sc ps) 0 (.ref it) (.ref D) (compEnvC sc cl s3.heap.objs.size X.env)) (compPost (model X.prog X.w) X.A X.xe use Qf (.ref D) s3.heap.objs.size) { s3 with heap := pushCells (s3.heap.push { cls := .type "dict", data := .dict #[] }) sc.names }
  have nf : ∀ b ∈ fp, (upd F2 D (.lst [])) b = none := fun b mb => (f3 b mb).1.1
  generalize ece : compEnvC sc cl s3.heap.objs.size X.env = ce at J4 pg pt pe ⊢
  have cL : ce.locals = s3.heap.objs.size := by subst ece; rfl
  generalize eF3 : upd F2 D (.lst []) = F3 at J3 J4 pg pt pe w0 nf f3 pP
  generalize es4 : ({ s3 with heap := pushCells (s3.heap.push { cls := .type "dict", data := .dict #[] }) sc.names } : Shared) = s4 at J4 ⊢
  have k34 : ∀ b o, s3.heap.get? b = some o → s4.heap.get? b = some o := fun b o e => by rw [← es4]; exact pushCells_keeps _ _ _ _ (Heap.get?_push_of_some _ e)
  have t4 : tn 0 s4.heap := T.keep _ _ _ t3 fun b _ o e => k34 b o e
  -- the handled exception stands in the block, too
  let B : Cx := X.blk s3 F3 sc ce fp
  have lp : p.1 < s3.heap.objs.size := Heap.lt_size pP.1
  have nstk : p.1 ∉ frs X.stack := fun hm => (List.mem_cons.mp (J3.stkSub p.1 hm)).elim pP.2.2.1 pP.2.2.2.1
  have J4p : Inv B [p] (wipe st (own.map (·.2))) F3 s4 := ⟨J4.ok, J4.os, J4.bare, J4.base, J4.loc, J4.cell, J4.free, J4.freeC, fun q mq => by
    have eq : q = p := by simpa using (show q ∈ [] ++ [p] from mq)
    subst eq
    exact ⟨k34 _ _ pP.1, pP.2.1, by show q.1 ≠ ce.locals; rw [cL]; exact Nat.ne_of_lt lp, nstk, pP.2.2.2.2⟩, J4.hok, J4.len⟩
  have hotB : HotC (blkP B p) := ⟨p, hot1, List.mem_singleton.2 rfl⟩
  have npf : p.1 ∉ fp := fun mb => (f3 _ mb).1.2.2.2.2.2 p (List.mem_append_left _ hpn) rfl
  have one : ∀ q ∈ ([] : List (Addr × Obj)) ++ [p], q.1 ∉ fp := fun q mq => by
    have eq : q = p := by simpa using mq
    rw [eq]; exact npf
  have stat : ∀ {σ' : L2.St} {F' : Hp} {s' : Shared}, Inv B [p] σ' F' s' → (∀ b ∈ fp, F' b = none) → ∀ b ∈ fp, FpOk B [p] F' b := fun {σ' F' s'} I' hn b mb =>
    ⟨hn b mb, (I'.ok.exf b mb).1, I'.ok.exfs b mb, .inl mb, fun x c e => (I'.ok.exf b mb).2 x c e, fun q mq z => one q mq (z ▸ mb)⟩
  have run : codeAny (model X.prog X.w) X.A (.compLoop (.ListComp el [⟨tg, it0, ifs, 0⟩] sc ps) 0 (.ref it) (.ref D) ce) (compPost (model X.prog X.w) X.A X.xe use Qf (.ref D) s3.heap.objs.size) s4 := by
    refine compLoop_any (fun n s' => ∃ i F', Inv B [p] (wipe st (own.map (·.2))) F' s' ∧ tn i s'.heap ∧ (∀ b ∈ fp, F' b = none) ∧ W i n F') ?_ m0 ⟨0, F3, J4p, t4, nf, w0⟩
    rintro n s5 ⟨i, F5, J5, t5, n5, w5⟩
    have st5' : ∀ b ∈ fp, FpOk (blkP B p) [] F5 b := fun b mb => stat J5 n5 b mb
    rcases turn i n F5 w5 with ⟨stop, qq⟩ | ⟨go, Nx, hNx, step⟩
    · have td := T.done (blkP B p) rfl rfl rfl hotB i [] s5 _ F5 (fun _ _ => False) (toP rfl J5) st5' t5 stop
      refine thnF td fun r s6 ⟨hr, J6⟩ => ?_
      subst hr
      have J7 : Inv X pins st F5 s6 := J3.call' (ch := fp) J6.os J6.base J6.hok J6.bare fun b mb => ⟨(f3 b mb).1.2.2.2.1, (f3 b mb).1.2.1, (f3 b mb).1.2.2.2.2.1, (f3 b mb).1.2.2.2.2.2⟩
      have nC : F5 s3.heap.objs.size = none := cL ▸ (show F5 ce.locals = none from J6.free)
      obtain ⟨m, hn, _⟩ := J6.loc
      exact back D s3.heap.objs.size s6 m F5 J7 qq (cL ▸ (show s6.heap.Ns ce.locals m from hn)) (J3.fpOk (Nat.le_refl _) nC)
    · have ti := T.item (blkP B p) rfl rfl rfl hotB i [] s5 _ F5 (fun _ _ => False) (toP rfl J5) st5' t5 go
      refine thnF ti fun r s6 ⟨u, hr, h6⟩ => ?_
      subst hr
      refine thnF h6 fun _ s7 ⟨x, F7, J7, r7, y7, t7, n7⟩ => ?_
      have J7o := ofP (X := B) rfl J7 J5.ok
      have J7p := J7o.pinned (stat J7o n7) (T.obj _ _ t7)
      refine thnF (pg.run _ s7 _ F7 x u _ J7p r7 (step x F7 y7)) fun _ s8 ⟨σ8, F8, J8, hw8, q8⟩ => ?_
      refine thnF (pt.run _ s8 σ8 F8 _ J8 q8) fun b s9 ⟨F9, J9, q9⟩ => ?_
      have fin : ∀ {s' : Shared} {F' : Hp}, Inv B ([p] ++ pinsAt fp s7.heap) σ8 F' s' → Nx F' → ∃ m, m < n ∧ ∃ i F', Inv B [p] (wipe st (own.map (·.2))) F' s' ∧ tn i s'.heap ∧ (∀ b ∈ fp, F' b = none) ∧ W i m F' := fun {s' F'} I' nx => by
        obtain ⟨m', hm, w'⟩ := hNx F' nx
        have pin' : ∀ b ∈ fp, ∀ o, s7.heap.get? b = some o → s'.heap.get? b = some o ∧ F' b = none := fun b mb o e => ⟨(I'.pin (b, o) (List.mem_append_right _ (List.mem_append_right _ (mem_pinsAt mb e)))).1, (I'.pin (b, o) (List.mem_append_right _ (List.mem_append_right _ (mem_pinsAt mb e)))).2.1⟩
        exact ⟨m', hm, i + 1, F', (I'.unpinned (pins := [p])).weak (by rw [← hw8, wipe_length]) (fun j v e => (wipe_some (hw8 ▸ e)).1), T.keep _ _ _ t7 fun b mb o e => (pin' b mb o e).1, fun b mb => (T.obj _ _ t7 b mb).elim fun o z => (pin' b mb o z.1).2, w'⟩
      cases b with
      | false =>
        simp only [Bool.false_eq_true, if_false] at q9 ⊢
        exact fin J9 q9
      | true =>
        simp only [if_true] at q9 ⊢
        refine thnF (pe.run _ s9 σ8 F9 _ J9 q9) fun z s10 ⟨yv, F10, J10, r10, acc, hD10, hz10, nx⟩ => app_ok (X := B) J10 hD10 hz10 r10 fun s11 J11 => fin J11 nx
  exact codeAny_compStart_list run (T.self X.A 0 _ _ _ t4 run)
theorem pe_lcHot {el tg it0 : Expr} {ifs : List Expr} {sc : Scope} {own : List (Str × Nat)} {ps : Pos} {wi : TI} {g : TG} {tt : TT} {te : TE} (hot : HotC X) (nd : X.N.Nodup) (hi : PIH X tg it0 wi) (bo : BlkOk X.N X.env.scope sc own)
    (hg : ∀ (s : Shared) (F : Hp) (C : Addr) (cl : List (Str × Addr)) (fp : List Addr), PG (X.blk s F sc (compEnvC sc cl C X.env) fp) tg g)
    (ht : ∀ (s : Shared) (F : Hp) (C : Addr) (cl : List (Str × Addr)) (fp : List Addr), PTs (X.blk s F sc (compEnvC sc cl C X.env) fp) ifs tt)
    (he : ∀ (s : Shared) (F : Hp) (C : Addr) (cl : List (Str × Addr)) (fp : List Addr), PE (X.blk s F sc (compEnvC sc cl C X.env) fp) el te) (fs : ∀ x, foldedSetIterable it0 X.env x = pure x := by intro _; rfl) :
    PE X (.ListComp el [⟨tg, it0, ifs, 0⟩] sc ps) (tLc wi g tt te (own.map (·.2))) := by
  refine ⟨fun pins s st F Q J h => ?_⟩
  rw [eval_ListComp]
  exact lc_hot hot nd J hi bo hg ht he fs h fun D C s' m F' J' q hn ⟨f0, f1, f2, f3, f4, f5⟩ => ⟨m, hn, fun h'' sb => ⟨.ref D, F', J'.turned (t' := s'.toks) (fun b o hb e => (sb.2 b hb).trans e) f0 f1 f3 f4 f5, rfl, q⟩⟩
end
end TyL

/-! the exception that a suite handles, asked where it stands among the pins: isinstance, its fields; defs that take it -/
namespace TyL
open PySem PySem.Spec PyProof.Rows L2 L2H
/-- isinstance(e, c), e handled, of class D, its dict d -/
def rIsP (K : PySem.W.Frag) (D a : Addr) (d : Option Addr) : List V → Hp → VK → Prop := fun xs H Q => ∃ (c : V) (cv : Value) (b : Bool), xs = [.ref a, c] ∧ (∀ u, RelV c u → u = cv) ∧ PySem.W.kitOne K (.ref D) cv = some b ∧ (∀ dd, d = some dd → ∃ fs, H dd = some (.xd fs)) ∧ Q (.bl b) H
theorem call_isP {X : Cx} {a D : Addr} {oe : Obj} {d : Option Addr} (C : L2.ExcC X.K D) (hz : Zc (.ref D) d oe) (hf : ∃ vs, oe.data = .fields vs) (hp : (a, oe) ∈ X.pn) : CallR X (.builtin "isinstance") (rIsP X.K D a d) := by
  intro pins s σ H xs us Q I r h
  obtain ⟨c, cv, b, rfl, hcv, e, hdd, q⟩ := h
  match us, r with
  | [_, ut], .cons r1 (.cons r2 .nil) =>
    cases r1
    cases hcv _ r2
    have hget := (I.pin (a, oe) (List.mem_append_left _ hp)).1
    obtain ⟨vs, hv⟩ := hf
    have J : ∃ od, PySem.W.InstAt s.heap a oe D od := by
      cases ed : d with
      | none => exact ⟨none, hget, hz.1, by unfold PySem.W.notCls; rw [hv], by rw [hz.2, ed]; trivial⟩
      | some dd =>
        obtain ⟨fs, hfs⟩ := hdd dd ed
        obtain ⟨mA, hns, _⟩ := (I.hok dd _ hfs : ObjOk X.prog X.w H s.heap dd (.xd fs))
        obtain ⟨od, ho, _⟩ := lookIn_ns hns
        exact ⟨some od, hget, hz.1, by unfold PySem.W.notCls; rw [hv], by rw [hz.2, ed]; exact ho⟩
    obtain ⟨od, J⟩ := J
    have hcl : (PySem.W.clsIn X.K D).isSome = true := by
      obtain ⟨cd, hc, _⟩ := PySem.W.any_some C.hd
      rw [hc]; rfl
    exact PySem.W.kia_one (PySem.W.kitx_exc (od := od) hcl C.hg C.hk C.hs C.ha C.hn C.ht C.hm) I.kIn J e (fun z => nomatch z) fun tk => ⟨.bl b, H, I.kept (t' := tk) fun _ _ z => z, rfl, q⟩
theorem pe_xfP {X : Cx} {a C : Addr} {oe : Obj} {cls : Value} {d : Option Addr} {e : Expr} {te : TE} {pos : Pos} {n : Str} (T : XfC X.K C) (hno : PySem.W.findIn X.K (.ref C) n = some none) (hz : Zc cls d oe) (hf : ∃ vs, oe.data = .fields vs) (hp : (a, oe) ∈ X.pn) (he : PE X e te)
    (hb : attributeBase e n X.env (eval e X.env) = eval e X.env := by rfl) : PE X (.Attribute e n pos) (tXf a cls d C n te) := by
  refine ⟨fun pins s σ H Q I h => attr_of hb (thn (he.run pins s σ H _ I h) fun u s1 ⟨x, H1, I1, rx, ex, ec, dd, fs, v, ed, ea, l, q⟩ => ?_)⟩
  subst ex ec ed
  cases (show u = Value.ref a from rx)
  have ha := (I1.pin (a, oe) (List.mem_append_left _ hp)).1
  obtain ⟨vs, hd⟩ := hf
  obtain ⟨mA, hns, hr⟩ := (I1.hok dd _ ea : ObjOk X.prog X.w H1 s1.heap dd (.xd fs))
  obtain ⟨od, ho, hl⟩ := lookIn_ns hns
  obtain ⟨u, hu, ru⟩ := RelO.some_of (v := v) (o := mA n) (l ▸ hr n)
  exact HandSPX.exc_get I1.kIn (⟨ha, hz.1, by unfold PySem.W.notCls; rw [hd], by rw [hz.2]; exact ho⟩ : PySem.W.InstAt s1.heap a oe C (some od)) T.ga T.gg T.exC (PySem.W.findObj_own T.hdC hno rfl (by rw [hl, hu])) (handed_of ru) ⟨v, H1, I1.tok _, ru, q⟩
/-- as FnH, of the handled exception Z holds -/
structure FnZ (Z : Addr × Obj → Prop) (P : Program) (w : World) (K : PySem.W.Frag) (mg : Str → Option Value) (base : Heap) (CX : CXT) (k : Nat) (f : Addr) (fd : FuncData) (ps : List Str) (sp : Sp) : Prop where
  len : ∀ vs H Q E, sp vs H Q E → vs.length = ps.length
  run : ∀ (A : Around) (outer : List Env) (s : Shared) (H : Hp) (args : Args) (us : List Value) (vs : List V) (Q : VK) (E : XK) (p : Addr × Obj), Z p → RoomH k A → Hot1 A p → PinOk outer H s p → Env0 P w K mg base A outer s H → BindsTo s fd args (ps.zip us) → Vals vs us → sp vs H Q E →
    codeAny (model P w) A (.call (.ref f) args) (CR CX outer P w H s Q E) s
/-- the same of one exception alone: the def's promise with it told by the spec -/
theorem fn_ofZ {Z : Addr × Obj → Prop} {CX : CXT} {P : Program} {w : World} {K : PySem.W.Frag} {mg : Str → Option Value} {base : Heap} {k : Nat} {x qual : Str} {st : Stmt} {f : Addr} {fd : FuncData} {N ps : List Str} {sp : Sp} (Fu : Fun K x qual st f fd) (S : FnScope N ps (defScope st)) (len : ∀ vs H Q E, sp vs H Q E → vs.length = ps.length)
    (hb : ∀ (cdv : Value) (A : Around) (outer : List Env) (s : Shared) (H : Hp) (vs : List V) (Q : VK) (E : XK) (p : Addr × Obj), Z p → Hot1 A p → RoomH k (A.deeper (envOfC qual (defScope st) s.heap.objs.size f cdv)) → sp vs H Q E →
      ∃ t, PSs (cxH CX P w K mg base N qual (defScope st) f cdv A outer s H E p) (defBody st) t ∧ t { nx := fun _ H' => Q .non H', rt := Q } (start N vs) H) : FnZ Z P w K mg base CX (k + 1) f fd ps sp := by
  obtain ⟨oc, od, kV, doc, pm, an, cdv, ct, osl, rfl, lk, hcd⟩ := Fu.ex
  refine ⟨len, fun A outer s H args us vs Q E p zp hr hot hpin e0 b r hsp => ?_⟩
  have sl := len _ _ _ _ hsp
  have stays : ∀ b o, base.get? b = some o → s.heap.get? b = some o := fun b o z => (e0.bs b o z).1
  have hk : ∀ y ∈ ps.zip us, (defScope st).names.lookup y.1 = some .local ∨ ((defScope st).names.lookup y.1 = some .cell ∧ ((cellsFrom (s.heap.objs.size + 1) (defScope st).names []).lookup y.1).isSome = true) := fun y my =>
    (S.par y.1 (List.of_mem_zip (show (y.1, y.2) ∈ ps.zip us from my)).1).imp id fun q => ⟨q, PySem.W.cellsFrom_some _ _ _ (.inl q)⟩
  refine codeAny_call_function hr.depth (e0.mod.kin.keeps stays _ _ lk) rfl S.co S.gen rfl (PySem.W.codeRec_of (e0.mod.kin.keeps stays) hcd) (b _ _ _ _ (wpAny_newFunctionEnv_cells S.kind hk fun env he s1 x => ?_))
  subst he
  obtain ⟨t, ht, hq⟩ := hb cdv A outer s H vs Q E p zp hot (hr.deeper _) hsp
  refine ⟨(e0.mod.nolimit.keeps stays).keeps x.toInCall.keep, codeAny_func (wpAny_mono (ht.run [] s1 (start N vs) H _ (inv_startH S hpin e0 sl r x) hq) (fun fl s' hs => ?_) fun e s' hs => hs)⟩
  match fl, hs with
  | .ret u, ⟨v, σ', H', J, rv, q⟩ => exact (⟨v, H', J.os, J.bare, J.base, J.hok, rv, q⟩ : CE outer P w H s Q u s')
  | .next, ⟨σ', H', J, q⟩ => exact (⟨.non, H', J.os, J.bare, J.base, J.hok, rfl, q⟩ : CE outer P w H s Q .none s')
  | .brk, ⟨_, _, _, q⟩ => exact q.elim
  | .cont, ⟨_, _, _, q⟩ => exact q.elim
/-- the context bears such an exception -/
def HotZ (Z : Addr × Obj → Prop) (X : Cx) : Prop := ∃ p : Addr × Obj, Z p ∧ Hot1 X.A p ∧ p ∈ X.pn
theorem HotZ.hot {Z : Addr × Obj → Prop} {X : Cx} (h : HotZ Z X) : HotC X := h.elim fun p q => ⟨p, q.2⟩
section
variable {X : Cx} {Z : Addr × Obj → Prop} {CX : CXT} {k : Nat} {f : Addr} {fd : FuncData} {ps : List Str} {sp : Sp} {E : L2.St → XK} {x : Str} {q pos : Pos} {e : Expr} {es : List Expr} {t : TA}
theorem pe_callZ (F : FnZ Z X.prog X.w X.K X.mg X.base CX k f fd ps sp) (hr : RoomH k X.A) (hc : HotZ Z X) (hg : Gl X x) (hm : X.mg x = some (.ref f)) (hk : PySem.W.keepIn X.K (.ref f) = true) (hb : Binds X.K fd ps []) (hx : ∀ σ, PassesAt CX X σ (E σ)) (ha : PA X (e :: es) t)
    (hdb : (x == ("__debug__" : Str)) = false := by decide) (he : starEach (e :: es) X.env = (false, eval e X.env) :: starEach es X.env := by rfl) (hpl : (backTo pos (starEach es X.env)).any (·.1) = false := by rfl) : PE X (.Call (.Name x q) (e :: es) [] pos) (tCallS sp E t) := by
  obtain ⟨p, zp, hot, mp⟩ := hc
  refine ⟨fun pins s σ H Q I h => wpAny_Call_Name_kw (ld_glob I hg hm (PySem.W.callWith_K (h₀ := X.base) I.ok.mod.kin hk (thn (ha.run pos pins s σ H _ I h) fun us s1 ⟨vs, H1, I1, r, w⟩ => ⟨I1.kIn, ?_⟩) he hpl) hdb)⟩
  have b := hb s1 us I1.kIn (by rw [List.append_nil, ← r.length]; exact F.len _ _ _ _ w)
  rw [List.append_nil] at b
  obtain ⟨p1, p2, p3, p4, p5⟩ := I1.pin p (List.mem_append_left _ mp)
  refine wpAny_call (codeAny_mono (F.run X.A X.stack s1 H1 ⟨us, []⟩ us vs Q (E σ) p zp hr hot ⟨p1, p2, fun hm => (List.mem_cons.mp (I1.stkSub p.1 hm)).elim p3 p4, p5⟩ I1.env0 b r w) fun res s' hq => ?_)
  match res, hq with
  | .error er, hq => exact hx σ pins H1 s1 er s' I1 hq
  | .ok (.ret u), hq => exact I1.after hq
  | .ok .next, hq => exact hq.elim
  | .ok .brk, hq => exact hq.elim
  | .ok .cont, hq => exact hq.elim
end
end TyL

/-! errors raised where nothing is handled: their context is None; what is asked of them by the class they turn out to have -/
namespace TyL
open PySem PySem.Spec PyProof.Rows L2 L2H
theorem pmkN_own0 {X : Cx} {C : Addr} {bmB : List Value} {B newId initId : String} {x : Str} {p pos : Pos} (F : ExcBaseFacts B newId initId bmB) (q : PySem.W.excIn X.K C bmB newId = true) (gC : X.mg x = some (.ref C)) (kC : PySem.W.keepIn X.K (.ref C) = true) (r : Raises X (.ref C)) (hg : Gl X x)
    (hdb : (x == ("__debug__" : Str)) = false := by decide) : L2N.PMk X (.Call (.Name x p) [] [] pos) (fun _ H Q => Q (.ref C) none H) := fun pins s σ H Q I h => by
  refine wpAny_Call_Name_kw (ld_glob I hg gC (PySem.W.callWith_K0 I.kIn kC ?_) hdb)
  obtain ⟨bm, N, nm, qn, bs, hdct, sn, sub, ab, col, dd, k0, k1, k2, k3, k5, mN, hC, hN, hni, T⟩ := exc_obj I.kIn q
  exact wpAny_call_exc_subT F T hC hN hni (fun h' e hm => L2N.mk_of I hm r h (I.hok.gone hm.new)) (by decide)
theorem pmkN_oex {X : Cx} {CX : CXT} {x : Str} {e : Expr} {es : List Expr} {ta : TA} {p pos : Pos} {C fI : Addr} {k : Nat} {fd : FuncData} {ps : List Str} {sp : Sp} (T : OexC X.K C) (iC : PySem.W.findIn X.K (.ref C) "__init__" = some (some (.ref fI))) (tI : PySem.W.typeIn X.K (.ref fI) = some (.type "function"))
    (F1 : FnOk X.prog X.w X.K X.mg X.base CX k fI fd ps sp) (hr : Room (k + 1) X.A) (hb : Binds X.K fd ps []) (hx : Passes CX X (fun _ _ _ => False)) (hg : Gl X x) (hm : X.mg x = some (.ref C)) (ha : PA X (e :: es) ta) (hdb : (x == ("__debug__" : Str)) = false := by decide)
    (he : starEach (e :: es) X.env = (false, eval e X.env) :: starEach es X.env := by rfl) (hpl : (backTo pos (starEach es X.env)).any (·.1) = false := by rfl) : L2N.PMk X (.Call (.Name x p) (e :: es) [] pos) (tMkO C sp [] ta) := fun pins s σ H Q I h => by
  obtain ⟨nm, q, N, bs, bm, sn, sub, ab, col, dd, k0, k1, k2, k3, k5, hC, hbm⟩ := T.cls
  refine wpAny_Call_Name_kw (ld_glob I hg hm (PySem.W.callWith_K (h₀ := X.base) I.ok.mod.kin T.kC (thn (ha.run pos pins s σ H _ I h) fun us s1 ⟨vs, H1, I1, r1, hz, q1⟩ => ⟨I1.kIn, ?_⟩) he hpl) hdb)
  obtain ⟨hp, g, dr, tk, os⟩ := s1
  show wpAny _ X.A (call (.ref C) us) _ _ _
  have ga : ((hp.push (PySem.W.kdv_tup us)).push (PySem.HandSPX.excO C hp.objs.size)).get? (hp.objs.size + 1) = some (PySem.HandSPX.excO C hp.objs.size) := by heap_get
  obtain ⟨A, hA⟩ : ∃ A : Addr, A = hp.objs.size + 1 := ⟨_, rfl⟩
  rw [← hA] at ga
  have lA : hp.objs.size ≤ A := hA ▸ Nat.le_succ _
  have sp1 := q1 A (I1.hok.fresh lA)
  have kk : ∀ b o, hp.get? b = some o → ((hp.push (PySem.W.kdv_tup us)).push (PySem.HandSPX.excO C hp.objs.size)).get? b = some o := fun b o z => Heap.get?_push_of_some _ (Heap.get?_push_of_some _ z)
  have I2 : Inv X pins σ (upd H1 A (exo A C none)) ⟨(hp.push (PySem.W.kdv_tup us)).push (PySem.HandSPX.excO C hp.objs.size), g, dr, tk, os⟩ :=
    I1.laid (t' := tk) (a := A) (o := exo A C none) (h' := (hp.push (PySem.W.kdv_tup us)).push (PySem.HandSPX.excO C hp.objs.size)) kk lA (exo_ok ga)
  rw [List.append_nil] at sp1
  have r2 : Vals (V.ref A :: vs) (Value.ref A :: us) := .cons rfl r1
  have bb := hb _ (Value.ref A :: us) I2.kIn (by rw [List.append_nil]; exact r2.length.symm.trans (F1.len _ _ _ _ sp1))
  rw [List.append_nil] at bb
  subst hA
  refine wpAny_call (PySem.HandSPX.call_own F.excBase_ValueError (fun Y => PySem.HandSPX.refsVE_contains Y bm hbm) (I1.kIn _ _ hC) (PySem.W.looks_findIn I1.kIn iC) (fun self => PySem.W.bind_fn I1.kIn self tI) (by rw [← Paired.length r1, sizeLine_eq]; omega)
    (codeAny_mono (F1.run _ X.stack _ _ ⟨_, []⟩ _ _ _ (fun _ _ _ => False) (hr.make C us []) (I2.env0.make C us []) bb r2 sp1) fun r s' hq => ?_))
  match r, hq with
  | .error er, hq => exact hx pins σ _ _ er s' I2 hq
  | .ok (.ret u), hq =>
    obtain ⟨v, H2, os2, bare2, un2, hok2, rv, ev, d, fs, ea, ed, hd1, q2⟩ := hq
    subst ev
    obtain ⟨h2, g2, d2, t2, os'⟩ := s'
    obtain ⟨t0, G, J, kG, ge, hoe, na⟩ := mk_end0 (d2 := d2) (t2 := t2) I1 lA kk un2 hok2 os2 bare2 ea ed hd1
    exact ⟨rv, hp.objs.size + 1, _, _, ⟨G, g2, d2, t2, os'⟩, _, .ref C, some d, rfl, J, kG, ge, hoe, ⟨rfl, rfl, fun ws z => by cases z; rfl⟩, rfl, rfl, na, rfl, bare2, raises_own T.exC T.tyC, q2⟩
  | .ok .next, hq => exact hq.elim
  | .ok .brk, hq => exact hq.elim
  | .ok .cont, hq => exact hq.elim
theorem takesN0 {X : Cx} : L2N.Takes X (fun _ _ _ _ => False) := fun u s' ⟨_, _, _, _, _, _, _, _, _, _, _, _, _, _, _, _, z⟩ => z.elim
theorem passAtN {X : Cx} {W : WX} (tk : L2N.Takes X W) (σ : L2.St) : PassesAt (L2N.CX X.prog X.w) X σ (fun cls d H => W cls d σ H) := fun pins H s e s' I c => tk e s' (L2N.XE.of_call I (fun _ _ _ h => h) c)
/-- isinstance(e, c): the class is the one that cls tells -/
def rIsQ (K : PySem.W.Frag) (a : Addr) (cls : Value) (d : Option Addr) : List V → Hp → VK → Prop := fun xs H Q => ∃ D, cls = .ref D ∧ L2.ExcC K D ∧ rIsP K D a d xs H Q
theorem call_isQ {X : Cx} {a : Addr} {oe : Obj} {cls : Value} {d : Option Addr} (hz : Zc cls d oe) (hf : ∃ vs, oe.data = .fields vs) (hp : (a, oe) ∈ X.pn) : CallR X (.builtin "isinstance") (rIsQ X.K a cls d) := fun pins s σ H xs us Q I r ⟨D, e, C, h⟩ => by
  subst e
  exact call_isP C hz hf hp pins s σ H xs us Q I r h
/-- e.f -/
def tXq (K : PySem.W.Frag) (a : Addr) (cls : Value) (d : Option Addr) (f : Str) (te : TE) : TE := fun σ H Q => ∃ C, cls = .ref C ∧ XfC K C ∧ PySem.W.findIn K (.ref C) f = some none ∧ tXf a cls d C f te σ H Q
theorem pe_xfQ {X : Cx} {a : Addr} {oe : Obj} {cls : Value} {d : Option Addr} {e : Expr} {te : TE} {pos : Pos} {n : Str} (hz : Zc cls d oe) (hf : ∃ vs, oe.data = .fields vs) (hp : (a, oe) ∈ X.pn) (he : PE X e te)
    (hb : attributeBase e n X.env (eval e X.env) = eval e X.env := by rfl) : PE X (.Attribute e n pos) (tXq X.K a cls d n te) :=
  ⟨fun pins s σ H Q I ⟨C, e1, T, hno, h⟩ => (pe_xfP T hno hz hf hp he hb).run pins s σ H Q I h⟩
theorem okN {P : Program} {w : World} {K : PySem.W.Frag} {mg : Str → Option Value} {base : Heap} {x qual : Str} {st : Stmt} {f : Addr} {fd : FuncData} {N ps : List Str} {k : Nat} {sp : Sp} (F : Fun K x qual st f fd) (S : FnScope N ps (defScope st)) (len : ∀ vs H Q E, sp vs H Q E → vs.length = ps.length)
    (hb : ∀ (cdv : Value) (A : Around) (outer : List PySem.Env) (s : Shared) (H : Hp) (vs : List V) (Q : VK) (E : XK), Room k (A.deeper (envOfC qual (defScope st) s.heap.objs.size f cdv)) → sp vs H Q E →
      ∃ t, PSs (cxOf (L2N.CX P w) P w K mg base N qual (defScope st) f cdv A outer s H E) (defBody st) t ∧ t { nx := fun _ H' => Q .non H', rt := Q } (start N vs) H) : FnOk P w K mg base (L2N.CX P w) (k + 1) f fd ps sp := by
  obtain ⟨oc, od, kV, doc, pm, an, cdv, ct, osl, rfl, lk, hcd⟩ := F.ex
  exact fn_of lk hcd S len fun A outer s H vs Q E hr hsp => hb cdv A outer s H vs Q E hr hsp
end TyL

/-! an error of any known class, caught by the class above them all -/
namespace Ty
open PySem PySem.Spec PyProof.Rows L2
open Enc (enc)
variable {G : Glob}
structure XP where
  a : Addr
  d : Option Addr
  cls : String
  args : List PyData
def XD (G : Glob) (x : XP) (F : Hp) : Prop := (x.args = [] ∧ x.d = none) ∨ ∃ dx vs, x.d = some dx ∧ F dx = some (.xd ((fieldsOf x.cls).zip vs)) ∧ (fieldsOf x.cls).length = vs.length ∧ DqAll G.K F vs x.args
instance rpXP : Rp G XP := ⟨fun x v F => v = .ref x.a ∧ XD G x F, fun {x v F F'} e ⟨h1, h2⟩ => ⟨h1, h2.imp id fun ⟨dx, vs, h3, h4, h5, h6⟩ => ⟨dx, vs, h3, e _ _ h4, h5, dpAll_same e _ _ h6⟩⟩⟩
section
variable {β ω α : Type} [iα : Rp G α] {N : NN} {Γ : Env G} {tz : TS} {i : Nat}
theorem sv_tryR {Γi : β → Env G} {te : XK → TE} {m : Prog α} {b0 : β} {known : List String} {c : String} {p : Exc → Prog β} {ts : Addr → Value → Option Addr → TS} {J : Aim ω} {k : β → Prog ω} (hp : Plain Γ)
    (h : ∀ N' : NN, N'.S = N.S → EV N' Γ (te N'.E) m) (hw0 : ∀ σ F H, HS N Γ σ F H → HS N (Γi b0) σ F H) (hdead : ∀ b, (Γi b)[i]? = some .dead)
    (hsv : ∀ a d (e : Exc), e.cls ∈ known → SV N (Γ.set i (.per (XP.mk a d e.cls e.args))) (ts a (.ref (G.exc e.cls)) d) (JN N Γi) (p e))
    (hx : ∀ y ∈ known, PySem.W.exmOne G.K (.ref (G.exc y)) (.ref (G.exc c)) = some true) (hk : ∀ b, SV N (Γi b) tz J (k b)) :
    SV N Γ (tSeq (fun D σ H => tSeq (tDrop (fun σ H Q => te (fun cl d H => wAs G.K (.ref (G.exc c)) i ts (fun _ _ _ _ => False) D cl d σ H) σ H Q)) tNext D σ H) tz) J (catchP (fun e => if e.cls ∈ known then some (p e) else some .stuck) (m >>= fun _ => .ok b0) >>= k) := fun σ F H D hs q => by
  have q2 := wp_bind.1 (wp_catch.1 (wp_bind.1 q))
  let E' : XK := fun cl d H => wAs G.K (.ref (G.exc c)) i ts (fun _ _ _ _ => False) { D with nx := tz D } cl d σ H
  refine h (N.now F H E') rfl σ F H (hs.now hp) _ (wp_imp q2 (fun a kk v F' H' hs' e r => ?_) fun e he F' H' C d w r => ?_)
  · obtain ⟨h2, e2⟩ := hs.call nowB hs'.w
    exact hk b0 σ F' H' D (hw0 _ _ _ h2) (wp_mono kk fun o x => J.mono e2 x)
  · obtain ⟨h2, e2⟩ := hs.call nowB w
    have eC : C = .ref (G.exc e.cls) := r.1
    by_cases h1 : e.cls ∈ known
    · rw [if_pos h1] at he
      show ∃ b, PySem.W.exmOne G.K C (.ref (G.exc c)) = some b ∧ _
      refine ⟨true, by rw [eC, hx e.cls h1], fun _ a _ => ?_, fun z => (nomatch z)⟩
      rw [eC]
      have rx : Rp.rp (G := G) (XP.mk a d e.cls e.args) (.ref a) F' := ⟨rfl, r.2.imp id fun ⟨dx, vs, ed, hF, hl, da, _⟩ => ⟨dx, vs, ed, hF, hl, da⟩⟩
      exact hsv a d e h1 _ F' H' _ (h2.setPer i rx) (wp_mono (show wp (p e) _ _ from he) fun b kk σ2 F2 H2 hs2 e3 => hk b _ F2 H2 D (hs2.drop (.inl (hdead b)) none) (wp_mono kk fun o x => J.mono (Same.trans e2 e3) x))
    · rw [if_neg h1] at he
      exact he.elim
/-- isinstance(e, c) -/
theorem ev_isQ {x : XP} {known : List String} {b : String → Bool} {c : V} {cv : Value} (hi : Γ[i]? = some (.per x)) (hc : ∀ u, RelV c u → u = cv) (hk : ∀ y ∈ known, L2.ExcC G.K (G.exc y) ∧ PySem.W.kitOne G.K (.ref (G.exc y)) cv = some (b y)) :
    EV N Γ (tCB (TyL.rIsQ G.K x.a (.ref (G.exc x.cls)) x.d) (tCons (tVar i) (tCons (tC c) tNil))) (if x.cls ∈ known then .ok (b x.cls) else .stuck) := fun σ F H hs Q q => by
  by_cases h : x.cls ∈ known
  · rw [if_pos h] at q
    obtain ⟨o, e0, v, e1, e2, hd⟩ := hs.sl.get hi
    subst e1 e2
    obtain ⟨C, e⟩ := hk _ h
    refine ⟨.ref x.a, e0, G.exc x.cls, rfl, C, c, cv, _, rfl, hc, e, fun dd ed => ?_, q _ F H hs (Same.refl F) (.bl _)⟩
    rcases hd with ⟨_, z⟩ | ⟨dx, vs, z, hF, _⟩
    · rw [z] at ed; cases ed
    · rw [z] at ed; cases ed
      exact ⟨_, hs.w.fh _ _ hF⟩
  · rw [if_neg h] at q
    exact q.elim
/-- e.f -/
def xfP (x : XP) (f : Str) : Prog PyData := match ((fieldsOf x.cls).zip x.args).lookup f with
  | some d => .ok d
  | none => .stuck
theorem zip_look {f : Str} {d : PyData} {F : Hp} : ∀ {ns : List Str} {vs : List V} {ds : List PyData}, DqAll G.K F vs ds → (ns.zip ds).lookup f = some d → ∃ v, (ns.zip vs).lookup f = some v ∧ Dq G.K F v d
  | [], vs, ds, _, h => by simp at h
  | n :: ns, _, _, .nil, h => by simp at h
  | n :: ns, _, _, .cons h1 h2, h => by
    rw [List.zip_cons_cons, List.lookup_cons] at h
    rw [List.zip_cons_cons, List.lookup_cons]
    cases e : f == n with
    | true =>
      rw [e] at h
      cases h
      exact ⟨_, rfl, h1⟩
    | false =>
      rw [e] at h
      exact zip_look h2 h
theorem ev_xfQ {x : XP} {f : Str} (hi : Γ[i]? = some (.per x)) (hX : ∀ y, f ∈ fieldsOf y → XfC G.K (G.exc y) ∧ PySem.W.findIn G.K (.ref (G.exc y)) f = some none) : EV N Γ (TyL.tXq G.K x.a (.ref (G.exc x.cls)) x.d f (tVar i)) (xfP x f) := fun σ F H hs Q q => by
  unfold xfP at q
  cases hl : ((fieldsOf x.cls).zip x.args).lookup f with
  | none => rw [hl] at q; exact q.elim
  | some d =>
    rw [hl] at q
    obtain ⟨o, e0, v, e1, e2, hd⟩ := hs.sl.get hi
    subst e1 e2
    have hf : f ∈ fieldsOf x.cls := by
      have := PySem.mem_of_lookup hl
      exact (List.of_mem_zip this).1
    obtain ⟨T, hno⟩ := hX _ hf
    rcases hd with ⟨z, _⟩ | ⟨dx, vs, z, hF, _, da⟩
    · rw [z] at hl; simp at hl
    · obtain ⟨w, hw, dw⟩ := zip_look da hl
      exact ⟨G.exc x.cls, rfl, T, hno, .ref x.a, e0, rfl, rfl, dx, _, w, z, hs.w.fh _ _ hF, hw, q w F H hs (Same.refl F) dw⟩
end
/-! defs that take the handled error -/
def raE (G : Glob) (a : Addr) (cls : Value) (d : Option Addr) {τ : Type} (ra : τ → List V → Hp → Prop) : XP × τ → List V → Hp → Prop := fun p vs F => (p.1.a = a ∧ cls = .ref (G.exc p.1.cls) ∧ p.1.d = d) ∧ raC (G := G) XP ra p vs F
def ZE (a : Addr) (cls : Value) (d : Option Addr) : Addr × Obj → Prop := fun p => p.1 = a ∧ Zc cls d p.2
section
variable {ρ τ : Type} [Rp G ρ] {N : NN} {Γ : Env G} {t : TA} {i : Nat}
theorem ev_callZ {ra : τ → List V → Hp → Prop} {f : τ → Prog ρ} {m : Prog τ} (h : EVA N Γ t m ra) : EV N Γ (tCallS (SpF G ra f) (fun _ => N.E) t) (m >>= f) := fun σ F H hs Q q =>
  h σ F H hs _ (wp_mono (wp_bind.1 q) fun x q1 vs F1 H1 hs1 e1 r1 => ⟨F1, x, hs1.w.fh, r1, wp_imp q1 (fun r k v F' H' w rr => by
    obtain ⟨hs2, e2⟩ := hs1.call noB w
    exact k v F' H' hs2 (Same.trans e1 e2) rr) fun e he => ep_of (F := F) (H := H) hs1 noB e he⟩)
theorem eva_x {x : XP} {a : Addr} {cls : Value} {d : Option Addr} (hi : Γ[i]? = some (.per x)) (hx : x.a = a ∧ cls = .ref (G.exc x.cls) ∧ x.d = d) : EVA N Γ (tCons (tVar i) tNil) (.ok (x, ())) (raE G a cls d ra0) := fun σ F H hs Q q =>
  eva1 (G := G) (m1 := .ok x) (ev_var hi) σ F H hs Q (by
    rw [ok_bind]
    exact fun vs F' H' hs' e r => q vs F' H' hs' e ⟨hx, r⟩)
theorem eva_kx {x : XP} {a : Addr} {cls : Value} {d : Option Addr} {ta : TE} {m : Prog Int} (h1 : EV N Γ ta m) (hi : Γ[i]? = some (.per x)) (hx : x.a = a ∧ cls = .ref (G.exc x.cls) ∧ x.d = d) : EVA N Γ (tCons ta (tCons (tVar i) tNil)) (m >>= fun n => .ok (n, x, ())) (raC (G := G) Int (raE G a cls d ra0)) := fun σ F H hs Q q =>
  eva2 (G := G) (m2 := .ok x) h1 (ev_var hi) σ F H hs Q (by
    refine wp_bind.2 (wp_mono (wp_bind.1 q) fun n k => ?_)
    rw [ok_bind]
    exact fun vs F' H' hs' e ⟨v, ws, e1, e2, r⟩ => k vs F' H' hs' e ⟨v, ws, e1, e2, hx, r⟩)
theorem fn_okZ {P : Program} {w : World} {mg : Str → Option Value} {base : Heap} {x qual : Str} {st : Stmt} {f : Addr} {fd : FuncData} {Ns ps : List Str} {k : Nat} {ra : τ → List V → Hp → Prop} {g : τ → Prog ρ} {a : Addr} {cls : Value} {d : Option Addr} (Fu : Fun G.K x qual st f fd) (S : FnScope Ns ps (defScope st)) (Γ0 : τ → Env G)
    (len : ∀ a vs F, ra a vs F → vs.length = ps.length) (h0 : ∀ (a : τ) vs F H (N : NN), ra a vs F → Slots N F H (Γ0 a) (start Ns vs)) (nown : ∀ (x : τ), ∀ e ∈ Γ0 x, e.own = false)
    (hbody : ∀ (cdv : Value) (A : Around) (outer : List PySem.Env) (s : Shared) (H F : Hp) (E : XK) (oe : Obj), Zc cls d oe → (∃ vs, oe.data = .fields vs) → L2H.Hot1 A (a, oe) → L2H.RoomH k (A.deeper (envOfC qual (defScope st) s.heap.objs.size f cdv)) →
      ∃ t, PSs (L2H.cxH CX0 P w G.K mg base Ns qual (defScope st) f cdv A outer s H E (a, oe)) (defBody st) t ∧ ∀ y : τ, (∃ vs, ra y vs F) → SV (.of F H E) (Γ0 y) t (JR G (.of F H E)) (g y)) : TyL.FnZ (ZE a cls d) P w G.K mg base CX0 (k + 1) f fd ps (SpF G ra g) :=
  TyL.fn_ofZ Fu S (fun vs H Q E ⟨F, y, _, r, _⟩ => len y vs F r) fun cdv A outer s H vs Q E p zp hot hr ⟨F, y, e, r, q⟩ => by
    obtain ⟨pa, oe⟩ := p
    obtain ⟨ea, hz⟩ := zp
    cases (show pa = a from ea)
    obtain ⟨_, vs2, hv, _⟩ := id hot
    obtain ⟨t, hp, hv⟩ := hbody cdv A outer s H F E oe hz ⟨vs2, hv⟩ hot hr
    exact ⟨t, hp, hv y ⟨vs, r⟩ _ F H _ (hs_start (ra := ra) e (fun N => h0 y vs F H N r) nown) (wp_mono q fun r k v F' H' w rr => k v F' H' w rr)⟩
/-- raised where nothing is handled -/
theorem fn_okVN {P : Program} {w : World} {mg : Str → Option Value} {base : Heap} {x qual : Str} {st : Stmt} {f : Addr} {fd : FuncData} {Ns ps : List Str} {k : Nat} {ra : τ → List V → Hp → Prop} {g : τ → Prog Unit} (Fu : Fun G.K x qual st f fd) (S : FnScope Ns ps (defScope st)) (Γ0 : τ → Env G)
    (len : ∀ a vs F, ra a vs F → vs.length = ps.length) (h0 : ∀ (a : τ) vs F H (N : NN), ra a vs F → Slots N F H (Γ0 a) (start Ns vs)) (nown : ∀ (x : τ), ∀ e ∈ Γ0 x, e.own = false)
    (hbody : ∀ (cdv : Value) (A : Around) (outer : List PySem.Env) (s : Shared) (H F : Hp) (E : XK), Room k (A.deeper (envOfC qual (defScope st) s.heap.objs.size f cdv)) →
      ∃ t, PSs (cxOf (L2N.CX P w) P w G.K mg base Ns qual (defScope st) f cdv A outer s H E) (defBody st) t ∧ ∀ a : τ, SV (.of F H E) (Γ0 a) t (JV (.of F H E)) (g a)) : FnOk P w G.K mg base (L2N.CX P w) (k + 1) f fd ps (SpF G ra g) :=
  TyL.okN Fu S (fun vs H Q E ⟨F, y, _, r, _⟩ => len y vs F r) fun cdv A outer s H vs Q E hr ⟨F, y, e, r, q⟩ => by
    obtain ⟨t, hp, hv⟩ := hbody cdv A outer s H F E hr
    exact ⟨t, hp, hv y _ F H _ (hs_start (ra := ra) e (fun N => h0 y vs F H N r) nown) (wp_mono q fun r k => ⟨fun F' H' w => k .non F' H' w .non, fun σ' F' H' w => k .non F' H' w .non⟩)⟩
end
end Ty

/-! calls in a suite that knows what it caught -/
namespace Ty
open PySem PySem.Spec PyProof.Rows L2
open Enc (enc)
variable {G : Glob}
section
variable {X : Cx} {a : Addr} {oe : Obj} {cls : Value} {d : Option Addr} {pn : List (Addr × Obj)}
theorem hot_suite (hz : L2N.Zn cls d oe) (hf : ∃ vs, oe.data = .fields vs) : TyL.HotZ (ZE a cls d) (X.suite a ((a, oe) :: pn)) := by
  obtain ⟨vs, hv⟩ := hf
  exact ⟨(a, oe), ⟨rfl, hz.1, hz.2.1⟩, ⟨rfl, vs, hv, hz.2.2 vs hv⟩, List.mem_cons_self⟩
end
section
variable {ρ : Type} [Rp G ρ] {N : NN} {Γ : Env G} {i : Nat} {ta : TE} {x : XP} {a : Addr} {cls : Value} {d : Option Addr}
theorem ev_callZ1 {f : Exc → Prog ρ} (hi : Γ[i]? = some (.per x)) (hx : x.a = a ∧ cls = .ref (G.exc x.cls) ∧ x.d = d) : EV N Γ (tCallS (SpF G (raE G a cls d ra0) (fun p => f ⟨p.1.cls, p.1.args⟩)) (fun _ => N.E) (tCons (tVar i) tNil)) (f ⟨x.cls, x.args⟩) := by
  have h := ev_callZ (N := N) (f := fun p : XP × Unit => f ⟨p.1.cls, p.1.args⟩) (eva_x hi hx)
  simp only [ok_bind] at h
  exact h
theorem ev_callZ2 {f : Int → Exc → Prog ρ} {m : Prog Int} (h1 : EV N Γ ta m) (hi : Γ[i]? = some (.per x)) (hx : x.a = a ∧ cls = .ref (G.exc x.cls) ∧ x.d = d) : EV N Γ (tCallS (SpF G (raC (G := G) Int (raE G a cls d ra0)) (fun p => f p.1 ⟨p.2.1.cls, p.2.1.args⟩)) (fun _ => N.E) (tCons ta (tCons (tVar i) tNil))) (m >>= fun n => f n ⟨x.cls, x.args⟩) := by
  have h := ev_callZ (N := N) (f := fun p : Int × XP × Unit => f p.1 ⟨p.2.1.cls, p.2.1.args⟩) (eva_kx h1 hi hx)
  simp only [bind_bind, ok_bind] at h
  exact h
end
section
variable {N : NN} {Γ : Env G} {i : Nat} {x : XP} {f : Str}
theorem ev_xfE (hi : Γ[i]? = some (.per x)) (hX : ∀ y, f ∈ fieldsOf y → XfC G.K (G.exc y) ∧ PySem.W.findIn G.K (.ref (G.exc y)) f = some none) : EV N Γ (TyL.tXq G.K x.a (.ref (G.exc x.cls)) x.d f (tVar i)) (xfP ⟨0, none, x.cls, x.args⟩ f) := ev_xfQ hi hX
end
theorem kit_no {K : PySem.W.Frag} {Y X : Addr} (ne : Y ≠ X) (i : PySem.W.isClsIn K X = true) (t : PySem.W.typeIn K (.ref X) = some (.type "type")) (s : PySem.W.subIn K (.ref Y) (.ref X) = some false) : PySem.W.kitOne K (.ref Y) (.ref X) = some false := by
  unfold PySem.W.kitOne
  rw [if_neg (by simpa using ne)]
  unfold PySem.W.kitCls
  have i' : (PySem.W.clsIn K X).isSome = true := i
  show (if ((PySem.W.clsIn K X).isSome && PySem.W.typeIn K (.ref X) == some (.type "type")) = true then PySem.W.subIn K (.ref Y) (.ref X) else none) = some false
  rw [if_pos (by rw [i', t]; simp)]
  exact s
theorem kit_b {K : PySem.W.Frag} {Y X : Addr} {b : Bool} (i : PySem.W.isClsIn K X = true) (t : PySem.W.typeIn K (.ref X) = some (.type "type")) (s : PySem.W.subIn K (.ref Y) (.ref X) = some b) (r : PySem.W.subIn K (.ref X) (.ref X) = some true) : PySem.W.kitOne K (.ref Y) (.ref X) = some b := by
  cases b with
  | true => exact kit_mk i t s
  | false => exact kit_no (fun e => by rw [e, r] at s; cases s) i t s
theorem kit_ve {K : PySem.W.Frag} {Y : Addr} (s : PySem.W.subIn K (.ref Y) (.type "ValueError") = some true) : PySem.W.kitOne K (.ref Y) (.type "ValueError") = some true := by
  unfold PySem.W.kitOne
  rw [if_neg (by intro h; exact Bool.noConfusion h)]
  unfold PySem.W.kitCls
  show (if PySem.W.kitMeta "ValueError" = true then PySem.W.subIn K (.ref Y) (.type "ValueError") else none) = some true
  rw [if_pos (by decide +kernel)]
  exact s
theorem xf_all {P : String → Prop} {f : Str} (h1 : f ∈ (["word", "line"] : List Str) → P "InvalidText") (h2 : f ∈ (["index"] : List Str) → P "InvalidWord") (h3 : f ∈ (["index"] : List Str) → P "UnknownWord") : ∀ y, f ∈ fieldsOf y → P y := fun y hy => by
  unfold fieldsOf at hy
  split at hy
  · next e => subst e; exact h1 hy
  · split at hy
    · next e => subst e; exact h2 hy
    · split at hy
      · next e => subst e; exact h3 hy
      · cases hy
theorem rel_ref {a : Addr} : ∀ u, RelV (.ref a) u → u = .ref a := fun u h => h
theorem rel_ty {T : String} : ∀ u, RelV (.ty T) u → u = .type T := fun u h => h
end Ty

set_option maxHeartbeats 1000000
namespace K19
open PySem PySem.Spec PyProof.Rows L2 Ty
open Enc (enc)
def topS (i : Nat) : Stmt := PySem.Challenge.pw_endsread_k19_errors_apart.main.body.getD i (.Pass ⟨0, 0, 0, 0⟩)
abbrev s__law_bare : Stmt := topS 15
abbrev Ns__law_bare : List Str := ["_law_k"]
theorem sc__law_bare : FnScope Ns__law_bare ["_law_k"] (defScope s__law_bare) := ⟨rfl, rfl, rfl, by decide +kernel, rfl, by decide +kernel, by decide +kernel⟩
abbrev s__law_thrown : Stmt := topS 16
abbrev Ns__law_thrown : List Str := ["_law_k", "_law_one", "_law_two"]
theorem sc__law_thrown : FnScope Ns__law_thrown ["_law_k", "_law_one", "_law_two"] (defScope s__law_thrown) := ⟨rfl, rfl, rfl, by decide +kernel, rfl, by decide +kernel, by decide +kernel⟩
abbrev s__law_classes : Stmt := topS 17
abbrev Ns__law_classes : List Str := ["_law_e", "_law_found"]
theorem sc__law_classes : FnScope Ns__law_classes ["_law_e"] (defScope s__law_classes) := ⟨rfl, rfl, rfl, by decide +kernel, rfl, by decide +kernel, by decide +kernel⟩
abbrev s__law_parts : Stmt := topS 18
abbrev Ns__law_parts : List Str := ["_law_k", "_law_e"]
theorem sc__law_parts : FnScope Ns__law_parts ["_law_k", "_law_e"] (defScope s__law_parts) := ⟨rfl, rfl, rfl, by decide +kernel, rfl, by decide +kernel, by decide +kernel⟩
abbrev s__law_right : Stmt := topS 19
abbrev Ns__law_right : List Str := ["_law_k", "_law_one", "_law_two", "_law_good", "_law_due", "_law_e", "_law_other"]
theorem sc__law_right : FnScope Ns__law_right ["_law_k", "_law_one", "_law_two"] (defScope s__law_right) := ⟨rfl, rfl, rfl, by decide +kernel, rfl, by decide +kernel, by decide +kernel⟩
abbrev s_law : Stmt := topS 20
abbrev Ns_law : List Str := ["_law_script", "_law_h", "_law_one", "_law_two", "_law_k"]
theorem sc_law : FnScope Ns_law ["_law_script"] (defScope s_law) := ⟨rfl, rfl, rfl, by decide +kernel, rfl, by decide +kernel, by decide +kernel⟩
abbrev s_InvalidText___init__ : Stmt := inClass (topS 11) 0
abbrev Ns_InvalidText___init__ : List Str := ["self", "line", "word"]
theorem sc_InvalidText___init__ : FnScope Ns_InvalidText___init__ ["self", "line", "word"] (defScope s_InvalidText___init__) := ⟨rfl, rfl, rfl, by decide +kernel, rfl, by decide +kernel, by decide +kernel⟩
abbrev s_InvalidWord___init__ : Stmt := inClass (topS 3) 0
abbrev Ns_InvalidWord___init__ : List Str := ["self", "index"]
theorem sc_InvalidWord___init__ : FnScope Ns_InvalidWord___init__ ["self", "index"] (defScope s_InvalidWord___init__) := ⟨rfl, rfl, rfl, by decide +kernel, rfl, by decide +kernel, by decide +kernel⟩
abbrev s_UnknownWord___init__ : Stmt := inClass (topS 4) 0
abbrev Ns_UnknownWord___init__ : List Str := ["self", "index"]
theorem sc_UnknownWord___init__ : FnScope Ns_UnknownWord___init__ ["self", "index"] (defScope s_UnknownWord___init__) := ⟨rfl, rfl, rfl, by decide +kernel, rfl, by decide +kernel, by decide +kernel⟩
abbrev s__law_mix : Stmt := topS 13
abbrev s__law_next : Stmt := topS 14
abbrev Ns__law_mix : List Str := ["_law_script", "_law_seed", "_law_state", "_law_cell"]
theorem sc__law_mix : FnScope Ns__law_mix ["_law_script", "_law_seed"] (defScope s__law_mix) := ⟨rfl, rfl, rfl, by decide +kernel, rfl, by decide +kernel, by decide +kernel⟩
abbrev Ns__law_next : List Str := ["_law_h", "_law_bound", "_law_cell"]
theorem sc__law_next : FnScope Ns__law_next ["_law_h", "_law_bound"] (defScope s__law_next) := ⟨rfl, rfl, rfl, by decide +kernel, rfl, by decide +kernel, by decide +kernel⟩
theorem st_0 : ("a" : Str).cps.toList = ([97] : Tx) := by decide +kernel
theorem st_1 : ("" : Str).cps.toList = ([] : Tx) := by decide +kernel
theorem st_2 : ("ab" : Str).cps.toList = ([97, 98] : Tx) := by decide +kernel
theorem st_3 : ("kind" : Str).cps.toList = ([107, 105, 110, 100] : Tx) := by decide +kernel
theorem bb_all : bootBuiltins "all" = some (.builtin "all") := by decide +kernel
theorem bb_isinstance : bootBuiltins "isinstance" = some (.builtin "isinstance") := by decide +kernel
theorem bt_ValueError : bootBuiltins "ValueError" = some (.type "ValueError") := by decide +kernel
theorem bt_int : bootBuiltins "int" = some (.type "int") := by decide +kernel
theorem bt_list : bootBuiltins "list" = some (.type "list") := by decide +kernel
theorem bb_max : bootBuiltins "max" = some (.builtin "max") := by decide +kernel
structure Txt (G : Glob) (mg : Str → Option Value) where
  g_RowError : mg "RowError" = some (.ref (G.exc "RowError"))
  xr : ∀ y ∈ (["InvalidLimit", "InvalidRow", "InvalidSigns", "InvalidString", "InvalidText", "InvalidWay", "InvalidWish", "InvalidWord", "NotComparable", "UnknownWord"] : List String), PySem.W.exmOne G.K (.ref (G.exc y)) (.ref (G.exc "RowError")) = some true
  kve : ∀ y ∈ (["InvalidLimit", "InvalidRow", "InvalidSigns", "InvalidString", "InvalidText", "InvalidWay", "InvalidWish", "InvalidWord", "NotComparable", "UnknownWord"] : List String), L2.ExcC G.K (G.exc y) ∧ PySem.W.kitOne G.K (.ref (G.exc y)) (.type "ValueError") = some true
  kx_InvalidLimit : ∀ y ∈ (["InvalidLimit", "InvalidRow", "InvalidSigns", "InvalidString", "InvalidText", "InvalidWay", "InvalidWish", "InvalidWord", "NotComparable", "UnknownWord"] : List String), L2.ExcC G.K (G.exc y) ∧ PySem.W.kitOne G.K (.ref (G.exc y)) (.ref (G.exc "InvalidLimit")) = some (decide (y = "InvalidLimit"))
  kx_InvalidRow : ∀ y ∈ (["InvalidLimit", "InvalidRow", "InvalidSigns", "InvalidString", "InvalidText", "InvalidWay", "InvalidWish", "InvalidWord", "NotComparable", "UnknownWord"] : List String), L2.ExcC G.K (G.exc y) ∧ PySem.W.kitOne G.K (.ref (G.exc y)) (.ref (G.exc "InvalidRow")) = some (decide (y = "InvalidRow"))
  kx_InvalidSigns : ∀ y ∈ (["InvalidLimit", "InvalidRow", "InvalidSigns", "InvalidString", "InvalidText", "InvalidWay", "InvalidWish", "InvalidWord", "NotComparable", "UnknownWord"] : List String), L2.ExcC G.K (G.exc y) ∧ PySem.W.kitOne G.K (.ref (G.exc y)) (.ref (G.exc "InvalidSigns")) = some (decide (y = "InvalidSigns"))
  kx_InvalidString : ∀ y ∈ (["InvalidLimit", "InvalidRow", "InvalidSigns", "InvalidString", "InvalidText", "InvalidWay", "InvalidWish", "InvalidWord", "NotComparable", "UnknownWord"] : List String), L2.ExcC G.K (G.exc y) ∧ PySem.W.kitOne G.K (.ref (G.exc y)) (.ref (G.exc "InvalidString")) = some (decide (y = "InvalidString"))
  kx_InvalidText : ∀ y ∈ (["InvalidLimit", "InvalidRow", "InvalidSigns", "InvalidString", "InvalidText", "InvalidWay", "InvalidWish", "InvalidWord", "NotComparable", "UnknownWord"] : List String), L2.ExcC G.K (G.exc y) ∧ PySem.W.kitOne G.K (.ref (G.exc y)) (.ref (G.exc "InvalidText")) = some (decide (y = "InvalidText"))
  kx_InvalidWay : ∀ y ∈ (["InvalidLimit", "InvalidRow", "InvalidSigns", "InvalidString", "InvalidText", "InvalidWay", "InvalidWish", "InvalidWord", "NotComparable", "UnknownWord"] : List String), L2.ExcC G.K (G.exc y) ∧ PySem.W.kitOne G.K (.ref (G.exc y)) (.ref (G.exc "InvalidWay")) = some (decide (y = "InvalidWay"))
  kx_InvalidWish : ∀ y ∈ (["InvalidLimit", "InvalidRow", "InvalidSigns", "InvalidString", "InvalidText", "InvalidWay", "InvalidWish", "InvalidWord", "NotComparable", "UnknownWord"] : List String), L2.ExcC G.K (G.exc y) ∧ PySem.W.kitOne G.K (.ref (G.exc y)) (.ref (G.exc "InvalidWish")) = some (decide (y = "InvalidWish"))
  kx_InvalidWord : ∀ y ∈ (["InvalidLimit", "InvalidRow", "InvalidSigns", "InvalidString", "InvalidText", "InvalidWay", "InvalidWish", "InvalidWord", "NotComparable", "UnknownWord"] : List String), L2.ExcC G.K (G.exc y) ∧ PySem.W.kitOne G.K (.ref (G.exc y)) (.ref (G.exc "InvalidWord")) = some (decide (y = "InvalidWord"))
  kx_NotComparable : ∀ y ∈ (["InvalidLimit", "InvalidRow", "InvalidSigns", "InvalidString", "InvalidText", "InvalidWay", "InvalidWish", "InvalidWord", "NotComparable", "UnknownWord"] : List String), L2.ExcC G.K (G.exc y) ∧ PySem.W.kitOne G.K (.ref (G.exc y)) (.ref (G.exc "NotComparable")) = some (decide (y = "NotComparable"))
  kx_UnknownWord : ∀ y ∈ (["InvalidLimit", "InvalidRow", "InvalidSigns", "InvalidString", "InvalidText", "InvalidWay", "InvalidWish", "InvalidWord", "NotComparable", "UnknownWord"] : List String), L2.ExcC G.K (G.exc y) ∧ PySem.W.kitOne G.K (.ref (G.exc y)) (.ref (G.exc "UnknownWord")) = some (decide (y = "UnknownWord"))
  xf_index : ∀ y : String, ("index" : Str) ∈ Ty.fieldsOf y → XfC G.K (G.exc y) ∧ PySem.W.findIn G.K (.ref (G.exc y)) "index" = some none
  xf_line : ∀ y : String, ("line" : Str) ∈ Ty.fieldsOf y → XfC G.K (G.exc y) ∧ PySem.W.findIn G.K (.ref (G.exc y)) "line" = some none
  xf_word : ∀ y : String, ("word" : Str) ∈ Ty.fieldsOf y → XfC G.K (G.exc y) ∧ PySem.W.findIn G.K (.ref (G.exc y)) "word" = some none
  x_InvalidLimit : Xc G mg "InvalidLimit" "InvalidLimit"
  x_InvalidRow : Xc G mg "InvalidRow" "InvalidRow"
  x_InvalidSigns : Xc G mg "InvalidSigns" "InvalidSigns"
  x_InvalidString : Xc G mg "InvalidString" "InvalidString"
  x_InvalidText : Xi2 G mg "InvalidText" "InvalidText" "line" "word" "InvalidText.__init__" s_InvalidText___init__ ["self", "line", "word"]
  x_InvalidWay : Xc G mg "InvalidWay" "InvalidWay"
  x_InvalidWish : Xc G mg "InvalidWish" "InvalidWish"
  x_InvalidWord : Xi1 G mg "InvalidWord" "InvalidWord" "index" "InvalidWord.__init__" s_InvalidWord___init__ ["self", "index"]
  x_NotComparable : Xc G mg "NotComparable" "NotComparable"
  x_UnknownWord : Xi1 G mg "UnknownWord" "UnknownWord" "index" "UnknownWord.__init__" s_UnknownWord___init__ ["self", "index"]
  xq_InvalidLimit : ExcC G.K (G.exc "InvalidLimit")
  xq_InvalidRow : ExcC G.K (G.exc "InvalidRow")
  xq_InvalidSigns : ExcC G.K (G.exc "InvalidSigns")
  xq_InvalidString : ExcC G.K (G.exc "InvalidString")
  xq_InvalidText : ExcC G.K (G.exc "InvalidText")
  xq_InvalidWay : ExcC G.K (G.exc "InvalidWay")
  xq_InvalidWish : ExcC G.K (G.exc "InvalidWish")
  xq_InvalidWord : ExcC G.K (G.exc "InvalidWord")
  xq_NotComparable : ExcC G.K (G.exc "NotComparable")
  xq_UnknownWord : ExcC G.K (G.exc "UnknownWord")
  _law_mix : Df G.K mg "_law_mix" "_law_mix" s__law_mix ["_law_script", "_law_seed"]
  _law_next : Df G.K mg "_law_next" "_law_next" s__law_next ["_law_h", "_law_bound"]
  _law_bare : Df G.K mg "_law_bare" "_law_bare" s__law_bare ["_law_k"]
  _law_thrown : Df G.K mg "_law_thrown" "_law_thrown" s__law_thrown ["_law_k", "_law_one", "_law_two"]
  _law_classes : Df G.K mg "_law_classes" "_law_classes" s__law_classes ["_law_e"]
  _law_parts : Df G.K mg "_law_parts" "_law_parts" s__law_parts ["_law_k", "_law_e"]
  _law_right : Df G.K mg "_law_right" "_law_right" s__law_right ["_law_k", "_law_one", "_law_two"]
  law : Df G.K mg "law" "law" s_law ["_law_script"]
  z_ValueError : mg "ValueError" = none
  z_all : mg "all" = none
  z_int : mg "int" = none
  z_isinstance : mg "isinstance" = none
  z_len : mg "len" = none
  z_list : mg "list" = none
  z_max : mg "max" = none
  z_range : mg "range" = none
def m__law_next (n : Int) : Prog Int := .draw n .ok
def m__law_bare (x_law_k : Int) : Prog Unit :=
  (((Prog.ok x_law_k : Prog Int) >>= fun (a1 : Int) => (Prog.ok (0 : Int)) >>= fun (a2 : Int) => Prog.ok (decide (a1 = a2))) >>= fun (c3 : Bool) => if c3 then raiseP (Prog.ok (⟨"InvalidSigns", []⟩ : Exc)) else (((Prog.ok x_law_k : Prog Int) >>= fun (a4 : Int) => (Prog.ok (1 : Int)) >>= fun (a5 : Int) => Prog.ok (decide (a4 = a5))) >>= fun (c6 : Bool) => if c6 then raiseP (Prog.ok (⟨"InvalidRow", []⟩ : Exc)) else (((Prog.ok x_law_k : Prog Int) >>= fun (a7 : Int) => (Prog.ok (2 : Int)) >>= fun (a8 : Int) => Prog.ok (decide (a7 = a8))) >>= fun (c9 : Bool) => if c9 then raiseP (Prog.ok (⟨"InvalidString", []⟩ : Exc)) else (((Prog.ok x_law_k : Prog Int) >>= fun (a10 : Int) => (Prog.ok (3 : Int)) >>= fun (a11 : Int) => Prog.ok (decide (a10 = a11))) >>= fun (c12 : Bool) => if c12 then raiseP (Prog.ok (⟨"InvalidWay", []⟩ : Exc)) else (((Prog.ok x_law_k : Prog Int) >>= fun (a13 : Int) => (Prog.ok (4 : Int)) >>= fun (a14 : Int) => Prog.ok (decide (a13 = a14))) >>= fun (c15 : Bool) => if c15 then raiseP (Prog.ok (⟨"InvalidLimit", []⟩ : Exc)) else (((Prog.ok x_law_k : Prog Int) >>= fun (a16 : Int) => (Prog.ok (5 : Int)) >>= fun (a17 : Int) => Prog.ok (decide (a16 = a17))) >>= fun (c18 : Bool) => if c18 then raiseP (Prog.ok (⟨"InvalidWish", []⟩ : Exc)) else (raiseP (Prog.ok (⟨"NotComparable", []⟩ : Exc)))))))))
def m__law_thrown (x_law_k : Int) (x_law_one : PyData) (x_law_two : PyData) : Prog Unit :=
  (((Prog.ok x_law_k : Prog Int) >>= fun (a1 : Int) => (Prog.ok (7 : Int)) >>= fun (a2 : Int) => Prog.ok (decide (a1 < a2))) >>= fun (c3 : Bool) => (if c3 then (((Prog.ok x_law_k : Prog Int) >>= fun (a5 : Int) => m__law_bare a5) >>= fun (_ : Unit) => (Prog.ok () : Prog Unit)) else (Prog.ok () : Prog Unit)) >>= fun (b4 : Unit) => (((Prog.ok x_law_k : Prog Int) >>= fun (a6 : Int) => (Prog.ok (7 : Int)) >>= fun (a7 : Int) => Prog.ok (decide (a6 = a7))) >>= fun (c8 : Bool) => if c8 then raiseP ((Prog.ok x_law_one : Prog PyData) >>= fun (a9 : PyData) => Prog.ok (⟨"InvalidWord", [enc a9]⟩ : Exc)) else (((Prog.ok x_law_k : Prog Int) >>= fun (a10 : Int) => (Prog.ok (8 : Int)) >>= fun (a11 : Int) => Prog.ok (decide (a10 = a11))) >>= fun (c12 : Bool) => if c12 then raiseP ((Prog.ok x_law_one : Prog PyData) >>= fun (a13 : PyData) => Prog.ok (⟨"UnknownWord", [enc a13]⟩ : Exc)) else (raiseP ((Prog.ok x_law_one : Prog PyData) >>= fun (a14 : PyData) => (Prog.ok x_law_two : Prog PyData) >>= fun (a15 : PyData) => Prog.ok (⟨"InvalidText", [enc a15, enc a14]⟩ : Exc))))))
def m__law_classes (x_e : Exc) : Prog (L Bool) :=
  ((((if x_e.cls ∈ (["InvalidLimit", "InvalidRow", "InvalidSigns", "InvalidString", "InvalidText", "InvalidWay", "InvalidWish", "InvalidWord", "NotComparable", "UnknownWord"] : List String) then Prog.ok ((fun y => decide (y = "InvalidSigns")) x_e.cls) else Prog.stuck) >>= fun (a5 : Bool) => ((if x_e.cls ∈ (["InvalidLimit", "InvalidRow", "InvalidSigns", "InvalidString", "InvalidText", "InvalidWay", "InvalidWish", "InvalidWord", "NotComparable", "UnknownWord"] : List String) then Prog.ok ((fun y => decide (y = "InvalidRow")) x_e.cls) else Prog.stuck) >>= fun (a3 : Bool) => ((if x_e.cls ∈ (["InvalidLimit", "InvalidRow", "InvalidSigns", "InvalidString", "InvalidText", "InvalidWay", "InvalidWish", "InvalidWord", "NotComparable", "UnknownWord"] : List String) then Prog.ok ((fun y => decide (y = "InvalidString")) x_e.cls) else Prog.stuck) >>= fun (a1 : Bool) => (Prog.ok ([] : List Bool)) >>= fun (a2 : List Bool) => Prog.ok (a1 :: a2)) >>= fun (a4 : List Bool) => Prog.ok (a3 :: a4)) >>= fun (a6 : List Bool) => Prog.ok (a5 :: a6)) >>= fun (a7 : List Bool) => if a7.length ≤ 100000 then (Prog.ok a7 : Prog (L Bool)) else Prog.stuck) >>= fun (v8 : (L Bool)) => (((Prog.ok v8 : Prog (L Bool)) >>= fun (a23 : L Bool) => (((if x_e.cls ∈ (["InvalidLimit", "InvalidRow", "InvalidSigns", "InvalidString", "InvalidText", "InvalidWay", "InvalidWish", "InvalidWord", "NotComparable", "UnknownWord"] : List String) then Prog.ok ((fun y => decide (y = "InvalidWay")) x_e.cls) else Prog.stuck) >>= fun (a20 : Bool) => ((if x_e.cls ∈ (["InvalidLimit", "InvalidRow", "InvalidSigns", "InvalidString", "InvalidText", "InvalidWay", "InvalidWish", "InvalidWord", "NotComparable", "UnknownWord"] : List String) then Prog.ok ((fun y => decide (y = "InvalidLimit")) x_e.cls) else Prog.stuck) >>= fun (a18 : Bool) => ((if x_e.cls ∈ (["InvalidLimit", "InvalidRow", "InvalidSigns", "InvalidString", "InvalidText", "InvalidWay", "InvalidWish", "InvalidWord", "NotComparable", "UnknownWord"] : List String) then Prog.ok ((fun y => decide (y = "InvalidWish")) x_e.cls) else Prog.stuck) >>= fun (a16 : Bool) => (Prog.ok ([] : List Bool)) >>= fun (a17 : List Bool) => Prog.ok (a16 :: a17)) >>= fun (a19 : List Bool) => Prog.ok (a18 :: a19)) >>= fun (a21 : List Bool) => Prog.ok (a20 :: a21)) >>= fun (a22 : List Bool) => if a22.length ≤ 100000 then (Prog.ok a22 : Prog (L Bool)) else Prog.stuck) >>= fun (a24 : L Bool) => chk (small ((un a23).length + (un a24).length)) (Prog.ok (un a23 ++ un a24) : Prog (L Bool))) >>= fun (v25 : (L Bool)) => (((Prog.ok v25 : Prog (L Bool)) >>= fun (a40 : L Bool) => (((if x_e.cls ∈ (["InvalidLimit", "InvalidRow", "InvalidSigns", "InvalidString", "InvalidText", "InvalidWay", "InvalidWish", "InvalidWord", "NotComparable", "UnknownWord"] : List String) then Prog.ok ((fun y => decide (y = "NotComparable")) x_e.cls) else Prog.stuck) >>= fun (a37 : Bool) => ((if x_e.cls ∈ (["InvalidLimit", "InvalidRow", "InvalidSigns", "InvalidString", "InvalidText", "InvalidWay", "InvalidWish", "InvalidWord", "NotComparable", "UnknownWord"] : List String) then Prog.ok ((fun y => decide (y = "InvalidWord")) x_e.cls) else Prog.stuck) >>= fun (a35 : Bool) => ((if x_e.cls ∈ (["InvalidLimit", "InvalidRow", "InvalidSigns", "InvalidString", "InvalidText", "InvalidWay", "InvalidWish", "InvalidWord", "NotComparable", "UnknownWord"] : List String) then Prog.ok ((fun y => decide (y = "UnknownWord")) x_e.cls) else Prog.stuck) >>= fun (a33 : Bool) => (Prog.ok ([] : List Bool)) >>= fun (a34 : List Bool) => Prog.ok (a33 :: a34)) >>= fun (a36 : List Bool) => Prog.ok (a35 :: a36)) >>= fun (a38 : List Bool) => Prog.ok (a37 :: a38)) >>= fun (a39 : List Bool) => if a39.length ≤ 100000 then (Prog.ok a39 : Prog (L Bool)) else Prog.stuck) >>= fun (a41 : L Bool) => chk (small ((un a40).length + (un a41).length)) (Prog.ok (un a40 ++ un a41) : Prog (L Bool))) >>= fun (v42 : (L Bool)) => ((Prog.ok v42 : Prog (L Bool)) >>= fun (a49 : L Bool) => (((if x_e.cls ∈ (["InvalidLimit", "InvalidRow", "InvalidSigns", "InvalidString", "InvalidText", "InvalidWay", "InvalidWish", "InvalidWord", "NotComparable", "UnknownWord"] : List String) then Prog.ok ((fun y => decide (y = "InvalidText")) x_e.cls) else Prog.stuck) >>= fun (a46 : Bool) => (Prog.ok ([] : List Bool)) >>= fun (a47 : List Bool) => Prog.ok (a46 :: a47)) >>= fun (a48 : List Bool) => if a48.length ≤ 100000 then (Prog.ok a48 : Prog (L Bool)) else Prog.stuck) >>= fun (a50 : L Bool) => chk (small ((un a49).length + (un a50).length)) (Prog.ok (un a49 ++ un a50) : Prog (L Bool))))))
def m__law_parts (x_k : Int) (x_e : Exc) : Prog (L PyData) :=
  (((Prog.ok x_k : Prog Int) >>= fun (a1 : Int) => (Prog.ok (7 : Int)) >>= fun (a2 : Int) => Prog.ok (decide (a1 < a2))) >>= fun (c3 : Bool) => if c3 then ((Prog.ok ([] : List PyData)) >>= fun (a4 : List PyData) => if a4.length ≤ 100000 then (Prog.ok a4 : Prog (L PyData)) else Prog.stuck) else (((Prog.ok x_k : Prog Int) >>= fun (a5 : Int) => (Prog.ok (9 : Int)) >>= fun (a6 : Int) => Prog.ok (decide (a5 < a6))) >>= fun (b15 : Bool) => if b15 then (((xfP (XP.mk 0 none x_e.cls x_e.args) "index") >>= fun (a7 : PyData) => (Prog.ok ([] : List PyData)) >>= fun (a8 : List PyData) => Prog.ok (a7 :: a8)) >>= fun (a9 : List PyData) => if a9.length ≤ 100000 then (Prog.ok a9 : Prog (L PyData)) else Prog.stuck) else (((xfP (XP.mk 0 none x_e.cls x_e.args) "line") >>= fun (a12 : PyData) => ((xfP (XP.mk 0 none x_e.cls x_e.args) "word") >>= fun (a10 : PyData) => (Prog.ok ([] : List PyData)) >>= fun (a11 : List PyData) => Prog.ok (a10 :: a11)) >>= fun (a13 : List PyData) => Prog.ok (a12 :: a13)) >>= fun (a14 : List PyData) => if a14.length ≤ 100000 then (Prog.ok a14 : Prog (L PyData)) else Prog.stuck)))
def m__law_right (x_law_k : Int) (x_law_one : PyData) (x_law_two : PyData) : Prog Bool :=
  ((Prog.ok false) >>= fun (v1 : Bool) => ((((((Prog.ok x_law_one : Prog PyData) >>= fun (a22 : PyData) => (Prog.ok ([] : List PyData)) >>= fun (a23 : List PyData) => Prog.ok (a22 :: a23)) >>= fun (a24 : List PyData) => if a24.length ≤ 100000 then (Prog.ok a24 : Prog (L PyData)) else Prog.stuck) >>= fun (a25 : (L PyData)) => (Prog.ok (none : Option Int)) >>= fun (p30 : Option Int) => ((((Prog.ok x_law_k : Prog Int) >>= fun (a26 : Int) => (Prog.ok (6 : Int)) >>= fun (a27 : Int) => Prog.ok (decide (a27 < a26))) >>= fun (b28 : Bool) => Prog.ok (if b28 then (1 : Int) else 0)) >>= fun (a29 : Int) => Prog.ok (some a29)) >>= fun (p31 : Option Int) => (Prog.ok (cut (un a25) p30 p31) : Prog (L PyData))) >>= fun (a42 : L PyData) => ((((Prog.ok x_law_two : Prog PyData) >>= fun (a32 : PyData) => (Prog.ok ([] : List PyData)) >>= fun (a33 : List PyData) => Prog.ok (a32 :: a33)) >>= fun (a34 : List PyData) => if a34.length ≤ 100000 then (Prog.ok a34 : Prog (L PyData)) else Prog.stuck) >>= fun (a35 : (L PyData)) => (Prog.ok (none : Option Int)) >>= fun (p40 : Option Int) => ((((Prog.ok x_law_k : Prog Int) >>= fun (a36 : Int) => (Prog.ok (8 : Int)) >>= fun (a37 : Int) => Prog.ok (decide (a37 < a36))) >>= fun (b38 : Bool) => Prog.ok (if b38 then (1 : Int) else 0)) >>= fun (a39 : Int) => Prog.ok (some a39)) >>= fun (p41 : Option Int) => (Prog.ok (cut (un a35) p40 p41) : Prog (L PyData))) >>= fun (a43 : L PyData) => chk (small ((un a42).length + (un a43).length)) (Prog.ok (un a42 ++ un a43) : Prog (L PyData))) >>= fun (v44 : (L PyData)) => (catchP (fun (e49 : Exc) => if e49.cls ∈ (["InvalidLimit", "InvalidRow", "InvalidSigns", "InvalidString", "InvalidText", "InvalidWay", "InvalidWish", "InvalidWord", "NotComparable", "UnknownWord"] : List String) then some ((fun (e49 : Exc) => (((if e49.cls ∈ (["InvalidLimit", "InvalidRow", "InvalidSigns", "InvalidString", "InvalidText", "InvalidWay", "InvalidWish", "InvalidWord", "NotComparable", "UnknownWord"] : List String) then Prog.ok ((fun _ => true) e49.cls) else Prog.stuck) >>= fun (b58 : Bool) => if b58 then ((m__law_classes e49) >>= fun (a56 : (L Bool)) => (((Prog.ok (10 : Int)) >>= fun (n51 : Int) => chk (inRange n51) (Prog.ok (rng 0 n51))) >>= fun (xs55 : List Int) => chk (small xs55.length) (mapP (fun (a52 : Int) => ((Prog.ok a52 : Prog Int) >>= fun (a53 : Int) => (Prog.ok x_law_k : Prog Int) >>= fun (a54 : Int) => Prog.ok (decide (a53 = a54)))) xs55 : Prog (L Bool))) >>= fun (a57 : (L Bool)) => eqP a56 a57) else Prog.ok false) >>= fun (v59 : Bool) => (((Prog.ok v59 : Prog Bool) >>= fun (b63 : Bool) => if b63 then (((Prog.ok x_law_k : Prog Int) >>= fun (a60 : Int) => m__law_parts a60 e49) >>= fun (a61 : (L PyData)) => (Prog.ok v44 : Prog (L PyData)) >>= fun (a62 : (L PyData)) => eqP a61 a62) else Prog.ok false) >>= fun (v64 : Bool) => (Prog.ok v64 : Prog (Bool))))) e49) else some Prog.stuck) (((Prog.ok x_law_k : Prog Int) >>= fun (a46 : Int) => (Prog.ok x_law_one : Prog PyData) >>= fun (a47 : PyData) => (Prog.ok x_law_two : Prog PyData) >>= fun (a48 : PyData) => m__law_thrown a46 a47 a48) >>= fun _ => (Prog.ok v1 : Prog (Bool))) >>= fun (b45 : (Bool)) => (Prog.ok b45 : Prog Bool))))
def m_law  : Prog Bool :=
  ((((((Prog.ok ([97] : Tx)) >>= fun a => Prog.ok (enc a)) >>= fun (a13 : PyData) => (((Prog.ok ([] : Tx)) >>= fun a => Prog.ok (enc a)) >>= fun (a11 : PyData) => (((Prog.ok (7 : Int)) >>= fun a => Prog.ok (enc a)) >>= fun (a9 : PyData) => ((((Prog.ok ([97, 98] : Tx)) >>= fun (a5 : Tx) => (Prog.ok (0 : Int)) >>= fun (a6 : Int) => Prog.ok (a5, a6)) >>= fun a => Prog.ok (enc a)) >>= fun (a7 : PyData) => ((Prog.ok PyData.none) >>= fun (a3 : PyData) => (Prog.ok ([] : List PyData)) >>= fun (a4 : List PyData) => Prog.ok (a3 :: a4)) >>= fun (a8 : List PyData) => Prog.ok (a7 :: a8)) >>= fun (a10 : List PyData) => Prog.ok (a9 :: a10)) >>= fun (a12 : List PyData) => Prog.ok (a11 :: a12)) >>= fun (a14 : List PyData) => Prog.ok (a13 :: a14)) >>= fun (a15 : List PyData) => if a15.length ≤ 100000 then (Prog.ok a15 : Prog (L PyData)) else Prog.stuck) >>= fun (a18 : (L PyData)) => ((Prog.ok (5 : Int)) >>= fun (a17 : Int) => m__law_next a17) >>= fun (a19 : Int) => getI (un a18) a19) >>= fun (v20 : PyData) => (((((((Prog.ok ([] : List PyData)) >>= fun (a27 : List PyData) => if a27.length ≤ 100000 then Prog.ok a27 else Prog.stuck) >>= fun a => Prog.ok (enc a)) >>= fun (a28 : PyData) => (((Prog.ok ([107, 105, 110, 100] : Tx)) >>= fun a => Prog.ok (enc a)) >>= fun (a25 : PyData) => (((Prog.ok (0 : Int)) >>= fun a => Prog.ok (enc a)) >>= fun (a23 : PyData) => ((Prog.ok PyData.none) >>= fun (a21 : PyData) => (Prog.ok ([] : List PyData)) >>= fun (a22 : List PyData) => Prog.ok (a21 :: a22)) >>= fun (a24 : List PyData) => Prog.ok (a23 :: a24)) >>= fun (a26 : List PyData) => Prog.ok (a25 :: a26)) >>= fun (a29 : List PyData) => Prog.ok (a28 :: a29)) >>= fun (a30 : List PyData) => if a30.length ≤ 100000 then (Prog.ok a30 : Prog (L PyData)) else Prog.stuck) >>= fun (a33 : (L PyData)) => ((Prog.ok (4 : Int)) >>= fun (a32 : Int) => m__law_next a32) >>= fun (a34 : Int) => getI (un a33) a34) >>= fun (v35 : PyData) => ((((Prog.ok (10 : Int)) >>= fun (n36 : Int) => chk (inRange n36) (Prog.ok (rng 0 n36))) >>= fun (xs41 : List Int) => chk (small xs41.length) (noerr (mapP (fun (a37 : Int) => ((Prog.ok a37 : Prog Int) >>= fun (a38 : Int) => (Prog.ok v20 : Prog PyData) >>= fun (a39 : PyData) => (Prog.ok v35 : Prog PyData) >>= fun (a40 : PyData) => m__law_right a38 a39 a40)) xs41) : Prog (L Bool))) >>= fun (a42 : L Bool) => Prog.ok ((un a42).all id))))
section
variable {G : Glob} {mg : Str → Option Value} {base : Heap}
theorem ok__law_next (T : Txt G mg) : FnOk G.P G.w G.K mg base (L2.CX G.P G.w) 1 T._law_next.f T._law_next.fd ["_law_h", "_law_bound"] (SpS1 G Int m__law_next) :=
  fn_okS T._law_next.Fu sc__law_next (fun x => [.src, .per x.1, .dead]) (fun a vs F ⟨v0, _, e0, r0, ee⟩ => by rw [e0, ee]; rfl) (fun a vs F H N p c hS ⟨v0, _, e0, r0, ee⟩ => by rw [e0, ee]; exact ⟨⟨p, c, rfl, hS⟩, ⟨v0, rfl, r0⟩, trivial, trivial⟩) (fun x => (own_c rfl (own_c rfl (own_c rfl own_n)))) fun cdv A outer s H F p c E hr =>
  ⟨_, pss_cons (ps_set (i := 2) sc__law_next.nd rfl (Or.inl rfl) (pe_ix ix_list (pe_op op_cat (pe_ix ix_list (pv 0) pe_int (fun _ _ => rfl)) (pe_lst (pa_cons pe_int pa_nil)))
      (pe_op op_mod (pe_callTy call_int1 (by rfl) T.z_int bt_int (pa_cons (pe_ix ix_list (pv 0) pe_int (fun _ _ => rfl)) pa_nil)) (pe_callB (call_max2 rfl) (by rfl) T.z_max bb_max (pa_cons pe_int (pa_cons (pe_callB call_len_seq (by rfl) T.z_len PySem.boot_len (pa_cons (pe_ix ix_list (pv 0) pe_int (fun _ _ => rfl)) pa_nil)) pa_nil)))) (fun _ _ => rfl)))
    (pss_cons (ps_if (pt_cmpR op_ge (pv 2) (pe_op op_pow pe_int pe_int) (nomark _))
      (pss_cons (ps_asg (pe_op op_fdiv (pv 2) (pv 1)) (pg_sub (pe_ix ix_list (pv 0) pe_int (fun _ _ => rfl)) (pe_op op_mod (pe_callTy call_int1 (by rfl) T.z_int bt_int (pa_cons (pe_ix ix_list (pv 0) pe_int (fun _ _ => rfl)) pa_nil)) (pe_callB call_len_seq (by rfl) T.z_len PySem.boot_len (pa_cons (pe_ix ix_list (pv 0) pe_int (fun _ _ => rfl)) pa_nil))) set_list))
        (pss_one (ps_ret (pe_op op_mod (pe_callTy call_int1 (by rfl) T.z_int bt_int (pa_cons (pv 2) pa_nil)) (pv 1))))) pss_nil)
    (pss_cons (ps_asg (pe_op op_mod (pe_callTy call_int1 (by rfl) T.z_int bt_int (pa_cons (pe_op op_add (pe_op op_add (pe_op op_mul (pe_ix ix_list (pv 0) pe_int (fun _ _ => rfl)) pe_int) (pe_op op_mul (pv 2) pe_int)) pe_int) pa_nil)) pe_int) (pg_sub (pv 0) pe_int set_list))
    (pss_cons (ps_asg (pe_op op_add (pe_ix ix_list (pv 0) pe_int (fun _ _ => rfl)) pe_int) (pg_sub (pv 0) pe_int set_list))
    (pss_one (ps_ret (pe_op op_mod (pe_callTy call_int1 (by rfl) T.z_int bt_int (pa_cons (pe_op op_fdiv (pe_ix ix_list (pv 0) pe_int (fun _ _ => rfl)) pe_int) pa_nil)) (pv 1))))))), fun x => by
    intro σ F1 H1 D hs q
    obtain ⟨hb, hb2, q⟩ := q
    obtain ⟨o0, o1, o2, rfl⟩ : ∃ o0 o1 o2, σ = [o0, o1, o2] := by
      have hlen := hs.sl.len
      match σ, hlen with
      | [a, b, c], _ => exact ⟨a, b, c, rfl⟩
    obtain ⟨⟨p', c', rfl, hS⟩, ⟨v, rfl, r1⟩, _⟩ := hs.sl
    cases hS
    have ev : v = .int x.1 := Scl.dp (α := Int) r1
    subst ev
    have s := hs.w.sr p c rfl
    obtain ⟨st, ix, cs, hp, hc, hl⟩ := s.at_
    have hne := s.ne
    have fin : ∀ (r : Int) (H' : Hp), 0 ≤ r → r < x.1 → W (NN.src F H p c E) F1 H' → D.rt (.int r) H' := fun r H' a b w => q r a b (.int r) F1 H' w (.int r)
    -- the cell
    refine ⟨.ref p, rfl, p, _, 1, .ref c, rfl, rfl, .inl (.inl hp), rfl, ?_⟩
    refine ⟨by show 1 ≤ sizeLine; decide, fun l hl0 => ?_⟩
    have hs1 := (hs_newlist (vs := [.int 0]) hs hl0).1
    have lp : p ≠ l := ne_of_none hp hl0
    have lc : c ≠ l := ne_of_none hc hl0
    refine ⟨c, l, _, [.int 0], rfl, rfl, by rw [upd_ne lc]; exact hc, upd_same, by rw [List.length_map]; show cs.length + 1 ≤ sizeLine; rw [sizeLine_eq]; omega, fun l2 hl2 => ?_⟩
    have hs2 := (hs_newlist (vs := cs.map V.int ++ [.int 0]) hs1 hl2).1
    have hp1 : upd H1 l (.lst [.int 0]) p = some (.lst [.int st, .ref c, .int ix, .int 14]) := by rw [upd_ne lp]; exact hp
    have hc1 : upd H1 l (.lst [.int 0]) c = some (.lst (cs.map V.int)) := by rw [upd_ne lc]; exact hc
    have l2p : p ≠ l2 := ne_of_none hp1 hl2
    have l2c : c ≠ l2 := ne_of_none hc1 hl2
    generalize hH2 : upd (upd H1 l (.lst [.int 0])) l2 (.lst (cs.map V.int ++ [.int 0])) = H2 at hs2 ⊢
    have hp2 : H2 p = some (.lst [.int st, .ref c, .int ix, .int 14]) := by rw [← hH2, upd_ne l2p]; exact hp1
    have hc2 : H2 c = some (.lst (cs.map V.int)) := by rw [← hH2, upd_ne l2c]; exact hc1
    have h22 : H2 l2 = some (.lst (cs.map V.int ++ [.int 0])) := by rw [← hH2, upd_same]
    obtain ⟨cell, hcell⟩ := mod_lt_len (ix := ix) (cs := cs)
    refine ⟨.ref p, rfl, p, _, 2, .int ix, rfl, rfl, .inl (.inl hp2), rfl, .inl ⟨ix, rfl, ?_⟩⟩
    refine ⟨.ref p, rfl, p, _, 1, .ref c, rfl, rfl, .inl (.inl hp2), rfl, c, _, rfl, .inl (.inl (.inl hc2)), 1, ((cs.map V.int).length : Int), rfl, ?_⟩
    rw [List.length_map]
    refine ⟨ix, _, rfl, rfl, by split <;> omega, l2, _, _, .int cell, rfl, rfl, .inl (.inl h22), hcell, ?_⟩
    -- if cell >= 10 ** 18
    refine ⟨.int cell, rfl, 10, 18, rfl, rfl, ⟨by decide, by decide, by decide⟩, cell, _, rfl, rfl, _, rfl, ite2 (fun hge => ?_) (fun _ => ?_)⟩
    · -- the cell is cut, its place written
      have hge' : (10 : Int) ^ (18 : Int).toNat ≤ cell := of_decide_eq_true hge
      have hpos : 0 < cs.length := by
        rcases Nat.eq_zero_or_pos cs.length with z | z
        · have : cs = [] := List.eq_nil_of_length_eq_zero z
          subst this
          have h0 : ix % (1 : Int) = 0 := Int.emod_one ix
          have : atI ([] ++ [V.int 0]) (ix % 1) = some (V.int cell) := hcell
          rw [h0] at this
          have : V.int 0 = V.int cell := Option.some.inj this
          have : (0 : Int) = cell := V.int.inj this
          rw [← this] at hge'
          exact absurd hge' (by decide)
        · exact z
      refine ⟨.int cell, rfl, .int x.1, rfl, cell, x.1, rfl, rfl, ⟨hb, by omega⟩, ?_⟩
      refine ⟨.ref p, rfl, p, _, 1, .ref c, rfl, rfl, .inl (.inl hp2), rfl, ?_⟩
      refine ⟨.ref p, rfl, p, _, 2, .int ix, rfl, rfl, .inl (.inl hp2), rfl, .inl ⟨ix, rfl, ?_⟩⟩
      refine ⟨.ref p, rfl, p, _, 1, .ref c, rfl, rfl, .inl (.inl hp2), rfl, c, _, rfl, .inl (.inl (.inl hc2)), ?_⟩
      rw [List.length_map]
      refine ⟨ix, (cs.length : Int), rfl, rfl, by omega, ?_⟩
      have k0 : 0 ≤ ix % (cs.length : Int) := Int.emod_nonneg _ (by omega)
      have k1 : ix % (cs.length : Int) < (cs.length : Int) := Int.emod_lt_of_pos _ (by omega)
      refine ⟨c, _, ix % (cs.length : Int), (ix % (cs.length : Int)).toNat, rfl, rfl, hc2, ?_, ?_⟩
      · unfold ixN
        rw [List.length_map, if_pos k0, if_pos k1]
      · have e2 : (cs.map V.int).set (ix % (cs.length : Int)).toNat (.int (cell / x.1)) = (cs.set (ix % (cs.length : Int)).toNat (cell / x.1)).map V.int := by rw [List.map_set]
        rw [e2]
        have hs3 : HS (NN.src F H p c E) _ _ F1 (upd H2 c (.lst ((cs.set (ix % (cs.length : Int)).toNat (cell / x.1)).map V.int))) := src_set hs2 rfl (hO_src F H p c E) (st := st) (ix := ix) (by rw [upd_ne hne]; exact hp2) upd_same (by rw [List.length_set]; exact hl) fun a _ n2 => by rw [upd_ne n2]
        refine ⟨.int cell, rfl, .inl ⟨cell, rfl, .int x.1, rfl, cell, x.1, rfl, rfl, hb, ?_⟩⟩
        exact fin _ _ (Int.emod_nonneg _ (by omega)) (Int.emod_lt_of_pos _ hb) hs3.w
    · refine ⟨.ref p, rfl, p, _, 0, .int st, rfl, rfl, .inl (.inl hp2), rfl, st, 48271, rfl, rfl, .inr ⟨by decide, by decide⟩, .int cell, rfl, cell, 69621, rfl, rfl, .inr ⟨by decide, by decide⟩, _, _, rfl, rfl, _, 11, rfl, rfl, .inl ⟨_, rfl, ?_⟩⟩
      refine ⟨_, 2147483647, rfl, rfl, by show (0:Int) < 2147483647; decide, ?_⟩
      refine ⟨.ref p, rfl, p, _, 0, 0, rfl, rfl, hp2, rfl, ?_⟩
      have hp3 : upd H2 p (.lst [.int ((st * 48271 + cell * 69621 + 11) % 2147483647), .ref c, .int ix, .int 14]) p = some (.lst [.int ((st * 48271 + cell * 69621 + 11) % 2147483647), .ref c, .int ix, .int 14]) := upd_same
      have hs3 : HS (NN.src F H p c E) _ _ F1 (upd H2 p (.lst [.int ((st * 48271 + cell * 69621 + 11) % 2147483647), .ref c, .int ix, .int 14])) := src_set hs2 rfl (hO_src F H p c E) (st := ((st * 48271 + cell * 69621 + 11) % 2147483647)) (ix := ix) upd_same (by rw [upd_ne (Ne.symm hne)]; exact hc2) hl fun a n1 _ => by rw [upd_ne n1]
      refine ⟨.ref p, rfl, p, _, 2, .int ix, rfl, rfl, .inl (.inl hp3), rfl, ix, 1, rfl, rfl, ?_⟩
      refine ⟨.ref p, rfl, p, _, 2, 2, rfl, rfl, hp3, rfl, ?_⟩
      have hp4 : upd (upd H2 p (.lst [.int ((st * 48271 + cell * 69621 + 11) % 2147483647), .ref c, .int ix, .int 14])) p (.lst [.int ((st * 48271 + cell * 69621 + 11) % 2147483647), .ref c, .int (ix + 1), .int 14]) p = some (.lst [.int ((st * 48271 + cell * 69621 + 11) % 2147483647), .ref c, .int (ix + 1), .int 14]) := upd_same
      have hs4 : HS (NN.src F H p c E) _ _ F1 (upd (upd H2 p (.lst [.int ((st * 48271 + cell * 69621 + 11) % 2147483647), .ref c, .int ix, .int 14])) p (.lst [.int ((st * 48271 + cell * 69621 + 11) % 2147483647), .ref c, .int (ix + 1), .int 14])) := src_set hs3 rfl (hO_src F H p c E) (st := ((st * 48271 + cell * 69621 + 11) % 2147483647)) (ix := ix + 1) upd_same (by rw [upd_ne (Ne.symm hne), upd_ne (Ne.symm hne)]; exact hc2) hl fun a n1 _ => by rw [upd_ne n1]
      refine ⟨.ref p, rfl, p, _, 0, .int ((st * 48271 + cell * 69621 + 11) % 2147483647), rfl, rfl, .inl (.inl hp4), rfl, ((st * 48271 + cell * 69621 + 11) % 2147483647), 7, rfl, rfl, ⟨by decide, by decide⟩, .inl ⟨_, rfl, .int x.1, rfl, _, x.1, rfl, rfl, hb, ?_⟩⟩
      exact fin _ _ (Int.emod_nonneg _ (by omega)) (Int.emod_lt_of_pos _ hb) hs4.w⟩
theorem ok__law_mix (T : Txt G mg) : FnOk G.P G.w G.K mg base (L2.CX G.P G.w) 1 T._law_mix.f T._law_mix.fd ["_law_script", "_law_seed"] (SpMix G.K) :=
  T._law_mix.Fu.okX sc__law_mix (fun vs H Q E ⟨a, ns, seed, e, _⟩ => by rw [e]; rfl) fun cdv A outer s H vs Q E hr ⟨a, ns, seed, e, hS, hlen, q⟩ => by
    subst e
    refine ⟨_, pss_cons (ps_set (i := 2) sc__law_mix.nd rfl (Or.inl rfl) (pv 1))
      (pss_cons (ps_for (passes_of rfl) rfl (pi_list (pv 0)) (pg_name (i := 3) sc__law_mix.nd rfl (Or.inl rfl))
        (pss_one (ps_set (i := 2) sc__law_mix.nd rfl (Or.inl rfl) (pe_op op_mod (pe_callTy call_int1 (by rfl) T.z_int bt_int (pa_cons (pe_op op_add (pe_op op_add (pe_op op_mul (pv 2) pe_int) (pe_op op_mod (pe_callTy call_int1 (by rfl) T.z_int bt_int (pa_cons (pv 3) pa_nil)) pe_int)) pe_int) pa_nil)) pe_int))))
      (pss_one (ps_ret (pe_lst (pa_cons (pv 2) (pa_cons (pe_callTy call_list_of (by rfl) T.z_list bt_list (pa_cons (pv 0) pa_nil)) (pa_cons pe_int (pa_cons pe_int pa_nil)))))))), ?_⟩
    refine ⟨.int seed, rfl, .ref a, rfl, a, rfl, ⟨_, hS⟩, fun i m σ H3 => ∃ st y3, σ = [some (.ref a), some (.int seed), some (.int st), y3] ∧ i + m = ns.length ∧ H3 = H, ⟨ns.length, seed, none, rfl, by omega, rfl⟩, fun i m σ H3 hW => ?_⟩
    obtain ⟨st, y3, rfl, em, rfl⟩ := hW
    by_cases hi : i < ns.length
    · have g : (ns.map V.int)[i]? = some (.int ns[i]) := by
        rw [List.getElem?_map, List.getElem?_eq_getElem hi]
        rfl
      refine .inr ⟨⟨_, _, hS, g⟩, fun σ' H' => ∃ st y3, σ' = [some (.ref a), some (.int seed), some (.int st), y3] ∧ H' = H3, fun σ' H' hN => ?_, fun v H' hy => ?_⟩
      · obtain ⟨st', z3, e1, e2⟩ := hN
        exact ⟨m - 1, by omega, st', z3, e1, by omega, e2⟩
      · obtain ⟨rfl, fv⟩ := hy
        have ev : v = .int ns[i] := Option.some.inj ((fv _ hS).symm.trans g)
        subst ev
        refine ⟨.int st, rfl, st, 48271, rfl, rfl, .inr ⟨by decide, by decide⟩, .int ns[i], rfl, .inl ⟨ns[i], rfl, ?_⟩⟩
        refine ⟨ns[i], 2147483629, rfl, rfl, by show (0:Int) < 2147483629; decide, ?_⟩
        refine ⟨_, _, rfl, rfl, _, 1, rfl, rfl, .inl ⟨_, rfl, ?_⟩⟩
        refine ⟨_, 2147483647, rfl, rfl, by show (0:Int) < 2147483647; decide, ?_⟩
        exact ⟨_, _, rfl, rfl⟩
    · refine .inl ⟨⟨_, hS, by rw [List.length_map]; omega⟩, ?_⟩
      refine ⟨.int st, rfl, .ref a, rfl, a, _, rfl, .inl hS, fun c hc => ?_⟩
      refine ⟨by show 4 ≤ sizeLine; decide, fun p hp => ?_⟩
      have pc : c ≠ p := fun z => by
        subst z
        rw [upd_same] at hp; cases hp
      have hp0 : H3 p = none := by
        rw [upd_ne (Ne.symm pc)] at hp; exact hp
      refine q _ p c st (fun b o e => ?_) (fun b e => ?_) hp0 hc (Ne.symm pc) upd_same (by rw [upd_ne pc]; exact upd_same)
      · rw [upd_ne (ne_of_none e hp0), upd_ne (ne_of_none e hc)]; exact e
      · by_cases hb : b = p
        · subst hb; exact hp0
        · rw [upd_ne hb] at e
          by_cases hc2 : b = c
          · subst hc2; exact hc
          · rw [upd_ne hc2] at e; exact e

theorem ok_UnknownWord___init__ (T : Txt G mg) : FnOk G.P G.w G.K mg base (L2.CX G.P G.w) 1 T.x_UnknownWord.f T.x_UnknownWord.fd ["self", "index"] (SpXi1 (G.exc "UnknownWord") "index") :=
  fn_xi1 T.x_UnknownWord sc_UnknownWord___init__ rfl rfl fun cdv A outer s H E => (pss_cons (ps_ost (pv 0) (pv 1)) pss_nil)
theorem ok_InvalidWord___init__ (T : Txt G mg) : FnOk G.P G.w G.K mg base (L2.CX G.P G.w) 1 T.x_InvalidWord.f T.x_InvalidWord.fd ["self", "index"] (SpXi1 (G.exc "InvalidWord") "index") :=
  fn_xi1 T.x_InvalidWord sc_InvalidWord___init__ rfl rfl fun cdv A outer s H E => (pss_cons (ps_ost (pv 0) (pv 1)) pss_nil)
theorem ok_InvalidText___init__ (T : Txt G mg) : FnOk G.P G.w G.K mg base (L2.CX G.P G.w) 1 T.x_InvalidText.f T.x_InvalidText.fd ["self", "line", "word"] (SpXi2 (G.exc "InvalidText") "line" "word") :=
  fn_xi2 T.x_InvalidText sc_InvalidText___init__ rfl rfl fun cdv A outer s H E => (pss_cons (ps_ost (pv 0) (pv 1)) (pss_cons (ps_ost (pv 0) (pv 2)) pss_nil))
theorem ok__law_bare (T : Txt G mg) : FnOk G.P G.w G.K mg base (L2N.CX G.P G.w) 1 T._law_bare.f T._law_bare.fd ["_law_k"] (SpF1 G Int m__law_bare) :=
  fn_okVN T._law_bare.Fu sc__law_bare (fun x => [.per x.1]) (fun a vs F ⟨v0, _, e0, r0, ee⟩ => by rw [e0, ee]; rfl) (fun a vs F H N ⟨v0, _, e0, r0, ee⟩ => by rw [e0, ee]; exact ⟨⟨v0, rfl, r0⟩, trivial⟩) (fun x => (own_c rfl own_n)) fun cdv A outer s H F E hr =>
  ⟨_, (pss_cons (ps_if (pt_cmpR op_eq (pv 0) pe_int (nomark _)) (pss_cons (L2N.ps_raise rfl (L2N.takes_of rfl rfl rfl rfl) (TyL.pmkN_own0 PySem.F.excBase_ValueError T.x_InvalidSigns.ex T.x_InvalidSigns.g T.x_InvalidSigns.kp (raises_own T.x_InvalidSigns.b T.x_InvalidSigns.t) rfl)) pss_nil) pss_nil) (pss_cons (ps_if (pt_cmpR op_eq (pv 0) pe_int (nomark _)) (pss_cons (L2N.ps_raise rfl (L2N.takes_of rfl rfl rfl rfl) (TyL.pmkN_own0 PySem.F.excBase_ValueError T.x_InvalidRow.ex T.x_InvalidRow.g T.x_InvalidRow.kp (raises_own T.x_InvalidRow.b T.x_InvalidRow.t) rfl)) pss_nil) pss_nil) (pss_cons (ps_if (pt_cmpR op_eq (pv 0) pe_int (nomark _)) (pss_cons (L2N.ps_raise rfl (L2N.takes_of rfl rfl rfl rfl) (TyL.pmkN_own0 PySem.F.excBase_ValueError T.x_InvalidString.ex T.x_InvalidString.g T.x_InvalidString.kp (raises_own T.x_InvalidString.b T.x_InvalidString.t) rfl)) pss_nil) pss_nil) (pss_cons (ps_if (pt_cmpR op_eq (pv 0) pe_int (nomark _)) (pss_cons (L2N.ps_raise rfl (L2N.takes_of rfl rfl rfl rfl) (TyL.pmkN_own0 PySem.F.excBase_ValueError T.x_InvalidWay.ex T.x_InvalidWay.g T.x_InvalidWay.kp (raises_own T.x_InvalidWay.b T.x_InvalidWay.t) rfl)) pss_nil) pss_nil) (pss_cons (ps_if (pt_cmpR op_eq (pv 0) pe_int (nomark _)) (pss_cons (L2N.ps_raise rfl (L2N.takes_of rfl rfl rfl rfl) (TyL.pmkN_own0 PySem.F.excBase_ValueError T.x_InvalidLimit.ex T.x_InvalidLimit.g T.x_InvalidLimit.kp (raises_own T.x_InvalidLimit.b T.x_InvalidLimit.t) rfl)) pss_nil) pss_nil) (pss_cons (ps_if (pt_cmpR op_eq (pv 0) pe_int (nomark _)) (pss_cons (L2N.ps_raise rfl (L2N.takes_of rfl rfl rfl rfl) (TyL.pmkN_own0 PySem.F.excBase_ValueError T.x_InvalidWish.ex T.x_InvalidWish.g T.x_InvalidWish.kp (raises_own T.x_InvalidWish.b T.x_InvalidWish.t) rfl)) pss_nil) pss_nil) (pss_cons (L2N.ps_raise rfl (L2N.takes_of rfl rfl rfl rfl) (TyL.pmkN_own0 PySem.F.excBase_ValueError T.x_NotComparable.ex T.x_NotComparable.g T.x_NotComparable.kp (raises_own T.x_NotComparable.b T.x_NotComparable.t) rfl)) pss_nil))))))),
  fun x => (sv_ifraise (tv_test (ev_op (α := Int) (β := Int) (ev_var rfl) ev_int opv_eq)) (sx_raise0 "InvalidSigns") (sv_ifraise (tv_test (ev_op (α := Int) (β := Int) (ev_var rfl) ev_int opv_eq)) (sx_raise0 "InvalidRow") (sv_ifraise (tv_test (ev_op (α := Int) (β := Int) (ev_var rfl) ev_int opv_eq)) (sx_raise0 "InvalidString") (sv_ifraise (tv_test (ev_op (α := Int) (β := Int) (ev_var rfl) ev_int opv_eq)) (sx_raise0 "InvalidWay") (sv_ifraise (tv_test (ev_op (α := Int) (β := Int) (ev_var rfl) ev_int opv_eq)) (sx_raise0 "InvalidLimit") (sv_ifraise (tv_test (ev_op (α := Int) (β := Int) (ev_var rfl) ev_int opv_eq)) (sx_raise0 "InvalidWish") (sv_raise (sx_raise0 "NotComparable"))))))))⟩
theorem ok__law_thrown (T : Txt G mg) : FnOk G.P G.w G.K mg base (L2N.CX G.P G.w) 3 T._law_thrown.f T._law_thrown.fd ["_law_k", "_law_one", "_law_two"] (SpF3 G Int PyData PyData m__law_thrown) :=
  fn_okVN T._law_thrown.Fu sc__law_thrown (fun x => [.per x.1, .per x.2.1, .per x.2.2.1]) (fun a vs F ⟨v0, _, e0, r0, ⟨v1, _, e1, r1, ⟨v2, _, e2, r2, ee⟩⟩⟩ => by rw [e0, e1, e2, ee]; rfl) (fun a vs F H N ⟨v0, _, e0, r0, ⟨v1, _, e1, r1, ⟨v2, _, e2, r2, ee⟩⟩⟩ => by rw [e0, e1, e2, ee]; exact ⟨⟨v0, rfl, r0⟩, ⟨v1, rfl, r1⟩, ⟨v2, rfl, r2⟩, trivial⟩) (fun x => (own_c rfl (own_c rfl (own_c rfl own_n)))) fun cdv A outer s H F E hr =>
  ⟨_, (pss_cons (ps_if (pt_cmpR op_lt (pv 0) pe_int (nomark _)) (pss_cons (ps_expr (pe_call (ok__law_bare T) (hr.mono (by decide)) (by rfl) T._law_bare.g T._law_bare.Fu.kp T._law_bare.b .nil (L2N.passes_call (L2N.takes_of rfl rfl rfl rfl) (fun _ _ _ _ h => h)) (pa_cons (pv 0) pa_nil))) pss_nil) pss_nil) (pss_cons (ps_if (pt_cmpR op_eq (pv 0) pe_int (nomark _)) (pss_cons (L2N.ps_raise rfl (L2N.takes_of rfl rfl rfl rfl) (TyL.pmkN_oex T.x_InvalidWord.T T.x_InvalidWord.iC T.x_InvalidWord.tI (ok_InvalidWord___init__ T) (hr.mono (by decide)) T.x_InvalidWord.b passL rfl T.x_InvalidWord.g (pa_cons (pv 1) pa_nil))) pss_nil) pss_nil) (pss_cons (ps_if (pt_cmpR op_eq (pv 0) pe_int (nomark _)) (pss_cons (L2N.ps_raise rfl (L2N.takes_of rfl rfl rfl rfl) (TyL.pmkN_oex T.x_UnknownWord.T T.x_UnknownWord.iC T.x_UnknownWord.tI (ok_UnknownWord___init__ T) (hr.mono (by decide)) T.x_UnknownWord.b passL rfl T.x_UnknownWord.g (pa_cons (pv 1) pa_nil))) pss_nil) pss_nil) (pss_cons (L2N.ps_raise rfl (L2N.takes_of rfl rfl rfl rfl) (TyL.pmkN_oex T.x_InvalidText.T T.x_InvalidText.iC T.x_InvalidText.tI (ok_InvalidText___init__ T) (hr.mono (by decide)) T.x_InvalidText.b passL rfl T.x_InvalidText.g (pa_cons (pv 1) (pa_cons (pv 2) pa_nil)))) pss_nil)))),
  fun x => (sv_if (Γi := fun (b4 : Unit) => [@Ent.per G Int _ x.1, @Ent.per G PyData _ x.2.1, @Ent.per G PyData _ x.2.2.1]) (tv_test (ev_op (α := Int) (β := Int) (ev_var rfl) ev_int opv_B0)) (sv_drop (ev_call1 (ev_var rfl)) (sv_next (wk_hs (wk_s (wk_s (wk_s wk_n)))))) (sv_next (wk_hs (wk_s (wk_s (wk_s wk_n))))) fun b4 => (sv_ifraise (tv_test (ev_op (α := Int) (β := Int) (ev_var rfl) ev_int opv_eq)) (sx_raise1 (by decide) (ev_var rfl)) (sv_ifraise (tv_test (ev_op (α := Int) (β := Int) (ev_var rfl) ev_int opv_eq)) (sx_raise1 (by decide) (ev_var rfl)) (sv_raise (sx_raise2 (by decide) (ev_var rfl) (ev_var rfl))))))⟩
theorem ok__law_classes (T : Txt G mg) (a : Addr) (cls : Value) (d : Option Addr) : TyL.FnZ (ZE a cls d) G.P G.w G.K mg base CX0 1 T._law_classes.f T._law_classes.fd ["_law_e"] (SpF G (raE G a cls d ra0) (fun p => m__law_classes ⟨p.1.cls, p.1.args⟩)) :=
  fn_okZ T._law_classes.Fu sc__law_classes (fun x => [@Ent.per G XP _ x.1, .dead]) (fun x vs F ⟨_, v0, _, e0, r0, ee⟩ => by rw [e0, ee]; rfl) (fun x vs F H N ⟨_, v0, _, e0, r0, ee⟩ => by rw [e0, ee]; exact ⟨⟨v0, rfl, r0⟩, trivial, trivial⟩) (fun x => (own_c rfl (own_c rfl own_n))) fun cdv A outer s H F E oe hz hf hot hr =>
  ⟨_, (pss_cons (ps_set (i := 1) sc__law_classes.nd rfl (Or.inl rfl) (pe_lst (pa_cons (pe_callB (TyL.call_isQ hz hf (List.mem_singleton.2 rfl)) (by rfl) T.z_isinstance bb_isinstance (pa_cons (pv 0) (pa_cons (pe_glob (v := .ref (G.exc "InvalidSigns")) (by rfl) T.x_InvalidSigns.g rfl) pa_nil))) (pa_cons (pe_callB (TyL.call_isQ hz hf (List.mem_singleton.2 rfl)) (by rfl) T.z_isinstance bb_isinstance (pa_cons (pv 0) (pa_cons (pe_glob (v := .ref (G.exc "InvalidRow")) (by rfl) T.x_InvalidRow.g rfl) pa_nil))) (pa_cons (pe_callB (TyL.call_isQ hz hf (List.mem_singleton.2 rfl)) (by rfl) T.z_isinstance bb_isinstance (pa_cons (pv 0) (pa_cons (pe_glob (v := .ref (G.exc "InvalidString")) (by rfl) T.x_InvalidString.g rfl) pa_nil))) pa_nil))))) (pss_cons (ps_set (i := 1) sc__law_classes.nd rfl (Or.inl rfl) (pe_op TyL.op_catL (pv 1) (pe_lst (pa_cons (pe_callB (TyL.call_isQ hz hf (List.mem_singleton.2 rfl)) (by rfl) T.z_isinstance bb_isinstance (pa_cons (pv 0) (pa_cons (pe_glob (v := .ref (G.exc "InvalidWay")) (by rfl) T.x_InvalidWay.g rfl) pa_nil))) (pa_cons (pe_callB (TyL.call_isQ hz hf (List.mem_singleton.2 rfl)) (by rfl) T.z_isinstance bb_isinstance (pa_cons (pv 0) (pa_cons (pe_glob (v := .ref (G.exc "InvalidLimit")) (by rfl) T.x_InvalidLimit.g rfl) pa_nil))) (pa_cons (pe_callB (TyL.call_isQ hz hf (List.mem_singleton.2 rfl)) (by rfl) T.z_isinstance bb_isinstance (pa_cons (pv 0) (pa_cons (pe_glob (v := .ref (G.exc "InvalidWish")) (by rfl) T.x_InvalidWish.g rfl) pa_nil))) pa_nil)))))) (pss_cons (ps_set (i := 1) sc__law_classes.nd rfl (Or.inl rfl) (pe_op TyL.op_catL (pv 1) (pe_lst (pa_cons (pe_callB (TyL.call_isQ hz hf (List.mem_singleton.2 rfl)) (by rfl) T.z_isinstance bb_isinstance (pa_cons (pv 0) (pa_cons (pe_glob (v := .ref (G.exc "NotComparable")) (by rfl) T.x_NotComparable.g rfl) pa_nil))) (pa_cons (pe_callB (TyL.call_isQ hz hf (List.mem_singleton.2 rfl)) (by rfl) T.z_isinstance bb_isinstance (pa_cons (pv 0) (pa_cons (pe_glob (v := .ref (G.exc "InvalidWord")) (by rfl) T.x_InvalidWord.g rfl) pa_nil))) (pa_cons (pe_callB (TyL.call_isQ hz hf (List.mem_singleton.2 rfl)) (by rfl) T.z_isinstance bb_isinstance (pa_cons (pv 0) (pa_cons (pe_glob (v := .ref (G.exc "UnknownWord")) (by rfl) T.x_UnknownWord.g rfl) pa_nil))) pa_nil)))))) (pss_cons (ps_ret (pe_op TyL.op_catL (pv 1) (pe_lst (pa_cons (pe_callB (TyL.call_isQ hz hf (List.mem_singleton.2 rfl)) (by rfl) T.z_isinstance bb_isinstance (pa_cons (pv 0) (pa_cons (pe_glob (v := .ref (G.exc "InvalidText")) (by rfl) T.x_InvalidText.g rfl) pa_nil))) pa_nil)))) pss_nil)))),
  fun x hx => by
    obtain ⟨_, ⟨e1, e2, e3⟩, _⟩ := hx
    subst e1 e2 e3
    exact (sv_asg (α := (L Bool)) (ev_new (evn_lst (evl_cons (ev_isQ (x := x.1) (known := ["InvalidLimit", "InvalidRow", "InvalidSigns", "InvalidString", "InvalidText", "InvalidWay", "InvalidWish", "InvalidWord", "NotComparable", "UnknownWord"]) (b := (fun y => decide (y = "InvalidSigns"))) rfl rel_ref T.kx_InvalidSigns) (evl_cons (ev_isQ (x := x.1) (known := ["InvalidLimit", "InvalidRow", "InvalidSigns", "InvalidString", "InvalidText", "InvalidWay", "InvalidWish", "InvalidWord", "NotComparable", "UnknownWord"]) (b := (fun y => decide (y = "InvalidRow"))) rfl rel_ref T.kx_InvalidRow) (evl_cons (ev_isQ (x := x.1) (known := ["InvalidLimit", "InvalidRow", "InvalidSigns", "InvalidString", "InvalidText", "InvalidWay", "InvalidWish", "InvalidWord", "NotComparable", "UnknownWord"]) (b := (fun y => decide (y = "InvalidString"))) rfl rel_ref T.kx_InvalidString) evl_nil))))) fun v8 => (sv_asg (α := (L Bool)) (ev_new (evn_catL (ev_var rfl) (ev_new (evn_lst (evl_cons (ev_isQ (x := x.1) (known := ["InvalidLimit", "InvalidRow", "InvalidSigns", "InvalidString", "InvalidText", "InvalidWay", "InvalidWish", "InvalidWord", "NotComparable", "UnknownWord"]) (b := (fun y => decide (y = "InvalidWay"))) rfl rel_ref T.kx_InvalidWay) (evl_cons (ev_isQ (x := x.1) (known := ["InvalidLimit", "InvalidRow", "InvalidSigns", "InvalidString", "InvalidText", "InvalidWay", "InvalidWish", "InvalidWord", "NotComparable", "UnknownWord"]) (b := (fun y => decide (y = "InvalidLimit"))) rfl rel_ref T.kx_InvalidLimit) (evl_cons (ev_isQ (x := x.1) (known := ["InvalidLimit", "InvalidRow", "InvalidSigns", "InvalidString", "InvalidText", "InvalidWay", "InvalidWish", "InvalidWord", "NotComparable", "UnknownWord"]) (b := (fun y => decide (y = "InvalidWish"))) rfl rel_ref T.kx_InvalidWish) evl_nil))))))) fun v25 => (sv_asg (α := (L Bool)) (ev_new (evn_catL (ev_var rfl) (ev_new (evn_lst (evl_cons (ev_isQ (x := x.1) (known := ["InvalidLimit", "InvalidRow", "InvalidSigns", "InvalidString", "InvalidText", "InvalidWay", "InvalidWish", "InvalidWord", "NotComparable", "UnknownWord"]) (b := (fun y => decide (y = "NotComparable"))) rfl rel_ref T.kx_NotComparable) (evl_cons (ev_isQ (x := x.1) (known := ["InvalidLimit", "InvalidRow", "InvalidSigns", "InvalidString", "InvalidText", "InvalidWay", "InvalidWish", "InvalidWord", "NotComparable", "UnknownWord"]) (b := (fun y => decide (y = "InvalidWord"))) rfl rel_ref T.kx_InvalidWord) (evl_cons (ev_isQ (x := x.1) (known := ["InvalidLimit", "InvalidRow", "InvalidSigns", "InvalidString", "InvalidText", "InvalidWay", "InvalidWish", "InvalidWord", "NotComparable", "UnknownWord"]) (b := (fun y => decide (y = "UnknownWord"))) rfl rel_ref T.kx_UnknownWord) evl_nil))))))) fun v42 => (sv_ret (ev_new (evn_catL (ev_var rfl) (ev_new (evn_lst (evl_cons (ev_isQ (x := x.1) (known := ["InvalidLimit", "InvalidRow", "InvalidSigns", "InvalidString", "InvalidText", "InvalidWay", "InvalidWish", "InvalidWord", "NotComparable", "UnknownWord"]) (b := (fun y => decide (y = "InvalidText"))) rfl rel_ref T.kx_InvalidText) evl_nil)))))))))⟩
theorem ok__law_parts (T : Txt G mg) (a : Addr) (cls : Value) (d : Option Addr) : TyL.FnZ (ZE a cls d) G.P G.w G.K mg base CX0 1 T._law_parts.f T._law_parts.fd ["_law_k", "_law_e"] (SpF G (raC (G := G) Int (raE G a cls d ra0)) (fun p => m__law_parts p.1 ⟨p.2.1.cls, p.2.1.args⟩)) :=
  fn_okZ T._law_parts.Fu sc__law_parts (fun x => [.per x.1, @Ent.per G XP _ x.2.1]) (fun x vs F ⟨v0, _, e0, r0, _, v1, _, e1, r1, ee⟩ => by rw [e0, e1, ee]; rfl) (fun x vs F H N ⟨v0, _, e0, r0, _, v1, _, e1, r1, ee⟩ => by rw [e0, e1, ee]; exact ⟨⟨v0, rfl, r0⟩, ⟨v1, rfl, r1⟩, trivial⟩) (fun x => (own_c rfl (own_c rfl own_n))) fun cdv A outer s H F E oe hz hf hot hr =>
  ⟨_, (pss_cons (ps_if (pt_cmpR op_lt (pv 0) pe_int (nomark _)) (pss_cons (ps_ret (pe_lst pa_nil)) pss_nil) pss_nil) (pss_cons (ps_ret (pe_ifExp (pt_cmpR op_lt (pv 0) pe_int (nomark _)) (pe_lst (pa_cons (TyL.pe_xfQ hz hf (List.mem_singleton.2 rfl) (pv 1)) pa_nil)) (pe_lst (pa_cons (TyL.pe_xfQ hz hf (List.mem_singleton.2 rfl) (pv 1)) (pa_cons (TyL.pe_xfQ hz hf (List.mem_singleton.2 rfl) (pv 1)) pa_nil))))) pss_nil)),
  fun x hx => by
    obtain ⟨_, _, _, _, _, ⟨e1, e2, e3⟩, _⟩ := hx
    subst e1 e2 e3
    exact (sv_ifret jr_ret (tv_test (ev_op (α := Int) (β := Int) (ev_var rfl) ev_int opv_B0)) (sv_ret (ev_new (evn_lst evl_nil))) (sv_ret (ev_if (tv_test (ev_op (α := Int) (β := Int) (ev_var rfl) ev_int opv_B0)) (ev_new (evn_lst (evl_cons (ev_xfE (x := x.2.1) rfl T.xf_index) evl_nil))) (ev_new (evn_lst (evl_cons (ev_xfE (x := x.2.1) rfl T.xf_line) (evl_cons (ev_xfE (x := x.2.1) rfl T.xf_word) evl_nil)))))))⟩
theorem ok__law_right (T : Txt G mg) : FnOk G.P G.w G.K mg base (L2.CX G.P G.w) 4 T._law_right.f T._law_right.fd ["_law_k", "_law_one", "_law_two"] (SpF3 G Int PyData PyData m__law_right) :=
  fn_ok T._law_right.Fu sc__law_right (fun x => [.per x.1, .per x.2.1, .per x.2.2.1, .dead, .dead, .dead, .dead]) (fun a vs F ⟨v0, _, e0, r0, ⟨v1, _, e1, r1, ⟨v2, _, e2, r2, ee⟩⟩⟩ => by rw [e0, e1, e2, ee]; rfl) (fun a vs F H N ⟨v0, _, e0, r0, ⟨v1, _, e1, r1, ⟨v2, _, e2, r2, ee⟩⟩⟩ => by rw [e0, e1, e2, ee]; exact ⟨⟨v0, rfl, r0⟩, ⟨v1, rfl, r1⟩, ⟨v2, rfl, r2⟩, trivial, trivial, trivial, trivial, trivial⟩) (fun x => (own_c rfl (own_c rfl (own_c rfl (own_c rfl (own_c rfl (own_c rfl (own_c rfl own_n)))))))) fun cdv A outer s H F E hr =>
  ⟨_, (pss_cons (ps_set (i := 3) sc__law_right.nd rfl (Or.inl rfl) pe_bl) (pss_cons (ps_set (i := 4) sc__law_right.nd rfl (Or.inl rfl) (pe_op TyL.op_catL (pe_slice sl_list (pe_lst (pa_cons (pv 1) pa_nil)) po_none (po_some (pe_callTy call_int1 (by rfl) T.z_int bt_int (pa_cons (pe_cmpR op_gt (pv 0) pe_int (nomark _)) pa_nil)))) (pe_slice sl_list (pe_lst (pa_cons (pv 2) pa_nil)) po_none (po_some (pe_callTy call_int1 (by rfl) T.z_int bt_int (pa_cons (pe_cmpR op_gt (pv 0) pe_int (nomark _)) pa_nil)))))) (pss_cons (L2N.ps_try_as (i := 5) (tb := fun W => tSeq (tDrop (tCallSD (SpF3 G Int PyData PyData m__law_thrown) [] (WE W) (tCons (tVar 0) (tCons (tVar 1) (tCons (tVar 2) tNil))))) tNext) (Wout := fun _ _ _ _ => False) rfl rfl sc__law_right.nd rfl rfl ⟨rfl, by decide, .inl T.g_RowError⟩ TyL.takesN0 (fun W pn xe tk _ => pss_cons (ps_expr (pe_callSD (ok__law_thrown T) (hr.mono (by decide)) (by rfl) T._law_thrown.g T._law_thrown.Fu.kp T._law_thrown.b .nil (fun σ => TyL.passAtN tk σ) (pa_cons (pv 0) (pa_cons (pv 1) (pa_cons (pv 2) pa_nil))))) pss_nil) (fun a oe cls d pn hz hf => (pss_cons (ps_set (i := 3) sc__law_right.nd rfl (Or.inl rfl) (pe_and (pe_callB (TyL.call_isQ hz.zc hf List.mem_cons_self) (by rfl) T.z_isinstance bb_isinstance (pa_cons (pv 5) (pa_cons (pe_bltn (v := .ty "ValueError") (u := .type "ValueError") (by rfl) T.z_ValueError bt_ValueError rfl) pa_nil))) (pe_one (pe_cmpR (op_eqD hr.units) (TyL.pe_callZ (E := fun _ => E) (ok__law_classes T a cls d) (L2H.roomH_mark (hr.mono (by decide)) _) (hot_suite hz hf) (by rfl) T._law_classes.g T._law_classes.Fu.kp T._law_classes.b (fun _ _ _ _ _ _ _ z => z.elim) (pa_cons (pv 5) pa_nil)) (TyL.pe_lcHot (own := [("_law_other", 6)]) (g := (gName 6)) (tt := tYes) (te := (tOp rEq (tVar 6) (tVar 0))) (hot_suite hz hf).hot sc__law_right.nd (L2H.pi_range1H (by rfl) T.z_range (pa_cons pe_int pa_nil)) (blkOk_by (N := Ns__law_right) (sc := defScope s__law_right) (by decide +kernel)) (fun _ _ _ _ _ => (pg_name (i := 6) sc__law_right.nd rfl (Or.inl rfl))) (fun _ _ _ _ _ => pts_nil) (fun _ _ _ _ _ => (pe_cmpR op_eq (pv 6) (pv 0) (nomark _)))) (nomark _))))) (pss_cons (ps_set (i := 3) sc__law_right.nd rfl (Or.inl rfl) (pe_and (pv 3) (pe_one (pe_cmpR (op_eqD hr.units) (TyL.pe_callZ (E := fun _ => E) (ok__law_parts T a cls d) (L2H.roomH_mark (hr.mono (by decide)) _) (hot_suite hz hf) (by rfl) T._law_parts.g T._law_parts.Fu.kp T._law_parts.b (fun _ _ _ _ _ _ _ z => z.elim) (pa_cons (pv 0) (pa_cons (pv 5) pa_nil))) (pv 4) (nomark _))))) pss_nil)))) (pss_cons (ps_ret (pv 3)) pss_nil)))),
  fun x => (sv_asg (α := Bool) ev_bl fun v1 => (sv_asg (α := (L PyData)) (ev_new (evn_catL (ev_new (evn_cutL (ev_new (evn_lst (evl_cons (ev_var rfl) evl_nil))) evo_none (evo_some (ev_intB (ev_op (α := Int) (β := Int) (ev_var rfl) ev_int opv_B0))))) (ev_new (evn_cutL (ev_new (evn_lst (evl_cons (ev_var rfl) evl_nil))) evo_none (evo_some (ev_intB (ev_op (α := Int) (β := Int) (ev_var rfl) ev_int opv_B0))))))) fun v44 => (sv_tryR (i := 5) (te := (fun E1 => tCall (SpF3 G Int PyData PyData m__law_thrown) [] E1 (tCons (tVar 0) (tCons (tVar 1) (tCons (tVar 2) tNil))))) (c := "RowError") (known := ["InvalidLimit", "InvalidRow", "InvalidSigns", "InvalidString", "InvalidText", "InvalidWay", "InvalidWish", "InvalidWord", "NotComparable", "UnknownWord"]) (p := fun (e49 : Exc) => (((if e49.cls ∈ (["InvalidLimit", "InvalidRow", "InvalidSigns", "InvalidString", "InvalidText", "InvalidWay", "InvalidWish", "InvalidWord", "NotComparable", "UnknownWord"] : List String) then Prog.ok ((fun _ => true) e49.cls) else Prog.stuck) >>= fun (b58 : Bool) => if b58 then ((m__law_classes e49) >>= fun (a56 : (L Bool)) => (((Prog.ok (10 : Int)) >>= fun (n51 : Int) => chk (inRange n51) (Prog.ok (rng 0 n51))) >>= fun (xs55 : List Int) => chk (small xs55.length) (mapP (fun (a52 : Int) => ((Prog.ok a52 : Prog Int) >>= fun (a53 : Int) => (Prog.ok x.1 : Prog Int) >>= fun (a54 : Int) => Prog.ok (decide (a53 = a54)))) xs55 : Prog (L Bool))) >>= fun (a57 : (L Bool)) => eqP a56 a57) else Prog.ok false) >>= fun (v59 : Bool) => (((Prog.ok v59 : Prog Bool) >>= fun (b63 : Bool) => if b63 then (((Prog.ok x.1 : Prog Int) >>= fun (a60 : Int) => m__law_parts a60 e49) >>= fun (a61 : (L PyData)) => (Prog.ok v44 : Prog (L PyData)) >>= fun (a62 : (L PyData)) => eqP a61 a62) else Prog.ok false) >>= fun (v64 : Bool) => (Prog.ok v64 : Prog (Bool))))) (Γi := fun (b45 : (Bool)) => [@Ent.per G Int _ x.1, @Ent.per G PyData _ x.2.1, @Ent.per G PyData _ x.2.2.1, @Ent.per G Bool _ b45, @Ent.per G (L PyData) _ v44, .dead, .dead]) (b0 := v1) ⟨trivial, ⟨trivial, ⟨trivial, ⟨trivial, ⟨trivial, ⟨trivial, ⟨trivial, trivial⟩⟩⟩⟩⟩⟩⟩ (fun N1 hN => ev_call3 (ev_var rfl) (ev_var rfl) (ev_var rfl)) (wk_hs (wk_s (wk_s (wk_s (wk_s (wk_s (wk_d (wk_d wk_n)))))))) (fun _ => rfl) (fun a d e49 he => (sv_asg (α := Bool) (ev_and (ev_isQ (x := (XP.mk a d e49.cls e49.args)) (known := ["InvalidLimit", "InvalidRow", "InvalidSigns", "InvalidString", "InvalidText", "InvalidWay", "InvalidWish", "InvalidWord", "NotComparable", "UnknownWord"]) (b := (fun _ => true)) rfl rel_ty T.kve) (ev_op (α := (L Bool)) (β := (L Bool)) (ev_callZ1 (x := (XP.mk a d e49.cls e49.args)) (f := m__law_classes) rfl ⟨rfl, rfl, rfl⟩) (ev_new (evn_map (evi_rng1 ev_int) (no_own1 rfl rfl) trivial (fun O a52 => gc_name) (fun O a52 => (ev_op (α := Int) (β := Int) (ev_var rfl) (ev_var rfl) opv_eq)) (fun _ => rfl))) (opv_eqD (α := (L Bool)) (β := (L Bool))))) fun v59 => (sv_asg (α := Bool) (ev_and (ev_var rfl) (ev_op (α := (L PyData)) (β := (L PyData)) (ev_callZ2 (x := (XP.mk a d e49.cls e49.args)) (f := m__law_parts) (ev_var rfl) rfl ⟨rfl, rfl, rfl⟩) (ev_var rfl) (opv_eqD (α := (L PyData)) (β := (L PyData))))) fun v64 => (sv_next (wk_hs (wk_s (wk_s (wk_s (wk_s (wk_s (wk_d (wk_d wk_n)))))))))))) T.xr fun b45 => (sv_ret (ev_var rfl)))))⟩
theorem ps_law (T : Txt G mg) (cdv : Value) (A : Around) (outer : List PySem.Env) (s : Shared) (H : Hp) (E : XK) (hr : Room 4 (A.deeper (envOfC "law" (defScope s_law) s.heap.objs.size T.law.f cdv))) : ∃ t, PSs (cxOf (L2.CX G.P G.w) G.P G.w G.K mg base Ns_law "law" (defScope s_law) T.law.f cdv A outer s H E) ((defBody s_law).drop 1) t ∧ ∀ F H1 p c, SV (.src F H1 p c E) ([.dead, .src, .dead, .dead, .dead] : Env G) t (JR G (.src F H1 p c E)) m_law :=
  ⟨_, (pss_cons (ps_set (i := 2) sc_law.nd rfl (Or.inr rfl) (pe_ix ix_list (pe_lst (pa_cons pe_str (pa_cons pe_str (pa_cons pe_int (pa_cons (pe_tup (pa_cons pe_str (pa_cons pe_int pa_nil))) (pa_cons pe_non pa_nil)))))) (pe_call (ok__law_next T) (hr.mono (by decide)) (by rfl) T._law_next.g T._law_next.Fu.kp T._law_next.b .nil (passes_call (takes_of rfl rfl rfl rfl) (fun _ _ _ _ h => h)) (pa_cons (pv 1) (pa_cons pe_int pa_nil))) (fun _ _ => rfl))) (pss_cons (ps_set (i := 3) sc_law.nd rfl (Or.inr rfl) (pe_ix ix_list (pe_lst (pa_cons (pe_tup pa_nil) (pa_cons pe_str (pa_cons pe_int (pa_cons pe_non pa_nil))))) (pe_call (ok__law_next T) (hr.mono (by decide)) (by rfl) T._law_next.g T._law_next.Fu.kp T._law_next.b .nil (passes_call (takes_of rfl rfl rfl rfl) (fun _ _ _ _ h => h)) (pa_cons (pv 1) (pa_cons pe_int pa_nil))) (fun _ _ => rfl))) (pss_cons (ps_ret (pe_callB (cr_all rfl) (by rfl) T.z_all bb_all (pa_cons (pe_lc (own := [("_law_k", 4)]) (g := (gName 4)) (tt := tYes) (te := (tCall (SpF3 G Int PyData PyData m__law_right) [] E0 (tCons (tVar 4) (tCons (tVar 2) (tCons (tVar 3) tNil))))) rfl sc_law.nd (pi_range1 (by rfl) T.z_range (pa_cons pe_int pa_nil)) (blkOk_by (N := Ns_law) (sc := defScope s_law) (by decide +kernel)) (fun _ _ _ _ _ => (pg_name (i := 4) sc_law.nd rfl (Or.inl rfl))) (fun _ _ _ _ _ => pts_nil) (fun _ _ _ _ _ => (pe_call (ok__law_right T) (hr.mono (by decide)) (by rfl) T._law_right.g T._law_right.Fu.kp T._law_right.b .nil passL (pa_cons (pv 4) (pa_cons (pv 2) (pa_cons (pv 3) pa_nil)))))) pa_nil))) pss_nil))),
  fun F H1 p c => (sv_asg (α := PyData) (ev_op (α := (L PyData)) (β := Int) (ev_new (evn_lst (evl_cons (ev_dat (ev_str st_0)) (evl_cons (ev_dat (ev_str st_1)) (evl_cons (ev_dat ev_int) (evl_cons (ev_dat (ev_mkp (ev_str st_2) ev_int)) (evl_cons ev_nonD evl_nil))))))) (ev_callS1 rfl ev_int) opv_ixL) fun v20 => (sv_asg (α := PyData) (ev_op (α := (L PyData)) (β := Int) (ev_new (evn_lst (evl_cons (ev_dat (ev_tup evl_nil)) (evl_cons (ev_dat (ev_str st_3)) (evl_cons (ev_dat ev_int) (evl_cons ev_nonD evl_nil)))))) (ev_callS1 rfl ev_int) opv_ixL) fun v35 => (sv_ret (ev_all (ev_new (evn_mapE (evi_rng1 ev_int) (no_own1 rfl rfl) trivial (fun O a37 => gc_name) (fun O a37 => (ev_call3 (ev_var rfl) (ev_var rfl) (ev_var rfl))) (fun _ => rfl)))))))⟩
theorem ok_law (T : Txt G mg) (hm : wp m_law (fun b => b = true) (fun _ => False)) : FnOk G.P G.w G.K mg base (L2.CX G.P G.w) 5 T.law.f T.law.fd ["_law_script"] (SpLaw G.K) :=
  T.law.Fu.okX sc_law (fun vs H Q E ⟨a, ns, e, _⟩ => by rw [e]; rfl) fun cdv A outer s H vs Q E hr ⟨a, ns, e, hS, hlen, q⟩ => by
    subst e
    obtain ⟨t, hp, hv⟩ := ps_law (base := base) T cdv A outer s H E hr
    refine ⟨_, pss_cons (ps_set (i := 1) sc_law.nd rfl (Or.inl rfl) (pe_call (ok__law_mix T) (hr.mono (by decide)) (by rfl) T._law_mix.g T._law_mix.Fu.kp T._law_mix.b .nil (passes_call (takes_of rfl rfl rfl rfl) (fun _ _ _ _ h => h)) (pa_cons (pv 0) (pa_cons pe_int pa_nil)))) hp, ?_⟩
    refine ⟨.ref a, rfl, a, ns, 19, rfl, hS, by omega, fun H' p c st sm dm h1 h2 ne e1 e2 => ?_⟩
    exact hv (fun _ => none) H' p c _ (fun _ => none) H' _ (hs_law e1 e2 ne (by omega) (fun N hS => ⟨trivial, ⟨p, c, rfl, hS⟩, trivial, trivial, trivial, trivial⟩) (own_c rfl (own_c rfl (own_c rfl (own_c rfl (own_c rfl own_n)))))) (wp_imp hm (fun b hb v F' H2 w' r => by
      subst hb
      have r' : Dq G.K F' v (.bool true) := r
      cases r'
      exact q H2) fun e he => he.elim)
end
end K19

namespace K19
open PySem PySem.Spec PyProof.Rows L2 Ty
open Enc (enc)
def got {α : Type} : Prog α → Option α
  | .ok a => some a
  | _ => none
theorem got_ok {α : Type} {m : Prog α} {a : α} (h : got m = some a) : m = .ok a := by
  cases m with
  | ok b => cases h; rfl
  | err e => cases h
  | stuck => cases h
  | draw n k => cases h
def L5 : List PyData := [enc ([97] : Tx), enc ([] : Tx), enc (7 : Int), enc (([97, 98], 0) : Tx × Int), .none]
def L4 : List PyData := [enc ([] : List PyData), enc ([107, 105, 110, 100] : Tx), enc (0 : Int), .none]
theorem right_ok : ∀ one ∈ L5, ∀ two ∈ L4, ∀ k ∈ rng 0 10, got (m__law_right k one two) = some true := by decide +kernel
theorem okb {α β : Type} (a : α) (f : α → Prog β) : (Prog.ok a >>= f) = f a := Eq.trans (ok_bind a f) (Eq.refl _)
theorem all_true {n : Nat} : (List.replicate n true).all id = true := by
  induction n with
  | zero => rfl
  | succ n ih => rw [List.replicate_succ, List.all_cons, ih]; rfl
theorem law_true : wp m_law (fun b => b = true) (fun _ => False) := by
  unfold m_law
  simp only [okb, bind_bind, chk_bind, m__law_next, draw_bind, L, un, List.length_cons, List.length_nil, Nat.reduceAdd, Nat.reduceLeDiff, if_true]
  refine ⟨by decide, by decide, fun i a0 b0 => ?_⟩
  obtain ⟨one, _, m1, e1⟩ := getI_ex (xs := L5) a0 (by simpa [L5] using b0)
  show wp (getI L5 i >>= _) _ _
  rw [e1, okb]
  refine ⟨by decide, by decide, fun j a1 b1 => ?_⟩
  obtain ⟨two, _, m2, e2⟩ := getI_ex (xs := L4) a1 (by simpa [L4] using b1)
  show wp (getI L4 j >>= _) _ _
  rw [e2, okb]
  have e : mapP (fun (a37 : Int) => m__law_right a37 one two) (rng 0 10) = .ok ((rng 0 10).map fun _ => true) := mapP_ok fun k mk => got_ok (right_ok one m1 two m2 k mk)
  have c1 : inRange 10 = true := decide_eq_true (by omega)
  have c2 : small (rng 0 10).length = true := by decide
  rw [c1, c2, e, chk_true, chk_true]
  show List.all ((rng 0 10).map fun _ => true) id = true
  exact List.all_eq_true.2 fun b hb => by
    obtain ⟨_, _, rfl⟩ := List.mem_map.1 hb
    rfl
end K19

namespace K19
open PySem PySem.Spec PyProof.Rows L2 Ty
open Enc (enc)
theorem all_mk {l : PySem.W.OpenLaw} {w : World} {K : PySem.W.Frag} {h : Heap} {mg : Str → Option Value} {fa : Addr} (X : K.In h) (N : h.Ns mainGlobals mg) (hfa : mg "law" = some (.ref fa)) (hm : wp m_law (fun b => b = true) (fun _ => False))
    {X_InvalidLimit : Addr} {X_InvalidRow : Addr} {X_InvalidSigns : Addr} {X_InvalidString : Addr} {X_InvalidText : Addr} {nm_InvalidText q_InvalidText : Str} {N_InvalidText : Addr} {bs_InvalidText bm_InvalidText : List Value} {sn_InvalidText : List Str} {sub_InvalidText : List Value} {ab_InvalidText : Bool} {col_InvalidText : Option Bool} {dd_InvalidText : Option Addr} {m0_InvalidText m1_InvalidText m2_InvalidText m3_InvalidText m5_InvalidText : Option Value} {xf_InvalidText : Addr} {xod_InvalidText xan_InvalidText : Option Addr} {xsl_InvalidText : Array (Option Value)} {xoc_InvalidText xkV_InvalidText xdc_InvalidText xpm_InvalidText xcd_InvalidText xct_InvalidText : Value} {X_InvalidWay : Addr} {X_InvalidWish : Addr} {X_InvalidWord : Addr} {nm_InvalidWord q_InvalidWord : Str} {N_InvalidWord : Addr} {bs_InvalidWord bm_InvalidWord : List Value} {sn_InvalidWord : List Str} {sub_InvalidWord : List Value} {ab_InvalidWord : Bool} {col_InvalidWord : Option Bool} {dd_InvalidWord : Option Addr} {m0_InvalidWord m1_InvalidWord m2_InvalidWord m3_InvalidWord m5_InvalidWord : Option Value} {xf_InvalidWord : Addr} {xod_InvalidWord xan_InvalidWord : Option Addr} {xsl_InvalidWord : Array (Option Value)} {xoc_InvalidWord xkV_InvalidWord xdc_InvalidWord xpm_InvalidWord xcd_InvalidWord xct_InvalidWord : Value} {X_NotComparable : Addr} {X_UnknownWord : Addr} {nm_UnknownWord q_UnknownWord : Str} {N_UnknownWord : Addr} {bs_UnknownWord bm_UnknownWord : List Value} {sn_UnknownWord : List Str} {sub_UnknownWord : List Value} {ab_UnknownWord : Bool} {col_UnknownWord : Option Bool} {dd_UnknownWord : Option Addr} {m0_UnknownWord m1_UnknownWord m2_UnknownWord m3_UnknownWord m5_UnknownWord : Option Value} {xf_UnknownWord : Addr} {xod_UnknownWord xan_UnknownWord : Option Addr} {xsl_UnknownWord : Array (Option Value)} {xoc_UnknownWord xkV_UnknownWord xdc_UnknownWord xpm_UnknownWord xcd_UnknownWord xct_UnknownWord : Value} {X_RowError : Addr} {f0 : Addr} {od0 an0 : Option Addr} {sl0 : Array (Option Value)} {oc0 kV0 dc0 pm0 cd0 ct0 : Value} {f1 : Addr} {od1 an1 : Option Addr} {sl1 : Array (Option Value)} {oc1 kV1 dc1 pm1 cd1 ct1 : Value} {f2 : Addr} {od2 an2 : Option Addr} {sl2 : Array (Option Value)} {oc2 kV2 dc2 pm2 cd2 ct2 : Value} {f3 : Addr} {od3 an3 : Option Addr} {sl3 : Array (Option Value)} {oc3 kV3 dc3 pm3 cd3 ct3 : Value} {f4 : Addr} {od4 an4 : Option Addr} {sl4 : Array (Option Value)} {oc4 kV4 dc4 pm4 cd4 ct4 : Value} {f5 : Addr} {od5 an5 : Option Addr} {sl5 : Array (Option Value)} {oc5 kV5 dc5 pm5 cd5 ct5 : Value} {f6 : Addr} {od6 an6 : Option Addr} {sl6 : Array (Option Value)} {oc6 kV6 dc6 pm6 cd6 ct6 : Value} {f7 : Addr} {od7 an7 : Option Addr} {sl7 : Array (Option Value)} {oc7 kV7 dc7 pm7 cd7 ct7 : Value}
    (aX_InvalidLimit : PySem.W.nsIn K mainGlobals "InvalidLimit" = some (some (.ref X_InvalidLimit)))
    (bX_InvalidLimit : PySem.W.subIn K (.ref X_InvalidLimit) (.type "BaseException") = some true)
    (tX_InvalidLimit : PySem.W.typeIn K (.ref X_InvalidLimit) = some (.type "type"))
    (kX_InvalidLimit : PySem.W.keepIn K (.ref X_InvalidLimit) = true)
    (iX_InvalidLimit : PySem.W.isClsIn K X_InvalidLimit = true)
    (eX_InvalidLimit : PySem.W.excIn K X_InvalidLimit [.type "ValueError", .type "Exception", .type "BaseException", .type "object"] "ValueError.__new__" = true)
    (aX_InvalidRow : PySem.W.nsIn K mainGlobals "InvalidRow" = some (some (.ref X_InvalidRow)))
    (bX_InvalidRow : PySem.W.subIn K (.ref X_InvalidRow) (.type "BaseException") = some true)
    (tX_InvalidRow : PySem.W.typeIn K (.ref X_InvalidRow) = some (.type "type"))
    (kX_InvalidRow : PySem.W.keepIn K (.ref X_InvalidRow) = true)
    (iX_InvalidRow : PySem.W.isClsIn K X_InvalidRow = true)
    (eX_InvalidRow : PySem.W.excIn K X_InvalidRow [.type "ValueError", .type "Exception", .type "BaseException", .type "object"] "ValueError.__new__" = true)
    (aX_InvalidSigns : PySem.W.nsIn K mainGlobals "InvalidSigns" = some (some (.ref X_InvalidSigns)))
    (bX_InvalidSigns : PySem.W.subIn K (.ref X_InvalidSigns) (.type "BaseException") = some true)
    (tX_InvalidSigns : PySem.W.typeIn K (.ref X_InvalidSigns) = some (.type "type"))
    (kX_InvalidSigns : PySem.W.keepIn K (.ref X_InvalidSigns) = true)
    (iX_InvalidSigns : PySem.W.isClsIn K X_InvalidSigns = true)
    (eX_InvalidSigns : PySem.W.excIn K X_InvalidSigns [.type "ValueError", .type "Exception", .type "BaseException", .type "object"] "ValueError.__new__" = true)
    (aX_InvalidString : PySem.W.nsIn K mainGlobals "InvalidString" = some (some (.ref X_InvalidString)))
    (bX_InvalidString : PySem.W.subIn K (.ref X_InvalidString) (.type "BaseException") = some true)
    (tX_InvalidString : PySem.W.typeIn K (.ref X_InvalidString) = some (.type "type"))
    (kX_InvalidString : PySem.W.keepIn K (.ref X_InvalidString) = true)
    (iX_InvalidString : PySem.W.isClsIn K X_InvalidString = true)
    (eX_InvalidString : PySem.W.excIn K X_InvalidString [.type "ValueError", .type "Exception", .type "BaseException", .type "object"] "ValueError.__new__" = true)
    (aX_InvalidText : PySem.W.nsIn K mainGlobals "InvalidText" = some (some (.ref X_InvalidText)))
    (bX_InvalidText : PySem.W.subIn K (.ref X_InvalidText) (.type "BaseException") = some true)
    (tX_InvalidText : PySem.W.typeIn K (.ref X_InvalidText) = some (.type "type"))
    (kX_InvalidText : PySem.W.keepIn K (.ref X_InvalidText) = true)
    (iX_InvalidText : PySem.W.isClsIn K X_InvalidText = true)
    (xL_InvalidText : K.lookup X_InvalidText = some (excClassObj nm_InvalidText q_InvalidText X_InvalidText N_InvalidText bs_InvalidText bm_InvalidText true sn_InvalidText sub_InvalidText ab_InvalidText col_InvalidText dd_InvalidText m0_InvalidText m1_InvalidText m2_InvalidText m3_InvalidText m5_InvalidText "ValueError.__new__"))
    (rv_InvalidText : PySem.HandSPX.refsVE bm_InvalidText = true)
    (xs_InvalidText : PySem.W.findIn K (.ref X_InvalidText) "__setattr__" = some (some (.builtin "object.__setattr__")))
    (xi_InvalidText : PySem.W.findIn K (.ref X_InvalidText) "__init__" = some (some (.ref xf_InvalidText)))
    (xt_InvalidText : PySem.W.typeIn K (.ref xf_InvalidText) = some (.type "function"))
    (xl_InvalidText : K.lookup xf_InvalidText = some ⟨xoc_InvalidText, xod_InvalidText, .func (PySem.W.fnOf "__init__" "InvalidText.__init__" (defArgs s_InvalidText___init__) (defBody s_InvalidText___init__) (defScope s_InvalidText___init__) .none xkV_InvalidText xdc_InvalidText xpm_InvalidText xan_InvalidText xcd_InvalidText xct_InvalidText), xsl_InvalidText⟩)
    (xc_InvalidText : PySem.W.codeIn K xcd_InvalidText "InvalidText.__init__" = true)
    (xk_InvalidText : PySem.W.keepIn K (.ref xf_InvalidText) = true)
    (xn_InvalidText_line : PySem.W.findIn K (.ref X_InvalidText) "line" = some none)
    (xn_InvalidText_word : PySem.W.findIn K (.ref X_InvalidText) "word" = some none)
    (xga_InvalidText : PySem.W.findIn K (.ref X_InvalidText) "__getattribute__" = some (some (.builtin "BaseException.__getattribute__")))
    (xgg_InvalidText : PySem.W.findIn K (.ref X_InvalidText) "__getattr__" = some none)
    (xhd_InvalidText : PySem.W.hasDictIn K X_InvalidText = true)
    (aX_InvalidWay : PySem.W.nsIn K mainGlobals "InvalidWay" = some (some (.ref X_InvalidWay)))
    (bX_InvalidWay : PySem.W.subIn K (.ref X_InvalidWay) (.type "BaseException") = some true)
    (tX_InvalidWay : PySem.W.typeIn K (.ref X_InvalidWay) = some (.type "type"))
    (kX_InvalidWay : PySem.W.keepIn K (.ref X_InvalidWay) = true)
    (iX_InvalidWay : PySem.W.isClsIn K X_InvalidWay = true)
    (eX_InvalidWay : PySem.W.excIn K X_InvalidWay [.type "ValueError", .type "Exception", .type "BaseException", .type "object"] "ValueError.__new__" = true)
    (aX_InvalidWish : PySem.W.nsIn K mainGlobals "InvalidWish" = some (some (.ref X_InvalidWish)))
    (bX_InvalidWish : PySem.W.subIn K (.ref X_InvalidWish) (.type "BaseException") = some true)
    (tX_InvalidWish : PySem.W.typeIn K (.ref X_InvalidWish) = some (.type "type"))
    (kX_InvalidWish : PySem.W.keepIn K (.ref X_InvalidWish) = true)
    (iX_InvalidWish : PySem.W.isClsIn K X_InvalidWish = true)
    (eX_InvalidWish : PySem.W.excIn K X_InvalidWish [.type "ValueError", .type "Exception", .type "BaseException", .type "object"] "ValueError.__new__" = true)
    (aX_InvalidWord : PySem.W.nsIn K mainGlobals "InvalidWord" = some (some (.ref X_InvalidWord)))
    (bX_InvalidWord : PySem.W.subIn K (.ref X_InvalidWord) (.type "BaseException") = some true)
    (tX_InvalidWord : PySem.W.typeIn K (.ref X_InvalidWord) = some (.type "type"))
    (kX_InvalidWord : PySem.W.keepIn K (.ref X_InvalidWord) = true)
    (iX_InvalidWord : PySem.W.isClsIn K X_InvalidWord = true)
    (xL_InvalidWord : K.lookup X_InvalidWord = some (excClassObj nm_InvalidWord q_InvalidWord X_InvalidWord N_InvalidWord bs_InvalidWord bm_InvalidWord true sn_InvalidWord sub_InvalidWord ab_InvalidWord col_InvalidWord dd_InvalidWord m0_InvalidWord m1_InvalidWord m2_InvalidWord m3_InvalidWord m5_InvalidWord "ValueError.__new__"))
    (rv_InvalidWord : PySem.HandSPX.refsVE bm_InvalidWord = true)
    (xs_InvalidWord : PySem.W.findIn K (.ref X_InvalidWord) "__setattr__" = some (some (.builtin "object.__setattr__")))
    (xi_InvalidWord : PySem.W.findIn K (.ref X_InvalidWord) "__init__" = some (some (.ref xf_InvalidWord)))
    (xt_InvalidWord : PySem.W.typeIn K (.ref xf_InvalidWord) = some (.type "function"))
    (xl_InvalidWord : K.lookup xf_InvalidWord = some ⟨xoc_InvalidWord, xod_InvalidWord, .func (PySem.W.fnOf "__init__" "InvalidWord.__init__" (defArgs s_InvalidWord___init__) (defBody s_InvalidWord___init__) (defScope s_InvalidWord___init__) .none xkV_InvalidWord xdc_InvalidWord xpm_InvalidWord xan_InvalidWord xcd_InvalidWord xct_InvalidWord), xsl_InvalidWord⟩)
    (xc_InvalidWord : PySem.W.codeIn K xcd_InvalidWord "InvalidWord.__init__" = true)
    (xk_InvalidWord : PySem.W.keepIn K (.ref xf_InvalidWord) = true)
    (xn_InvalidWord_index : PySem.W.findIn K (.ref X_InvalidWord) "index" = some none)
    (xga_InvalidWord : PySem.W.findIn K (.ref X_InvalidWord) "__getattribute__" = some (some (.builtin "BaseException.__getattribute__")))
    (xgg_InvalidWord : PySem.W.findIn K (.ref X_InvalidWord) "__getattr__" = some none)
    (xhd_InvalidWord : PySem.W.hasDictIn K X_InvalidWord = true)
    (aX_NotComparable : PySem.W.nsIn K mainGlobals "NotComparable" = some (some (.ref X_NotComparable)))
    (bX_NotComparable : PySem.W.subIn K (.ref X_NotComparable) (.type "BaseException") = some true)
    (tX_NotComparable : PySem.W.typeIn K (.ref X_NotComparable) = some (.type "type"))
    (kX_NotComparable : PySem.W.keepIn K (.ref X_NotComparable) = true)
    (iX_NotComparable : PySem.W.isClsIn K X_NotComparable = true)
    (eX_NotComparable : PySem.W.excIn K X_NotComparable [.type "ValueError", .type "Exception", .type "BaseException", .type "object"] "ValueError.__new__" = true)
    (aX_UnknownWord : PySem.W.nsIn K mainGlobals "UnknownWord" = some (some (.ref X_UnknownWord)))
    (bX_UnknownWord : PySem.W.subIn K (.ref X_UnknownWord) (.type "BaseException") = some true)
    (tX_UnknownWord : PySem.W.typeIn K (.ref X_UnknownWord) = some (.type "type"))
    (kX_UnknownWord : PySem.W.keepIn K (.ref X_UnknownWord) = true)
    (iX_UnknownWord : PySem.W.isClsIn K X_UnknownWord = true)
    (xL_UnknownWord : K.lookup X_UnknownWord = some (excClassObj nm_UnknownWord q_UnknownWord X_UnknownWord N_UnknownWord bs_UnknownWord bm_UnknownWord true sn_UnknownWord sub_UnknownWord ab_UnknownWord col_UnknownWord dd_UnknownWord m0_UnknownWord m1_UnknownWord m2_UnknownWord m3_UnknownWord m5_UnknownWord "ValueError.__new__"))
    (rv_UnknownWord : PySem.HandSPX.refsVE bm_UnknownWord = true)
    (xs_UnknownWord : PySem.W.findIn K (.ref X_UnknownWord) "__setattr__" = some (some (.builtin "object.__setattr__")))
    (xi_UnknownWord : PySem.W.findIn K (.ref X_UnknownWord) "__init__" = some (some (.ref xf_UnknownWord)))
    (xt_UnknownWord : PySem.W.typeIn K (.ref xf_UnknownWord) = some (.type "function"))
    (xl_UnknownWord : K.lookup xf_UnknownWord = some ⟨xoc_UnknownWord, xod_UnknownWord, .func (PySem.W.fnOf "__init__" "UnknownWord.__init__" (defArgs s_UnknownWord___init__) (defBody s_UnknownWord___init__) (defScope s_UnknownWord___init__) .none xkV_UnknownWord xdc_UnknownWord xpm_UnknownWord xan_UnknownWord xcd_UnknownWord xct_UnknownWord), xsl_UnknownWord⟩)
    (xc_UnknownWord : PySem.W.codeIn K xcd_UnknownWord "UnknownWord.__init__" = true)
    (xk_UnknownWord : PySem.W.keepIn K (.ref xf_UnknownWord) = true)
    (xn_UnknownWord_index : PySem.W.findIn K (.ref X_UnknownWord) "index" = some none)
    (xga_UnknownWord : PySem.W.findIn K (.ref X_UnknownWord) "__getattribute__" = some (some (.builtin "BaseException.__getattribute__")))
    (xgg_UnknownWord : PySem.W.findIn K (.ref X_UnknownWord) "__getattr__" = some none)
    (xhd_UnknownWord : PySem.W.hasDictIn K X_UnknownWord = true)
    (xqga_InvalidLimit : PySem.W.findIn K (.ref X_InvalidLimit) "__getattribute__" = some (some (.builtin "BaseException.__getattribute__")))
    (xqgg_InvalidLimit : PySem.W.findIn K (.ref X_InvalidLimit) "__getattr__" = some none)
    (xqhd_InvalidLimit : PySem.W.hasDictIn K X_InvalidLimit = true)
    (xqca_InvalidLimit : PySem.W.findIn K (.ref X_InvalidLimit) "__class__" = some (some (.builtin "object.__class__")))
    (xqcm_InvalidLimit : PySem.W.mroIn K X_InvalidLimit (.type "object") = some true)
    (cn_Code : PySem.W.specialIn K (.builtin "object.__class__") "__get__" = some (some (.builtin "getset_descriptor.__get__")))
    (ct_Code : PySem.W.takesIn K (.builtin "object.__class__") = some true)
    (xqga_InvalidRow : PySem.W.findIn K (.ref X_InvalidRow) "__getattribute__" = some (some (.builtin "BaseException.__getattribute__")))
    (xqgg_InvalidRow : PySem.W.findIn K (.ref X_InvalidRow) "__getattr__" = some none)
    (xqhd_InvalidRow : PySem.W.hasDictIn K X_InvalidRow = true)
    (xqca_InvalidRow : PySem.W.findIn K (.ref X_InvalidRow) "__class__" = some (some (.builtin "object.__class__")))
    (xqcm_InvalidRow : PySem.W.mroIn K X_InvalidRow (.type "object") = some true)
    (xqga_InvalidSigns : PySem.W.findIn K (.ref X_InvalidSigns) "__getattribute__" = some (some (.builtin "BaseException.__getattribute__")))
    (xqgg_InvalidSigns : PySem.W.findIn K (.ref X_InvalidSigns) "__getattr__" = some none)
    (xqhd_InvalidSigns : PySem.W.hasDictIn K X_InvalidSigns = true)
    (xqca_InvalidSigns : PySem.W.findIn K (.ref X_InvalidSigns) "__class__" = some (some (.builtin "object.__class__")))
    (xqcm_InvalidSigns : PySem.W.mroIn K X_InvalidSigns (.type "object") = some true)
    (xqga_InvalidString : PySem.W.findIn K (.ref X_InvalidString) "__getattribute__" = some (some (.builtin "BaseException.__getattribute__")))
    (xqgg_InvalidString : PySem.W.findIn K (.ref X_InvalidString) "__getattr__" = some none)
    (xqhd_InvalidString : PySem.W.hasDictIn K X_InvalidString = true)
    (xqca_InvalidString : PySem.W.findIn K (.ref X_InvalidString) "__class__" = some (some (.builtin "object.__class__")))
    (xqcm_InvalidString : PySem.W.mroIn K X_InvalidString (.type "object") = some true)
    (xqga_InvalidText : PySem.W.findIn K (.ref X_InvalidText) "__getattribute__" = some (some (.builtin "BaseException.__getattribute__")))
    (xqgg_InvalidText : PySem.W.findIn K (.ref X_InvalidText) "__getattr__" = some none)
    (xqhd_InvalidText : PySem.W.hasDictIn K X_InvalidText = true)
    (xqca_InvalidText : PySem.W.findIn K (.ref X_InvalidText) "__class__" = some (some (.builtin "object.__class__")))
    (xqcm_InvalidText : PySem.W.mroIn K X_InvalidText (.type "object") = some true)
    (xqga_InvalidWay : PySem.W.findIn K (.ref X_InvalidWay) "__getattribute__" = some (some (.builtin "BaseException.__getattribute__")))
    (xqgg_InvalidWay : PySem.W.findIn K (.ref X_InvalidWay) "__getattr__" = some none)
    (xqhd_InvalidWay : PySem.W.hasDictIn K X_InvalidWay = true)
    (xqca_InvalidWay : PySem.W.findIn K (.ref X_InvalidWay) "__class__" = some (some (.builtin "object.__class__")))
    (xqcm_InvalidWay : PySem.W.mroIn K X_InvalidWay (.type "object") = some true)
    (xqga_InvalidWish : PySem.W.findIn K (.ref X_InvalidWish) "__getattribute__" = some (some (.builtin "BaseException.__getattribute__")))
    (xqgg_InvalidWish : PySem.W.findIn K (.ref X_InvalidWish) "__getattr__" = some none)
    (xqhd_InvalidWish : PySem.W.hasDictIn K X_InvalidWish = true)
    (xqca_InvalidWish : PySem.W.findIn K (.ref X_InvalidWish) "__class__" = some (some (.builtin "object.__class__")))
    (xqcm_InvalidWish : PySem.W.mroIn K X_InvalidWish (.type "object") = some true)
    (xqga_InvalidWord : PySem.W.findIn K (.ref X_InvalidWord) "__getattribute__" = some (some (.builtin "BaseException.__getattribute__")))
    (xqgg_InvalidWord : PySem.W.findIn K (.ref X_InvalidWord) "__getattr__" = some none)
    (xqhd_InvalidWord : PySem.W.hasDictIn K X_InvalidWord = true)
    (xqca_InvalidWord : PySem.W.findIn K (.ref X_InvalidWord) "__class__" = some (some (.builtin "object.__class__")))
    (xqcm_InvalidWord : PySem.W.mroIn K X_InvalidWord (.type "object") = some true)
    (xqga_NotComparable : PySem.W.findIn K (.ref X_NotComparable) "__getattribute__" = some (some (.builtin "BaseException.__getattribute__")))
    (xqgg_NotComparable : PySem.W.findIn K (.ref X_NotComparable) "__getattr__" = some none)
    (xqhd_NotComparable : PySem.W.hasDictIn K X_NotComparable = true)
    (xqca_NotComparable : PySem.W.findIn K (.ref X_NotComparable) "__class__" = some (some (.builtin "object.__class__")))
    (xqcm_NotComparable : PySem.W.mroIn K X_NotComparable (.type "object") = some true)
    (xqga_UnknownWord : PySem.W.findIn K (.ref X_UnknownWord) "__getattribute__" = some (some (.builtin "BaseException.__getattribute__")))
    (xqgg_UnknownWord : PySem.W.findIn K (.ref X_UnknownWord) "__getattr__" = some none)
    (xqhd_UnknownWord : PySem.W.hasDictIn K X_UnknownWord = true)
    (xqca_UnknownWord : PySem.W.findIn K (.ref X_UnknownWord) "__class__" = some (some (.builtin "object.__class__")))
    (xqcm_UnknownWord : PySem.W.mroIn K X_UnknownWord (.type "object") = some true)
    (aX_RowError : PySem.W.nsIn K mainGlobals "RowError" = some (some (.ref X_RowError)))
    (bX_RowError : PySem.W.subIn K (.ref X_RowError) (.type "BaseException") = some true)
    (tX_RowError : PySem.W.typeIn K (.ref X_RowError) = some (.type "type"))
    (iX_RowError : PySem.W.isClsIn K X_RowError = true)
    (r_InvalidLimit : PySem.W.subIn K (.ref X_InvalidLimit) (.ref X_RowError) = some true)
    (ve_InvalidLimit : PySem.W.subIn K (.ref X_InvalidLimit) (.type "ValueError") = some true)
    (ss_InvalidLimit_InvalidLimit : PySem.W.subIn K (.ref X_InvalidLimit) (.ref X_InvalidLimit) = some true)
    (ss_InvalidLimit_InvalidRow : PySem.W.subIn K (.ref X_InvalidLimit) (.ref X_InvalidRow) = some false)
    (ss_InvalidLimit_InvalidSigns : PySem.W.subIn K (.ref X_InvalidLimit) (.ref X_InvalidSigns) = some false)
    (ss_InvalidLimit_InvalidString : PySem.W.subIn K (.ref X_InvalidLimit) (.ref X_InvalidString) = some false)
    (ss_InvalidLimit_InvalidText : PySem.W.subIn K (.ref X_InvalidLimit) (.ref X_InvalidText) = some false)
    (ss_InvalidLimit_InvalidWay : PySem.W.subIn K (.ref X_InvalidLimit) (.ref X_InvalidWay) = some false)
    (ss_InvalidLimit_InvalidWish : PySem.W.subIn K (.ref X_InvalidLimit) (.ref X_InvalidWish) = some false)
    (ss_InvalidLimit_InvalidWord : PySem.W.subIn K (.ref X_InvalidLimit) (.ref X_InvalidWord) = some false)
    (ss_InvalidLimit_NotComparable : PySem.W.subIn K (.ref X_InvalidLimit) (.ref X_NotComparable) = some false)
    (ss_InvalidLimit_UnknownWord : PySem.W.subIn K (.ref X_InvalidLimit) (.ref X_UnknownWord) = some false)
    (r_InvalidRow : PySem.W.subIn K (.ref X_InvalidRow) (.ref X_RowError) = some true)
    (ve_InvalidRow : PySem.W.subIn K (.ref X_InvalidRow) (.type "ValueError") = some true)
    (ss_InvalidRow_InvalidLimit : PySem.W.subIn K (.ref X_InvalidRow) (.ref X_InvalidLimit) = some false)
    (ss_InvalidRow_InvalidRow : PySem.W.subIn K (.ref X_InvalidRow) (.ref X_InvalidRow) = some true)
    (ss_InvalidRow_InvalidSigns : PySem.W.subIn K (.ref X_InvalidRow) (.ref X_InvalidSigns) = some false)
    (ss_InvalidRow_InvalidString : PySem.W.subIn K (.ref X_InvalidRow) (.ref X_InvalidString) = some false)
    (ss_InvalidRow_InvalidText : PySem.W.subIn K (.ref X_InvalidRow) (.ref X_InvalidText) = some false)
    (ss_InvalidRow_InvalidWay : PySem.W.subIn K (.ref X_InvalidRow) (.ref X_InvalidWay) = some false)
    (ss_InvalidRow_InvalidWish : PySem.W.subIn K (.ref X_InvalidRow) (.ref X_InvalidWish) = some false)
    (ss_InvalidRow_InvalidWord : PySem.W.subIn K (.ref X_InvalidRow) (.ref X_InvalidWord) = some false)
    (ss_InvalidRow_NotComparable : PySem.W.subIn K (.ref X_InvalidRow) (.ref X_NotComparable) = some false)
    (ss_InvalidRow_UnknownWord : PySem.W.subIn K (.ref X_InvalidRow) (.ref X_UnknownWord) = some false)
    (r_InvalidSigns : PySem.W.subIn K (.ref X_InvalidSigns) (.ref X_RowError) = some true)
    (ve_InvalidSigns : PySem.W.subIn K (.ref X_InvalidSigns) (.type "ValueError") = some true)
    (ss_InvalidSigns_InvalidLimit : PySem.W.subIn K (.ref X_InvalidSigns) (.ref X_InvalidLimit) = some false)
    (ss_InvalidSigns_InvalidRow : PySem.W.subIn K (.ref X_InvalidSigns) (.ref X_InvalidRow) = some false)
    (ss_InvalidSigns_InvalidSigns : PySem.W.subIn K (.ref X_InvalidSigns) (.ref X_InvalidSigns) = some true)
    (ss_InvalidSigns_InvalidString : PySem.W.subIn K (.ref X_InvalidSigns) (.ref X_InvalidString) = some false)
    (ss_InvalidSigns_InvalidText : PySem.W.subIn K (.ref X_InvalidSigns) (.ref X_InvalidText) = some false)
    (ss_InvalidSigns_InvalidWay : PySem.W.subIn K (.ref X_InvalidSigns) (.ref X_InvalidWay) = some false)
    (ss_InvalidSigns_InvalidWish : PySem.W.subIn K (.ref X_InvalidSigns) (.ref X_InvalidWish) = some false)
    (ss_InvalidSigns_InvalidWord : PySem.W.subIn K (.ref X_InvalidSigns) (.ref X_InvalidWord) = some false)
    (ss_InvalidSigns_NotComparable : PySem.W.subIn K (.ref X_InvalidSigns) (.ref X_NotComparable) = some false)
    (ss_InvalidSigns_UnknownWord : PySem.W.subIn K (.ref X_InvalidSigns) (.ref X_UnknownWord) = some false)
    (r_InvalidString : PySem.W.subIn K (.ref X_InvalidString) (.ref X_RowError) = some true)
    (ve_InvalidString : PySem.W.subIn K (.ref X_InvalidString) (.type "ValueError") = some true)
    (ss_InvalidString_InvalidLimit : PySem.W.subIn K (.ref X_InvalidString) (.ref X_InvalidLimit) = some false)
    (ss_InvalidString_InvalidRow : PySem.W.subIn K (.ref X_InvalidString) (.ref X_InvalidRow) = some false)
    (ss_InvalidString_InvalidSigns : PySem.W.subIn K (.ref X_InvalidString) (.ref X_InvalidSigns) = some false)
    (ss_InvalidString_InvalidString : PySem.W.subIn K (.ref X_InvalidString) (.ref X_InvalidString) = some true)
    (ss_InvalidString_InvalidText : PySem.W.subIn K (.ref X_InvalidString) (.ref X_InvalidText) = some false)
    (ss_InvalidString_InvalidWay : PySem.W.subIn K (.ref X_InvalidString) (.ref X_InvalidWay) = some false)
    (ss_InvalidString_InvalidWish : PySem.W.subIn K (.ref X_InvalidString) (.ref X_InvalidWish) = some false)
    (ss_InvalidString_InvalidWord : PySem.W.subIn K (.ref X_InvalidString) (.ref X_InvalidWord) = some false)
    (ss_InvalidString_NotComparable : PySem.W.subIn K (.ref X_InvalidString) (.ref X_NotComparable) = some false)
    (ss_InvalidString_UnknownWord : PySem.W.subIn K (.ref X_InvalidString) (.ref X_UnknownWord) = some false)
    (r_InvalidText : PySem.W.subIn K (.ref X_InvalidText) (.ref X_RowError) = some true)
    (ve_InvalidText : PySem.W.subIn K (.ref X_InvalidText) (.type "ValueError") = some true)
    (ss_InvalidText_InvalidLimit : PySem.W.subIn K (.ref X_InvalidText) (.ref X_InvalidLimit) = some false)
    (ss_InvalidText_InvalidRow : PySem.W.subIn K (.ref X_InvalidText) (.ref X_InvalidRow) = some false)
    (ss_InvalidText_InvalidSigns : PySem.W.subIn K (.ref X_InvalidText) (.ref X_InvalidSigns) = some false)
    (ss_InvalidText_InvalidString : PySem.W.subIn K (.ref X_InvalidText) (.ref X_InvalidString) = some false)
    (ss_InvalidText_InvalidText : PySem.W.subIn K (.ref X_InvalidText) (.ref X_InvalidText) = some true)
    (ss_InvalidText_InvalidWay : PySem.W.subIn K (.ref X_InvalidText) (.ref X_InvalidWay) = some false)
    (ss_InvalidText_InvalidWish : PySem.W.subIn K (.ref X_InvalidText) (.ref X_InvalidWish) = some false)
    (ss_InvalidText_InvalidWord : PySem.W.subIn K (.ref X_InvalidText) (.ref X_InvalidWord) = some false)
    (ss_InvalidText_NotComparable : PySem.W.subIn K (.ref X_InvalidText) (.ref X_NotComparable) = some false)
    (ss_InvalidText_UnknownWord : PySem.W.subIn K (.ref X_InvalidText) (.ref X_UnknownWord) = some false)
    (r_InvalidWay : PySem.W.subIn K (.ref X_InvalidWay) (.ref X_RowError) = some true)
    (ve_InvalidWay : PySem.W.subIn K (.ref X_InvalidWay) (.type "ValueError") = some true)
    (ss_InvalidWay_InvalidLimit : PySem.W.subIn K (.ref X_InvalidWay) (.ref X_InvalidLimit) = some false)
    (ss_InvalidWay_InvalidRow : PySem.W.subIn K (.ref X_InvalidWay) (.ref X_InvalidRow) = some false)
    (ss_InvalidWay_InvalidSigns : PySem.W.subIn K (.ref X_InvalidWay) (.ref X_InvalidSigns) = some false)
    (ss_InvalidWay_InvalidString : PySem.W.subIn K (.ref X_InvalidWay) (.ref X_InvalidString) = some false)
    (ss_InvalidWay_InvalidText : PySem.W.subIn K (.ref X_InvalidWay) (.ref X_InvalidText) = some false)
    (ss_InvalidWay_InvalidWay : PySem.W.subIn K (.ref X_InvalidWay) (.ref X_InvalidWay) = some true)
    (ss_InvalidWay_InvalidWish : PySem.W.subIn K (.ref X_InvalidWay) (.ref X_InvalidWish) = some false)
    (ss_InvalidWay_InvalidWord : PySem.W.subIn K (.ref X_InvalidWay) (.ref X_InvalidWord) = some false)
    (ss_InvalidWay_NotComparable : PySem.W.subIn K (.ref X_InvalidWay) (.ref X_NotComparable) = some false)
    (ss_InvalidWay_UnknownWord : PySem.W.subIn K (.ref X_InvalidWay) (.ref X_UnknownWord) = some false)
    (r_InvalidWish : PySem.W.subIn K (.ref X_InvalidWish) (.ref X_RowError) = some true)
    (ve_InvalidWish : PySem.W.subIn K (.ref X_InvalidWish) (.type "ValueError") = some true)
    (ss_InvalidWish_InvalidLimit : PySem.W.subIn K (.ref X_InvalidWish) (.ref X_InvalidLimit) = some false)
    (ss_InvalidWish_InvalidRow : PySem.W.subIn K (.ref X_InvalidWish) (.ref X_InvalidRow) = some false)
    (ss_InvalidWish_InvalidSigns : PySem.W.subIn K (.ref X_InvalidWish) (.ref X_InvalidSigns) = some false)
    (ss_InvalidWish_InvalidString : PySem.W.subIn K (.ref X_InvalidWish) (.ref X_InvalidString) = some false)
    (ss_InvalidWish_InvalidText : PySem.W.subIn K (.ref X_InvalidWish) (.ref X_InvalidText) = some false)
    (ss_InvalidWish_InvalidWay : PySem.W.subIn K (.ref X_InvalidWish) (.ref X_InvalidWay) = some false)
    (ss_InvalidWish_InvalidWish : PySem.W.subIn K (.ref X_InvalidWish) (.ref X_InvalidWish) = some true)
    (ss_InvalidWish_InvalidWord : PySem.W.subIn K (.ref X_InvalidWish) (.ref X_InvalidWord) = some false)
    (ss_InvalidWish_NotComparable : PySem.W.subIn K (.ref X_InvalidWish) (.ref X_NotComparable) = some false)
    (ss_InvalidWish_UnknownWord : PySem.W.subIn K (.ref X_InvalidWish) (.ref X_UnknownWord) = some false)
    (r_InvalidWord : PySem.W.subIn K (.ref X_InvalidWord) (.ref X_RowError) = some true)
    (ve_InvalidWord : PySem.W.subIn K (.ref X_InvalidWord) (.type "ValueError") = some true)
    (ss_InvalidWord_InvalidLimit : PySem.W.subIn K (.ref X_InvalidWord) (.ref X_InvalidLimit) = some false)
    (ss_InvalidWord_InvalidRow : PySem.W.subIn K (.ref X_InvalidWord) (.ref X_InvalidRow) = some false)
    (ss_InvalidWord_InvalidSigns : PySem.W.subIn K (.ref X_InvalidWord) (.ref X_InvalidSigns) = some false)
    (ss_InvalidWord_InvalidString : PySem.W.subIn K (.ref X_InvalidWord) (.ref X_InvalidString) = some false)
    (ss_InvalidWord_InvalidText : PySem.W.subIn K (.ref X_InvalidWord) (.ref X_InvalidText) = some false)
    (ss_InvalidWord_InvalidWay : PySem.W.subIn K (.ref X_InvalidWord) (.ref X_InvalidWay) = some false)
    (ss_InvalidWord_InvalidWish : PySem.W.subIn K (.ref X_InvalidWord) (.ref X_InvalidWish) = some false)
    (ss_InvalidWord_InvalidWord : PySem.W.subIn K (.ref X_InvalidWord) (.ref X_InvalidWord) = some true)
    (ss_InvalidWord_NotComparable : PySem.W.subIn K (.ref X_InvalidWord) (.ref X_NotComparable) = some false)
    (ss_InvalidWord_UnknownWord : PySem.W.subIn K (.ref X_InvalidWord) (.ref X_UnknownWord) = some false)
    (r_NotComparable : PySem.W.subIn K (.ref X_NotComparable) (.ref X_RowError) = some true)
    (ve_NotComparable : PySem.W.subIn K (.ref X_NotComparable) (.type "ValueError") = some true)
    (ss_NotComparable_InvalidLimit : PySem.W.subIn K (.ref X_NotComparable) (.ref X_InvalidLimit) = some false)
    (ss_NotComparable_InvalidRow : PySem.W.subIn K (.ref X_NotComparable) (.ref X_InvalidRow) = some false)
    (ss_NotComparable_InvalidSigns : PySem.W.subIn K (.ref X_NotComparable) (.ref X_InvalidSigns) = some false)
    (ss_NotComparable_InvalidString : PySem.W.subIn K (.ref X_NotComparable) (.ref X_InvalidString) = some false)
    (ss_NotComparable_InvalidText : PySem.W.subIn K (.ref X_NotComparable) (.ref X_InvalidText) = some false)
    (ss_NotComparable_InvalidWay : PySem.W.subIn K (.ref X_NotComparable) (.ref X_InvalidWay) = some false)
    (ss_NotComparable_InvalidWish : PySem.W.subIn K (.ref X_NotComparable) (.ref X_InvalidWish) = some false)
    (ss_NotComparable_InvalidWord : PySem.W.subIn K (.ref X_NotComparable) (.ref X_InvalidWord) = some false)
    (ss_NotComparable_NotComparable : PySem.W.subIn K (.ref X_NotComparable) (.ref X_NotComparable) = some true)
    (ss_NotComparable_UnknownWord : PySem.W.subIn K (.ref X_NotComparable) (.ref X_UnknownWord) = some false)
    (r_UnknownWord : PySem.W.subIn K (.ref X_UnknownWord) (.ref X_RowError) = some true)
    (ve_UnknownWord : PySem.W.subIn K (.ref X_UnknownWord) (.type "ValueError") = some true)
    (ss_UnknownWord_InvalidLimit : PySem.W.subIn K (.ref X_UnknownWord) (.ref X_InvalidLimit) = some false)
    (ss_UnknownWord_InvalidRow : PySem.W.subIn K (.ref X_UnknownWord) (.ref X_InvalidRow) = some false)
    (ss_UnknownWord_InvalidSigns : PySem.W.subIn K (.ref X_UnknownWord) (.ref X_InvalidSigns) = some false)
    (ss_UnknownWord_InvalidString : PySem.W.subIn K (.ref X_UnknownWord) (.ref X_InvalidString) = some false)
    (ss_UnknownWord_InvalidText : PySem.W.subIn K (.ref X_UnknownWord) (.ref X_InvalidText) = some false)
    (ss_UnknownWord_InvalidWay : PySem.W.subIn K (.ref X_UnknownWord) (.ref X_InvalidWay) = some false)
    (ss_UnknownWord_InvalidWish : PySem.W.subIn K (.ref X_UnknownWord) (.ref X_InvalidWish) = some false)
    (ss_UnknownWord_InvalidWord : PySem.W.subIn K (.ref X_UnknownWord) (.ref X_InvalidWord) = some false)
    (ss_UnknownWord_NotComparable : PySem.W.subIn K (.ref X_UnknownWord) (.ref X_NotComparable) = some false)
    (ss_UnknownWord_UnknownWord : PySem.W.subIn K (.ref X_UnknownWord) (.ref X_UnknownWord) = some true)
    (a0 : PySem.W.nsIn K mainGlobals "_law_mix" = some (some (.ref f0)))
    (l0 : K.lookup f0 = some ⟨oc0, od0, .func (PySem.W.fnOf "_law_mix" "_law_mix" (defArgs s__law_mix) (defBody s__law_mix) (defScope s__law_mix) .none kV0 dc0 pm0 an0 cd0 ct0), sl0⟩)
    (c0 : PySem.W.codeIn K cd0 "_law_mix" = true)
    (k0 : PySem.W.keepIn K (.ref f0) = true)
    (a1 : PySem.W.nsIn K mainGlobals "_law_next" = some (some (.ref f1)))
    (l1 : K.lookup f1 = some ⟨oc1, od1, .func (PySem.W.fnOf "_law_next" "_law_next" (defArgs s__law_next) (defBody s__law_next) (defScope s__law_next) .none kV1 dc1 pm1 an1 cd1 ct1), sl1⟩)
    (c1 : PySem.W.codeIn K cd1 "_law_next" = true)
    (k1 : PySem.W.keepIn K (.ref f1) = true)
    (a2 : PySem.W.nsIn K mainGlobals "_law_bare" = some (some (.ref f2)))
    (l2 : K.lookup f2 = some ⟨oc2, od2, .func (PySem.W.fnOf "_law_bare" "_law_bare" (defArgs s__law_bare) (defBody s__law_bare) (defScope s__law_bare) .none kV2 dc2 pm2 an2 cd2 ct2), sl2⟩)
    (c2 : PySem.W.codeIn K cd2 "_law_bare" = true)
    (k2 : PySem.W.keepIn K (.ref f2) = true)
    (a3 : PySem.W.nsIn K mainGlobals "_law_thrown" = some (some (.ref f3)))
    (l3 : K.lookup f3 = some ⟨oc3, od3, .func (PySem.W.fnOf "_law_thrown" "_law_thrown" (defArgs s__law_thrown) (defBody s__law_thrown) (defScope s__law_thrown) .none kV3 dc3 pm3 an3 cd3 ct3), sl3⟩)
    (c3 : PySem.W.codeIn K cd3 "_law_thrown" = true)
    (k3 : PySem.W.keepIn K (.ref f3) = true)
    (a4 : PySem.W.nsIn K mainGlobals "_law_classes" = some (some (.ref f4)))
    (l4 : K.lookup f4 = some ⟨oc4, od4, .func (PySem.W.fnOf "_law_classes" "_law_classes" (defArgs s__law_classes) (defBody s__law_classes) (defScope s__law_classes) .none kV4 dc4 pm4 an4 cd4 ct4), sl4⟩)
    (c4 : PySem.W.codeIn K cd4 "_law_classes" = true)
    (k4 : PySem.W.keepIn K (.ref f4) = true)
    (a5 : PySem.W.nsIn K mainGlobals "_law_parts" = some (some (.ref f5)))
    (l5 : K.lookup f5 = some ⟨oc5, od5, .func (PySem.W.fnOf "_law_parts" "_law_parts" (defArgs s__law_parts) (defBody s__law_parts) (defScope s__law_parts) .none kV5 dc5 pm5 an5 cd5 ct5), sl5⟩)
    (c5 : PySem.W.codeIn K cd5 "_law_parts" = true)
    (k5 : PySem.W.keepIn K (.ref f5) = true)
    (a6 : PySem.W.nsIn K mainGlobals "_law_right" = some (some (.ref f6)))
    (l6 : K.lookup f6 = some ⟨oc6, od6, .func (PySem.W.fnOf "_law_right" "_law_right" (defArgs s__law_right) (defBody s__law_right) (defScope s__law_right) .none kV6 dc6 pm6 an6 cd6 ct6), sl6⟩)
    (c6 : PySem.W.codeIn K cd6 "_law_right" = true)
    (k6 : PySem.W.keepIn K (.ref f6) = true)
    (a7 : PySem.W.nsIn K mainGlobals "law" = some (some (.ref f7)))
    (l7 : K.lookup f7 = some ⟨oc7, od7, .func (PySem.W.fnOf "law" "law" (defArgs s_law) (defBody s_law) (defScope s_law) .none kV7 dc7 pm7 an7 cd7 ct7), sl7⟩)
    (c7 : PySem.W.codeIn K cd7 "law" = true)
    (k7 : PySem.W.keepIn K (.ref f7) = true)
    (z_ValueError : PySem.W.nsIn K mainGlobals "ValueError" = some none)
    (z_all : PySem.W.nsIn K mainGlobals "all" = some none)
    (z_int : PySem.W.nsIn K mainGlobals "int" = some none)
    (z_isinstance : PySem.W.nsIn K mainGlobals "isinstance" = some none)
    (z_len : PySem.W.nsIn K mainGlobals "len" = some none)
    (z_list : PySem.W.nsIn K mainGlobals "list" = some none)
    (z_max : PySem.W.nsIn K mainGlobals "max" = some none)
    (z_range : PySem.W.nsIn K mainGlobals "range" = some none) :
    ∃ fd : FuncData, (∀ (s : Shared) (v : Value), BindsTo s fd ⟨[v], []⟩ [("_law_script", v)]) ∧ ∀ base : Heap, K.In base → base.Ns mainGlobals mg → FnOk l.prog w K mg base (L2.CX l.prog w) 5 fa fd ["_law_script"] (SpLaw K) := by
  rw [show fa = f7 from by have e := hfa.symm.trans (PySem.W.mg_of X N a7); cases e; rfl]
  exact ⟨PySem.W.fnOf "law" "law" (defArgs s_law) (defBody s_law) (defScope s_law) .none kV7 dc7 pm7 an7 cd7 ct7, fun s v => .of_eq rfl, fun base _ _ =>
    ok_law (G := ⟨K, 0, fun s => if s = "InvalidLimit" then X_InvalidLimit else if s = "InvalidRow" then X_InvalidRow else if s = "InvalidSigns" then X_InvalidSigns else if s = "InvalidString" then X_InvalidString else if s = "InvalidText" then X_InvalidText else if s = "InvalidWay" then X_InvalidWay else if s = "InvalidWish" then X_InvalidWish else if s = "InvalidWord" then X_InvalidWord else if s = "NotComparable" then X_NotComparable else if s = "UnknownWord" then X_UnknownWord else if s = "RowError" then X_RowError else 0, fun _ => 0, l.prog, w⟩) (mg := mg) {
      x_InvalidLimit := ⟨PySem.W.mg_of X N aX_InvalidLimit, eX_InvalidLimit, kX_InvalidLimit, bX_InvalidLimit, tX_InvalidLimit⟩,
      x_InvalidRow := ⟨PySem.W.mg_of X N aX_InvalidRow, eX_InvalidRow, kX_InvalidRow, bX_InvalidRow, tX_InvalidRow⟩,
      x_InvalidSigns := ⟨PySem.W.mg_of X N aX_InvalidSigns, eX_InvalidSigns, kX_InvalidSigns, bX_InvalidSigns, tX_InvalidSigns⟩,
      x_InvalidString := ⟨PySem.W.mg_of X N aX_InvalidString, eX_InvalidString, kX_InvalidString, bX_InvalidString, tX_InvalidString⟩,
      x_InvalidText := ⟨xf_InvalidText, _, (fun_mk (st := s_InvalidText___init__) xl_InvalidText xc_InvalidText xk_InvalidText), ((fun_mk (st := s_InvalidText___init__) xl_InvalidText xc_InvalidText xk_InvalidText).binds (ps := ["self", "line", "word"]) fun _ _ _ _ _ _ us hl => match us, hl with | [_, _, _], _ => rfl), PySem.W.mg_of X N aX_InvalidText, ⟨⟨_, _, _, _, _, _, _, _, _, _, _, _, _, _, _, xL_InvalidText, rv_InvalidText⟩, xs_InvalidText, bX_InvalidText, tX_InvalidText, kX_InvalidText⟩, xi_InvalidText, xt_InvalidText, xn_InvalidText_line, xn_InvalidText_word, ⟨xga_InvalidText, xgg_InvalidText, bX_InvalidText, xhd_InvalidText⟩⟩,
      x_InvalidWay := ⟨PySem.W.mg_of X N aX_InvalidWay, eX_InvalidWay, kX_InvalidWay, bX_InvalidWay, tX_InvalidWay⟩,
      x_InvalidWish := ⟨PySem.W.mg_of X N aX_InvalidWish, eX_InvalidWish, kX_InvalidWish, bX_InvalidWish, tX_InvalidWish⟩,
      x_InvalidWord := ⟨xf_InvalidWord, _, (fun_mk (st := s_InvalidWord___init__) xl_InvalidWord xc_InvalidWord xk_InvalidWord), ((fun_mk (st := s_InvalidWord___init__) xl_InvalidWord xc_InvalidWord xk_InvalidWord).binds (ps := ["self", "index"]) fun _ _ _ _ _ _ us hl => match us, hl with | [_, _], _ => rfl), PySem.W.mg_of X N aX_InvalidWord, ⟨⟨_, _, _, _, _, _, _, _, _, _, _, _, _, _, _, xL_InvalidWord, rv_InvalidWord⟩, xs_InvalidWord, bX_InvalidWord, tX_InvalidWord, kX_InvalidWord⟩, xi_InvalidWord, xt_InvalidWord, xn_InvalidWord_index, ⟨xga_InvalidWord, xgg_InvalidWord, bX_InvalidWord, xhd_InvalidWord⟩⟩,
      x_NotComparable := ⟨PySem.W.mg_of X N aX_NotComparable, eX_NotComparable, kX_NotComparable, bX_NotComparable, tX_NotComparable⟩,
      x_UnknownWord := ⟨xf_UnknownWord, _, (fun_mk (st := s_UnknownWord___init__) xl_UnknownWord xc_UnknownWord xk_UnknownWord), ((fun_mk (st := s_UnknownWord___init__) xl_UnknownWord xc_UnknownWord xk_UnknownWord).binds (ps := ["self", "index"]) fun _ _ _ _ _ _ us hl => match us, hl with | [_, _], _ => rfl), PySem.W.mg_of X N aX_UnknownWord, ⟨⟨_, _, _, _, _, _, _, _, _, _, _, _, _, _, _, xL_UnknownWord, rv_UnknownWord⟩, xs_UnknownWord, bX_UnknownWord, tX_UnknownWord, kX_UnknownWord⟩, xi_UnknownWord, xt_UnknownWord, xn_UnknownWord_index, ⟨xga_UnknownWord, xgg_UnknownWord, bX_UnknownWord, xhd_UnknownWord⟩⟩,
      xq_InvalidLimit := ⟨xqga_InvalidLimit, xqgg_InvalidLimit, bX_InvalidLimit, xqhd_InvalidLimit, xqca_InvalidLimit, cn_Code, ct_Code, xqcm_InvalidLimit⟩,
      xq_InvalidRow := ⟨xqga_InvalidRow, xqgg_InvalidRow, bX_InvalidRow, xqhd_InvalidRow, xqca_InvalidRow, cn_Code, ct_Code, xqcm_InvalidRow⟩,
      xq_InvalidSigns := ⟨xqga_InvalidSigns, xqgg_InvalidSigns, bX_InvalidSigns, xqhd_InvalidSigns, xqca_InvalidSigns, cn_Code, ct_Code, xqcm_InvalidSigns⟩,
      xq_InvalidString := ⟨xqga_InvalidString, xqgg_InvalidString, bX_InvalidString, xqhd_InvalidString, xqca_InvalidString, cn_Code, ct_Code, xqcm_InvalidString⟩,
      xq_InvalidText := ⟨xqga_InvalidText, xqgg_InvalidText, bX_InvalidText, xqhd_InvalidText, xqca_InvalidText, cn_Code, ct_Code, xqcm_InvalidText⟩,
      xq_InvalidWay := ⟨xqga_InvalidWay, xqgg_InvalidWay, bX_InvalidWay, xqhd_InvalidWay, xqca_InvalidWay, cn_Code, ct_Code, xqcm_InvalidWay⟩,
      xq_InvalidWish := ⟨xqga_InvalidWish, xqgg_InvalidWish, bX_InvalidWish, xqhd_InvalidWish, xqca_InvalidWish, cn_Code, ct_Code, xqcm_InvalidWish⟩,
      xq_InvalidWord := ⟨xqga_InvalidWord, xqgg_InvalidWord, bX_InvalidWord, xqhd_InvalidWord, xqca_InvalidWord, cn_Code, ct_Code, xqcm_InvalidWord⟩,
      xq_NotComparable := ⟨xqga_NotComparable, xqgg_NotComparable, bX_NotComparable, xqhd_NotComparable, xqca_NotComparable, cn_Code, ct_Code, xqcm_NotComparable⟩,
      xq_UnknownWord := ⟨xqga_UnknownWord, xqgg_UnknownWord, bX_UnknownWord, xqhd_UnknownWord, xqca_UnknownWord, cn_Code, ct_Code, xqcm_UnknownWord⟩,
      g_RowError := PySem.W.mg_of X N aX_RowError,
      xr := (fun y hy => by
      simp only [List.mem_cons, List.not_mem_nil, or_false] at hy
      rcases hy with rfl | rfl | rfl | rfl | rfl | rfl | rfl | rfl | rfl | rfl
      · exact exm_mk bX_RowError iX_RowError tX_RowError r_InvalidLimit
      · exact exm_mk bX_RowError iX_RowError tX_RowError r_InvalidRow
      · exact exm_mk bX_RowError iX_RowError tX_RowError r_InvalidSigns
      · exact exm_mk bX_RowError iX_RowError tX_RowError r_InvalidString
      · exact exm_mk bX_RowError iX_RowError tX_RowError r_InvalidText
      · exact exm_mk bX_RowError iX_RowError tX_RowError r_InvalidWay
      · exact exm_mk bX_RowError iX_RowError tX_RowError r_InvalidWish
      · exact exm_mk bX_RowError iX_RowError tX_RowError r_InvalidWord
      · exact exm_mk bX_RowError iX_RowError tX_RowError r_NotComparable
      · exact exm_mk bX_RowError iX_RowError tX_RowError r_UnknownWord),
      kve := (fun y hy => by
      simp only [List.mem_cons, List.not_mem_nil, or_false] at hy
      rcases hy with rfl | rfl | rfl | rfl | rfl | rfl | rfl | rfl | rfl | rfl
      · exact ⟨⟨xqga_InvalidLimit, xqgg_InvalidLimit, bX_InvalidLimit, xqhd_InvalidLimit, xqca_InvalidLimit, cn_Code, ct_Code, xqcm_InvalidLimit⟩, kit_ve ve_InvalidLimit⟩
      · exact ⟨⟨xqga_InvalidRow, xqgg_InvalidRow, bX_InvalidRow, xqhd_InvalidRow, xqca_InvalidRow, cn_Code, ct_Code, xqcm_InvalidRow⟩, kit_ve ve_InvalidRow⟩
      · exact ⟨⟨xqga_InvalidSigns, xqgg_InvalidSigns, bX_InvalidSigns, xqhd_InvalidSigns, xqca_InvalidSigns, cn_Code, ct_Code, xqcm_InvalidSigns⟩, kit_ve ve_InvalidSigns⟩
      · exact ⟨⟨xqga_InvalidString, xqgg_InvalidString, bX_InvalidString, xqhd_InvalidString, xqca_InvalidString, cn_Code, ct_Code, xqcm_InvalidString⟩, kit_ve ve_InvalidString⟩
      · exact ⟨⟨xqga_InvalidText, xqgg_InvalidText, bX_InvalidText, xqhd_InvalidText, xqca_InvalidText, cn_Code, ct_Code, xqcm_InvalidText⟩, kit_ve ve_InvalidText⟩
      · exact ⟨⟨xqga_InvalidWay, xqgg_InvalidWay, bX_InvalidWay, xqhd_InvalidWay, xqca_InvalidWay, cn_Code, ct_Code, xqcm_InvalidWay⟩, kit_ve ve_InvalidWay⟩
      · exact ⟨⟨xqga_InvalidWish, xqgg_InvalidWish, bX_InvalidWish, xqhd_InvalidWish, xqca_InvalidWish, cn_Code, ct_Code, xqcm_InvalidWish⟩, kit_ve ve_InvalidWish⟩
      · exact ⟨⟨xqga_InvalidWord, xqgg_InvalidWord, bX_InvalidWord, xqhd_InvalidWord, xqca_InvalidWord, cn_Code, ct_Code, xqcm_InvalidWord⟩, kit_ve ve_InvalidWord⟩
      · exact ⟨⟨xqga_NotComparable, xqgg_NotComparable, bX_NotComparable, xqhd_NotComparable, xqca_NotComparable, cn_Code, ct_Code, xqcm_NotComparable⟩, kit_ve ve_NotComparable⟩
      · exact ⟨⟨xqga_UnknownWord, xqgg_UnknownWord, bX_UnknownWord, xqhd_UnknownWord, xqca_UnknownWord, cn_Code, ct_Code, xqcm_UnknownWord⟩, kit_ve ve_UnknownWord⟩),
      kx_InvalidLimit := (fun y hy => by
      simp only [List.mem_cons, List.not_mem_nil, or_false] at hy
      rcases hy with rfl | rfl | rfl | rfl | rfl | rfl | rfl | rfl | rfl | rfl
      · exact ⟨⟨xqga_InvalidLimit, xqgg_InvalidLimit, bX_InvalidLimit, xqhd_InvalidLimit, xqca_InvalidLimit, cn_Code, ct_Code, xqcm_InvalidLimit⟩, kit_b iX_InvalidLimit tX_InvalidLimit ss_InvalidLimit_InvalidLimit ss_InvalidLimit_InvalidLimit⟩
      · exact ⟨⟨xqga_InvalidRow, xqgg_InvalidRow, bX_InvalidRow, xqhd_InvalidRow, xqca_InvalidRow, cn_Code, ct_Code, xqcm_InvalidRow⟩, kit_b iX_InvalidLimit tX_InvalidLimit ss_InvalidRow_InvalidLimit ss_InvalidLimit_InvalidLimit⟩
      · exact ⟨⟨xqga_InvalidSigns, xqgg_InvalidSigns, bX_InvalidSigns, xqhd_InvalidSigns, xqca_InvalidSigns, cn_Code, ct_Code, xqcm_InvalidSigns⟩, kit_b iX_InvalidLimit tX_InvalidLimit ss_InvalidSigns_InvalidLimit ss_InvalidLimit_InvalidLimit⟩
      · exact ⟨⟨xqga_InvalidString, xqgg_InvalidString, bX_InvalidString, xqhd_InvalidString, xqca_InvalidString, cn_Code, ct_Code, xqcm_InvalidString⟩, kit_b iX_InvalidLimit tX_InvalidLimit ss_InvalidString_InvalidLimit ss_InvalidLimit_InvalidLimit⟩
      · exact ⟨⟨xqga_InvalidText, xqgg_InvalidText, bX_InvalidText, xqhd_InvalidText, xqca_InvalidText, cn_Code, ct_Code, xqcm_InvalidText⟩, kit_b iX_InvalidLimit tX_InvalidLimit ss_InvalidText_InvalidLimit ss_InvalidLimit_InvalidLimit⟩
      · exact ⟨⟨xqga_InvalidWay, xqgg_InvalidWay, bX_InvalidWay, xqhd_InvalidWay, xqca_InvalidWay, cn_Code, ct_Code, xqcm_InvalidWay⟩, kit_b iX_InvalidLimit tX_InvalidLimit ss_InvalidWay_InvalidLimit ss_InvalidLimit_InvalidLimit⟩
      · exact ⟨⟨xqga_InvalidWish, xqgg_InvalidWish, bX_InvalidWish, xqhd_InvalidWish, xqca_InvalidWish, cn_Code, ct_Code, xqcm_InvalidWish⟩, kit_b iX_InvalidLimit tX_InvalidLimit ss_InvalidWish_InvalidLimit ss_InvalidLimit_InvalidLimit⟩
      · exact ⟨⟨xqga_InvalidWord, xqgg_InvalidWord, bX_InvalidWord, xqhd_InvalidWord, xqca_InvalidWord, cn_Code, ct_Code, xqcm_InvalidWord⟩, kit_b iX_InvalidLimit tX_InvalidLimit ss_InvalidWord_InvalidLimit ss_InvalidLimit_InvalidLimit⟩
      · exact ⟨⟨xqga_NotComparable, xqgg_NotComparable, bX_NotComparable, xqhd_NotComparable, xqca_NotComparable, cn_Code, ct_Code, xqcm_NotComparable⟩, kit_b iX_InvalidLimit tX_InvalidLimit ss_NotComparable_InvalidLimit ss_InvalidLimit_InvalidLimit⟩
      · exact ⟨⟨xqga_UnknownWord, xqgg_UnknownWord, bX_UnknownWord, xqhd_UnknownWord, xqca_UnknownWord, cn_Code, ct_Code, xqcm_UnknownWord⟩, kit_b iX_InvalidLimit tX_InvalidLimit ss_UnknownWord_InvalidLimit ss_InvalidLimit_InvalidLimit⟩),
      kx_InvalidRow := (fun y hy => by
      simp only [List.mem_cons, List.not_mem_nil, or_false] at hy
      rcases hy with rfl | rfl | rfl | rfl | rfl | rfl | rfl | rfl | rfl | rfl
      · exact ⟨⟨xqga_InvalidLimit, xqgg_InvalidLimit, bX_InvalidLimit, xqhd_InvalidLimit, xqca_InvalidLimit, cn_Code, ct_Code, xqcm_InvalidLimit⟩, kit_b iX_InvalidRow tX_InvalidRow ss_InvalidLimit_InvalidRow ss_InvalidRow_InvalidRow⟩
      · exact ⟨⟨xqga_InvalidRow, xqgg_InvalidRow, bX_InvalidRow, xqhd_InvalidRow, xqca_InvalidRow, cn_Code, ct_Code, xqcm_InvalidRow⟩, kit_b iX_InvalidRow tX_InvalidRow ss_InvalidRow_InvalidRow ss_InvalidRow_InvalidRow⟩
      · exact ⟨⟨xqga_InvalidSigns, xqgg_InvalidSigns, bX_InvalidSigns, xqhd_InvalidSigns, xqca_InvalidSigns, cn_Code, ct_Code, xqcm_InvalidSigns⟩, kit_b iX_InvalidRow tX_InvalidRow ss_InvalidSigns_InvalidRow ss_InvalidRow_InvalidRow⟩
      · exact ⟨⟨xqga_InvalidString, xqgg_InvalidString, bX_InvalidString, xqhd_InvalidString, xqca_InvalidString, cn_Code, ct_Code, xqcm_InvalidString⟩, kit_b iX_InvalidRow tX_InvalidRow ss_InvalidString_InvalidRow ss_InvalidRow_InvalidRow⟩
      · exact ⟨⟨xqga_InvalidText, xqgg_InvalidText, bX_InvalidText, xqhd_InvalidText, xqca_InvalidText, cn_Code, ct_Code, xqcm_InvalidText⟩, kit_b iX_InvalidRow tX_InvalidRow ss_InvalidText_InvalidRow ss_InvalidRow_InvalidRow⟩
      · exact ⟨⟨xqga_InvalidWay, xqgg_InvalidWay, bX_InvalidWay, xqhd_InvalidWay, xqca_InvalidWay, cn_Code, ct_Code, xqcm_InvalidWay⟩, kit_b iX_InvalidRow tX_InvalidRow ss_InvalidWay_InvalidRow ss_InvalidRow_InvalidRow⟩
      · exact ⟨⟨xqga_InvalidWish, xqgg_InvalidWish, bX_InvalidWish, xqhd_InvalidWish, xqca_InvalidWish, cn_Code, ct_Code, xqcm_InvalidWish⟩, kit_b iX_InvalidRow tX_InvalidRow ss_InvalidWish_InvalidRow ss_InvalidRow_InvalidRow⟩
      · exact ⟨⟨xqga_InvalidWord, xqgg_InvalidWord, bX_InvalidWord, xqhd_InvalidWord, xqca_InvalidWord, cn_Code, ct_Code, xqcm_InvalidWord⟩, kit_b iX_InvalidRow tX_InvalidRow ss_InvalidWord_InvalidRow ss_InvalidRow_InvalidRow⟩
      · exact ⟨⟨xqga_NotComparable, xqgg_NotComparable, bX_NotComparable, xqhd_NotComparable, xqca_NotComparable, cn_Code, ct_Code, xqcm_NotComparable⟩, kit_b iX_InvalidRow tX_InvalidRow ss_NotComparable_InvalidRow ss_InvalidRow_InvalidRow⟩
      · exact ⟨⟨xqga_UnknownWord, xqgg_UnknownWord, bX_UnknownWord, xqhd_UnknownWord, xqca_UnknownWord, cn_Code, ct_Code, xqcm_UnknownWord⟩, kit_b iX_InvalidRow tX_InvalidRow ss_UnknownWord_InvalidRow ss_InvalidRow_InvalidRow⟩),
      kx_InvalidSigns := (fun y hy => by
      simp only [List.mem_cons, List.not_mem_nil, or_false] at hy
      rcases hy with rfl | rfl | rfl | rfl | rfl | rfl | rfl | rfl | rfl | rfl
      · exact ⟨⟨xqga_InvalidLimit, xqgg_InvalidLimit, bX_InvalidLimit, xqhd_InvalidLimit, xqca_InvalidLimit, cn_Code, ct_Code, xqcm_InvalidLimit⟩, kit_b iX_InvalidSigns tX_InvalidSigns ss_InvalidLimit_InvalidSigns ss_InvalidSigns_InvalidSigns⟩
      · exact ⟨⟨xqga_InvalidRow, xqgg_InvalidRow, bX_InvalidRow, xqhd_InvalidRow, xqca_InvalidRow, cn_Code, ct_Code, xqcm_InvalidRow⟩, kit_b iX_InvalidSigns tX_InvalidSigns ss_InvalidRow_InvalidSigns ss_InvalidSigns_InvalidSigns⟩
      · exact ⟨⟨xqga_InvalidSigns, xqgg_InvalidSigns, bX_InvalidSigns, xqhd_InvalidSigns, xqca_InvalidSigns, cn_Code, ct_Code, xqcm_InvalidSigns⟩, kit_b iX_InvalidSigns tX_InvalidSigns ss_InvalidSigns_InvalidSigns ss_InvalidSigns_InvalidSigns⟩
      · exact ⟨⟨xqga_InvalidString, xqgg_InvalidString, bX_InvalidString, xqhd_InvalidString, xqca_InvalidString, cn_Code, ct_Code, xqcm_InvalidString⟩, kit_b iX_InvalidSigns tX_InvalidSigns ss_InvalidString_InvalidSigns ss_InvalidSigns_InvalidSigns⟩
      · exact ⟨⟨xqga_InvalidText, xqgg_InvalidText, bX_InvalidText, xqhd_InvalidText, xqca_InvalidText, cn_Code, ct_Code, xqcm_InvalidText⟩, kit_b iX_InvalidSigns tX_InvalidSigns ss_InvalidText_InvalidSigns ss_InvalidSigns_InvalidSigns⟩
      · exact ⟨⟨xqga_InvalidWay, xqgg_InvalidWay, bX_InvalidWay, xqhd_InvalidWay, xqca_InvalidWay, cn_Code, ct_Code, xqcm_InvalidWay⟩, kit_b iX_InvalidSigns tX_InvalidSigns ss_InvalidWay_InvalidSigns ss_InvalidSigns_InvalidSigns⟩
      · exact ⟨⟨xqga_InvalidWish, xqgg_InvalidWish, bX_InvalidWish, xqhd_InvalidWish, xqca_InvalidWish, cn_Code, ct_Code, xqcm_InvalidWish⟩, kit_b iX_InvalidSigns tX_InvalidSigns ss_InvalidWish_InvalidSigns ss_InvalidSigns_InvalidSigns⟩
      · exact ⟨⟨xqga_InvalidWord, xqgg_InvalidWord, bX_InvalidWord, xqhd_InvalidWord, xqca_InvalidWord, cn_Code, ct_Code, xqcm_InvalidWord⟩, kit_b iX_InvalidSigns tX_InvalidSigns ss_InvalidWord_InvalidSigns ss_InvalidSigns_InvalidSigns⟩
      · exact ⟨⟨xqga_NotComparable, xqgg_NotComparable, bX_NotComparable, xqhd_NotComparable, xqca_NotComparable, cn_Code, ct_Code, xqcm_NotComparable⟩, kit_b iX_InvalidSigns tX_InvalidSigns ss_NotComparable_InvalidSigns ss_InvalidSigns_InvalidSigns⟩
      · exact ⟨⟨xqga_UnknownWord, xqgg_UnknownWord, bX_UnknownWord, xqhd_UnknownWord, xqca_UnknownWord, cn_Code, ct_Code, xqcm_UnknownWord⟩, kit_b iX_InvalidSigns tX_InvalidSigns ss_UnknownWord_InvalidSigns ss_InvalidSigns_InvalidSigns⟩),
      kx_InvalidString := (fun y hy => by
      simp only [List.mem_cons, List.not_mem_nil, or_false] at hy
      rcases hy with rfl | rfl | rfl | rfl | rfl | rfl | rfl | rfl | rfl | rfl
      · exact ⟨⟨xqga_InvalidLimit, xqgg_InvalidLimit, bX_InvalidLimit, xqhd_InvalidLimit, xqca_InvalidLimit, cn_Code, ct_Code, xqcm_InvalidLimit⟩, kit_b iX_InvalidString tX_InvalidString ss_InvalidLimit_InvalidString ss_InvalidString_InvalidString⟩
      · exact ⟨⟨xqga_InvalidRow, xqgg_InvalidRow, bX_InvalidRow, xqhd_InvalidRow, xqca_InvalidRow, cn_Code, ct_Code, xqcm_InvalidRow⟩, kit_b iX_InvalidString tX_InvalidString ss_InvalidRow_InvalidString ss_InvalidString_InvalidString⟩
      · exact ⟨⟨xqga_InvalidSigns, xqgg_InvalidSigns, bX_InvalidSigns, xqhd_InvalidSigns, xqca_InvalidSigns, cn_Code, ct_Code, xqcm_InvalidSigns⟩, kit_b iX_InvalidString tX_InvalidString ss_InvalidSigns_InvalidString ss_InvalidString_InvalidString⟩
      · exact ⟨⟨xqga_InvalidString, xqgg_InvalidString, bX_InvalidString, xqhd_InvalidString, xqca_InvalidString, cn_Code, ct_Code, xqcm_InvalidString⟩, kit_b iX_InvalidString tX_InvalidString ss_InvalidString_InvalidString ss_InvalidString_InvalidString⟩
      · exact ⟨⟨xqga_InvalidText, xqgg_InvalidText, bX_InvalidText, xqhd_InvalidText, xqca_InvalidText, cn_Code, ct_Code, xqcm_InvalidText⟩, kit_b iX_InvalidString tX_InvalidString ss_InvalidText_InvalidString ss_InvalidString_InvalidString⟩
      · exact ⟨⟨xqga_InvalidWay, xqgg_InvalidWay, bX_InvalidWay, xqhd_InvalidWay, xqca_InvalidWay, cn_Code, ct_Code, xqcm_InvalidWay⟩, kit_b iX_InvalidString tX_InvalidString ss_InvalidWay_InvalidString ss_InvalidString_InvalidString⟩
      · exact ⟨⟨xqga_InvalidWish, xqgg_InvalidWish, bX_InvalidWish, xqhd_InvalidWish, xqca_InvalidWish, cn_Code, ct_Code, xqcm_InvalidWish⟩, kit_b iX_InvalidString tX_InvalidString ss_InvalidWish_InvalidString ss_InvalidString_InvalidString⟩
      · exact ⟨⟨xqga_InvalidWord, xqgg_InvalidWord, bX_InvalidWord, xqhd_InvalidWord, xqca_InvalidWord, cn_Code, ct_Code, xqcm_InvalidWord⟩, kit_b iX_InvalidString tX_InvalidString ss_InvalidWord_InvalidString ss_InvalidString_InvalidString⟩
      · exact ⟨⟨xqga_NotComparable, xqgg_NotComparable, bX_NotComparable, xqhd_NotComparable, xqca_NotComparable, cn_Code, ct_Code, xqcm_NotComparable⟩, kit_b iX_InvalidString tX_InvalidString ss_NotComparable_InvalidString ss_InvalidString_InvalidString⟩
      · exact ⟨⟨xqga_UnknownWord, xqgg_UnknownWord, bX_UnknownWord, xqhd_UnknownWord, xqca_UnknownWord, cn_Code, ct_Code, xqcm_UnknownWord⟩, kit_b iX_InvalidString tX_InvalidString ss_UnknownWord_InvalidString ss_InvalidString_InvalidString⟩),
      kx_InvalidText := (fun y hy => by
      simp only [List.mem_cons, List.not_mem_nil, or_false] at hy
      rcases hy with rfl | rfl | rfl | rfl | rfl | rfl | rfl | rfl | rfl | rfl
      · exact ⟨⟨xqga_InvalidLimit, xqgg_InvalidLimit, bX_InvalidLimit, xqhd_InvalidLimit, xqca_InvalidLimit, cn_Code, ct_Code, xqcm_InvalidLimit⟩, kit_b iX_InvalidText tX_InvalidText ss_InvalidLimit_InvalidText ss_InvalidText_InvalidText⟩
      · exact ⟨⟨xqga_InvalidRow, xqgg_InvalidRow, bX_InvalidRow, xqhd_InvalidRow, xqca_InvalidRow, cn_Code, ct_Code, xqcm_InvalidRow⟩, kit_b iX_InvalidText tX_InvalidText ss_InvalidRow_InvalidText ss_InvalidText_InvalidText⟩
      · exact ⟨⟨xqga_InvalidSigns, xqgg_InvalidSigns, bX_InvalidSigns, xqhd_InvalidSigns, xqca_InvalidSigns, cn_Code, ct_Code, xqcm_InvalidSigns⟩, kit_b iX_InvalidText tX_InvalidText ss_InvalidSigns_InvalidText ss_InvalidText_InvalidText⟩
      · exact ⟨⟨xqga_InvalidString, xqgg_InvalidString, bX_InvalidString, xqhd_InvalidString, xqca_InvalidString, cn_Code, ct_Code, xqcm_InvalidString⟩, kit_b iX_InvalidText tX_InvalidText ss_InvalidString_InvalidText ss_InvalidText_InvalidText⟩
      · exact ⟨⟨xqga_InvalidText, xqgg_InvalidText, bX_InvalidText, xqhd_InvalidText, xqca_InvalidText, cn_Code, ct_Code, xqcm_InvalidText⟩, kit_b iX_InvalidText tX_InvalidText ss_InvalidText_InvalidText ss_InvalidText_InvalidText⟩
      · exact ⟨⟨xqga_InvalidWay, xqgg_InvalidWay, bX_InvalidWay, xqhd_InvalidWay, xqca_InvalidWay, cn_Code, ct_Code, xqcm_InvalidWay⟩, kit_b iX_InvalidText tX_InvalidText ss_InvalidWay_InvalidText ss_InvalidText_InvalidText⟩
      · exact ⟨⟨xqga_InvalidWish, xqgg_InvalidWish, bX_InvalidWish, xqhd_InvalidWish, xqca_InvalidWish, cn_Code, ct_Code, xqcm_InvalidWish⟩, kit_b iX_InvalidText tX_InvalidText ss_InvalidWish_InvalidText ss_InvalidText_InvalidText⟩
      · exact ⟨⟨xqga_InvalidWord, xqgg_InvalidWord, bX_InvalidWord, xqhd_InvalidWord, xqca_InvalidWord, cn_Code, ct_Code, xqcm_InvalidWord⟩, kit_b iX_InvalidText tX_InvalidText ss_InvalidWord_InvalidText ss_InvalidText_InvalidText⟩
      · exact ⟨⟨xqga_NotComparable, xqgg_NotComparable, bX_NotComparable, xqhd_NotComparable, xqca_NotComparable, cn_Code, ct_Code, xqcm_NotComparable⟩, kit_b iX_InvalidText tX_InvalidText ss_NotComparable_InvalidText ss_InvalidText_InvalidText⟩
      · exact ⟨⟨xqga_UnknownWord, xqgg_UnknownWord, bX_UnknownWord, xqhd_UnknownWord, xqca_UnknownWord, cn_Code, ct_Code, xqcm_UnknownWord⟩, kit_b iX_InvalidText tX_InvalidText ss_UnknownWord_InvalidText ss_InvalidText_InvalidText⟩),
      kx_InvalidWay := (fun y hy => by
      simp only [List.mem_cons, List.not_mem_nil, or_false] at hy
      rcases hy with rfl | rfl | rfl | rfl | rfl | rfl | rfl | rfl | rfl | rfl
      · exact ⟨⟨xqga_InvalidLimit, xqgg_InvalidLimit, bX_InvalidLimit, xqhd_InvalidLimit, xqca_InvalidLimit, cn_Code, ct_Code, xqcm_InvalidLimit⟩, kit_b iX_InvalidWay tX_InvalidWay ss_InvalidLimit_InvalidWay ss_InvalidWay_InvalidWay⟩
      · exact ⟨⟨xqga_InvalidRow, xqgg_InvalidRow, bX_InvalidRow, xqhd_InvalidRow, xqca_InvalidRow, cn_Code, ct_Code, xqcm_InvalidRow⟩, kit_b iX_InvalidWay tX_InvalidWay ss_InvalidRow_InvalidWay ss_InvalidWay_InvalidWay⟩
      · exact ⟨⟨xqga_InvalidSigns, xqgg_InvalidSigns, bX_InvalidSigns, xqhd_InvalidSigns, xqca_InvalidSigns, cn_Code, ct_Code, xqcm_InvalidSigns⟩, kit_b iX_InvalidWay tX_InvalidWay ss_InvalidSigns_InvalidWay ss_InvalidWay_InvalidWay⟩
      · exact ⟨⟨xqga_InvalidString, xqgg_InvalidString, bX_InvalidString, xqhd_InvalidString, xqca_InvalidString, cn_Code, ct_Code, xqcm_InvalidString⟩, kit_b iX_InvalidWay tX_InvalidWay ss_InvalidString_InvalidWay ss_InvalidWay_InvalidWay⟩
      · exact ⟨⟨xqga_InvalidText, xqgg_InvalidText, bX_InvalidText, xqhd_InvalidText, xqca_InvalidText, cn_Code, ct_Code, xqcm_InvalidText⟩, kit_b iX_InvalidWay tX_InvalidWay ss_InvalidText_InvalidWay ss_InvalidWay_InvalidWay⟩
      · exact ⟨⟨xqga_InvalidWay, xqgg_InvalidWay, bX_InvalidWay, xqhd_InvalidWay, xqca_InvalidWay, cn_Code, ct_Code, xqcm_InvalidWay⟩, kit_b iX_InvalidWay tX_InvalidWay ss_InvalidWay_InvalidWay ss_InvalidWay_InvalidWay⟩
      · exact ⟨⟨xqga_InvalidWish, xqgg_InvalidWish, bX_InvalidWish, xqhd_InvalidWish, xqca_InvalidWish, cn_Code, ct_Code, xqcm_InvalidWish⟩, kit_b iX_InvalidWay tX_InvalidWay ss_InvalidWish_InvalidWay ss_InvalidWay_InvalidWay⟩
      · exact ⟨⟨xqga_InvalidWord, xqgg_InvalidWord, bX_InvalidWord, xqhd_InvalidWord, xqca_InvalidWord, cn_Code, ct_Code, xqcm_InvalidWord⟩, kit_b iX_InvalidWay tX_InvalidWay ss_InvalidWord_InvalidWay ss_InvalidWay_InvalidWay⟩
      · exact ⟨⟨xqga_NotComparable, xqgg_NotComparable, bX_NotComparable, xqhd_NotComparable, xqca_NotComparable, cn_Code, ct_Code, xqcm_NotComparable⟩, kit_b iX_InvalidWay tX_InvalidWay ss_NotComparable_InvalidWay ss_InvalidWay_InvalidWay⟩
      · exact ⟨⟨xqga_UnknownWord, xqgg_UnknownWord, bX_UnknownWord, xqhd_UnknownWord, xqca_UnknownWord, cn_Code, ct_Code, xqcm_UnknownWord⟩, kit_b iX_InvalidWay tX_InvalidWay ss_UnknownWord_InvalidWay ss_InvalidWay_InvalidWay⟩),
      kx_InvalidWish := (fun y hy => by
      simp only [List.mem_cons, List.not_mem_nil, or_false] at hy
      rcases hy with rfl | rfl | rfl | rfl | rfl | rfl | rfl | rfl | rfl | rfl
      · exact ⟨⟨xqga_InvalidLimit, xqgg_InvalidLimit, bX_InvalidLimit, xqhd_InvalidLimit, xqca_InvalidLimit, cn_Code, ct_Code, xqcm_InvalidLimit⟩, kit_b iX_InvalidWish tX_InvalidWish ss_InvalidLimit_InvalidWish ss_InvalidWish_InvalidWish⟩
      · exact ⟨⟨xqga_InvalidRow, xqgg_InvalidRow, bX_InvalidRow, xqhd_InvalidRow, xqca_InvalidRow, cn_Code, ct_Code, xqcm_InvalidRow⟩, kit_b iX_InvalidWish tX_InvalidWish ss_InvalidRow_InvalidWish ss_InvalidWish_InvalidWish⟩
      · exact ⟨⟨xqga_InvalidSigns, xqgg_InvalidSigns, bX_InvalidSigns, xqhd_InvalidSigns, xqca_InvalidSigns, cn_Code, ct_Code, xqcm_InvalidSigns⟩, kit_b iX_InvalidWish tX_InvalidWish ss_InvalidSigns_InvalidWish ss_InvalidWish_InvalidWish⟩
      · exact ⟨⟨xqga_InvalidString, xqgg_InvalidString, bX_InvalidString, xqhd_InvalidString, xqca_InvalidString, cn_Code, ct_Code, xqcm_InvalidString⟩, kit_b iX_InvalidWish tX_InvalidWish ss_InvalidString_InvalidWish ss_InvalidWish_InvalidWish⟩
      · exact ⟨⟨xqga_InvalidText, xqgg_InvalidText, bX_InvalidText, xqhd_InvalidText, xqca_InvalidText, cn_Code, ct_Code, xqcm_InvalidText⟩, kit_b iX_InvalidWish tX_InvalidWish ss_InvalidText_InvalidWish ss_InvalidWish_InvalidWish⟩
      · exact ⟨⟨xqga_InvalidWay, xqgg_InvalidWay, bX_InvalidWay, xqhd_InvalidWay, xqca_InvalidWay, cn_Code, ct_Code, xqcm_InvalidWay⟩, kit_b iX_InvalidWish tX_InvalidWish ss_InvalidWay_InvalidWish ss_InvalidWish_InvalidWish⟩
      · exact ⟨⟨xqga_InvalidWish, xqgg_InvalidWish, bX_InvalidWish, xqhd_InvalidWish, xqca_InvalidWish, cn_Code, ct_Code, xqcm_InvalidWish⟩, kit_b iX_InvalidWish tX_InvalidWish ss_InvalidWish_InvalidWish ss_InvalidWish_InvalidWish⟩
      · exact ⟨⟨xqga_InvalidWord, xqgg_InvalidWord, bX_InvalidWord, xqhd_InvalidWord, xqca_InvalidWord, cn_Code, ct_Code, xqcm_InvalidWord⟩, kit_b iX_InvalidWish tX_InvalidWish ss_InvalidWord_InvalidWish ss_InvalidWish_InvalidWish⟩
      · exact ⟨⟨xqga_NotComparable, xqgg_NotComparable, bX_NotComparable, xqhd_NotComparable, xqca_NotComparable, cn_Code, ct_Code, xqcm_NotComparable⟩, kit_b iX_InvalidWish tX_InvalidWish ss_NotComparable_InvalidWish ss_InvalidWish_InvalidWish⟩
      · exact ⟨⟨xqga_UnknownWord, xqgg_UnknownWord, bX_UnknownWord, xqhd_UnknownWord, xqca_UnknownWord, cn_Code, ct_Code, xqcm_UnknownWord⟩, kit_b iX_InvalidWish tX_InvalidWish ss_UnknownWord_InvalidWish ss_InvalidWish_InvalidWish⟩),
      kx_InvalidWord := (fun y hy => by
      simp only [List.mem_cons, List.not_mem_nil, or_false] at hy
      rcases hy with rfl | rfl | rfl | rfl | rfl | rfl | rfl | rfl | rfl | rfl
      · exact ⟨⟨xqga_InvalidLimit, xqgg_InvalidLimit, bX_InvalidLimit, xqhd_InvalidLimit, xqca_InvalidLimit, cn_Code, ct_Code, xqcm_InvalidLimit⟩, kit_b iX_InvalidWord tX_InvalidWord ss_InvalidLimit_InvalidWord ss_InvalidWord_InvalidWord⟩
      · exact ⟨⟨xqga_InvalidRow, xqgg_InvalidRow, bX_InvalidRow, xqhd_InvalidRow, xqca_InvalidRow, cn_Code, ct_Code, xqcm_InvalidRow⟩, kit_b iX_InvalidWord tX_InvalidWord ss_InvalidRow_InvalidWord ss_InvalidWord_InvalidWord⟩
      · exact ⟨⟨xqga_InvalidSigns, xqgg_InvalidSigns, bX_InvalidSigns, xqhd_InvalidSigns, xqca_InvalidSigns, cn_Code, ct_Code, xqcm_InvalidSigns⟩, kit_b iX_InvalidWord tX_InvalidWord ss_InvalidSigns_InvalidWord ss_InvalidWord_InvalidWord⟩
      · exact ⟨⟨xqga_InvalidString, xqgg_InvalidString, bX_InvalidString, xqhd_InvalidString, xqca_InvalidString, cn_Code, ct_Code, xqcm_InvalidString⟩, kit_b iX_InvalidWord tX_InvalidWord ss_InvalidString_InvalidWord ss_InvalidWord_InvalidWord⟩
      · exact ⟨⟨xqga_InvalidText, xqgg_InvalidText, bX_InvalidText, xqhd_InvalidText, xqca_InvalidText, cn_Code, ct_Code, xqcm_InvalidText⟩, kit_b iX_InvalidWord tX_InvalidWord ss_InvalidText_InvalidWord ss_InvalidWord_InvalidWord⟩
      · exact ⟨⟨xqga_InvalidWay, xqgg_InvalidWay, bX_InvalidWay, xqhd_InvalidWay, xqca_InvalidWay, cn_Code, ct_Code, xqcm_InvalidWay⟩, kit_b iX_InvalidWord tX_InvalidWord ss_InvalidWay_InvalidWord ss_InvalidWord_InvalidWord⟩
      · exact ⟨⟨xqga_InvalidWish, xqgg_InvalidWish, bX_InvalidWish, xqhd_InvalidWish, xqca_InvalidWish, cn_Code, ct_Code, xqcm_InvalidWish⟩, kit_b iX_InvalidWord tX_InvalidWord ss_InvalidWish_InvalidWord ss_InvalidWord_InvalidWord⟩
      · exact ⟨⟨xqga_InvalidWord, xqgg_InvalidWord, bX_InvalidWord, xqhd_InvalidWord, xqca_InvalidWord, cn_Code, ct_Code, xqcm_InvalidWord⟩, kit_b iX_InvalidWord tX_InvalidWord ss_InvalidWord_InvalidWord ss_InvalidWord_InvalidWord⟩
      · exact ⟨⟨xqga_NotComparable, xqgg_NotComparable, bX_NotComparable, xqhd_NotComparable, xqca_NotComparable, cn_Code, ct_Code, xqcm_NotComparable⟩, kit_b iX_InvalidWord tX_InvalidWord ss_NotComparable_InvalidWord ss_InvalidWord_InvalidWord⟩
      · exact ⟨⟨xqga_UnknownWord, xqgg_UnknownWord, bX_UnknownWord, xqhd_UnknownWord, xqca_UnknownWord, cn_Code, ct_Code, xqcm_UnknownWord⟩, kit_b iX_InvalidWord tX_InvalidWord ss_UnknownWord_InvalidWord ss_InvalidWord_InvalidWord⟩),
      kx_NotComparable := (fun y hy => by
      simp only [List.mem_cons, List.not_mem_nil, or_false] at hy
      rcases hy with rfl | rfl | rfl | rfl | rfl | rfl | rfl | rfl | rfl | rfl
      · exact ⟨⟨xqga_InvalidLimit, xqgg_InvalidLimit, bX_InvalidLimit, xqhd_InvalidLimit, xqca_InvalidLimit, cn_Code, ct_Code, xqcm_InvalidLimit⟩, kit_b iX_NotComparable tX_NotComparable ss_InvalidLimit_NotComparable ss_NotComparable_NotComparable⟩
      · exact ⟨⟨xqga_InvalidRow, xqgg_InvalidRow, bX_InvalidRow, xqhd_InvalidRow, xqca_InvalidRow, cn_Code, ct_Code, xqcm_InvalidRow⟩, kit_b iX_NotComparable tX_NotComparable ss_InvalidRow_NotComparable ss_NotComparable_NotComparable⟩
      · exact ⟨⟨xqga_InvalidSigns, xqgg_InvalidSigns, bX_InvalidSigns, xqhd_InvalidSigns, xqca_InvalidSigns, cn_Code, ct_Code, xqcm_InvalidSigns⟩, kit_b iX_NotComparable tX_NotComparable ss_InvalidSigns_NotComparable ss_NotComparable_NotComparable⟩
      · exact ⟨⟨xqga_InvalidString, xqgg_InvalidString, bX_InvalidString, xqhd_InvalidString, xqca_InvalidString, cn_Code, ct_Code, xqcm_InvalidString⟩, kit_b iX_NotComparable tX_NotComparable ss_InvalidString_NotComparable ss_NotComparable_NotComparable⟩
      · exact ⟨⟨xqga_InvalidText, xqgg_InvalidText, bX_InvalidText, xqhd_InvalidText, xqca_InvalidText, cn_Code, ct_Code, xqcm_InvalidText⟩, kit_b iX_NotComparable tX_NotComparable ss_InvalidText_NotComparable ss_NotComparable_NotComparable⟩
      · exact ⟨⟨xqga_InvalidWay, xqgg_InvalidWay, bX_InvalidWay, xqhd_InvalidWay, xqca_InvalidWay, cn_Code, ct_Code, xqcm_InvalidWay⟩, kit_b iX_NotComparable tX_NotComparable ss_InvalidWay_NotComparable ss_NotComparable_NotComparable⟩
      · exact ⟨⟨xqga_InvalidWish, xqgg_InvalidWish, bX_InvalidWish, xqhd_InvalidWish, xqca_InvalidWish, cn_Code, ct_Code, xqcm_InvalidWish⟩, kit_b iX_NotComparable tX_NotComparable ss_InvalidWish_NotComparable ss_NotComparable_NotComparable⟩
      · exact ⟨⟨xqga_InvalidWord, xqgg_InvalidWord, bX_InvalidWord, xqhd_InvalidWord, xqca_InvalidWord, cn_Code, ct_Code, xqcm_InvalidWord⟩, kit_b iX_NotComparable tX_NotComparable ss_InvalidWord_NotComparable ss_NotComparable_NotComparable⟩
      · exact ⟨⟨xqga_NotComparable, xqgg_NotComparable, bX_NotComparable, xqhd_NotComparable, xqca_NotComparable, cn_Code, ct_Code, xqcm_NotComparable⟩, kit_b iX_NotComparable tX_NotComparable ss_NotComparable_NotComparable ss_NotComparable_NotComparable⟩
      · exact ⟨⟨xqga_UnknownWord, xqgg_UnknownWord, bX_UnknownWord, xqhd_UnknownWord, xqca_UnknownWord, cn_Code, ct_Code, xqcm_UnknownWord⟩, kit_b iX_NotComparable tX_NotComparable ss_UnknownWord_NotComparable ss_NotComparable_NotComparable⟩),
      kx_UnknownWord := (fun y hy => by
      simp only [List.mem_cons, List.not_mem_nil, or_false] at hy
      rcases hy with rfl | rfl | rfl | rfl | rfl | rfl | rfl | rfl | rfl | rfl
      · exact ⟨⟨xqga_InvalidLimit, xqgg_InvalidLimit, bX_InvalidLimit, xqhd_InvalidLimit, xqca_InvalidLimit, cn_Code, ct_Code, xqcm_InvalidLimit⟩, kit_b iX_UnknownWord tX_UnknownWord ss_InvalidLimit_UnknownWord ss_UnknownWord_UnknownWord⟩
      · exact ⟨⟨xqga_InvalidRow, xqgg_InvalidRow, bX_InvalidRow, xqhd_InvalidRow, xqca_InvalidRow, cn_Code, ct_Code, xqcm_InvalidRow⟩, kit_b iX_UnknownWord tX_UnknownWord ss_InvalidRow_UnknownWord ss_UnknownWord_UnknownWord⟩
      · exact ⟨⟨xqga_InvalidSigns, xqgg_InvalidSigns, bX_InvalidSigns, xqhd_InvalidSigns, xqca_InvalidSigns, cn_Code, ct_Code, xqcm_InvalidSigns⟩, kit_b iX_UnknownWord tX_UnknownWord ss_InvalidSigns_UnknownWord ss_UnknownWord_UnknownWord⟩
      · exact ⟨⟨xqga_InvalidString, xqgg_InvalidString, bX_InvalidString, xqhd_InvalidString, xqca_InvalidString, cn_Code, ct_Code, xqcm_InvalidString⟩, kit_b iX_UnknownWord tX_UnknownWord ss_InvalidString_UnknownWord ss_UnknownWord_UnknownWord⟩
      · exact ⟨⟨xqga_InvalidText, xqgg_InvalidText, bX_InvalidText, xqhd_InvalidText, xqca_InvalidText, cn_Code, ct_Code, xqcm_InvalidText⟩, kit_b iX_UnknownWord tX_UnknownWord ss_InvalidText_UnknownWord ss_UnknownWord_UnknownWord⟩
      · exact ⟨⟨xqga_InvalidWay, xqgg_InvalidWay, bX_InvalidWay, xqhd_InvalidWay, xqca_InvalidWay, cn_Code, ct_Code, xqcm_InvalidWay⟩, kit_b iX_UnknownWord tX_UnknownWord ss_InvalidWay_UnknownWord ss_UnknownWord_UnknownWord⟩
      · exact ⟨⟨xqga_InvalidWish, xqgg_InvalidWish, bX_InvalidWish, xqhd_InvalidWish, xqca_InvalidWish, cn_Code, ct_Code, xqcm_InvalidWish⟩, kit_b iX_UnknownWord tX_UnknownWord ss_InvalidWish_UnknownWord ss_UnknownWord_UnknownWord⟩
      · exact ⟨⟨xqga_InvalidWord, xqgg_InvalidWord, bX_InvalidWord, xqhd_InvalidWord, xqca_InvalidWord, cn_Code, ct_Code, xqcm_InvalidWord⟩, kit_b iX_UnknownWord tX_UnknownWord ss_InvalidWord_UnknownWord ss_UnknownWord_UnknownWord⟩
      · exact ⟨⟨xqga_NotComparable, xqgg_NotComparable, bX_NotComparable, xqhd_NotComparable, xqca_NotComparable, cn_Code, ct_Code, xqcm_NotComparable⟩, kit_b iX_UnknownWord tX_UnknownWord ss_NotComparable_UnknownWord ss_UnknownWord_UnknownWord⟩
      · exact ⟨⟨xqga_UnknownWord, xqgg_UnknownWord, bX_UnknownWord, xqhd_UnknownWord, xqca_UnknownWord, cn_Code, ct_Code, xqcm_UnknownWord⟩, kit_b iX_UnknownWord tX_UnknownWord ss_UnknownWord_UnknownWord ss_UnknownWord_UnknownWord⟩),
      xf_index := xf_all (fun z => absurd z (by decide)) (fun _ => ⟨⟨xga_InvalidWord, xgg_InvalidWord, bX_InvalidWord, xhd_InvalidWord⟩, xn_InvalidWord_index⟩) (fun _ => ⟨⟨xga_UnknownWord, xgg_UnknownWord, bX_UnknownWord, xhd_UnknownWord⟩, xn_UnknownWord_index⟩),
      xf_line := xf_all (fun _ => ⟨⟨xga_InvalidText, xgg_InvalidText, bX_InvalidText, xhd_InvalidText⟩, xn_InvalidText_line⟩) (fun z => absurd z (by decide)) (fun z => absurd z (by decide)),
      xf_word := xf_all (fun _ => ⟨⟨xga_InvalidText, xgg_InvalidText, bX_InvalidText, xhd_InvalidText⟩, xn_InvalidText_word⟩) (fun z => absurd z (by decide)) (fun z => absurd z (by decide)),
      _law_mix := ⟨f0, _, (fun_mk (st := s__law_mix) l0 c0 k0), ((fun_mk (st := s__law_mix) l0 c0 k0).binds (ps := ["_law_script", "_law_seed"]) fun _ _ _ _ _ _ us hl => match us, hl with | [_, _], _ => rfl), (PySem.W.mg_of X N a0)⟩,
      _law_next := ⟨f1, _, (fun_mk (st := s__law_next) l1 c1 k1), ((fun_mk (st := s__law_next) l1 c1 k1).binds (ps := ["_law_h", "_law_bound"]) fun _ _ _ _ _ _ us hl => match us, hl with | [_, _], _ => rfl), (PySem.W.mg_of X N a1)⟩,
      _law_bare := ⟨f2, _, (fun_mk (st := s__law_bare) l2 c2 k2), ((fun_mk (st := s__law_bare) l2 c2 k2).binds (ps := ["_law_k"]) fun _ _ _ _ _ _ us hl => match us, hl with | [_], _ => rfl), (PySem.W.mg_of X N a2)⟩,
      _law_thrown := ⟨f3, _, (fun_mk (st := s__law_thrown) l3 c3 k3), ((fun_mk (st := s__law_thrown) l3 c3 k3).binds (ps := ["_law_k", "_law_one", "_law_two"]) fun _ _ _ _ _ _ us hl => match us, hl with | [_, _, _], _ => rfl), (PySem.W.mg_of X N a3)⟩,
      _law_classes := ⟨f4, _, (fun_mk (st := s__law_classes) l4 c4 k4), ((fun_mk (st := s__law_classes) l4 c4 k4).binds (ps := ["_law_e"]) fun _ _ _ _ _ _ us hl => match us, hl with | [_], _ => rfl), (PySem.W.mg_of X N a4)⟩,
      _law_parts := ⟨f5, _, (fun_mk (st := s__law_parts) l5 c5 k5), ((fun_mk (st := s__law_parts) l5 c5 k5).binds (ps := ["_law_k", "_law_e"]) fun _ _ _ _ _ _ us hl => match us, hl with | [_, _], _ => rfl), (PySem.W.mg_of X N a5)⟩,
      _law_right := ⟨f6, _, (fun_mk (st := s__law_right) l6 c6 k6), ((fun_mk (st := s__law_right) l6 c6 k6).binds (ps := ["_law_k", "_law_one", "_law_two"]) fun _ _ _ _ _ _ us hl => match us, hl with | [_, _, _], _ => rfl), (PySem.W.mg_of X N a6)⟩,
      law := ⟨f7, _, (fun_mk (st := s_law) l7 c7 k7), ((fun_mk (st := s_law) l7 c7 k7).binds (ps := ["_law_script"]) fun _ _ _ _ _ _ us hl => match us, hl with | [_], _ => rfl), (PySem.W.mg_of X N a7)⟩,
      z_ValueError := PySem.W.mg_none_of X N z_ValueError,
      z_all := PySem.W.mg_none_of X N z_all,
      z_int := PySem.W.mg_none_of X N z_int,
      z_isinstance := PySem.W.mg_none_of X N z_isinstance,
      z_len := PySem.W.mg_none_of X N z_len,
      z_list := PySem.W.mg_none_of X N z_list,
      z_max := PySem.W.mg_none_of X N z_max,
      z_range := PySem.W.mg_none_of X N z_range } hm⟩
end K19
open PySem PySem.W PyProof.Rows
set_option maxHeartbeats 0 in
theorem PySem.Challenge.cw_endsread_k19_errors_apart_holds : PySem.Challenge.rw_endsread_k19_errors_apart.Holds := by
  w_on; o_law; k_head; (case hw => w_witness2)
  k_fill
  refine L2.walk_of (l := PySem.Challenge.rw_endsread_k19_errors_apart) (n := 63) (k := 5) (x := "_law_script") (CX := fun w => L2.CX (PySem.Challenge.rw_endsread_k19_errors_apart).prog w) (sp := fun w => Ty.SpLaw _) rfl (by decide) rfl ⟨rfl, by decide, by decide⟩ (fun w h Y => PySem.W.kIn_of Y) ?F (fun _ _ a ns hl _ hS => ⟨a, ns, rfl, hS, hl, fun _ => rfl⟩) (fun _ _ _ _ _ h => Ty.law_cx h)
  case F =>
    intro w mg fa h KX G hmg
    refine' K19.all_mk KX G hmg K19.law_true ?aX_InvalidLimit ?bX_InvalidLimit ?tX_InvalidLimit ?kX_InvalidLimit ?iX_InvalidLimit ?eX_InvalidLimit ?aX_InvalidRow ?bX_InvalidRow ?tX_InvalidRow ?kX_InvalidRow ?iX_InvalidRow ?eX_InvalidRow ?aX_InvalidSigns ?bX_InvalidSigns ?tX_InvalidSigns ?kX_InvalidSigns ?iX_InvalidSigns ?eX_InvalidSigns ?aX_InvalidString ?bX_InvalidString ?tX_InvalidString ?kX_InvalidString ?iX_InvalidString ?eX_InvalidString ?aX_InvalidText ?bX_InvalidText ?tX_InvalidText ?kX_InvalidText ?iX_InvalidText ?xL_InvalidText ?rv_InvalidText ?xs_InvalidText ?xi_InvalidText ?xt_InvalidText ?xl_InvalidText ?xc_InvalidText ?xk_InvalidText ?xn_InvalidText_line ?xn_InvalidText_word ?xga_InvalidText ?xgg_InvalidText ?xhd_InvalidText ?aX_InvalidWay ?bX_InvalidWay ?tX_InvalidWay ?kX_InvalidWay ?iX_InvalidWay ?eX_InvalidWay ?aX_InvalidWish ?bX_InvalidWish ?tX_InvalidWish ?kX_InvalidWish ?iX_InvalidWish ?eX_InvalidWish ?aX_InvalidWord ?bX_InvalidWord ?tX_InvalidWord ?kX_InvalidWord ?iX_InvalidWord ?xL_InvalidWord ?rv_InvalidWord ?xs_InvalidWord ?xi_InvalidWord ?xt_InvalidWord ?xl_InvalidWord ?xc_InvalidWord ?xk_InvalidWord ?xn_InvalidWord_index ?xga_InvalidWord ?xgg_InvalidWord ?xhd_InvalidWord ?aX_NotComparable ?bX_NotComparable ?tX_NotComparable ?kX_NotComparable ?iX_NotComparable ?eX_NotComparable ?aX_UnknownWord ?bX_UnknownWord ?tX_UnknownWord ?kX_UnknownWord ?iX_UnknownWord ?xL_UnknownWord ?rv_UnknownWord ?xs_UnknownWord ?xi_UnknownWord ?xt_UnknownWord ?xl_UnknownWord ?xc_UnknownWord ?xk_UnknownWord ?xn_UnknownWord_index ?xga_UnknownWord ?xgg_UnknownWord ?xhd_UnknownWord ?xqga_InvalidLimit ?xqgg_InvalidLimit ?xqhd_InvalidLimit ?xqca_InvalidLimit ?xqcm_InvalidLimit ?cn_Code ?ct_Code ?xqga_InvalidRow ?xqgg_InvalidRow ?xqhd_InvalidRow ?xqca_InvalidRow ?xqcm_InvalidRow ?xqga_InvalidSigns ?xqgg_InvalidSigns ?xqhd_InvalidSigns ?xqca_InvalidSigns ?xqcm_InvalidSigns ?xqga_InvalidString ?xqgg_InvalidString ?xqhd_InvalidString ?xqca_InvalidString ?xqcm_InvalidString ?xqga_InvalidText ?xqgg_InvalidText ?xqhd_InvalidText ?xqca_InvalidText ?xqcm_InvalidText ?xqga_InvalidWay ?xqgg_InvalidWay ?xqhd_InvalidWay ?xqca_InvalidWay ?xqcm_InvalidWay ?xqga_InvalidWish ?xqgg_InvalidWish ?xqhd_InvalidWish ?xqca_InvalidWish ?xqcm_InvalidWish ?xqga_InvalidWord ?xqgg_InvalidWord ?xqhd_InvalidWord ?xqca_InvalidWord ?xqcm_InvalidWord ?xqga_NotComparable ?xqgg_NotComparable ?xqhd_NotComparable ?xqca_NotComparable ?xqcm_NotComparable ?xqga_UnknownWord ?xqgg_UnknownWord ?xqhd_UnknownWord ?xqca_UnknownWord ?xqcm_UnknownWord ?aX_RowError ?bX_RowError ?tX_RowError ?iX_RowError ?r_InvalidLimit ?ve_InvalidLimit ?ss_InvalidLimit_InvalidLimit ?ss_InvalidLimit_InvalidRow ?ss_InvalidLimit_InvalidSigns ?ss_InvalidLimit_InvalidString ?ss_InvalidLimit_InvalidText ?ss_InvalidLimit_InvalidWay ?ss_InvalidLimit_InvalidWish ?ss_InvalidLimit_InvalidWord ?ss_InvalidLimit_NotComparable ?ss_InvalidLimit_UnknownWord ?r_InvalidRow ?ve_InvalidRow ?ss_InvalidRow_InvalidLimit ?ss_InvalidRow_InvalidRow ?ss_InvalidRow_InvalidSigns ?ss_InvalidRow_InvalidString ?ss_InvalidRow_InvalidText ?ss_InvalidRow_InvalidWay ?ss_InvalidRow_InvalidWish ?ss_InvalidRow_InvalidWord ?ss_InvalidRow_NotComparable ?ss_InvalidRow_UnknownWord ?r_InvalidSigns ?ve_InvalidSigns ?ss_InvalidSigns_InvalidLimit ?ss_InvalidSigns_InvalidRow ?ss_InvalidSigns_InvalidSigns ?ss_InvalidSigns_InvalidString ?ss_InvalidSigns_InvalidText ?ss_InvalidSigns_InvalidWay ?ss_InvalidSigns_InvalidWish ?ss_InvalidSigns_InvalidWord ?ss_InvalidSigns_NotComparable ?ss_InvalidSigns_UnknownWord ?r_InvalidString ?ve_InvalidString ?ss_InvalidString_InvalidLimit ?ss_InvalidString_InvalidRow ?ss_InvalidString_InvalidSigns ?ss_InvalidString_InvalidString ?ss_InvalidString_InvalidText ?ss_InvalidString_InvalidWay ?ss_InvalidString_InvalidWish ?ss_InvalidString_InvalidWord ?ss_InvalidString_NotComparable ?ss_InvalidString_UnknownWord ?r_InvalidText ?ve_InvalidText ?ss_InvalidText_InvalidLimit ?ss_InvalidText_InvalidRow ?ss_InvalidText_InvalidSigns ?ss_InvalidText_InvalidString ?ss_InvalidText_InvalidText ?ss_InvalidText_InvalidWay ?ss_InvalidText_InvalidWish ?ss_InvalidText_InvalidWord ?ss_InvalidText_NotComparable ?ss_InvalidText_UnknownWord ?r_InvalidWay ?ve_InvalidWay ?ss_InvalidWay_InvalidLimit ?ss_InvalidWay_InvalidRow ?ss_InvalidWay_InvalidSigns ?ss_InvalidWay_InvalidString ?ss_InvalidWay_InvalidText ?ss_InvalidWay_InvalidWay ?ss_InvalidWay_InvalidWish ?ss_InvalidWay_InvalidWord ?ss_InvalidWay_NotComparable ?ss_InvalidWay_UnknownWord ?r_InvalidWish ?ve_InvalidWish ?ss_InvalidWish_InvalidLimit ?ss_InvalidWish_InvalidRow ?ss_InvalidWish_InvalidSigns ?ss_InvalidWish_InvalidString ?ss_InvalidWish_InvalidText ?ss_InvalidWish_InvalidWay ?ss_InvalidWish_InvalidWish ?ss_InvalidWish_InvalidWord ?ss_InvalidWish_NotComparable ?ss_InvalidWish_UnknownWord ?r_InvalidWord ?ve_InvalidWord ?ss_InvalidWord_InvalidLimit ?ss_InvalidWord_InvalidRow ?ss_InvalidWord_InvalidSigns ?ss_InvalidWord_InvalidString ?ss_InvalidWord_InvalidText ?ss_InvalidWord_InvalidWay ?ss_InvalidWord_InvalidWish ?ss_InvalidWord_InvalidWord ?ss_InvalidWord_NotComparable ?ss_InvalidWord_UnknownWord ?r_NotComparable ?ve_NotComparable ?ss_NotComparable_InvalidLimit ?ss_NotComparable_InvalidRow ?ss_NotComparable_InvalidSigns ?ss_NotComparable_InvalidString ?ss_NotComparable_InvalidText ?ss_NotComparable_InvalidWay ?ss_NotComparable_InvalidWish ?ss_NotComparable_InvalidWord ?ss_NotComparable_NotComparable ?ss_NotComparable_UnknownWord ?r_UnknownWord ?ve_UnknownWord ?ss_UnknownWord_InvalidLimit ?ss_UnknownWord_InvalidRow ?ss_UnknownWord_InvalidSigns ?ss_UnknownWord_InvalidString ?ss_UnknownWord_InvalidText ?ss_UnknownWord_InvalidWay ?ss_UnknownWord_InvalidWish ?ss_UnknownWord_InvalidWord ?ss_UnknownWord_NotComparable ?ss_UnknownWord_UnknownWord ?a0 ?l0 ?c0 ?k0 ?a1 ?l1 ?c1 ?k1 ?a2 ?l2 ?c2 ?k2 ?a3 ?l3 ?c3 ?k3 ?a4 ?l4 ?c4 ?k4 ?a5 ?l5 ?c5 ?k5 ?a6 ?l6 ?c6 ?k6 ?a7 ?l7 ?c7 ?k7 ?z_ValueError ?z_all ?z_int ?z_isinstance ?z_len ?z_list ?z_max ?z_range
    (case aX_InvalidLimit => k_is); (case bX_InvalidLimit => k_is); (case tX_InvalidLimit => k_is); (case kX_InvalidLimit => k_is); (case iX_InvalidLimit => k_is); (case eX_InvalidLimit => k_exc); (case aX_InvalidRow => k_is); (case bX_InvalidRow => k_is); (case tX_InvalidRow => k_is); (case kX_InvalidRow => k_is); (case iX_InvalidRow => k_is); (case eX_InvalidRow => k_exc); (case aX_InvalidSigns => k_is); (case bX_InvalidSigns => k_is); (case tX_InvalidSigns => k_is); (case kX_InvalidSigns => k_is); (case iX_InvalidSigns => k_is); (case eX_InvalidSigns => k_exc); (case aX_InvalidString => k_is); (case bX_InvalidString => k_is); (case tX_InvalidString => k_is); (case kX_InvalidString => k_is); (case iX_InvalidString => k_is); (case eX_InvalidString => k_exc); (case aX_InvalidText => k_is); (case bX_InvalidText => k_is); (case tX_InvalidText => k_is); (case kX_InvalidText => k_is); (case iX_InvalidText => k_is); (case xL_InvalidText => k_is); (case rv_InvalidText => decide +kernel); (case xs_InvalidText => k_is); (case xi_InvalidText => k_is); (case xt_InvalidText => k_is); (case xl_InvalidText => k_is); (case xc_InvalidText => k_is); (case xk_InvalidText => k_is); (case xn_InvalidText_line => k_is); (case xn_InvalidText_word => k_is); (case xga_InvalidText => k_is); (case xgg_InvalidText => k_is); (case xhd_InvalidText => k_is); (case aX_InvalidWay => k_is); (case bX_InvalidWay => k_is); (case tX_InvalidWay => k_is); (case kX_InvalidWay => k_is); (case iX_InvalidWay => k_is); (case eX_InvalidWay => k_exc); (case aX_InvalidWish => k_is); (case bX_InvalidWish => k_is); (case tX_InvalidWish => k_is); (case kX_InvalidWish => k_is); (case iX_InvalidWish => k_is); (case eX_InvalidWish => k_exc); (case aX_InvalidWord => k_is); (case bX_InvalidWord => k_is); (case tX_InvalidWord => k_is); (case kX_InvalidWord => k_is); (case iX_InvalidWord => k_is); (case xL_InvalidWord => k_is); (case rv_InvalidWord => decide +kernel); (case xs_InvalidWord => k_is); (case xi_InvalidWord => k_is); (case xt_InvalidWord => k_is); (case xl_InvalidWord => k_is); (case xc_InvalidWord => k_is); (case xk_InvalidWord => k_is); (case xn_InvalidWord_index => k_is); (case xga_InvalidWord => k_is); (case xgg_InvalidWord => k_is); (case xhd_InvalidWord => k_is); (case aX_NotComparable => k_is); (case bX_NotComparable => k_is); (case tX_NotComparable => k_is); (case kX_NotComparable => k_is); (case iX_NotComparable => k_is); (case eX_NotComparable => k_exc); (case aX_UnknownWord => k_is); (case bX_UnknownWord => k_is); (case tX_UnknownWord => k_is); (case kX_UnknownWord => k_is); (case iX_UnknownWord => k_is); (case xL_UnknownWord => k_is); (case rv_UnknownWord => decide +kernel); (case xs_UnknownWord => k_is); (case xi_UnknownWord => k_is); (case xt_UnknownWord => k_is); (case xl_UnknownWord => k_is); (case xc_UnknownWord => k_is); (case xk_UnknownWord => k_is); (case xn_UnknownWord_index => k_is); (case xga_UnknownWord => k_is); (case xgg_UnknownWord => k_is); (case xhd_UnknownWord => k_is); (case xqga_InvalidLimit => k_is); (case xqgg_InvalidLimit => k_is); (case xqhd_InvalidLimit => k_is); (case xqca_InvalidLimit => k_is); (case xqcm_InvalidLimit => k_is); (case cn_Code => k_is); (case ct_Code => k_is); (case xqga_InvalidRow => k_is); (case xqgg_InvalidRow => k_is); (case xqhd_InvalidRow => k_is); (case xqca_InvalidRow => k_is); (case xqcm_InvalidRow => k_is); (case xqga_InvalidSigns => k_is); (case xqgg_InvalidSigns => k_is); (case xqhd_InvalidSigns => k_is); (case xqca_InvalidSigns => k_is); (case xqcm_InvalidSigns => k_is); (case xqga_InvalidString => k_is); (case xqgg_InvalidString => k_is); (case xqhd_InvalidString => k_is); (case xqca_InvalidString => k_is); (case xqcm_InvalidString => k_is); (case xqga_InvalidText => k_is); (case xqgg_InvalidText => k_is); (case xqhd_InvalidText => k_is); (case xqca_InvalidText => k_is); (case xqcm_InvalidText => k_is); (case xqga_InvalidWay => k_is); (case xqgg_InvalidWay => k_is); (case xqhd_InvalidWay => k_is); (case xqca_InvalidWay => k_is); (case xqcm_InvalidWay => k_is); (case xqga_InvalidWish => k_is); (case xqgg_InvalidWish => k_is); (case xqhd_InvalidWish => k_is); (case xqca_InvalidWish => k_is); (case xqcm_InvalidWish => k_is); (case xqga_InvalidWord => k_is); (case xqgg_InvalidWord => k_is); (case xqhd_InvalidWord => k_is); (case xqca_InvalidWord => k_is); (case xqcm_InvalidWord => k_is); (case xqga_NotComparable => k_is); (case xqgg_NotComparable => k_is); (case xqhd_NotComparable => k_is); (case xqca_NotComparable => k_is); (case xqcm_NotComparable => k_is); (case xqga_UnknownWord => k_is); (case xqgg_UnknownWord => k_is); (case xqhd_UnknownWord => k_is); (case xqca_UnknownWord => k_is); (case xqcm_UnknownWord => k_is); (case aX_RowError => k_is); (case bX_RowError => k_is); (case tX_RowError => k_is); (case iX_RowError => k_is); (case r_InvalidLimit => k_is); (case ve_InvalidLimit => k_is); (case ss_InvalidLimit_InvalidLimit => k_is); (case ss_InvalidLimit_InvalidRow => k_is); (case ss_InvalidLimit_InvalidSigns => k_is); (case ss_InvalidLimit_InvalidString => k_is); (case ss_InvalidLimit_InvalidText => k_is); (case ss_InvalidLimit_InvalidWay => k_is); (case ss_InvalidLimit_InvalidWish => k_is); (case ss_InvalidLimit_InvalidWord => k_is); (case ss_InvalidLimit_NotComparable => k_is); (case ss_InvalidLimit_UnknownWord => k_is); (case r_InvalidRow => k_is); (case ve_InvalidRow => k_is); (case ss_InvalidRow_InvalidLimit => k_is); (case ss_InvalidRow_InvalidRow => k_is); (case ss_InvalidRow_InvalidSigns => k_is); (case ss_InvalidRow_InvalidString => k_is); (case ss_InvalidRow_InvalidText => k_is); (case ss_InvalidRow_InvalidWay => k_is); (case ss_InvalidRow_InvalidWish => k_is); (case ss_InvalidRow_InvalidWord => k_is); (case ss_InvalidRow_NotComparable => k_is); (case ss_InvalidRow_UnknownWord => k_is); (case r_InvalidSigns => k_is); (case ve_InvalidSigns => k_is); (case ss_InvalidSigns_InvalidLimit => k_is); (case ss_InvalidSigns_InvalidRow => k_is); (case ss_InvalidSigns_InvalidSigns => k_is); (case ss_InvalidSigns_InvalidString => k_is); (case ss_InvalidSigns_InvalidText => k_is); (case ss_InvalidSigns_InvalidWay => k_is); (case ss_InvalidSigns_InvalidWish => k_is); (case ss_InvalidSigns_InvalidWord => k_is); (case ss_InvalidSigns_NotComparable => k_is); (case ss_InvalidSigns_UnknownWord => k_is); (case r_InvalidString => k_is); (case ve_InvalidString => k_is); (case ss_InvalidString_InvalidLimit => k_is); (case ss_InvalidString_InvalidRow => k_is); (case ss_InvalidString_InvalidSigns => k_is); (case ss_InvalidString_InvalidString => k_is); (case ss_InvalidString_InvalidText => k_is); (case ss_InvalidString_InvalidWay => k_is); (case ss_InvalidString_InvalidWish => k_is); (case ss_InvalidString_InvalidWord => k_is); (case ss_InvalidString_NotComparable => k_is); (case ss_InvalidString_UnknownWord => k_is); (case r_InvalidText => k_is); (case ve_InvalidText => k_is); (case ss_InvalidText_InvalidLimit => k_is); (case ss_InvalidText_InvalidRow => k_is); (case ss_InvalidText_InvalidSigns => k_is); (case ss_InvalidText_InvalidString => k_is); (case ss_InvalidText_InvalidText => k_is); (case ss_InvalidText_InvalidWay => k_is); (case ss_InvalidText_InvalidWish => k_is); (case ss_InvalidText_InvalidWord => k_is); (case ss_InvalidText_NotComparable => k_is); (case ss_InvalidText_UnknownWord => k_is); (case r_InvalidWay => k_is); (case ve_InvalidWay => k_is); (case ss_InvalidWay_InvalidLimit => k_is); (case ss_InvalidWay_InvalidRow => k_is); (case ss_InvalidWay_InvalidSigns => k_is); (case ss_InvalidWay_InvalidString => k_is); (case ss_InvalidWay_InvalidText => k_is); (case ss_InvalidWay_InvalidWay => k_is); (case ss_InvalidWay_InvalidWish => k_is); (case ss_InvalidWay_InvalidWord => k_is); (case ss_InvalidWay_NotComparable => k_is); (case ss_InvalidWay_UnknownWord => k_is); (case r_InvalidWish => k_is); (case ve_InvalidWish => k_is); (case ss_InvalidWish_InvalidLimit => k_is); (case ss_InvalidWish_InvalidRow => k_is); (case ss_InvalidWish_InvalidSigns => k_is); (case ss_InvalidWish_InvalidString => k_is); (case ss_InvalidWish_InvalidText => k_is); (case ss_InvalidWish_InvalidWay => k_is); (case ss_InvalidWish_InvalidWish => k_is); (case ss_InvalidWish_InvalidWord => k_is); (case ss_InvalidWish_NotComparable => k_is); (case ss_InvalidWish_UnknownWord => k_is); (case r_InvalidWord => k_is); (case ve_InvalidWord => k_is); (case ss_InvalidWord_InvalidLimit => k_is); (case ss_InvalidWord_InvalidRow => k_is); (case ss_InvalidWord_InvalidSigns => k_is); (case ss_InvalidWord_InvalidString => k_is); (case ss_InvalidWord_InvalidText => k_is); (case ss_InvalidWord_InvalidWay => k_is); (case ss_InvalidWord_InvalidWish => k_is); (case ss_InvalidWord_InvalidWord => k_is); (case ss_InvalidWord_NotComparable => k_is); (case ss_InvalidWord_UnknownWord => k_is); (case r_NotComparable => k_is); (case ve_NotComparable => k_is); (case ss_NotComparable_InvalidLimit => k_is); (case ss_NotComparable_InvalidRow => k_is); (case ss_NotComparable_InvalidSigns => k_is); (case ss_NotComparable_InvalidString => k_is); (case ss_NotComparable_InvalidText => k_is); (case ss_NotComparable_InvalidWay => k_is); (case ss_NotComparable_InvalidWish => k_is); (case ss_NotComparable_InvalidWord => k_is); (case ss_NotComparable_NotComparable => k_is); (case ss_NotComparable_UnknownWord => k_is); (case r_UnknownWord => k_is); (case ve_UnknownWord => k_is); (case ss_UnknownWord_InvalidLimit => k_is); (case ss_UnknownWord_InvalidRow => k_is); (case ss_UnknownWord_InvalidSigns => k_is); (case ss_UnknownWord_InvalidString => k_is); (case ss_UnknownWord_InvalidText => k_is); (case ss_UnknownWord_InvalidWay => k_is); (case ss_UnknownWord_InvalidWish => k_is); (case ss_UnknownWord_InvalidWord => k_is); (case ss_UnknownWord_NotComparable => k_is); (case ss_UnknownWord_UnknownWord => k_is); (case a0 => k_is); (case l0 => k_is); (case c0 => k_is); (case k0 => k_is); (case a1 => k_is); (case l1 => k_is); (case c1 => k_is); (case k1 => k_is); (case a2 => k_is); (case l2 => k_is); (case c2 => k_is); (case k2 => k_is); (case a3 => k_is); (case l3 => k_is); (case c3 => k_is); (case k3 => k_is); (case a4 => k_is); (case l4 => k_is); (case c4 => k_is); (case k4 => k_is); (case a5 => k_is); (case l5 => k_is); (case c5 => k_is); (case k5 => k_is); (case a6 => k_is); (case l6 => k_is); (case c6 => k_is); (case k6 => k_is); (case a7 => k_is); (case l7 => k_is); (case c7 => k_is); (case k7 => k_is); (case z_ValueError => k_is); (case z_all => k_is); (case z_int => k_is); (case z_isinstance => k_is); (case z_len => k_is); (case z_list => k_is); (case z_max => k_is); (case z_range => k_is)

