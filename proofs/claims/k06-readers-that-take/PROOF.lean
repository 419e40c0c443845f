import PyProof.Rows.All
import Wide.All
import OpenK.AllK
import Wide.FinOn
import PySem.Challenge.RW_endsread_k06_whole_readers_that_take
import HandS.ForMost
import HandS.Slots
import HandS.SlotsOwn
import HandS.IsInst
import HandS.Star
import HandS.Codes
import HandS.Exc
import HandS.ExcInit
import HandS.TryOnly
import HandS.WordsExc
import HandS.TupAny
import HandS.More
import HandS.Wide
import HandS.Deep
import HandS.FStr
import HandS.Comp
import KE.GoesEnum
import HandS.ExcOwn
import HandS.Small
import HandS.DictTup
import HandS.TryMany
import HandS.CallSlots
import HandS.ExcField
import KE.KDictKeyed
import KE.KDictDisplayH
import KE.KDictWalk
import HandS.Dict
import HandS.Iter
import HandS.Style
import HandS.SortInts
import HandS.ExcIs
import HandS.Conv
import HandS.SetFor
import HandS.Strs
import PyProof.Rows.SortShellAny
import HandS.Defaults
import HandS.NoneIn
import HandS.Property
import HandS.Lambda
import HandS.EndTab
import KE.SortKeyHeap
import HandS.Nested
set_option Elab.async false
set_option linter.all false
set_option maxRecDepth 100000
set_option maxHeartbeats 4000000
namespace Ty
open PySem PySem.Spec PyProof.Rows L2

/-! ### computations -/
structure Exc where
  cls : String
  args : List PyData
inductive Prog (α : Type) : Type where
  | ok (a : α)
  | err (e : Exc)
  | stuck
  | draw (n : Int) (k : Int → Prog α)
namespace Prog
variable {α β γ : Type}
def bind : Prog α → (α → Prog β) → Prog β
  | ok a, f => f a
  | err e, _ => err e
  | stuck, _ => stuck
  | draw n k, f => draw n fun i => bind (k i) f
theorem bind_ok (m : Prog α) : bind m ok = m := by
  induction m with
  | ok a => rfl
  | err e => rfl
  | stuck => rfl
  | draw n k ih => show draw n _ = draw n k; congr 1; funext i; exact ih i
theorem bind_assoc (m : Prog α) (f : α → Prog β) (g : β → Prog γ) : bind (bind m f) g = bind m fun a => bind (f a) g := by
  induction m with
  | ok a => rfl
  | err e => rfl
  | stuck => rfl
  | draw n k ih => show draw n _ = draw n _; congr 1; funext i; exact ih i
end Prog
instance : Monad Prog where
  pure := Prog.ok
  bind := Prog.bind
section
variable {α β γ : Type}
@[simp] theorem ok_bind (a : α) (f : α → Prog β) : (Prog.ok a >>= f) = f a := rfl
@[simp] theorem err_bind (e : Exc) (f : α → Prog β) : (Prog.err e >>= f) = Prog.err e := rfl
@[simp] theorem stuck_bind (f : α → Prog β) : (Prog.stuck >>= f) = Prog.stuck := rfl
@[simp] theorem draw_bind (n : Int) (k : Int → Prog α) (f : α → Prog β) : (Prog.draw n k >>= f) = Prog.draw n fun i => k i >>= f := rfl
@[simp] theorem bind_ok' (m : Prog α) : (m >>= Prog.ok) = m := Prog.bind_ok m
theorem bind_bind (m : Prog α) (f : α → Prog β) (g : β → Prog γ) : (m >>= f >>= g) = (m >>= fun a => f a >>= g) := Prog.bind_assoc m f g
theorem pure_ok (a : α) : (pure a : Prog α) = Prog.ok a := rfl
/-- all draws lead to P, or to an error that E takes -/
def wp : Prog α → (α → Prop) → (Exc → Prop) → Prop
  | .ok a, P, _ => P a
  | .err e, _, E => E e
  | .stuck, _, _ => False
  | .draw n k, P, E => 0 < n ∧ n ≤ 1000000 ∧ ∀ i, 0 ≤ i → i < n → wp (k i) P E
theorem wp_imp {m : Prog α} {P P' : α → Prop} {E E' : Exc → Prop} (h : wp m P E) (hp : ∀ a, P a → P' a) (he : ∀ e, E e → E' e) : wp m P' E' := by
  induction m with
  | ok a => exact hp a h
  | err e => exact he e h
  | stuck => exact h
  | draw n k ih => exact ⟨h.1, h.2.1, fun i h0 h1 => ih i (h.2.2 i h0 h1)⟩
theorem wp_mono {m : Prog α} {P P' : α → Prop} {E : Exc → Prop} (h : wp m P E) (hp : ∀ a, P a → P' a) : wp m P' E := wp_imp h hp fun _ x => x
theorem wp_bind {m : Prog α} {f : α → Prog β} {P : β → Prop} {E : Exc → Prop} : wp (m >>= f) P E ↔ wp m (fun a => wp (f a) P E) E := by
  induction m with
  | ok a => exact Iff.rfl
  | err e => exact Iff.rfl
  | stuck => exact Iff.rfl
  | draw n k ih => exact ⟨fun h => ⟨h.1, h.2.1, fun i h0 h1 => (ih i).1 (h.2.2 i h0 h1)⟩, fun h => ⟨h.1, h.2.1, fun i h0 h1 => (ih i).2 (h.2.2 i h0 h1)⟩⟩
end

/-! ### data by types -/
class Enc (α : Type) where
  enc : α → PyData
open Enc (enc)
abbrev Tx := List Nat
/-- a Python list as a value (a tuple of one kind is a List) -/
def L (α : Type) := List α
abbrev un {α : Type} (x : L α) : List α := x
instance : Enc PyData := ⟨id⟩
instance : Enc Int := ⟨.int⟩
instance : Enc Bool := ⟨.bool⟩
instance : Enc Unit := ⟨fun _ => .none⟩
instance (priority := high) encTx : Enc (List Nat) := ⟨fun s => .str ⟨s.toArray⟩⟩
instance encTup {α : Type} [Enc α] : Enc (List α) := ⟨fun xs => .tuple (xs.map enc)⟩
instance encL {α : Type} [Enc α] : Enc (L α) := ⟨fun xs => .list (List.map enc xs)⟩
instance encP {α β : Type} [Enc α] [Enc β] : Enc (α × β) := ⟨fun p => .tuple [enc p.1, enc p.2]⟩
instance encO {α : Type} [Enc α] : Enc (Option α) := ⟨fun o => match o with | none => .none | some a => enc a⟩
structure T3 (α β γ : Type) where
  a : α
  b : β
  c : γ
deriving DecidableEq
instance encT3 {α β γ : Type} [Enc α] [Enc β] [Enc γ] : Enc (T3 α β γ) := ⟨fun p => .tuple [enc p.a, enc p.b, enc p.c]⟩
structure T4 (α β γ δ : Type) where
  a : α
  b : β
  c : γ
  d : δ
deriving DecidableEq
instance encT4 {α β γ δ : Type} [Enc α] [Enc β] [Enc γ] [Enc δ] : Enc (T4 α β γ δ) := ⟨fun p => .tuple [enc p.a, enc p.b, enc p.c, enc p.d]⟩
/-- a list [a, b] of two kinds -/
structure L2v (α β : Type) where
  a : α
  b : β
deriving DecidableEq
instance encL2 {α β : Type} [Enc α] [Enc β] : Enc (L2v α β) := ⟨fun p => .list [enc p.a, enc p.b]⟩

/-! ### the world -/
/-- what the written part and the classes are; K, the class addresses -/
structure Glob where
  K : PySem.W.Frag
  code : Addr
  exc : String → Addr
  cls : String → Addr
  P : Program
  w : World
structure CodeV where
  many : Int
  parts : List Tx
deriving DecidableEq

theorem same_new {H : Hp} {p : Addr} {o : HO} (h : H p = none) : Same H (upd H p o) := fun a u e => by
  rw [upd_ne (ne_of_none e h)]
  exact e
theorem same_mut {H H' : Hp} {p : Addr} {o : HO} (e : Same H H') (h : H p = none) : Same H (upd H' p o) := fun a u ha => by
  rw [upd_ne (ne_of_none ha h)]
  exact e a u ha
theorem rd_same {H H' : Hp} {a : Addr} {u : HO} (e : Same H H') (h : Rd H a u) : Rd H' a u := by
  rcases h with h | ⟨o, h⟩
  · exact Or.inl (e a _ h)
  · exact Or.inr ⟨o, e a _ h⟩
theorem sql_same {K : PySem.W.Frag} {H H' : Hp} {a : Addr} {xs : List V} (e : Same H H') (h : SqL K H a xs) : SqL K H' a xs := h.imp (rd_same e) id
theorem sqt_same {K : PySem.W.Frag} {H H' : Hp} {a : Addr} {xs : List V} (e : Same H H') (h : SqT K H a xs) : SqT K H' a xs := h.imp (rd_same e) id

mutual
inductive Dq (K : PySem.W.Frag) (H : Hp) : V → PyData → Prop
  | non : Dq K H .non .none
  | bl (b : Bool) : Dq K H (.bl b) (.bool b)
  | int (i : Int) : Dq K H (.int i) (.int i)
  | str (x : Str) : Dq K H (.str x) (.str x)
  | lst {a : Addr} {xs : List V} {ds : List PyData} : H a = some (.lst xs) → DqAll K H xs ds → Dq K H (.ref a) (.list ds)
  | tup {a : Addr} {xs : List V} {ds : List PyData} : SqT K H a xs → DqAll K H xs ds → Dq K H (.ref a) (.tuple ds)
inductive DqAll (K : PySem.W.Frag) (H : Hp) : List V → List PyData → Prop
  | nil : DqAll K H [] []
  | cons {v : V} {vs : List V} {d : PyData} {ds : List PyData} : Dq K H v d → DqAll K H vs ds → DqAll K H (v :: vs) (d :: ds)
end
mutual
theorem dq_dp {K : PySem.W.Frag} {H : Hp} : ∀ (d : PyData) (v : V), Dq K H v d → Dp K H v d
  | .none, _, h => by cases h; exact .non
  | .bool b, _, h => by cases h; exact .bl b
  | .int i, _, h => by cases h; exact .int i
  | .str x, _, h => by cases h; exact .str x
  | .list ds, _, h => by
    cases h with
    | lst hs ha => exact .lst (.inl (.inl hs)) (dqAll_dp ds _ ha)
  | .tuple ds, _, h => by
    cases h with
    | tup hs ha => exact .tup hs (dqAll_dp ds _ ha)
  | .dict _, _, h => by cases h
theorem dqAll_dp {K : PySem.W.Frag} {H : Hp} : ∀ (ds : List PyData) (vs : List V), DqAll K H vs ds → DpAll K H vs ds
  | [], _, h => by cases h; exact .nil
  | d :: ds, _, h => by
    cases h with
    | cons h1 h2 => exact .cons (dq_dp d _ h1) (dqAll_dp ds _ h2)
end
mutual
theorem dp_same {K : PySem.W.Frag} {H H' : Hp} (e : Same H H') : ∀ (d : PyData) (v : V), Dq K H v d → Dq K H' v d
  | .none, _, h => by cases h; exact .non
  | .bool b, _, h => by cases h; exact .bl b
  | .int i, _, h => by cases h; exact .int i
  | .str x, _, h => by cases h; exact .str x
  | .list ds, _, h => by
    cases h with
    | lst hs ha => exact .lst (e _ _ hs) (dpAll_same e ds _ ha)
  | .tuple ds, _, h => by
    cases h with
    | tup hs ha => exact .tup (sqt_same e hs) (dpAll_same e ds _ ha)
  | .dict _, _, h => by cases h
theorem dpAll_same {K : PySem.W.Frag} {H H' : Hp} (e : Same H H') : ∀ (ds : List PyData) (vs : List V), DqAll K H vs ds → DqAll K H' vs ds
  | [], _, h => by cases h; exact .nil
  | d :: ds, _, h => by
    cases h with
    | cons h1 h2 => exact .cons (dp_same e d _ h1) (dpAll_same e ds _ h2)
end
variable {G : Glob}
class Rp (G : Glob) (α : Type) where
  rp : α → V → Hp → Prop
  mono : ∀ {a : α} {v : V} {F F' : Hp}, Same F F' → rp a v F → rp a v F'
instance rpEnc {α : Type} [Enc α] : Rp G α := ⟨fun a v F => Dq G.K F v (enc a), fun e h => dp_same e _ _ h⟩
/-- an instance of Code -/
instance rpCode : Rp G CodeV := ⟨fun c v F => ∃ a dx x, v = .ref a ∧ SlX.Slt F a G.code dx [some (.int c.many), some x] ∧ Dq G.K F x (enc c.parts), fun {c v F F'} e h => by
  obtain ⟨a, dx, x, e1, s, d⟩ := h
  refine ⟨a, dx, x, e1, ?_, dp_same e _ _ d⟩
  rcases s with ⟨h1, h2⟩ | ⟨h1, h2⟩
  · exact .inl ⟨e _ _ h1, h2⟩
  · exact .inr ⟨e _ _ h1, e _ _ h2⟩⟩

/-- a field of an instance: its name, what it holds -/
structure Fld (G : Glob) : Type 1 where
  {α : Type}
  [i : Rp G α]
  n : Str
  a : α
def FlR (F : Hp) : List (Fld G) → List (Str × V) → Prop
  | [], [] => True
  | f :: fs, u :: us => f.n = u.1 ∧ f.i.rp f.a u.2 F ∧ FlR F fs us
  | _, _ => False
theorem flR_mono {F F' : Hp} (e : Same F F') : ∀ {fs : List (Fld G)} {us : List (Str × V)}, FlR F fs us → FlR F' fs us
  | [], [], _ => trivial
  | [], _ :: _, h => h.elim
  | _ :: _, [], h => h.elim
  | f :: fs, u :: us, h => ⟨h.1, f.i.mono e h.2.1, flR_mono e h.2.2⟩
structure NN where
  F0 : Hp
  H0 : Hp
  B : Addr → Prop
  S : Option (Addr × Addr)
  E : XK
  O : Addr → Option HO
structure SrcAt (p c : Addr) (F H : Hp) : Prop where
  fp : F p = none
  fc : F c = none
  ne : p ≠ c
  at_ : ∃ (st ix : Int) (cs : List Int), H p = some (.lst [.int st, .ref c, .int ix, .int 14]) ∧ H c = some (.lst (cs.map V.int)) ∧ cs.length ≤ 64
structure W (N : NN) (F H : Hp) : Prop where
  fh : Same F H
  f0 : Same N.F0 F
  nw : ∀ a o, F a = some o → N.F0 a = some o ∨ N.H0 a = none
  kp : ∀ a o, ¬ N.B a → N.H0 a = some o → H a = some o
  dm : ∀ a, H a = none → N.H0 a = none
  sr : ∀ p c, N.S = some (p, c) → SrcAt p c F H
  sb : ∀ p c, N.S = some (p, c) → (N.H0 p = none ∨ N.B p) ∧ (N.H0 c = none ∨ N.B c)
  os : ∀ a o, N.O a = some o → (H a = some o ∧ F a = none) ∧ ∀ p c, N.S = some (p, c) → a ≠ p ∧ a ≠ c

/-- what stands at an address that the frame owns -/
structure OwnR where
  R : Hp → Addr → HO → Prop
  mono : ∀ {F F' : Hp} {p : Addr} {u : HO}, Same F F' → R F p u → R F' p u
inductive Ent (G : Glob) : Type 1 where
  | dead
  | per {α : Type} [Rp G α] (a : α)
  | lst {α : Type} [Enc α] (xs : List α)
  | ins (C : Addr) (fs : List (Fld G)) (w : Option Addr)
  | bor {α : Type} [Enc α] (xs : List α)
  | ptr (p : Addr)
  | src
  | gen (R : OwnR) (b : Bool)
abbrev Env (G : Glob) := List (Ent G)
def Ent.own : Ent G → Bool
  | @Ent.lst _ _ _ _ => true
  | .ins _ _ _ => true
  | .gen _ _ => true
  | _ => false
/-- an address that this def may write -/
structure Mine (N : NN) (F : Hp) (p : Addr) : Prop where
  f : F p = none
  h0 : N.H0 p = none
  s : ∀ q c, N.S = some (q, c) → p ≠ q ∧ p ≠ c
structure MineI (N : NN) (F : Hp) (p : Addr) : Prop where
  f : F p = none
  h0 : N.H0 p = none ∨ N.B p
  s : ∀ q c, N.S = some (q, c) → p ≠ q ∧ p ≠ c
theorem Mine.weak {N : NN} {F : Hp} {p : Addr} (m : Mine N F p) : MineI N F p := ⟨m.f, .inl m.h0, m.s⟩
def Sl (N : NN) (F H : Hp) : Ent G → Option V → Prop
  | .dead, _ => True
  | @Ent.per _ _ i a, o => ∃ v, o = some v ∧ i.rp a v F
  | @Ent.lst _ _ _ xs, o => ∃ p vs, o = some (.ref p) ∧ Mine N F p ∧ H p = some (.lst vs) ∧ DqAll G.K F vs (xs.map enc)
  | .ins C fs w, o => ∃ p dx us, o = some (.ref p) ∧ MineI N F p ∧ H p = some (.ins C dx us) ∧ FlR F fs us ∧ ∀ q, w = some q → q = p
  | @Ent.bor _ _ _ xs, o => ∃ q vs, o = some (.ref q) ∧ N.F0 q = none ∧ N.H0 q = some (.lst vs) ∧ ¬ N.B q ∧ (∀ p c, N.S = some (p, c) → q ≠ p ∧ q ≠ c) ∧ DqAll G.K F vs (xs.map enc)
  | .ptr p, o => o = some (.ref p)
  | .src, o => ∃ p c, o = some (.ref p) ∧ N.S = some (p, c)
  | .gen R b, o => ∃ p u, o = some (.ref p) ∧ MineI N F p ∧ (b = false → N.H0 p = none) ∧ H p = some u ∧ R.R F p u
def Slots (N : NN) (F H : Hp) : Env G → L2.St → Prop
  | [], [] => True
  | e :: Γ, o :: σ => Sl N F H e o ∧ Slots N F H Γ σ
  | _, _ => False
def Dist (Γ : Env G) (σ : L2.St) : Prop := ∀ (i j : Nat) (e e' : Ent G) (p : Addr), Γ[i]? = some e → Γ[j]? = some e' → e.own = true → e'.own = true → σ[i]? = some (some (.ref p)) → σ[j]? = some (some (.ref p)) → i = j
structure HS (N : NN) (Γ : Env G) (σ : L2.St) (F H : Hp) : Prop where
  w : W N F H
  sl : Slots N F H Γ σ
  ds : Dist Γ σ

section
variable {N : NN} {F F' H H' : Hp} {Γ : Env G} {σ : L2.St}
theorem Slots.get : ∀ {Γ : Env G} {σ : L2.St} {i : Nat} {e : Ent G}, Slots N F H Γ σ → Γ[i]? = some e → ∃ o, σ[i]? = some o ∧ Sl N F H e o
  | [], _, _, _, _, h => by simp at h
  | e :: Γ, [], _, _, h, _ => h.elim
  | e :: Γ, o :: σ, 0, e', h, q => by
    have e1 : e = e' := Option.some.inj q
    subst e1
    exact ⟨o, rfl, h.1⟩
  | e :: Γ, o :: σ, i + 1, e', h, q => Slots.get (i := i) h.2 q
theorem Slots.set : ∀ {Γ : Env G} {σ : L2.St} (i : Nat) {e : Ent G} {o : Option V}, Slots N F H Γ σ → Sl N F H e o → Slots N F H (Γ.set i e) (σ.set i o)
  | [], [], _, _, _, _, _ => trivial
  | [], _ :: _, _, _, _, h, _ => h.elim
  | _ :: _, [], _, _, _, h, _ => h.elim
  | _ :: _, _ :: _, 0, _, _, h, q => ⟨q, h.2⟩
  | _ :: _, _ :: _, i + 1, _, _, h, q => ⟨h.1, Slots.set i h.2 q⟩
theorem Slots.imp {N' : NN} : ∀ {Γ : Env G} {σ : L2.St}, Slots N F H Γ σ → (∀ (i : Nat) e o, Γ[i]? = some e → σ[i]? = some o → Sl N F H e o → Sl N' F' H' e o) → Slots N' F' H' Γ σ
  | [], [], _, _ => trivial
  | [], _ :: _, h, _ => h.elim
  | _ :: _, [], h, _ => h.elim
  | e :: Γ, o :: σ, h, k => ⟨k 0 e o rfl rfl h.1, Slots.imp h.2 fun i e' o' a b => k (i + 1) e' o' a b⟩
theorem Slots.len : ∀ {Γ : Env G} {σ : L2.St}, Slots N F H Γ σ → Γ.length = σ.length
  | [], [], _ => rfl
  | [], _ :: _, h => h.elim
  | _ :: _, [], h => h.elim
  | _ :: _, _ :: _, h => congrArg (· + 1) (Slots.len h.2)
theorem Mine.mono (m : Mine N F p) (f : F' p = none) : Mine N F' p := ⟨f, m.h0, m.s⟩
/-- an owned object of the frame stands at q -/
def Held (Γ : Env G) (σ : L2.St) (q : Addr) : Prop := ∃ (i : Nat) (e : Ent G), Γ[i]? = some e ∧ e.own = true ∧ σ[i]? = some (some (.ref q))
theorem HS.held (h : HS N Γ σ F H) {q : Addr} (x : Held Γ σ q) : MineI N F q ∧ ∃ u, H q = some u := by
  obtain ⟨i, e, e1, e2, e3⟩ := x
  obtain ⟨o, e4, s⟩ := h.sl.get e1
  rw [e3] at e4
  cases e4
  cases e with
  | lst xs =>
    obtain ⟨p, vs, e5, m, hp, _⟩ := s
    have e6 : q = p := by cases e5; rfl
    subst e6
    exact ⟨m.weak, _, hp⟩
  | ins a fs w =>
    obtain ⟨p, dx, us, e5, m, hp, _⟩ := s
    have e6 : q = p := by cases e5; rfl
    subst e6
    exact ⟨m, _, hp⟩
  | dead => cases e2
  | per a => cases e2
  | bor xs => cases e2
  | ptr p => cases e2
  | src => cases e2
  | gen R b =>
    obtain ⟨p, u, e5, m, _, hp, _⟩ := s
    have e6 : q = p := by cases e5; rfl
    subst e6
    exact ⟨m, _, hp⟩
/-- more is known, all that the frame owns stands as it was -/
theorem HS.move (h : HS N Γ σ F H) (w : W N F' H') (eF : Same F F') (keep : ∀ q u, Held Γ σ q → H q = some u → H' q = some u) (fr : ∀ q, Held Γ σ q → F' q = none) : HS N Γ σ F' H' := by
  refine ⟨w, h.sl.imp fun i e o e1 e2 s => ?_, h.ds⟩
  cases e with
  | dead => trivial
  | per a =>
    obtain ⟨v, e3, r⟩ := s
    exact ⟨v, e3, Rp.mono eF r⟩
  | lst xs =>
    obtain ⟨p, vs, e3, m, hp, d⟩ := s
    have hl : Held Γ σ p := ⟨i, _, e1, rfl, by rw [e2, e3]⟩
    exact ⟨p, vs, e3, m.mono (fr p hl), keep p _ hl hp, dpAll_same eF _ _ d⟩
  | ins a fs w =>
    obtain ⟨p, dx, us, e3, m, hp, d, hw⟩ := s
    have hl : Held Γ σ p := ⟨i, _, e1, rfl, by rw [e2, e3]⟩
    exact ⟨p, dx, us, e3, ⟨fr p hl, m.h0, m.s⟩, keep p _ hl hp, flR_mono eF d, hw⟩
  | bor xs =>
    obtain ⟨q, vs, e3, h1, h2, h3, h4, d⟩ := s
    exact ⟨q, vs, e3, h1, h2, h3, h4, dpAll_same eF _ _ d⟩
  | ptr p => exact s
  | src => exact s
  | gen R b =>
    obtain ⟨p, u, e3, m, hb, hp, r⟩ := s
    have hl : Held Γ σ p := ⟨i, _, e1, rfl, by rw [e2, e3]⟩
    exact ⟨p, u, e3, ⟨fr p hl, m.h0, m.s⟩, hb, keep p _ hl hp, R.mono eF r⟩
/-- a new object that is known from now on -/
theorem HS.laid (h : HS N Γ σ F H) {p : Addr} {o : HO} (hp : H p = none) : HS N Γ σ (upd F p o) (upd H p o) ∧ Same F (upd F p o) := by
  have fp : F p = none := Same.free h.w.fh hp
  have w : W N (upd F p o) (upd H p o) := by
    refine ⟨fun a u e => ?_, Same.trans h.w.f0 (same_new fp), fun a u e => ?_, fun a u nb e => ?_, fun a e => ?_, fun q c e => ?_, h.w.sb, fun a u e => ?_⟩
    · by_cases ha : a = p
      · subst ha; rw [upd_same] at e ⊢; exact e
      · rw [upd_ne ha] at e ⊢; exact h.w.fh a u e
    · by_cases ha : a = p
      · subst ha; exact .inr (h.w.dm _ hp)
      · rw [upd_ne ha] at e; exact h.w.nw a u e
    · have x := h.w.kp a u nb e
      rw [upd_ne (ne_of_none x hp)]; exact x
    · by_cases ha : a = p
      · subst ha; rw [upd_same] at e; cases e
      · rw [upd_ne ha] at e; exact h.w.dm a e
    · have s := h.w.sr q c e
      obtain ⟨st, ix, cs, h1, h2, r⟩ := s.at_
      have n1 : q ≠ p := ne_of_none h1 hp
      have n2 : c ≠ p := ne_of_none h2 hp
      exact ⟨by rw [upd_ne n1]; exact s.fp, by rw [upd_ne n2]; exact s.fc, s.ne, st, ix, cs, by rw [upd_ne n1]; exact h1, by rw [upd_ne n2]; exact h2, r⟩
    · have x := h.w.os a u e
      have y := ne_of_none x.1.1 hp
      exact ⟨⟨by rw [upd_ne y]; exact x.1.1, by rw [upd_ne y]; exact x.1.2⟩, x.2⟩
  refine ⟨h.move w (same_new fp) (fun q vs _ e => ?_) fun q hl => ?_, same_new fp⟩
  · rw [upd_ne (ne_of_none e hp)]; exact e
  · obtain ⟨m, vs, e⟩ := h.held hl
    rw [upd_ne (ne_of_none e hp)]; exact m.f
/-- a new list is no more to be changed -/
theorem HS.freeze (h : HS N Γ σ F H) {p : Addr} {o : HO} (hp : H p = some o) (m : Mine N F p) (h0 : N.H0 p = none) (nh : ¬ Held Γ σ p) (no : N.O p = none) : HS N Γ σ (upd F p o) H ∧ Same F (upd F p o) := by
  have w : W N (upd F p o) H := by
    refine ⟨fun a u e => ?_, Same.trans h.w.f0 (same_new m.f), fun a u e => ?_, h.w.kp, h.w.dm, fun q c e => ?_, h.w.sb, fun a u e => ?_⟩
    · by_cases ha : a = p
      · subst ha; rw [upd_same] at e; rw [hp]; exact e
      · rw [upd_ne ha] at e; exact h.w.fh a u e
    · by_cases ha : a = p
      · subst ha; exact .inr h0
      · rw [upd_ne ha] at e; exact h.w.nw a u e
    · have s := h.w.sr q c e
      have x := m.s q c e
      exact ⟨by rw [upd_ne (Ne.symm x.1)]; exact s.fp, by rw [upd_ne (Ne.symm x.2)]; exact s.fc, s.ne, s.at_⟩
    · have x := h.w.os a u e
      have y : a ≠ p := fun z => by rw [z, no] at e; cases e
      exact ⟨⟨x.1.1, by rw [upd_ne y]; exact x.1.2⟩, x.2⟩
  refine ⟨h.move w (same_new m.f) (fun q vs _ e => e) fun q hl => ?_, same_new m.f⟩
  have : q ≠ p := fun z => nh (z ▸ hl)
  rw [upd_ne this]; exact (h.held hl).1.f
end
end Ty

namespace Ty
open PySem PySem.Spec PyProof.Rows L2
open Enc (enc)
/-! ### judgements -/
def fieldsOf (cls : String) : List Str := if cls = "InvalidText" then ["word", "line"] else if cls = "InvalidWord" then ["index"] else if cls = "UnknownWord" then ["index"] else []
def ERep (G : Glob) (ex : Exc) (C : Value) (d : Option Addr) (F H : Hp) : Prop :=
  C = .ref (G.exc ex.cls) ∧ ((ex.args = [] ∧ d = none) ∨ ∃ dx vs, d = some dx ∧ F dx = some (.xd ((fieldsOf ex.cls).zip vs)) ∧ (fieldsOf ex.cls).length = vs.length ∧ DqAll G.K F vs ex.args ∧ fieldsOf ex.cls ≠ [])
variable {G : Glob}
def EP (G : Glob) (N : NN) : Exc → Prop := fun ex => ∀ F' H' C d, W N F' H' → ERep G ex C d F' H' → N.E C d H'
/-- an expression's reading; a new list's; a test's; arguments'; a walked thing's; a target's; statements' -/
def EV {α : Type} [Rp G α] (N : NN) (Γ : Env G) (te : TE) (m : Prog α) : Prop := ∀ σ F H, HS N Γ σ F H → ∀ Q : VK, wp m (fun a => ∀ v F' H', HS N Γ σ F' H' → Same F F' → Rp.rp (G := G) a v F' → Q v H') (EP G N) → te σ H Q
structure NewAt (N : NN) (Γ : Env G) (σ : L2.St) (F : Hp) (p : Addr) : Prop where
  mine : Mine N F p
  h0 : N.H0 p = none
  nh : ¬ Held Γ σ p
  no : N.O p = none
def EVN {α : Type} [Enc α] (N : NN) (Γ : Env G) (te : TE) (m : Prog (L α)) : Prop := ∀ σ F H, HS N Γ σ F H → ∀ Q : VK, wp m (fun (xs : List α) => ∀ p vs F' H', HS N Γ σ F' H' → Same F F' → NewAt N Γ σ F' p → H' p = some (.lst vs) → DqAll G.K F' vs (xs.map enc) → Q (.ref p) H') (EP G N) → te σ H Q
def TV (N : NN) (Γ : Env G) (tt : TT) (m : Prog Bool) : Prop := ∀ σ F H, HS N Γ σ F H → ∀ Q : Bool → Hp → Prop, wp m (fun b => ∀ F' H', HS N Γ σ F' H' → Same F F' → Q b H') (EP G N) → tt σ H Q
def EVA {τ : Type} (N : NN) (Γ : Env G) (ta : TA) (m : Prog τ) (ra : τ → List V → Hp → Prop) : Prop := ∀ σ F H, HS N Γ σ F H → ∀ Q : List V → Hp → Prop, wp m (fun a => ∀ vs F' H', HS N Γ σ F' H' → Same F F' → ra a vs F' → Q vs H') (EP G N) → ta σ H Q
def GV {α : Type} [Rp G α] (N : NN) (Γ : Env G) (g : TG) (a : α) (Γ' : Env G) : Prop := ∀ σ F H x, HS N Γ σ F H → Rp.rp (G := G) a x F → ∀ Q : L2.St → Hp → Prop, (∀ σ' F' H', HS N Γ' σ' F' H' → Same F F' → Q σ' H') → g x σ H Q
/-- what a block is to reach: F the data known at its start -/
structure Aim (ω : Type) where
  J : Hp → ω → Ends → Prop
  mono : ∀ {F F' : Hp} {o : ω} {D : Ends}, Same F F' → J F o D → J F' o D
def SV {ω : Type} (N : NN) (Γ : Env G) (ts : TS) (J : Aim ω) (m : Prog ω) : Prop := ∀ σ F H D, HS N Γ σ F H → wp m (fun o => J.J F o D) (EP G N) → ts D σ H
/-- the end of a block with the frame as Γ says; a return -/
def JN {β : Type} (N : NN) (Γ : β → Env G) : Aim β := ⟨fun F b D => ∀ σ' F' H', HS N (Γ b) σ' F' H' → Same F F' → D.nx σ' H', fun e h σ' F' H' hs e' => h σ' F' H' hs (Same.trans e e')⟩
def JR {ρ : Type} (G : Glob) [Rp G ρ] (N : NN) : Aim ρ := ⟨fun _ r D => ∀ v F' H', W N F' H' → Rp.rp (G := G) r v F' → D.rt v H', fun _ h => h⟩
/-- a def that hands back a new list -/
def JRN {α : Type} [Enc α] (G : Glob) (N : NN) : Aim (L α) := ⟨fun _ (xs : List α) D => ∀ p vs F' H', W N F' H' → Mine N F' p → N.H0 p = none → H' p = some (.lst vs) → DqAll G.K F' vs (xs.map enc) → D.rt (.ref p) H', fun _ h => h⟩
inductive Fl (β ρ : Type) where
  | nx (b : β)
  | rt (r : ρ)
def flJ {β ρ : Type} (JN : Hp → β → Ends → Prop) (JR : Hp → ρ → Ends → Prop) : Hp → Fl β ρ → Ends → Prop
  | F, .nx b, D => JN F b D
  | F, .rt r, D => JR F r D
def JF {β ρ : Type} (A : Aim β) (B : Aim ρ) : Aim (Fl β ρ) := ⟨flJ A.J B.J, fun {F F' o D} e h => by
  cases o with
  | nx b => exact A.mono e h
  | rt r => exact B.mono e h⟩
/-- an aim that only returns reach -/
def Aim.Ret {ω : Type} (A : Aim ω) : Prop := ∀ F r D D', D.rt = D'.rt → A.J F r D → A.J F r D'
def Aim.To {ω ρ : Type} (A : Aim ω) (ret : ρ → ω) (B : Aim ρ) : Prop := ∀ F r D D', D.rt = D'.rt → A.J F (ret r) D → B.J F r D'

section
variable {α β γ ω ρ τ : Type} [iα : Rp G α] [iβ : Rp G β] [iγ : Rp G γ] {N : NN} {Γ Γ' : Env G} {te ta tb tc : TE} {tt tu : TT} {tz ts ts' : TS}
theorem EV.of_eq {m m' : Prog α} (h : EV N Γ te m) (e : m = m') : EV N Γ te m' := e ▸ h
theorem ev_var {i : Nat} {a : α} (h : Γ[i]? = some (.per a)) : EV N Γ (tVar i) (.ok a) := fun σ F H hs Q q => by
  obtain ⟨o, e1, v, e2, r⟩ := hs.sl.get h
  subst e2
  exact ⟨v, e1, q v F H hs (Same.refl F) r⟩
theorem ev_int {i : Int} : EV N Γ (tC (.int i)) (.ok i) := fun σ F H hs Q q => q _ F H hs (Same.refl F) (.int i)
theorem ev_bl {b : Bool} : EV N Γ (tC (.bl b)) (.ok b) := fun σ F H hs Q q => q _ F H hs (Same.refl F) (.bl b)
theorem ev_str {x : Str} {s : Tx} (h : x.cps.toList = s) : EV N Γ (tC (.str x)) (.ok s) := fun σ F H hs Q q => q _ F H hs (Same.refl F) (by
  subst h
  exact .str x)
theorem ev_non {α : Type} [Enc α] : EV N Γ (tC .non) (.ok (none : Option α)) := fun σ F H hs Q q => q _ F H hs (Same.refl F) .non
theorem ev_nonD : EV N Γ (tC .non) (.ok PyData.none) := fun σ F H hs Q q => q _ F H hs (Same.refl F) .non
theorem ev_some {α : Type} [Enc α] {m : Prog α} (h : EV N Γ te m) : EV N Γ te (m >>= fun a => .ok (some a)) := fun σ F H hs Q q => h σ F H hs Q (wp_bind.1 q)
theorem ev_dat {α : Type} [Enc α] {m : Prog α} (h : EV N Γ te m) : EV N Γ te (m >>= fun a => .ok (enc a)) := fun σ F H hs Q q => h σ F H hs Q (wp_bind.1 q)
/-- a new list as a value -/
theorem ev_new {α : Type} [Enc α] {m : Prog (L α)} (h : EVN N Γ te m) : EV N Γ te m := fun σ F H hs Q q => h σ F H hs Q (wp_mono q fun xs k p vs F' H' hs' e n hp d => by
  obtain ⟨hs2, e2⟩ := hs'.freeze hp n.mine n.h0 n.nh n.no
  exact k _ _ _ hs2 (Same.trans e e2) (.lst upd_same (dpAll_same e2 _ _ d)))
/-- two values -/
def OPV (r : R2) (g : α → β → Prog γ) : Prop := ∀ (N : NN) (Γ : Env G) (σ : L2.St) (F H : Hp) (x y : V) (a : α) (b : β), HS N Γ σ F H → iα.rp a x F → iβ.rp b y F → ∀ Q : VK,
  wp (g a b) (fun c => ∀ v F' H', HS N Γ σ F' H' → Same F F' → iγ.rp c v F' → Q v H') (EP G N) → r x y H Q
theorem ev_op {r : R2} {g : α → β → Prog γ} {m1 : Prog α} {m2 : Prog β} (h1 : EV N Γ ta m1) (h2 : EV N Γ tb m2) (ho : OPV (G := G) r g) : EV N Γ (tOp r ta tb) (m1 >>= fun a => m2 >>= fun b => g a b) := fun σ F H hs Q q =>
  h1 σ F H hs _ (wp_mono (wp_bind.1 q) fun a q1 x F1 H1 hs1 e1 r1 => h2 σ F1 H1 hs1 _ (wp_mono (wp_bind.1 q1) fun b q2 y F2 H2 hs2 e2 r2 =>
    ho N Γ σ F2 H2 x y a b hs2 (Rp.mono e2 r1) r2 Q (wp_mono q2 fun c k v F3 H3 hs3 e3 r3 => k v F3 H3 hs3 (Same.trans e1 (Same.trans e2 e3)) r3)))
/-- one value -/
def UNV (r : V → Hp → VK → Prop) (g : α → Prog γ) : Prop := ∀ (N : NN) (Γ : Env G) (σ : L2.St) (F H : Hp) (x : V) (a : α), HS N Γ σ F H → iα.rp a x F → ∀ Q : VK,
  wp (g a) (fun c => ∀ v F' H', HS N Γ σ F' H' → Same F F' → iγ.rp c v F' → Q v H') (EP G N) → r x H Q
theorem ev_un {r : V → Hp → VK → Prop} {g : α → Prog γ} {m1 : Prog α} (h1 : EV N Γ ta m1) (ho : UNV (G := G) r g) : EV N Γ (tUn r ta) (m1 >>= fun a => g a) := fun σ F H hs Q q =>
  h1 σ F H hs _ (wp_mono (wp_bind.1 q) fun a q1 x F1 H1 hs1 e1 r1 => ho N Γ σ F1 H1 x a hs1 r1 Q (wp_mono q1 fun c k v F3 H3 hs3 e3 r3 => k v F3 H3 hs3 (Same.trans e1 e3) r3))
/-! arguments -/
theorem eva_nil : EVA N Γ tNil (.ok ()) (fun _ vs _ => vs = []) := fun σ F H hs Q q => q [] F H hs (Same.refl F) rfl
theorem eva_cons {m1 : Prog α} {tr : TA} {m2 : Prog τ} {ra : τ → List V → Hp → Prop} (hra : ∀ a vs F F', Same F F' → ra a vs F → ra a vs F') (h1 : EV N Γ ta m1) (h2 : EVA N Γ tr m2 ra) :
    EVA N Γ (tCons ta tr) (m1 >>= fun a => m2 >>= fun b => .ok (a, b)) (fun p vs F => ∃ v ws, vs = v :: ws ∧ iα.rp p.1 v F ∧ ra p.2 ws F) := fun σ F H hs Q q =>
  h1 σ F H hs _ (wp_mono (wp_bind.1 q) fun a q1 x F1 H1 hs1 e1 r1 => h2 σ F1 H1 hs1 _ (wp_mono (wp_bind.1 q1) fun b q2 vs F2 H2 hs2 e2 r2 => q2 (x :: vs) F2 H2 hs2 (Same.trans e1 e2) ⟨x, vs, rfl, Rp.mono e2 r1, r2⟩))
/-- one kind of items, all told: the items of a display -/
theorem evl_nil {α : Type} [Enc α] : EVA N Γ tNil (.ok ([] : List α)) (fun xs vs F => DqAll G.K F vs (xs.map enc)) := fun σ F H hs Q q => q [] F H hs (Same.refl F) .nil
theorem evl_cons {α : Type} [Enc α] {m1 : Prog α} {tr : TA} {m2 : Prog (List α)} (h1 : EV N Γ ta m1) (h2 : EVA N Γ tr m2 (fun xs vs F => DqAll G.K F vs (xs.map enc))) :
    EVA N Γ (tCons ta tr) (m1 >>= fun a => m2 >>= fun b => .ok (a :: b)) (fun xs vs F => DqAll G.K F vs (xs.map enc)) := fun σ F H hs Q q =>
  h1 σ F H hs _ (wp_mono (wp_bind.1 q) fun a q1 x F1 H1 hs1 e1 r1 => h2 σ F1 H1 hs1 _ (wp_mono (wp_bind.1 q1) fun b q2 vs F2 H2 hs2 e2 r2 => q2 (x :: vs) F2 H2 hs2 (Same.trans e1 e2) (.cons (dp_same e2 _ _ r1) r2)))
theorem dpAll_length {K : PySem.W.Frag} {F : Hp} : ∀ {ds : List PyData} {vs : List V}, DqAll K F vs ds → vs.length = ds.length
  | [], _, h => by cases h; rfl
  | _ :: _, _, h => by
    cases h with
    | cons _ h2 => exact congrArg (· + 1) (dpAll_length h2)
/-- tuples and lists made -/
theorem ev_tupA {τ : Type} {α : Type} [Enc α] {t : TA} {m : Prog τ} {ra : τ → List V → Hp → Prop} {f : τ → α} (h : EVA N Γ t m ra) (hd : ∀ a vs F, ra a vs F → ∃ ds, enc (f a) = .tuple ds ∧ DqAll G.K F vs ds ∧ vs.length ≤ 100000) :
    EV N Γ (tTup t) (m >>= fun a => .ok (f a)) := fun σ F H hs Q q => h σ F H hs _ (wp_mono (wp_bind.1 q) fun a q1 vs F1 H1 hs1 e1 r1 => by
  obtain ⟨ds, e2, d, hl⟩ := hd a vs F1 r1
  refine ⟨Nat.le_trans hl (by decide), fun p hp => ?_⟩
  obtain ⟨hs2, e3⟩ := hs1.laid (o := .tup vs) hp
  refine q1 (.ref p) _ _ hs2 (Same.trans e1 e3) ?_
  show Dq _ _ _ (enc (f a))
  rw [e2]
  exact .tup (.inl (.inl upd_same)) (dpAll_same e3 _ _ d))
theorem ev_tup {α : Type} [Enc α] {t : TA} {m : Prog (List α)} (h : EVA N Γ t m (fun xs vs F => DqAll G.K F vs (xs.map enc))) : EV N Γ (tTup t) (m >>= fun xs => if xs.length ≤ 100000 then .ok xs else .stuck) := fun σ F H hs Q q =>
  h σ F H hs _ (wp_mono (wp_bind.1 q) fun xs q1 vs F1 H1 hs1 e1 d => by
    by_cases hl : xs.length ≤ 100000
    · rw [if_pos hl] at q1
      have e := dpAll_length d
      rw [List.length_map] at e
      refine ⟨Nat.le_trans (by omega) (by decide : 100000 ≤ sizeLine), fun p hp => ?_⟩
      obtain ⟨hs2, e3⟩ := hs1.laid (o := .tup vs) hp
      exact q1 (.ref p) _ _ hs2 (Same.trans e1 e3) (.tup (.inl (.inl upd_same)) (dpAll_same e3 _ _ d))
    · rw [if_neg hl] at q1
      exact q1.elim)
theorem hs_newlist {σ : L2.St} {F H : Hp} (hs : HS N Γ σ F H) {p : Addr} {vs : List V} (hp : H p = none) : HS N Γ σ F (upd H p (.lst vs)) ∧ NewAt N Γ σ F p := by
  have fp : F p = none := Same.free hs.w.fh hp
  have nh : ¬ Held Γ σ p := fun x => by
    obtain ⟨_, ws, e⟩ := hs.held x
    rw [hp] at e; cases e
  have ns : ∀ q c, N.S = some (q, c) → p ≠ q ∧ p ≠ c := fun q c e => by
    obtain ⟨st, ix, cs, h1, h2, _⟩ := (hs.w.sr q c e).at_
    exact ⟨(ne_of_none h1 hp).symm, (ne_of_none h2 hp).symm⟩
  have no : N.O p = none := by
    cases z : N.O p with
    | none => rfl
    | some o => exact absurd (hs.w.os p o z).1.1 (by rw [hp]; intro y; cases y)
  refine ⟨hs.move ⟨fun a u e => ?_, hs.w.f0, hs.w.nw, fun a u nb e => ?_, fun a e => ?_, fun q c e => ?_, hs.w.sb, fun a u e => ?_⟩ (Same.refl F) (fun q ws hl e => ?_) fun q hl => (hs.held hl).1.f, ⟨⟨fp, hs.w.dm _ hp, ns⟩, hs.w.dm _ hp, nh, no⟩⟩
  · rw [upd_ne (ne_of_none e fp)]; exact hs.w.fh a u e
  · have x := hs.w.kp a u nb e
    rw [upd_ne (ne_of_none x hp)]; exact x
  · by_cases ha : a = p
    · subst ha; rw [upd_same] at e; cases e
    · rw [upd_ne ha] at e; exact hs.w.dm a e
  · have s := hs.w.sr q c e
    obtain ⟨st, ix, cs, h1, h2, r⟩ := s.at_
    exact ⟨s.fp, s.fc, s.ne, st, ix, cs, by rw [upd_ne (ne_of_none h1 hp)]; exact h1, by rw [upd_ne (ne_of_none h2 hp)]; exact h2, r⟩
  · have x := hs.w.os a u e
    exact ⟨⟨by rw [upd_ne (ne_of_none x.1.1 hp)]; exact x.1.1, x.1.2⟩, x.2⟩
  · rw [upd_ne (ne_of_none e hp)]; exact e
theorem evn_lst {α : Type} [Enc α] {t : TA} {m : Prog (List α)} (h : EVA N Γ t m (fun xs vs F => DqAll G.K F vs (xs.map enc))) : EVN N Γ (tLst t) (m >>= fun xs => if xs.length ≤ 100000 then .ok (xs : L α) else .stuck) := fun σ F H hs Q q =>
  h σ F H hs _ (wp_mono (wp_bind.1 q) fun xs q1 vs F1 H1 hs1 e1 d => by
    by_cases hl : xs.length ≤ 100000
    · rw [if_pos hl] at q1
      have e := dpAll_length d
      rw [List.length_map] at e
      refine ⟨Nat.le_trans (by omega) (by decide : 100000 ≤ sizeLine), fun p hp => ?_⟩
      obtain ⟨hs2, n⟩ := hs_newlist (vs := vs) hs1 hp
      exact q1 p vs _ _ hs2 e1 n upd_same d
    · rw [if_neg hl] at q1
      exact q1.elim)
/-! ### tests -/
theorem tv_test {m : Prog Bool} (h : EV N Γ te m) : TV N Γ (tTest te) m := fun σ F H hs Q q => h σ F H hs _ (wp_mono q fun b k v F' H' hs' e r => by
  have r' : Dq G.K F' v (.bool b) := r
  cases r'
  exact ⟨b, rfl, k F' H' hs' e⟩)
theorem tv_B {m : Prog Bool} (h : EV N Γ te m) : TV N Γ (tB te) m := fun σ F H hs Q q => h σ F H hs _ (wp_mono q fun b k v F' H' hs' e r => by
  have r' : Dq G.K F' v (.bool b) := r
  cases r'
  exact ⟨b, rfl, k F' H' hs' e⟩)
theorem tv_and {m1 m2 : Prog Bool} (h1 : TV N Γ tt m1) (h2 : TV N Γ tu m2) : TV N Γ (tAnd tt tu) (m1 >>= fun a => if a then m2 else .ok false) := fun σ F H hs Q q => h1 σ F H hs _ (wp_mono (wp_bind.1 q) fun b k F' H' hs' e => by
  cases b with
  | true => exact h2 σ F' H' hs' Q (wp_mono k fun b k2 F2 H2 hs2 e2 => k2 F2 H2 hs2 (Same.trans e e2))
  | false => exact k F' H' hs' e)
theorem tv_or {m1 m2 : Prog Bool} (h1 : TV N Γ tt m1) (h2 : TV N Γ tu m2) : TV N Γ (tOr tt tu) (m1 >>= fun a => if a then .ok true else m2) := fun σ F H hs Q q => h1 σ F H hs _ (wp_mono (wp_bind.1 q) fun b k F' H' hs' e => by
  cases b with
  | false => exact h2 σ F' H' hs' Q (wp_mono k fun b k2 F2 H2 hs2 e2 => k2 F2 H2 hs2 (Same.trans e e2))
  | true => exact k F' H' hs' e)
theorem tv_not {m1 : Prog Bool} (h1 : TV N Γ tt m1) : TV N Γ (tNot tt) (m1 >>= fun a => .ok (!a)) := fun σ F H hs Q q => h1 σ F H hs _ (wp_mono (wp_bind.1 q) fun b k F' H' hs' e => k F' H' hs' e)
theorem ev_and {m1 m2 : Prog Bool} (h1 : EV N Γ ta m1) (h2 : EV N Γ tb m2) : EV N Γ (tAndV ta tb) (m1 >>= fun a => if a then m2 else .ok false) := fun σ F H hs Q q => h1 σ F H hs _ (wp_mono (wp_bind.1 q) fun b k v F' H' hs' e r => by
  have r' : Dq G.K F' v (.bool b) := r
  cases r'
  refine ⟨b, rfl, ?_⟩
  cases b with
  | true => exact h2 σ F' H' hs' Q (wp_mono k fun b k2 v F2 H2 hs2 e2 r2 => k2 v F2 H2 hs2 (Same.trans e e2) r2)
  | false => exact k _ F' H' hs' e (.bl false))
theorem ev_or {m1 m2 : Prog Bool} (h1 : EV N Γ ta m1) (h2 : EV N Γ tb m2) : EV N Γ (tOrV ta tb) (m1 >>= fun a => if a then .ok true else m2) := fun σ F H hs Q q => h1 σ F H hs _ (wp_mono (wp_bind.1 q) fun b k v F' H' hs' e r => by
  have r' : Dq G.K F' v (.bool b) := r
  cases r'
  refine ⟨b, rfl, ?_⟩
  cases b with
  | false => exact h2 σ F' H' hs' Q (wp_mono k fun b k2 v F2 H2 hs2 e2 r2 => k2 v F2 H2 hs2 (Same.trans e e2) r2)
  | true => exact k _ F' H' hs' e (.bl true))
theorem ev_not {m1 : Prog Bool} (h1 : EV N Γ ta m1) : EV N Γ (tNotV ta) (m1 >>= fun a => .ok (!a)) := fun σ F H hs Q q => h1 σ F H hs _ (wp_mono (wp_bind.1 q) fun b k v F' H' hs' e r => by
  have r' : Dq G.K F' v (.bool b) := r
  cases r'
  exact ⟨b, rfl, k _ F' H' hs' e (.bl (!b))⟩)
theorem ev_if {m0 : Prog Bool} {m1 m2 : Prog α} (h0 : TV N Γ tt m0) (h1 : EV N Γ ta m1) (h2 : EV N Γ tb m2) : EV N Γ (tIf tt ta tb) (m0 >>= fun c => if c then m1 else m2) := fun σ F H hs Q q => h0 σ F H hs _ (wp_mono (wp_bind.1 q) fun b k F' H' hs' e => by
  cases b with
  | true => exact h1 σ F' H' hs' Q (wp_mono k fun b k2 v F2 H2 hs2 e2 r2 => k2 v F2 H2 hs2 (Same.trans e e2) r2)
  | false => exact h2 σ F' H' hs' Q (wp_mono k fun b k2 v F2 H2 hs2 e2 r2 => k2 v F2 H2 hs2 (Same.trans e e2) r2))
/-! ### statements -/
theorem HS.setPer {σ : L2.St} {F H : Hp} (hs : HS N Γ σ F H) (i : Nat) {a : α} {v : V} (r : iα.rp a v F) : HS N (Γ.set i (.per a)) (σ.set i (some v)) F H := by
  refine ⟨hs.w, hs.sl.set i ⟨v, rfl, r⟩, fun j k e e' p h1 h2 o1 o2 s1 s2 => ?_⟩
  have ne : ∀ {j : Nat} {e : Ent G}, (Γ.set i (.per a))[j]? = some e → e.own = true → j ≠ i := fun {j e} h o z => by
    subst z
    rw [List.getElem?_set] at h
    split at h
    · split at h
      · cases h; cases o
      · cases h
    · exact absurd rfl ‹_›
  have n1 := ne h1 o1
  have n2 := ne h2 o2
  rw [List.getElem?_set_ne (Ne.symm n1)] at h1 s1
  rw [List.getElem?_set_ne (Ne.symm n2)] at h2 s2
  exact hs.ds j k e e' p h1 h2 o1 o2 s1 s2
theorem HS.setOwn {α : Type} [Enc α] {σ : L2.St} {F H : Hp} (hs : HS N Γ σ F H) (i : Nat) {xs : List α} {p : Addr} {vs : List V} (n : NewAt N Γ σ F p) (hp : H p = some (.lst vs)) (d : DqAll G.K F vs (xs.map enc)) : HS N (Γ.set i (.lst xs)) (σ.set i (some (.ref p))) F H := by
  refine ⟨hs.w, hs.sl.set i ⟨p, vs, rfl, n.mine, hp, d⟩, fun j k e e' q h1 h2 o1 o2 s1 s2 => ?_⟩
  have at_ : ∀ {j : Nat} {e : Ent G}, (Γ.set i (.lst xs))[j]? = some e → e.own = true → (σ.set i (some (.ref p)))[j]? = some (some (.ref q)) → (j = i ∧ q = p) ∨ (j ≠ i ∧ Γ[j]? = some e ∧ σ[j]? = some (some (.ref q)) ∧ q ≠ p) := fun {j e} h o s => by
    by_cases hj : j = i
    · subst hj
      rw [List.getElem?_set] at s
      split at s
      · split at s
        · cases s; exact .inl ⟨rfl, rfl⟩
        · cases s
      · exact absurd rfl ‹_›
    · rw [List.getElem?_set_ne (Ne.symm hj)] at h s
      exact .inr ⟨hj, h, s, fun z => n.nh ⟨j, e, h, o, z ▸ s⟩⟩
  rcases at_ h1 o1 s1 with ⟨a1, b1⟩ | ⟨a1, b1, c1, d1⟩
  · rcases at_ h2 o2 s2 with ⟨a2, b2⟩ | ⟨a2, b2, c2, d2⟩
    · rw [a1, a2]
    · exact absurd b1 d2
  · rcases at_ h2 o2 s2 with ⟨a2, b2⟩ | ⟨a2, b2, c2, d2⟩
    · exact absurd b2 d1
    · exact hs.ds j k e e' q b1 b2 o1 o2 c1 c2
theorem sv_asg {i : Nat} {m : Prog α} {J : Aim ω} {k : α → Prog ω} (h : EV N Γ te m) (hk : ∀ a, SV N (Γ.set i (.per a)) tz J (k a)) : SV N Γ (tSeq (tAsg te (gName i)) tz) J (m >>= k) := fun σ F H D hs q =>
  h σ F H hs _ (wp_mono (wp_bind.1 q) fun a q1 v F1 H1 hs1 e1 r1 => hk a _ F1 H1 D (hs1.setPer i r1) (wp_mono q1 fun o x => J.mono e1 x))
theorem sv_asgN {α : Type} [Enc α] {i : Nat} {m : Prog (L α)} {J : Aim ω} {k : L α → Prog ω} (h : EVN N Γ te m) (hk : ∀ xs : List α, SV N (Γ.set i (.lst xs)) tz J (k xs)) : SV N Γ (tSeq (tAsg te (gName i)) tz) J (m >>= k) := fun σ F H D hs q =>
  h σ F H hs _ (wp_mono (wp_bind.1 q) fun xs q1 p vs F1 H1 hs1 e1 n hp d => hk xs _ F1 H1 D (hs1.setOwn i n hp d) (wp_mono q1 fun o x => J.mono e1 x))
theorem sv_drop {m : Prog α} {J : Aim ω} {k : Prog ω} (h : EV N Γ te m) (hk : SV N Γ tz J k) : SV N Γ (tSeq (tDrop te) tz) J (m >>= fun _ => k) := fun σ F H D hs q =>
  h σ F H hs _ (wp_mono (wp_bind.1 q) fun a q1 v F1 H1 hs1 e1 r1 => hk _ F1 H1 D hs1 (wp_mono q1 fun o x => J.mono e1 x))
theorem sv_next {β : Type} {Γi : β → Env G} {b : β} (hw : ∀ σ F H, HS N Γ σ F H → HS N (Γi b) σ F H) : SV N Γ tNext (JN N Γi) (.ok b) := fun σ F H D hs q => q σ F H (hw σ F H hs) (Same.refl F)
theorem sv_nextF {β : Type} {Γi : β → Env G} {b : β} {Jr : Aim ρ} (hw : ∀ σ F H, HS N Γ σ F H → HS N (Γi b) σ F H) : SV N Γ tNext (JF (JN N Γi) Jr) (.ok (.nx b)) := fun σ F H D hs q => q σ F H (hw σ F H hs) (Same.refl F)
theorem sv_ret [iρ : Rp G ρ] {m : Prog ρ} (h : EV N Γ te m) : SV N Γ (tSeq (tRet te) tz) (JR G N) m := fun σ F H D hs q =>
  h σ F H hs _ (wp_mono q fun a k v F1 H1 hs1 e1 r1 => k v F1 H1 hs1.w r1)
theorem sv_retF [iρ : Rp G ρ] {β : Type} {m : Prog ρ} {Jn : Aim β} (h : EV N Γ te m) : SV N Γ (tSeq (tRet te) tz) (JF Jn (JR G N)) (m >>= fun r => .ok (.rt r)) := fun σ F H D hs q =>
  h σ F H hs _ (wp_mono (wp_bind.1 q) fun a k v F1 H1 hs1 e1 r1 => k v F1 H1 hs1.w r1)
theorem sv_retN {α : Type} [Enc α] {m : Prog (L α)} (h : EVN N Γ te m) : SV N Γ (tSeq (tRet te) tz) (JRN G N) m := fun σ F H D hs q =>
  h σ F H hs _ (wp_mono q fun xs k p vs F1 H1 hs1 e1 n hp d => k p vs F1 H1 hs1.w n.mine n.h0 hp d)
theorem sv_retNF {α β : Type} [Enc α] {m : Prog (L α)} {Jn : Aim β} (h : EVN N Γ te m) : SV N Γ (tSeq (tRet te) tz) (JF Jn (JRN G N)) (m >>= fun r => .ok (.rt r)) := fun σ F H D hs q =>
  h σ F H hs _ (wp_mono (wp_bind.1 q) fun xs k p vs F1 H1 hs1 e1 n hp d => k p vs F1 H1 hs1.w n.mine n.h0 hp d)
/-- no slot's word but dead ones -/
def Wk : Env G → Env G → Prop
  | [], [] => True
  | e :: Γ, e' :: Γ' => (e' = .dead ∨ e = e') ∧ Wk Γ Γ'
  | _, _ => False
theorem Wk.get : ∀ {Γ Γ' : Env G}, Wk Γ Γ' → Γ.length = Γ'.length ∧ ∀ (i : Nat) (e : Ent G), Γ'[i]? = some e → e = .dead ∨ Γ[i]? = some e
  | [], [], _ => ⟨rfl, fun i e h => by simp at h⟩
  | [], _ :: _, h => h.elim
  | _ :: _, [], h => h.elim
  | e :: Γ, e' :: Γ', h => by
    obtain ⟨a, b⟩ := Wk.get (Γ := Γ) (Γ' := Γ') h.2
    refine ⟨congrArg (· + 1) a, fun i e2 q => ?_⟩
    cases i with
    | zero =>
      have q' : e' = e2 := Option.some.inj q
      subst q'
      exact h.1.imp id fun z => by rw [z]; rfl
    | succ i => exact b i e2 q
theorem Slots.of {F H : Hp} : ∀ {Γ : Env G} {σ : L2.St}, Γ.length = σ.length → (∀ (i : Nat) e o, Γ[i]? = some e → σ[i]? = some o → Sl N F H e o) → Slots N F H Γ σ
  | [], [], _, _ => trivial
  | [], _ :: _, h, _ => by cases h
  | _ :: _, [], h, _ => by cases h
  | e :: Γ, o :: σ, h, k => ⟨k 0 e o rfl rfl, Slots.of (Nat.succ.inj h) fun i e' o' a b => k (i + 1) e' o' a b⟩
theorem wk_hs (w : Wk Γ Γ') : ∀ σ F H, HS N Γ σ F H → HS N Γ' σ F H := fun σ F H hs => by
  obtain ⟨hl, hg⟩ := w.get
  refine ⟨hs.w, Slots.of (hl.symm.trans hs.sl.len) fun i e o h1 h2 => ?_, fun i j e e' p h1 h2 o1 o2 s1 s2 => ?_⟩
  · rcases hg i e h1 with z | z
    · subst z; trivial
    · obtain ⟨o', e1, s⟩ := hs.sl.get z
      rw [h2] at e1
      cases e1
      exact s
  · rcases hg i e h1 with z | z
    · subst z; cases o1
    · rcases hg j e' h2 with z' | z'
      · subst z'; cases o2
      · exact hs.ds i j e e' p z z' o1 o2 s1 s2
theorem sv_weak {J : Aim ω} {m : Prog ω} (w : Wk Γ Γ') (h : SV N Γ' ts J m) : SV N Γ ts J m := fun σ F H D hs q => h σ F H D (wk_hs w σ F H hs) q
/-- an if whose branch leaves, then the rest -/
theorem sv_ifret {J : Aim ω} {m0 : Prog Bool} {m1 m2 : Prog ω} (hr : J.Ret) (h0 : TV N Γ tt m0) (h1 : SV N Γ ts J m1) (h2 : SV N Γ tz J m2) : SV N Γ (tSeq (tIfS tt ts tNext) tz) J (m0 >>= fun c => if c then m1 else m2) := fun σ F H D hs q =>
  h0 σ F H hs _ (wp_mono (wp_bind.1 q) fun b k F' H' hs' e => by
    cases b with
    | true => exact h1 σ F' H' { D with nx := tz D } hs' (wp_mono k fun o x => hr _ o D _ rfl (J.mono e x))
    | false => exact h2 σ F' H' D hs' (wp_mono k fun o x => J.mono e x))
theorem sv_ifretF {Jr : Aim ρ} {J : Aim ω} {ret : ρ → ω} {m0 : Prog Bool} {m1 : Prog ρ} {m2 : Prog ω} (hr : J.To ret Jr) (h0 : TV N Γ tt m0) (h1 : SV N Γ ts Jr m1) (h2 : SV N Γ tz J m2) : SV N Γ (tSeq (tIfS tt ts tNext) tz) J (m0 >>= fun c => if c then m1 >>= (fun r => .ok (ret r)) else m2) := fun σ F H D hs q =>
  h0 σ F H hs _ (wp_mono (wp_bind.1 q) fun b k F' H' hs' e => by
    cases b with
    | true => exact h1 σ F' H' { D with nx := tz D } hs' (wp_mono (wp_bind.1 k) fun o x => hr _ o D _ rfl (J.mono e x))
    | false => exact h2 σ F' H' D hs' (wp_mono k fun o x => J.mono e x))
/-- both branches leave -/
theorem sv_ifelse {J : Aim ω} {m0 : Prog Bool} {m1 m2 : Prog ω} (hr : J.Ret) (h0 : TV N Γ tt m0) (h1 : SV N Γ ts J m1) (h2 : SV N Γ ts' J m2) : SV N Γ (tSeq (tIfS tt ts ts') tz) J (m0 >>= fun c => if c then m1 else m2) := fun σ F H D hs q =>
  h0 σ F H hs _ (wp_mono (wp_bind.1 q) fun b k F' H' hs' e => by
    cases b with
    | true => exact h1 σ F' H' { D with nx := tz D } hs' (wp_mono k fun o x => hr _ o D _ rfl (J.mono e x))
    | false => exact h2 σ F' H' { D with nx := tz D } hs' (wp_mono k fun o x => hr _ o D _ rfl (J.mono e x)))
theorem jr_ret [Rp G ρ] : (JR (ρ := ρ) G N).Ret := fun F r D D' e h v F' H' w x => e ▸ h v F' H' w x
theorem jrn_ret {α : Type} [Enc α] : (JRN (α := α) G N).Ret := fun F r D D' e h p vs F' H' a b c d x => e ▸ h p vs F' H' a b c d x
theorem jr_to {β : Type} {A : Aim β} {B : Aim ρ} (h : B.Ret) : (JF A B).To .rt B := fun F r D D' e x => h F r D D' e x
theorem jr_id {B : Aim ρ} (h : B.Ret) : B.To id B := fun F r D D' e x => h F r D D' e x
/-- the two branches, what they change said by b, then the rest -/
theorem sv_if {β : Type} {Γi : β → Env G} {J : Aim ω} {m0 : Prog Bool} {m1 m2 : Prog β} {k : β → Prog ω} (h0 : TV N Γ tt m0) (h1 : SV N Γ ts (JN N Γi) m1) (h2 : SV N Γ ts' (JN N Γi) m2) (h3 : ∀ b, SV N (Γi b) tz J (k b)) :
    SV N Γ (tSeq (tIfS tt ts ts') tz) J (m0 >>= fun c => (if c then m1 else m2) >>= k) := fun σ F H D hs q =>
  h0 σ F H hs _ (wp_mono (wp_bind.1 q) fun b q1 F' H' hs' e => by
    cases b with
    | true => exact h1 σ F' H' _ hs' (wp_mono (wp_bind.1 q1) fun b q2 σ2 F2 H2 hs2 e2 => h3 b σ2 F2 H2 D hs2 (wp_mono q2 fun o x => J.mono (Same.trans e e2) x))
    | false => exact h2 σ F' H' _ hs' (wp_mono (wp_bind.1 q1) fun b q2 σ2 F2 H2 hs2 e2 => h3 b σ2 F2 H2 D hs2 (wp_mono q2 fun o x => J.mono (Same.trans e e2) x)))
/-- .. that may also return -/
def flK {β : Type} (k : β → Prog ω) (ret : ρ → ω) : Fl β ρ → Prog ω
  | .nx b => k b
  | .rt r => .ok (ret r)
theorem flK_go {β : Type} {Γi : β → Env G} {J : Aim ω} {Jr : Aim ρ} {ret : ρ → ω} {k : β → Prog ω} (hr : J.To ret Jr) (h3 : ∀ b, SV N (Γi b) tz J (k b)) {F F' : Hp} {D D' : Ends} (e : Same F F') (o : Fl β ρ) (en : D'.nx = tz D) (er : D.rt = D'.rt) (x : wp (flK k ret o) (fun o => J.J F o D) (EP G N)) : (JF (JN N Γi) Jr).J F' o D' := by
  cases o with
  | nx b =>
    intro σ2 F2 H2 hs2 e2
    rw [en]
    exact h3 b σ2 F2 H2 D hs2 (wp_mono (show wp (k b) _ _ from x) fun o x => J.mono (Same.trans e e2) x)
  | rt r => exact hr F' r D _ er (J.mono e x)
theorem sv_ifF {β : Type} {Γi : β → Env G} {J : Aim ω} {Jr : Aim ρ} {ret : ρ → ω} {m0 : Prog Bool} {m1 m2 : Prog (Fl β ρ)} {k : β → Prog ω} (hr : J.To ret Jr) (h0 : TV N Γ tt m0) (h1 : SV N Γ ts (JF (JN N Γi) Jr) m1)
    (h2 : SV N Γ ts' (JF (JN N Γi) Jr) m2) (h3 : ∀ b, SV N (Γi b) tz J (k b)) : SV N Γ (tSeq (tIfS tt ts ts') tz) J (m0 >>= fun c => (if c then m1 else m2) >>= flK k ret) := fun σ F H D hs q =>
  h0 σ F H hs _ (wp_mono (wp_bind.1 q) fun b q1 F' H' hs' e => by
    cases b with
    | true => exact h1 σ F' H' _ hs' (wp_mono (wp_bind.1 q1) fun o x => flK_go hr h3 e o rfl rfl x)
    | false => exact h2 σ F' H' _ hs' (wp_mono (wp_bind.1 q1) fun o x => flK_go hr h3 e o rfl rfl x))
/-! ### loops -/
/-- what a walked thing yields: data, the heap as it is, or one new object laid -/
structure Gen (N : NN) (Γ : Env G) (F : Hp) (J : It) (xs : List α) : Prop where
  go : ∀ (i : Nat) σ F' H', HS N Γ σ F' H' → Same F F' → i < xs.length → J.go i H'
  yld : ∀ (i : Nat) (a : α) σ F' H' x H2, HS N Γ σ F' H' → Same F F' → xs[i]? = some a → J.yld i H' x H2 → (H2 = H' ∧ iα.rp a x F') ∨ ∃ T o, H' T = none ∧ H2 = upd H' T o ∧ iα.rp a x (upd F' T o)
  stop : ∀ (i : Nat) σ F' H', HS N Γ σ F' H' → Same F F' → xs.length ≤ i → J.stop i H'
def EVI (N : NN) (Γ : Env G) (wi : TI) (m : Prog (List α)) (Γl : Env G → Prop) : Prop := ∀ σ F H, HS N Γ σ F H → ∀ R : It → Hp → Prop, wp m (fun xs => ∀ F' H' J, HS N Γ σ F' H' → Same F F' → (∀ N1 Γ', Γl Γ' → Gen N1 Γ' F' J xs) → R J H') (EP G N) → wi σ H R
def foldP {β : Type} (f : β → α → Prog β) : List α → β → Prog β
  | [], b => .ok b
  | a :: r, b => f b a >>= fun b' => foldP f r b'
def foldF {β : Type} (f : β → α → Prog (Fl β ρ)) : List α → β → Prog (Fl β ρ)
  | [], b => .ok (.nx b)
  | a :: r, b => f b a >>= fun o => match o with
    | .nx b' => foldF f r b'
    | .rt x => .ok (.rt x)
/-- a for: what its turns change said by b; F1 the data known ahead -/
theorem for_core {βs : Type} {Γi : βs → Env G} {Γt : βs → α → Env G} {g : TG} {tb : TS} {D : Ends} {JJ : It} {xs : List α} {F1 : Hp} {b0 : βs} {σ : L2.St} {H1 : Hp} {Inv : Nat → βs → Prop} {bk : Ends}
    (h0 : HS N (Γi b0) σ F1 H1) (i0 : Inv 0 b0) (gen : ∀ b, Gen N (Γi b) F1 JJ xs) (hg : ∀ b a, GV N (Γi b) g a (Γt b a))
    (hb : ∀ i b a σ4 F4 H4 (N' : L2.St → Hp → Prop), xs[i]? = some a → Inv i b → HS N (Γt b a) σ4 F4 H4 → Same F1 F4 → (∀ b' σ5 F5 H5, Inv (i + 1) b' → HS N (Γi b') σ5 F5 H5 → Same F4 F5 → N' σ5 H5) → tb { D with nx := N', ct := N', bk := D.nx } σ4 H4)
    (hd : ∀ b σ2 F2 H2, Inv xs.length b → HS N (Γi b) σ2 F2 H2 → Same F1 F2 → D.nx σ2 H2) :
    ∃ W : Nat → Nat → L2.St → Hp → Prop, (∃ m, W 0 m σ H1) ∧ ∀ i m σ H, W i m σ H → (JJ.stop i H ∧ D.nx σ H) ∨ (JJ.go i H ∧ ∃ N : L2.St → Hp → Prop, (∀ σ' H', N σ' H' → ∃ m', m' < m ∧ W (i + 1) m' σ' H') ∧ ∀ x H', JJ.yld i H x H' → g x σ H' fun σ2 H2 => tb { D with nx := N, ct := N, bk := D.nx } σ2 H2) := by
  refine ⟨fun i m σ' H' => ∃ b F', HS N (Γi b) σ' F' H' ∧ Same F1 F' ∧ i ≤ xs.length ∧ m = xs.length - i ∧ Inv i b, ⟨_, b0, F1, h0, Same.refl F1, Nat.zero_le _, rfl, i0⟩, ?_⟩
  rintro i m σ2 H2 ⟨b, F2, hs2, e2, hle, rfl, q2⟩
  by_cases hi : i < xs.length
  · refine .inr ⟨(gen b).go i σ2 F2 H2 hs2 e2 hi, fun σ' H' => ∃ b F', HS N (Γi b) σ' F' H' ∧ Same F1 F' ∧ Inv (i + 1) b, ?_, fun x H3 hy => ?_⟩
    · rintro σ' H' ⟨b', F', hs', e', q'⟩
      exact ⟨xs.length - (i + 1), by omega, b', F', hs', e', hi, rfl, q'⟩
    · have ex : xs[i]? = some xs[i] := List.getElem?_eq_getElem hi
      have fin : ∀ F3, HS N (Γi b) σ2 F3 H3 → Same F1 F3 → iα.rp xs[i] x F3 → g x σ2 H3 fun σ4 H4 => tb { D with nx := fun σ' H' => ∃ b F', HS N (Γi b) σ' F' H' ∧ Same F1 F' ∧ Inv (i + 1) b, ct := fun σ' H' => ∃ b F', HS N (Γi b) σ' F' H' ∧ Same F1 F' ∧ Inv (i + 1) b, bk := D.nx } σ4 H4 := fun F3 hs3 e3 r3 =>
        hg b xs[i] σ2 F3 H3 x hs3 r3 _ fun σ4 F4 H4 hs4 e4 => hb i b xs[i] σ4 F4 H4 _ ex q2 hs4 (Same.trans e3 e4) fun b' σ5 F5 H5 q5 hs5 e5 => ⟨b', F5, hs5, Same.trans e3 (Same.trans e4 e5), q5⟩
      rcases (gen b).yld i xs[i] σ2 F2 H2 x H3 hs2 e2 ex hy with ⟨rfl, r⟩ | ⟨T, o, hT, rfl, r⟩
      · exact fin F2 hs2 e2 r
      · obtain ⟨hs3, e3⟩ := hs2.laid (o := o) hT
        exact fin _ hs3 (Same.trans e2 e3) r
  · have e : i = xs.length := by omega
    subst e
    exact .inl ⟨(gen b).stop _ σ2 F2 H2 hs2 e2 (Nat.le_refl _), hd b σ2 F2 H2 q2 hs2 e2⟩
theorem sv_for {βs : Type} {Γi : βs → Env G} {Γt : βs → α → Env G} {wi : TI} {g : TG} {tb : TS} {J : Aim ω} {mi : Prog (List α)} {body : βs → α → Prog βs} {k : βs → Prog ω} {b0 : βs} {Γl : Env G → Prop}
    (hi : EVI (α := α) N Γ wi mi Γl) (h0 : ∀ σ F H, HS N Γ σ F H → HS N (Γi b0) σ F H) (hl : ∀ b, Γl (Γi b)) (hg : ∀ b a, GV N (Γi b) g a (Γt b a)) (hb : ∀ b a, SV N (Γt b a) tb (JN N Γi) (body b a)) (hk : ∀ b, SV N (Γi b) tz J (k b)) :
    SV N Γ (tSeq (tFor wi g tb) tz) J (mi >>= fun xs => foldP body xs b0 >>= k) := fun σ F H D hs q =>
  hi σ F H hs _ (wp_mono (wp_bind.1 q) fun xs q1 F1 H1 JJ hs1 e1 gen =>
    for_core (D := { D with nx := tz D }) (Inv := fun i b => wp (foldP body (xs.drop i) b) (fun b' => wp (k b') (fun o => J.J F o D) (EP G N)) (EP G N)) (bk := D) (h0 σ F1 H1 hs1) (wp_bind.1 q1) (fun b => gen _ _ (hl b)) hg
      (fun i b a σ4 F4 H4 N' ex iv hs4 e4 kn => hb b a σ4 F4 H4 _ hs4 (by
        obtain ⟨hi, ex'⟩ := List.getElem?_eq_some_iff.mp ex
        rw [List.drop_eq_getElem_cons hi, ex'] at iv
        exact wp_mono (wp_bind.1 iv) fun b' x σ5 F5 H5 hs5 e5 => kn b' σ5 F5 H5 x hs5 e5))
      (fun b σ2 F2 H2 iv hs2 e2 => hk b σ2 F2 H2 D hs2 (by
        rw [List.drop_length] at iv
        exact wp_mono (show wp (k b) _ _ from iv) fun o x => J.mono (Same.trans e1 e2) x)))
/-- a for that may return -/
theorem sv_forF {βs : Type} {Γi : βs → Env G} {Γt : βs → α → Env G} {wi : TI} {g : TG} {tb : TS} {J : Aim ω} {Jr : Aim ρ} {ret : ρ → ω} {mi : Prog (List α)} {body : βs → α → Prog (Fl βs ρ)} {k : βs → Prog ω} {b0 : βs} {Γl : Env G → Prop} (hr : J.To ret Jr)
    (hi : EVI (α := α) N Γ wi mi Γl) (h0 : ∀ σ F H, HS N Γ σ F H → HS N (Γi b0) σ F H) (hl : ∀ b, Γl (Γi b)) (hg : ∀ b a, GV N (Γi b) g a (Γt b a)) (hb : ∀ b a, SV N (Γt b a) tb (JF (JN N Γi) Jr) (body b a)) (hk : ∀ b, SV N (Γi b) tz J (k b)) :
    SV N Γ (tSeq (tFor wi g tb) tz) J (mi >>= fun xs => foldF body xs b0 >>= flK k ret) := fun σ F H D hs q =>
  hi σ F H hs _ (wp_mono (wp_bind.1 q) fun xs q1 F1 H1 JJ hs1 e1 gen =>
    for_core (D := { D with nx := tz D }) (Inv := fun i b => wp (foldF body (xs.drop i) b) (fun o => wp (flK k ret o) (fun o => J.J F o D) (EP G N)) (EP G N)) (bk := D) (h0 σ F1 H1 hs1) (wp_bind.1 q1) (fun b => gen _ _ (hl b)) hg
      (fun i b a σ4 F4 H4 N' ex iv hs4 e4 kn => hb b a σ4 F4 H4 _ hs4 (by
        obtain ⟨hi, ex'⟩ := List.getElem?_eq_some_iff.mp ex
        rw [List.drop_eq_getElem_cons hi, ex'] at iv
        exact wp_mono (wp_bind.1 iv) fun o x => by
          cases o with
          | nx b' => exact fun σ5 F5 H5 hs5 e5 => kn b' σ5 F5 H5 x hs5 e5
          | rt r => exact hr _ r D _ rfl (J.mono (Same.trans e1 e4) x)))
      (fun b σ2 F2 H2 iv hs2 e2 => hk b σ2 F2 H2 D hs2 (by
        rw [List.drop_length] at iv
        exact wp_mono (show wp (k b) _ _ from iv) fun o x => J.mono (Same.trans e1 e2) x)))
/-- while, by fuel -/
def whileP {β : Type} (c : β → Prog Bool) (f : β → Prog β) : Nat → β → Prog β
  | 0, _ => .stuck
  | n + 1, b => c b >>= fun t => if t then f b >>= whileP c f n else .ok b
def whileF {β : Type} (c : β → Prog Bool) (f : β → Prog (Fl β ρ)) : Nat → β → Prog (Fl β ρ)
  | 0, _ => .stuck
  | n + 1, b => c b >>= fun t => if t then f b >>= (fun o => match o with
    | .nx b' => whileF c f n b'
    | .rt r => .ok (.rt r)) else .ok (.nx b)
theorem sv_while {βs : Type} {Γi : βs → Env G} {tb : TS} {J : Aim ω} {mc : βs → Prog Bool} {body : βs → Prog βs} {k : βs → Prog ω} {b0 : βs} {fuel : Nat}
    (h0 : ∀ σ F H, HS N Γ σ F H → HS N (Γi b0) σ F H) (hc : ∀ b, TV N (Γi b) tt (mc b)) (hb : ∀ b, SV N (Γi b) tb (JN N Γi) (body b)) (hk : ∀ b, SV N (Γi b) tz J (k b)) :
    SV N Γ (tSeq (tWhile tt tb) tz) J (whileP mc body fuel b0 >>= k) := fun σ F H D hs q => by
  refine ⟨fun n σ' H' => ∃ b F', HS N (Γi b) σ' F' H' ∧ Same F F' ∧ wp (whileP mc body n b) (fun b' => wp (k b') (fun o => J.J F o D) (EP G N)) (EP G N), ⟨fuel, b0, F, h0 σ F H hs, Same.refl F, wp_bind.1 q⟩, ?_⟩
  rintro n σ2 H2 ⟨b, F2, hs2, e2, q2⟩
  cases n with
  | zero => exact q2.elim
  | succ n =>
    refine hc b σ2 F2 H2 hs2 _ (wp_mono (wp_bind.1 q2) fun t q3 F3 H3 hs3 e3 => ?_)
    cases t with
    | true => exact ⟨_, fun σ' H' x => ⟨n, Nat.lt_succ_self n, x⟩, hb b σ2 F3 H3 _ hs3 (wp_mono (wp_bind.1 q3) fun b' q4 σ4 F4 H4 hs4 e4 => ⟨b', F4, hs4, Same.trans e2 (Same.trans e3 e4), q4⟩)⟩
    | false => exact hk b σ2 F3 H3 D hs3 (wp_mono (show wp (k b) _ _ from q3) fun o x => J.mono (Same.trans e2 e3) x)
theorem sv_whileF {βs : Type} {Γi : βs → Env G} {tb : TS} {J : Aim ω} {Jr : Aim ρ} {ret : ρ → ω} {mc : βs → Prog Bool} {body : βs → Prog (Fl βs ρ)} {k : βs → Prog ω} {b0 : βs} {fuel : Nat} (hr : J.To ret Jr)
    (h0 : ∀ σ F H, HS N Γ σ F H → HS N (Γi b0) σ F H) (hc : ∀ b, TV N (Γi b) tt (mc b)) (hb : ∀ b, SV N (Γi b) tb (JF (JN N Γi) Jr) (body b)) (hk : ∀ b, SV N (Γi b) tz J (k b)) :
    SV N Γ (tSeq (tWhile tt tb) tz) J (whileF mc body fuel b0 >>= flK k ret) := fun σ F H D hs q => by
  refine ⟨fun n σ' H' => ∃ b F', HS N (Γi b) σ' F' H' ∧ Same F F' ∧ wp (whileF mc body n b) (fun o => wp (flK k ret o) (fun o => J.J F o D) (EP G N)) (EP G N), ⟨fuel, b0, F, h0 σ F H hs, Same.refl F, wp_bind.1 q⟩, ?_⟩
  rintro n σ2 H2 ⟨b, F2, hs2, e2, q2⟩
  cases n with
  | zero => exact q2.elim
  | succ n =>
    refine hc b σ2 F2 H2 hs2 _ (wp_mono (wp_bind.1 q2) fun t q3 F3 H3 hs3 e3 => ?_)
    cases t with
    | true => exact ⟨_, fun σ' H' x => ⟨n, Nat.lt_succ_self n, x⟩, hb b σ2 F3 H3 _ hs3 (wp_mono (wp_bind.1 q3) fun o q4 => by
        cases o with
        | nx b' => exact fun σ4 F4 H4 hs4 e4 => ⟨b', F4, hs4, Same.trans e2 (Same.trans e3 e4), q4⟩
        | rt r => exact hr _ r D _ rfl (J.mono (Same.trans e2 e3) q4))⟩
    | false => exact hk b σ2 F3 H3 D hs3 (wp_mono (show wp (k b) _ _ from q3) fun o x => J.mono (Same.trans e2 e3) x)
end
end Ty

namespace Ty
open PySem PySem.Spec PyProof.Rows L2
open Enc (enc)
variable {G : Glob}
/-! ### calls -/
section
variable {N : NN} {Γ : Env G} {σ : L2.St} {F H F' H' : Hp}
/-- behind a call: the callee's world was N' -/
theorem HS.call {B : Addr → Prop} {S : Option (Addr × Addr)} {E : XK} (hs : HS N Γ σ F H) (hB : ∀ a, B a → ∃ p c, N.S = some (p, c) ∧ S = some (p, c) ∧ (a = p ∨ a = c)) (w : W ⟨F, H, B, S, E, fun _ => none⟩ F' H') : HS N Γ σ F' H' ∧ Same F F' := by
  have e : Same F F' := w.f0
  have fr : ∀ q o, F q = none → H q = some o → F' q = none := fun q o f h => by
    cases z : F' q with
    | none => rfl
    | some u =>
      rcases w.nw q u z with x | x
      · rw [show F q = some u from x] at f; cases f
      · rw [show H q = none from x] at h; cases h
  have kp : ∀ a o, ¬ B a → H a = some o → H' a = some o := w.kp
  refine ⟨hs.move ⟨w.fh, Same.trans hs.w.f0 e, fun a u z => ?_, fun a u nb h0 => ?_, fun a z => hs.w.dm a (w.dm a z), fun p c z => ?_, hs.w.sb, fun a u z => ?_⟩ e (fun q vs hl h => ?_) (fun q hl => ?_), e⟩
  · rcases w.nw a u z with x | x
    · exact hs.w.nw a u x
    · exact .inr (hs.w.dm a x)
  · refine kp a u (fun hb => ?_) (hs.w.kp a u nb h0)
    obtain ⟨p, c, hS, _, hac⟩ := hB a hb
    have sb := hs.w.sb p c hS
    rcases hac with r | r
    · subst r
      rcases sb.1 with x | x
      · rw [x] at h0; cases h0
      · exact nb x
    · subst r
      rcases sb.2 with x | x
      · rw [x] at h0; cases h0
      · exact nb x
  · have s := hs.w.sr p c z
    obtain ⟨st, ix, cs, h1, h2, r⟩ := s.at_
    by_cases hb : B p ∨ B c
    · have hS' : S = some (p, c) := by
        rcases hb with hb | hb
        · obtain ⟨p', c', a, b, _⟩ := hB _ hb
          rw [z] at a; cases a; exact b
        · obtain ⟨p', c', a, b, _⟩ := hB _ hb
          rw [z] at a; cases a; exact b
      exact w.sr p c hS'
    · exact ⟨fr p _ s.fp h1, fr c _ s.fc h2, s.ne, st, ix, cs, kp p _ (fun x => hb (.inl x)) h1, kp c _ (fun x => hb (.inr x)) h2, r⟩
  · obtain ⟨x, y⟩ := hs.w.os a u z
    refine ⟨⟨kp a u (fun hb => ?_) x.1, fr a u x.2 x.1⟩, y⟩
    obtain ⟨p, c, hS, _, hac⟩ := hB a hb
    rcases hac with r | r
    · exact (y p c hS).1 r
    · exact (y p c hS).2 r
  · refine kp q _ (fun hb => ?_) h
    obtain ⟨p, c, hS, _, hac⟩ := hB q hb
    have m := (hs.held hl).1.s p c hS
    rcases hac with r | r
    · exact m.1 r
    · exact m.2 r
  · obtain ⟨m, vs, h⟩ := hs.held hl
    exact fr q _ m.f h
theorem HS.newAt {E : XK} {B : Addr → Prop} {S : Option (Addr × Addr)} (hs : HS N Γ σ F H) {p : Addr} (m : Mine ⟨F, H, B, S, E, fun _ => none⟩ F' p) (h0 : H p = none) : NewAt N Γ σ F' p := by
  have no : N.O p = none := by
    cases z : N.O p with
    | none => rfl
    | some o => exact absurd (hs.w.os p o z).1.1 (by rw [h0]; intro y; cases y)
  refine ⟨⟨m.f, hs.w.dm p h0, fun q c e => ?_⟩, hs.w.dm p h0, fun hl => ?_, no⟩
  · obtain ⟨st, ix, cs, h1, h2, r⟩ := (hs.w.sr q c e).at_
    refine ⟨fun z => ?_, fun z => ?_⟩
    · rw [z, h1] at h0; cases h0
    · rw [z, h2] at h0; cases h0
  · obtain ⟨_, vs, h⟩ := hs.held hl
    rw [h0] at h; cases h
end
section
variable {α β γ ω ρ τ : Type} [iα : Rp G α] [iβ : Rp G β] [iγ : Rp G γ] [iρ : Rp G ρ]
def ra0 : Unit → List V → Hp → Prop := fun _ vs _ => vs = []
def raC (α : Type) [iα : Rp G α] (ra : τ → List V → Hp → Prop) : α × τ → List V → Hp → Prop := fun p vs F => ∃ v ws, vs = v :: ws ∧ iα.rp p.1 v F ∧ ra p.2 ws F
def NN.of (F H : Hp) (E : XK) : NN := ⟨F, H, fun _ => False, none, E, fun _ => none⟩
def NN.src (F H : Hp) (p c : Addr) (E : XK) : NN := ⟨F, H, fun a => a = p ∨ a = c, some (p, c), E, fun _ => none⟩
/-- the promise of a def: from data to data; to a new list; with the source of draws first -/
def SpF (G : Glob) {ρ τ : Type} [Rp G ρ] (ra : τ → List V → Hp → Prop) (f : τ → Prog ρ) : Sp := fun vs H Q E => ∃ F x, Same F H ∧ ra x vs F ∧
  wp (f x) (fun r => ∀ v F' H', W (.of F H E) F' H' → Rp.rp (G := G) r v F' → Q v H') (EP G (.of F H E))
def SpN (G : Glob) {α τ : Type} [Enc α] (ra : τ → List V → Hp → Prop) (f : τ → Prog (L α)) : Sp := fun vs H Q E => ∃ F x, Same F H ∧ ra x vs F ∧
  wp (f x) (fun (r : List α) => ∀ p ws F' H', W (.of F H E) F' H' → Mine (.of F H E) F' p → H p = none → H' p = some (.lst ws) → DqAll G.K F' ws (r.map enc) → Q (.ref p) H') (EP G (.of F H E))
def SpS (G : Glob) {ρ τ : Type} [Rp G ρ] (ra : τ → List V → Hp → Prop) (f : τ → Prog ρ) : Sp := fun vs H Q E => ∃ p c us F x, vs = .ref p :: us ∧ SrcAt p c F H ∧ Same F H ∧ ra x us F ∧
  wp (f x) (fun r => ∀ v F' H', W (.src F H p c E) F' H' → Rp.rp (G := G) r v F' → Q v H') (EP G (.src F H p c E))
def SpSN (G : Glob) {α τ : Type} [Enc α] (ra : τ → List V → Hp → Prop) (f : τ → Prog (L α)) : Sp := fun vs H Q E => ∃ p c us F x, vs = .ref p :: us ∧ SrcAt p c F H ∧ Same F H ∧ ra x us F ∧
  wp (f x) (fun (r : List α) => ∀ q ws F' H', W (.src F H p c E) F' H' → Mine (.src F H p c E) F' q → H q = none → H' q = some (.lst ws) → DqAll G.K F' ws (r.map enc) → Q (.ref q) H') (EP G (.src F H p c E))
variable {N : NN} {Γ Γ' : Env G} {te ta tb tc td tf : TE} {t : TA} {tt tu : TT} {tz ts ts' : TS}
theorem ep_of {F H : Hp} {σ : L2.St} {B : Addr → Prop} {S : Option (Addr × Addr)} {F1 H1 : Hp} (hs : HS N Γ σ F1 H1) (hB : ∀ a, B a → ∃ p c, N.S = some (p, c) ∧ S = some (p, c) ∧ (a = p ∨ a = c)) (e : Exc) (h : EP G N e) : EP G ⟨F1, H1, B, S, N.E, fun _ => none⟩ e :=
  fun F' H' C d w r => h F' H' C d (hs.call hB w).1.w r
theorem noB {N : NN} {S : Option (Addr × Addr)} : ∀ a : Addr, (fun _ => False : Addr → Prop) a → ∃ p c, N.S = some (p, c) ∧ S = some (p, c) ∧ (a = p ∨ a = c) := fun _ h => h.elim
theorem ev_call {ra : τ → List V → Hp → Prop} {f : τ → Prog ρ} {m : Prog τ} (h : EVA N Γ t m ra) : EV N Γ (tCall (SpF G ra f) [] N.E t) (m >>= f) := fun σ F H hs Q q =>
  h σ F H hs _ (wp_mono (wp_bind.1 q) fun x q1 vs F1 H1 hs1 e1 r1 => ⟨F1, x, hs1.w.fh, by rw [List.append_nil]; exact r1, wp_imp q1 (fun r k v F' H' w rr => by
    obtain ⟨hs2, e2⟩ := hs1.call noB w
    exact k v F' H' hs2 (Same.trans e1 e2) rr) fun e he => ep_of (F := F) (H := H) hs1 noB e he⟩)
theorem evn_call {α τ : Type} [Enc α] {ra : τ → List V → Hp → Prop} {f : τ → Prog (L α)} {m : Prog τ} (h : EVA N Γ t m ra) : EVN N Γ (tCall (SpN G ra f) [] N.E t) (m >>= f) := fun σ F H hs Q q =>
  h σ F H hs _ (wp_mono (wp_bind.1 q) fun x q1 vs F1 H1 hs1 e1 r1 => ⟨F1, x, hs1.w.fh, by rw [List.append_nil]; exact r1, wp_imp q1 (fun r k p ws F' H' w m h0 hp d => by
    obtain ⟨hs2, e2⟩ := hs1.call noB w
    exact k p ws F' H' hs2 (Same.trans e1 e2) (hs1.newAt m h0) hp d) fun e he => ep_of (F := F) (H := H) hs1 noB e he⟩)
theorem srcB {N : NN} {p c : Addr} (h : N.S = some (p, c)) : ∀ a : Addr, (fun a => a = p ∨ a = c : Addr → Prop) a → ∃ p' c', N.S = some (p', c') ∧ some (p, c) = some (p', c') ∧ (a = p' ∨ a = c') := fun a x => ⟨p, c, h, rfl, x⟩
theorem ev_callS {ra : τ → List V → Hp → Prop} {f : τ → Prog ρ} {m : Prog τ} {i : Nat} (hi : Γ[i]? = some .src) (h : EVA N Γ t m ra) : EV N Γ (tCall (SpS G ra f) [] N.E (tCons (tVar i) t)) (m >>= f) := fun σ F H hs Q q => by
  obtain ⟨o, e0, p, c, e2, hS⟩ := hs.sl.get hi
  subst e2
  refine ⟨.ref p, e0, h σ F H hs _ (wp_mono (wp_bind.1 q) fun x q1 vs F1 H1 hs1 e1 r1 => ⟨p, c, vs, F1, x, by rw [List.append_nil], hs1.w.sr p c hS, hs1.w.fh, r1, wp_imp q1 (fun r k v F' H' w rr => ?_) fun e he => ep_of (F := F) (H := H) hs1 (srcB hS) e he⟩)⟩
  obtain ⟨hs2, e2⟩ := hs1.call (srcB hS) w
  exact k v F' H' hs2 (Same.trans e1 e2) rr
theorem evn_callS {α τ : Type} [Enc α] {ra : τ → List V → Hp → Prop} {f : τ → Prog (L α)} {m : Prog τ} {i : Nat} (hi : Γ[i]? = some .src) (h : EVA N Γ t m ra) : EVN N Γ (tCall (SpSN G ra f) [] N.E (tCons (tVar i) t)) (m >>= f) := fun σ F H hs Q q => by
  obtain ⟨o, e0, p, c, e2, hS⟩ := hs.sl.get hi
  subst e2
  refine ⟨.ref p, e0, h σ F H hs _ (wp_mono (wp_bind.1 q) fun x q1 vs F1 H1 hs1 e1 r1 => ⟨p, c, vs, F1, x, by rw [List.append_nil], hs1.w.sr p c hS, hs1.w.fh, r1, wp_imp q1 (fun r k q ws F' H' w m h0 hp d => ?_) fun e he => ep_of (F := F) (H := H) hs1 (srcB hS) e he⟩)⟩
  obtain ⟨hs2, e2⟩ := hs1.call (srcB hS) w
  exact k q ws F' H' hs2 (Same.trans e1 e2) (hs1.newAt m h0) hp d
theorem raC_mono {ra : τ → List V → Hp → Prop} (h : ∀ a vs F F', Same F F' → ra a vs F → ra a vs F') : ∀ (a : α × τ) vs F F', Same F F' → raC (G := G) α ra a vs F → raC (G := G) α ra a vs F' := fun a vs F F' e ⟨v, ws, e1, r, q⟩ => ⟨v, ws, e1, Rp.mono e r, h _ _ _ _ e q⟩
theorem ra0_mono : ∀ (a : Unit) (vs : List V) (F F' : Hp), Same F F' → ra0 a vs F → ra0 a vs F' := fun _ _ _ _ _ h => h
variable {δ ε : Type} [iδ : Rp G δ] [iε : Rp G ε]
variable {m1 : Prog α} {m2 : Prog β} {m3 : Prog γ} {m4 : Prog δ} {m5 : Prog ε}
theorem eva1 (h1 : EV N Γ ta m1) : EVA N Γ (tCons ta tNil) (m1 >>= fun a => .ok (a, ())) (raC (G := G) α ra0) := eva_cons ra0_mono h1 eva_nil
theorem eva2 (h1 : EV N Γ ta m1) (h2 : EV N Γ tb m2) : EVA N Γ (tCons ta (tCons tb tNil)) (m1 >>= fun a => m2 >>= fun b => .ok (a, b, ())) (raC (G := G) α (raC (G := G) β ra0)) := by
  have h := eva_cons (raC_mono ra0_mono) h1 (eva1 h2)
  simp only [bind_bind, ok_bind] at h
  exact h
theorem eva3 (h1 : EV N Γ ta m1) (h2 : EV N Γ tb m2) (h3 : EV N Γ tc m3) : EVA N Γ (tCons ta (tCons tb (tCons tc tNil))) (m1 >>= fun a => m2 >>= fun b => m3 >>= fun c => .ok (a, b, c, ())) (raC (G := G) α (raC (G := G) β (raC (G := G) γ ra0))) := by
  have h := eva_cons (raC_mono (raC_mono ra0_mono)) h1 (eva2 h2 h3)
  simp only [bind_bind, ok_bind] at h
  exact h
theorem eva4 (h1 : EV N Γ ta m1) (h2 : EV N Γ tb m2) (h3 : EV N Γ tc m3) (h4 : EV N Γ td m4) : EVA N Γ (tCons ta (tCons tb (tCons tc (tCons td tNil)))) (m1 >>= fun a => m2 >>= fun b => m3 >>= fun c => m4 >>= fun d => .ok (a, b, c, d, ())) (raC (G := G) α (raC (G := G) β (raC (G := G) γ (raC (G := G) δ ra0)))) := by
  have h := eva_cons (raC_mono (raC_mono (raC_mono ra0_mono))) h1 (eva3 h2 h3 h4)
  simp only [bind_bind, ok_bind] at h
  exact h
abbrev SpF1 (G : Glob) (α : Type) [Rp G α] (f : α → Prog ρ) [Rp G ρ] : Sp := SpF G (raC (G := G) α ra0) (fun p => f p.1)
abbrev SpF2 (G : Glob) (α β : Type) [Rp G α] [Rp G β] (f : α → β → Prog ρ) [Rp G ρ] : Sp := SpF G (raC (G := G) α (raC (G := G) β ra0)) (fun p => f p.1 p.2.1)
abbrev SpF3 (G : Glob) (α β γ : Type) [Rp G α] [Rp G β] [Rp G γ] (f : α → β → γ → Prog ρ) [Rp G ρ] : Sp := SpF G (raC (G := G) α (raC (G := G) β (raC (G := G) γ ra0))) (fun p => f p.1 p.2.1 p.2.2.1)
abbrev SpF4 (G : Glob) (α β γ δ : Type) [Rp G α] [Rp G β] [Rp G γ] [Rp G δ] (f : α → β → γ → δ → Prog ρ) [Rp G ρ] : Sp := SpF G (raC (G := G) α (raC (G := G) β (raC (G := G) γ (raC (G := G) δ ra0)))) (fun p => f p.1 p.2.1 p.2.2.1 p.2.2.2.1)
abbrev SpN1 (G : Glob) (α : Type) [Rp G α] {ρ : Type} [Enc ρ] (f : α → Prog (L ρ)) : Sp := SpN G (raC (G := G) α ra0) (fun p => f p.1)
abbrev SpN2 (G : Glob) (α β : Type) [Rp G α] [Rp G β] {ρ : Type} [Enc ρ] (f : α → β → Prog (L ρ)) : Sp := SpN G (raC (G := G) α (raC (G := G) β ra0)) (fun p => f p.1 p.2.1)
abbrev SpN3 (G : Glob) (α β γ : Type) [Rp G α] [Rp G β] [Rp G γ] {ρ : Type} [Enc ρ] (f : α → β → γ → Prog (L ρ)) : Sp := SpN G (raC (G := G) α (raC (G := G) β (raC (G := G) γ ra0))) (fun p => f p.1 p.2.1 p.2.2.1)
abbrev SpN4 (G : Glob) (α β γ δ : Type) [Rp G α] [Rp G β] [Rp G γ] [Rp G δ] {ρ : Type} [Enc ρ] (f : α → β → γ → δ → Prog (L ρ)) : Sp := SpN G (raC (G := G) α (raC (G := G) β (raC (G := G) γ (raC (G := G) δ ra0)))) (fun p => f p.1 p.2.1 p.2.2.1 p.2.2.2.1)
abbrev SpS0 (G : Glob) (f : Prog ρ) [Rp G ρ] : Sp := SpS G ra0 (fun _ => f)
abbrev SpS1 (G : Glob) (α : Type) [Rp G α] (f : α → Prog ρ) [Rp G ρ] : Sp := SpS G (raC (G := G) α ra0) (fun p => f p.1)
abbrev SpS2 (G : Glob) (α β : Type) [Rp G α] [Rp G β] (f : α → β → Prog ρ) [Rp G ρ] : Sp := SpS G (raC (G := G) α (raC (G := G) β ra0)) (fun p => f p.1 p.2.1)
abbrev SpS3 (G : Glob) (α β γ : Type) [Rp G α] [Rp G β] [Rp G γ] (f : α → β → γ → Prog ρ) [Rp G ρ] : Sp := SpS G (raC (G := G) α (raC (G := G) β (raC (G := G) γ ra0))) (fun p => f p.1 p.2.1 p.2.2.1)
theorem ev_call1 {f : α → Prog ρ} (h1 : EV N Γ ta m1) : EV N Γ (tCall (SpF1 G α f) [] N.E (tCons ta tNil)) (m1 >>= fun a => f a) := by
  have h := ev_call (f := fun p : α × Unit => f p.1) (eva1 h1)
  simp only [bind_bind, ok_bind] at h
  exact h
theorem ev_call2 {f : α → β → Prog ρ} (h1 : EV N Γ ta m1) (h2 : EV N Γ tb m2) : EV N Γ (tCall (SpF2 G α β f) [] N.E (tCons ta (tCons tb tNil))) (m1 >>= fun a => m2 >>= fun b => f a b) := by
  have h := ev_call (f := fun p : α × β × Unit => f p.1 p.2.1) (eva2 h1 h2)
  simp only [bind_bind, ok_bind] at h
  exact h
theorem ev_call3 {f : α → β → γ → Prog ρ} (h1 : EV N Γ ta m1) (h2 : EV N Γ tb m2) (h3 : EV N Γ tc m3) : EV N Γ (tCall (SpF3 G α β γ f) [] N.E (tCons ta (tCons tb (tCons tc tNil)))) (m1 >>= fun a => m2 >>= fun b => m3 >>= fun c => f a b c) := by
  have h := ev_call (f := fun p : α × β × γ × Unit => f p.1 p.2.1 p.2.2.1) (eva3 h1 h2 h3)
  simp only [bind_bind, ok_bind] at h
  exact h
theorem ev_call4 {f : α → β → γ → δ → Prog ρ} (h1 : EV N Γ ta m1) (h2 : EV N Γ tb m2) (h3 : EV N Γ tc m3) (h4 : EV N Γ td m4) : EV N Γ (tCall (SpF4 G α β γ δ f) [] N.E (tCons ta (tCons tb (tCons tc (tCons td tNil))))) (m1 >>= fun a => m2 >>= fun b => m3 >>= fun c => m4 >>= fun d => f a b c d) := by
  have h := ev_call (f := fun p : α × β × γ × δ × Unit => f p.1 p.2.1 p.2.2.1 p.2.2.2.1) (eva4 h1 h2 h3 h4)
  simp only [bind_bind, ok_bind] at h
  exact h
theorem evn_call1 {ζ : Type} [Enc ζ] {f : α → Prog (L ζ)} (h1 : EV N Γ ta m1) : EVN N Γ (tCall (SpN1 G α f) [] N.E (tCons ta tNil)) (m1 >>= fun a => f a) := by
  have h := evn_call (f := fun p : α × Unit => f p.1) (eva1 h1)
  simp only [bind_bind, ok_bind] at h
  exact h
theorem evn_call2 {ζ : Type} [Enc ζ] {f : α → β → Prog (L ζ)} (h1 : EV N Γ ta m1) (h2 : EV N Γ tb m2) : EVN N Γ (tCall (SpN2 G α β f) [] N.E (tCons ta (tCons tb tNil))) (m1 >>= fun a => m2 >>= fun b => f a b) := by
  have h := evn_call (f := fun p : α × β × Unit => f p.1 p.2.1) (eva2 h1 h2)
  simp only [bind_bind, ok_bind] at h
  exact h
theorem evn_call3 {ζ : Type} [Enc ζ] {f : α → β → γ → Prog (L ζ)} (h1 : EV N Γ ta m1) (h2 : EV N Γ tb m2) (h3 : EV N Γ tc m3) : EVN N Γ (tCall (SpN3 G α β γ f) [] N.E (tCons ta (tCons tb (tCons tc tNil)))) (m1 >>= fun a => m2 >>= fun b => m3 >>= fun c => f a b c) := by
  have h := evn_call (f := fun p : α × β × γ × Unit => f p.1 p.2.1 p.2.2.1) (eva3 h1 h2 h3)
  simp only [bind_bind, ok_bind] at h
  exact h
theorem evn_call4 {ζ : Type} [Enc ζ] {f : α → β → γ → δ → Prog (L ζ)} (h1 : EV N Γ ta m1) (h2 : EV N Γ tb m2) (h3 : EV N Γ tc m3) (h4 : EV N Γ td m4) : EVN N Γ (tCall (SpN4 G α β γ δ f) [] N.E (tCons ta (tCons tb (tCons tc (tCons td tNil))))) (m1 >>= fun a => m2 >>= fun b => m3 >>= fun c => m4 >>= fun d => f a b c d) := by
  have h := evn_call (f := fun p : α × β × γ × δ × Unit => f p.1 p.2.1 p.2.2.1 p.2.2.2.1) (eva4 h1 h2 h3 h4)
  simp only [bind_bind, ok_bind] at h
  exact h
theorem ev_callS0 {f : Prog ρ} {i : Nat} (hi : Γ[i]? = some .src) : EV N Γ (tCall (SpS0 G f) [] N.E (tCons (tVar i) tNil)) f := ev_callS (m := .ok ()) hi eva_nil
theorem ev_callS1 {f : α → Prog ρ} {i : Nat} (hi : Γ[i]? = some .src) (h1 : EV N Γ ta m1) : EV N Γ (tCall (SpS1 G α f) [] N.E (tCons (tVar i) (tCons ta tNil))) (m1 >>= fun a => f a) := by
  have h := ev_callS (f := fun p : α × Unit => f p.1) hi (eva1 h1)
  simp only [bind_bind, ok_bind] at h
  exact h
theorem ev_callS2 {f : α → β → Prog ρ} {i : Nat} (hi : Γ[i]? = some .src) (h1 : EV N Γ ta m1) (h2 : EV N Γ tb m2) : EV N Γ (tCall (SpS2 G α β f) [] N.E (tCons (tVar i) (tCons ta (tCons tb tNil)))) (m1 >>= fun a => m2 >>= fun b => f a b) := by
  have h := ev_callS (f := fun p : α × β × Unit => f p.1 p.2.1) hi (eva2 h1 h2)
  simp only [bind_bind, ok_bind] at h
  exact h
theorem ev_callS3 {f : α → β → γ → Prog ρ} {i : Nat} (hi : Γ[i]? = some .src) (h1 : EV N Γ ta m1) (h2 : EV N Γ tb m2) (h3 : EV N Γ tc m3) : EV N Γ (tCall (SpS3 G α β γ f) [] N.E (tCons (tVar i) (tCons ta (tCons tb (tCons tc tNil))))) (m1 >>= fun a => m2 >>= fun b => m3 >>= fun c => f a b c) := by
  have h := ev_callS (f := fun p : α × β × γ × Unit => f p.1 p.2.1 p.2.2.1) hi (eva3 h1 h2 h3)
  simp only [bind_bind, ok_bind] at h
  exact h
end
/-! ### a def of the text keeps its promise -/
section
variable {P : Program} {w : World} {mg : Str → Option Value} {base : Heap} {ρ τ : Type} [iρ : Rp G ρ]
/-- falls off its end -/
def JV (N : NN) : Aim Unit := ⟨fun _ _ D => (∀ F' H', W N F' H' → D.rt .non H') ∧ ∀ σ' F' H', W N F' H' → D.nx σ' H', fun _ h => h⟩
theorem sv_end {N : NN} {Γ : Env G} : SV N Γ tNext (JV N) (.ok ()) := fun σ F H D hs q => q.2 σ F H hs.w
theorem hs_start {ra : τ → List V → Hp → Prop} {Γ0 : τ → Env G} {Ns : List Str} {F H : Hp} {vs : List V} {x : τ} {E : XK} (e : Same F H) (h : ∀ N : NN, Slots N F H (Γ0 x) (start Ns vs)) (nown : ∀ (x : τ), ∀ e ∈ Γ0 x, e.own = false) : HS (.of F H E) (Γ0 x) (start Ns vs) F H :=
  ⟨⟨e, Same.refl F, fun a o h => .inl h, fun a o _ h => h, fun a h => h, fun p c h => (nomatch h), fun p c h => (nomatch h), fun a o h => (nomatch h)⟩, h _, fun i j e e' p h1 _ o1 => by
    have := nown x e (List.mem_of_getElem? h1)
    rw [o1] at this; cases this⟩
theorem hs_startS {ra : τ → List V → Hp → Prop} {Γ0 : τ → Env G} {Ns : List Str} {F H : Hp} {vs : List V} {x : τ} {E : XK} {p c : Addr} (e : Same F H) (sr : SrcAt p c F H) (h : ∀ N : NN, N.S = some (p, c) → Slots N F H (Γ0 x) (start Ns vs)) (nown : ∀ (x : τ), ∀ e ∈ Γ0 x, e.own = false) : HS (.src F H p c E) (Γ0 x) (start Ns vs) F H :=
  ⟨⟨e, Same.refl F, fun a o h => .inl h, fun a o _ h => h, fun a h => h, fun p' c' h => by cases h; exact sr, fun p' c' h => by cases h; exact ⟨.inr (.inl rfl), .inr (.inr rfl)⟩, fun a o h => (nomatch h)⟩, h _ rfl, fun i j e e' p h1 _ o1 => by
    have := nown x e (List.mem_of_getElem? h1)
    rw [o1] at this; cases this⟩
theorem fn_ok {x qual : Str} {st : Stmt} {f : Addr} {fd : FuncData} {Ns ps : List Str} {k : Nat} {ra : τ → List V → Hp → Prop} {g : τ → Prog ρ} (Fu : Fun G.K x qual st f fd) (S : FnScope Ns ps (defScope st)) (Γ0 : τ → Env G)
    (len : ∀ a vs F, ra a vs F → vs.length = ps.length) (h0 : ∀ (a : τ) vs F H (N : NN), ra a vs F → Slots N F H (Γ0 a) (start Ns vs)) (nown : ∀ (x : τ), ∀ e ∈ Γ0 x, e.own = false)
    (hbody : ∀ (cdv : Value) (A : Around) (outer : List PySem.Env) (s : Shared) (H F : Hp) (E : XK), Room k (A.deeper (envOfC qual (defScope st) s.heap.objs.size f cdv)) →
      ∃ t, PSs (cxOf (L2.CX P w) P w G.K mg base Ns qual (defScope st) f cdv A outer s H E) (defBody st) t ∧ ∀ a : τ, SV (.of F H E) (Γ0 a) t (JR G (.of F H E)) (g a)) : FnOk P w G.K mg base (L2.CX P w) (k + 1) f fd ps (SpF G ra g) :=
  Fu.okX S (fun vs H Q E ⟨F, a, _, r, _⟩ => len a vs F r) fun cdv A outer s H vs Q E hr ⟨F, a, e, r, q⟩ => by
    obtain ⟨t, hp, hv⟩ := hbody cdv A outer s H F E hr
    exact ⟨t, hp, hv a _ F H _ (hs_start (ra := ra) e (fun N => h0 a vs F H N r) nown) (wp_mono q fun r k v F' H' w rr => k v F' H' w rr)⟩
theorem fn_okV {x qual : Str} {st : Stmt} {f : Addr} {fd : FuncData} {Ns ps : List Str} {k : Nat} {ra : τ → List V → Hp → Prop} {g : τ → Prog Unit} (Fu : Fun G.K x qual st f fd) (S : FnScope Ns ps (defScope st)) (Γ0 : τ → Env G)
    (len : ∀ a vs F, ra a vs F → vs.length = ps.length) (h0 : ∀ (a : τ) vs F H (N : NN), ra a vs F → Slots N F H (Γ0 a) (start Ns vs)) (nown : ∀ (x : τ), ∀ e ∈ Γ0 x, e.own = false)
    (hbody : ∀ (cdv : Value) (A : Around) (outer : List PySem.Env) (s : Shared) (H F : Hp) (E : XK), Room k (A.deeper (envOfC qual (defScope st) s.heap.objs.size f cdv)) →
      ∃ t, PSs (cxOf (L2.CX P w) P w G.K mg base Ns qual (defScope st) f cdv A outer s H E) (defBody st) t ∧ ∀ a : τ, SV (.of F H E) (Γ0 a) t (JV (.of F H E)) (g a)) : FnOk P w G.K mg base (L2.CX P w) (k + 1) f fd ps (SpF G ra g) :=
  Fu.okX S (fun vs H Q E ⟨F, a, _, r, _⟩ => len a vs F r) fun cdv A outer s H vs Q E hr ⟨F, a, e, r, q⟩ => by
    obtain ⟨t, hp, hv⟩ := hbody cdv A outer s H F E hr
    exact ⟨t, hp, hv a _ F H _ (hs_start (ra := ra) e (fun N => h0 a vs F H N r) nown) (wp_mono q fun r k => ⟨fun F' H' w => k .non F' H' w .non, fun σ' F' H' w => k .non F' H' w .non⟩)⟩
theorem fn_okN {α : Type} [Enc α] {x qual : Str} {st : Stmt} {f : Addr} {fd : FuncData} {Ns ps : List Str} {k : Nat} {ra : τ → List V → Hp → Prop} {g : τ → Prog (L α)} (Fu : Fun G.K x qual st f fd) (S : FnScope Ns ps (defScope st)) (Γ0 : τ → Env G)
    (len : ∀ a vs F, ra a vs F → vs.length = ps.length) (h0 : ∀ (a : τ) vs F H (N : NN), ra a vs F → Slots N F H (Γ0 a) (start Ns vs)) (nown : ∀ (x : τ), ∀ e ∈ Γ0 x, e.own = false)
    (hbody : ∀ (cdv : Value) (A : Around) (outer : List PySem.Env) (s : Shared) (H F : Hp) (E : XK), Room k (A.deeper (envOfC qual (defScope st) s.heap.objs.size f cdv)) →
      ∃ t, PSs (cxOf (L2.CX P w) P w G.K mg base Ns qual (defScope st) f cdv A outer s H E) (defBody st) t ∧ ∀ a : τ, SV (.of F H E) (Γ0 a) t (JRN G (.of F H E)) (g a)) : FnOk P w G.K mg base (L2.CX P w) (k + 1) f fd ps (SpN G ra g) :=
  Fu.okX S (fun vs H Q E ⟨F, a, _, r, _⟩ => len a vs F r) fun cdv A outer s H vs Q E hr ⟨F, a, e, r, q⟩ => by
    obtain ⟨t, hp, hv⟩ := hbody cdv A outer s H F E hr
    exact ⟨t, hp, hv a _ F H _ (hs_start (ra := ra) e (fun N => h0 a vs F H N r) nown) (wp_mono q fun r k p ws F' H' w m h0 hp d => k p ws F' H' w m h0 hp d)⟩
theorem fn_okS {x qual : Str} {st : Stmt} {f : Addr} {fd : FuncData} {Ns ps : List Str} {k : Nat} {ra : τ → List V → Hp → Prop} {g : τ → Prog ρ} (Fu : Fun G.K x qual st f fd) (S : FnScope Ns ps (defScope st)) (Γ0 : τ → Env G)
    (len : ∀ a vs F, ra a vs F → vs.length + 1 = ps.length) (h0 : ∀ (a : τ) vs F H (N : NN) p c, N.S = some (p, c) → ra a vs F → Slots N F H (Γ0 a) (start Ns (.ref p :: vs))) (nown : ∀ (x : τ), ∀ e ∈ Γ0 x, e.own = false)
    (hbody : ∀ (cdv : Value) (A : Around) (outer : List PySem.Env) (s : Shared) (H F : Hp) (p c : Addr) (E : XK), Room k (A.deeper (envOfC qual (defScope st) s.heap.objs.size f cdv)) →
      ∃ t, PSs (cxOf (L2.CX P w) P w G.K mg base Ns qual (defScope st) f cdv A outer s H E) (defBody st) t ∧ ∀ a : τ, SV (.src F H p c E) (Γ0 a) t (JR G (.src F H p c E)) (g a)) : FnOk P w G.K mg base (L2.CX P w) (k + 1) f fd ps (SpS G ra g) :=
  Fu.okX S (fun vs H Q E ⟨p, c, us, F, a, e1, _, _, r, _⟩ => by rw [e1]; exact len a us F r) fun cdv A outer s H vs Q E hr ⟨p, c, us, F, a, e1, sr, e, r, q⟩ => by
    subst e1
    obtain ⟨t, hp, hv⟩ := hbody cdv A outer s H F p c E hr
    exact ⟨t, hp, hv a _ F H _ (hs_startS (ra := ra) e sr (fun N hS => h0 a us F H N p c hS r) nown) (wp_mono q fun r k v F' H' w rr => k v F' H' w rr)⟩
theorem fn_okSN {α : Type} [Enc α] {x qual : Str} {st : Stmt} {f : Addr} {fd : FuncData} {Ns ps : List Str} {k : Nat} {ra : τ → List V → Hp → Prop} {g : τ → Prog (L α)} (Fu : Fun G.K x qual st f fd) (S : FnScope Ns ps (defScope st)) (Γ0 : τ → Env G)
    (len : ∀ a vs F, ra a vs F → vs.length + 1 = ps.length) (h0 : ∀ (a : τ) vs F H (N : NN) p c, N.S = some (p, c) → ra a vs F → Slots N F H (Γ0 a) (start Ns (.ref p :: vs))) (nown : ∀ (x : τ), ∀ e ∈ Γ0 x, e.own = false)
    (hbody : ∀ (cdv : Value) (A : Around) (outer : List PySem.Env) (s : Shared) (H F : Hp) (p c : Addr) (E : XK), Room k (A.deeper (envOfC qual (defScope st) s.heap.objs.size f cdv)) →
      ∃ t, PSs (cxOf (L2.CX P w) P w G.K mg base Ns qual (defScope st) f cdv A outer s H E) (defBody st) t ∧ ∀ a : τ, SV (.src F H p c E) (Γ0 a) t (JRN G (.src F H p c E)) (g a)) : FnOk P w G.K mg base (L2.CX P w) (k + 1) f fd ps (SpSN G ra g) :=
  Fu.okX S (fun vs H Q E ⟨p, c, us, F, a, e1, _, _, r, _⟩ => by rw [e1]; exact len a us F r) fun cdv A outer s H vs Q E hr ⟨p, c, us, F, a, e1, sr, e, r, q⟩ => by
    subst e1
    obtain ⟨t, hp, hv⟩ := hbody cdv A outer s H F p c E hr
    exact ⟨t, hp, hv a _ F H _ (hs_startS (ra := ra) e sr (fun N hS => h0 a us F H N p c hS r) nown) (wp_mono q fun r k q ws F' H' w m h0 hp d => k q ws F' H' w m h0 hp d)⟩
end
end Ty

namespace Ty
open PySem PySem.Spec PyProof.Rows L2
open Enc (enc)
variable {G : Glob}
/-! ### plain functions of the mirrors -/
def cut {α : Type} (xs : List α) (lo hi : Option Int) : List α := (xs.drop (HT.sIx xs.length 0 lo)).take (HT.sIx xs.length xs.length hi - HT.sIx xs.length 0 lo)
def getI {α : Type} (xs : List α) (i : Int) : Prog α := match atI xs i with
  | some a => .ok a
  | none => .stuck
def memB {α : Type} [DecidableEq α] (a : α) (xs : List α) : Bool := decide (a ∈ xs)
theorem memB_eq {α : Type} [DecidableEq α] (a : α) (xs : List α) : memB a xs = decide (a ∈ xs) := rfl
def small (n : Nat) : Bool := decide (n ≤ 100000)
def chk {α : Type} (b : Bool) (m : Prog α) : Prog α := if b then m else .stuck
@[simp] theorem chk_true {α : Type} (m : Prog α) : chk true m = m := rfl
theorem wp_chk {α : Type} {b : Bool} {m : Prog α} {P : α → Prop} {E : Exc → Prop} (h : wp (chk b m) P E) : b = true ∧ wp m P E := by
  cases b with
  | true => exact ⟨rfl, h⟩
  | false => exact h.elim
theorem small_le {n : Nat} (h : small n = true) : n ≤ sizeLine := Nat.le_trans (of_decide_eq_true h) (by decide)
theorem small_lt {n : Nat} (h : small n = true) : n < sizeLine := Nat.lt_of_le_of_lt (of_decide_eq_true h) (by decide)

/-! ### scalars -/
class Scl (α : Type) [Enc α] where
  tv : α → V
  dp : ∀ {K : PySem.W.Frag} {F : Hp} {v : V} {a : α}, Dq K F v (enc a) → v = tv a
  pd : ∀ {K : PySem.W.Frag} {F : Hp} (a : α), Dq K F (tv a) (enc a)
  sc : ∀ a b : α, scal (tv a) (tv b) = true
  inj : ∀ a b : α, tv a = tv b → a = b
  fl : ∀ a : α, flatV (tv a) = true
  ev : ∀ a b : α, eqV (tv a) (tv b) = true ↔ a = b
instance : Scl Int := ⟨.int, fun h => by cases h; rfl, fun a => .int a, fun _ _ => rfl, fun a b e => by cases e; rfl, fun _ => rfl, fun a b => by
  show (a == b) = true ↔ _
  exact beq_iff_eq⟩
instance : Scl Bool := ⟨.bl, fun h => by cases h; rfl, fun a => .bl a, fun _ _ => rfl, fun a b e => by cases e; rfl, fun _ => rfl, fun a b => by
  show (a == b) = true ↔ _
  exact beq_iff_eq⟩
abbrev sx (s : Tx) : Str := ⟨s.toArray⟩
theorem sx_inj {a b : Tx} (h : sx a = sx b) : a = b := by
  have e := congrArg (fun x : Str => x.cps.toList) h
  exact e
instance : Scl (List Nat) := ⟨fun s => .str (sx s), fun h => by cases h; rfl, fun a => .str _, fun _ _ => rfl, fun a b e => sx_inj (V.str.inj e), fun _ => rfl, fun a b => by
  show (sx a == sx b) = true ↔ _
  rw [beq_iff_eq]
  exact ⟨sx_inj, fun e => by rw [e]⟩⟩
section
variable {α β γ : Type}
section
variable [Enc α] [Scl α]
theorem opv_eq [DecidableEq α] : OPV (G := G) (α := α) (β := α) (γ := Bool) rEq (fun a b => .ok (decide (a = b))) := fun N Γ σ F H x y a b hs ra rb Q q => by
  have e1 : x = Scl.tv a := Scl.dp ra
  have e2 : y = Scl.tv b := Scl.dp rb
  subst e1 e2
  have e : decide (Scl.tv a = Scl.tv b) = decide (a = b) := decide_eq_decide.2 ⟨Scl.inj a b, fun e => by rw [e]⟩
  exact ⟨Scl.sc a b, e ▸ q _ F H hs (Same.refl F) (.bl (decide (a = b)))⟩
theorem opv_ne [DecidableEq α] : OPV (G := G) (α := α) (β := α) (γ := Bool) rNe (fun a b => .ok (!decide (a = b))) := fun N Γ σ F H x y a b hs ra rb Q q => by
  have e1 : x = Scl.tv a := Scl.dp ra
  have e2 : y = Scl.tv b := Scl.dp rb
  subst e1 e2
  have e : decide (Scl.tv a = Scl.tv b) = decide (a = b) := decide_eq_decide.2 ⟨Scl.inj a b, fun e => by rw [e]⟩
  exact ⟨Scl.sc a b, by rw [e]; exact q _ F H hs (Same.refl F) (.bl _)⟩
theorem dpAll_scl {K : PySem.W.Frag} {F : Hp} : ∀ {xs : List α} {vs : List V}, DqAll K F vs (xs.map enc) → vs = xs.map Scl.tv
  | [], _, h => by cases h; rfl
  | x :: xs, _, h => by
    cases h with
    | cons h1 h2 => rw [Scl.dp h1, dpAll_scl h2]; rfl
theorem inV_scl [DecidableEq α] (a : α) : ∀ xs : List α, inV (Scl.tv a) (xs.map Scl.tv) = decide (a ∈ xs)
  | [] => by simp [inV]
  | x :: xs => by
    have ih := inV_scl a xs
    unfold inV at ih ⊢
    rw [List.map_cons, List.any_cons, ih]
    by_cases e : a = x
    · subst e
      have := (Scl.ev a a).2 rfl
      simp [this]
    · have : eqV (Scl.tv x) (Scl.tv a) = false := by
        cases h : eqV (Scl.tv x) (Scl.tv a) with
        | false => rfl
        | true => exact absurd ((Scl.ev x a).1 h).symm e
      simp [this, e]
theorem all_flat (xs : List α) : (xs.map Scl.tv).all flatV = true := by
  rw [List.all_eq_true]
  intro v hv
  obtain ⟨a, _, rfl⟩ := List.mem_map.1 hv
  exact Scl.fl a
theorem dp_tup {K : PySem.W.Frag} {F : Hp} {v : V} {xs : List α} (h : Dq K F v (.tuple (xs.map enc))) : ∃ p, v = .ref p ∧ SqT K F p (xs.map Scl.tv) := by
  cases h with
  | tup hs ha => exact ⟨_, rfl, dpAll_scl ha ▸ hs⟩
theorem dp_lst {K : PySem.W.Frag} {F : Hp} {v : V} {xs : List α} (h : Dq K F v (.list (xs.map enc))) : ∃ p, v = .ref p ∧ SqL K F p (xs.map Scl.tv) := by
  cases h with
  | lst hs ha => exact ⟨_, rfl, .inl (.inl (dpAll_scl ha ▸ hs))⟩
theorem opv_inT [DecidableEq α] : OPV (G := G) (α := α) (β := List α) (γ := Bool) (rIn G.K false) (fun a xs => .ok (memB a xs)) := fun N Γ σ F H x y a xs hs ra rb Q q => by
  have e1 : x = Scl.tv a := Scl.dp ra
  subst e1
  obtain ⟨p, rfl, hq⟩ := dp_tup rb
  exact ⟨p, _, rfl, .inr (sqt_same hs.w.fh hq), Scl.fl a, all_flat xs, by rw [if_neg Bool.false_ne_true, inV_scl]; exact q _ F H hs (Same.refl F) (.bl _)⟩
theorem opv_ninT [DecidableEq α] : OPV (G := G) (α := α) (β := List α) (γ := Bool) (rIn G.K true) (fun a xs => .ok (!memB a xs)) := fun N Γ σ F H x y a xs hs ra rb Q q => by
  have e1 : x = Scl.tv a := Scl.dp ra
  subst e1
  obtain ⟨p, rfl, hq⟩ := dp_tup rb
  exact ⟨p, _, rfl, .inr (sqt_same hs.w.fh hq), Scl.fl a, all_flat xs, by rw [if_pos rfl, inV_scl]; exact q _ F H hs (Same.refl F) (.bl _)⟩
theorem opv_inL [DecidableEq α] : OPV (G := G) (α := α) (β := L α) (γ := Bool) (rIn G.K false) (fun a (xs : L α) => .ok (memB a (un xs))) := fun N Γ σ F H x y a xs hs ra rb Q q => by
  have e1 : x = Scl.tv a := Scl.dp ra
  subst e1
  obtain ⟨p, rfl, hq⟩ := dp_lst rb
  exact ⟨p, _, rfl, .inl (sql_same hs.w.fh hq), Scl.fl a, all_flat _, Eq.mpr (congrArg (fun b => Q (.bl b) H) (inV_scl a xs)) (q _ F H hs (Same.refl F) (.bl _))⟩
theorem opv_ninL [DecidableEq α] : OPV (G := G) (α := α) (β := L α) (γ := Bool) (rIn G.K true) (fun a (xs : L α) => .ok (!memB a (un xs))) := fun N Γ σ F H x y a xs hs ra rb Q q => by
  have e1 : x = Scl.tv a := Scl.dp ra
  subst e1
  obtain ⟨p, rfl, hq⟩ := dp_lst rb
  exact ⟨p, _, rfl, .inl (sql_same hs.w.fh hq), Scl.fl a, all_flat _, Eq.mpr (congrArg (fun b => Q (.bl (!b)) H) (inV_scl a xs)) (q _ F H hs (Same.refl F) (.bl _))⟩
end
/-! ints -/
theorem opv_I0 {f : Int → Int → Int} : OPV (G := G) (α := Int) (β := Int) (γ := Int) (rI0 fun i j => .int (f i j)) (fun a b => .ok (f a b)) := fun N Γ σ F H x y a b hs ra rb Q q => by
  have e1 : x = .int a := Scl.dp ra
  have e2 : y = .int b := Scl.dp rb
  exact ⟨a, b, e1, e2, q _ F H hs (Same.refl F) (.int _)⟩
theorem opv_B0 {f : Int → Int → Bool} : OPV (G := G) (α := Int) (β := Int) (γ := Bool) (rI0 fun i j => .bl (f i j)) (fun a b => .ok (f a b)) := fun N Γ σ F H x y a b hs ra rb Q q => by
  have e1 : x = .int a := Scl.dp ra
  have e2 : y = .int b := Scl.dp rb
  exact ⟨a, b, e1, e2, q _ F H hs (Same.refl F) (.bl _)⟩
theorem opv_I {C : Int → Int → Prop} {f : Int → Int → Int} (c : Int → Int → Bool) (hc : ∀ i j, c i j = true → C i j) : OPV (G := G) (α := Int) (β := Int) (γ := Int) (rI C fun i j => .int (f i j)) (fun a b => chk (c a b) (.ok (f a b))) := fun N Γ σ F H x y a b hs ra rb Q q => by
  have e1 : x = .int a := Scl.dp ra
  have e2 : y = .int b := Scl.dp rb
  obtain ⟨h, q⟩ := wp_chk q
  exact ⟨a, b, e1, e2, hc a b h, q _ F H hs (Same.refl F) (.int _)⟩
def cMul (i j : Int) : Bool := decide (i.natAbs < 2 ^ 63) || decide (j.natAbs < 2 ^ 63)
theorem cMul_ok (i j : Int) (h : cMul i j = true) : CMul i j := by
  rcases Bool.or_eq_true_iff.1 h with h | h
  · have := of_decide_eq_true h
    left; omega
  · have := of_decide_eq_true h
    right; omega
def cPos (_ j : Int) : Bool := decide (0 < j)
theorem cPos_ok (i j : Int) (h : cPos i j = true) : 0 < j := of_decide_eq_true h
def cDiv (_ j : Int) : Bool := decide (0 < j) && decide (j.natAbs.log2 < 9000)
theorem cDiv_ok (i j : Int) (h : cDiv i j = true) : CDivW i j := by
  obtain ⟨a, b⟩ := Bool.and_eq_true_iff.1 h
  exact ⟨of_decide_eq_true a, of_decide_eq_true b⟩
def cPow (i j : Int) : Bool := decide (0 ≤ j) && decide (j ≤ 100) && decide (i.natAbs < 2 ^ 63)
theorem cPow_ok (i j : Int) (h : cPow i j = true) : CPow i j := by
  obtain ⟨a, b⟩ := Bool.and_eq_true_iff.1 h
  obtain ⟨a, c⟩ := Bool.and_eq_true_iff.1 a
  have b := of_decide_eq_true b
  have c := of_decide_eq_true c
  exact ⟨of_decide_eq_true a, by omega, by omega⟩
theorem unv_neg : UNV (G := G) (α := Int) (γ := Int) (rU fun i => .int (-i)) (fun a => .ok (-a)) := fun N Γ σ F H x a hs ra Q q => by
  have e1 : x = .int a := Scl.dp ra
  exact ⟨a, e1, q _ F H hs (Same.refl F) (.int _)⟩
/-! texts -/
theorem opv_addS : OPV (G := G) (α := Tx) (β := Tx) (γ := Tx) (fun x y H Q => ∃ i j, x = .str i ∧ y = .str j ∧ i.length + j.length ≤ sizeLine ∧ Q (.str (i ++ j)) H) (fun a b => chk (small (a.length + b.length)) (.ok (a ++ b))) := fun N Γ σ F H x y a b hs ra rb Q q => by
  have e1 : x = .str (sx a) := Scl.dp (α := Tx) ra
  have e2 : y = .str (sx b) := Scl.dp (α := Tx) rb
  obtain ⟨h, q⟩ := wp_chk q
  refine ⟨sx a, sx b, e1, e2, by have := small_le h; simpa [Str.length, sx] using this, ?_⟩
  have e : (sx a ++ sx b : Str) = sx (a ++ b) := by
    show (⟨a.toArray ++ b.toArray⟩ : Str) = _
    simp [sx]
  rw [e]
  exact q _ F H hs (Same.refl F) (.str _)
/-! == of data -/
def eqP [Enc α] [Enc β] (a : α) (b : β) : Prog Bool := chk (SeqAt.shaped (enc a) && SeqAt.shaped (enc b)) (.ok (PyData.eqv (enc a) (enc b)))
def neP [Enc α] [Enc β] (a : α) (b : β) : Prog Bool := chk (SeqAt.shaped (enc a) && SeqAt.shaped (enc b)) (.ok (!PyData.eqv (enc a) (enc b)))
theorem opv_eqD [Enc α] [Enc β] : OPV (G := G) (α := α) (β := β) (γ := Bool) (rEqD G.K) eqP := fun N Γ σ F H x y a b hs ra rb Q q => by
  obtain ⟨h, q⟩ := wp_chk q
  obtain ⟨h1, h2⟩ := Bool.and_eq_true_iff.1 h
  exact ⟨enc a, enc b, dq_dp _ _ (dp_same hs.w.fh _ _ ra), dq_dp _ _ (dp_same hs.w.fh _ _ rb), h1, h2, q _ F H hs (Same.refl F) (.bl _)⟩
theorem opv_neD [Enc α] [Enc β] : OPV (G := G) (α := α) (β := β) (γ := Bool) (rNeD G.K) neP := fun N Γ σ F H x y a b hs ra rb Q q => by
  obtain ⟨h, q⟩ := wp_chk q
  obtain ⟨h1, h2⟩ := Bool.and_eq_true_iff.1 h
  exact ⟨enc a, enc b, dq_dp _ _ (dp_same hs.w.fh _ _ ra), dq_dp _ _ (dp_same hs.w.fh _ _ rb), h1, h2, q _ F H hs (Same.refl F) (.bl _)⟩
/-! x is None -/
class Noneness (α : Type) [Enc α] where
  isN : α → Bool
  ok : ∀ {K : PySem.W.Frag} {F : Hp} {v : V} {a : α}, Dq K F v (enc a) → decide (v = .non) = isN a
instance : Noneness PyData := ⟨fun d => match d with | .none => true | _ => false, fun {K F v a} h => by
  have h' : Dq K F v a := h
  cases h' <;> rfl⟩
class NotNone (α : Type) [Enc α] : Prop where
  nn : ∀ {K : PySem.W.Frag} {F : Hp} {v : V} {a : α}, Dq K F v (enc a) → v ≠ .non
instance : NotNone Int := ⟨fun h => by cases h; intro z; cases z⟩
instance : NotNone Bool := ⟨fun h => by cases h; intro z; cases z⟩
instance : NotNone (List Nat) := ⟨fun h => by cases h; intro z; cases z⟩
instance {α : Type} [Enc α] : NotNone (List α) := ⟨fun h => by
  have h' : Dq _ _ _ (.tuple _) := h
  cases h'; intro z; cases z⟩
instance {α : Type} [Enc α] : NotNone (L α) := ⟨fun h => by
  have h' : Dq _ _ _ (.list _) := h
  cases h'; intro z; cases z⟩
instance {α β : Type} [Enc α] [Enc β] : NotNone (α × β) := ⟨fun h => by
  have h' : Dq _ _ _ (.tuple _) := h
  cases h'; intro z; cases z⟩
instance {α β γ : Type} [Enc α] [Enc β] [Enc γ] : NotNone (T3 α β γ) := ⟨fun h => by
  have h' : Dq _ _ _ (.tuple _) := h
  cases h'; intro z; cases z⟩
instance {α β γ δ : Type} [Enc α] [Enc β] [Enc γ] [Enc δ] : NotNone (T4 α β γ δ) := ⟨fun h => by
  have h' : Dq _ _ _ (.tuple _) := h
  cases h'; intro z; cases z⟩
instance {α : Type} [Enc α] [NotNone α] : Noneness (Option α) := ⟨fun o => o.isNone, fun {K F v a} h => by
  cases a with
  | none =>
    have h' : Dq K F v .none := h
    cases h'; rfl
  | some a => exact decide_eq_false (NotNone.nn (a := a) h)⟩
def rIsNone : R2 := fun x y H Q => y = .non ∧ Q (.bl (decide (x = .non))) H
def rNotNone : R2 := fun x y H Q => y = .non ∧ Q (.bl (!decide (x = .non))) H
theorem ev_isN [Enc α] [Noneness α] {N : NN} {Γ : Env G} {ta : TE} {m : Prog α} (h : EV N Γ ta m) : EV N Γ (tOp (fun x y H Q => y = .non ∧ Q (.bl (decide (x = .non))) H) ta (tC .non)) (m >>= fun a => .ok (Noneness.isN a)) := fun σ F H hs Q q =>
  h σ F H hs _ (wp_mono (wp_bind.1 q) fun a k v F1 H1 hs1 e1 r1 => ⟨rfl, by rw [Noneness.ok r1]; exact k _ F1 H1 hs1 e1 (.bl _)⟩)
theorem ev_notN [Enc α] [Noneness α] {N : NN} {Γ : Env G} {ta : TE} {m : Prog α} (h : EV N Γ ta m) : EV N Γ (tOp (fun x y H Q => y = .non ∧ Q (.bl (!decide (x = .non))) H) ta (tC .non)) (m >>= fun a => .ok (!Noneness.isN a)) := fun σ F H hs Q q =>
  h σ F H hs _ (wp_mono (wp_bind.1 q) fun a k v F1 H1 hs1 e1 r1 => ⟨rfl, by rw [Noneness.ok r1]; exact k _ F1 H1 hs1 e1 (.bl _)⟩)
end
/-! ### chains, subscripts, slices -/
section
variable {α β γ δ ω : Type} [iα : Rp G α] [iβ : Rp G β] [iγ : Rp G γ] {N : NN} {Γ Γ' : Env G} {te ta tb tc : TE} {tt tu : TT} {tz : TS}
theorem ev_chain {r r' : R2} {g : α → β → Prog Bool} {g' : β → γ → Prog Bool} {m1 : Prog α} {m2 : Prog β} {m3 : Prog γ} (h1 : EV N Γ ta m1) (h2 : EV N Γ tb m2) (h3 : EV N Γ tc m3) (ho : OPV (G := G) r g) (ho' : OPV (G := G) r' g') :
    EV N Γ (tChain r r' ta tb tc) (m1 >>= fun a => m2 >>= fun b => g a b >>= fun k => if k then m3 >>= fun c => g' b c else .ok false) := fun σ F H hs Q q =>
  h1 σ F H hs _ (wp_mono (wp_bind.1 q) fun a q1 x F1 H1 hs1 e1 r1 => h2 σ F1 H1 hs1 _ (wp_mono (wp_bind.1 q1) fun b q2 y F2 H2 hs2 e2 r2 =>
    ho N Γ σ F2 H2 x y a b hs2 (Rp.mono e2 r1) r2 _ (wp_mono (wp_bind.1 q2) fun k q3 z F3 H3 hs3 e3 r3 => by
      have e : z = .bl k := Scl.dp (α := Bool) r3
      refine ⟨k, e, ?_⟩
      cases k with
      | true => exact h3 σ F3 H3 hs3 _ (wp_mono (wp_bind.1 q3) fun c q4 z' F4 H4 hs4 e4 r4 => ho' N Γ σ F4 H4 y z' b c hs4 (Rp.mono (Same.trans e3 e4) r2) r4 Q (wp_mono q4 fun d q5 v F5 H5 hs5 e5 r5 => q5 v F5 H5 hs5 (Same.trans e1 (Same.trans e2 (Same.trans e3 (Same.trans e4 e5)))) r5))
      | false => exact q3 _ F3 H3 hs3 (Same.trans e1 (Same.trans e2 e3)) (.bl false))))
theorem dpAll_at {K : PySem.W.Frag} {F : Hp} {α : Type} [Enc α] : ∀ {xs : List α} {vs : List V} {j : Nat} {a : α}, DqAll K F vs (xs.map enc) → xs[j]? = some a → ∃ v, vs[j]? = some v ∧ Dq K F v (enc a)
  | [], _, _, _, _, h => by simp at h
  | x :: xs, _, 0, a, h, e => by
    cases h with
    | cons h1 h2 =>
      have e1 : x = a := Option.some.inj e
      subst e1
      exact ⟨_, rfl, h1⟩
  | x :: xs, _, j + 1, a, h, e => by
    cases h with
    | cons h1 h2 => exact dpAll_at (j := j) h2 e
theorem dpAll_len {K : PySem.W.Frag} {F : Hp} {α : Type} [Enc α] {xs : List α} {vs : List V} (h : DqAll K F vs (xs.map enc)) : vs.length = xs.length := by
  have e := dpAll_length h
  rw [List.length_map] at e
  exact e
theorem atI_dp {K : PySem.W.Frag} {F : Hp} {α : Type} [Enc α] {xs : List α} {vs : List V} {i : Int} {a : α} (h : DqAll K F vs (xs.map enc)) (e : atI xs i = some a) : ∃ v, atI vs i = some v ∧ Dq K F v (enc a) := by
  unfold atI at e ⊢
  rw [dpAll_len h]
  cases hj : ixN xs.length i with
  | none => rw [hj] at e; cases e
  | some j =>
    rw [hj] at e
    exact dpAll_at h e
theorem wp_getI {α : Type} {xs : List α} {i : Int} {P : α → Prop} {E : Exc → Prop} (h : wp (getI xs i) P E) : ∃ a, atI xs i = some a ∧ P a := by
  unfold getI at h
  cases e : atI xs i with
  | none => rw [e] at h; exact h.elim
  | some a => rw [e] at h; exact ⟨a, rfl, h⟩
theorem opv_ixT {α : Type} [Enc α] : OPV (G := G) (α := List α) (β := Int) (γ := α) (rIxT G.K) (fun xs i => getI xs i) := fun N Γ σ F H x y xs i hs ra rb Q q => by
  have e2 : y = .int i := Scl.dp rb
  obtain ⟨a, e, q⟩ := wp_getI q
  have h : Dq G.K F x (.tuple (xs.map enc)) := ra
  cases h with
  | tup hq ha =>
    obtain ⟨v, e3, d⟩ := atI_dp ha e
    exact ⟨_, _, i, v, rfl, e2, sqt_same hs.w.fh hq, e3, q v F H hs (Same.refl F) d⟩
theorem opv_ixL {α : Type} [Enc α] : OPV (G := G) (α := L α) (β := Int) (γ := α) (rIxL G.K) (fun (xs : List α) i => getI xs i) := fun N Γ σ F H x y xs i hs ra rb Q q => by
  have e2 : y = .int i := Scl.dp rb
  obtain ⟨a, e, q⟩ := wp_getI q
  have h : Dq G.K F x (.list (List.map enc xs)) := ra
  cases h with
  | lst hq0 ha =>
    have hq := Rd.of hq0
    obtain ⟨v, e3, d⟩ := atI_dp ha e
    exact ⟨_, _, i, v, rfl, e2, sql_same hs.w.fh (.inl hq), e3, q v F H hs (Same.refl F) d⟩
def getS (s : Tx) (i : Int) : Prog Tx := chk (small s.length) (getI s i >>= fun c => .ok [c])
theorem opv_ixS : OPV (G := G) (α := Tx) (β := Int) (γ := Tx) rIxS getS := fun N Γ σ F H x y s i hs ra rb Q q => by
  have e1 : x = .str (sx s) := Scl.dp (α := Tx) ra
  have e2 : y = .int i := Scl.dp rb
  obtain ⟨h, q⟩ := wp_chk q
  obtain ⟨c, e, q⟩ := wp_getI (wp_bind.1 q)
  exact ⟨sx s, i, c, e1, e2, by simpa [Str.length, sx] using small_le h, e, q _ F H hs (Same.refl F) (.str _)⟩
/-- a fixed place of a tuple or list of several kinds -/
theorem ev_at {τ α : Type} [Enc τ] [Enc α] {f : τ → α} {r : R2} {k : Int} {m : Prog τ} (hr : ∀ (t : τ) (x : V) F H (Q : VK), Dq G.K F x (enc t) → Same F H → (∀ v, Dq G.K F v (enc (f t)) → Q v H) → r x (.int k) H Q) (h : EV N Γ ta m) :
    EV N Γ (tOp r ta (tC (.int k))) (m >>= fun t => .ok (f t)) := fun σ F H hs Q q =>
  h σ F H hs _ (wp_mono (wp_bind.1 q) fun t q1 x F1 H1 hs1 e1 r1 => hr t x F1 H1 Q r1 hs1.w.fh fun v d => q1 v F1 H1 hs1 e1 d)
section
variable {α β γ δ : Type} [Enc α] [Enc β] [Enc γ] [Enc δ]
theorem at_tup {ds : List PyData} {d : PyData} {k : Nat} (hk : ds[k]? = some d) {x : V} {F H : Hp} {Q : VK} (h : Dq G.K F x (.tuple ds)) (e : Same F H) (q : ∀ v, Dq G.K F v d → Q v H) : rIxT G.K x (.int (k : Nat)) H Q := by
  cases h with
  | tup hq ha =>
    have go : ∀ (ds : List PyData) (vs : List V) (k : Nat), DqAll G.K F vs ds → ds[k]? = some d → ∃ v, vs[k]? = some v ∧ Dq G.K F v d := by
      intro ds
      induction ds with
      | nil => intro vs k _ h; simp at h
      | cons y ys ih =>
        intro vs k ha hk
        cases ha with
        | cons h1 h2 =>
          cases k with
          | zero => cases hk; exact ⟨_, rfl, h1⟩
          | succ k => exact ih _ k h2 hk
    obtain ⟨v, e3, dd⟩ := go _ _ _ ha hk
    exact ⟨_, _, _, v, rfl, rfl, sqt_same e hq, atI_nat e3, q v dd⟩
theorem at_lst {ds : List PyData} {d : PyData} {k : Nat} (hk : ds[k]? = some d) {x : V} {F H : Hp} {Q : VK} (h : Dq G.K F x (.list ds)) (e : Same F H) (q : ∀ v, Dq G.K F v d → Q v H) : rIxL G.K x (.int (k : Nat)) H Q := by
  cases h with
  | lst hq0 ha =>
    have hq := Rd.of hq0
    have go : ∀ (ds : List PyData) (vs : List V) (k : Nat), DqAll G.K F vs ds → ds[k]? = some d → ∃ v, vs[k]? = some v ∧ Dq G.K F v d := by
      intro ds
      induction ds with
      | nil => intro vs k _ h; simp at h
      | cons y ys ih =>
        intro vs k ha hk
        cases ha with
        | cons h1 h2 =>
          cases k with
          | zero => cases hk; exact ⟨_, rfl, h1⟩
          | succ k => exact ih _ k h2 hk
    obtain ⟨v, e3, dd⟩ := go _ _ _ ha hk
    exact ⟨_, _, _, v, rfl, rfl, sql_same e (.inl hq), atI_nat e3, q v dd⟩
theorem ev_p1 {m : Prog (α × β)} (h : EV N Γ ta m) : EV N Γ (tOp (rIxT G.K) ta (tC (.int 0))) (m >>= fun t => .ok t.1) := ev_at (fun t x F H Q d e q => at_tup (k := 0) rfl d e q) h
theorem ev_p2 {m : Prog (α × β)} (h : EV N Γ ta m) : EV N Γ (tOp (rIxT G.K) ta (tC (.int 1))) (m >>= fun t => .ok t.2) := ev_at (fun t x F H Q d e q => at_tup (k := 1) rfl d e q) h
theorem ev_t1 {m : Prog (T3 α β γ)} (h : EV N Γ ta m) : EV N Γ (tOp (rIxT G.K) ta (tC (.int 0))) (m >>= fun t => .ok t.a) := ev_at (fun t x F H Q d e q => at_tup (k := 0) rfl d e q) h
theorem ev_t2 {m : Prog (T3 α β γ)} (h : EV N Γ ta m) : EV N Γ (tOp (rIxT G.K) ta (tC (.int 1))) (m >>= fun t => .ok t.b) := ev_at (fun t x F H Q d e q => at_tup (k := 1) rfl d e q) h
theorem ev_t3 {m : Prog (T3 α β γ)} (h : EV N Γ ta m) : EV N Γ (tOp (rIxT G.K) ta (tC (.int 2))) (m >>= fun t => .ok t.c) := ev_at (fun t x F H Q d e q => at_tup (k := 2) rfl d e q) h
theorem ev_l1 {m : Prog (L2v α β)} (h : EV N Γ ta m) : EV N Γ (tOp (rIxL G.K) ta (tC (.int 0))) (m >>= fun t => .ok t.a) := ev_at (fun t x F H Q d e q => at_lst (k := 0) rfl d e q) h
theorem ev_l2 {m : Prog (L2v α β)} (h : EV N Γ ta m) : EV N Γ (tOp (rIxL G.K) ta (tC (.int 1))) (m >>= fun t => .ok t.b) := ev_at (fun t x F H Q d e q => at_lst (k := 1) rfl d e q) h
theorem ev_mkp {m1 : Prog α} {m2 : Prog β} (h1 : EV N Γ ta m1) (h2 : EV N Γ tb m2) : EV N Γ (tTup (tCons ta (tCons tb tNil))) (m1 >>= fun a => m2 >>= fun b => .ok (a, b)) := by
  have h := ev_tupA (f := fun p : α × β × Unit => (p.1, p.2.1)) (eva2 h1 h2) (fun a vs F r => by
    obtain ⟨v, ws, rfl, r1, w, us, rfl, r2, rfl⟩ := r
    exact ⟨_, rfl, .cons r1 (.cons r2 .nil), by show 2 ≤ 100000; decide⟩)
  simp only [bind_bind, ok_bind] at h
  exact h
theorem ev_mk3 {m1 : Prog α} {m2 : Prog β} {m3 : Prog γ} (h1 : EV N Γ ta m1) (h2 : EV N Γ tb m2) (h3 : EV N Γ tc m3) : EV N Γ (tTup (tCons ta (tCons tb (tCons tc tNil)))) (m1 >>= fun a => m2 >>= fun b => m3 >>= fun c => .ok (T3.mk a b c)) := by
  have h := ev_tupA (f := fun p : α × β × γ × Unit => (⟨p.1, p.2.1, p.2.2.1⟩ : T3 α β γ)) (eva3 h1 h2 h3) (fun a vs F r => by
    obtain ⟨v, ws, rfl, r1, w, us, rfl, r2, w3, us3, rfl, r3, rfl⟩ := r
    exact ⟨_, rfl, .cons r1 (.cons r2 (.cons r3 .nil)), by show 3 ≤ 100000; decide⟩)
  simp only [bind_bind, ok_bind] at h
  exact h
theorem ev_mkl {m1 : Prog α} {m2 : Prog β} (h1 : EV N Γ ta m1) (h2 : EV N Γ tb m2) : EV N Γ (tLst (tCons ta (tCons tb tNil))) (m1 >>= fun a => m2 >>= fun b => .ok (L2v.mk a b)) := fun σ F H hs Q q => by
  refine eva2 h1 h2 σ F H hs _ ?_
  rw [wp_bind] at q ⊢
  refine wp_mono q fun a q1 => ?_
  rw [wp_bind] at q1 ⊢
  refine wp_mono q1 fun b q2 vs F1 H1 hs1 e1 r => ?_
  obtain ⟨v, ws, rfl, r1, w, us, rfl, r2, rfl⟩ := r
  refine ⟨by show 2 ≤ sizeLine; decide, fun p hp => ?_⟩
  obtain ⟨hs2, e3⟩ := hs1.laid (o := .lst [v, w]) hp
  exact q2 (.ref p) _ _ hs2 (Same.trans e1 e3) (.lst upd_same (dpAll_same e3 _ _ (.cons r1 (.cons r2 .nil))))
end
/-! slices -/
def EVO (N : NN) (Γ : Env G) (to : TO) (m : Prog (Option Int)) : Prop := ∀ σ F H, HS N Γ σ F H → ∀ Q : Option Int → Hp → Prop, wp m (fun o => ∀ F' H', HS N Γ σ F' H' → Same F F' → Q o H') (EP G N) → to σ H Q
theorem evo_none : EVO N Γ tNoPart (.ok none) := fun σ F H hs Q q => q F H hs (Same.refl F)
theorem evo_some {m : Prog Int} (h : EV N Γ te m) : EVO N Γ (tPart te) (m >>= fun i => .ok (some i)) := fun σ F H hs Q q =>
  h σ F H hs _ (wp_mono (wp_bind.1 q) fun i q1 v F1 H1 hs1 e1 r1 => ⟨i, Scl.dp r1, q1 F1 H1 hs1 e1⟩)
def SLV (r : V → Option Int → Option Int → Hp → VK → Prop) (g : α → Option Int → Option Int → Prog β) : Prop := ∀ (N : NN) (Γ : Env G) (σ : L2.St) (F H : Hp) (x : V) (a : α) (lo hi : Option Int), HS N Γ σ F H → iα.rp a x F → ∀ Q : VK,
  wp (g a lo hi) (fun c => ∀ v F' H', HS N Γ σ F' H' → Same F F' → iβ.rp c v F' → Q v H') (EP G N) → r x lo hi H Q
theorem ev_slice {r : V → Option Int → Option Int → Hp → VK → Prop} {g : α → Option Int → Option Int → Prog β} {m : Prog α} {tl th : TO} {ml mh : Prog (Option Int)} (h : EV N Γ te m) (hl : EVO N Γ tl ml) (hh : EVO N Γ th mh) (hr : SLV (G := G) r g) :
    EV N Γ (tSl r te tl th) (m >>= fun a => ml >>= fun lo => mh >>= fun hi => g a lo hi) := fun σ F H hs Q q =>
  h σ F H hs _ (wp_mono (wp_bind.1 q) fun a q1 x F1 H1 hs1 e1 r1 => hl σ F1 H1 hs1 _ (wp_mono (wp_bind.1 q1) fun lo q2 F2 H2 hs2 e2 => hh σ F2 H2 hs2 _ (wp_mono (wp_bind.1 q2) fun hi q3 F3 H3 hs3 e3 =>
    hr N Γ σ F3 H3 x a lo hi hs3 (Rp.mono (Same.trans e2 e3) r1) Q (wp_mono q3 fun c q4 v F4 H4 hs4 e4 r4 => q4 v F4 H4 hs4 (Same.trans e1 (Same.trans e2 (Same.trans e3 e4))) r4))))
theorem slv_txt : SLV (G := G) (α := Tx) (β := Tx) rSlS (fun s lo hi => chk (small s.length) (.ok (cut s lo hi))) := fun N Γ σ F H x s lo hi hs ra Q q => by
  have e1 : x = .str (sx s) := Scl.dp (α := Tx) ra
  obtain ⟨h, q⟩ := wp_chk q
  refine ⟨sx s, e1, by simpa [Str.length, sx] using small_le h, ?_⟩
  have e : cutS (sx s) lo hi = sx (cut s lo hi) := by simp [cutS, cut, sx, Str.length]
  rw [e]
  exact q _ F H hs (Same.refl F) (.str _)
theorem dpAll_drop {K : PySem.W.Frag} {F : Hp} : ∀ {ds : List PyData} {vs : List V} (n : Nat), DqAll K F vs ds → DqAll K F (vs.drop n) (ds.drop n)
  | _, _, 0, h => h
  | [], _, n + 1, h => by cases h; exact .nil
  | d :: ds, _, n + 1, h => by
    cases h with
    | cons h1 h2 => exact dpAll_drop n h2
theorem dpAll_take {K : PySem.W.Frag} {F : Hp} : ∀ {ds : List PyData} {vs : List V} (n : Nat), DqAll K F vs ds → DqAll K F (vs.take n) (ds.take n)
  | _, _, 0, h => .nil
  | [], _, n + 1, h => by cases h; exact .nil
  | d :: ds, _, n + 1, h => by
    cases h with
    | cons h1 h2 => exact .cons h1 (dpAll_take n h2)
theorem dpAll_append {K : PySem.W.Frag} {F : Hp} : ∀ {ds es : List PyData} {vs ws : List V}, DqAll K F vs ds → DqAll K F ws es → DqAll K F (vs ++ ws) (ds ++ es)
  | [], _, _, _, h, k => by cases h; exact k
  | d :: ds, _, _, _, h, k => by
    cases h with
    | cons h1 h2 => exact .cons h1 (dpAll_append h2 k)
theorem dpAll_cut {K : PySem.W.Frag} {F : Hp} {α : Type} [Enc α] {xs : List α} {vs : List V} (lo hi : Option Int) (h : DqAll K F vs (xs.map enc)) : DqAll K F (cutV vs lo hi) ((cut xs lo hi).map enc) := by
  unfold cutV cut
  rw [dpAll_len h, List.map_take, List.map_drop]
  exact dpAll_take _ (dpAll_drop _ h)
theorem slv_tup {α : Type} [Enc α] : SLV (G := G) (α := List α) (β := List α) (rSlA G.K) (fun xs lo hi => .ok (cut xs lo hi)) := fun N Γ σ F H x xs lo hi hs ra Q q => by
  have h : Dq G.K F x (.tuple (xs.map enc)) := ra
  cases h with
  | tup hq ha =>
    have hl := dpAll_len ha
    refine ⟨_, _, rfl, sqt_same hs.w.fh hq, fun hw => ?_, fun _ p hp => ?_⟩
    · have e : cut xs lo hi = xs := by
        unfold cut
        rw [← hl, hw.1, hw.2, hl]
        simp
      exact q _ F H hs (Same.refl F) (by
        show Dq G.K F _ (.tuple ((cut xs lo hi).map enc))
        rw [e]
        exact .tup hq ha)
    · obtain ⟨hs2, e2⟩ := hs.laid hp
      exact q _ _ _ hs2 e2 (.tup (.inl (.inl upd_same)) (dpAll_same e2 _ _ (dpAll_cut lo hi ha)))
theorem evn_cutL {α : Type} [Enc α] {m : Prog (L α)} {tl th : TO} {ml mh : Prog (Option Int)} (h : EV N Γ te m) (hl : EVO N Γ tl ml) (hh : EVO N Γ th mh) :
    EVN N Γ (tSl (rSlL G.K) te tl th) (m >>= fun (xs : List α) => ml >>= fun lo => mh >>= fun hi => .ok (cut xs lo hi : L α)) := fun σ F H hs Q q =>
  h σ F H hs _ (wp_mono (wp_bind.1 q) fun a q1 x F1 H1 hs1 e1 r1 => hl σ F1 H1 hs1 _ (wp_mono (wp_bind.1 q1) fun lo q2 F2 H2 hs2 e2 => hh σ F2 H2 hs2 _ (wp_mono (wp_bind.1 q2) fun hi q3 F3 H3 hs3 e3 => by
    have hd : Dq G.K F3 x (.list (List.map enc a)) := dp_same (Same.trans e2 e3) _ _ r1
    cases hd with
    | lst hq0 ha =>
      have hq := Rd.of hq0
      refine ⟨_, _, rfl, sql_same hs3.w.fh (.inl hq), fun p hp => ?_⟩
      obtain ⟨hs4, n⟩ := hs_newlist (vs := cutV _ lo hi) hs3 hp
      exact q3 p _ _ _ hs4 (Same.trans e1 (Same.trans e2 e3)) n upd_same (dpAll_cut lo hi ha))))
/-! len -/
theorem ev_lenT {α : Type} [Enc α] {m : Prog (List α)} (h : EV N Γ ta m) : EV N Γ (tCB (fun xs H Q => ∃ p ys, xs = [.ref p] ∧ (SqL G.K H p ys ∨ SqT G.K H p ys) ∧ Q (.int ys.length) H) (tCons ta tNil)) (m >>= fun xs => .ok (xs.length : Int)) := fun σ F H hs Q q =>
  h σ F H hs _ (wp_mono (wp_bind.1 q) fun xs q1 x F1 H1 hs1 e1 r1 => by
    have hd : Dq G.K F1 x (.tuple (xs.map enc)) := r1
    cases hd with
    | tup hq ha => exact ⟨_, _, rfl, .inr (sqt_same hs1.w.fh hq), by rw [dpAll_len ha]; exact q1 _ F1 H1 hs1 e1 (.int _)⟩)
theorem ev_lenL {α : Type} [Enc α] {m : Prog (L α)} (h : EV N Γ ta m) : EV N Γ (tCB (fun xs H Q => ∃ p ys, xs = [.ref p] ∧ (SqL G.K H p ys ∨ SqT G.K H p ys) ∧ Q (.int ys.length) H) (tCons ta tNil)) (m >>= fun (xs : List α) => .ok (xs.length : Int)) := fun σ F H hs Q q =>
  h σ F H hs _ (wp_mono (wp_bind.1 q) fun xs q1 x F1 H1 hs1 e1 r1 => by
    have hd : Dq G.K F1 x (.list (List.map enc xs)) := r1
    cases hd with
    | lst hq ha => exact ⟨_, _, rfl, .inl (sql_same hs1.w.fh (.inl (Rd.of hq))), by rw [dpAll_len ha]; exact q1 _ F1 H1 hs1 e1 (.int _)⟩)
theorem ev_lenS {m : Prog Tx} (h : EV N Γ ta m) : EV N Γ (tCB (fun xs H Q => ∃ z, xs = [.str z] ∧ z.length ≤ sizeLine ∧ Q (.int z.length) H) (tCons ta tNil)) (m >>= fun s => chk (small s.length) (.ok (s.length : Int))) := fun σ F H hs Q q =>
  h σ F H hs _ (wp_mono (wp_bind.1 q) fun s q1 x F1 H1 hs1 e1 r1 => by
    have e : x = .str (sx s) := Scl.dp (α := Tx) r1
    obtain ⟨hl, q1⟩ := wp_chk q1
    refine ⟨sx s, by rw [e], by simpa [Str.length, sx] using small_le hl, ?_⟩
    have e2 : (sx s).length = s.length := by simp [Str.length, sx]
    rw [e2]
    exact q1 _ F1 H1 hs1 e1 (.int _))
end
end Ty

namespace Ty
open PySem PySem.Spec PyProof.Rows L2
open Enc (enc)
variable {G : Glob}
section
variable {α β γ δ ω ρ : Type} [iα : Rp G α] [iβ : Rp G β] [iγ : Rp G γ] {N : NN} {Γ Γ' : Env G} {te ta tb tc : TE} {tt tu : TT} {tz ts : TS}
/-! ### what is walked -/
abbrev anyE : Env G → Prop := fun _ => True
theorem evi_tup {α : Type} [Enc α] {m : Prog (List α)} (h : EV N Γ te m) : EVI (α := α) N Γ (iTup G.K te) m anyE := fun σ F H hs R q =>
  h σ F H hs _ (wp_mono q fun xs k x F1 H1 hs1 e1 r1 => by
    have hd : Dq G.K F1 x (.tuple (xs.map enc)) := r1
    cases hd with
    | tup hq ha =>
      refine ⟨_, rfl, ⟨_, sqt_same hs1.w.fh hq⟩, k F1 H1 _ hs1 e1 fun N1 Γ' _ => ⟨fun i σ F' H' hs' e' hi => ?_, fun i a σ F' H' x H2 hs' e' hx y => ?_, fun i σ F' H' hs' e' hi => ?_⟩⟩
      · obtain ⟨v, hv, _⟩ := dpAll_at ha (List.getElem?_eq_getElem hi)
        exact ⟨_, v, sqt_same (Same.trans e' hs'.w.fh) hq, hv⟩
      · obtain ⟨v, hv, d⟩ := dpAll_at ha hx
        obtain ⟨e2, y⟩ := y
        have e3 : x = v := Option.some.inj ((y _ (sqt_same (Same.trans e' hs'.w.fh) hq)).symm.trans hv)
        subst e3
        exact .inl ⟨e2, dp_same e' _ _ d⟩
      · exact ⟨_, sqt_same (Same.trans e' hs'.w.fh) hq, by rw [dpAll_len ha]; exact hi⟩)
theorem evi_lst {α : Type} [Enc α] {m : Prog (L α)} (h : EV N Γ te m) : EVI (α := α) N Γ (iList G.K te) m anyE := fun σ F H hs R q =>
  h σ F H hs _ (wp_mono q fun (xs : List α) k x F1 H1 hs1 e1 r1 => by
    have hd : Dq G.K F1 x (.list (xs.map enc)) := r1
    cases hd with
    | lst hq0 ha =>
      have hq := Rd.of hq0
      refine ⟨_, rfl, ⟨_, sql_same hs1.w.fh (.inl hq)⟩, k F1 H1 _ hs1 e1 fun N1 Γ' _ => ⟨fun i σ F' H' hs' e' hi => ?_, fun i a σ F' H' x H2 hs' e' hx y => ?_, fun i σ F' H' hs' e' hi => ?_⟩⟩
      · obtain ⟨v, hv, _⟩ := dpAll_at ha (List.getElem?_eq_getElem hi)
        exact ⟨_, v, sql_same (Same.trans e' hs'.w.fh) (.inl hq), hv⟩
      · obtain ⟨v, hv, d⟩ := dpAll_at ha hx
        obtain ⟨e2, y⟩ := y
        have e3 : x = v := Option.some.inj ((y _ (sql_same (Same.trans e' hs'.w.fh) (.inl hq))).symm.trans hv)
        subst e3
        exact .inl ⟨e2, dp_same e' _ _ d⟩
      · exact ⟨_, sql_same (Same.trans e' hs'.w.fh) (.inl hq), by rw [dpAll_len ha]; exact hi⟩)
def signs (s : Tx) : List Tx := s.map fun c => [c]
theorem evi_str {m : Prog Tx} (h : EV N Γ te m) : EVI (α := Tx) N Γ (iStr te) (m >>= fun s => .ok (signs s)) anyE := fun σ F H hs R q =>
  h σ F H hs _ (wp_mono (wp_bind.1 q) fun s k x F1 H1 hs1 e1 r1 => by
    have e : x = .str (sx s) := Scl.dp (α := Tx) r1
    refine ⟨sx s, e, k F1 H1 _ hs1 e1 fun N1 Γ' _ => ⟨fun i σ F' H' hs' e' hi => ?_, fun i a σ F' H' x H2 hs' e' hx y => ?_, fun i σ F' H' hs' e' hi => ?_⟩⟩
    · show i < (sx s).cps.size
      simpa [signs] using hi
    · obtain ⟨e2, c, hc, e3⟩ := y
      have hc' : s[i]? = some c := by simpa using hc
      have ha : a = [c] := by
        unfold signs at hx
        rw [List.getElem?_map, hc'] at hx
        exact (Option.some.inj hx).symm
      subst ha e3
      exact .inl ⟨e2, .str _⟩
    · show (sx s).cps.size ≤ i
      simpa [signs] using hi)
def rng (lo hi : Int) : List Int := (List.range (hi - lo).toNat).map fun (i : Nat) => lo + (i : Int)
def rngD (lo hi : Int) : List Int := (List.range (lo - hi).toNat).map fun (i : Nat) => lo - (i : Int)
def inRange (i : Int) : Bool := decide (i.natAbs < 2 ^ 61)
theorem inRange_ok {i : Int} (h : inRange i = true) : -(2 ^ 62) ≤ i ∧ i < 2 ^ 62 := by
  have := of_decide_eq_true h
  omega
theorem gen_itr {lo : Int} {n : Nat} {F : Hp} : Gen (G := G) (α := Int) N Γ F (Itr lo n) ((List.range n).map fun (i : Nat) => lo + (i : Int)) where
  go := fun i σ F' H' hs' e' hi => by
    show i < n
    simpa using hi
  yld := fun i a σ F' H' x H2 hs' e' hx y => by
    obtain ⟨e2, y⟩ := y
    have hi : i < n := by
      have := (List.getElem?_eq_some_iff.1 hx).1
      simpa using this
    rw [List.getElem?_map, List.getElem?_range hi] at hx
    have ha : lo + (i : Int) = a := Option.some.inj hx
    subst ha y
    exact .inl ⟨e2, .int _⟩
  stop := fun i σ F' H' hs' e' hi => by
    show n ≤ i
    simpa using hi
theorem evi_rng1 {m : Prog Int} (h : EV N Γ te m) : EVI (α := Int) N Γ (iRng1 (tCons te tNil)) (m >>= fun n => chk (inRange n) (.ok (rng 0 n))) anyE := fun σ F H hs R q =>
  h σ F H hs _ (wp_mono (wp_bind.1 q) fun n q1 x F1 H1 hs1 e1 r1 => by
    have e : x = .int n := Scl.dp r1
    obtain ⟨hr, k⟩ := wp_chk q1
    obtain ⟨a, b⟩ := inRange_ok hr
    have en : n.toNat = (n - 0).toNat := by rw [Int.sub_zero]
    exact ⟨n, by rw [e], a, b, k F1 H1 _ hs1 e1 fun N1 Γ' _ => by rw [en]; exact gen_itr⟩)
theorem evi_rng2 {m m2 : Prog Int} (h : EV N Γ te m) (h2 : EV N Γ ta m2) : EVI (α := Int) N Γ (iRng2 (tCons te (tCons ta tNil))) (m >>= fun a => m2 >>= fun b => chk (inRange a && inRange b) (.ok (rng a b))) anyE := fun σ F H hs R q =>
  h σ F H hs _ (wp_mono (wp_bind.1 q) fun a q1 x F1 H1 hs1 e1 r1 => h2 σ F1 H1 hs1 _ (wp_mono (wp_bind.1 q1) fun b q2 y F2 H2 hs2 e2 r2 => by
    have ea : x = .int a := Scl.dp r1
    have eb : y = .int b := Scl.dp r2
    obtain ⟨hr, k⟩ := wp_chk q2
    obtain ⟨ha, hb⟩ := Bool.and_eq_true_iff.1 hr
    obtain ⟨a1, a2⟩ := inRange_ok ha
    obtain ⟨b1, b2⟩ := inRange_ok hb
    exact ⟨a, b, by rw [ea, eb], ⟨a1, a2, b1, b2⟩, k F2 H2 _ hs2 (Same.trans e1 e2) fun N1 Γ' _ => gen_itr⟩))
theorem gen_itc {lo : Int} {n : Nat} {F : Hp} : Gen (G := G) (α := Int) N Γ F (Itc lo (-1) n) ((List.range n).map fun (i : Nat) => lo - (i : Int)) where
  go := fun i σ F' H' hs' e' hi => by
    show i < n
    simpa using hi
  yld := fun i a σ F' H' x H2 hs' e' hx y => by
    obtain ⟨e2, y⟩ := y
    have hi : i < n := by
      have := (List.getElem?_eq_some_iff.1 hx).1
      simpa using this
    rw [List.getElem?_map, List.getElem?_range hi] at hx
    have ha : lo - (i : Int) = a := Option.some.inj hx
    subst y
    refine .inl ⟨e2, ?_⟩
    have : lo + (i : Int) * (-1) = a := by omega
    rw [this]
    exact .int _
  stop := fun i σ F' H' hs' e' hi => by
    show n ≤ i
    simpa using hi
theorem evi_rngD {m m2 : Prog Int} (h : EV N Γ te m) (h2 : EV N Γ ta m2) : EVI (α := Int) N Γ (iRng3 (tCons te (tCons ta (tCons (tUn (rU fun i => .int (-i)) (tC (.int 1))) tNil)))) (m >>= fun a => m2 >>= fun b => chk (inRange a && inRange b) (.ok (rngD a b))) anyE := fun σ F H hs R q =>
  h σ F H hs _ (wp_mono (wp_bind.1 q) fun a q1 x F1 H1 hs1 e1 r1 => h2 σ F1 H1 hs1 _ (wp_mono (wp_bind.1 q1) fun b q2 y F2 H2 hs2 e2 r2 => by
    have ea : x = .int a := Scl.dp r1
    have eb : y = .int b := Scl.dp r2
    obtain ⟨hr, k⟩ := wp_chk q2
    obtain ⟨ha, hb⟩ := Bool.and_eq_true_iff.1 hr
    obtain ⟨a1, a2⟩ := inRange_ok ha
    obtain ⟨b1, b2⟩ := inRange_ok hb
    exact ⟨1, rfl, a, b, -1, (a - b).toNat, by rw [ea, eb], RgC.neg a1 a2 b1 b2, k F2 H2 _ hs2 (Same.trans e1 e2) fun N1 Γ' _ => gen_itc⟩))
/-! ### targets -/
theorem gv_name {i : Nat} {a : α} : GV N Γ (gName i) a (Γ.set i (.per a)) := fun σ F H x hs r Q q => q _ F H (hs.setPer i r) (Same.refl F)
theorem gv_tup2 {α β : Type} [Enc α] [Enc β] {i j : Nat} {a : α × β} : GV N Γ (gTup G.K 2 (gCons (gName i) (gCons (gName j) gNil))) a ((Γ.set i (.per a.1)).set j (.per a.2)) := fun σ F H x hs r Q q => by
  have h : Dq G.K F x (.tuple [enc a.1, enc a.2]) := r
  cases h with
  | tup hq ha =>
    cases ha with
    | cons d1 h2 =>
      cases h2 with
      | cons d2 h3 =>
        cases h3
        exact ⟨_, _, rfl, sqt_same hs.w.fh hq, rfl, _, _, rfl, _, _, rfl, rfl, q _ F H ((hs.setPer (a := a.1) i d1).setPer (a := a.2) j d2) (Same.refl F)⟩
theorem gv_tup3 {α β γ : Type} [Enc α] [Enc β] [Enc γ] {i j k : Nat} {a : T3 α β γ} : GV N Γ (gTup G.K 3 (gCons (gName i) (gCons (gName j) (gCons (gName k) gNil)))) a (((Γ.set i (.per a.a)).set j (.per a.b)).set k (.per a.c)) := fun σ F H x hs r Q q => by
  have h : Dq G.K F x (.tuple [enc a.a, enc a.b, enc a.c]) := r
  cases h with
  | tup hq ha =>
    cases ha with
    | cons d1 h2 =>
      cases h2 with
      | cons d2 h3 =>
        cases h3 with
        | cons d3 h4 =>
          cases h4
          exact ⟨_, _, rfl, sqt_same hs.w.fh hq, rfl, _, _, rfl, _, _, rfl, _, _, rfl, rfl, q _ F H (((hs.setPer (a := a.a) i d1).setPer (a := a.b) j d2).setPer (a := a.c) k d3) (Same.refl F)⟩
/-- target = value, any target -/
theorem sv_asgT {g : TG} {m : Prog α} {J : Aim ω} {k : α → Prog ω} {Γt : α → Env G} (h : EV N Γ te m) (hg : ∀ a, GV N Γ g a (Γt a)) (hk : ∀ a, SV N (Γt a) tz J (k a)) : SV N Γ (tSeq (tAsg te g) tz) J (m >>= k) := fun σ F H D hs q =>
  h σ F H hs _ (wp_mono (wp_bind.1 q) fun a q1 v F1 H1 hs1 e1 r1 => hg a σ F1 H1 v hs1 r1 _ fun σ2 F2 H2 hs2 e2 => hk a σ2 F2 H2 D hs2 (wp_mono q1 fun o x => J.mono (Same.trans e1 e2) x))
/-! ### lists that the def owns -/
theorem HS.lstAt {α : Type} [Enc α] {σ : L2.St} {F H : Hp} {i : Nat} {xs : List α} (hs : HS N Γ σ F H) (hi : Γ[i]? = some (.lst xs)) : ∃ p vs, σ[i]? = some (some (.ref p)) ∧ Mine N F p ∧ H p = some (.lst vs) ∧ DqAll G.K F vs (xs.map enc) ∧ Held Γ σ p := by
  obtain ⟨o, e0, p, vs, e1, m, hp, d⟩ := hs.sl.get hi
  subst e1
  exact ⟨p, vs, e0, m, hp, d, i, _, hi, rfl, e0⟩
/-- the list in slot i is written -/
theorem HS.put {α β : Type} [Enc α] [Enc β] {σ : L2.St} {F H : Hp} {i : Nat} {xs : List α} {ys : List β} {p : Addr} {ws : List V} (hs : HS N Γ σ F H) (hO : ∀ a, N.O a = none) (hi : Γ[i]? = some (.lst xs)) (hp : σ[i]? = some (some (.ref p))) (d : DqAll G.K F ws (ys.map enc)) :
    HS N (Γ.set i (.lst ys)) σ F (upd H p (.lst ws)) := by
  obtain ⟨p', vs, e0, m, h0, _, hl⟩ := hs.lstAt hi
  rw [hp] at e0
  cases e0
  have hσ : σ.set i (some (.ref p)) = σ := by
    obtain ⟨h1, h2⟩ := List.getElem?_eq_some_iff.1 hp
    apply List.ext_getElem?
    intro k
    by_cases hk : k = i
    · subst hk; rw [List.getElem?_set_self h1, hp]
    · rw [List.getElem?_set_ne (Ne.symm hk)]
  have n1 : ∀ q o, F q = some o → q ≠ p := fun q o e => ne_of_none e m.f
  have w : W N F (upd H p (.lst ws)) := by
    refine ⟨fun a u e => ?_, hs.w.f0, hs.w.nw, fun a u nb e => ?_, fun a e => ?_, fun q c e => ?_, hs.w.sb, fun a u e => ?_⟩
    · rw [upd_ne (n1 a u e)]; exact hs.w.fh a u e
    · rw [upd_ne (ne_of_none e m.h0)]; exact hs.w.kp a u nb e
    · by_cases ha : a = p
      · subst ha; rw [upd_same] at e; cases e
      · rw [upd_ne ha] at e; exact hs.w.dm a e
    · have s := hs.w.sr q c e
      obtain ⟨st, ix, cs, h1, h2, r⟩ := s.at_
      have x := m.s q c e
      exact ⟨s.fp, s.fc, s.ne, st, ix, cs, by rw [upd_ne (Ne.symm x.1)]; exact h1, by rw [upd_ne (Ne.symm x.2)]; exact h2, r⟩
    · rw [hO] at e; cases e
  refine ⟨w, ?_, fun j k e e' q h1 h2 o1 o2 s1 s2 => ?_⟩
  · have go : ∀ {j : Nat} {e : Ent G} {o : Option V}, j ≠ i → Γ[j]? = some e → σ[j]? = some o → Sl N F H e o → Sl N F (upd H p (.lst ws)) e o := fun {j e o} hj h1 h2 s => by
      cases e with
      | dead => trivial
      | per a => exact s
      | lst zs =>
        obtain ⟨q, us, e3, mq, hq, dq⟩ := s
        refine ⟨q, us, e3, mq, ?_, dq⟩
        have : q ≠ p := fun z => by
          subst z
          exact hj (hs.ds j i _ _ q h1 hi rfl rfl (by rw [h2, e3]) hp)
        rw [upd_ne this]; exact hq
      | ins C z w =>
        obtain ⟨q, dx, us, e3, mq, hq, dq⟩ := s
        refine ⟨q, dx, us, e3, mq, ?_, dq⟩
        have : q ≠ p := fun z => by
          subst z
          exact hj (hs.ds j i _ _ q h1 hi rfl rfl (by rw [h2, e3]) hp)
        rw [upd_ne this]; exact hq
      | bor z => exact s
      | ptr z => exact s
      | src => exact s
      | gen R b =>
        obtain ⟨q, u, e3, mq, hb, hq, dq⟩ := s
        refine ⟨q, u, e3, mq, hb, ?_, dq⟩
        have : q ≠ p := fun z => by
          subst z
          exact hj (hs.ds j i _ _ q h1 hi rfl rfl (by rw [h2, e3]) hp)
        rw [upd_ne this]; exact hq
    have sl := hs.sl
    have key : ∀ {Γ1 : Env G} {σ1 : L2.St} (P : Nat → Prop), Slots N F H Γ1 σ1 → (∀ (j : Nat) e o, Γ1[j]? = some e → σ1[j]? = some o → Sl N F H e o → Sl N F (upd H p (.lst ws)) e o) → Slots N F (upd H p (.lst ws)) Γ1 σ1 := fun {Γ1 σ1} P h k => h.imp k
    refine Slots.of ?_ fun j e o h1 h2 => ?_
    · rw [List.length_set]; exact sl.len
    · by_cases hj : j = i
      · subst hj
        have hlt : j < Γ.length := (List.getElem?_eq_some_iff.1 hi).1
        rw [List.getElem?_set_self hlt] at h1
        cases h1
        rw [hp] at h2
        cases h2
        exact ⟨p, ws, rfl, m, upd_same, d⟩
      · rw [List.getElem?_set_ne (Ne.symm hj)] at h1
        obtain ⟨o', e1, s⟩ := sl.get h1
        rw [h2] at e1
        cases e1
        exact go hj h1 h2 s
  · have at_ : ∀ {j : Nat} {e : Ent G}, (Γ.set i (.lst ys))[j]? = some e → e.own = true → ∃ e', Γ[j]? = some e' ∧ e'.own = true := fun {j e} h o => by
      by_cases hj : j = i
      · subst hj; exact ⟨_, hi, rfl⟩
      · rw [List.getElem?_set_ne (Ne.symm hj)] at h
        exact ⟨e, h, o⟩
    obtain ⟨e1, g1, p1⟩ := at_ h1 o1
    obtain ⟨e2, g2, p2⟩ := at_ h2 o2
    exact hs.ds j k e1 e2 q g1 g2 p1 p2 s1 s2
theorem sv_append {α : Type} [Enc α] {i : Nat} {xs : List α} {m : Prog α} {J : Aim ω} {k : α → Prog ω} (hO : ∀ a, N.O a = none) (hi : Γ[i]? = some (.lst xs)) (h : EV N Γ te m) (hk : ∀ a, SV N (Γ.set i (.lst (xs ++ [a]))) tz J (k a)) :
    SV N Γ (tSeq (tDrop (tBM G.K "list" rAppend (tVar i) (tCons te tNil))) tz) J (m >>= fun a => chk (small xs.length) (k a)) := fun σ F H D hs q => by
  obtain ⟨p, vs, e0, m0, hp, d, hl⟩ := hs.lstAt hi
  refine ⟨.ref p, e0, .inl ⟨rfl, vs, .inl (.inl hp)⟩, h σ F H hs _ (wp_mono (wp_bind.1 q) fun a q1 v F1 H1 hs1 e1 r1 => ?_)⟩
  obtain ⟨hz, q1⟩ := wp_chk q1
  obtain ⟨p', vs', e0', m0', hp', d', _⟩ := hs1.lstAt hi
  rw [e0] at e0'
  cases e0'
  refine ⟨p, vs', v, rfl, rfl, hp', by rw [dpAll_len d']; exact small_lt hz, ?_⟩
  exact hk a σ F1 _ D (hs1.put hO hi e0 (by rw [List.map_append]; exact dpAll_append d' (.cons r1 .nil))) (wp_mono q1 fun o x => J.mono e1 x)
/-- xs.extend(a list made there) -/
theorem sv_extend {α : Type} [Enc α] {i : Nat} {xs : List α} {m : Prog (L α)} {J : Aim ω} {k : L α → Prog ω} (hO : ∀ a, N.O a = none) (hi : Γ[i]? = some (.lst xs)) (h : EVN N Γ te m) (hk : ∀ ys : List α, SV N (Γ.set i (.lst (xs ++ ys))) tz J (k ys)) :
    SV N Γ (tSeq (tDrop (tBM G.K "list" rExtend (tVar i) (tCons te tNil))) tz) J (m >>= fun (ys : List α) => chk (small (xs.length + ys.length)) (k ys)) := fun σ F H D hs q => by
  obtain ⟨p, vs, e0, m0, hp, d, hl⟩ := hs.lstAt hi
  refine ⟨.ref p, e0, .inl ⟨rfl, vs, .inl (.inl hp)⟩, h σ F H hs _ (wp_mono (wp_bind.1 q) fun (ys : List α) q1 b us F1 H1 hs1 e1 n hb db => ?_)⟩
  obtain ⟨hz, q1⟩ := wp_chk q1
  obtain ⟨p', vs', e0', m0', hp', d', _⟩ := hs1.lstAt hi
  rw [e0] at e0'
  cases e0'
  refine ⟨p, b, vs', us, rfl, rfl, hp', hb, by rw [dpAll_len d', dpAll_len db]; exact small_le hz, ?_⟩
  exact hk ys σ F1 _ D (hs1.put hO hi e0 (by rw [List.map_append]; exact dpAll_append d' db)) (wp_mono q1 fun o x => J.mono e1 x)
/-- from here on the list is data -/
theorem HS.thaw {α : Type} [Enc α] {σ : L2.St} {F H : Hp} {i : Nat} {xs : List α} (hO : ∀ a, N.O a = none) (hs : HS N Γ σ F H) (hi : Γ[i]? = some (.lst xs)) : ∃ p vs, σ[i]? = some (some (.ref p)) ∧ H p = some (.lst vs) ∧ HS N (Γ.set i (@Ent.per G (L α) _ xs)) σ (upd F p (.lst vs)) H ∧ Same F (upd F p (.lst vs)) := by
  obtain ⟨p, vs, e0, m0, hp, d, hl⟩ := hs.lstAt hi
  have hlt : i < Γ.length := (List.getElem?_eq_some_iff.1 hi).1
  -- forget the slot, then freeze
  have hd : HS N (Γ.set i .dead) σ F H := by
    refine ⟨hs.w, Slots.of (by rw [List.length_set]; exact hs.sl.len) fun j e o h1 h2 => ?_, fun j k e e' q h1 h2 o1 o2 s1 s2 => ?_⟩
    · by_cases hj : j = i
      · subst hj
        rw [List.getElem?_set_self hlt] at h1
        cases h1; trivial
      · rw [List.getElem?_set_ne (Ne.symm hj)] at h1
        obtain ⟨o', e1, s⟩ := hs.sl.get h1
        rw [h2] at e1; cases e1; exact s
    · have at_ : ∀ {j : Nat} {e : Ent G}, (Γ.set i .dead)[j]? = some e → e.own = true → Γ[j]? = some e := fun {j e} h o => by
        by_cases hj : j = i
        · subst hj
          rw [List.getElem?_set_self hlt] at h
          cases h; cases o
        · rw [List.getElem?_set_ne (Ne.symm hj)] at h; exact h
      exact hs.ds j k e e' q (at_ h1 o1) (at_ h2 o2) o1 o2 s1 s2
  have nh : ¬ Held (Γ.set i .dead) σ p := fun ⟨j, e, h1, o1, s1⟩ => by
    by_cases hj : j = i
    · subst hj
      rw [List.getElem?_set_self hlt] at h1
      cases h1; cases o1
    · rw [List.getElem?_set_ne (Ne.symm hj)] at h1
      exact hj (hs.ds j i _ _ p h1 hi o1 rfl s1 e0)
  obtain ⟨hs2, e2⟩ := hd.freeze hp m0 m0.h0 nh (hO p)
  refine ⟨p, vs, e0, hp, ?_, e2⟩
  have h3 := hs2.setPer (α := L α) (a := xs) (v := .ref p) i (.lst upd_same (dpAll_same e2 _ _ d))
  rw [List.set_set] at h3
  have hσ : σ.set i (some (.ref p)) = σ := by
    obtain ⟨h1, _⟩ := List.getElem?_eq_some_iff.1 e0
    apply List.ext_getElem?
    intro k
    by_cases hk : k = i
    · subst hk; rw [List.getElem?_set_self h1, e0]
    · rw [List.getElem?_set_ne (Ne.symm hk)]
  rw [hσ] at h3
  exact h3
theorem sv_freeze {α : Type} [Enc α] (i : Nat) {xs : List α} {J : Aim ω} {m : Prog ω} (hO : ∀ a, N.O a = none) (hi : Γ[i]? = some (.lst xs)) (h : SV N (Γ.set i (@Ent.per G (L α) _ xs)) ts J m) : SV N Γ ts J m := fun σ F H D hs q => by
  obtain ⟨_, _, _, _, hs', e⟩ := hs.thaw hO hi
  exact h σ _ H D hs' (wp_mono q fun o x => J.mono e x)
/-- .. for one expression whose value is plain -/
class Flat (α : Type) [Enc α] : Prop where
  fl : ∀ {K : PySem.W.Frag} {F F' : Hp} {v : V} {a : α}, Dq K F v (enc a) → Dq K F' v (enc a)
instance : Flat Int := ⟨fun h => by cases h; exact .int _⟩
instance : Flat Bool := ⟨fun h => by cases h; exact .bl _⟩
instance : Flat (List Nat) := ⟨fun h => by cases h; exact .str _⟩
instance {α : Type} [Enc α] [Flat α] : Flat (Option α) := ⟨fun {K F F' v a} h => by
  cases a with
  | none =>
    have h' : Dq K F v .none := h
    cases h'; exact .non
  | some a => exact Flat.fl (a := a) h⟩
def cutH (F : Hp) (p : Addr) : Hp := fun a => if a = p then none else F a
theorem cutH_ne {F : Hp} {p a : Addr} (h : a ≠ p) : cutH F p a = F a := if_neg h
theorem cutH_same {F : Hp} {p : Addr} : cutH F p p = none := if_pos rfl
def NN.snap (N : NN) (O : Addr → Option HO) : NN := ⟨N.F0, N.H0, N.B, N.S, N.E, O⟩
theorem W.snap {F H : Hp} {O : Addr → Option HO} (w : W N F H) (h : ∀ a o, O a = some o → (H a = some o ∧ F a = none) ∧ ∀ p c, N.S = some (p, c) → a ≠ p ∧ a ≠ c) : W (N.snap O) F H := ⟨w.fh, w.f0, w.nw, w.kp, w.dm, w.sr, w.sb, h⟩
theorem W.unsnap {F H : Hp} {O : Addr → Option HO} (w : W (N.snap O) F H) (h : ∀ a o, N.O a = some o → (H a = some o ∧ F a = none) ∧ ∀ p c, N.S = some (p, c) → a ≠ p ∧ a ≠ c) : W N F H := ⟨w.fh, w.f0, w.nw, w.kp, w.dm, w.sr, w.sb, h⟩
theorem Sl.nn {N' : NN} {F H : Hp} (h0 : N'.H0 = N.H0) (hS : N'.S = N.S) (hB : N'.B = N.B) (hF : N'.F0 = N.F0) {e : Ent G} {o : Option V} (s : Sl N F H e o) : Sl N' F H e o := by
  cases e with
  | dead => trivial
  | per a => exact s
  | lst xs =>
    obtain ⟨p, vs, e, m, hp, d⟩ := s
    exact ⟨p, vs, e, ⟨m.f, by rw [h0]; exact m.h0, fun q c z => m.s q c (by rw [← hS]; exact z)⟩, hp, d⟩
  | ins C xs w =>
    obtain ⟨p, dx, vs, e, m, hp, d⟩ := s
    exact ⟨p, dx, vs, e, ⟨m.f, by rw [h0, hB]; exact m.h0, fun q c z => m.s q c (by rw [← hS]; exact z)⟩, hp, d⟩
  | bor xs =>
    obtain ⟨q, vs, e, h1, h2, h3, h4, d⟩ := s
    exact ⟨q, vs, e, by rw [hF]; exact h1, by rw [h0]; exact h2, by rw [hB]; exact h3, fun q c z => h4 q c (by rw [← hS]; exact z), d⟩
  | ptr z => exact s
  | src =>
    obtain ⟨p, c, e, z⟩ := s
    exact ⟨p, c, e, by rw [hS]; exact z⟩
  | gen R b =>
    obtain ⟨p, u, e, m, hb, hp, d⟩ := s
    exact ⟨p, u, e, ⟨m.f, by rw [h0, hB]; exact m.h0, fun q c z => m.s q c (by rw [← hS]; exact z)⟩, fun z => by rw [h0]; exact hb z, hp, d⟩
/-- a plain expression over the frame with one of its lists taken as data -/
theorem ev_borrow {α ρ : Type} [Enc α] [Enc ρ] [Flat ρ] (i : Nat) {xs : List α} {m : Prog ρ} (hO : ∀ a, N.O a = none) (hi : Γ[i]? = some (.lst xs)) (h : ∀ O, EV (N.snap O) (Γ.set i (@Ent.per G (L α) _ xs)) te m) : EV N Γ te m := fun σ F H hs Q q => by
  obtain ⟨p, vs, e0, m0, hp, d, hl⟩ := hs.lstAt hi
  have hlt : i < Γ.length := (List.getElem?_eq_some_iff.1 hi).1
  obtain ⟨p', vs', e0', hp', hs1, e1⟩ := hs.thaw hO hi
  rw [e0] at e0'; cases e0'
  rw [hp] at hp'; cases hp'
  let O : Addr → Option HO := fun a => by
    classical
    exact if Held Γ σ a ∧ a ≠ p then H a else none
  have hOs : ∀ a o, O a = some o → (Held Γ σ a ∧ a ≠ p) ∧ H a = some o := fun a o x => by
    by_cases y : Held Γ σ a ∧ a ≠ p
    · exact ⟨y, by simpa [O, y] using x⟩
    · simp only [O, if_neg y] at x
      cases x
  have hOh : ∀ a, Held Γ σ a → a ≠ p → O a = H a := fun a y z => by simp [O, y, z]
  have held' : ∀ q, Held Γ σ q → q ≠ p → Held (Γ.set i (@Ent.per G (L α) _ xs)) σ q := fun q ⟨j, en, x1, x2, x3⟩ nq => by
    have hj : j ≠ i := fun z => by
      subst z
      rw [x3] at e0; cases e0; exact nq rfl
    exact ⟨j, en, by rw [List.getElem?_set_ne (Ne.symm hj)]; exact x1, x2, x3⟩
  have hs1' : HS (N.snap O) (Γ.set i (@Ent.per G (L α) _ xs)) σ (upd F p (.lst vs)) H := ⟨hs1.w.snap fun a o x => by
    obtain ⟨y, z⟩ := hOs a o x
    exact ⟨⟨z, (hs1.held (held' a y.1 y.2)).1.f⟩, (hs.held y.1).1.s⟩, hs1.sl.imp fun j e o _ _ s => Sl.nn (N := N) (N' := N.snap O) rfl rfl rfl rfl s, hs1.ds⟩
  refine h O σ _ H hs1' Q (wp_imp q (fun a k v F2 H2 hs2 e2 r => ?_) fun e he F' H' C dd w r => he F' H' C dd (w.unsnap fun a o x => by rw [hO] at x; cases x) r)
  have hp2 : H2 p = some (.lst vs) := hs2.w.fh p _ (e2 p _ upd_same)
  have h2 : ∀ q us, Held Γ σ q → H q = some us → H2 q = some us := fun q us y z => by
    by_cases nq : q = p
    · subst nq; rw [hp] at z; cases z; exact hp2
    · exact (hs2.w.os q _ ((hOh q y nq).trans z)).1.1
  have hF : Same F (cutH F2 p) := fun a o x => by
    have ne : a ≠ p := ne_of_none x m0.f
    rw [cutH_ne ne]
    exact Same.trans e1 e2 a o x
  have w : W N (cutH F2 p) H2 := by
    refine ⟨fun a o x => ?_, Same.trans hs.w.f0 hF, fun a o x => ?_, hs2.w.kp, hs2.w.dm, fun q c z => ?_, hs.w.sb, fun a o x => by rw [hO] at x; cases x⟩
    · by_cases ha : a = p
      · subst ha; rw [cutH_same] at x; cases x
      · rw [cutH_ne ha] at x; exact hs2.w.fh a o x
    · by_cases ha : a = p
      · subst ha; rw [cutH_same] at x; cases x
      · rw [cutH_ne ha] at x; exact hs2.w.nw a o x
    · have s := hs2.w.sr q c z
      have y := m0.s q c z
      exact ⟨by rw [cutH_ne (Ne.symm y.1)]; exact s.fp, by rw [cutH_ne (Ne.symm y.2)]; exact s.fc, s.ne, s.at_⟩
  exact k v _ H2 (hs.move w hF h2 fun q y => by
    by_cases nq : q = p
    · subst nq; exact cutH_same
    · rw [cutH_ne nq]; exact (hs2.held (held' q y nq)).1.f) hF (Flat.fl (a := a) r)
theorem tv_of_ev {m : Prog Bool} (h : EV N Γ te m) : TV N Γ (tTest te) m := tv_test h
/-- .. a test -/
theorem tv_borrow {α : Type} [Enc α] (i : Nat) {xs : List α} {m : Prog Bool} (hO : ∀ a, N.O a = none) (hi : Γ[i]? = some (.lst xs)) (h : ∀ O, TV (N.snap O) (Γ.set i (@Ent.per G (L α) _ xs)) tt m) : TV N Γ tt m := fun σ F H hs Q q => by
  have := ev_borrow (ρ := Bool) (te := fun σ H Q => tt σ H fun b H' => Q (.bl b) H') i hO hi (fun O σ F H hs Q q => h O σ F H hs _ (wp_mono q fun b k F' H' hs' e => k _ F' H' hs' e (.bl b))) σ F H hs (fun v H' => ∀ b, v = .bl b → Q b H') (wp_mono q fun b k v F' H' hs' e r c hc => by
    have : v = .bl b := Scl.dp (α := Bool) r
    rw [this] at hc; cases hc
    exact k F' H' hs' e)
  exact cast (by simp) this
end
end Ty

namespace Ty
open PySem PySem.Spec PyProof.Rows L2
open Enc (enc)
variable {G : Glob}
/-! ### list comprehensions -/
section
variable {α β : Type}
def compP (t : α → Prog Bool) (f : α → Prog β) : List α → Prog (List β)
  | [] => .ok []
  | a :: r => t a >>= fun b => if b then f a >>= fun y => compP t f r >>= fun ys => .ok (y :: ys) else compP t f r
def mapP (f : α → Prog β) : List α → Prog (List β)
  | [] => .ok []
  | a :: r => f a >>= fun y => mapP f r >>= fun ys => .ok (y :: ys)
def noerr : Prog α → Prog α
  | .ok a => .ok a
  | .err _ => .stuck
  | .stuck => .stuck
  | .draw n k => .draw n fun i => noerr (k i)
@[simp] theorem noerr_ok (a : α) : noerr (.ok a) = .ok a := rfl
@[simp] theorem noerr_stuck : noerr (.stuck : Prog α) = .stuck := rfl
@[simp] theorem noerr_draw (n : Int) (k : Int → Prog α) : noerr (.draw n k) = .draw n fun i => noerr (k i) := rfl
theorem noerr_bind (m : Prog α) (f : α → Prog β) : noerr (m >>= f) = noerr m >>= fun a => noerr (f a) := by
  induction m with
  | ok a => rfl
  | err e => rfl
  | stuck => rfl
  | draw n k ih =>
    show Prog.draw n _ = Prog.draw n _
    congr 1
    funext i
    exact ih i
theorem wp_noerr {m : Prog α} {P : α → Prop} {E : Exc → Prop} (h : wp (noerr m) P E) : wp m P (fun _ => False) := by
  induction m with
  | ok a => exact h
  | err e => exact h.elim
  | stuck => exact h
  | draw n k ih => exact ⟨h.1, h.2.1, fun i a b => ih i (h.2.2 i a b)⟩
end
theorem wipe_get (σ : L2.St) : ∀ (vs : List Nat) (k : Nat), (wipe σ vs)[k]? = if k ∈ vs then (σ[k]?).map (fun _ => none) else σ[k]?
  | [], k => by simp [wipe]
  | v :: vs, k => by
    show ((wipe σ vs).set v none)[k]? = _
    rw [List.getElem?_set, wipe_length]
    by_cases e : v = k
    · subst e
      rw [if_pos rfl, if_pos List.mem_cons_self]
      by_cases h : v < σ.length
      · rw [if_pos h, List.getElem?_eq_getElem h]; rfl
      · rw [if_neg h, List.getElem?_eq_none (by omega)]; rfl
    · rw [if_neg e, wipe_get σ vs k]
      by_cases h : k ∈ vs
      · rw [if_pos h, if_pos (List.mem_cons_of_mem _ h)]
      · rw [if_neg h, if_neg (by simp only [List.mem_cons, not_or]; exact ⟨fun z => e z.symm, h⟩)]
def wipeE (Γ : Env G) : List Nat → Env G
  | [] => Γ
  | v :: vs => (wipeE Γ vs).set v .dead
theorem wipeE_len (Γ : Env G) : ∀ vs : List Nat, (wipeE Γ vs).length = Γ.length
  | [] => rfl
  | v :: vs => by unfold wipeE; rw [List.length_set, wipeE_len Γ vs]
theorem wipeE_get (Γ : Env G) : ∀ (vs : List Nat) (k : Nat), (wipeE Γ vs)[k]? = if k ∈ vs then (Γ[k]?).map (fun _ => .dead) else Γ[k]?
  | [], k => by simp [wipeE]
  | v :: vs, k => by
    show ((wipeE Γ vs).set v .dead)[k]? = _
    rw [List.getElem?_set, wipeE_len]
    by_cases e : v = k
    · subst e
      rw [if_pos rfl, if_pos List.mem_cons_self]
      by_cases h : v < Γ.length
      · rw [if_pos h, List.getElem?_eq_getElem h]; rfl
      · rw [if_neg h, List.getElem?_eq_none (by omega)]; rfl
    · rw [if_neg e, wipeE_get Γ vs k]
      by_cases h : k ∈ vs
      · rw [if_pos h, if_pos (List.mem_cons_of_mem _ h)]
      · rw [if_neg h, if_neg (by simp only [List.mem_cons, not_or]; exact ⟨fun z => e z.symm, h⟩)]
section
variable {α β γ ω : Type} [iα : Rp G α] {N : NN} {Γ Γ' : Env G} {te ta tb : TE} {tt : TT}
theorem HS.wiped {σ : L2.St} {F H : Hp} (hs : HS N Γ σ F H) (vs : List Nat) : HS N (wipeE Γ vs) (wipe σ vs) F H := by
  refine ⟨hs.w, Slots.of (by rw [wipeE_len, wipe_length]; exact hs.sl.len) fun i e o h1 h2 => ?_, fun i j e e' p h1 h2 o1 o2 s1 s2 => ?_⟩
  · rw [wipeE_get] at h1
    rw [wipe_get] at h2
    by_cases hi : i ∈ vs
    · rw [if_pos hi] at h1
      cases hg : Γ[i]? with
      | none => rw [hg] at h1; cases h1
      | some e' => rw [hg] at h1; cases h1; trivial
    · rw [if_neg hi] at h1 h2
      obtain ⟨o', e1, s⟩ := hs.sl.get h1
      rw [h2] at e1; cases e1; exact s
  · have nd : ∀ {i : Nat} {e : Ent G}, (wipeE Γ vs)[i]? = some e → e.own = true → i ∉ vs ∧ Γ[i]? = some e := fun {i e} h o => by
      rw [wipeE_get] at h
      by_cases hi : i ∈ vs
      · rw [if_pos hi] at h
        cases hg : Γ[i]? with
        | none => rw [hg] at h; cases h
        | some e' => rw [hg] at h; cases h; cases o
      · rw [if_neg hi] at h; exact ⟨hi, h⟩
    obtain ⟨a1, b1⟩ := nd h1 o1
    obtain ⟨a2, b2⟩ := nd h2 o2
    rw [wipe_get, if_neg a1] at s1
    rw [wipe_get, if_neg a2] at s2
    exact hs.ds i j e e' p b1 b2 o1 o2 s1 s2
/-- a comprehension's target -/
def GC (N : NN) (Γ : Env G) (g : TG) (a : α) (Γ' : Env G) (vs : List Nat) : Prop := ∀ σ F H x, HS N Γ σ F H → iα.rp a x F → ∀ Q : L2.St → Hp → Prop, (∀ σ' F', HS N Γ' σ' F' H → Same F F' → wipe σ' vs = wipe σ vs → Q σ' H) → g x σ H Q
theorem gc_name {i : Nat} {a : α} : GC N Γ (gName i) a (Γ.set i (.per a)) [i] := fun σ F H x hs r Q q => q _ F (hs.setPer i r) (Same.refl F) (by show (σ.set i (some x)).set i none = σ.set i none; rw [List.set_set])
theorem gc_tup2 {α β : Type} [Enc α] [Enc β] {i j : Nat} {a : α × β} (hij : i ≠ j) : GC N Γ (gTup G.K 2 (gCons (gName i) (gCons (gName j) gNil))) a ((Γ.set i (.per a.1)).set j (.per a.2)) [i, j] := fun σ F H x hs r Q q => by
  have h : Dq G.K F x (.tuple [enc a.1, enc a.2]) := r
  cases h with
  | tup hq ha =>
    cases ha with
    | cons d1 h2 =>
      cases h2 with
      | cons d2 h3 =>
        cases h3
        refine ⟨_, _, rfl, sqt_same hs.w.fh hq, rfl, _, _, rfl, _, _, rfl, rfl, q _ F ((hs.setPer (a := a.1) i d1).setPer (a := a.2) j d2) (Same.refl F) ?_⟩
        show ((((σ.set i _).set j _).set j none).set i none) = ((σ.set j none).set i none)
        rw [List.set_set, List.set_comm _ _ hij, List.set_set]
def notOwn (Γ : Env G) (vs : List Nat) : Prop := ∀ i ∈ vs, ∀ e, Γ[i]? = some e → e.own = false
/-- N with other wishes about exceptions, and a look at what must stay -/
def NN.wi (N : NN) (E : XK) (O : Addr → Option HO) : NN := ⟨N.F0, N.H0, N.B, N.S, E, O⟩
theorem HS.wi {E : XK} {O : Addr → Option HO} {σ : L2.St} {F H : Hp} (hs : HS N Γ σ F H) (h : ∀ a o, O a = some o → (H a = some o ∧ F a = none) ∧ ∀ p c, N.S = some (p, c) → a ≠ p ∧ a ≠ c) : HS (N.wi E O) Γ σ F H :=
  ⟨⟨hs.w.fh, hs.w.f0, hs.w.nw, hs.w.kp, hs.w.dm, hs.w.sr, hs.w.sb, h⟩, hs.sl.imp fun j e o _ _ s => Sl.nn (N := N) (N' := N.wi E O) rfl rfl rfl rfl s, hs.ds⟩
theorem HS.unwi {E : XK} {O : Addr → Option HO} {σ : L2.St} {F H : Hp} (hs : HS (N.wi E O) Γ σ F H) (h : ∀ a o, N.O a = some o → (H a = some o ∧ F a = none) ∧ ∀ p c, N.S = some (p, c) → a ≠ p ∧ a ≠ c) : HS N Γ σ F H :=
  ⟨⟨hs.w.fh, hs.w.f0, hs.w.nw, hs.w.kp, hs.w.dm, hs.w.sr, hs.w.sb, h⟩, hs.sl.imp fun j e o _ _ s => Sl.nn (N := N.wi E O) (N' := N) rfl rfl rfl rfl s, hs.ds⟩
/-- the new list of a comprehension grows -/
theorem HS.grow {σ : L2.St} {F H : Hp} {p : Addr} {vs : List V} (hs : HS N Γ σ F H) (fp : F p = none) (h0 : N.H0 p = none) (ns : ∀ q c, N.S = some (q, c) → p ≠ q ∧ p ≠ c) (nh : ¬ Held Γ σ p) (nO : ∀ o, N.O p ≠ some o) : HS N Γ σ F (upd H p (.lst vs)) := by
  have w : W N F (upd H p (.lst vs)) := by
    refine ⟨fun a u e => ?_, hs.w.f0, hs.w.nw, fun a u nb e => ?_, fun a e => ?_, fun q c e => ?_, hs.w.sb, fun a u e => ?_⟩
    · rw [upd_ne (ne_of_none e fp)]; exact hs.w.fh a u e
    · rw [upd_ne (ne_of_none e h0)]; exact hs.w.kp a u nb e
    · by_cases ha : a = p
      · subst ha; rw [upd_same] at e; cases e
      · rw [upd_ne ha] at e; exact hs.w.dm a e
    · have s := hs.w.sr q c e
      obtain ⟨st, ix, cs, h1, h2, r⟩ := s.at_
      have x := ns q c e
      exact ⟨s.fp, s.fc, s.ne, st, ix, cs, by rw [upd_ne (Ne.symm x.1)]; exact h1, by rw [upd_ne (Ne.symm x.2)]; exact h2, r⟩
    · have x := hs.w.os a u e
      have y : a ≠ p := fun z => nO u (z ▸ e)
      exact ⟨⟨by rw [upd_ne y]; exact x.1.1, x.1.2⟩, x.2⟩
  exact hs.move w (Same.refl F) (fun q ws hl e => by
    have ne : q ≠ p := fun z => by rw [z] at hl; exact nh hl
    rw [upd_ne ne]; exact e) fun q hl => (hs.held hl).1.f
theorem Held.wiped {σ : L2.St} {vs : List Nat} {q : Addr} (hv : notOwn Γ vs) (h : Held Γ σ q) : Held (wipeE Γ vs) (wipe σ vs) q := by
  obtain ⟨i, e, h1, o, h2⟩ := h
  have hi : i ∉ vs := fun z => by
    have := hv i z e h1
    rw [o] at this; cases this
  exact ⟨i, e, by rw [wipeE_get, if_neg hi]; exact h1, o, by rw [wipe_get, if_neg hi]; exact h2⟩
theorem Held.unwiped {σ : L2.St} {vs : List Nat} {q : Addr} (h : Held (wipeE Γ vs) (wipe σ vs) q) : Held Γ σ q := by
  obtain ⟨i, e, h1, o, h2⟩ := h
  rw [wipeE_get] at h1
  rw [wipe_get] at h2
  by_cases hi : i ∈ vs
  · rw [if_pos hi] at h1
    cases hg : Γ[i]? with
    | none => rw [hg] at h1; cases h1
    | some e' => rw [hg] at h1; cases h1; cases o
  · rw [if_neg hi] at h1 h2
    exact ⟨i, e, h1, o, h2⟩
theorem wipe_wipe (σ : L2.St) (vs : List Nat) : wipe (wipe σ vs) vs = wipe σ vs := by
  apply List.ext_getElem?
  intro k
  rw [wipe_get, wipe_get]
  by_cases h : k ∈ vs
  · rw [if_pos h, if_pos h, Option.map_map]; rfl
  · rw [if_neg h, if_neg h]
theorem comp_core {δ : Type} [Enc δ] {wi : TI} {g : TG} {vs : List Nat} {mi : Prog (List α)} {t : α → Prog Bool} {f : α → Prog δ} {Γt : α → Env G} {Γl : Env G → Prop} {Ec : XK}
    (hi : EVI (α := α) N Γ wi mi Γl) (hv : notOwn Γ vs) (hl : Γl (wipeE Γ vs)) (hΓ : ∀ a, wipeE (Γt a) vs = wipeE Γ vs) (hg : ∀ O a, GC (N.wi Ec O) (wipeE Γ vs) g a (Γt a) vs)
    (ht : ∀ O a, TV (N.wi Ec O) (Γt a) tt (t a)) (he : ∀ O a, EV (N.wi Ec O) (Γt a) te (f a)) {fin : Exc → Prop} (hE : ∀ O, (∀ a o, N.O a = some o → O a = some o) → ∀ e, fin e → EP G (N.wi Ec O) e) {M : List α → Prog (L δ)}
    (hM : ∀ xs (P : List δ → Prop), wp (M xs) P (EP G N) → small xs.length = true ∧ wp (compP t f xs) P fin) :
    EVN N Γ (tLc wi g tt te vs) (mi >>= M) := fun σ F H hs Q q =>
  hi σ F H hs _ (wp_mono (wp_bind.1 q) fun xs q1 F1 H1 JJ hs1 e1 gen D hD => by
    obtain ⟨hsm, q1⟩ := hM xs _ q1
    have hsm' := of_decide_eq_true hsm
    let O : List V → Addr → Option HO := fun us a => by
      classical
      exact if a = D then some (.lst us) else if Held Γ σ a then H1 a else N.O a
    have nheld : ¬ Held Γ σ D := fun x => by
      obtain ⟨_, vs, h⟩ := hs1.held x
      rw [hD] at h; cases h
    have fD : F1 D = none := Same.free hs1.w.fh hD
    have h0D : N.H0 D = none := hs1.w.dm D hD
    have sD : ∀ p c, N.S = some (p, c) → D ≠ p ∧ D ≠ c := fun p c e => by
      obtain ⟨st, ix, cs, h1, h2, _⟩ := (hs1.w.sr p c e).at_
      refine ⟨fun z => ?_, fun z => ?_⟩
      · rw [← z, hD] at h1; cases h1
      · rw [← z, hD] at h2; cases h2
    have nOD : N.O D = none := by
      cases z : N.O D with
      | none => rfl
      | some o => exact absurd (hs1.w.os D o z).1.1 (by rw [hD]; intro y; cases y)
    have hOD : ∀ us, O us D = some (.lst us) := fun us => by simp [O]
    have hOh : ∀ us a, Held Γ σ a → O us a = H1 a := fun us a hh => by
      have : a ≠ D := fun z => nheld (z ▸ hh)
      simp [O, this, hh]
    have hON : ∀ us a o, N.O a = some o → O us a = some o := fun us a o h => by
      have ne : a ≠ D := fun z => by rw [z, nOD] at h; cases h
      by_cases hh : Held Γ σ a
      · rw [hOh us a hh]; exact (hs1.w.os a o h).1.1
      · simp [O, ne, hh, h]
    have hOs : ∀ us a o, O us a = some o → a ≠ D → (H1 a = some o ∧ F1 a = none) ∧ ∀ p c, N.S = some (p, c) → a ≠ p ∧ a ≠ c := fun us a o h ne => by
      by_cases hh : Held Γ σ a
      · rw [hOh us a hh] at h
        exact ⟨⟨h, (hs1.held hh).1.f⟩, (hs1.held hh).1.s⟩
      · have : O us a = N.O a := by simp [O, ne, hh]
        rw [this] at h
        exact hs1.w.os a o h
    have unO : ∀ {us : List V} {Γ' : Env G} {σ' : L2.St} {F' H' : Hp}, HS (N.wi Ec (O us)) Γ' σ' F' H' → HS N Γ' σ' F' H' := fun {us Γ' σ' F' H'} h => h.unwi fun a o x => h.w.os a o (hON us a o x)
    -- the state between two turns
    let B : List δ → Hp → Hp → Prop := fun acc F' H' => ∃ us, HS (N.wi Ec (O us)) (wipeE Γ vs) (wipe σ vs) F' H' ∧ Same F1 F' ∧ DqAll G.K F' us (acc.map enc)
    have start : B [] F1 (upd H1 D (.lst [])) := by
      have w2 := (hs_newlist (vs := []) (hs1.wiped vs) hD).1
      refine ⟨[], w2.wi fun a o x => ?_, Same.refl F1, .nil⟩
      by_cases ha : a = D
      · subst ha
        rw [hOD] at x
        rw [upd_same]
        exact ⟨⟨x, fD⟩, sD⟩
      · rw [upd_ne ha]
        exact hOs [] a o x ha
    have step : ∀ {us : List V} {Γ' : Env G} {σ' : L2.St} {F' H' : Hp}, HS (N.wi Ec (O us)) Γ' σ' F' H' → wipeE Γ' vs = wipeE Γ vs → wipe σ' vs = wipe σ vs → HS (N.wi Ec (O us)) (wipeE Γ vs) (wipe σ vs) F' H' := fun {us Γ' σ' F' H'} h a b => by
      rw [← a, ← b]
      exact h.wiped vs
    have grow : ∀ {us us' : List V} {F' H' : Hp}, HS (N.wi Ec (O us)) (wipeE Γ vs) (wipe σ vs) F' H' → HS (N.wi Ec (O us')) (wipeE Γ vs) (wipe σ vs) F' (upd H' D (.lst us')) := fun {us us' F' H'} h => by
      have hf : F' D = none := (h.w.os D _ (hOD us)).1.2
      have h1 : HS N (wipeE Γ vs) (wipe σ vs) F' (upd H' D (.lst us')) := (unO h).grow hf h0D sD (fun x => nheld x.unwiped) (fun o x => by rw [nOD] at x; cases x)
      refine h1.wi fun a o x => ?_
      by_cases ha : a = D
      · subst ha
        rw [hOD] at x
        rw [upd_same]
        exact ⟨⟨x, hf⟩, sD⟩
      · rw [upd_ne ha]
        have x' : O us a = some o := by
          have : O us a = O us' a := by simp [O, ha]
          rw [this]; exact x
        exact h.w.os a o x'
    refine ⟨fun i m H' => ∃ acc F', B acc F' H' ∧ i ≤ xs.length ∧ m = xs.length - i ∧ acc.length ≤ i ∧ wp (compP t f (xs.drop i)) (fun ys => ∀ p vs F' H', HS N Γ σ F' H' → Same F1 F' → NewAt N Γ σ F' p → H' p = some (.lst vs) → DqAll G.K F' vs ((acc ++ ys).map enc) → Q (.ref p) H') fin, ⟨_, [], F1, start, Nat.zero_le _, rfl, Nat.le_refl _, wp_mono q1 fun ys k p vs F' H' a b c d e => k p vs F' H' a (Same.trans e1 b) c d e⟩, ?_⟩
    rintro i m H2 ⟨acc, F2, ⟨us, hs2, e2, d2⟩, hle, rfl, hacc, q2⟩
    have hG := gen N (wipeE Γ vs) hl
    have hsN := unO hs2
    by_cases hi : i < xs.length
    · have ex : xs[i]? = some xs[i] := List.getElem?_eq_getElem hi
      rw [List.drop_eq_getElem_cons hi] at q2
      refine .inr ⟨hG.go i _ F2 H2 hsN e2 hi, fun H' => ∃ acc' F', B acc' F' H' ∧ acc'.length ≤ i + 1 ∧ wp (compP t f (xs.drop (i + 1))) (fun ys => ∀ p vs F' H', HS N Γ σ F' H' → Same F1 F' → NewAt N Γ σ F' p → H' p = some (.lst vs) → DqAll G.K F' vs ((acc' ++ ys).map enc) → Q (.ref p) H') fin, ?_, fun x H3 hy => ?_⟩
      · rintro H' ⟨acc', F', hB, hl', q'⟩
        exact ⟨xs.length - (i + 1), by omega, acc', F', hB, hi, rfl, hl', q'⟩
      · have q3 := wp_bind.1 q2
        have fin2 : ∀ F3, HS (N.wi Ec (O us)) (wipeE Γ vs) (wipe σ vs) F3 H3 → Same F2 F3 → iα.rp xs[i] x F3 → g x (wipe σ vs) H3 fun σ2 H2 => wipe σ2 vs = wipe σ vs ∧ tt σ2 H2 fun b H3 => if b = true then te σ2 H3 fun y H4 => ∃ acc, H4 D = some (.lst acc) ∧ acc.length < sizeLine ∧ ∃ acc' F', B acc' F' (upd H4 D (.lst (acc ++ [y]))) ∧ acc'.length ≤ i + 1 ∧ wp (compP t f (xs.drop (i + 1))) (fun ys => ∀ p vs F' H', HS N Γ σ F' H' → Same F1 F' → NewAt N Γ σ F' p → H' p = some (.lst vs) → DqAll G.K F' vs ((acc' ++ ys).map enc) → Q (.ref p) H') fin
              else ∃ acc' F', B acc' F' H3 ∧ acc'.length ≤ i + 1 ∧ wp (compP t f (xs.drop (i + 1))) (fun ys => ∀ p vs F' H', HS N Γ σ F' H' → Same F1 F' → NewAt N Γ σ F' p → H' p = some (.lst vs) → DqAll G.K F' vs ((acc' ++ ys).map enc) → Q (.ref p) H') fin := fun F3 hs3 e3 r3 => by
          refine hg (O us) xs[i] _ F3 H3 x hs3 r3 _ fun σ4 F4 hs4 e4 hw => ⟨hw.trans (wipe_wipe σ vs), ?_⟩
          have hw' : wipe σ4 vs = wipe σ vs := hw.trans (wipe_wipe σ vs)
          refine ht (O us) xs[i] σ4 F4 H3 hs4 _ (wp_imp q3 (fun b q4 F5 H5 hs5 e5 => ?_) (hE (O us) (hON us)))
          have e15 : Same F2 F5 := Same.trans e3 (Same.trans e4 e5)
          cases b with
          | true =>
            rw [if_pos rfl]
            refine he (O us) xs[i] σ4 F5 H5 hs5 _ (wp_imp (wp_bind.1 q4) (fun y q5 v F6 H6 hs6 e6 r6 => ?_) (hE (O us) (hON us)))
            have hD6 : H6 D = some (.lst us) := (hs6.w.os D _ (hOD us)).1.1
            have d6 := dpAll_same (Same.trans e15 e6) _ _ d2
            have l6 := dpAll_len d6
            refine ⟨us, hD6, ?_, acc ++ [y], F6, ⟨us ++ [v], grow (step hs6 (hΓ _) hw'), Same.trans e2 (Same.trans e15 e6), by rw [List.map_append]; exact dpAll_append d6 (.cons r6 .nil)⟩, by rw [List.length_append]; exact Nat.succ_le_succ hacc, ?_⟩
            · rw [l6]
              exact Nat.lt_of_le_of_lt (Nat.le_trans hacc (Nat.le_trans hle hsm')) (by decide)
            · refine wp_mono (wp_bind.1 q5) fun ys q6 => ?_
              have q6' : ∀ p vs F' H', HS N Γ σ F' H' → Same F1 F' → NewAt N Γ σ F' p → H' p = some (.lst vs) → DqAll G.K F' vs ((acc ++ (y :: ys)).map enc) → Q (.ref p) H' := q6
              rw [List.append_assoc]
              exact q6'
          | false =>
            rw [if_neg Bool.false_ne_true]
            exact ⟨acc, F5, ⟨us, step hs5 (hΓ _) hw', Same.trans e2 e15, dpAll_same e15 _ _ d2⟩, Nat.le_succ_of_le hacc, q4⟩
        rcases hG.yld i xs[i] _ F2 H2 x H3 hsN e2 ex hy with ⟨rfl, r⟩ | ⟨T, o, hT, rfl, r⟩
        · exact fin2 F2 hs2 (Same.refl F2) r
        · obtain ⟨hs3, e3⟩ := hs2.laid (o := o) hT
          exact fin2 _ hs3 e3 r
    · have e : i = xs.length := by omega
      subst e
      rw [List.drop_length] at q2
      have q2' : ∀ p vs F' H', HS N Γ σ F' H' → Same F1 F' → NewAt N Γ σ F' p → H' p = some (.lst vs) → DqAll G.K F' vs ((acc ++ []).map enc) → Q (.ref p) H' := q2
      refine .inl ⟨hG.stop _ _ F2 H2 hsN e2 (Nat.le_refl _), ?_⟩
      have hD2 := (hs2.w.os D _ (hOD us)).1
      have hs3 : HS N Γ σ F2 H2 := hs1.move hsN.w e2 (fun q ws hl h => (hs2.w.os q _ ((hOh us q hl).trans h)).1.1) (fun q hl => by
        obtain ⟨m, ws, h⟩ := hs1.held hl
        exact (hs2.w.os q _ ((hOh us q hl).trans h)).1.2)
      exact q2' D us F2 H2 hs3 e2 ⟨⟨hD2.2, h0D, sD⟩, h0D, nheld, nOD⟩ hD2.1 (by rw [List.append_nil]; exact d2))
theorem ep_wi {O : Addr → Option HO} (h : ∀ a o, N.O a = some o → O a = some o) (e : Exc) (k : EP G N e) : EP G (N.wi N.E O) e := fun F' H' C d w r => k F' H' C d ⟨w.fh, w.f0, w.nw, w.kp, w.dm, w.sr, w.sb, fun a o x => w.os a o (h a o x)⟩ r
theorem tv_yes : TV N Γ tYes (.ok true) := fun σ F H hs Q q => q F H hs (Same.refl F)
theorem compP_map {δ : Type} (f : α → Prog δ) : ∀ xs : List α, compP (fun _ => .ok true) f xs = mapP f xs
  | [] => rfl
  | a :: r => by
    show (f a >>= fun y => compP (fun _ => .ok true) f r >>= fun ys => Prog.ok (y :: ys)) = (f a >>= fun y => mapP f r >>= fun ys => Prog.ok (y :: ys))
    rw [compP_map f r]
section
variable {δ : Type} [Enc δ] {wi : TI} {g : TG} {vs : List Nat} {mi : Prog (List α)} {t : α → Prog Bool} {f : α → Prog δ} {Γt : α → Env G} {Γl : Env G → Prop}
theorem evn_lc (hi : EVI (α := α) N Γ wi mi Γl) (hv : notOwn Γ vs) (hl : Γl (wipeE Γ vs)) (hg : ∀ O a, GC (N.wi N.E O) (wipeE Γ vs) g a (Γt a) vs)
    (ht : ∀ O a, TV (N.wi N.E O) (Γt a) tt (t a)) (he : ∀ O a, EV (N.wi N.E O) (Γt a) te (f a)) (hΓ : ∀ a, wipeE (Γt a) vs = wipeE Γ vs) :
    EVN N Γ (tLc wi g tt te vs) (mi >>= fun xs => chk (small xs.length) (compP t f xs : Prog (L δ))) :=
  comp_core (Ec := N.E) (fin := EP G N) hi hv hl hΓ hg ht he (fun O h e => ep_wi h e) fun xs P h => wp_chk h
theorem evn_map (hi : EVI (α := α) N Γ wi mi Γl) (hv : notOwn Γ vs) (hl : Γl (wipeE Γ vs)) (hg : ∀ O a, GC (N.wi N.E O) (wipeE Γ vs) g a (Γt a) vs)
    (he : ∀ O a, EV (N.wi N.E O) (Γt a) te (f a)) (hΓ : ∀ a, wipeE (Γt a) vs = wipeE Γ vs) : EVN N Γ (tLc wi g tYes te vs) (mi >>= fun xs => chk (small xs.length) (mapP f xs : Prog (L δ))) :=
  comp_core (Ec := N.E) (fin := EP G N) (t := fun _ => .ok true) hi hv hl hΓ hg (fun O a => tv_yes) he (fun O h e => ep_wi h e) fun xs P h => by
    rw [compP_map]
    exact wp_chk h
/-- .. where the block calls defs: no error may leave it -/
theorem evn_lcE (hi : EVI (α := α) N Γ wi mi Γl) (hv : notOwn Γ vs) (hl : Γl (wipeE Γ vs)) (hg : ∀ O a, GC (N.wi E0 O) (wipeE Γ vs) g a (Γt a) vs)
    (ht : ∀ O a, TV (N.wi E0 O) (Γt a) tt (t a)) (he : ∀ O a, EV (N.wi E0 O) (Γt a) te (f a)) (hΓ : ∀ a, wipeE (Γt a) vs = wipeE Γ vs) :
    EVN N Γ (tLc wi g tt te vs) (mi >>= fun xs => chk (small xs.length) (noerr (compP t f xs) : Prog (L δ))) :=
  comp_core (Ec := E0) (fin := fun _ => False) hi hv hl hΓ hg ht he (fun O h e x => x.elim) fun xs P h => by
    obtain ⟨a, b⟩ := wp_chk h
    exact ⟨a, wp_noerr b⟩
theorem evn_mapE (hi : EVI (α := α) N Γ wi mi Γl) (hv : notOwn Γ vs) (hl : Γl (wipeE Γ vs)) (hg : ∀ O a, GC (N.wi E0 O) (wipeE Γ vs) g a (Γt a) vs)
    (he : ∀ O a, EV (N.wi E0 O) (Γt a) te (f a)) (hΓ : ∀ a, wipeE (Γt a) vs = wipeE Γ vs) : EVN N Γ (tLc wi g tYes te vs) (mi >>= fun xs => chk (small xs.length) (noerr (mapP f xs) : Prog (L δ))) :=
  comp_core (Ec := E0) (fin := fun _ => False) (t := fun _ => .ok true) hi hv hl hΓ hg (fun O a => tv_yes) he (fun O h e x => x.elim) fun xs P h => by
    rw [compP_map]
    obtain ⟨a, b⟩ := wp_chk h
    exact ⟨a, wp_noerr b⟩
end
end
end Ty

namespace Ty
open PySem PySem.Spec PyProof.Rows L2
open Enc (enc)
variable {G : Glob}
/-! ### comprehensions with two fors -/
def comp2P {α β δ : Type} (t : α → Prog Bool) (mi : α → Prog (List β)) (t1 : α → β → Prog Bool) (f : α → β → Prog δ) : List α → Prog (List δ)
  | [] => .ok []
  | a :: r => t a >>= fun b => if b then mi a >>= fun ys => chk (decide (ys.length ≤ 160)) (compP (t1 a) (f a) ys >>= fun zs => comp2P t mi t1 f r >>= fun rs => .ok (zs ++ rs)) else comp2P t mi t1 f r
theorem wipe_sub (σ : L2.St) {vs vs1 : List Nat} (h : ∀ i ∈ vs1, i ∈ vs) : wipe (wipe σ vs1) vs = wipe σ vs := by
  apply List.ext_getElem?
  intro k
  rw [wipe_get, wipe_get, wipe_get]
  by_cases h1 : k ∈ vs
  · rw [if_pos h1, if_pos h1]
    by_cases h2 : k ∈ vs1
    · rw [if_pos h2, Option.map_map]; rfl
    · rw [if_neg h2]
  · rw [if_neg h1, if_neg h1, if_neg fun z => h1 (h _ z)]
theorem gc_more {α : Type} [iα : Rp G α] {N : NN} {Γ Γ' : Env G} {g : TG} {a : α} {us vs : List Nat} (h : GC N Γ g a Γ' us) (hs : ∀ i ∈ us, i ∈ vs) : GC N Γ g a Γ' vs := fun σ F H x h0 r Q q =>
  h σ F H x h0 r Q fun σ' F' h1 e1 w => q σ' F' h1 e1 (by rw [← wipe_sub σ' hs, w, wipe_sub σ hs])
theorem wipeE_sub (Γ : Env G) {vs vs1 : List Nat} (h : ∀ i ∈ vs1, i ∈ vs) : wipeE (wipeE Γ vs1) vs = wipeE Γ vs := by
  apply List.ext_getElem?
  intro k
  rw [wipeE_get, wipeE_get, wipeE_get]
  by_cases h1 : k ∈ vs
  · rw [if_pos h1, if_pos h1]
    by_cases h2 : k ∈ vs1
    · rw [if_pos h2, Option.map_map]; rfl
    · rw [if_neg h2]
  · rw [if_neg h1, if_neg h1, if_neg fun z => h1 (h _ z)]
section
variable {α β γ ω : Type} [iα : Rp G α] [iβ : Rp G β] {N : NN} {Γ Γ' : Env G} {te ta tb : TE} {tt tt1 : TT}
theorem comp2_core {δ : Type} [Enc δ] {wi wi1 : TI} {g g1 : TG} {vs vs1 : List Nat} {mi : Prog (List α)} {t : α → Prog Bool} {mi1 : α → Prog (List β)} {t1 : α → β → Prog Bool} {f : α → β → Prog δ} {Γt : α → Env G} {Γu : α → β → Env G} {Γl : Env G → Prop} {Γl1 : α → Env G → Prop} {Ec : XK}
    (hi : EVI (α := α) N Γ wi mi Γl) (hv : notOwn Γ vs) (hsub : ∀ i ∈ vs1, i ∈ vs) (hl : Γl (wipeE Γ vs)) (hΓ : ∀ a, wipeE (Γt a) vs = wipeE Γ vs) (hno : ∀ a, notOwn (Γt a) vs) (hg : ∀ O a, GC (N.wi Ec O) (wipeE Γ vs) g a (Γt a) vs)
    (ht : ∀ O a, TV (N.wi Ec O) (Γt a) tt (t a)) (hi1 : ∀ O a, EVI (α := β) (N.wi Ec O) (Γt a) wi1 (mi1 a) (Γl1 a)) (hl1 : ∀ a, Γl1 a (wipeE (Γt a) vs1)) (hΓ1 : ∀ a b, wipeE (Γu a b) vs1 = wipeE (Γt a) vs1)
    (hg1 : ∀ O a b, GC (N.wi Ec O) (wipeE (Γt a) vs1) g1 b (Γu a b) vs1) (ht1 : ∀ O a b, TV (N.wi Ec O) (Γu a b) tt1 (t1 a b)) (he : ∀ O a b, EV (N.wi Ec O) (Γu a b) te (f a b))
    {fin : Exc → Prop} (hE : ∀ O, (∀ a o, N.O a = some o → O a = some o) → ∀ e, fin e → EP G (N.wi Ec O) e) {M : List α → Prog (L δ)}
    (hM : ∀ xs (P : List δ → Prop), wp (M xs) P (EP G N) → small xs.length = true ∧ wp (comp2P t mi1 t1 f xs) P fin) :
    EVN N Γ (tLc2 wi g tt wi1 g1 tt1 te vs vs1) (mi >>= M) := fun σ F H hs Q q =>
  hi σ F H hs _ (wp_mono (wp_bind.1 q) fun xs q1 F1 H1 JJ hs1 e1 gen D hD => by
    obtain ⟨hsm, q1⟩ := hM xs _ q1
    have hsm' := of_decide_eq_true hsm
    let O : List V → Addr → Option HO := fun us a => by
      classical
      exact if a = D then some (.lst us) else if Held Γ σ a then H1 a else N.O a
    have nheld : ¬ Held Γ σ D := fun x => by
      obtain ⟨_, vs, h⟩ := hs1.held x
      rw [hD] at h; cases h
    have fD : F1 D = none := Same.free hs1.w.fh hD
    have h0D : N.H0 D = none := hs1.w.dm D hD
    have sD : ∀ p c, N.S = some (p, c) → D ≠ p ∧ D ≠ c := fun p c e => by
      obtain ⟨st, ix, cs, h1, h2, _⟩ := (hs1.w.sr p c e).at_
      refine ⟨fun z => ?_, fun z => ?_⟩
      · rw [← z, hD] at h1; cases h1
      · rw [← z, hD] at h2; cases h2
    have nOD : N.O D = none := by
      cases z : N.O D with
      | none => rfl
      | some o => exact absurd (hs1.w.os D o z).1.1 (by rw [hD]; intro y; cases y)
    have hOD : ∀ us, O us D = some (.lst us) := fun us => by simp [O]
    have hOh : ∀ us a, Held Γ σ a → O us a = H1 a := fun us a hh => by
      have : a ≠ D := fun z => nheld (z ▸ hh)
      simp [O, this, hh]
    have hON : ∀ us a o, N.O a = some o → O us a = some o := fun us a o h => by
      have ne : a ≠ D := fun z => by rw [z, nOD] at h; cases h
      by_cases hh : Held Γ σ a
      · rw [hOh us a hh]; exact (hs1.w.os a o h).1.1
      · simp [O, ne, hh, h]
    have hOs : ∀ us a o, O us a = some o → a ≠ D → (H1 a = some o ∧ F1 a = none) ∧ ∀ p c, N.S = some (p, c) → a ≠ p ∧ a ≠ c := fun us a o h ne => by
      by_cases hh : Held Γ σ a
      · rw [hOh us a hh] at h
        exact ⟨⟨h, (hs1.held hh).1.f⟩, (hs1.held hh).1.s⟩
      · have : O us a = N.O a := by simp [O, ne, hh]
        rw [this] at h
        exact hs1.w.os a o h
    have unO : ∀ {us : List V} {Γ' : Env G} {σ' : L2.St} {F' H' : Hp}, HS (N.wi Ec (O us)) Γ' σ' F' H' → HS N Γ' σ' F' H' := fun {us Γ' σ' F' H'} h => h.unwi fun a o x => h.w.os a o (hON us a o x)
    let B : List δ → Hp → Hp → Prop := fun acc F' H' => ∃ us, HS (N.wi Ec (O us)) (wipeE Γ vs) (wipe σ vs) F' H' ∧ Same F1 F' ∧ DqAll G.K F' us (acc.map enc)
    have start : B [] F1 (upd H1 D (.lst [])) := by
      have w2 := (hs_newlist (vs := []) (hs1.wiped vs) hD).1
      refine ⟨[], w2.wi fun a o x => ?_, Same.refl F1, .nil⟩
      by_cases ha : a = D
      · subst ha
        rw [hOD] at x
        rw [upd_same]
        exact ⟨⟨x, fD⟩, sD⟩
      · rw [upd_ne ha]
        exact hOs [] a o x ha
    have grow : ∀ {us us' : List V} {Γ' : Env G} {σ' : L2.St} {F' H' : Hp}, ¬ Held Γ' σ' D → HS (N.wi Ec (O us)) Γ' σ' F' H' → HS (N.wi Ec (O us')) Γ' σ' F' (upd H' D (.lst us')) := fun {us us' Γ' σ' F' H'} nh h => by
      have hf : F' D = none := (h.w.os D _ (hOD us)).1.2
      have h1 : HS N Γ' σ' F' (upd H' D (.lst us')) := (unO h).grow hf h0D sD nh (fun o x => by rw [nOD] at x; cases x)
      refine h1.wi fun a o x => ?_
      by_cases ha : a = D
      · subst ha
        rw [hOD] at x
        rw [upd_same]
        exact ⟨⟨x, hf⟩, sD⟩
      · rw [upd_ne ha]
        have x' : O us a = some o := by
          have : O us a = O us' a := by simp [O, ha]
          rw [this]; exact x
        exact h.w.os a o x'
    -- what is wanted behind the whole
    let Z : List δ → List δ → Prop := fun acc ys => ∀ p vs F' H', HS N Γ σ F' H' → Same F1 F' → NewAt N Γ σ F' p → H' p = some (.lst vs) → DqAll G.K F' vs ((acc ++ ys).map enc) → Q (.ref p) H'
    refine ⟨fun i m H' => ∃ acc F', B acc F' H' ∧ i ≤ xs.length ∧ m = xs.length - i ∧ acc.length ≤ i * 160 ∧ wp (comp2P t mi1 t1 f (xs.drop i)) (Z acc) fin, ⟨_, [], F1, start, Nat.zero_le _, rfl, Nat.zero_le _, wp_mono q1 fun ys k p vs F' H' a b c d e => k p vs F' H' a (Same.trans e1 b) c d e⟩, ?_⟩
    rintro i m H2 ⟨acc, F2, ⟨us, hs2, e2, d2⟩, hle, rfl, hacc, q2⟩
    have hG := gen N (wipeE Γ vs) hl
    have hsN := unO hs2
    by_cases hi : i < xs.length
    · have ex : xs[i]? = some xs[i] := List.getElem?_eq_getElem hi
      rw [List.drop_eq_getElem_cons hi] at q2
      refine .inr ⟨hG.go i _ F2 H2 hsN e2 hi, fun H' => ∃ acc' F', B acc' F' H' ∧ acc'.length ≤ (i + 1) * 160 ∧ wp (comp2P t mi1 t1 f (xs.drop (i + 1))) (Z acc') fin, ?_, fun x H3 hy => ?_⟩
      · rintro H' ⟨acc', F', hB, hl', q'⟩
        exact ⟨xs.length - (i + 1), by omega, acc', F', hB, hi, rfl, hl', q'⟩
      · have q3 := wp_bind.1 q2
        have fin2 : ∀ F3, HS (N.wi Ec (O us)) (wipeE Γ vs) (wipe σ vs) F3 H3 → Same F2 F3 → iα.rp xs[i] x F3 → g x (wipe σ vs) H3 fun σ2 H3 => wipe σ2 vs = wipe σ vs ∧ tt σ2 H3 fun b H3 =>
            if b = true then wi1 σ2 H3 fun J1 H4 => ∃ W1 : Nat → Nat → Hp → Prop, (∃ m, W1 0 m H4) ∧ ∀ j k H, W1 j k H →
              (J1.stop j H ∧ (fun H' => ∃ acc' F', B acc' F' H' ∧ acc'.length ≤ (i + 1) * 160 ∧ wp (comp2P t mi1 t1 f (xs.drop (i + 1))) (Z acc') fin) H) ∨ (J1.go j H ∧ ∃ Nx1 : Hp → Prop, (∀ H', Nx1 H' → ∃ k', k' < k ∧ W1 (j + 1) k' H') ∧ ∀ x H', J1.yld j H x H' → g1 x (wipe σ2 vs1) H' fun σ3 H5 => wipe σ3 vs1 = wipe σ2 vs1 ∧ tt1 σ3 H5 fun b H6 =>
                if b = true then te σ3 H6 fun y H7 => ∃ acc, H7 D = some (.lst acc) ∧ acc.length < sizeLine ∧ Nx1 (upd H7 D (.lst (acc ++ [y]))) else Nx1 H6)
            else (fun H' => ∃ acc' F', B acc' F' H' ∧ acc'.length ≤ (i + 1) * 160 ∧ wp (comp2P t mi1 t1 f (xs.drop (i + 1))) (Z acc') fin) H3 := fun F3 hs3 e3 r3 => by
          refine hg (O us) xs[i] _ F3 H3 x hs3 r3 _ fun σ4 F4 hs4 e4 hw => ⟨hw.trans (wipe_wipe σ vs), ?_⟩
          have hw' : wipe σ4 vs = wipe σ vs := hw.trans (wipe_wipe σ vs)
          refine ht (O us) xs[i] σ4 F4 H3 hs4 _ (wp_imp q3 (fun b q4 F5 H5 hs5 e5 => ?_) (hE (O us) (hON us)))
          have e15 : Same F2 F5 := Same.trans e3 (Same.trans e4 e5)
          cases b with
          | false =>
            rw [if_neg Bool.false_ne_true]
            have hback := hs5.wiped vs
            rw [hΓ, hw'] at hback
            exact ⟨acc, F5, ⟨us, hback, Same.trans e2 e15, dpAll_same e15 _ _ d2⟩, by omega, q4⟩
          | true =>
            rw [if_pos rfl]
            refine hi1 (O us) xs[i] σ4 F5 H5 hs5 _ (wp_imp (wp_bind.1 q4) (fun ys q5 F6 H6 J1 hs6 e6 gen1 => ?_) (hE (O us) (hON us)))
            obtain ⟨hys, q5⟩ := wp_chk q5
            have hys := of_decide_eq_true hys
            have nh1 : ∀ σ' , wipe σ' vs1 = wipe σ4 vs1 → ¬ Held (wipeE (Γt xs[i]) vs1) (wipe σ' vs1) D := fun σ' hσ hh => by
              rw [hσ] at hh
              have nn : notOwn (wipeE (Γt xs[i]) vs1) vs := fun k hk e ek => by
                rw [wipeE_get] at ek
                by_cases hk1 : k ∈ vs1
                · rw [if_pos hk1] at ek
                  cases hz : (Γt xs[i])[k]? with
                  | none => rw [hz] at ek; cases ek
                  | some e' => rw [hz] at ek; cases ek; rfl
                · rw [if_neg hk1] at ek
                  exact hno _ k hk e ek
              have := hh.wiped nn
              rw [wipeE_sub _ hsub, hΓ, wipe_sub _ hsub, hw'] at this
              exact nheld this.unwiped
            have e26 : Same F2 F6 := Same.trans e15 e6
            have hG1 := fun Oz => gen1 (N.wi Ec Oz) _ (hl1 xs[i])
            have s0 := hs6.wiped vs1
            refine ⟨fun j k H' => ∃ acc1 F' us1, HS (N.wi Ec (O us1)) (wipeE (Γt xs[i]) vs1) (wipe σ4 vs1) F' H' ∧ Same F6 F' ∧ DqAll G.K F' us1 (acc1.map enc) ∧ j ≤ ys.length ∧ k = ys.length - j ∧ acc1.length ≤ i * 160 + j ∧
              wp (compP (t1 xs[i]) (f xs[i]) (ys.drop j)) (fun zs => wp (comp2P t mi1 t1 f (xs.drop (i + 1))) (fun rs => Z acc1 (zs ++ rs)) fin) fin, ⟨_, acc, F6, us, s0, Same.refl F6, dpAll_same e26 _ _ d2, Nat.zero_le _, rfl, by omega, ?_⟩, ?_⟩
            · exact wp_mono (wp_bind.1 q5) fun zs q6 => wp_mono (wp_bind.1 q6) fun rs q7 => q7
            rintro j k H7 ⟨acc1, F7, us1, hs7, e7, d7, hj, rfl, ha1, q7⟩
            by_cases hjl : j < ys.length
            · have ey : ys[j]? = some ys[j] := List.getElem?_eq_getElem hjl
              rw [List.drop_eq_getElem_cons hjl] at q7
              refine .inr ⟨(hG1 (O us1)).go j _ F7 H7 hs7 e7 hjl, fun H' => ∃ acc2 F' us2, HS (N.wi Ec (O us2)) (wipeE (Γt xs[i]) vs1) (wipe σ4 vs1) F' H' ∧ Same F6 F' ∧ DqAll G.K F' us2 (acc2.map enc) ∧ acc2.length ≤ i * 160 + (j + 1) ∧
                wp (compP (t1 xs[i]) (f xs[i]) (ys.drop (j + 1))) (fun zs => wp (comp2P t mi1 t1 f (xs.drop (i + 1))) (fun rs => Z acc2 (zs ++ rs)) fin) fin, ?_, fun y H8 hy1 => ?_⟩
              · rintro H' ⟨acc2, F', us2, y1, y2, y3, y4, y5⟩
                exact ⟨ys.length - (j + 1), by omega, acc2, F', us2, y1, y2, y3, hjl, rfl, y4, y5⟩
              · have q8 := wp_bind.1 q7
                have fin3 : ∀ F8, HS (N.wi Ec (O us1)) (wipeE (Γt xs[i]) vs1) (wipe σ4 vs1) F8 H8 → Same F7 F8 → iβ.rp ys[j] y F8 → g1 y (wipe σ4 vs1) H8 fun σ3 H5 => wipe σ3 vs1 = wipe σ4 vs1 ∧ tt1 σ3 H5 fun b H6 =>
                    if b = true then te σ3 H6 fun y H7 => ∃ acc, H7 D = some (.lst acc) ∧ acc.length < sizeLine ∧ (fun H' => ∃ acc2 F' us2, HS (N.wi Ec (O us2)) (wipeE (Γt xs[i]) vs1) (wipe σ4 vs1) F' H' ∧ Same F6 F' ∧ DqAll G.K F' us2 (acc2.map enc) ∧ acc2.length ≤ i * 160 + (j + 1) ∧
                      wp (compP (t1 xs[i]) (f xs[i]) (ys.drop (j + 1))) (fun zs => wp (comp2P t mi1 t1 f (xs.drop (i + 1))) (fun rs => Z acc2 (zs ++ rs)) fin) fin) (upd H7 D (.lst (acc ++ [y])))
                    else (fun H' => ∃ acc2 F' us2, HS (N.wi Ec (O us2)) (wipeE (Γt xs[i]) vs1) (wipe σ4 vs1) F' H' ∧ Same F6 F' ∧ DqAll G.K F' us2 (acc2.map enc) ∧ acc2.length ≤ i * 160 + (j + 1) ∧
                      wp (compP (t1 xs[i]) (f xs[i]) (ys.drop (j + 1))) (fun zs => wp (comp2P t mi1 t1 f (xs.drop (i + 1))) (fun rs => Z acc2 (zs ++ rs)) fin) fin) H6 := fun F8 hs8 e8 r8 => by
                  refine hg1 (O us1) xs[i] ys[j] _ F8 H8 y hs8 r8 _ fun σ9 F9 hs9 e9 hw9 => ⟨hw9.trans (wipe_wipe σ4 vs1), ?_⟩
                  have hw9' : wipe σ9 vs1 = wipe σ4 vs1 := hw9.trans (wipe_wipe σ4 vs1)
                  refine ht1 (O us1) xs[i] ys[j] σ9 F9 H8 hs9 _ (wp_imp q8 (fun b q9 F10 H10 hs10 e10 => ?_) (hE (O us1) (hON us1)))
                  have e710 : Same F7 F10 := Same.trans e8 (Same.trans e9 e10)
                  cases b with
                  | true =>
                    rw [if_pos rfl]
                    refine he (O us1) xs[i] ys[j] σ9 F10 H10 hs10 _ (wp_imp (wp_bind.1 q9) (fun z q10 v F11 H11 hs11 e11 r11 => ?_) (hE (O us1) (hON us1)))
                    have hD11 : H11 D = some (.lst us1) := (hs11.w.os D _ (hOD us1)).1.1
                    have d11 := dpAll_same (Same.trans e710 e11) _ _ d7
                    have l11 := dpAll_len d11
                    have hb := hs11.wiped vs1
                    rw [hΓ1, hw9'] at hb
                    refine ⟨us1, hD11, ?_, acc1 ++ [z], F11, us1 ++ [v], grow (nh1 σ4 rfl) hb, Same.trans e7 (Same.trans e710 e11), by rw [List.map_append]; exact dpAll_append d11 (.cons r11 .nil), by rw [List.length_append]; show acc1.length + 1 ≤ _; omega, ?_⟩
                    · rw [l11, sizeLine_eq]
                      omega
                    · refine wp_mono (wp_bind.1 q10) fun zs q11 => ?_
                      refine wp_mono (show wp (comp2P t mi1 t1 f (xs.drop (i + 1))) (fun rs => Z acc1 (z :: zs ++ rs)) fin from q11) fun rs q12 => ?_
                      show ∀ p vs F' H', _ → _ → _ → _ → DqAll G.K F' vs ((acc1 ++ [z] ++ (zs ++ rs)).map enc) → _
                      rw [show acc1 ++ [z] ++ (zs ++ rs) = acc1 ++ (z :: zs ++ rs) by simp]
                      exact q12
                  | false =>
                    rw [if_neg Bool.false_ne_true]
                    have hb := hs10.wiped vs1
                    rw [hΓ1, hw9'] at hb
                    exact ⟨acc1, F10, us1, hb, Same.trans e7 e710, dpAll_same e710 _ _ d7, by omega, q9⟩
                rcases (hG1 (O us1)).yld j ys[j] _ F7 H7 y H8 hs7 e7 ey hy1 with ⟨rfl, r⟩ | ⟨T, o, hT, rfl, r⟩
                · exact fin3 F7 hs7 (Same.refl F7) r
                · obtain ⟨hs8, e8⟩ := hs7.laid (o := o) hT
                  exact fin3 _ hs8 e8 r
            · have ej : j = ys.length := by omega
              subst ej
              rw [List.drop_length] at q7
              have hback := hs7.wiped vs
              rw [wipeE_sub _ hsub, hΓ, wipe_sub _ hsub, hw'] at hback
              refine .inl ⟨(hG1 (O us1)).stop _ _ F7 H7 hs7 e7 (Nat.le_refl _), acc1, F7, ⟨us1, hback, Same.trans e2 (Same.trans e26 e7), d7⟩, by omega, ?_⟩
              exact (show wp (comp2P t mi1 t1 f (xs.drop (i + 1))) (fun rs => Z acc1 ([] ++ rs)) fin from q7)
        rcases hG.yld i xs[i] _ F2 H2 x H3 hsN e2 ex hy with ⟨rfl, r⟩ | ⟨T, o, hT, rfl, r⟩
        · exact fin2 F2 hs2 (Same.refl F2) r
        · obtain ⟨hs3, e3⟩ := hs2.laid (o := o) hT
          exact fin2 _ hs3 e3 r
    · have e : i = xs.length := by omega
      subst e
      rw [List.drop_length] at q2
      have q2' : ∀ p vs F' H', HS N Γ σ F' H' → Same F1 F' → NewAt N Γ σ F' p → H' p = some (.lst vs) → DqAll G.K F' vs ((acc ++ []).map enc) → Q (.ref p) H' := q2
      refine .inl ⟨hG.stop _ _ F2 H2 hsN e2 (Nat.le_refl _), ?_⟩
      have hD2 := (hs2.w.os D _ (hOD us)).1
      have hs3 : HS N Γ σ F2 H2 := hs1.move hsN.w e2 (fun q ws hl h => (hs2.w.os q _ ((hOh us q hl).trans h)).1.1) (fun q hl => by
        obtain ⟨m, ws, h⟩ := hs1.held hl
        exact (hs2.w.os q _ ((hOh us q hl).trans h)).1.2)
      exact q2' D us F2 H2 hs3 e2 ⟨⟨hD2.2, h0D, sD⟩, h0D, nheld, nOD⟩ hD2.1 (by rw [List.append_nil]; exact d2))
section
variable {δ : Type} [Enc δ] {wi wi1 : TI} {g g1 : TG} {vs vs1 : List Nat} {mi : Prog (List α)} {t : α → Prog Bool} {mi1 : α → Prog (List β)} {t1 : α → β → Prog Bool} {f : α → β → Prog δ} {Γt : α → Env G} {Γu : α → β → Env G} {Γl : Env G → Prop} {Γl1 : α → Env G → Prop}
theorem evn_lc2 (hi : EVI (α := α) N Γ wi mi Γl) (hv : notOwn Γ vs) (hsub : ∀ i ∈ vs1, i ∈ vs) (hl : Γl (wipeE Γ vs)) (hg : ∀ O a, GC (N.wi N.E O) (wipeE Γ vs) g a (Γt a) vs) (hno : ∀ a, notOwn (Γt a) vs)
    (ht : ∀ O a, TV (N.wi N.E O) (Γt a) tt (t a)) (hi1 : ∀ O a, EVI (α := β) (N.wi N.E O) (Γt a) wi1 (mi1 a) (Γl1 a)) (hl1 : ∀ a, Γl1 a (wipeE (Γt a) vs1))
    (hg1 : ∀ O a b, GC (N.wi N.E O) (wipeE (Γt a) vs1) g1 b (Γu a b) vs1) (ht1 : ∀ O a b, TV (N.wi N.E O) (Γu a b) tt1 (t1 a b)) (he : ∀ O a b, EV (N.wi N.E O) (Γu a b) te (f a b)) (hΓ : ∀ a, wipeE (Γt a) vs = wipeE Γ vs) (hΓ1 : ∀ a b, wipeE (Γu a b) vs1 = wipeE (Γt a) vs1) :
    EVN N Γ (tLc2 wi g tt wi1 g1 tt1 te vs vs1) (mi >>= fun xs => chk (small xs.length) (comp2P t mi1 t1 f xs : Prog (L δ))) :=
  comp2_core (Ec := N.E) (fin := EP G N) hi hv hsub hl hΓ hno hg ht hi1 hl1 hΓ1 hg1 ht1 he (fun O h e => ep_wi h e) fun xs P h => wp_chk h
theorem evn_lc2E (hi : EVI (α := α) N Γ wi mi Γl) (hv : notOwn Γ vs) (hsub : ∀ i ∈ vs1, i ∈ vs) (hl : Γl (wipeE Γ vs)) (hg : ∀ O a, GC (N.wi E0 O) (wipeE Γ vs) g a (Γt a) vs) (hno : ∀ a, notOwn (Γt a) vs)
    (ht : ∀ O a, TV (N.wi E0 O) (Γt a) tt (t a)) (hi1 : ∀ O a, EVI (α := β) (N.wi E0 O) (Γt a) wi1 (mi1 a) (Γl1 a)) (hl1 : ∀ a, Γl1 a (wipeE (Γt a) vs1))
    (hg1 : ∀ O a b, GC (N.wi E0 O) (wipeE (Γt a) vs1) g1 b (Γu a b) vs1) (ht1 : ∀ O a b, TV (N.wi E0 O) (Γu a b) tt1 (t1 a b)) (he : ∀ O a b, EV (N.wi E0 O) (Γu a b) te (f a b)) (hΓ : ∀ a, wipeE (Γt a) vs = wipeE Γ vs) (hΓ1 : ∀ a b, wipeE (Γu a b) vs1 = wipeE (Γt a) vs1) :
    EVN N Γ (tLc2 wi g tt wi1 g1 tt1 te vs vs1) (mi >>= fun xs => chk (small xs.length) (noerr (comp2P t mi1 t1 f xs) : Prog (L δ))) :=
  comp2_core (Ec := E0) (fin := fun _ => False) hi hv hsub hl hΓ hno hg ht hi1 hl1 hΓ1 hg1 ht1 he (fun O h e x => x.elim) fun xs P h => by
    obtain ⟨a, b⟩ := wp_chk h
    exact ⟨a, wp_noerr b⟩
end
end
end Ty

/-! rules for constructs that the layer has no row for -/
namespace TyL
open PySem PySem.Spec PyProof.Rows L2
section
variable {X : Cx}
/-! ### enumerate(tuple) -/
theorem meets_enumT (l : Addr) (items : Array Value) (n : Nat) (dct : Option Addr) (sl : Array (Option Value)) :
    Meets (Builtin.«enumerate.__new__» ⟨[.type "enumerate", .ref l], []⟩) (fun _ R s => s.heap.get? l = some { cls := .type "tuple", dict := dct, data := .seq items n, slots := sl } ∧
      R (.ok (.ret (.ref (s.heap.push { cls := .type "tuple_iterator", data := .fields #[.ref l, .int 0 0] }).objs.size)))
        { s with heap := (s.heap.push { cls := .type "tuple_iterator", data := .fields #[.ref l, .int 0 0] }).push { cls := .type "enumerate", data := .fields #[.none, .bool false, .ref s.heap.objs.size, rawInt 0, .none, .none] } }) :=
  .of_wp fun prog w A R s h => by
    obtain ⟨hp, g, d, tk, os⟩ := s; obtain ⟨hl, h⟩ := h
    have hsub := sub_enumerate
    have hL : Heap.IsTuple (Shared.heap ⟨hp, g, d, tk, os⟩) l items := ⟨_, hl, rfl, n, rfl⟩
    wp_walk using AutoSeq1.wpAny_loadPart' hl
    refine wpAny_stack_any fun st => wpAny_pure ?_
    split
    · rename_i c _ _ _ _ _
      cases (c == Value.type "enumerate")
      · wp_walk using AutoSeq1.wpAny_loadPart' hl, wpAny_pyIter_tuple hL
        exact ⟨_, rfl, h⟩
      · wp_walk using AutoSeq1.wpAny_loadPart' hl, wpAny_pyIter_tuple hL
        exact ⟨_, rfl, h⟩
    · wp_walk using AutoSeq1.wpAny_loadPart' hl, wpAny_pyIter_tuple hL
      exact ⟨_, rfl, h⟩
theorem call_enumT {prog : Program} {w : World} {A : Around} {E : Value → Shared → Prop} {s : Shared} {l : Addr} {items : Array Value} {Q : Value → Shared → Prop} (hL : s.heap.IsTuple l items)
    (h : ∀ h', IsEnum h' (s.heap.objs.size + 1) s.heap.objs.size 0 .none → h'.IsTupleIter s.heap.objs.size l 0 → h'.objs.size = s.heap.objs.size + 2 →
      (∀ b o, s.heap.get? b = some o → h'.get? b = some o) → Q (.ref (s.heap.objs.size + 1)) { s with heap := h' }) :
    wpAny (model prog w) A (call (.type "enumerate") [.ref l]) Q E s := by
  obtain ⟨⟨c, dct, dt, sl⟩, hl, hc, n, hd⟩ := hL
  replace hc : c = .type "tuple" := hc
  replace hd : dt = .seq items n := hd
  subst hc hd
  refine callType_new F.called_enumerate (by decide) (F.typeCall_enumerate_1 _) (F.newCall_enumerate_1 _) (fun obj => F.args_object_init_2 obj _) F.entry_enumerate_new
    (meets_enumT l items n dct sl) ⟨hl, ?_⟩
  have hz : (s.heap.push { cls := .type "tuple_iterator", data := .fields #[.ref l, .int 0 0] }).objs.size = s.heap.objs.size + 1 := Heap.size_push ..
  show _ ∧ _
  rw [hz]
  have he : IsEnum ((s.heap.push { cls := .type "tuple_iterator", data := .fields #[.ref l, .int 0 0] }).push
      { cls := .type "enumerate", data := .fields #[.none, .bool false, .ref s.heap.objs.size, rawInt 0, .none, .none] }) (s.heap.objs.size + 1) s.heap.objs.size 0 .none := by
    have := Heap.get?_push_size (s.heap.push { cls := .type "tuple_iterator", data := .fields #[.ref l, .int 0 0] })
      (o := { cls := .type "enumerate", data := .fields #[.none, .bool false, .ref s.heap.objs.size, rawInt 0, .none, .none] }) rfl
    rw [hz] at this; exact this
  refine ⟨⟨_, he, rfl⟩, h _ he ⟨_, Heap.get?_push_of_some _ (Heap.get?_push_size _ rfl), rfl, rfl⟩ (by rw [Heap.size_push, hz]) fun b o x => Heap.get?_push_of_some _ (Heap.get?_push_of_some _ x)⟩
def IteT (K : PySem.W.Frag) (a : Addr) : It :=
  ⟨fun i H => ∃ (xs : List V) (x : V), SqT K H a xs ∧ xs[i]? = some x, fun i H v H' => ∃ T x, v = .ref T ∧ H T = none ∧ H' = upd H T (.tup [.int (i : Nat), x]) ∧ ∀ xs, SqT K H a xs → xs[i]? = some x, fun i H => ∃ xs : List V, SqT K H a xs ∧ xs.length ≤ i⟩
theorem turn_enumT {P : Program} {w : World} {K : PySem.W.Frag} {elts : List Expr} {kk : Nat} {tpos : Pos} (a e it : Addr) :
    Turn P w K (.Tuple elts kk tpos) (IteT K a) [e, it] e (fun i h => (∃ old, IsEnum h e it ((i : Nat) : Int) old) ∧ h.IsTupleIter it a i ∧ e ≠ it) where
  mem := by simp
  obj := fun i h st b hb => by
    obtain ⟨⟨old, he⟩, ⟨o, ho, hc, hd⟩, _⟩ := st
    have e' : b = e ∨ b = it := by simpa using hb
    rcases e' with z | z
    · rw [z]; exact ⟨_, he, fun v q => nomatch q⟩
    · rw [z]; exact ⟨o, ho, fun v q => by rw [hd] at q; cases q⟩
  keep := fun i h h' st k => let ⟨⟨old, he⟩, hi, hne⟩ := st; ⟨⟨old, k e (by simp) _ he⟩, hi.at fun o q => k it (by simp) o q, hne⟩
  item := by
    intro X hP hw hK hc i pins s σ H E I hf st hg
    subst hP hw hK
    obtain ⟨⟨old, he⟩, hit, hne⟩ := st
    obtain ⟨xs, x, hq, hx⟩ := hg
    obtain ⟨its, rv, p, hz⟩ := I.tuple hq
    obtain ⟨u, hu, ru⟩ := rv.get hx
    have hel : e < s.heap.objs.size := Heap.lt_size he
    have hil : it < s.heap.objs.size := by obtain ⟨_, q, _⟩ := hit; exact Heap.lt_size q
    have hia : a ≠ it := fun z => by
      obtain ⟨o, q1, q2, q3⟩ := id hit
      obtain ⟨o', q4, q5, _⟩ := id p
      rw [z, q1] at q4; cases q4
      rw [q2] at q5
      injection q5 with q6
      exact absurd q6 (by decide)
    have hea : e ≠ a := fun z => by
      obtain ⟨o', q4, q5, _⟩ := id p
      rw [← z, show s.heap.get? e = some _ from he] at q4; cases q4
      injection q5 with q6
      exact absurd q6 (by decide)
    have hh : X.A.in1.handled = none := I.ok.hd hc
    have D := Draws.tuple (prog := X.prog) (w := X.w) (A := X.A.in1) hh it a hia its.toArray
    have hlen : i < its.toArray.size := by
      obtain ⟨h1, _⟩ := List.getElem?_eq_some_iff.1 hu
      simpa using h1
    refine wpAny_pyNext_enum_itemD D he ⟨hit, p⟩ hlen hne (by simp [hne, hea]) fun x2 h' tk hx2 ho hst' hT hsz hk => ?_
    have hu2 : x2 = u := by
      have : its.toArray[i]? = some x2 := hx2
      rw [List.getElem?_toArray] at this
      exact Option.some.inj (this.symm.trans hu)
    subst hu2
    refine ⟨_, rfl, wpAny_letOwnedTupleGo_enum (s := { s with heap := h', toks := tk + 1 }) ho fun h'' he' sb => ?_⟩
    have hT2 : h''.get? s.heap.objs.size = some { cls := .type "tuple", data := .seq #[.int i tk, x2] } := (sb.2 _ (Nat.ne_of_gt hel)).trans hT
    have new : ObjOk X.prog X.w (upd H s.heap.objs.size (.tup [.int (i : Nat), x])) h'' s.heap.objs.size (.tup [.int (i : Nat), x]) :=
      ⟨by show 2 ≤ sizeLine; decide, [.int i tk, x2], .cons ⟨_, rfl⟩ (.cons ru .nil), ⟨_, hT2, rfl, _, rfl⟩⟩
    have I1 : Inv X pins σ (upd H s.heap.objs.size (.tup [.int (i : Nat), x])) { s with heap := h'', toks := tk + 1 } :=
      I.turnedNew (ch := [e, it]) (fun b ob hb q => (sb.2 b (fun z => hb (by simp [z]))).trans (hk b ob (fun z => hb (by simp [z])) (fun z => hb (by simp [z])) q)) hf (Nat.le_refl _) new
    refine ⟨.ref s.heap.objs.size, _, I1, rfl, ⟨_, x, rfl, I.hok.fresh (Nat.le_refl _), rfl, fun ys hy => by rw [I.tuple_inj hy hq]; exact hx⟩, ⟨⟨x2, ?_⟩, hst'.1.at fun o q => (sb.2 it (Ne.symm hne)).trans q, hne⟩, fun b hb => ?_⟩
    · have e1 : ((i + 1 : Nat) : Int) = (i : Int) + 1 := by omega
      rw [e1]; exact he'
    · have hb' : b < s.heap.objs.size := by
        have e' : b = e ∨ b = it := by simpa using hb
        rcases e' with z | z
        · rw [z]; exact hel
        · rw [z]; exact hil
      rw [upd_ne (Nat.ne_of_lt hb')]
      exact (hf b hb).1
  done := by
    intro X hP hw hK hc i pins s σ H E I hf st hg
    subst hP hw hK
    obtain ⟨⟨old, he⟩, hit, hne⟩ := st
    obtain ⟨xs, hq, hx⟩ := hg
    obtain ⟨its, rv, p, hz⟩ := I.tuple hq
    obtain ⟨f0, f1, f2, f3, f4, f5⟩ := hf it (by simp)
    have hl := rv.length
    have hia : a ≠ it := fun z => by
      obtain ⟨o, q1, q2, q3⟩ := id hit
      obtain ⟨o', q4, q5, _⟩ := id p
      rw [z, q1] at q4; cases q4
      rw [q2] at q5
      injection q5 with q6
      exact absurd q6 (by decide)
    have hh : X.A.in1.handled = none := I.ok.hd hc
    have D : Draws X.prog X.w X.A.in1 it [it, a] i (fun i v => its.toArray[i]? = some v) (fun j h => j = i ∧ h.IsTupleIter it a i ∧ h.IsTuple a its.toArray) :=
      { live := fun _ _ st => let ⟨o, ho, _⟩ := st.2.1; ⟨o, ho⟩
        frame := fun _ _ _ st hk => ⟨st.1, st.2.1.at fun o e => hk it (by simp) o e, st.2.2.at fun o e => hk a (by simp) o e⟩
        item := fun j s Q E hj st hQ => absurd st.1 (Nat.ne_of_lt hj)
        done := fun s Q E st hE => wpAny_nextOf_tuple_end hh st.2.1 st.2.2 (by simp; omega) hE }
    exact wpAny_pyNext_enum_endD D he ⟨rfl, hit, p⟩ fun h' eb => ⟨rfl, I.turned (t' := s.toks) (fun b o hb q => eb b o hb q) f0 f1 f3 f4 f5⟩
  self := fun A i s Q E st h => let ⟨⟨_, he⟩, _⟩ := st; wpAny_pyIter_enum he h
def iEnumT (K : PySem.W.Frag) (ta : TA) : TI := fun σ H R => ta σ H fun vs H1 => ∃ a xs, vs = [.ref a] ∧ SqT K H1 a xs ∧ R (IteT K a) H1
theorem pi_enumT {e : Expr} {ta : TA} {p pos tpos : Pos} {elts : List Expr} {kk : Nat} (hg : Gl X "enumerate") (hm : X.mg "enumerate" = none) (ha : PA X [e] ta) (hs : starEach [e] X.env = [(false, eval e X.env)] := by rfl) :
    PI X (.Tuple elts kk tpos) (.Call (.Name "enumerate" p) [e] [] pos) (iEnumT X.K ta) := by
  refine ⟨fun pins s σ H R I h => ?_⟩
  refine Call_ (ld_blt I hg hm boot_enumerate (PyProof.Rows.callWith_type1 (thn (ha.run pos pins s σ H _ I h) fun us s1 ⟨vs, H1, I1, r1, q1⟩ => ?_) hs rfl))
  obtain ⟨a, xs, ex, hq, q⟩ := q1
  subst ex
  cases r1 with
  | cons r rr =>
    cases rr
    cases r
    obtain ⟨its, rv, p', hz⟩ := I1.tuple hq
    refine call_enumT p' fun h' he hit hsz hk => wpAny_pyIter_enum he ?_
    have I2 : Inv X pins σ H1 { s1 with heap := h' } := I1.kept (t' := s1.toks) hk
    refine ⟨s1.heap.objs.size + 1, [s1.heap.objs.size + 1, s1.heap.objs.size], _, _, H1, rfl, I2, turn_enumT a (s1.heap.objs.size + 1) s1.heap.objs.size, ⟨⟨.none, he⟩, hit, Nat.succ_ne_self _⟩, fun b hb => ?_, q⟩
    have e' : b = s1.heap.objs.size + 1 ∨ b = s1.heap.objs.size := by simpa using hb
    have hle : s1.heap.objs.size ≤ b := by
      rcases e' with z | z
      · rw [z]; exact Nat.le_add_right _ _
      · rw [z]; exact Nat.le_refl _
    exact I1.fpOk hle (I1.hok.fresh hle)
/-! ### list + list, of any lists known -/
theorem Inv.rdl {pins : List (Addr × Obj)} {σ : L2.St} {H : Hp} {s : Shared} {a : Addr} {xs : List V} (I : L2.Inv X pins σ H s) (h : Rd H a (.lst xs)) : xs.length ≤ sizeLine ∧ ∃ (its : List Value) (n : Nat), Vals xs its ∧ s.heap.get? a = some { cls := .type "list", data := .seq its.toArray n } := by
  obtain ⟨z, its, n, r, e⟩ := h.ok I.hok
  exact ⟨z, its, n, r, e⟩
def rCatL : R2 := fun x y H Q => ∃ l b xs zs, x = .ref l ∧ y = .ref b ∧ Rd H l (.lst xs) ∧ Rd H b (.lst zs) ∧ xs.length + zs.length ≤ sizeLine ∧ ∀ p, H p = none → Q (.ref p) (upd H p (.lst (xs ++ zs)))
theorem op_catL : OpR X (binaryOp .Add) rCatL := by
  intro pins s σ H x y v u Q I rx ry h
  obtain ⟨l, b, xs, zs, rfl, rfl, hH, hB, hz, q⟩ := h
  cases rx
  cases ry
  obtain ⟨_, its, n, r, e⟩ := Inv.rdl I hH
  obtain ⟨_, its2, n2, r2, e2⟩ := Inv.rdl I hB
  have hl := r.length
  have hl2 := r2.length
  refine PySem.P.add_list e e2 ?_ (by rw [List.size_toArray, List.size_toArray]; omega)
  have ea : its.toArray ++ its2.toArray = (its ++ its2).toArray := by simp
  rw [ea]
  exact ⟨.ref _, _, I.lnew (t' := s.toks) (r.append r2) (by rw [List.length_append]; omega), rfl, q _ I.fresh⟩
/-! ### text * int -/
def rMulS : R2 := fun x y H Q => ∃ z n, x = .str z ∧ y = .int n ∧ -(2 ^ 62) ≤ n ∧ n < 2 ^ 62 ∧ z.length * n.toNat ≤ sizeLine ∧ Q (.str ⟨(List.replicate n.toNat z.cps.toList).flatten.toArray⟩) H
theorem foldl_cat (x : Array Nat) : ∀ (k : Nat) (acc : Array Nat), (List.replicate k x).foldl (· ++ ·) acc = acc ++ (List.replicate k x.toList).flatten.toArray
  | 0, acc => by simp
  | k + 1, acc => by
    rw [List.replicate_succ, List.foldl_cons, foldl_cat x k (acc ++ x), List.replicate_succ, List.flatten_cons]
    apply Array.ext'
    simp
theorem op_mulS : OpR X (binaryOp .Mult) rMulS := by
  intro pins s σ H x y v u Q I rx ry h
  obtain ⟨z, n, rfl, rfl, h1, h2, hz, q⟩ := h
  obtain ⟨t, rfl⟩ := rx
  obtain ⟨t', rfl⟩ := ry
  refine PySem.P.mul_str (by simp; omega) (fun a b c => ?_) (fun a b => ?_) ?_
  · have : (z.length : Int) * n ≤ 16777216 := by
      have h3 : z.length * n.toNat ≤ 16777216 := hz
      have h4 : ((z.length * n.toNat : Nat) : Int) ≤ 16777216 := by omega
      rw [Int.natCast_mul] at h4
      have h5 : ((n.toNat : Nat) : Int) = n := by omega
      rw [h5] at h4
      exact h4
    have hn : 0 < n := by omega
    have h6 : (z.length : Int) ≤ (2 ^ 63 - 1) / n := by
      rw [Int.le_ediv_iff_mul_le hn]
      omega
    omega
  · show decide (z.length * n.toNat > sizeLine) = false
    exact decide_eq_false (Nat.not_lt.mpr hz)
  · have e0 : ∀ k : Nat, (List.replicate k ([] : List Nat)).flatten = [] := fun k => by
      induction k with
      | zero => rfl
      | succ k ih => rw [List.replicate_succ, List.flatten_cons, ih]; rfl
    by_cases c1 : n < 1
    · rw [if_pos c1]
      have : n.toNat = 0 := by omega
      rw [this] at q
      exact ⟨Nat.zero_le _, .str _, H, I.tok _, ⟨_, rfl⟩, q⟩
    · rw [if_neg c1]
      by_cases c2 : (n == 1 || z.length == 0) = true
      · rw [if_pos c2]
        have ez : (⟨(List.replicate n.toNat z.cps.toList).flatten.toArray⟩ : Str) = z := by
          rcases Bool.or_eq_true_iff.1 c2 with c | c
          · have : n = 1 := by simpa using c
            subst this
            simp
          · have hz0 : z.cps.toList = [] := by
              have : z.cps.size = 0 := by simpa [Str.length] using c
              exact List.eq_nil_of_length_eq_zero (by simpa using this)
            rw [hz0, e0]
            have : z.cps = #[] := Array.ext' hz0
            cases z
            simp_all
        rw [ez] at q
        exact ⟨.str z, H, I, ⟨t, rfl⟩, q⟩
      · rw [if_neg c2, foldl_cat]
        refine ⟨?_, .str _, H, I.tok _, ⟨_, rfl⟩, by simpa using q⟩
        simp [Str.length]
        have : z.length = z.cps.size := rfl
        rw [Nat.mul_comm, ← this]
        exact hz
/-! ### a text turned round -/
theorem pick_all (x : List Nat) : ∀ k : Nat, k ≤ x.length → (((List.range k).map fun i => k - 1 - i).filterMap fun i => x[i]?) = (x.take k).reverse
  | 0, _ => by simp
  | k + 1, h => by
    have ih := pick_all x k (by omega)
    have hk : x[k]? = some x[k] := List.getElem?_eq_getElem (by omega)
    rw [List.range_succ_eq_map, List.map_cons, List.map_map]
    have e1 : (List.range k).map ((fun i => k + 1 - 1 - i) ∘ Nat.succ) = (List.range k).map fun i => k - 1 - i := List.map_congr_left fun i _ => by
      show k + 1 - 1 - (i + 1) = k - 1 - i
      omega
    rw [e1]
    have e2 : k + 1 - 1 - 0 = k := by omega
    rw [e2, List.filterMap_cons_some hk, ih, List.take_add_one, hk, List.reverse_append]
    rfl
theorem rev_ix (x : Str) : ((Builtin.Str.strSliceIndices none none (-1) x.length).filterMap (x.cps[·]?)).toArray = x.cps.toList.reverse.toArray := by
  congr 1
  have e : Builtin.Str.strSliceIndices none none (-1) x.length = (List.range x.length).map fun i => x.length - 1 - i := by
    unfold Builtin.Str.strSliceIndices
    show sliceRange (((x.length : Nat) : Int) - 1) (-1) (-1) = _
    unfold sliceRange
    by_cases h0 : x.length = 0
    · rw [h0]; rfl
    · have hc : (if (-1 : Int) > 0 then (if ((x.length : Nat) : Int) - 1 < -1 then (-1 - (((x.length : Nat) : Int) - 1) + -1 - 1) / -1 else 0) else (if ((x.length : Nat) : Int) - 1 > -1 then (((x.length : Nat) : Int) - 1 - -1 - -1 - 1) / - -1 else 0)) = (x.length : Int) := by
        rw [if_neg (by decide), if_pos (by omega)]
        have : (((x.length : Nat) : Int) - 1 - -1 - -1 - 1) = (x.length : Int) := by omega
        rw [this]
        simp
      simp only [hc]
      rw [Int.toNat_natCast]
      refine List.map_congr_left fun i hi => ?_
      have := List.mem_range.1 hi
      omega
  rw [e]
  have h := pick_all x.cps.toList x.length (by simp [Str.length])
  have h2 : x.cps.toList.take x.length = x.cps.toList := by
    rw [show x.length = x.cps.toList.length by simp [Str.length], List.take_length]
  rw [h2] at h
  rw [← h]
  congr 1
  funext i
  simp
def tRevS (te : TE) : TE := fun σ H Q => te σ H fun x H1 => ∃ z, x = .str z ∧ z.length ≤ sizeLine ∧ Q (.str ⟨z.cps.toList.reverse.toArray⟩) H1
theorem pe_revS {e : Expr} {te : TE} {k : Nat} {p1 p2 p3 pos : Pos} (he : PE X e te) : PE X (.Subscript e (.Slice none none (some (.UnaryOp .USub (.Constant (.int 1) k p1) p2)) p3) pos) (tRevS te) := by
  refine ⟨fun pins s σ H Q I h => ?_⟩
  refine Subscript_ (thn (he.run pins s σ H _ I h) fun v s1 ⟨x, H1, I1, r1, q1⟩ => ?_)
  obtain ⟨z, ex, hz, q⟩ := q1
  subst ex
  obtain ⟨t, rfl⟩ := r1
  have hst : PO X (some (.UnaryOp .USub (.Constant (.int 1) k p1) p2)) (tPart (tUn (rU fun i => .int (-i)) (tC (.int 1)))) := po_some (pe_un un_neg pe_int)
  refine wpAny_Slice (thn (po_none.run pins s1 σ H1 (fun o H2 => o = none ∧ H2 = H1) I1 ⟨rfl, rfl⟩) fun vl s2 ⟨l, H2, I2, pl, el, e2⟩ => ?_)
  subst el e2
  refine thn (po_none.run pins s2 σ H2 (fun o H3 => o = none ∧ H3 = H2) I2 ⟨rfl, rfl⟩) fun vu s3 ⟨u, H3, I3, pu, eu, e3⟩ => ?_
  subst eu e3
  refine thn (hst.run pins s3 σ H3 (fun o H4 => o = some (-1) ∧ H4 = H3) I3 ⟨1, rfl, -1, rfl, rfl, rfl⟩) fun vs s4 ⟨o, H4, I4, ps, eo, e4⟩ => ?_
  subst eo e4
  have I5 : Inv X pins σ H4 { s4 with heap := s4.heap.push { cls := .type "slice", data := .fields #[vl, vu, vs] } } := I4.kept (t' := s4.toks) fun b ob q => Heap.get?_push_of_some _ q
  show wpAny (model X.prog X.w) X.A (subscriptTail e (.Slice none none (some (.UnaryOp .USub (.Constant (.int 1) k p1) p2)) p3) (.str z t) (.ref s4.heap.objs.size)) (EP X pins σ Q) X.xe { s4 with heap := s4.heap.push { cls := .type "slice", data := .fields #[vl, vu, vs] } }
  obtain ⟨l, rfl, hl⟩ := IsPart.raw pl
  obtain ⟨u, rfl, hu⟩ := IsPart.raw pu
  obtain ⟨st, rfl, hs⟩ := IsPart.raw ps
  refine tail_any (ops := [.str z t, .ref s4.heap.objs.size]) (typeIs_str _ _ _) F.slot_str_getitem.lookup ?_ (by with_unfolding_all rfl)
  have hn : (st.map (·.1)).getD 1 = -1 := by rw [hs]; rfl
  refine wpAny_getItem_str_slice (l := l) (u := u) (st := st) ⟨_, Heap.get?_push_size _ rfl, rfl, rfl⟩ (by rw [hn]; rfl) ?_
  show Made.post (if (((st.map (·.1)).getD 1 == 1 && (Builtin.Str.strSliceIndices (l.map (·.1)) (u.map (·.1)) ((st.map (·.1)).getD 1) z.length).length == z.length) = true) then Made.val (.str z t)
    else Made.str ⟨((Builtin.Str.strSliceIndices (l.map (·.1)) (u.map (·.1)) ((st.map (·.1)).getD 1) z.length).filterMap (z.cps[·]?)).toArray⟩) _ _
  rw [hn, hl, hu, if_neg (by simp)]
  rw [rev_ix]
  refine ⟨?_, .str _, H4, I5.tok _, ⟨_, rfl⟩, q⟩
  simp [Str.length]
  exact hz
end
end TyL

namespace Ty
open PySem PySem.Spec PyProof.Rows L2
open Enc (enc)
variable {G : Glob}
section
variable {α β γ δ ω : Type} [iα : Rp G α] [iβ : Rp G β] [iγ : Rp G γ] {N : NN} {Γ Γ' : Env G} {te ta tb tc : TE} {tt tu : TT} {tz : TS}
/-! ### texts -/
theorem ev_revS {m : Prog Tx} (h : EV N Γ te m) : EV N Γ (TyL.tRevS te) (m >>= fun s => chk (small s.length) (.ok s.reverse)) := fun σ F H hs Q q =>
  h σ F H hs _ (wp_mono (wp_bind.1 q) fun s q1 x F1 H1 hs1 e1 r1 => by
    have e : x = .str (sx s) := Scl.dp (α := Tx) r1
    obtain ⟨hl, q1⟩ := wp_chk q1
    exact ⟨sx s, e, by simpa [Str.length, sx] using small_le hl, q1 _ F1 H1 hs1 e1 (.str _)⟩)
def mulS (s : Tx) (n : Int) : Tx := (List.replicate n.toNat s).flatten
theorem opv_mulS : OPV (G := G) (α := Tx) (β := Int) (γ := Tx) TyL.rMulS (fun s n => chk (inRange n && small (s.length * n.toNat)) (.ok (mulS s n))) := fun N Γ σ F H x y s n hs ra rb Q q => by
  have e1 : x = .str (sx s) := Scl.dp (α := Tx) ra
  have e2 : y = .int n := Scl.dp rb
  obtain ⟨h, q⟩ := wp_chk q
  obtain ⟨h1, h2⟩ := Bool.and_eq_true_iff.1 h
  obtain ⟨a, b⟩ := inRange_ok h1
  exact ⟨sx s, n, e1, e2, a, b, by simpa [Str.length, sx] using small_le h2, q _ F H hs (Same.refl F) (.str _)⟩
/-! in, of texts -/
def subS (a b : Tx) : Bool := !(Builtin.Str.occurrences (sx b) (sx a) 0 (sx b).length 1).isEmpty
theorem opv_inS : OPV (G := G) (α := Tx) (β := Tx) (γ := Bool) (fun x y H Q => ∃ i j, x = .str i ∧ y = .str j ∧ Q (.bl (!(Builtin.Str.occurrences j i 0 j.length 1).isEmpty)) H) (fun a b => .ok (subS a b)) := fun N Γ σ F H x y a b hs ra rb Q q => by
  have e1 : x = .str (sx a) := Scl.dp (α := Tx) ra
  have e2 : y = .str (sx b) := Scl.dp (α := Tx) rb
  exact ⟨sx a, sx b, e1, e2, q _ F H hs (Same.refl F) (.bl _)⟩
/-! join, split, str, int -/
def joinT (a : Tx) (xs : List Tx) : Tx := TL.joinL a xs
theorem txt_join (a : Str) (xs : List Str) : (Txt.join a xs).cps.toList = TL.joinL a.cps.toList (xs.map fun x => x.cps.toList) := by
  rw [TL.join_eq]
  exact TL.tl_join a xs
def sumLen (xs : List Tx) : Nat := (xs.map List.length).sum
theorem ev_join {m1 : Prog Tx} {m2 : Prog (L Tx)} (h1 : EV N Γ ta m1) (h2 : EV N Γ tb m2) : EV N Γ (tM1 (fun x xs H Q => ∃ a p, ∃ ys : List Str, x = .str a ∧ xs = [.ref p] ∧ (SqL G.K H p (ys.map V.str) ∨ SqT G.K H p (ys.map V.str)) ∧
      (ys.map (·.length)).sum + ys.length * a.length ≤ 16777216 ∧ Q (.str (Txt.join a ys)) H) ta tb) (m1 >>= fun a => m2 >>= fun (xs : List Tx) => chk (small (sumLen xs + xs.length * a.length)) (.ok (joinT a xs))) := fun σ F H hs Q q =>
  h1 σ F H hs _ (wp_mono (wp_bind.1 q) fun a q1 x F1 H1 hs1 e1 r1 => by
    have ea : x = .str (sx a) := Scl.dp (α := Tx) r1
    refine ⟨⟨_, ea⟩, h2 σ F1 H1 hs1 _ (wp_mono (wp_bind.1 q1) fun (xs : List Tx) q2 y F2 H2 hs2 e2 r2 => ?_)⟩
    obtain ⟨hl, q2⟩ := wp_chk q2
    obtain ⟨p, rfl, hq⟩ := dp_lst (α := Tx) (xs := xs) r2
    have em : xs.map Scl.tv = (xs.map sx).map V.str := by rw [List.map_map]; rfl
    rw [em] at hq
    have hz : ((xs.map sx).map (·.length)).sum + (xs.map sx).length * (sx a).length ≤ 16777216 := by
      have h3 : ((xs.map sx).map (·.length)) = xs.map List.length := by
        rw [List.map_map]
        exact List.map_congr_left fun s _ => by simp [sx, Str.length]
      have h4 : (sx a).length = a.length := by simp [sx, Str.length]
      rw [h3, List.length_map, h4]
      have := of_decide_eq_true hl
      unfold sumLen at this
      omega
    refine ⟨sx a, p, xs.map sx, ea, rfl, .inl (sql_same hs2.w.fh hq), hz, ?_⟩
    have ej : Txt.join (sx a) (xs.map sx) = sx (joinT a xs) := by
      have h5 := txt_join (sx a) (xs.map sx)
      have h6 : (xs.map sx).map (fun x => x.cps.toList) = xs := by rw [List.map_map]; exact List.map_id _
      rw [h6] at h5
      show Txt.join (sx a) (xs.map sx) = ⟨(TL.joinL a xs).toArray⟩
      rw [← h5]
    rw [ej]
    exact q2 _ F2 H2 hs2 (Same.trans e1 e2) (.str _))
/-! any, all, of a list of bools -/
theorem ev_all {m : Prog (L Bool)} (h : EV N Γ ta m) : EV N Γ (tCB (rAll G.K) (tCons ta tNil)) (m >>= fun (xs : List Bool) => .ok (xs.all id)) := fun σ F H hs Q q =>
  h σ F H hs _ (wp_mono (wp_bind.1 q) fun (xs : List Bool) q1 x F1 H1 hs1 e1 r1 => by
    obtain ⟨p, rfl, hq⟩ := dp_lst (α := Bool) (xs := xs) r1
    exact ⟨p, xs, rfl, sql_same hs1.w.fh hq, q1 _ F1 H1 hs1 e1 (.bl _)⟩)
theorem ev_any {m : Prog (L Bool)} (h : EV N Γ ta m) : EV N Γ (tCB (rAny G.K) (tCons ta tNil)) (m >>= fun (xs : List Bool) => .ok (xs.any id)) := fun σ F H hs Q q =>
  h σ F H hs _ (wp_mono (wp_bind.1 q) fun (xs : List Bool) q1 x F1 H1 hs1 e1 r1 => by
    obtain ⟨p, rfl, hq⟩ := dp_lst (α := Bool) (xs := xs) r1
    exact ⟨p, xs, rfl, sql_same hs1.w.fh hq, q1 _ F1 H1 hs1 e1 (.bl _)⟩)
theorem ev_sum {m : Prog (L Int)} (h : EV N Γ ta m) : EV N Γ (tCB (rSum G.K) (tCons ta tNil)) (m >>= fun (xs : List Int) => .ok xs.sum) := fun σ F H hs Q q =>
  h σ F H hs _ (wp_mono (wp_bind.1 q) fun (xs : List Int) q1 x F1 H1 hs1 e1 r1 => by
    obtain ⟨p, rfl, hq⟩ := dp_lst (α := Int) (xs := xs) r1
    exact ⟨p, xs, rfl, sql_same hs1.w.fh hq, q1 _ F1 H1 hs1 e1 (.int _)⟩)
/-! tuple(list), list(tuple), list(list) -/
theorem ev_tupleL {α : Type} [Enc α] {m : Prog (L α)} (h : EV N Γ ta m) : EV N Γ (tCB (fun xs H Q => ∃ p ys, xs = [.ref p] ∧ ((SqL G.K H p ys ∧ ∀ l, H l = none → Q (.ref l) (upd H l (.tup ys))) ∨ (SqT G.K H p ys ∧ Q (.ref p) H))) (tCons ta tNil)) (m >>= fun (xs : List α) => .ok xs) := fun σ F H hs Q q =>
  h σ F H hs _ (wp_mono (wp_bind.1 q) fun (xs : List α) q1 x F1 H1 hs1 e1 r1 => by
    have hd : Dq G.K F1 x (.list (xs.map enc)) := r1
    cases hd with
    | lst hq0 ha =>
      have hq := Rd.of hq0
      refine ⟨_, _, rfl, .inl ⟨sql_same hs1.w.fh (.inl hq), fun p hp => ?_⟩⟩
      obtain ⟨hs2, e2⟩ := hs1.laid (o := .tup _) hp
      exact q1 (.ref p) _ _ hs2 (Same.trans e1 e2) (.tup (.inl (.inl upd_same)) (dpAll_same e2 _ _ ha)))
theorem evn_listT {α : Type} [Enc α] {m : Prog (List α)} (h : EV N Γ ta m) : EVN N Γ (tCB (fun xs H Q => ∃ p ys, xs = [.ref p] ∧ (SqL G.K H p ys ∨ SqT G.K H p ys) ∧ ∀ l, H l = none → Q (.ref l) (upd H l (.lst ys))) (tCons ta tNil)) (m >>= fun xs => .ok (xs : L α)) := fun σ F H hs Q q =>
  h σ F H hs _ (wp_mono (wp_bind.1 q) fun (xs : List α) q1 x F1 H1 hs1 e1 r1 => by
    have hd : Dq G.K F1 x (.tuple (xs.map enc)) := r1
    cases hd with
    | tup hq ha =>
      refine ⟨_, _, rfl, .inr (sqt_same hs1.w.fh hq), fun p hp => ?_⟩
      obtain ⟨hs2, n⟩ := hs_newlist (vs := _) hs1 hp
      exact q1 p _ _ _ hs2 e1 n upd_same ha)
theorem evn_listL {α : Type} [Enc α] {m : Prog (L α)} (h : EV N Γ ta m) : EVN N Γ (tCB (fun xs H Q => ∃ p ys, xs = [.ref p] ∧ (SqL G.K H p ys ∨ SqT G.K H p ys) ∧ ∀ l, H l = none → Q (.ref l) (upd H l (.lst ys))) (tCons ta tNil)) (m >>= fun xs => .ok xs) := fun σ F H hs Q q =>
  h σ F H hs _ (wp_mono (wp_bind.1 q) fun (xs : List α) q1 x F1 H1 hs1 e1 r1 => by
    have hd : Dq G.K F1 x (.list (xs.map enc)) := r1
    cases hd with
    | lst hq0 ha =>
      have hq := Rd.of hq0
      refine ⟨_, _, rfl, .inl (sql_same hs1.w.fh (.inl hq)), fun p hp => ?_⟩
      obtain ⟨hs2, n⟩ := hs_newlist (vs := _) hs1 hp
      exact q1 p _ _ _ hs2 e1 n upd_same ha)
/-! list + list, tuple + tuple, list * int -/
theorem evn_catL {α : Type} [Enc α] {m1 m2 : Prog (L α)} (h1 : EV N Γ ta m1) (h2 : EV N Γ tb m2) : EVN N Γ (tOp TyL.rCatL ta tb) (m1 >>= fun (xs : List α) => m2 >>= fun (ys : List α) => chk (small (xs.length + ys.length)) (.ok (xs ++ ys : L α))) := fun σ F H hs Q q =>
  h1 σ F H hs _ (wp_mono (wp_bind.1 q) fun (xs : List α) q1 x F1 H1 hs1 e1 r1 => h2 σ F1 H1 hs1 _ (wp_mono (wp_bind.1 q1) fun (ys : List α) q2 y F2 H2 hs2 e2 r2 => by
    obtain ⟨hl, q2⟩ := wp_chk q2
    have hd1 : Dq G.K F2 x (.list (xs.map enc)) := dp_same e2 _ _ r1
    have hd2 : Dq G.K F2 y (.list (ys.map enc)) := r2
    cases hd1 with
    | lst hq0 ha =>
      have hq := Rd.of hq0
      cases hd2 with
      | lst hq2 ha2 =>
        refine ⟨_, _, _, _, rfl, rfl, rd_same hs2.w.fh hq, rd_same hs2.w.fh (Rd.of hq2), by rw [dpAll_len ha, dpAll_len ha2]; exact small_le hl, fun p hp => ?_⟩
        obtain ⟨hs3, n⟩ := hs_newlist (vs := _) hs2 hp
        exact q2 p _ _ _ hs3 (Same.trans e1 e2) n upd_same (by rw [List.map_append]; exact dpAll_append ha ha2)))
theorem opv_catT {α : Type} [Enc α] : OPV (G := G) (α := List α) (β := List α) (γ := List α) (rCatA G.K) (fun xs ys => chk (small (xs.length + ys.length)) (.ok (xs ++ ys))) := fun N Γ σ F H x y xs ys hs ra rb Q q => by
  obtain ⟨hl, q⟩ := wp_chk q
  have hd1 : Dq G.K F x (.tuple (xs.map enc)) := ra
  have hd2 : Dq G.K F y (.tuple (ys.map enc)) := rb
  cases hd1 with
  | tup hq ha =>
    cases hd2 with
    | tup hq2 ha2 =>
      have l1 := dpAll_len ha
      have l2 := dpAll_len ha2
      refine ⟨_, _, _, _, rfl, rfl, sqt_same hs.w.fh hq, sqt_same hs.w.fh hq2, by rw [l1, l2]; exact small_le hl, fun e => ?_, fun n e => ?_, fun n1 n2 p hp => ?_⟩
      · have ex : xs = [] := by
          rw [e] at l1
          exact List.eq_nil_of_length_eq_zero l1.symm
        subst ex
        exact q _ F H hs (Same.refl F) (.tup hq2 ha2)
      · have ex : ys = [] := by
          rw [e] at l2
          exact List.eq_nil_of_length_eq_zero l2.symm
        subst ex
        refine q _ F H hs (Same.refl F) ?_
        show Dq G.K F _ (.tuple ((xs ++ []).map enc))
        rw [List.append_nil]
        exact .tup hq ha
      · obtain ⟨hs2, e2⟩ := hs.laid (o := .tup _) hp
        refine q _ _ _ hs2 e2 ?_
        show Dq G.K _ _ (.tuple ((xs ++ ys).map enc))
        rw [List.map_append]
        exact .tup (.inl (.inl upd_same)) (dpAll_same e2 _ _ (dpAll_append ha ha2))
def rep {α : Type} (xs : List α) (n : Int) : List α := (List.replicate n.toNat xs).flatten
theorem dpAll_rep {K : PySem.W.Frag} {F : Hp} {α : Type} [Enc α] {xs : List α} {vs : List V} (h : DqAll K F vs (xs.map enc)) : ∀ k : Nat, DqAll K F (List.replicate k vs).flatten ((List.replicate k xs).flatten.map enc)
  | 0 => .nil
  | k + 1 => by
    rw [List.replicate_succ, List.replicate_succ, List.flatten_cons, List.flatten_cons, List.map_append]
    exact dpAll_append h (dpAll_rep h k)
/-- [a] * n, the list made there -/
theorem evn_rep {α : Type} [Enc α] {m1 : Prog (L α)} {m2 : Prog Int} (h1 : EVN N Γ ta m1) (h2 : ∀ O, EV (N.wi N.E O) Γ tb m2) : EVN N Γ (tOp rRep ta tb) (m1 >>= fun (xs : List α) => m2 >>= fun n => chk (inRange n && small (xs.length * n.toNat)) (.ok (rep xs n : L α))) := fun σ F H hs Q q =>
  h1 σ F H hs _ (wp_mono (wp_bind.1 q) fun (xs : List α) q1 p vs F1 H1 hs1 e1 n1 hp d1 => by
    have hO : HS (N.wi N.E fun a => if a = p then some (.lst vs) else N.O a) Γ σ F1 H1 := hs1.wi fun a o x => by
      by_cases ha : a = p
      · subst ha
        rw [if_pos rfl] at x
        exact ⟨⟨hp.trans x, n1.mine.f⟩, n1.mine.s⟩
      · rw [if_neg ha] at x
        exact hs1.w.os a o x
    have hON : ∀ a o, N.O a = some o → (fun a => if a = p then some (HO.lst vs) else N.O a) a = some o := fun a o x => by
      have ne : a ≠ p := fun z => by rw [z, n1.no] at x; cases x
      show (if a = p then some (HO.lst vs) else N.O a) = some o
      rw [if_neg ne]
      exact x
    refine h2 _ σ F1 H1 hO _ (wp_imp (wp_bind.1 q1) (fun n q2 y F2 H2 hs2 e2 r2 => ?_) fun e h => ep_wi hON e h)
    obtain ⟨hl, q2⟩ := wp_chk q2
    obtain ⟨ha, hb⟩ := Bool.and_eq_true_iff.1 hl
    obtain ⟨b1, b2⟩ := inRange_ok ha
    have e3 : y = .int n := Scl.dp r2
    have hp2 : H2 p = some (.lst vs) := (hs2.w.os p _ (if_pos rfl)).1.1
    have hs3 : HS N Γ σ F2 H2 := hs2.unwi fun a o x => hs2.w.os a o (hON a o x)
    refine ⟨p, n, vs, rfl, e3, hp2, by omega, by omega, by rw [dpAll_len d1]; exact small_le hb, fun l hl => ?_⟩
    obtain ⟨hs4, n4⟩ := hs_newlist (vs := (List.replicate n.toNat vs).flatten) hs3 hl
    exact q2 l _ _ _ hs4 (Same.trans e1 e2) n4 upd_same (dpAll_rep (dpAll_same e2 _ _ d1) _))
/-! (*row, x) and the like: arguments with a star -/
theorem evl_star {α : Type} [Enc α] {m1 : Prog (List α)} {tr : TA} {m2 : Prog (List α)} (h1 : EV N Γ ta m1) (h2 : EVA N Γ tr m2 (fun xs vs F => DqAll G.K F vs (xs.map enc))) :
    EVA N Γ (StX.tStar G.K ta tr) (m1 >>= fun a => m2 >>= fun b => .ok (a ++ b)) (fun xs vs F => DqAll G.K F vs (xs.map enc)) := fun σ F H hs Q q =>
  h1 σ F H hs _ (wp_mono (wp_bind.1 q) fun a q1 x F1 H1 hs1 e1 r1 => by
    have hd : Dq G.K F1 x (.tuple (a.map enc)) := r1
    cases hd with
    | tup hq ha => exact ⟨_, _, rfl, .inl (sqt_same hs1.w.fh hq), h2 σ F1 H1 hs1 _ (wp_mono (wp_bind.1 q1) fun b q2 vs F2 H2 hs2 e2 r2 => q2 _ F2 H2 hs2 (Same.trans e1 e2) (by
      show DqAll G.K F2 _ ((a ++ b).map enc)
      rw [List.map_append]
      exact dpAll_append (dpAll_same e2 _ _ ha) r2))⟩)
theorem evl_starL {α : Type} [Enc α] {m1 : Prog (L α)} {tr : TA} {m2 : Prog (List α)} (h1 : EV N Γ ta m1) (h2 : EVA N Γ tr m2 (fun xs vs F => DqAll G.K F vs (xs.map enc))) :
    EVA N Γ (StX.tStar G.K ta tr) (m1 >>= fun (a : List α) => m2 >>= fun b => .ok (a ++ b)) (fun xs vs F => DqAll G.K F vs (xs.map enc)) := fun σ F H hs Q q =>
  h1 σ F H hs _ (wp_mono (wp_bind.1 q) fun (a : List α) q1 x F1 H1 hs1 e1 r1 => by
    have hd : Dq G.K F1 x (.list (a.map enc)) := r1
    cases hd with
    | lst hq ha => exact ⟨_, _, rfl, .inr (sql_same hs1.w.fh (.inl (Rd.of hq))), h2 σ F1 H1 hs1 _ (wp_mono (wp_bind.1 q1) fun b q2 vs F2 H2 hs2 e2 r2 => q2 _ F2 H2 hs2 (Same.trans e1 e2) (by
      show DqAll G.K F2 _ ((a ++ b).map enc)
      rw [List.map_append]
      exact dpAll_append (dpAll_same e2 _ _ ha) r2))⟩)
/-! int(..), max, min, str -/
theorem ev_intI {m : Prog Int} (h : EV N Γ ta m) : EV N Γ (tCB (fun xs H Q => (∃ i, xs = [.int i] ∧ Q (.int i) H) ∨ ∃ k, xs = [.bl k] ∧ Q (.int (if k then 1 else 0)) H) (tCons ta tNil)) m := fun σ F H hs Q q =>
  h σ F H hs _ (wp_mono q fun i q1 x F1 H1 hs1 e1 r1 => .inl ⟨i, by rw [Scl.dp (α := Int) r1]; rfl, q1 _ F1 H1 hs1 e1 (.int _)⟩)
theorem ev_intB {m : Prog Bool} (h : EV N Γ ta m) : EV N Γ (tCB (fun xs H Q => (∃ i, xs = [.int i] ∧ Q (.int i) H) ∨ ∃ k, xs = [.bl k] ∧ Q (.int (if k then 1 else 0)) H) (tCons ta tNil)) (m >>= fun b => .ok (if b then (1 : Int) else 0)) := fun σ F H hs Q q =>
  h σ F H hs _ (wp_mono (wp_bind.1 q) fun b q1 x F1 H1 hs1 e1 r1 => .inr ⟨b, by rw [Scl.dp (α := Bool) r1]; rfl, q1 _ F1 H1 hs1 e1 (.int _)⟩)
theorem ev_max2 {m1 m2 : Prog Int} (h1 : EV N Γ ta m1) (h2 : EV N Γ tb m2) : EV N Γ (tCB (fun xs H Q => ∃ i j, xs = [.int i, .int j] ∧ Q (.int (if j > i then j else i)) H) (tCons ta (tCons tb tNil))) (m1 >>= fun a => m2 >>= fun b => .ok (if b > a then b else a)) := fun σ F H hs Q q =>
  h1 σ F H hs _ (wp_mono (wp_bind.1 q) fun a q1 x F1 H1 hs1 e1 r1 => h2 σ F1 H1 hs1 _ (wp_mono (wp_bind.1 q1) fun b q2 y F2 H2 hs2 e2 r2 => ⟨a, b, by rw [Scl.dp (α := Int) r1, Scl.dp (α := Int) r2]; rfl, q2 _ F2 H2 hs2 (Same.trans e1 e2) (.int _)⟩))
theorem ev_min2 {m1 m2 : Prog Int} (h1 : EV N Γ ta m1) (h2 : EV N Γ tb m2) : EV N Γ (tCB (fun xs H Q => ∃ i j, xs = [.int i, .int j] ∧ Q (.int (if j < i then j else i)) H) (tCons ta (tCons tb tNil))) (m1 >>= fun a => m2 >>= fun b => .ok (if b < a then b else a)) := fun σ F H hs Q q =>
  h1 σ F H hs _ (wp_mono (wp_bind.1 q) fun a q1 x F1 H1 hs1 e1 r1 => h2 σ F1 H1 hs1 _ (wp_mono (wp_bind.1 q1) fun b q2 y F2 H2 hs2 e2 r2 => ⟨a, b, by rw [Scl.dp (α := Int) r1, Scl.dp (α := Int) r2]; rfl, q2 _ F2 H2 hs2 (Same.trans e1 e2) (.int _)⟩))
/-! enumerate -/
def enumT {α : Type} (xs : List α) : List (Int × α) := xs.zipIdx.map fun p => ((p.2 : Int), p.1)
theorem enumT_get {α : Type} (xs : List α) (i : Nat) : (enumT xs)[i]? = (xs[i]?).map fun a => ((i : Int), a) := by
  unfold enumT
  rw [List.getElem?_map, List.getElem?_zipIdx]
  cases xs[i]? with
  | none => rfl
  | some a => simp
theorem enumT_len {α : Type} (xs : List α) : (enumT xs).length = xs.length := by simp [enumT]
theorem evi_enumT {α : Type} [Enc α] {m : Prog (List α)} (h : EV N Γ te m) : EVI (α := Int × α) N Γ (TyL.iEnumT G.K (tCons te tNil)) (m >>= fun xs => .ok (enumT xs)) anyE := fun σ F H hs R q =>
  h σ F H hs _ (wp_mono (wp_bind.1 q) fun xs k x F1 H1 hs1 e1 r1 => by
    have hd : Dq G.K F1 x (.tuple (xs.map enc)) := r1
    cases hd with
    | tup hq ha =>
      refine ⟨_, _, rfl, sqt_same hs1.w.fh hq, k F1 H1 _ hs1 e1 fun N1 Γ' _ => ⟨fun i σ F' H' hs' e' hi => ?_, fun i a σ F' H' x H2 hs' e' hx y => ?_, fun i σ F' H' hs' e' hi => ?_⟩⟩
      · rw [enumT_len] at hi
        obtain ⟨v, hv, _⟩ := dpAll_at ha (List.getElem?_eq_getElem hi)
        exact ⟨_, v, sqt_same (Same.trans e' hs'.w.fh) hq, hv⟩
      · rw [enumT_get] at hx
        cases hc : xs[i]? with
        | none => rw [hc] at hx; cases hx
        | some c =>
          rw [hc] at hx
          have hx' : ((i : Int), c) = a := Option.some.inj hx
          subst hx'
          obtain ⟨v, hv, d⟩ := dpAll_at ha hc
          obtain ⟨T, w, e1, e2, e3, y⟩ := y
          have e4 : w = v := Option.some.inj ((y _ (sqt_same (Same.trans e' hs'.w.fh) hq)).symm.trans hv)
          subst e1 e4
          have fT : F' T = none := Same.free hs'.w.fh e2
          exact .inr ⟨T, _, e2, e3, .tup (.inl (.inl upd_same)) (.cons (.int _) (.cons (dp_same (Same.trans e' (same_new fT)) _ _ d) .nil))⟩
      · rw [enumT_len] at hi
        exact ⟨_, sqt_same (Same.trans e' hs'.w.fh) hq, by rw [dpAll_len ha]; exact hi⟩)
/-! changes of owned lists -/
theorem sv_insert {α : Type} [Enc α] {i : Nat} {xs : List α} {m1 : Prog Int} {m2 : Prog α} {J : Aim ω} {k : Int → α → Prog ω} (hO : ∀ a, N.O a = none) (hi : Γ[i]? = some (.lst xs)) (h1 : EV N Γ ta m1) (h2 : EV N Γ tb m2) (hk : ∀ j a, SV N (Γ.set i (.lst (xs.take j.toNat ++ [a] ++ xs.drop j.toNat))) tz J (k j a)) :
    SV N Γ (tSeq (tDrop (tBM G.K "list" (fun x vs H Q => ∃ (l : Addr) (xs : List V) (i : Int) (y : V), x = .ref l ∧ vs = [.int i, y] ∧ H l = some (.lst xs) ∧ xs.length < sizeLine ∧ 0 ≤ i ∧ i < 2 ^ 63 ∧ Q .non (upd H l (.lst (xs.take i.toNat ++ [y] ++ xs.drop i.toNat)))) (tVar i) (tCons ta (tCons tb tNil)))) tz) J
      (m1 >>= fun j => m2 >>= fun a => chk (small xs.length && decide (0 ≤ j) && inRange j) (k j a)) := fun σ F H D hs q => by
  obtain ⟨p, vs, e0, m0, hp, d, hl⟩ := hs.lstAt hi
  refine ⟨.ref p, e0, .inl ⟨rfl, vs, .inl (.inl hp)⟩, h1 σ F H hs _ (wp_mono (wp_bind.1 q) fun j q1 w F1 H1 hs1 e1 r1 => h2 σ F1 H1 hs1 _ (wp_mono (wp_bind.1 q1) fun a q2 v F2 H2 hs2 e2 r2 => ?_))⟩
  obtain ⟨hz, q2⟩ := wp_chk q2
  obtain ⟨hz, hz3⟩ := Bool.and_eq_true_iff.1 hz
  obtain ⟨hz1, hz2⟩ := Bool.and_eq_true_iff.1 hz
  have hz2 := of_decide_eq_true hz2
  obtain ⟨b1, b2⟩ := inRange_ok hz3
  obtain ⟨p', vs', e0', m0', hp', d', _⟩ := hs2.lstAt hi
  rw [e0] at e0'
  cases e0'
  refine ⟨p, vs', j, v, rfl, by rw [Scl.dp (α := Int) r1]; rfl, hp', by rw [dpAll_len d']; exact small_lt hz1, hz2, by omega, ?_⟩
  refine hk j a σ F2 _ D (hs2.put hO hi e0 ?_) (wp_mono q2 fun o x => J.mono (Same.trans e1 e2) x)
  rw [List.map_append, List.map_append, List.map_take, List.map_drop]
  exact dpAll_append (dpAll_append (dpAll_take _ d') (.cons r2 .nil)) (dpAll_drop _ d')
theorem dpAll_erase {K : PySem.W.Frag} {F : Hp} : ∀ {ds : List PyData} {vs : List V} (n : Nat), DqAll K F vs ds → DqAll K F (vs.eraseIdx n) (ds.eraseIdx n)
  | [], _, n, h => by cases h; exact .nil
  | d :: ds, _, 0, h => by
    cases h with
    | cons h1 h2 => exact h2
  | d :: ds, _, n + 1, h => by
    cases h with
    | cons h1 h2 => exact .cons h1 (dpAll_erase n h2)
/-- xs.pop(i), its value dropped -/
theorem sv_popAtD {α : Type} [Enc α] {i : Nat} {xs : List α} {m1 : Prog Int} {J : Aim ω} {k : Int → Prog ω} (hO : ∀ a, N.O a = none) (hi : Γ[i]? = some (.lst xs)) (h1 : EV N Γ ta m1) (hk : ∀ j, SV N (Γ.set i (.lst (xs.eraseIdx j.toNat))) tz J (k j)) :
    SV N Γ (tSeq (tDrop (tBM G.K "list" rPopAt (tVar i) (tCons ta tNil))) tz) J (m1 >>= fun j => chk (decide (0 ≤ j) && decide (j < xs.length) && inRange j) (k j)) := fun σ F H D hs q => by
  obtain ⟨p, vs, e0, m0, hp, d, hl⟩ := hs.lstAt hi
  refine ⟨.ref p, e0, .inl ⟨rfl, vs, .inl (.inl hp)⟩, h1 σ F H hs _ (wp_mono (wp_bind.1 q) fun j q1 w F1 H1 hs1 e1 r1 => ?_)⟩
  obtain ⟨hz, q1⟩ := wp_chk q1
  obtain ⟨hz, hz3⟩ := Bool.and_eq_true_iff.1 hz
  obtain ⟨hz1, hz2⟩ := Bool.and_eq_true_iff.1 hz
  have hz1 := of_decide_eq_true hz1
  have hz2 := of_decide_eq_true hz2
  obtain ⟨b1, b2⟩ := inRange_ok hz3
  obtain ⟨p', vs', e0', m0', hp', d', _⟩ := hs1.lstAt hi
  rw [e0] at e0'
  cases e0'
  have hlt : j.toNat < vs'.length := by rw [dpAll_len d']; omega
  refine ⟨p, vs', j, j.toNat, vs'[j.toNat], rfl, by rw [Scl.dp (α := Int) r1]; rfl, hp', by omega, by omega, ?_, List.getElem?_eq_getElem hlt, ?_⟩
  · have hx : ixN vs'.length j = some j.toNat := by
      unfold ixN
      rw [if_pos hz1, if_pos (by omega)]
    exact (ixN_seq hx).1
  · refine hk j σ F1 _ D (hs1.put hO hi e0 ?_) (wp_mono q1 fun o x => J.mono e1 x)
    have e : ∀ (l : List α) (n : Nat), (l.eraseIdx n).map (enc : α → PyData) = (l.map enc).eraseIdx n := fun l => by
      induction l with
      | nil => intro n; rfl
      | cons a l ih =>
        intro n
        cases n with
        | zero => rfl
        | succ n => show enc a :: _ = enc a :: _; rw [ih n]
    rw [e]
    exact dpAll_erase _ d'
/-! x op= e -/
theorem sv_aug {i : Nat} {f : Int → Int → Int} {a : Int} {m : Prog Int} {J : Aim ω} {k : Int → Prog ω} (hi : Γ[i]? = some (@Ent.per G Int _ a)) (h : EV N Γ te m) (hk : ∀ b, SV N (Γ.set i (@Ent.per G Int _ (f a b))) tz J (k b)) :
    SV N Γ (tSeq (tAug i te (ipI f)) tz) J (m >>= k) := fun σ F H D hs q => by
  obtain ⟨o, e1, v, e2, r⟩ := hs.sl.get hi
  subst e2
  have ev : v = .int a := Scl.dp (α := Int) r
  subst ev
  refine ⟨_, e1, h σ F H hs _ (wp_mono (wp_bind.1 q) fun b q1 w F1 H1 hs1 e1 r1 => ⟨a, b, rfl, Scl.dp r1, ?_⟩)⟩
  exact hk b _ F1 H1 D (hs1.setPer (a := f a b) i (.int _)) (wp_mono q1 fun o x => J.mono e1 x)
/-- a name stored that is never asked again, or code that is not reached -/
theorem sv_never {J : Aim ω} {ts : TS} (e : ts = tNever) : SV N Γ ts J (.stuck : Prog ω) := fun σ F H D hs q => q.elim
end
end Ty

namespace Ty
open PySem PySem.Spec PyProof.Rows L2
open Enc (enc)
variable {G : Glob}
section
variable {α β γ δ ω : Type} [iα : Rp G α] {N : NN} {Γ Γ' : Env G} {te ta tb tc : TE} {tt tu : TT} {tz : TS}
/-! ### isinstance of data against a built-in class -/
def tyName : PyData → String
  | .none => "NoneType"
  | .bool _ => "bool"
  | .int _ => "int"
  | .str _ => "str"
  | .list _ => "list"
  | .tuple _ => "tuple"
  | .dict _ => "dict"
def isD (T : String) (d : PyData) : Bool := (L2.kitB (tyName d) T).getD false
/-- the class is one of those whose answers the kit knows -/
def Known (T : String) : Prop := ∀ n ∈ ["NoneType", "bool", "int", "str", "list", "tuple", "dict"], (L2.kitB n T).isSome = true
instance (T : String) : Decidable (Known T) := inferInstanceAs (Decidable (∀ n ∈ ["NoneType", "bool", "int", "str", "list", "tuple", "dict"], (L2.kitB n T).isSome = true))
theorem tyx_of {K : PySem.W.Frag} {H : Hp} {d : PyData} {v : V} (h : Dq K H v d) : L2.TyX K H v (.type (tyName d)) := by
  cases h with
  | non => exact .base .non
  | bl b => exact .base (.bl b)
  | int i => exact .base (.int i)
  | str x => exact .base (.str x)
  | lst hq0 ha =>
    have hq := Rd.of hq0
    rcases hq with hq | ⟨o, hq⟩
    · exact .base (.lst hq)
    · exact .base (.frz hq)
  | tup hq ha =>
    rcases hq with (hq | ⟨o, hq⟩) | ⟨o, its, n, hk, hc, _⟩
    · exact .base (.tup hq)
    · exact .fTuple hq
    · exact .kTuple hk hc
theorem isD_some {T : String} (k : Known T) (d : PyData) : L2.kitB (tyName d) T = some (isD T d) := by
  have h : (L2.kitB (tyName d) T).isSome = true := k _ (by cases d <;> simp [tyName])
  unfold isD
  cases e : L2.kitB (tyName d) T with
  | none => rw [e] at h; cases h
  | some b => rfl
theorem ev_isi {α : Type} [Enc α] {T : String} (k : Known T) {m : Prog α} (h : EV N Γ ta m) : EV N Γ (tCB (L2.rIsi G.K) (tCons ta (tCons (tC (.ty T)) tNil))) (m >>= fun a => .ok (isD T (enc a))) := fun σ F H hs Q q =>
  h σ F H hs _ (wp_mono (wp_bind.1 q) fun a q1 x F1 H1 hs1 e1 r1 => ⟨x, .ty T, _, _, isD T (enc a), rfl, .ty T, tyx_of (dp_same hs1.w.fh _ _ r1), L2.kit_ty (isD_some k _), q1 _ F1 H1 hs1 e1 (.bl _)⟩)
/-! ### code.many, code.parts -/
structure CodeFacts (G : Glob) : Prop where
  sc : SlX.SCls G.K G.code
  many : ∃ p, SlX.Slot1 G.K G.code "many" p 0
  parts : ∃ p, SlX.Slot1 G.K G.code "parts" p 1
theorem slt_same {F F' : Hp} {a C dx : Addr} {vs : List (Option V)} (e : Same F F') (h : SlX.Slt F a C dx vs) : SlX.Slt F' a C dx vs := by
  rcases h with ⟨h1, h2⟩ | ⟨h1, h2⟩
  · exact .inl ⟨e _ _ h1, h2⟩
  · exact .inr ⟨e _ _ h1, e _ _ h2⟩
theorem ev_many (cf : CodeFacts G) {m : Prog CodeV} (h : EV N Γ ta m) : EV N Γ (SlX.tSl G.K ta "many") (m >>= fun c => .ok c.many) := fun σ F H hs Q q =>
  h σ F H hs _ (wp_mono (wp_bind.1 q) fun c q1 x F1 H1 hs1 e1 r1 => by
    obtain ⟨a, dx, y, e, s, d⟩ := r1
    obtain ⟨p, sl⟩ := cf.many
    exact ⟨a, G.code, dx, p, _, 0, _, e, slt_same hs1.w.fh s, cf.sc, sl, rfl, q1 _ F1 H1 hs1 e1 (.int _)⟩)
theorem ev_parts (cf : CodeFacts G) {m : Prog CodeV} (h : EV N Γ ta m) : EV N Γ (SlX.tSl G.K ta "parts") (m >>= fun c => .ok c.parts) := fun σ F H hs Q q =>
  h σ F H hs _ (wp_mono (wp_bind.1 q) fun c q1 x F1 H1 hs1 e1 r1 => by
    obtain ⟨a, dx, y, e, s, d⟩ := r1
    obtain ⟨p, sl⟩ := cf.parts
    exact ⟨a, G.code, dx, p, _, 1, _, e, slt_same hs1.w.fh s, cf.sc, sl, rfl, q1 _ F1 H1 hs1 e1 d⟩)
end
section
variable {α β γ δ ω ρ : Type} [iα : Rp G α] {N : NN} {Γ Γ' : Env G} {te ta tb tc : TE} {tt tu : TT} {tz ts : TS}
theorem sv_retO {α : Type} [Enc α] {i : Nat} {xs : List α} (hi : Γ[i]? = some (.lst xs)) : SV N Γ (tSeq (tRet (tVar i)) tz) (JRN G N) (.ok (xs : L α)) := fun σ F H D hs q => by
  obtain ⟨p, vs, e0, m0, hp, d, hl⟩ := hs.lstAt hi
  exact ⟨.ref p, e0, q p vs F H hs.w m0 m0.h0 hp d⟩
theorem sv_retOF {α β : Type} [Enc α] {i : Nat} {xs : List α} {Jn : Aim β} (hi : Γ[i]? = some (.lst xs)) : SV N Γ (tSeq (tRet (tVar i)) tz) (JF Jn (JRN G N)) (.ok (.rt (xs : L α))) := fun σ F H D hs q => by
  obtain ⟨p, vs, e0, m0, hp, d, hl⟩ := hs.lstAt hi
  exact ⟨.ref p, e0, q p vs F H hs.w m0 m0.h0 hp d⟩
theorem sv_ifnever {J : Aim ω} {m0 : Prog Bool} {m2 : Prog ω} (h0 : TV N Γ tt m0) (h2 : SV N Γ tz J m2) : SV N Γ (tSeq (tIfS tt tNever tNext) tz) J (m0 >>= fun c => if c then .stuck else m2) := fun σ F H D hs q =>
  h0 σ F H hs _ (wp_mono (wp_bind.1 q) fun b k F' H' hs' e => by
    cases b with
    | true => exact k.elim
    | false => exact h2 σ F' H' D hs' (wp_mono k fun o x => J.mono e x))
theorem wk_n : Wk ([] : Env G) [] := trivial
theorem wk_s {e : Ent G} (h : Wk Γ Γ') : Wk (e :: Γ) (e :: Γ') := ⟨.inr rfl, h⟩
theorem wk_d {e : Ent G} (h : Wk Γ Γ') : Wk (e :: Γ) (.dead :: Γ') := ⟨.inl rfl, h⟩
theorem own_n : ∀ e ∈ ([] : Env G), e.own = false := fun e h => by cases h
theorem own_c {e : Ent G} (h : e.own = false) (k : ∀ e ∈ Γ, e.own = false) : ∀ e' ∈ e :: Γ, e'.own = false := fun e' x => by
  cases x with
  | head => exact h
  | tail _ y => exact k e' y
theorem no_own1 {i : Nat} {e : Ent G} (h : Γ[i]? = some e) (o : e.own = false) : notOwn Γ [i] := fun j hj e' h' => by
  cases hj with
  | head => rw [h] at h'; cases h'; exact o
  | tail _ y => cases y
theorem no_own2 {i j : Nat} {e e2 : Ent G} (h : Γ[i]? = some e) (o : e.own = false) (h2 : Γ[j]? = some e2) (o2 : e2.own = false) : notOwn Γ [i, j] := fun k hk e' h' => by
  cases hk with
  | head => rw [h] at h'; cases h'; exact o
  | tail _ y =>
    cases y with
    | head => rw [h2] at h'; cases h'; exact o2
    | tail _ z => cases z
theorem hO_of (F H : Hp) (E : XK) : ∀ a, (NN.of F H E).O a = none := fun _ => rfl
theorem hO_src (F H : Hp) (p c : Addr) (E : XK) : ∀ a, (NN.src F H p c E).O a = none := fun _ => rfl
end
/-! ### any value, taken as what it is -/
def asTx : PyData → Prog Tx
  | .str x => .ok x.cps.toList
  | _ => .stuck
def asInt : PyData → Prog Int
  | .int x => .ok x
  | _ => .stuck
def asTup : PyData → Prog (List PyData)
  | .tuple xs => .ok xs
  | _ => .stuck
section
variable {N : NN} {Γ : Env G} {te : TE}
theorem ev_asTx {m : Prog PyData} (h : EV N Γ te m) : EV N Γ te (m >>= asTx) := fun σ F H hs Q q =>
  h σ F H hs _ (wp_mono (wp_bind.1 q) fun d q1 x F1 H1 hs1 e1 r1 => by
    cases d with
    | str y => exact q1 x F1 H1 hs1 e1 r1
    | _ => exact q1.elim)
theorem ev_asInt {m : Prog PyData} (h : EV N Γ te m) : EV N Γ te (m >>= asInt) := fun σ F H hs Q q =>
  h σ F H hs _ (wp_mono (wp_bind.1 q) fun d q1 x F1 H1 hs1 e1 r1 => by
    cases d with
    | int y => exact q1 x F1 H1 hs1 e1 r1
    | _ => exact q1.elim)
theorem ev_asTup {m : Prog PyData} (h : EV N Γ te m) : EV N Γ te (m >>= asTup) := fun σ F H hs Q q =>
  h σ F H hs _ (wp_mono (wp_bind.1 q) fun d q1 x F1 H1 hs1 e1 r1 => by
    cases d with
    | tuple ys =>
      refine q1 x F1 H1 hs1 e1 ?_
      show Dq G.K F1 x (.tuple (ys.map enc))
      have e : ys.map (enc : PyData → PyData) = ys := List.map_id _
      rw [e]
      exact r1
    | _ => exact q1.elim)
end
/-! ### the text's defs, by name -/
structure Df (K : PySem.W.Frag) (mg : Str → Option Value) (x qual : Str) (st : Stmt) (ps : List Str) where
  f : Addr
  fd : FuncData
  Fu : Fun K x qual st f fd
  b : Binds K fd ps []
  g : mg x = some (.ref f)
end Ty

namespace Ty
open PySem PySem.Spec PyProof.Rows L2
open Enc (enc)
variable {G : Glob}
/-! ### instances that a def owns -/
section
variable {N : NN} {Γ : Env G} {σ : L2.St} {F H : Hp} {i : Nat} {C : Addr} {fs : List (Fld G)} {w : Option Addr}
theorem HS.insAt (hs : HS N Γ σ F H) (hi : Γ[i]? = some (.ins C fs w)) : ∃ p dx us, σ[i]? = some (some (.ref p)) ∧ MineI N F p ∧ H p = some (.ins C dx us) ∧ FlR F fs us ∧ (∀ q, w = some q → q = p) ∧ Held Γ σ p := by
  obtain ⟨o, e0, p, dx, us, e1, m, hp, d, hw⟩ := hs.sl.get hi
  subst e1
  exact ⟨p, dx, us, e0, m, hp, d, hw, i, _, hi, rfl, e0⟩
theorem HS.dead (hs : HS N Γ σ F H) (i : Nat) : HS N (Γ.set i .dead) σ F H := by
  have sub : ∀ {j : Nat} {e : Ent G}, (Γ.set i .dead)[j]? = some e → e = .dead ∨ (j ≠ i ∧ Γ[j]? = some e) := fun {j e} h => by
    by_cases hj : j = i
    · subst hj
      rw [List.getElem?_set] at h
      split at h
      · split at h
        · cases h; exact .inl rfl
        · cases h
      · exact absurd rfl ‹_›
    · rw [List.getElem?_set_ne (Ne.symm hj)] at h; exact .inr ⟨hj, h⟩
  refine ⟨hs.w, Slots.of (by rw [List.length_set]; exact hs.sl.len) fun j e o h1 h2 => ?_, fun j k e e' p h1 h2 o1 o2 s1 s2 => ?_⟩
  · rcases sub h1 with z | ⟨_, z⟩
    · subst z; trivial
    · obtain ⟨o', e1, s⟩ := hs.sl.get z
      rw [h2] at e1; cases e1; exact s
  · rcases sub h1 with z | ⟨_, z⟩
    · subst z; cases o1
    · rcases sub h2 with z' | ⟨_, z'⟩
      · subst z'; cases o2
      · exact hs.ds j k e e' p z z' o1 o2 s1 s2
theorem HS.notHeld {e : Ent G} {p : Addr} (hs : HS N Γ σ F H) (hi : Γ[i]? = some e) (he : e.own = true) (e0 : σ[i]? = some (some (.ref p))) : ¬ Held (Γ.set i .dead) σ p := fun ⟨j, e', h1, o1, s1⟩ => by
  by_cases hj : j = i
  · subst hj
    rw [List.getElem?_set_self (List.getElem?_eq_some_iff.1 hi).1] at h1
    cases h1; cases o1
  · rw [List.getElem?_set_ne (Ne.symm hj)] at h1
    exact hj (hs.ds j i _ _ p h1 hi o1 he s1 e0)
theorem HS.writeO {p : Addr} {u : HO} (hs : HS N Γ σ F H) (no : N.O p = none) (m : MineI N F p) (nh : ¬ Held Γ σ p) : HS N Γ σ F (upd H p u) := by
  refine hs.move ⟨fun a u e => ?_, hs.w.f0, hs.w.nw, fun a u nb e => ?_, fun a e => ?_, fun q c e => ?_, hs.w.sb, fun a u e => ?_⟩ (Same.refl F) (fun q u hl e => ?_) fun q hl => (hs.held hl).1.f
  · rw [upd_ne (ne_of_none e m.f)]; exact hs.w.fh a u e
  · have : a ≠ p := fun z => by
      subst z
      rcases m.h0 with x | x
      · rw [x] at e; cases e
      · exact nb x
    rw [upd_ne this]; exact hs.w.kp a u nb e
  · by_cases ha : a = p
    · subst ha; rw [upd_same] at e; cases e
    · rw [upd_ne ha] at e; exact hs.w.dm a e
  · have s := hs.w.sr q c e
    obtain ⟨st, ix, cs, h1, h2, r⟩ := s.at_
    have x := m.s q c e
    exact ⟨s.fp, s.fc, s.ne, st, ix, cs, by rw [upd_ne (Ne.symm x.1)]; exact h1, by rw [upd_ne (Ne.symm x.2)]; exact h2, r⟩
  · have x := hs.w.os a u e
    have ne : a ≠ p := fun z => by rw [z, no] at e; cases e
    exact ⟨⟨by rw [upd_ne ne]; exact x.1.1, x.1.2⟩, x.2⟩
  · have : q ≠ p := fun z => nh (z ▸ hl)
    rw [upd_ne this]; exact e
theorem HS.write {p : Addr} {u : HO} (hs : HS N Γ σ F H) (hO : ∀ a, N.O a = none) (m : MineI N F p) (nh : ¬ Held Γ σ p) : HS N Γ σ F (upd H p u) := hs.writeO (hO p) m nh
theorem HS.own {p : Addr} {e : Ent G} (hs : HS N Γ σ F H) (i : Nat) (nh : ¬ Held Γ σ p) (s : Sl N F H e (some (.ref p))) : HS N (Γ.set i e) (σ.set i (some (.ref p))) F H := by
  refine ⟨hs.w, hs.sl.set i s, fun j k e1 e2 q h1 h2 o1 o2 s1 s2 => ?_⟩
  have at_ : ∀ {j : Nat} {e1 : Ent G}, (Γ.set i e)[j]? = some e1 → e1.own = true → (σ.set i (some (.ref p)))[j]? = some (some (.ref q)) → (j = i ∧ q = p) ∨ (j ≠ i ∧ Γ[j]? = some e1 ∧ σ[j]? = some (some (.ref q)) ∧ q ≠ p) := fun {j e1} h o s => by
    by_cases hj : j = i
    · subst hj
      rw [List.getElem?_set] at s
      split at s
      · split at s
        · cases s; exact .inl ⟨rfl, rfl⟩
        · cases s
      · exact absurd rfl ‹_›
    · rw [List.getElem?_set_ne (Ne.symm hj)] at h s
      exact .inr ⟨hj, h, s, fun z => nh ⟨j, e1, h, o, z ▸ s⟩⟩
  rcases at_ h1 o1 s1 with ⟨a1, b1⟩ | ⟨a1, b1, c1, d1⟩
  · rcases at_ h2 o2 s2 with ⟨a2, b2⟩ | ⟨a2, b2, c2, d2⟩
    · rw [a1, a2]
    · exact absurd b1 d2
  · rcases at_ h2 o2 s2 with ⟨a2, b2⟩ | ⟨a2, b2, c2, d2⟩
    · exact absurd b2 d1
    · exact hs.ds j k e1 e2 q b1 b2 o1 o2 c1 c2
theorem set_id {p : Option V} (hp : σ[i]? = some p) : σ.set i p = σ := by
  obtain ⟨h1, h2⟩ := List.getElem?_eq_some_iff.1 hp
  apply List.ext_getElem?
  intro k
  by_cases hk : k = i
  · subst hk; rw [List.getElem?_set_self h1, hp]
  · rw [List.getElem?_set_ne (Ne.symm hk)]
theorem HS.putI {p : Addr} {fs' : List (Fld G)} {dx : Addr} {us : List (Str × V)} (hs : HS N Γ σ F H) (hO : ∀ a, N.O a = none) (hi : Γ[i]? = some (.ins C fs w)) (hp : σ[i]? = some (some (.ref p))) (d : FlR F fs' us) :
    HS N (Γ.set i (.ins C fs' w)) σ F (upd H p (.ins C dx us)) := by
  obtain ⟨p', dx', us', e0, m, h0, _, hw, hl⟩ := hs.insAt hi
  rw [hp] at e0
  cases e0
  have h1 := ((hs.dead i).write (u := .ins C dx us) hO m (hs.notHeld hi rfl hp)).own (e := .ins C fs' w) i (hs.notHeld hi rfl hp) ⟨p, dx, us, rfl, m, upd_same, d, hw⟩
  rw [List.set_set, set_id hp] at h1
  exact h1
end
theorem flR_get {F : Hp} {n : Str} : ∀ {fs : List (Fld G)} {us : List (Str × V)}, FlR F fs us → ∀ {f : Fld G}, fs.find? (fun f => n == f.n) = some f → ∃ v, us.lookup n = some v ∧ f.i.rp f.a v F
  | [], [], _, f, h => by simp at h
  | [], _ :: _, h, _, _ => h.elim
  | _ :: _, [], h, _, _ => h.elim
  | g :: fs, (k, v) :: us, h, f, hf => by
    obtain ⟨e1, r, h2⟩ := h
    have e1 : g.n = k := e1
    subst e1
    rw [List.find?_cons] at hf
    rw [List.lookup_cons]
    cases hb : (n == g.n) with
    | true =>
      rw [hb] at hf
      cases hf
      exact ⟨v, rfl, r⟩
    | false =>
      rw [hb] at hf
      exact flR_get h2 hf
theorem flR_none {F : Hp} {n : Str} : ∀ {fs : List (Fld G)} {us : List (Str × V)}, FlR F fs us → fs.find? (fun f => n == f.n) = none → us.lookup n = none
  | [], [], _, _ => rfl
  | [], _ :: _, h, _ => h.elim
  | _ :: _, [], h, _ => h.elim
  | g :: fs, (k, v) :: us, h, hf => by
    obtain ⟨e1, r, h2⟩ := h
    have e1 : g.n = k := e1
    subst e1
    rw [List.find?_cons] at hf
    rw [List.lookup_cons]
    cases hb : (n == g.n) with
    | true => rw [hb] at hf; cases hf
    | false =>
      rw [hb] at hf
      exact flR_none h2 hf
def putFl (f : Fld G) : List (Fld G) → List (Fld G)
  | [] => [f]
  | g :: r => if g.n = f.n then f :: r else g :: putFl f r
theorem flR_put {F : Hp} {f : Fld G} {v : V} (r : f.i.rp f.a v F) : ∀ {fs : List (Fld G)} {us : List (Str × V)}, FlR F fs us → FlR F (putFl f fs) (putF f.n v us)
  | [], [], _ => ⟨rfl, r, trivial⟩
  | [], _ :: _, h => h.elim
  | _ :: _, [], h => h.elim
  | g :: fs, (k, x) :: us, h => by
    obtain ⟨e1, r1, h2⟩ := h
    have e1 : g.n = k := e1
    subst e1
    unfold putFl putF
    by_cases hk : g.n = f.n
    · rw [if_pos hk, if_pos hk]; exact ⟨hk.symm, r, h2⟩
    · rw [if_neg hk, if_neg hk]; exact ⟨rfl, r1, flR_put r h2⟩
theorem flR_len {F : Hp} : ∀ {fs : List (Fld G)} {us : List (Str × V)}, FlR F fs us → us.length = fs.length
  | [], [], _ => rfl
  | [], _ :: _, h => h.elim
  | _ :: _, [], h => h.elim
  | _ :: _, _ :: _, h => congrArg (· + 1) (flR_len h.2.2)
section
variable {α β γ ω ρ τ : Type} [iα : Rp G α] [iβ : Rp G β] [iρ : Rp G ρ] {N : NN} {Γ Γ' : Env G} {te ta tb : TE} {t : TA} {tt tu : TT} {tz ts : TS}
variable {i : Nat} {C : Addr} {fs : List (Fld G)} {w : Option Addr} {n : Str}
theorem ev_fld {a : α} {n' : Str} (hi : Γ[i]? = some (.ins C fs w)) (hf : fs.find? (fun f => n == f.n) = some (Fld.mk (i := iα) n' a)) (c : Cls G.K C) (na : NoAttr G.K C n) : EV N Γ (tFld G.K (tVar i) n) (.ok a) := fun σ F H hs Q q => by
  obtain ⟨p, dx, us, e0, m, hp, d, _⟩ := hs.insAt hi
  obtain ⟨v, hv, r⟩ := flR_get d hf
  exact ⟨.ref p, e0, p, C, dx, us, v, rfl, hp, c, na, hv, q v F H hs (Same.refl F) r⟩
theorem sv_fld {m : Prog α} {J : Aim ω} {k : α → Prog ω} (hO : ∀ a, N.O a = none) (hi : Γ[i]? = some (.ins C fs w)) (c : Cls G.K C) (na : NoAttr G.K C n) (hz : fs.length < 1000) (h : EV N Γ te m)
    (hk : ∀ a, SV N (Γ.set i (.ins C (putFl (Fld.mk (i := iα) n a) fs) w)) tz J (k a)) : SV N Γ (tSeq (sFld G.K (tVar i) te n) tz) J (m >>= k) := fun σ F H D hs q =>
  h σ F H hs _ (wp_mono (wp_bind.1 q) fun a q1 v F1 H1 hs1 e1 r1 => by
    obtain ⟨p, dx, us, e0, m, hp, d, _⟩ := hs1.insAt hi
    refine ⟨.ref p, e0, p, C, dx, us, rfl, hp, c, na, by rw [flR_len d]; exact hz, ?_⟩
    exact hk a σ F1 _ D (hs1.putI hO hi e0 (flR_put (f := Fld.mk (i := iα) n a) r1 d)) (wp_mono q1 fun o x => J.mono e1 x))
theorem sv_fldaug {a : Int} {n' : Str} {m : Prog Int} {J : Aim ω} {k : Int → Prog ω} (hO : ∀ a, N.O a = none) (hi : Γ[i]? = some (.ins C fs w)) (hf : fs.find? (fun f => n == f.n) = some (Fld.mk (i := (rpEnc : Rp G Int)) n' a)) (c : Cls G.K C) (na : NoAttr G.K C n) (hz : fs.length < 1000) (h : EV N Γ te m)
    (hk : ∀ b, SV N (Γ.set i (.ins C (putFl (Fld.mk (i := (rpEnc : Rp G Int)) n (a + b)) fs) w)) tz J (k b)) : SV N Γ (tSeq (sFldAug G.K (tVar i) te rAdd n) tz) J (m >>= k) := fun σ F H D hs q => by
  obtain ⟨p, dx, us, e0, m0, hp, d, _⟩ := hs.insAt hi
  obtain ⟨v, hv, r⟩ := flR_get d hf
  refine ⟨.ref p, e0, p, C, dx, us, v, rfl, hp, c, na, hv, h σ F H hs _ (wp_mono (wp_bind.1 q) fun b q1 y F1 H1 hs1 e1 r1 => ?_)⟩
  obtain ⟨p', dx', us', e0', m', hp', d', _⟩ := hs1.insAt hi
  rw [e0] at e0'
  cases e0'
  refine ⟨a, b, Scl.dp (α := Int) r, Scl.dp (α := Int) r1, dx', us', hp', by rw [flR_len d']; exact hz, ?_⟩
  exact hk b σ F1 _ D (hs1.putI hO hi e0 (flR_put (f := Fld.mk (i := (rpEnc : Rp G Int)) n (a + b)) (Dq.int (a + b)) d')) (wp_mono q1 fun o x => J.mono e1 x)
/-! calls that change an owned instance -/
def NN.slf (F H : Hp) (p : Addr) (E : XK) : NN := ⟨F, H, fun a => a = p, none, E, fun _ => none⟩
def SpI (G : Glob) {ρ τ R0 R : Type} [Rp G ρ] (C : Addr) (fl0 : R0 → List (Fld G)) (fl : R → List (Fld G)) (ra : τ → List V → Hp → Prop) (f : R0 → τ → Prog (ρ × R)) : Sp := fun vs H Q E => ∃ a us F dx fs r x, vs = .ref a :: us ∧ F a = none ∧ H a = some (.ins C dx fs) ∧ FlR F (fl0 r) fs ∧ Same F H ∧ ra x us F ∧
  wp (f r x) (fun q => ∀ v F' H' dx' fs', W (.slf F H a E) F' H' → Rp.rp (G := G) q.1 v F' → F' a = none → H' a = some (.ins C dx' fs') → FlR F' (fl q.2) fs' → Q v H') (EP G (.slf F H a E))
/-- an expression that changes what the frame owns -/
def EVX {ξ : Type} (N : NN) (Γ : Env G) (te : TE) (m : Prog (α × ξ)) (Γx : ξ → Env G) : Prop := ∀ σ F H, HS N Γ σ F H → ∀ Q : VK, wp m (fun x => ∀ v F' H', HS N (Γx x.2) σ F' H' → Same F F' → iα.rp x.1 v F' → Q v H') (EP G N) → te σ H Q
theorem W.slf {σ : L2.St} {F H F' H' : Hp} {p : Addr} {E : XK} (hs : HS N Γ σ F H) (hO : ∀ a, N.O a = none) (m : MineI N F p) (w : W (.slf F H p E) F' H') : W N F' H' := by
  have kp : ∀ a o, a ≠ p → H a = some o → H' a = some o := fun a o n h => w.kp a o n h
  refine ⟨w.fh, Same.trans hs.w.f0 w.f0, fun a u z => ?_, fun a u nb h0 => ?_, fun a z => hs.w.dm a (w.dm a z), fun q c z => ?_, hs.w.sb, fun a u z => by rw [hO] at z; cases z⟩
  · rcases w.nw a u z with x | x
    · exact hs.w.nw a u x
    · exact .inr (hs.w.dm a x)
  · refine kp a u (fun z => ?_) (hs.w.kp a u nb h0)
    subst z
    rcases m.h0 with x | x
    · rw [x] at h0; cases h0
    · exact nb x
  · have s := hs.w.sr q c z
    obtain ⟨st, ix, cs, h1, h2, r⟩ := s.at_
    have x := m.s q c z
    have fr : ∀ q o, F q = none → H q = some o → F' q = none := fun q o f h => by
      cases z : F' q with
      | none => rfl
      | some u =>
        rcases w.nw q u z with x | x
        · rw [show F q = some u from x] at f; cases f
        · rw [show H q = none from x] at h; cases h
    exact ⟨fr q _ s.fp h1, fr c _ s.fc h2, s.ne, st, ix, cs, kp q _ (Ne.symm x.1) h1, kp c _ (Ne.symm x.2) h2, r⟩
/-- behind a call that changed the object at p -/
theorem HS.callI {σ : L2.St} {F H F' H' : Hp} {p : Addr} {u u' : HO} {E : XK} (hs : HS N Γ σ F H) (hO : ∀ a, N.O a = none) (m : MineI N F p) (hp : H p = some u) (nh : ¬ Held Γ σ p) (w : W (.slf F H p E) F' H') (fp : F' p = none) (hp' : H' p = some u') : HS N Γ σ F' H' ∧ Same F F' ∧ MineI N F' p := by
  have w2 : W (.of F H E) F' (upd H' p u) := by
    refine ⟨fun a o e => ?_, w.f0, w.nw, fun a o _ e => ?_, fun a e => ?_, fun q c e => (nomatch e), fun q c e => (nomatch e), fun a o e => (nomatch e)⟩
    · rw [upd_ne (ne_of_none e fp)]; exact w.fh a o e
    · by_cases ha : a = p
      · subst ha; rw [upd_same]; exact hp.symm.trans e
      · rw [upd_ne ha]; exact w.kp a o ha e
    · by_cases ha : a = p
      · subst ha; rw [upd_same] at e; cases e
      · rw [upd_ne ha] at e; exact w.dm a e
  obtain ⟨h1, e1⟩ := hs.call noB w2
  have h2 := h1.write (u := u') hO ⟨fp, m.h0, m.s⟩ nh
  have e2 : upd (upd H' p u) p u' = H' := by
    funext a
    by_cases ha : a = p
    · subst ha; rw [upd_same, hp']
    · rw [upd_ne ha, upd_ne ha]
  rw [e2] at h2
  exact ⟨h2, e1, fp, m.h0, m.s⟩
theorem ep_slf {σ : L2.St} {F1 H1 : Hp} {p : Addr} (hs : HS N Γ σ F1 H1) (hO : ∀ a, N.O a = none) (m : MineI N F1 p) (e : Exc) (h : EP G N e) : EP G (.slf F1 H1 p N.E) e := fun F' H' C d w r => h F' H' C d (W.slf hs hO m w) r
theorem evx_meth {R : Type} {fl : R → List (Fld G)} {ra : τ → List V → Hp → Prop} {f : R → τ → Prog (ρ × R)} {m : Prog τ} {r : R} {mn : Str} (hO : ∀ a, N.O a = none) (hi : Γ[i]? = some (.ins C (fl r) w)) (hm : (fl r).find? (fun f => mn == f.n) = none) (h : EVA N Γ t m ra) :
    EVX N Γ (tMeth C mn (SpI G C fl fl ra f) [] N.E (tVar i) t) (m >>= fun x => f r x) (fun r' => Γ.set i (.ins C (fl r') w)) := fun σ F H hs Q q => by
  obtain ⟨p, dx, us, e0, m0, hp, d, hw, _⟩ := hs.insAt hi
  refine ⟨.ref p, e0, p, dx, us, rfl, hp, flR_none d hm, h σ F H hs _ (wp_mono (wp_bind.1 q) fun x q1 vs F1 H1 hs1 e1 r1 => ?_)⟩
  obtain ⟨p', dx', us', e0', m1, hp1, d1, hw1, _⟩ := hs1.insAt hi
  rw [e0] at e0'
  cases e0'
  refine ⟨p, vs, F1, dx', us', r, x, by rw [List.append_nil], m1.f, hp1, d1, hs1.w.fh, r1, wp_imp q1 (fun r' k v F' H' dx2 us2 w2 rr fp hp2 d2 => ?_) fun e he => ep_slf hs1 hO m1 e he⟩
  obtain ⟨h2, e2, m2⟩ := (hs1.dead i).callI hO m1 hp1 (hs1.notHeld hi rfl e0) w2 fp hp2
  have h3 := h2.own (e := .ins C (fl r'.2) w) i (hs1.notHeld hi rfl e0) ⟨p, dx2, us2, rfl, m2, hp2, d2, hw⟩
  rw [List.set_set, set_id e0] at h3
  exact k v F' H' h3 (Same.trans e1 e2) rr
theorem sv_dropX {ξ : Type} {m : Prog (α × ξ)} {Γx : ξ → Env G} {J : Aim ω} {k : α × ξ → Prog ω} (h : EVX N Γ te m Γx) (hk : ∀ y, SV N (Γx y.2) tz J (k y)) : SV N Γ (tSeq (tDrop te) tz) J (m >>= k) := fun σ F H D hs q =>
  h σ F H hs _ (wp_mono (wp_bind.1 q) fun a q1 v F1 H1 hs1 e1 r1 => hk a _ F1 H1 D hs1 (wp_mono q1 fun o x => J.mono e1 x))
theorem sv_asgX {ξ : Type} {j : Nat} {m : Prog (α × ξ)} {Γx : ξ → Env G} {J : Aim ω} {k : α × ξ → Prog ω} (h : EVX N Γ te m Γx) (hk : ∀ y, SV N ((Γx y.2).set j (.per y.1)) tz J (k y)) : SV N Γ (tSeq (tAsg te (gName j)) tz) J (m >>= k) := fun σ F H D hs q =>
  h σ F H hs _ (wp_mono (wp_bind.1 q) fun a q1 v F1 H1 hs1 e1 r1 => hk a _ F1 H1 D (hs1.setPer j r1) (wp_mono q1 fun o x => J.mono e1 x))
/-! the defs of such a class -/
def JRI (G : Glob) {ρ R : Type} [Rp G ρ] (N : NN) (a C : Addr) (fl : R → List (Fld G)) : Aim (ρ × R) := ⟨fun _ r D => ∀ v F' H' dx us, W N F' H' → Rp.rp (G := G) r.1 v F' → F' a = none → H' a = some (.ins C dx us) → FlR F' (fl r.2) us → D.rt v H', fun _ h => h⟩
def JVI (G : Glob) {R : Type} (N : NN) (a C : Addr) (fl : R → List (Fld G)) : Aim (Unit × R) := ⟨fun _ r D => ∀ F' H' dx us, W N F' H' → F' a = none → H' a = some (.ins C dx us) → FlR F' (fl r.2) us → D.rt .non H' ∧ ∀ σ', D.nx σ' H', fun _ h => h⟩
theorem jri_ret {R : Type} {a C : Addr} {fl : R → List (Fld G)} : (JRI (ρ := ρ) G N a C fl).Ret := fun F r D D' e h v F' H' dx us x1 x2 x3 x4 x5 => e ▸ h v F' H' dx us x1 x2 x3 x4 x5
theorem sv_retI {R : Type} {a : Addr} {fl : R → List (Fld G)} {r : R} {m : Prog ρ} (hi : Γ[i]? = some (.ins C (fl r) (some a))) (h : EV N Γ te m) : SV N Γ (tSeq (tRet te) tz) (JRI G N a C fl) (m >>= fun x => .ok (x, r)) := fun σ F H D hs q =>
  h σ F H hs _ (wp_mono (wp_bind.1 q) fun x k v F1 H1 hs1 e1 r1 => by
    obtain ⟨p, dx, us, e0, m0, hp, d, hw, _⟩ := hs1.insAt hi
    have := hw a rfl
    subst this
    exact k v F1 H1 dx us hs1.w r1 m0.f hp d)
theorem sv_endI {R : Type} {a : Addr} {fl : R → List (Fld G)} {r : R} (hi : Γ[i]? = some (.ins C (fl r) (some a))) : SV N Γ tNext (JVI G N a C fl) (.ok ((), r)) := fun σ F H D hs q => by
  obtain ⟨p, dx, us, e0, m0, hp, d, hw, _⟩ := hs.insAt hi
  have := hw a rfl
  subst this
  exact (q F H dx us hs.w m0.f hp d).2 σ
theorem hs_startI {Γ0 : Env G} {Ns : List Str} {F H : Hp} {vs : List V} {E : XK} {p : Addr} (e : Same F H) (h : ∀ N : NN, MineI N F p → N.F0 = F → N.H0 = H → (∀ a, N.B a → a = p) → N.S = none → Slots N F H Γ0 (start Ns vs)) (fp : F p = none) (nown : ∀ (j : Nat) (e : Ent G), Γ0[j]? = some e → e.own = true → j = 0) : HS (.slf F H p E) Γ0 (start Ns vs) F H :=
  ⟨⟨e, Same.refl F, fun a o h => .inl h, fun a o _ h => h, fun a h => h, fun p c h => (nomatch h), fun p c h => (nomatch h), fun a o h => (nomatch h)⟩, h _ ⟨fp, .inr rfl, fun q c h => (nomatch h)⟩ rfl rfl (fun _ h => h) rfl, fun i j e e' p h1 h2 o1 o2 _ _ => by rw [nown i e h1 o1, nown j e' h2 o2]⟩
end
section
variable {P : Program} {w : World} {mg : Str → Option Value} {base : Heap} {ρ τ : Type} [iρ : Rp G ρ]
theorem fn_okI {R0 R : Type} {fl0 : R0 → List (Fld G)} {fl : R → List (Fld G)} {C : Addr} {x qual : Str} {st : Stmt} {f : Addr} {fd : FuncData} {Ns ps : List Str} {k : Nat} {ra : τ → List V → Hp → Prop} {g : R0 → τ → Prog (ρ × R)} (Fu : Fun G.K x qual st f fd) (S : FnScope Ns ps (defScope st)) (Γ0 : R0 → τ → Addr → Env G)
    (len : ∀ a vs F, ra a vs F → vs.length + 1 = ps.length) (h0 : ∀ r (a : τ) vs F H (N : NN) p dx us, MineI N F p → H p = some (.ins C dx us) → FlR F (fl0 r) us → ra a vs F → Slots N F H (Γ0 r a p) (start Ns (.ref p :: vs))) (nown : ∀ r (x : τ) p (j : Nat) e, (Γ0 r x p)[j]? = some e → e.own = true → j = 0)
    (hbody : ∀ (cdv : Value) (A : Around) (outer : List PySem.Env) (s : Shared) (H F : Hp) (p : Addr) (E : XK), Room k (A.deeper (envOfC qual (defScope st) s.heap.objs.size f cdv)) →
      ∃ t, PSs (cxOf (L2.CX P w) P w G.K mg base Ns qual (defScope st) f cdv A outer s H E) (defBody st) t ∧ ∀ r (a : τ), SV (.slf F H p E) (Γ0 r a p) t (JRI G (.slf F H p E) p C fl) (g r a)) : FnOk P w G.K mg base (L2.CX P w) (k + 1) f fd ps (SpI G C fl0 fl ra g) :=
  Fu.okX S (fun vs H Q E ⟨p, us, F, dx, fs, r, a, e1, _, _, _, _, h, _⟩ => by rw [e1]; exact len a us F h) fun cdv A outer s H vs Q E hr ⟨p, us, F, dx, fs, r, a, e1, fp, hp, d, e, h, q⟩ => by
    subst e1
    obtain ⟨t, hP, hv⟩ := hbody cdv A outer s H F p E hr
    exact ⟨t, hP, hv r a _ F H _ (hs_startI e (fun N m _ _ _ _ => h0 r a us F H N p dx fs m hp d h) fp (nown r a p)) (wp_mono q fun r k v F' H' dx' us' w1 w2 w3 w4 w5 => k v F' H' dx' us' w1 w2 w3 w4 w5)⟩
theorem fn_okIV {R0 R : Type} {fl0 : R0 → List (Fld G)} {fl : R → List (Fld G)} {C : Addr} {x qual : Str} {st : Stmt} {f : Addr} {fd : FuncData} {Ns ps : List Str} {k : Nat} {ra : τ → List V → Hp → Prop} {g : R0 → τ → Prog (Unit × R)} (Fu : Fun G.K x qual st f fd) (S : FnScope Ns ps (defScope st)) (Γ0 : R0 → τ → Addr → Env G)
    (len : ∀ a vs F, ra a vs F → vs.length + 1 = ps.length) (h0 : ∀ r (a : τ) vs F H (N : NN) p dx us, MineI N F p → H p = some (.ins C dx us) → FlR F (fl0 r) us → ra a vs F → Slots N F H (Γ0 r a p) (start Ns (.ref p :: vs))) (nown : ∀ r (x : τ) p (j : Nat) e, (Γ0 r x p)[j]? = some e → e.own = true → j = 0)
    (hbody : ∀ (cdv : Value) (A : Around) (outer : List PySem.Env) (s : Shared) (H F : Hp) (p : Addr) (E : XK), Room k (A.deeper (envOfC qual (defScope st) s.heap.objs.size f cdv)) →
      ∃ t, PSs (cxOf (L2.CX P w) P w G.K mg base Ns qual (defScope st) f cdv A outer s H E) (defBody st) t ∧ ∀ r (a : τ), SV (.slf F H p E) (Γ0 r a p) t (JVI G (.slf F H p E) p C fl) (g r a)) : FnOk P w G.K mg base (L2.CX P w) (k + 1) f fd ps (SpI G C fl0 fl ra g) :=
  Fu.okX S (fun vs H Q E ⟨p, us, F, dx, fs, r, a, e1, _, _, _, _, h, _⟩ => by rw [e1]; exact len a us F h) fun cdv A outer s H vs Q E hr ⟨p, us, F, dx, fs, r, a, e1, fp, hp, d, e, h, q⟩ => by
    subst e1
    obtain ⟨t, hP, hv⟩ := hbody cdv A outer s H F p E hr
    exact ⟨t, hP, hv r a _ F H _ (hs_startI e (fun N m _ _ _ _ => h0 r a us F H N p dx fs m hp d h) fp (nown r a p)) (wp_mono q fun r k F' H' dx' us' w1 w3 w4 w5 => ⟨k .non F' H' dx' us' w1 .non w3 w4 w5, fun _ => k .non F' H' dx' us' w1 .non w3 w4 w5⟩)⟩
end
/-! a new instance -/
section
variable {ω τ : Type} {N : NN} {Γ : Env G} {t : TA} {tz : TS}
theorem hs_newO {σ : L2.St} {F H : Hp} (hs : HS N Γ σ F H) {p : Addr} {u : HO} (hp : H p = none) : HS N Γ σ F (upd H p u) ∧ NewAt N Γ σ F p := by
  obtain ⟨_, n⟩ := hs_newlist (vs := []) hs hp
  refine ⟨hs.move ⟨fun a u e => ?_, hs.w.f0, hs.w.nw, fun a u nb e => ?_, fun a e => ?_, fun q c e => ?_, hs.w.sb, fun a u e => ?_⟩ (Same.refl F) (fun q ws hl e => ?_) fun q hl => (hs.held hl).1.f, n⟩
  · rw [upd_ne (ne_of_none e n.mine.f)]; exact hs.w.fh a u e
  · have x := hs.w.kp a u nb e
    rw [upd_ne (ne_of_none x hp)]; exact x
  · by_cases ha : a = p
    · subst ha; rw [upd_same] at e; cases e
    · rw [upd_ne ha] at e; exact hs.w.dm a e
  · have s := hs.w.sr q c e
    obtain ⟨st, ix, cs, h1, h2, r⟩ := s.at_
    exact ⟨s.fp, s.fc, s.ne, st, ix, cs, by rw [upd_ne (ne_of_none h1 hp)]; exact h1, by rw [upd_ne (ne_of_none h2 hp)]; exact h2, r⟩
  · have x := hs.w.os a u e
    exact ⟨⟨by rw [upd_ne (ne_of_none x.1.1 hp)]; exact x.1.1, x.1.2⟩, x.2⟩
  · rw [upd_ne (ne_of_none e hp)]; exact e
theorem sv_make {R : Type} {fl : R → List (Fld G)} {C : Addr} {ra : τ → List V → Hp → Prop} {f : Unit → τ → Prog (Unit × R)} {m : Prog τ} {j : Nat} {J : Aim ω} {k : Unit × R → Prog ω} (hO : ∀ a, N.O a = none) (h : EVA N Γ t m ra) (hk : ∀ r, SV N (Γ.set j (.ins C (fl r.2) none)) tz J (k r)) :
    SV N Γ (tSeq (tAsg (tMake C (SpI G C (fun _ : Unit => []) fl ra f) [] N.E t) (gName j)) tz) J (m >>= fun x => f () x >>= k) := fun σ F H D hs q =>
  h σ F H hs _ (wp_mono (wp_bind.1 q) fun x q1 vs F1 H1 hs1 e1 r1 => fun p dx hp hdx ne => by
    have hs2 := (hs_newO (u := .own p) hs1 hdx).1
    obtain ⟨hs3, n3⟩ := hs_newO (u := .ins C dx []) hs2 (p := p) (by rw [upd_ne (Ne.symm ne)]; exact hp)
    refine ⟨p, vs, F1, dx, [], (), x, by rw [List.append_nil], n3.mine.f, upd_same, trivial, hs3.w.fh, r1, wp_imp (wp_bind.1 q1) (fun r k2 v F' H' dx2 us2 w2 rr fp hp2 d2 => ?_) fun e he => ep_slf hs3 hO n3.mine.weak e he⟩
    obtain ⟨h2, e2, m2⟩ := hs3.callI hO n3.mine.weak upd_same n3.nh w2 fp hp2
    refine ⟨?_, ?_⟩
    · have rr' : Dq G.K F' v .none := rr
      cases rr'
      rfl
    · exact hk r _ F' H' D (h2.own (e := .ins C (fl r.2) none) j n3.nh ⟨p, dx2, us2, rfl, m2, hp2, d2, fun q z => by cases z⟩) (wp_mono k2 fun o x => J.mono (Same.trans e1 e2) x))
end
end Ty

namespace Ty
open PySem PySem.Spec PyProof.Rows L2
open Enc (enc)
variable {G : Glob}
section
variable {α β γ ω ρ τ : Type} [iα : Rp G α] [iβ : Rp G β] [iρ : Rp G ρ] {N : NN} {Γ Γ' : Env G} {te ta tb : TE} {t : TA} {tt tu : TT} {tz ts : TS}
variable {i l : Nat} {C : Addr} {fs : List (Fld G)} {w : Option Addr} {n : Str}
/-! texts and ints -/
def intS (s : Tx) : Prog Int := match PySem.intText? (sx s) with
  | some n => if s.length ≤ 640 then .ok n else .stuck
  | none => .stuck
theorem intS_wp {s : Tx} {P : Int → Prop} {E : Exc → Prop} (h : wp (intS s) P E) : ∃ n, PySem.intText? (sx s) = some n ∧ (sx s).length ≤ 640 ∧ P n := by
  unfold intS at h
  split at h
  · rename_i n hn
    split at h
    · exact ⟨n, hn, by simpa [Str.length, sx] using ‹s.length ≤ 640›, h⟩
    · exact h.elim
  · exact h.elim
theorem evx_intS {ξ : Type} {m : Prog (Tx × ξ)} {Γx : ξ → Env G} (h : EVX N Γ te m Γx) : EVX N Γ (tCB (fun xs H Q => ∃ a n, xs = [.str a] ∧ PySem.intText? a = some n ∧ a.length ≤ 640 ∧ Q (.int n) H) (tCons te tNil)) (m >>= fun x => intS x.1 >>= fun n => .ok (n, x.2)) Γx := fun σ F H hs Q q =>
  h σ F H hs _ (wp_mono (wp_bind.1 q) fun x q1 v F1 H1 hs1 e1 r1 => by
    obtain ⟨n, h1, h2, q2⟩ := intS_wp (wp_bind.1 q1)
    exact ⟨sx x.1, n, by rw [Scl.dp (α := Tx) r1]; rfl, h1, h2, q2 _ F1 H1 hs1 e1 (Dq.int n)⟩)
theorem ev_intS {m : Prog Tx} (h : EV N Γ te m) : EV N Γ (tCB (fun xs H Q => ∃ a n, xs = [.str a] ∧ PySem.intText? a = some n ∧ a.length ≤ 640 ∧ Q (.int n) H) (tCons te tNil)) (m >>= intS) := fun σ F H hs Q q =>
  h σ F H hs _ (wp_mono (wp_bind.1 q) fun x q1 v F1 H1 hs1 e1 r1 => by
    obtain ⟨n, h1, h2, q2⟩ := intS_wp q1
    exact ⟨sx x, n, by rw [Scl.dp (α := Tx) r1]; rfl, h1, h2, q2 _ F1 H1 hs1 e1 (Dq.int n)⟩)
def strI (i : Int) : Prog Tx := if i.natAbs.log2 < 1920 then .ok ((toString i : Str).cps.toList) else .stuck
theorem strI_wp {i : Int} {P : Tx → Prop} {E : Exc → Prop} (h : wp (strI i) P E) : i.natAbs.log2 < 1920 ∧ P ((toString i : Str).cps.toList) := by
  unfold strI at h
  split at h
  · exact ⟨‹_›, h⟩
  · exact h.elim
theorem ev_strI {m : Prog Int} (h : EV N Γ te m) : EV N Γ (tCB (fun xs H Q => ∃ i, xs = [.int i] ∧ i.natAbs.log2 < 1920 ∧ Q (.str (toString i)) H) (tCons te tNil)) (m >>= strI) := fun σ F H hs Q q =>
  h σ F H hs _ (wp_mono (wp_bind.1 q) fun x q1 v F1 H1 hs1 e1 r1 => by
    obtain ⟨h1, q2⟩ := strI_wp q1
    exact ⟨x, by rw [Scl.dp (α := Int) r1]; rfl, h1, q2 _ F1 H1 hs1 e1 (.str _)⟩)
theorem ev_fmtI {m : Prog Int} (h : EV N Γ te m) : EV N Γ (tFmt te) (m >>= strI) := fun σ F H hs Q q =>
  h σ F H hs _ (wp_mono (wp_bind.1 q) fun x q1 v F1 H1 hs1 e1 r1 => by
    obtain ⟨h1, q2⟩ := strI_wp q1
    exact .inr ⟨x, Scl.dp (α := Int) r1, h1, q2 _ F1 H1 hs1 e1 (.str _)⟩)
theorem sx_app (a b : Tx) : (sx a ++ sx b : Str) = sx (a ++ b) := by
  show (⟨a.toArray ++ b.toArray⟩ : Str) = _
  simp [sx]
theorem ev_fstr2 {m1 m2 : Prog Tx} (h1 : EV N Γ ta m1) (h2 : EV N Γ tb m2) : EV N Γ (fun σ H Q => tJs [ta, tb] Str.empty σ H fun out H1 => Q (.str out) H1) (m1 >>= fun a => chk (small a.length) (m2 >>= fun b => chk (small (a.length + b.length)) (.ok (a ++ b)))) := fun σ F H hs Q q =>
  h1 σ F H hs _ (wp_mono (wp_bind.1 q) fun a q1 v F1 H1 hs1 e1 r1 => by
    obtain ⟨ha, q1⟩ := wp_chk q1
    refine ⟨sx a, Scl.dp (α := Tx) r1, ?_, h2 σ F1 H1 hs1 _ (wp_mono (wp_bind.1 q1) fun b q2 u F2 H2 hs2 e2 r2 => ?_)⟩
    · have : (Str.empty ++ sx a : Str) = sx ([] ++ a) := sx_app [] a
      rw [this]
      have h3 : (sx ([] ++ a)).length = a.length := by simp [Str.length, sx]
      rw [h3]; exact small_le ha
    · obtain ⟨hl, q2⟩ := wp_chk q2
      have e0 : (Str.empty ++ sx a : Str) = sx a := sx_app [] a
      refine ⟨sx b, Scl.dp (α := Tx) r2, ?_, ?_⟩
      · rw [e0, sx_app]
        have h3 : (sx (a ++ b)).length = a.length + b.length := by simp [Str.length, sx]
        rw [h3]; exact small_le hl
      · show Q (.str (Str.empty ++ sx a ++ sx b)) H2
        rw [e0, sx_app]
        exact q2 _ F2 H2 hs2 (Same.trans e1 e2) (.str _))
/-! split -/
theorem sx_cps (x : Str) : sx x.cps.toList = x := by
  cases x; simp [sx]
theorem dq_strs {K : PySem.W.Frag} {F : Hp} : ∀ ys : List Str, DqAll K F (ys.map V.str) ((ys.map fun x => x.cps.toList).map (enc : Tx → PyData))
  | [] => .nil
  | y :: ys => .cons (by
      have e : (enc (y.cps.toList) : PyData) = .str y := congrArg PyData.str (sx_cps y)
      show Dq K F (.str y) (enc (y.cps.toList))
      rw [e]
      exact .str y) (dq_strs ys)
def splitT (s b : Tx) : List Tx := (Txt.split (sx s) (sx b)).map fun x => x.cps.toList
theorem evn_split {m1 m2 : Prog Tx} (h1 : EV N Γ ta m1) (h2 : EV N Γ tb m2) : EVN N Γ (tM1 (fun x xs H Q => ∃ a b, x = .str a ∧ xs = [.str b] ∧ (b.length == 0) = false ∧ a.length + 2 ≤ sizeLine ∧ rNewStrs (Txt.split a b) H Q) ta tb)
    (m1 >>= fun a => m2 >>= fun b => chk (small (a.length + 2) && !b.isEmpty) (.ok (splitT a b : L Tx))) := fun σ F H hs Q q =>
  h1 σ F H hs _ (wp_mono (wp_bind.1 q) fun a q1 v F1 H1 hs1 e1 r1 => by
    have ea : v = .str (sx a) := Scl.dp (α := Tx) r1
    refine ⟨⟨_, ea⟩, h2 σ F1 H1 hs1 _ (wp_mono (wp_bind.1 q1) fun b q2 u F2 H2 hs2 e2 r2 => ?_)⟩
    obtain ⟨hl, q2⟩ := wp_chk q2
    obtain ⟨hl1, hl2⟩ := Bool.and_eq_true_iff.1 hl
    have eb : u = .str (sx b) := Scl.dp (α := Tx) r2
    refine ⟨sx a, sx b, ea, by rw [eb], ?_, ?_, fun p hp => ?_⟩
    · cases b with
      | nil => simp at hl2
      | cons c b => simp [Str.length, sx]
    · have := small_le hl1
      simpa [Str.length, sx] using this
    · obtain ⟨hs3, n⟩ := hs_newlist (vs := (Txt.split (sx a) (sx b)).map V.str) hs2 hp
      exact q2 p _ _ _ hs3 (Same.trans e1 e2) n upd_same (dq_strs _))
/-! enumerate(list) -/
theorem evi_enumL {α : Type} [Enc α] {m : Prog (L α)} (h : EV N Γ te m) : EVI (α := Int × α) N Γ (iEnum G.K (tCons te tNil)) (m >>= fun xs => .ok (enumT (un xs))) anyE := fun σ F H hs R q =>
  h σ F H hs _ (wp_mono (wp_bind.1 q) fun (xs : List α) k x F1 H1 hs1 e1 r1 => by
    have hd : Dq G.K F1 x (.list (xs.map enc)) := r1
    cases hd with
    | lst hq0 ha =>
      have hq := Rd.of hq0
      refine ⟨_, _, rfl, sql_same hs1.w.fh (.inl hq), k F1 H1 _ hs1 e1 fun N1 Γ' _ => ⟨fun i σ F' H' hs' e' hi => ?_, fun i a σ F' H' x H2 hs' e' hx y => ?_, fun i σ F' H' hs' e' hi => ?_⟩⟩
      · rw [enumT_len] at hi
        obtain ⟨v, hv, _⟩ := dpAll_at ha (List.getElem?_eq_getElem hi)
        exact ⟨_, v, sql_same (Same.trans e' hs'.w.fh) (.inl hq), hv⟩
      · rw [enumT_get] at hx
        cases hc : (un xs)[i]? with
        | none => rw [hc] at hx; cases hx
        | some c =>
          rw [hc] at hx
          have hx' : ((i : Int), c) = a := Option.some.inj hx
          subst hx'
          obtain ⟨v, hv, d⟩ := dpAll_at ha hc
          obtain ⟨T, w, e1, e2, e3, y⟩ := y
          have e4 : w = v := Option.some.inj ((y _ (sql_same (Same.trans e' hs'.w.fh) (.inl hq))).symm.trans hv)
          subst e1 e4
          have fT : F' T = none := Same.free hs'.w.fh e2
          exact .inr ⟨T, _, e2, e3, .tup (.inl (.inl upd_same)) (.cons (.int _) (.cons (dp_same (Same.trans e' (same_new fT)) _ _ d) .nil))⟩
      · rw [enumT_len] at hi
        exact ⟨_, sql_same (Same.trans e' hs'.w.fh) (.inl hq), by rw [dpAll_len ha]; exact hi⟩)
/-! an append of what a changing call yields -/
theorem sv_appendX {α ξ : Type} [Enc α] {i : Nat} {xs : List α} {m : Prog (α × ξ)} {Γx : ξ → Env G} {J : Aim ω} {k : α × ξ → Prog ω} (hO : ∀ a, N.O a = none) (hi : Γ[i]? = some (.lst xs)) (hx : ∀ x, (Γx x)[i]? = some (.lst xs)) (h : EVX N Γ te m Γx)
    (hk : ∀ y, SV N ((Γx y.2).set i (.lst (xs ++ [y.1]))) tz J (k y)) :
    SV N Γ (tSeq (tDrop (tBM G.K "list" rAppend (tVar i) (tCons te tNil))) tz) J (m >>= fun x => chk (small xs.length) (k x)) := fun σ F H D hs q => by
  obtain ⟨p, vs, e0, m0, hp, d, hl⟩ := hs.lstAt hi
  refine ⟨.ref p, e0, .inl ⟨rfl, vs, .inl (.inl hp)⟩, h σ F H hs _ (wp_mono (wp_bind.1 q) fun a q1 v F1 H1 hs1 e1 r1 => ?_)⟩
  obtain ⟨hz, q1⟩ := wp_chk q1
  obtain ⟨p', vs', e0', m0', hp', d', _⟩ := hs1.lstAt (hx a.2)
  rw [e0] at e0'
  cases e0'
  refine ⟨p, vs', v, rfl, rfl, hp', by rw [dpAll_len d']; exact small_lt hz, ?_⟩
  exact hk a σ F1 _ D (hs1.put hO (hx a.2) e0 (by rw [List.map_append]; exact dpAll_append d' (.cons r1 .nil))) (wp_mono q1 fun o x => J.mono e1 x)
/-! a list of the caller, only read -/
theorem HS.borAt {β : Type} [Enc β] {σ : L2.St} {F H : Hp} {xs : List β} (hs : HS N Γ σ F H) (hi : Γ[i]? = some (.bor xs)) : ∃ q vs, σ[i]? = some (some (.ref q)) ∧ H q = some (.lst vs) ∧ DqAll G.K F vs (xs.map enc) := by
  obtain ⟨o, e0, q, vs, e1, h1, h2, h3, h4, d⟩ := hs.sl.get hi
  subst e1
  exact ⟨q, vs, e0, hs.w.kp q _ h3 h2, d⟩
theorem ev_inB {β : Type} [Enc β] [Scl β] [DecidableEq β] {xs : List β} {m : Prog β} (hi : Γ[i]? = some (.bor xs)) (h : EV N Γ te m) : EV N Γ (tOp (rIn G.K false) te (tVar i)) (m >>= fun a => .ok (memB a xs)) := fun σ F H hs Q q =>
  h σ F H hs _ (wp_mono (wp_bind.1 q) fun a q1 v F1 H1 hs1 e1 r1 => by
    obtain ⟨p, vs, e0, hp, d⟩ := hs1.borAt hi
    have e2 : v = Scl.tv a := Scl.dp r1
    have e3 := dpAll_scl d
    subst e2 e3
    exact ⟨.ref p, e0, p, _, rfl, .inl (.inl (.inl hp)), Scl.fl a, all_flat xs, Eq.mpr (congrArg (fun b => Q (.bl b) H1) (inV_scl a xs)) (q1 _ F1 H1 hs1 e1 (.bl _))⟩)
def SpIB (G : Glob) {ρ R β : Type} (α : Type) [Rp G ρ] [Rp G α] [Enc β] (C : Addr) (fl : R → List (Fld G)) (f : R → α → List β → Prog (ρ × R)) : Sp := fun vs H Q E => ∃ a v q ws F dx fs r x xs, vs = [.ref a, v, .ref q] ∧ F a = none ∧ H a = some (.ins C dx fs) ∧ FlR F (fl r) fs ∧ Same F H ∧ Rp.rp (G := G) x v F ∧
  F q = none ∧ H q = some (.lst ws) ∧ q ≠ a ∧ DqAll G.K F ws (xs.map enc) ∧
  wp (f r x xs) (fun q => ∀ v F' H' dx' fs', W (.slf F H a E) F' H' → Rp.rp (G := G) q.1 v F' → F' a = none → H' a = some (.ins C dx' fs') → FlR F' (fl q.2) fs' → Q v H') (EP G (.slf F H a E))
theorem evx_methB {R β : Type} [Enc β] {fl : R → List (Fld G)} {f : R → α → List β → Prog (ρ × R)} {m : Prog α} {r : R} {mn : Str} {xs : List β} (hO : ∀ a, N.O a = none) (hi : Γ[i]? = some (.ins C (fl r) w)) (hl : Γ[l]? = some (.lst xs)) (hm : (fl r).find? (fun f => mn == f.n) = none) (h : EV N Γ te m) :
    EVX N Γ (tMeth C mn (SpIB G α C fl f) [] N.E (tVar i) (tCons te (tCons (tVar l) tNil))) (m >>= fun x => f r x xs) (fun r' => Γ.set i (.ins C (fl r') w)) := fun σ F H hs Q q => by
  obtain ⟨p, dx, us, e0, m0, hp, d, hw, _⟩ := hs.insAt hi
  refine ⟨.ref p, e0, p, dx, us, rfl, hp, flR_none d hm, h σ F H hs _ (wp_mono (wp_bind.1 q) fun x q1 v F1 H1 hs1 e1 r1 => ?_)⟩
  obtain ⟨p', dx', us', e0', m1, hp1, d1, hw1, _⟩ := hs1.insAt hi
  rw [e0] at e0'
  cases e0'
  obtain ⟨b, ws, eb, mb, hb, db, _⟩ := hs1.lstAt hl
  have ne : b ≠ p := fun z => by
    subst z
    have := hs1.ds l i _ _ b hl hi rfl rfl eb e0
    subst this
    rw [hi] at hl
    cases hl
  refine ⟨.ref b, eb, p, v, b, ws, F1, dx', us', r, x, xs, rfl, m1.f, hp1, d1, hs1.w.fh, r1, mb.f, hb, ne, db, wp_imp q1 (fun r' k v F' H' dx2 us2 w2 rr fp hp2 d2 => ?_) fun e he => ep_slf hs1 hO m1 e he⟩
  obtain ⟨h2, e2, m2⟩ := (hs1.dead i).callI hO m1 hp1 (hs1.notHeld hi rfl e0) w2 fp hp2
  have h3 := h2.own (e := .ins C (fl r'.2) w) i (hs1.notHeld hi rfl e0) ⟨p, dx2, us2, rfl, m2, hp2, d2, hw⟩
  rw [List.set_set, set_id e0] at h3
  exact k v F' H' h3 (Same.trans e1 e2) rr
end
section
variable {P : Program} {w : World} {mg : Str → Option Value} {base : Heap} {ρ α β : Type} [iρ : Rp G ρ] [iα : Rp G α] [iβ : Enc β]
theorem fn_okIB {R : Type} {fl : R → List (Fld G)} {C : Addr} {x qual : Str} {st : Stmt} {f : Addr} {fd : FuncData} {Ns ps : List Str} {k : Nat} {g : R → α → List β → Prog (ρ × R)} (Fu : Fun G.K x qual st f fd) (S : FnScope Ns ps (defScope st)) (Γ0 : R → α → List β → Addr → Env G)
    (len : ps.length = 3) (h0 : ∀ r (a : α) (xs : List β) v F H (N : NN) p q ws dx us, MineI N F p → H p = some (.ins C dx us) → FlR F (fl r) us → Rp.rp (G := G) a v F → N.F0 q = none → N.H0 q = some (.lst ws) → ¬ N.B q → N.S = none → DqAll G.K F ws (xs.map enc) → Slots N F H (Γ0 r a xs p) (start Ns [.ref p, v, .ref q])) (nown : ∀ r (x : α) (xs : List β) p (j : Nat) e, (Γ0 r x xs p)[j]? = some e → e.own = true → j = 0)
    (hbody : ∀ (cdv : Value) (A : Around) (outer : List PySem.Env) (s : Shared) (H F : Hp) (p : Addr) (E : XK), Room k (A.deeper (envOfC qual (defScope st) s.heap.objs.size f cdv)) →
      ∃ t, PSs (cxOf (L2.CX P w) P w G.K mg base Ns qual (defScope st) f cdv A outer s H E) (defBody st) t ∧ ∀ r (a : α) (xs : List β), SV (.slf F H p E) (Γ0 r a xs p) t (JRI G (.slf F H p E) p C fl) (g r a xs)) : FnOk P w G.K mg base (L2.CX P w) (k + 1) f fd ps (SpIB G α C fl g) :=
  Fu.okX S (fun vs H Q E ⟨p, v, q, ws, F, dx, fs, r, a, xs, e1, _⟩ => by rw [e1, len]; rfl) fun cdv A outer s H vs Q E hr ⟨p, v, b, ws, F, dx, fs, r, a, xs, e1, fp, hp, d, e, h, fb, hb, ne, db, q⟩ => by
    subst e1
    obtain ⟨t, hP, hv⟩ := hbody cdv A outer s H F p E hr
    exact ⟨t, hP, hv r a xs _ F H _ (hs_startI e (fun N m e1 e2 e3 e4 => h0 r a xs v F H N p b ws dx fs m hp d h (by rw [e1]; exact fb) (by rw [e2]; exact hb) (fun z => ne (e3 b z)) e4 db) fp (nown r a xs p)) (wp_mono q fun r k v F' H' dx' us' w1 w2 w3 w4 w5 => k v F' H' dx' us' w1 w2 w3 w4 w5)⟩
end
abbrev SpI0 (G : Glob) {ρ R : Type} [Rp G ρ] (C : Addr) (fl : R → List (Fld G)) (f : R → Prog (ρ × R)) : Sp := SpI G C fl fl ra0 (fun r _ => f r)
abbrev SpI1 (G : Glob) {ρ R : Type} (α : Type) [Rp G ρ] [Rp G α] (C : Addr) (fl : R → List (Fld G)) (f : R → α → Prog (ρ × R)) : Sp := SpI G C fl fl (raC (G := G) α ra0) (fun r p => f r p.1)
abbrev SpI2 (G : Glob) {ρ R : Type} (α β : Type) [Rp G ρ] [Rp G α] [Rp G β] (C : Addr) (fl : R → List (Fld G)) (f : R → α → β → Prog (ρ × R)) : Sp := SpI G C fl fl (raC (G := G) α (raC (G := G) β ra0)) (fun r p => f r p.1 p.2.1)
abbrev SpM1 (G : Glob) {R : Type} (α : Type) [Rp G α] (C : Addr) (fl : R → List (Fld G)) (f : α → Prog (Unit × R)) : Sp := SpI G C (fun _ : Unit => []) fl (raC (G := G) α ra0) (fun _ p => f p.1)
abbrev SpM2 (G : Glob) {R : Type} (α β : Type) [Rp G α] [Rp G β] (C : Addr) (fl : R → List (Fld G)) (f : α → β → Prog (Unit × R)) : Sp := SpI G C (fun _ : Unit => []) fl (raC (G := G) α (raC (G := G) β ra0)) (fun _ p => f p.1 p.2.1)
section
variable {α β ω ρ R : Type} [iα : Rp G α] [iβ : Rp G β] [iρ : Rp G ρ] {N : NN} {Γ : Env G} {ta tb : TE} {tz : TS} {i j : Nat} {C : Addr} {w : Option Addr} {mn : Str} {fl : R → List (Fld G)} {r : R} {m1 : Prog α} {m2 : Prog β}
theorem evx_meth0 {f : R → Prog (ρ × R)} (hO : ∀ a, N.O a = none) (hi : Γ[i]? = some (.ins C (fl r) w)) (hm : (fl r).find? (fun f => mn == f.n) = none) :
    EVX N Γ (tMeth C mn (SpI0 G C fl f) [] N.E (tVar i) tNil) (f r) (fun r' => Γ.set i (.ins C (fl r') w)) := evx_meth (f := fun r _ => f r) (m := .ok ()) hO hi hm eva_nil
theorem evx_meth1 {f : R → α → Prog (ρ × R)} (hO : ∀ a, N.O a = none) (hi : Γ[i]? = some (.ins C (fl r) w)) (hm : (fl r).find? (fun f => mn == f.n) = none) (h1 : EV N Γ ta m1) :
    EVX N Γ (tMeth C mn (SpI1 G α C fl f) [] N.E (tVar i) (tCons ta tNil)) (m1 >>= fun a => f r a) (fun r' => Γ.set i (.ins C (fl r') w)) := by
  have h := evx_meth (f := fun r (p : α × Unit) => f r p.1) hO hi hm (eva1 h1)
  simp only [bind_bind, ok_bind] at h
  exact h
theorem evx_meth2 {f : R → α → β → Prog (ρ × R)} (hO : ∀ a, N.O a = none) (hi : Γ[i]? = some (.ins C (fl r) w)) (hm : (fl r).find? (fun f => mn == f.n) = none) (h1 : EV N Γ ta m1) (h2 : EV N Γ tb m2) :
    EVX N Γ (tMeth C mn (SpI2 G α β C fl f) [] N.E (tVar i) (tCons ta (tCons tb tNil))) (m1 >>= fun a => m2 >>= fun b => f r a b) (fun r' => Γ.set i (.ins C (fl r') w)) := by
  have h := evx_meth (f := fun r (p : α × β × Unit) => f r p.1 p.2.1) hO hi hm (eva2 h1 h2)
  simp only [bind_bind, ok_bind] at h
  exact h
theorem sv_make1 {f : α → Prog (Unit × R)} {J : Aim ω} {k : Unit × R → Prog ω} (hO : ∀ a, N.O a = none) (h1 : EV N Γ ta m1) (hk : ∀ r, SV N (Γ.set j (.ins C (fl r.2) none)) tz J (k r)) :
    SV N Γ (tSeq (tAsg (tMake C (SpM1 G α C fl f) [] N.E (tCons ta tNil)) (gName j)) tz) J (m1 >>= fun a => f a >>= k) := by
  have h := sv_make (f := fun _ (p : α × Unit) => f p.1) (J := J) (k := k) hO (eva1 h1) hk
  simp only [bind_bind, ok_bind] at h
  exact h
theorem sv_make2 {f : α → β → Prog (Unit × R)} {J : Aim ω} {k : Unit × R → Prog ω} (hO : ∀ a, N.O a = none) (h1 : EV N Γ ta m1) (h2 : EV N Γ tb m2) (hk : ∀ r, SV N (Γ.set j (.ins C (fl r.2) none)) tz J (k r)) :
    SV N Γ (tSeq (tAsg (tMake C (SpM2 G α β C fl f) [] N.E (tCons ta (tCons tb tNil))) (gName j)) tz) J (m1 >>= fun a => m2 >>= fun b => f a b >>= k) := by
  have h := sv_make (f := fun _ (p : α × β × Unit) => f p.1 p.2.1) (J := J) (k := k) hO (eva2 h1 h2) hk
  simp only [bind_bind, ok_bind] at h
  exact h
end
theorem hO_slf (F H : Hp) (p : Addr) (E : XK) : ∀ a, (NN.slf F H p E).O a = none := fun _ => rfl
theorem own_i {e : Ent G} {Γ : Env G} (k : ∀ e ∈ Γ, e.own = false) : ∀ (j : Nat) (e' : Ent G), (e :: Γ)[j]? = some e' → e'.own = true → j = 0 := fun j e' h o => by
  cases j with
  | zero => rfl
  | succ j =>
    have := k e' (List.mem_of_getElem? h)
    rw [o] at this; cases this
/-- what the proof needs of a class, of a method -/
structure Dc (G : Glob) (mg : Str → Option Value) (C : Addr) (nm : Str) : Prop where
  c : Cls G.K C
  g : mg nm = some (.ref C)
structure Dm (K : PySem.W.Frag) (C : Addr) (x qual : Str) (st : Stmt) (ps : List Str) where
  f : Addr
  fd : FuncData
  Fu : Fun K x qual st f fd
  b : Binds K fd ps []
  me : Meth K C x f
structure Di (K : PySem.W.Frag) (C : Addr) (x qual : Str) (st : Stmt) (ps : List Str) where
  f : Addr
  fd : FuncData
  Fu : Fun K x qual st f fd
  b : Binds K fd ps []
  mki : Mk K C f
end Ty

namespace Ty
open PySem PySem.Spec PyProof.Rows L2
open Enc (enc)
variable {G : Glob}
/-! ### a Code is made -/
section
variable {α β γ ω ρ τ : Type} [iα : Rp G α] [iβ : Rp G β] {N : NN} {Γ Γ' : Env G} {te ta tb : TE} {t : TA} {tt tu : TT} {tz ts : TS}
def JC (G : Glob) (N : NN) (x dx : Addr) : Aim CodeV := ⟨fun _ c D => ∀ y F' H' σ', W N F' H' → Dq G.K F' y (enc c.parts) → D.nx σ' (SlX.slH H' x G.code dx [some (.int c.many), some y]), fun _ h => h⟩
theorem sv_setCode (cf : CodeFacts G) {x dx : Addr} {many : Int} {parts : List Tx} (h0 : Γ[0]? = some (.ptr x)) (h1 : Γ[1]? = some (@Ent.per G Int _ many)) (h2 : Γ[2]? = some (@Ent.per G (List Tx) _ parts)) (hx : N.H0 x = some (.ins G.code dx [])) (nb : ¬ N.B x) (ne : dx ≠ x) :
    SV N Γ (tSeq (SlX.sSl G.K (tVar 0) (tVar 1) "many") (tSeq (SlX.sSl G.K (tVar 0) (tVar 2) "parts") tNext)) (JC G N x dx) (.ok ⟨many, parts⟩) := fun σ F H D hs q => by
  obtain ⟨o0, e0, z0⟩ := hs.sl.get h0
  have z0 : o0 = some (.ref x) := z0
  subst z0
  obtain ⟨o1, e1, v1, z1, r1⟩ := hs.sl.get h1
  subst z1
  obtain ⟨o2, e2, v2, z2, r2⟩ := hs.sl.get h2
  subst z2
  obtain ⟨p1, s1⟩ := cf.many
  obtain ⟨p2, s2⟩ := cf.parts
  have hx1 : H x = some (.ins G.code dx []) := hs.w.kp x _ nb hx
  have ev : v1 = .int many := Scl.dp (α := Int) r1
  subst ev
  refine ⟨_, e1, .ref x, e0, x, G.code, dx, p1, [], 0, rfl, .inl ⟨hx1, rfl⟩, cf.sc, s1, ?_⟩
  refine ⟨_, e2, .ref x, e0, x, G.code, dx, p2, _, 1, rfl, SlX.slH_slt ne, cf.sc, s2, ?_⟩
  show D.nx σ _
  rw [SlX.slH_twice ne]
  exact q v2 F H σ hs.w r2
def SpC (G : Glob) (f : Int → List Tx → Prog CodeV) : Sp := fun vs H Q E => ∃ x dx us F a, vs = .ref x :: us ∧ F x = none ∧ H x = some (.ins G.code dx []) ∧ dx ≠ x ∧ Same F H ∧ raC (G := G) Int (raC (G := G) (List Tx) ra0) a us F ∧
  wp (f a.1 a.2.1) (fun c => ∀ y F1 H1, W (.of F H E) F1 H1 → Dq G.K F1 y (enc c.parts) → Q .non (SlX.slH H1 x G.code dx [some (.int c.many), some y])) (EP G (.of F H E))
theorem ev_make {f : Int → List Tx → Prog CodeV} {m1 : Prog Int} {m2 : Prog (List Tx)} (h1 : EV N Γ ta m1) (h2 : EV N Γ tb m2) : EV N Γ (tMake G.code (SpC G f) [] N.E (tCons ta (tCons tb tNil))) (m1 >>= fun a => m2 >>= fun b => f a b) := fun σ F H hs Q q => by
  have h := eva2 (G := G) h1 h2
  refine h σ F H hs _ ?_
  refine wp_bind.2 (wp_mono (wp_bind.1 q) fun a q1 => wp_bind.2 (wp_mono (wp_bind.1 q1) fun b q2 => ?_))
  intro vs F1 H1 hs1 e1 r1 x dx hx hdx ne
  obtain ⟨hs2, n2⟩ := hs_newO (u := .own x) hs1 hdx
  obtain ⟨hs3, n3⟩ := hs_newO (u := .ins G.code dx []) hs2 (p := x) (by rw [upd_ne (Ne.symm ne)]; exact hx)
  refine ⟨x, dx, vs, F1, (a, b, ()), by rw [List.append_nil], n3.mine.f, upd_same, ne, hs3.w.fh, r1, wp_imp q2 (fun c k y F2 H2 w2 d2 => ?_) fun e he => ep_of (F := F) (H := H) hs3 noB e he⟩
  obtain ⟨hs4, e2⟩ := hs3.call noB w2
  have fr : ∀ q o, F1 q = none → upd (upd H1 dx (.own x)) x (.ins G.code dx []) q = some o → F2 q = none := fun q o f h => by
    cases z : F2 q with
    | none => rfl
    | some u =>
      rcases w2.nw q u z with y | y
      · rw [show F1 q = some u from y] at f; cases f
      · rw [show upd (upd H1 dx (.own x)) x (.ins G.code dx []) q = none from y] at h; cases h
  have fx : F2 x = none := fr x _ n3.mine.f upd_same
  have fdx : F2 dx = none := fr dx _ n2.mine.f (by rw [upd_ne ne]; exact upd_same)
  have mdx : Mine N F2 dx := n2.mine.mono fdx
  have mx : Mine N F2 x := n3.mine.mono fx
  -- the dict, then the object
  have hs5 := hs4.writeO (u := .xd []) n2.no mdx.weak n2.nh
  obtain ⟨hs6, e6⟩ := hs5.freeze upd_same mdx n2.h0 n2.nh n2.no
  have fx6 : upd F2 dx (.xd []) x = none := by rw [upd_ne (Ne.symm ne)]; exact fx
  have hs7 := hs6.writeO (u := SlX.SlO x G.code dx [some (.int c.many), some y]) n3.no (mx.mono fx6).weak n3.nh
  obtain ⟨hs8, e8⟩ := hs7.freeze upd_same (mx.mono fx6) n3.h0 n3.nh n3.no
  refine ⟨rfl, k (.ref x) _ _ hs8 (Same.trans e1 (Same.trans e2 (Same.trans e6 e8))) ⟨x, dx, y, rfl, .inr ⟨upd_same, by rw [upd_ne ne]; exact upd_same⟩, dp_same (Same.trans e6 e8) _ _ d2⟩⟩
theorem hs_startC {Γ0 : Env G} {Ns : List Str} {F H : Hp} {vs : List V} {E : XK} (e : Same F H) (h : ∀ N : NN, Slots N F H Γ0 (start Ns vs)) (nown : ∀ e ∈ Γ0, e.own = false) : HS (.of F H E) Γ0 (start Ns vs) F H :=
  ⟨⟨e, Same.refl F, fun a o h => .inl h, fun a o _ h => h, fun a h => h, fun p c h => (nomatch h), fun p c h => (nomatch h), fun a o h => (nomatch h)⟩, h _, fun i j e e' p h1 _ o1 => by
    have := nown e (List.mem_of_getElem? h1)
    rw [o1] at this; cases this⟩
theorem fn_okC {P : Program} {w : World} {mg : Str → Option Value} {base : Heap} {x qual : Str} {st : Stmt} {f : Addr} {fd : FuncData} {Ns ps : List Str} {k : Nat} {g : Int → List Tx → Prog CodeV} (Fu : Fun G.K x qual st f fd) (S : FnScope Ns ps (defScope st)) (hNs : Ns.length = 3) (hps : ps.length = 3)
    (hbody : ∀ (cdv : Value) (A : Around) (outer : List PySem.Env) (s : Shared) (H F : Hp) (E : XK), Room k (A.deeper (envOfC qual (defScope st) s.heap.objs.size f cdv)) →
      ∃ t, PSs (cxOf (L2.CX P w) P w G.K mg base Ns qual (defScope st) f cdv A outer s H E) (defBody st) t ∧ ∀ x dx many parts, H x = some (.ins G.code dx []) → dx ≠ x → SV (.of F H E) [.ptr x, @Ent.per G Int _ many, @Ent.per G (List Tx) _ parts] t (JC G (.of F H E) x dx) (g many parts)) : FnOk P w G.K mg base (L2.CX P w) (k + 1) f fd ps (SpC G g) :=
  Fu.okX S (fun vs H Q E ⟨x, dx, us, F, a, e1, _, _, _, _, ⟨v1, _, e2, _, v2, _, e3, _, e4⟩, _⟩ => by rw [e1, e2, e3, e4, hps]; rfl) fun cdv A outer s H vs Q E hr ⟨x, dx, us, F, a, e1, fx, hx, ne, e, ⟨v1, us2, e2, r1, v2, us3, e3, r2, e4⟩, q⟩ => by
    subst e1 e2 e3
    have e4 : us3 = [] := e4
    subst e4
    obtain ⟨t, hP, hv⟩ := hbody cdv A outer s H F E hr
    refine ⟨t, hP, hv x dx a.1 a.2.1 hx ne _ F H _ (hs_startC e (fun N => ?_) (by simp [Ent.own])) (wp_mono q fun c k y F' H' σ' w' d => k y F' H' w' d)⟩
    match Ns, hNs with
    | [n1, n2, n3], _ => exact ⟨rfl, ⟨v1, rfl, r1⟩, ⟨v2, rfl, r2⟩, trivial⟩
/-! ### c == d -/
theorem ev_eqCode {f : CodeV → CodeV → Prog Bool} {m1 m2 : Prog CodeV} (nf : PySem.W.notFirst G.K G.code (.ref G.code) = true) (h1 : EV N Γ ta m1) (h2 : EV N Γ tb m2) : EV N Γ (tOp (SlX.rOwn G.K G.code (SpF2 G CodeV CodeV f) N.E) ta tb) (m1 >>= fun a => m2 >>= fun b => f a b) := fun σ F H hs Q q =>
  h1 σ F H hs _ (wp_mono (wp_bind.1 q) fun a q1 x F1 H1 hs1 e1 r1 => h2 σ F1 H1 hs1 _ (wp_mono (wp_bind.1 q1) fun b q2 y F2 H2 hs2 e2 r2 => by
    have r1' := Rp.mono (G := G) e2 r1
    obtain ⟨p1, d1, z1, g1, s1, k1⟩ := id r1'
    obtain ⟨p2, d2, z2, g2, s2, k2⟩ := id r2
    refine ⟨p1, d1, _, p2, G.code, d2, _, g1, g2, slt_same hs2.w.fh s1, slt_same hs2.w.fh s2, nf, F2, (a, b, ()), hs2.w.fh, ⟨x, _, rfl, r1', y, _, rfl, r2, rfl⟩, wp_imp q2 (fun r k v F' H' w rr => ?_) fun e he => ep_of (F := F) (H := H) hs2 noB e he⟩
    obtain ⟨hs3, e3⟩ := hs2.call noB w
    exact k v F' H' hs3 (Same.trans e1 (Same.trans e2 e3)) rr))
theorem ev_isCode (cf : CodeFacts G) (si : SlX.SIsi G.K G.code) (kc : PySem.W.kitOne G.K (.ref G.code) (.ref G.code) = some true) {m : Prog CodeV} (h : EV N Γ ta m) : EV N Γ (tCB (SlX.rIsiSl G.K (.ref G.code)) (tCons ta (tCons (tC (.ref G.code)) tNil))) (m >>= fun _ => .ok true) := fun σ F H hs Q q =>
  h σ F H hs _ (wp_mono (wp_bind.1 q) fun a q1 x F1 H1 hs1 e1 r1 => by
    obtain ⟨p, dx, z, e, s, d⟩ := r1
    exact ⟨p, G.code, dx, _, .ref G.code, true, by rw [e], rfl, fun w h => h, slt_same hs1.w.fh s, cf.sc, si, kc, q1 _ F1 H1 hs1 e1 (.bl true)⟩)
end
theorem fnr {P : Program} {w : World} {K : PySem.W.Frag} {mg : Str → Option Value} {base : Heap} {CX : CXT} {k : Nat} {f : Addr} {fd : FuncData} {ps : List Str} {sp : Sp} (F : FnOk P w K mg base CX k f fd ps sp) (hb : Binds K fd ps []) : FnR P w K mg base CX k f sp :=
  (F.raw hb .nil).imp fun vs H Q E h => by rw [List.append_nil]; exact h
structure CodeEq (G : Glob) (f : Addr) : Prop where
  at_ : PySem.W.findIn G.K (.ref G.code) (cmpInfo .Eq).2.1 = some (some (.ref f))
  fn : PySem.W.isFn G.K (.ref f) = true
structure CodeCls (G : Glob) (mg : Str → Option Value) : Prop where
  g : mg "Code" = some (.ref G.code)
  si : SlX.SIsi G.K G.code
  kc : PySem.W.kitOne G.K (.ref G.code) (.ref G.code) = some true
  nf : PySem.W.notFirst G.K G.code (.ref G.code) = true
structure De (G : Glob) (x qual : Str) (st : Stmt) (ps : List Str) where
  f : Addr
  fd : FuncData
  Fu : Fun G.K x qual st f fd
  b : Binds G.K fd ps []
  eq : CodeEq G f
end Ty

namespace Ty
open PySem PySem.Spec PyProof.Rows L2
open Enc (enc)
section
variable {G : Glob} {P : Program} {w : World} {mg : Str → Option Value} {base : Heap}
theorem src_set {N : NN} {Γ : Env G} {σ : L2.St} {F H : Hp} {p c : Addr} (hs : HS N Γ σ F H) (hS : N.S = some (p, c)) (hO : ∀ a, N.O a = none) {st ix : Int} {cs : List Int} {H' : Hp} (hp : H' p = some (.lst [.int st, .ref c, .int ix, .int 14])) (hc : H' c = some (.lst (cs.map V.int))) (hl : cs.length ≤ 64) (k : ∀ a, a ≠ p → a ≠ c → H' a = H a) : HS N Γ σ F H' := by
  have s := hs.w.sr p c hS
  have sb := hs.w.sb p c hS
  obtain ⟨st0, ix0, cs0, h1, h2, _⟩ := s.at_
  have ne : ∀ a o, F a = some o → a ≠ p ∧ a ≠ c := fun a o e => ⟨ne_of_none e s.fp, ne_of_none e s.fc⟩
  refine hs.move ⟨fun a u e => ?_, hs.w.f0, hs.w.nw, fun a u nb e => ?_, fun a e => ?_, fun q d e => ?_, hs.w.sb, fun a o x => by rw [hO] at x; cases x⟩ (Same.refl F) (fun q vs hl e => ?_) fun q hl => (hs.held hl).1.f
  · rw [k a (ne a u e).1 (ne a u e).2]; exact hs.w.fh a u e
  · have n1 : a ≠ p := fun z => by
      subst z
      rcases sb.1 with x | x
      · rw [x] at e; cases e
      · exact nb x
    have n2 : a ≠ c := fun z => by
      subst z
      rcases sb.2 with x | x
      · rw [x] at e; cases e
      · exact nb x
    rw [k a n1 n2]; exact hs.w.kp a u nb e
  · by_cases n1 : a = p
    · subst n1; rw [hp] at e; cases e
    · by_cases n2 : a = c
      · subst n2; rw [hc] at e; cases e
      · rw [k a n1 n2] at e; exact hs.w.dm a e
  · rw [hS] at e; cases e
    exact ⟨s.fp, s.fc, s.ne, st, ix, cs, hp, hc, hl⟩
  · have m := (hs.held hl).1.s p c hS
    rw [k q m.1 m.2]; exact e
theorem mod_lt_len {ix : Int} {cs : List Int} : ∃ x, atI (cs.map V.int ++ [.int 0]) (ix % (if (cs.length : Int) > 1 then (cs.length : Int) else 1)) = some (.int x) := by
  have h1 : 0 ≤ ix % (if (cs.length : Int) > 1 then (cs.length : Int) else 1) := Int.emod_nonneg _ (by split <;> omega)
  have h2 : ix % (if (cs.length : Int) > 1 then (cs.length : Int) else 1) < (if (cs.length : Int) > 1 then (cs.length : Int) else 1) := Int.emod_lt_of_pos _ (by split <;> omega)
  generalize hk : ix % (if (cs.length : Int) > 1 then (cs.length : Int) else 1) = k at h1 h2
  have h3 : k.toNat < ((cs ++ [0]).map V.int).length := by
    rw [List.length_map, List.length_append]
    simp
    split at h2 <;> omega
  have e : cs.map V.int ++ [.int 0] = (cs ++ [0]).map V.int := by simp
  have h4 : (k.toNat : Int) = k := by omega
  rw [e, ← h4]
  refine ⟨(cs ++ [0])[k.toNat]'(by simpa using h3), atI_nat ?_⟩
  rw [List.getElem?_eq_getElem h3, List.getElem_map]
def SpMix (K : PySem.W.Frag) : Sp := fun vs H Q _ => ∃ (a : Addr) (ns : List Int) (seed : Int), vs = [.ref a, .int seed] ∧ SqL K H a (ns.map V.int) ∧ ns.length ≤ 64 ∧
  ∀ H' p c st, Same H H' → (∀ b, H' b = none → H b = none) → H p = none → H c = none → p ≠ c → H' p = some (.lst [.int st, .ref c, .int 0, .int 14]) → H' c = some (.lst (ns.map V.int)) → Q (.ref p) H'

def SpLaw (K : PySem.W.Frag) : Sp := fun vs H Q _ => ∃ (a : Addr) (ns : List Int), vs = [.ref a] ∧ SqL K H a (ns.map V.int) ∧ ns.length ≤ 63 ∧ ∀ H', Q (.bl true) H'
theorem hs_law {Γ : Env G} {σ : L2.St} {H' : Hp} {p c : Addr} {E : XK} {st : Int} {ns : List Int} (e1 : H' p = some (.lst [.int st, .ref c, .int 0, .int 14])) (e2 : H' c = some (.lst (ns.map V.int))) (ne : p ≠ c) (hl : ns.length ≤ 64) (sl : ∀ N : NN, N.S = some (p, c) → Slots N (fun _ => none) H' Γ σ) (nown : ∀ e ∈ Γ, e.own = false) : HS (.src (fun _ => none) H' p c E) Γ σ (fun _ => none) H' :=
  ⟨⟨fun a u z => (nomatch z), Same.refl _, fun a o z => (nomatch z), fun a o _ z => z, fun a z => z, fun p' c' z => by cases z; exact ⟨rfl, rfl, ne, st, 0, ns, e1, e2, hl⟩, fun p' c' z => by cases z; exact ⟨.inr (.inl rfl), .inr (.inr rfl)⟩, fun a o z => (nomatch z)⟩, sl _ rfl, fun i j e e' q h1 _ o1 => by
    have := nown e (List.mem_of_getElem? h1)
    rw [o1] at this; cases this⟩
theorem law_cx {H : Hp} {s : Shared} {e : Value} {s' : Shared} (h : L2.CX P w [] H s (fun _ _ _ => False) e s') : False := by
  obtain ⟨_, _, _, _, _, _, _, _, _, _, _, _, z⟩ := h
  exact z
theorem kit_self {K : PySem.W.Frag} {a : Addr} : PySem.W.kitOne K (.ref a) (.ref a) = some true := by
  unfold PySem.W.kitOne
  rw [if_pos]
  simp
theorem first_self {K : PySem.W.Frag} {a : Addr} : PySem.W.notFirst K a (.ref a) = true := by
  unfold PySem.W.notFirst
  simp
end
end Ty

/-! the plain law: what the mirrors compute -/
namespace Ty
open PySem PySem.Spec PyProof.Rows L2
open Enc (enc)
section
variable {α β γ : Type} {E : Exc → Prop}
@[simp] theorem chk_bind (b : Bool) (m : Prog α) (f : α → Prog β) : chk b m >>= f = chk b (m >>= f) := by cases b <;> rfl
theorem ite_bind (b : Bool) (m m' : Prog α) (f : α → Prog β) : (if b then m else m') >>= f = if b then m >>= f else m' >>= f := by cases b <;> rfl
theorem wp_chk_of {b : Bool} {m : Prog α} {P : α → Prop} (hb : b = true) (h : wp m P E) : wp (chk b m) P E := by subst hb; exact h
theorem wp_foldP {f : β → α → Prog β} {Inv : β → Prop} : ∀ {xs : List α} {b : β}, Inv b → (∀ b a, a ∈ xs → Inv b → wp (f b a) Inv E) → wp (foldP f xs b) Inv E
  | [], b, h, _ => h
  | a :: r, b, h, k => wp_bind.2 (wp_mono (k b a List.mem_cons_self h) fun b' h' => wp_foldP h' fun b a m i => k b a (List.mem_cons_of_mem _ m) i)
/-- with what is left -/
theorem wp_foldP' {f : β → α → Prog β} {Inv : List α → β → Prop} : ∀ {xs : List α} {b : β}, Inv xs b → (∀ b a r, Inv (a :: r) b → wp (f b a) (Inv r) E) → wp (foldP f xs b) (Inv []) E
  | [], b, h, _ => h
  | a :: r, b, h, k => wp_bind.2 (wp_mono (k b a r h) fun b' h' => wp_foldP' h' k)
theorem wp_mapP {f : α → Prog β} {Q : α → β → Prop} : ∀ {xs : List α}, (∀ a, a ∈ xs → wp (f a) (Q a) E) → wp (mapP f xs) (fun ys => ys.length = xs.length ∧ (∀ y ∈ ys, ∃ a ∈ xs, Q a y)) E
  | [], _ => ⟨rfl, fun y h => by cases h⟩
  | a :: r, k => wp_bind.2 (wp_mono (k a List.mem_cons_self) fun y hy => wp_bind.2 (wp_mono (wp_mapP fun b m => k b (List.mem_cons_of_mem _ m)) fun ys h => ⟨by simp [h.1], fun z hz => by
      rcases List.mem_cons.1 hz with e | e
      · exact ⟨a, List.mem_cons_self, e ▸ hy⟩
      · obtain ⟨b, m, q⟩ := h.2 z e
        exact ⟨b, List.mem_cons_of_mem _ m, q⟩⟩))
/-- item by item -/
def All2 (Q : α → β → Prop) : List α → List β → Prop
  | [], [] => True
  | a :: r, b :: q => Q a b ∧ All2 Q r q
  | _, _ => False
theorem wp_mapP2 {f : α → Prog β} {Q : α → β → Prop} : ∀ {xs : List α}, (∀ a, a ∈ xs → wp (f a) (Q a) E) → wp (mapP f xs) (All2 Q xs) E
  | [], _ => trivial
  | a :: r, k => wp_bind.2 (wp_mono (k a List.mem_cons_self) fun y hy => wp_bind.2 (wp_mono (wp_mapP2 fun b m => k b (List.mem_cons_of_mem _ m)) fun ys h => ⟨hy, h⟩))
theorem mapP_ok {f : α → Prog β} {g : α → β} : ∀ {xs : List α}, (∀ a ∈ xs, f a = .ok (g a)) → mapP f xs = .ok (xs.map g)
  | [], _ => rfl
  | a :: r, k => by
    show f a >>= _ = _
    rw [k a List.mem_cons_self, ok_bind, mapP_ok fun b m => k b (List.mem_cons_of_mem _ m), ok_bind]
    rfl
theorem compP_ok {t : α → Prog Bool} {f : α → Prog β} {p : α → Bool} {g : α → β} : ∀ {xs : List α}, (∀ a ∈ xs, t a = .ok (p a)) → (∀ a ∈ xs, f a = .ok (g a)) → compP t f xs = .ok ((xs.filter p).map g)
  | [], _, _ => rfl
  | a :: r, k1, k2 => by
    show t a >>= _ = _
    rw [k1 a List.mem_cons_self, ok_bind, List.filter_cons]
    have ih := compP_ok (fun b m => k1 b (List.mem_cons_of_mem _ m)) fun b m => k2 b (List.mem_cons_of_mem _ m)
    cases hp : p a with
    | true => rw [if_pos rfl, if_pos rfl, k2 a List.mem_cons_self, ok_bind, ih, ok_bind]; rfl
    | false => rw [if_neg Bool.false_ne_true, if_neg Bool.false_ne_true, ih]
theorem wp_noerr_of {m : Prog α} {P : α → Prop} (h : wp m P (fun _ => False)) : wp (noerr m) P E := by
  induction m with
  | ok a => exact h
  | err e => exact h.elim
  | stuck => exact h
  | draw n k ih => exact ⟨h.1, h.2.1, fun i a b => ih i (h.2.2 i a b)⟩
theorem small_of {n : Nat} (h : n ≤ 100000) : small n = true := decide_eq_true h
theorem getI_nat {xs : List α} {i : Int} {a : α} (h0 : 0 ≤ i) (h : xs[i.toNat]? = some a) : getI xs i = .ok a := by
  have e : atI xs i = some a := by
    have := atI_nat (xs := xs) h
    rwa [Int.toNat_of_nonneg h0] at this
  unfold getI
  rw [e]
theorem getI_ex {xs : List α} {i : Int} (h0 : 0 ≤ i) (h1 : i < xs.length) : ∃ a, xs[i.toNat]? = some a ∧ a ∈ xs ∧ getI xs i = .ok a := by
  have hlt : i.toNat < xs.length := by omega
  exact ⟨xs[i.toNat], List.getElem?_eq_getElem hlt, List.getElem_mem hlt, getI_nat h0 (List.getElem?_eq_getElem hlt)⟩
theorem sIx_lo (n : Nat) (d : Nat) {i : Int} (h : 0 ≤ i) : HT.sIx n d (some i) = min i.toNat n := by
  have := HT.sIx_nat n d i.toNat
  rwa [Int.toNat_of_nonneg h] at this
theorem cut_to {xs : List α} {i : Int} (h : 0 ≤ i) : cut xs none (some i) = xs.take i.toNat := by
  unfold cut
  rw [HT.sIx_none, sIx_lo _ _ h]
  simp
theorem cut_from {xs : List α} {i : Int} (h : 0 ≤ i) : cut xs (some i) none = xs.drop i.toNat := by
  unfold cut
  rw [HT.sIx_none, sIx_lo _ _ h]
  by_cases hi : i.toNat ≤ xs.length
  · rw [Nat.min_eq_left hi, List.take_of_length_le (by rw [List.length_drop]; omega)]
  · rw [Nat.min_eq_right (by omega), List.drop_of_length_le (by omega), List.drop_of_length_le (by omega)]
    simp
end
/-! ### codes -/
def Lett (many : Int) (c : Nat) : Prop := c = 97 ∨ c = 98 ∨ (c = 99 ∧ many = 3)
def Word (many : Int) (w : Tx) : Prop := (∀ c ∈ w, Lett many c) ∧ 1 ≤ w.length ∧ w.length ≤ 4
structure Cd (many : Int) (ws : List Tx) : Prop where
  m : many = 2 ∨ many = 3
  l1 : 1 ≤ ws.length
  l6 : ws.length ≤ 6
  nd : ws.Nodup
  w : ∀ w ∈ ws, Word many w
/-- leaves of a tree -/
def Apart (x y : Tx) : Prop := ¬ x <+: y ∧ ¬ y <+: x
theorem apart_grow {x y : Tx} {c : Nat} (h : Apart x y) : Apart (x ++ [c]) y := by
  refine ⟨fun p => h.1 ((List.prefix_append x [c]).trans p), fun p => ?_⟩
  rw [List.prefix_concat_iff] at p
  rcases p with e | p
  · exact h.1 (e ▸ List.prefix_append x [c])
  · exact h.2 p
theorem Apart.symm {x y : Tx} (h : Apart x y) : Apart y x := ⟨h.2, h.1⟩
theorem apart_sibs {x : Tx} {c d : Nat} (h : c ≠ d) : Apart (x ++ [c]) (x ++ [d]) := by
  have k : ∀ {c d : Nat}, c ≠ d → ¬ (x ++ [c]) <+: (x ++ [d]) := fun {c d} h p => by
    have e := p.eq_of_length (by simp)
    have := List.append_cancel_left e
    cases this
    exact h rfl
  exact ⟨k h, k (Ne.symm h)⟩
theorem pairwise_split {l r m : List Tx} {x : Tx} (h : (l ++ x :: r).Pairwise Apart) (hm : m.Pairwise Apart) (hx : ∀ y ∈ m, ∀ z, Apart x z → Apart y z) : (l ++ m ++ r).Pairwise Apart := by
  rw [List.pairwise_append] at h
  obtain ⟨h1, h2, h3⟩ := h
  rw [List.pairwise_cons] at h2
  rw [List.append_assoc, List.pairwise_append, List.pairwise_append]
  refine ⟨h1, ⟨hm, h2.2, fun a ha b hb => hx a ha b (h2.1 b hb)⟩, fun a ha b hb => ?_⟩
  rcases List.mem_append.1 hb with q | q
  · exact (hx b q a (h3 a ha x List.mem_cons_self).symm).symm
  · exact h3 a ha b (List.mem_cons_of_mem _ q)
theorem nodup_of_apart {l : List Tx} (h : l.Pairwise Apart) : l.Nodup := h.imp fun {a b} k => fun e => k.1 (by rw [e]; exact List.prefix_refl b)
end Ty

/-! equality of data by types -/
namespace Ty
open PySem PySem.Spec PyProof.Rows L2
open Enc (enc)
class Shp (α : Type) [Enc α] [DecidableEq α] where
  dep : Nat
  ok : α → Prop
  lay : ∀ a : α, ok a → PyData.canLay0 (enc a) = true
  dle : ∀ a : α, PyData.depth (enc a) ≤ dep
  eqv : ∀ a b : α, PyData.eqv (enc a) (enc b) = decide (a = b)
instance : Shp Int := ⟨0, fun _ => True, fun a _ => by simp [Enc.enc, PyData.canLay0], fun a => by simp [Enc.enc, PyData.depth], fun a b => by
  by_cases h : a = b <;> simp [Enc.enc, PyData.eqv, h]⟩
instance : Shp Bool := ⟨0, fun _ => True, fun a _ => by simp [Enc.enc, PyData.canLay0], fun a => by simp [Enc.enc, PyData.depth], fun a b => by
  cases a <;> cases b <;> simp [Enc.enc, PyData.eqv]⟩
def okT (a : Tx) : Prop := PyData.strOk (sx a) = true
instance : Shp (List Nat) := ⟨0, okT, fun a h => by
  show PyData.canLay0 (.str (sx a)) = true
  simp only [PyData.canLay0]
  exact h, fun a => by simp [Enc.enc, PyData.depth], fun a b => by
  by_cases h : a = b
  · subst h; simp [Enc.enc, PyData.eqv]
  · have : ¬ (⟨a.toArray⟩ : Str) = ⟨b.toArray⟩ := fun e => h (by simpa using e)
    simp [Enc.enc, PyData.eqv, h, this]⟩
section
variable {α β : Type} [Enc α] [Enc β] [DecidableEq α] [DecidableEq β] [Shp α] [Shp β]
theorem shp_layAll : ∀ xs : List α, (∀ x ∈ xs, Shp.ok x) → PyData.canLayAll0 (xs.map enc) = true
  | [], _ => by simp [PyData.canLayAll0]
  | x :: xs, h => by
    have h1 := Shp.lay x (h x List.mem_cons_self)
    have h2 := shp_layAll xs fun y m => h y (List.mem_cons_of_mem _ m)
    simp [PyData.canLayAll0, h1, h2]
theorem shp_depAll : ∀ xs : List α, PyData.depthAll (xs.map enc) ≤ Shp.dep α
  | [] => by simp [PyData.depthAll]
  | x :: xs => by
    have h1 := Shp.dle x
    have h2 := shp_depAll xs
    simp [PyData.depthAll]
    omega
theorem shp_eqvAll : ∀ xs ys : List α, PyData.eqvAll (xs.map enc) (ys.map enc) = decide (xs = ys)
  | [], [] => by simp [PyData.eqvAll]
  | [], _ :: _ => by simp [PyData.eqvAll]
  | _ :: _, [] => by simp [PyData.eqvAll]
  | x :: xs, y :: ys => by
    simp only [List.map_cons, PyData.eqvAll, Shp.eqv, shp_eqvAll xs ys]
    by_cases h : x = y <;> by_cases h' : xs = ys <;> simp [h, h']
instance shpT : Shp (List α) := ⟨Shp.dep α + 1, fun a => ∀ x ∈ a, Shp.ok x, fun a h => by
    show PyData.canLay0 (.tuple (a.map enc)) = true
    simp only [PyData.canLay0]
    exact shp_layAll a h, fun a => by
    have := shp_depAll a
    show PyData.depth (.tuple (a.map enc)) ≤ _
    simp [PyData.depth]; omega, fun a b => by
    show PyData.eqv (.tuple (a.map enc)) (.tuple (b.map enc)) = _
    rw [PyData.eqv]; exact shp_eqvAll a b⟩
instance : DecidableEq (L α) := inferInstanceAs (DecidableEq (List α))
instance shpL : Shp (L α) := ⟨Shp.dep α + 1, fun (a : List α) => ∀ x ∈ a, Shp.ok x, fun (a : List α) h => by
    show PyData.canLay0 (.list (List.map enc a)) = true
    simp only [PyData.canLay0]
    exact shp_layAll a h, fun (a : List α) => by
    have := shp_depAll a
    show PyData.depth (.list (a.map enc)) ≤ _
    simp [PyData.depth]; omega, fun a b => by
    show PyData.eqv (.list (List.map enc a)) (.list (List.map enc b)) = _
    rw [PyData.eqv]; exact shp_eqvAll a b⟩
instance shpP : Shp (α × β) := ⟨max (Shp.dep α) (Shp.dep β) + 1, fun a => Shp.ok a.1 ∧ Shp.ok a.2, fun a h => by
    have h1 := Shp.lay a.1 h.1
    have h2 := Shp.lay a.2 h.2
    show PyData.canLay0 (.tuple [enc a.1, enc a.2]) = true
    simp [PyData.canLay0, PyData.canLayAll0, h1, h2], fun a => by
    have h1 := Shp.dle a.1
    have h2 := Shp.dle a.2
    show PyData.depth (.tuple [enc a.1, enc a.2]) ≤ _
    simp [PyData.depth, PyData.depthAll]; omega, fun a b => by
    show PyData.eqv (.tuple [enc a.1, enc a.2]) (.tuple [enc b.1, enc b.2]) = _
    simp only [PyData.eqv, PyData.eqvAll, Shp.eqv]
    rcases a with ⟨a1, a2⟩
    rcases b with ⟨b1, b2⟩
    by_cases h : a1 = b1 <;> by_cases h' : a2 = b2 <;> simp [h, h']⟩
theorem eqP_dec (h : Shp.dep α ≤ 64) {a b : α} (ha : Shp.ok a) (hb : Shp.ok b) : eqP a b = .ok (decide (a = b)) := by
  have k : ∀ a : α, Shp.ok a → SeqAt.shaped (enc a) = true := fun a h' => by
    simp [SeqAt.shaped, Shp.lay a h', Nat.le_trans (Shp.dle a) h]
  unfold eqP
  rw [k a ha, k b hb, Shp.eqv]
  rfl
theorem neP_dec (h : Shp.dep α ≤ 64) {a b : α} (ha : Shp.ok a) (hb : Shp.ok b) : neP a b = .ok (!decide (a = b)) := by
  have k : ∀ a : α, Shp.ok a → SeqAt.shaped (enc a) = true := fun a h' => by
    simp [SeqAt.shaped, Shp.lay a h', Nat.le_trans (Shp.dle a) h]
  unfold neP
  rw [k a ha, k b hb, Shp.eqv]
  rfl
end
theorem eqL_tx {xs ys : List Tx} (hx : ∀ x ∈ xs, okT x) (hy : ∀ x ∈ ys, okT x) : eqP (α := L Tx) (β := L Tx) xs ys = .ok (decide (@Eq (List Tx) xs ys)) := eqP_dec (α := L Tx) (by decide) hx hy
theorem eqT_tx {xs ys : List Tx} (hx : ∀ x ∈ xs, okT x) (hy : ∀ x ∈ ys, okT x) : eqP xs ys = .ok (decide (@Eq (List Tx) xs ys)) := eqP_dec (by decide) hx hy
theorem wp_eq_ok {α : Type} {m : Prog α} {x : α} {P : α → Prop} {E : Exc → Prop} (h : m = .ok x) (hp : P x) : wp m P E := by rw [h]; exact hp
theorem mapP_bind_ok {α β γ : Type} {f : α → Prog β} {g : α → β} {xs : List α} {k : List β → Prog γ} (h : ∀ a ∈ xs, f a = .ok (g a)) : (mapP f xs >>= k) = k (xs.map g) := by rw [mapP_ok h, ok_bind]
theorem memB_no {α : Type} [DecidableEq α] {xs : List α} {a : α} (h : a ∉ xs) : memB a xs = false := by simp [memB, h]
theorem memB_yes {α : Type} [DecidableEq α] {xs : List α} {a : α} (h : a ∈ xs) : memB a xs = true := by simp [memB, h]
theorem bind_step {α β : Type} {m : Prog α} {x : α} {k : α → Prog β} {r : Prog β} (h : m = .ok x) (h2 : k x = r) : (m >>= k) = r := by rw [h, ok_bind]; exact h2
end Ty

/-! split by one sign, join -/
namespace Ty
open PySem PySem.Spec PyProof.Rows L2
open Enc (enc)
theorem splitT_eq {c : Nat} (hc : c < 256) (s : Tx) : splitT s [c] = TL.spl [c] 0 [] s := by
  have h := TL.split_spl (sx s) (sx [c]) (by simp [sx, TL.tl]) (TL.kind_ok (by simp [sx, hc]))
  have e1 : TL.tl (sx s) = s := by simp [sx, TL.tl]
  have e2 : TL.tl (sx [c]) = [c] := by simp [sx, TL.tl]
  rw [e1, e2] at h
  exact h
theorem split_join {c : Nat} (hc : c < 256) {ps : List Tx} (hne : ps ≠ []) (h : ∀ p ∈ ps, c ∉ p) : splitT (joinT [c] ps) [c] = ps := by
  rw [splitT_eq hc]
  exact TL.spl_join hne h
theorem split_one {c : Nat} (hc : c < 256) {p : Tx} (h : c ∉ p) : splitT p [c] = [p] := by
  rw [splitT_eq hc]
  exact TL.spl_last1 h
theorem split_part {c : Nat} (hc : c < 256) {p s : Tx} (h : c ∉ p) : splitT (p ++ c :: s) [c] = p :: splitT s [c] := by
  rw [splitT_eq hc, splitT_eq hc]
  exact TL.spl_part1 h
theorem split_two {c : Nat} (hc : c < 256) {p q : Tx} (hp : c ∉ p) (hq : c ∉ q) : splitT (p ++ c :: q) [c] = [p, q] := by rw [split_part hc hp, split_one hc hq]
theorem joinL_length (c : Nat) : ∀ ps : List Tx, (TL.joinL [c] ps).length ≤ sumLen ps + ps.length
  | [] => by simp [TL.joinL, sumLen]
  | [p] => by simp [TL.joinL, sumLen]
  | p :: q :: r => by
    have ih := joinL_length c (q :: r)
    unfold sumLen at ih ⊢
    simp only [TL.joinL, List.length_append, List.map_cons, List.sum_cons, List.length_cons, List.length_nil] at ih ⊢
    omega
theorem joinT_length (c : Nat) (ps : List Tx) : (joinT [c] ps).length ≤ sumLen ps + ps.length := joinL_length c ps
theorem sumLen_le {n : Nat} : ∀ {ps : List Tx}, (∀ p ∈ ps, p.length ≤ n) → sumLen ps ≤ ps.length * n
  | [], _ => by simp [sumLen]
  | p :: r, h => by
    have ih := sumLen_le fun q m => h q (List.mem_cons_of_mem _ m)
    have h1 := h p List.mem_cons_self
    unfold sumLen at ih ⊢
    rw [List.map_cons, List.sum_cons, List.length_cons, Nat.add_mul]
    omega
/-- what stands between blanks -/
def flds (s : Tx) : List Tx := (splitT s [32]).filter fun p => !decide (p = [])
theorem flds_nil : flds [] = [] := by
  unfold flds
  rw [split_one (by decide) (by simp)]
  rfl
theorem flds_blank (s : Tx) : flds (32 :: s) = flds s := by
  have h : splitT (32 :: s) [32] = [] :: splitT s [32] := split_part (p := []) (by decide) (by simp)
  unfold flds
  rw [h, List.filter_cons]
  simp
theorem flds_blanks (k : Nat) (s : Tx) : flds (List.replicate k 32 ++ s) = flds s := by
  induction k with
  | zero => rfl
  | succ k ih => rw [List.replicate_succ, List.cons_append, flds_blank, ih]
theorem flds_part {p s : Tx} (hp : 32 ∉ p) (ne : p ≠ []) : flds (p ++ 32 :: s) = p :: flds s := by
  unfold flds
  rw [split_part (by decide) hp, List.filter_cons]
  simp [ne]
theorem flds_one {p : Tx} (hp : 32 ∉ p) (ne : p ≠ []) : flds p = [p] := by
  unfold flds
  rw [split_one (by decide) hp, List.filter_cons]
  simp [ne]
theorem mulS_blank (n : Int) : mulS [32] n = List.replicate n.toNat 32 := by
  unfold mulS
  induction n.toNat with
  | zero => rfl
  | succ k ih => rw [List.replicate_succ, List.flatten_cons, ih]; rfl
theorem split_length {c : Nat} (hc : c < 256) : ∀ (s : Tx) (acc : Tx), (TL.spl [c] 0 acc s).length ≤ s.length + 1
  | [], acc => by rw [TL.spl_nil]; simp
  | x :: s, acc => by
    by_cases h : TL.pre [c] (x :: s) = true
    · rw [TL.spl_hit h]
      have := split_length hc s []
      simp at this ⊢
      omega
    · rw [TL.spl_miss (by simpa using h)]
      have := split_length hc s (acc ++ [x])
      simp at this ⊢
      omega
theorem splitT_length {c : Nat} (hc : c < 256) (s : Tx) : (splitT s [c]).length ≤ s.length + 1 := by
  rw [splitT_eq hc]
  exact split_length hc s []
end Ty

namespace TyL
open PySem PySem.Spec PyProof.Rows L2
/-- X(), X an own exception class without own __init__ -/
theorem pmk_own0 {X : Cx} {C : Addr} {bmB : List Value} {B newId initId : String} {x : Str} {p pos : Pos} (F : ExcBaseFacts B newId initId bmB) (q : PySem.W.excIn X.K C bmB newId = true) (gC : X.mg x = some (.ref C))
    (kC : PySem.W.keepIn X.K (.ref C) = true) (r : Raises X (.ref C)) (hg : Gl X x) (hdb : (x == ("__debug__" : Str)) = false := by decide) :
    PMk X (.Call (.Name x p) [] [] pos) (fun _ H Q => Q (.ref C) none H) := by
  intro pins s σ H Q I h
  refine wpAny_Call_Name_kw (ld_glob I hg gC ?_ hdb)
  refine PySem.W.callWith_K0 I.kIn kC ?_
  show wpAny _ _ (call (.ref C) []) _ _ _
  obtain ⟨bm, N, nm, qn, bs, hdct, sn, sub, ab, col, dd, k0, k1, k2, k3, k5, mN, hC, hN, hni, T⟩ := exc_obj I.kIn q
  refine wpAny_call_exc_subT F T hC hN hni (fun h' e hm => ?_) (by decide)
  exact mk_of I hm r h (I.hok.gone hm.new)
end TyL
namespace Ty
open PySem PySem.Spec PyProof.Rows L2
open Enc (enc)
variable {G : Glob}
/-- an own exception class without __init__ -/
structure Xc (G : Glob) (mg : Str → Option Value) (nm : Str) (x : String) : Prop where
  g : mg nm = some (.ref (G.exc x))
  ex : PySem.W.excIn G.K (G.exc x) [.type "ValueError", .type "Exception", .type "BaseException", .type "object"] "ValueError.__new__" = true
  kp : PySem.W.keepIn G.K (.ref (G.exc x)) = true
  b : PySem.W.subIn G.K (.ref (G.exc x)) (.type "BaseException") = some true
  t : PySem.W.typeIn G.K (.ref (G.exc x)) = some (.type "type")
section
variable {α β ω ρ τ : Type} [iα : Rp G α] {N : NN} {Γ Γ' : Env G} {te ta tb : TE} {tt : TT} {tz ts : TS}
/-- a block that only raises: what -/
def raiseP {ω : Type} (r : Prog Exc) : Prog ω := r >>= Prog.err
theorem wp_raise {r : Prog Exc} {P : ω → Prop} {E : Exc → Prop} : wp (raiseP r : Prog ω) P E ↔ wp r E E := by
  unfold raiseP
  rw [wp_bind]
  exact Iff.rfl
def SX (N : NN) (Γ : Env G) (ts : TS) (r : Prog Exc) : Prop := ∀ σ F H D, HS N Γ σ F H → wp r (EP G N) (EP G N) → ts D σ H
theorem sx_raise0 (x : String) : SX N Γ (tSeq (fun _ σ H => N.E (.ref (G.exc x)) none H) tz) (.ok ⟨x, []⟩) := fun σ F H D hs q => q F H _ none hs.w ⟨rfl, .inl ⟨rfl, rfl⟩⟩
theorem sv_raise {J : Aim ω} {r : Prog Exc} (h : SX N Γ ts r) : SV N Γ ts J (raiseP r) := fun σ F H D hs q => h σ F H D hs (wp_raise.1 q)
theorem sv_ifraise {J : Aim ω} {m0 : Prog Bool} {r : Prog Exc} {m2 : Prog ω} (h0 : TV N Γ tt m0) (h1 : SX N Γ ts r) (h2 : SV N Γ tz J m2) : SV N Γ (tSeq (tIfS tt ts tNext) tz) J (m0 >>= fun c => if c then raiseP r else m2) := fun σ F H D hs q =>
  h0 σ F H hs _ (wp_mono (wp_bind.1 q) fun b k F' H' hs' e => by
    cases b with
    | true => exact h1 σ F' H' _ hs' (wp_raise.1 k)
    | false => exact h2 σ F' H' D hs' (wp_mono k fun o x => J.mono e x))
/-! try -/
def catchP (h : Exc → Option (Prog β)) : Prog β → Prog β
  | .ok a => .ok a
  | .err e => match h e with
    | some p => p
    | none => .err e
  | .stuck => .stuck
  | .draw n k => .draw n fun i => catchP h (k i)
theorem wp_catch {h : Exc → Option (Prog β)} {m : Prog β} {P : β → Prop} {E : Exc → Prop} : wp (catchP h m) P E ↔ wp m P (fun e => match h e with
    | some p => wp p P E
    | none => E e) := by
  induction m with
  | ok a => exact Iff.rfl
  | err e =>
    show wp (match h e with | some p => p | none => .err e) P E ↔ _
    show _ ↔ (match h e with | some p => wp p P E | none => E e)
    cases h e <;> exact Iff.rfl
  | stuck => exact Iff.rfl
  | draw n k ih => exact ⟨fun x => ⟨x.1, x.2.1, fun i a b => (ih i).1 (x.2.2 i a b)⟩, fun x => ⟨x.1, x.2.1, fun i a b => (ih i).2 (x.2.2 i a b)⟩⟩
structure Hd (β : Type) where
  c : String
  p : Prog β
  ts : Addr → Value → Option Addr → TS
def hsel (known : List String) (e : Exc) : List (String × Prog β) → Option (Prog β)
  | [] => none
  | (c, p) :: r => if e.cls = c then some p else if e.cls ∈ known then hsel known e r else some .stuck
def Plain : Env G → Prop
  | [] => True
  | e :: Γ => (match e with
    | .dead => True
    | @Ent.per _ _ _ _ => True
    | .src => True
    | _ => False) ∧ Plain Γ
theorem Plain.at : ∀ {Γ : Env G}, Plain Γ → ∀ {i : Nat} {e : Ent G}, Γ[i]? = some e → (match e with
    | .dead => True
    | @Ent.per _ _ _ _ => True
    | .src => True
    | _ => False)
  | [], _, i, e, h => by simp at h
  | e :: Γ, h, 0, e', q => by cases q; exact h.1
  | e :: Γ, h, i + 1, e', q => Plain.at h.2 (i := i) q
/-- the frame as it stands now, taken as a start -/
def NN.now (N : NN) (F H : Hp) (E : XK) : NN := ⟨F, H, fun a => ∃ p c, N.S = some (p, c) ∧ (a = p ∨ a = c), N.S, E, fun _ => none⟩
theorem HS.now {σ : L2.St} {F H : Hp} {E : XK} (hs : HS N Γ σ F H) (hp : Plain Γ) : HS (N.now F H E) Γ σ F H := by
  refine ⟨⟨hs.w.fh, Same.refl F, fun a o z => .inl z, fun a o _ z => z, fun a z => z, hs.w.sr, fun p c z => ⟨.inr ⟨p, c, z, .inl rfl⟩, .inr ⟨p, c, z, .inr rfl⟩⟩, fun a o z => (nomatch z)⟩, hs.sl.imp fun i e o h1 h2 s => ?_, hs.ds⟩
  have := hp.at h1
  cases e with
  | dead => trivial
  | per a => exact s
  | src => exact s
  | lst xs => exact this.elim
  | ins C fs w => exact this.elim
  | bor xs => exact this.elim
  | ptr p => exact this.elim
  | gen R b => exact this.elim
theorem nowB {N : NN} : ∀ a : Addr, (fun a => ∃ p c, N.S = some (p, c) ∧ (a = p ∨ a = c) : Addr → Prop) a → ∃ p c, N.S = some (p, c) ∧ N.S = some (p, c) ∧ (a = p ∨ a = c) := fun a ⟨p, c, x, y⟩ => ⟨p, c, x, x, y⟩
def hV (G : Glob) {β : Type} (l : List (Hd β)) : List (Value × (Addr → Value → Option Addr → TS)) := l.map fun h => (.ref (G.exc h.c), h.ts)
theorem many_ok {Γi : β → Env G} {known : List String} {σ : L2.St} {F H : Hp} {D : Ends} {Wout : WX} {e : Exc} {C : Value} {d : Option Addr} (hs : HS N Γ σ F H) (er : ERep G e C d F H) : ∀ (l : List (Hd β)),
    (∀ h ∈ l, ∀ a cls d, SV N Γ (h.ts a cls d) (JN N Γi) h.p) → (∀ y, ∀ h ∈ l, (y = h.c ∨ y ∈ known) → PySem.W.exmOne G.K (.ref (G.exc y)) (.ref (G.exc h.c)) = some (decide (y = h.c))) →
    (match hsel known e (l.map fun h => (h.c, h.p)) with
    | some p => wp p (fun b => (JN N Γi).J F b D) (EP G N)
    | none => Wout C d σ H) → wMany G.K Wout D (hV G l) C d σ H
  | [], _, _, q => q
  | h :: l, hsv, hx, q => by
    have eC : C = .ref (G.exc e.cls) := er.1
    unfold hV
    rw [List.map_cons]
    show ∃ b, PySem.W.exmOne G.K C (.ref (G.exc h.c)) = some b ∧ (b = true → ∀ a, H a = none → h.ts a C d D σ H) ∧ (b = false → wMany G.K Wout D (hV G l) C d σ H)
    rw [List.map_cons] at q
    unfold hsel at q
    by_cases h1 : e.cls = h.c
    · rw [if_pos h1] at q
      refine ⟨true, ?_, fun _ a _ => hsv h List.mem_cons_self a C d σ F H D hs q, fun z => (nomatch z)⟩
      rw [eC, hx e.cls h List.mem_cons_self (.inl h1), decide_eq_true h1]
    · rw [if_neg h1] at q
      by_cases h2 : e.cls ∈ known
      · rw [if_pos h2] at q
        refine ⟨false, ?_, fun z => (nomatch z), fun _ => many_ok hs er l (fun h m => hsv h (List.mem_cons_of_mem _ m)) (fun y h m => hx y h (List.mem_cons_of_mem _ m)) q⟩
        rw [eC, hx e.cls h List.mem_cons_self (.inr h2), decide_eq_false h1]
      · rw [if_neg h2] at q
        exact q.elim
theorem sv_try {Γi : β → Env G} {te : XK → TE} {m : Prog α} {b0 : β} {known : List String} {l : List (Hd β)} {J : Aim ω} {k : β → Prog ω} (hp : Plain Γ)
    (h : ∀ N' : NN, N'.S = N.S → EV N' Γ (te N'.E) m) (hw0 : ∀ σ F H, HS N Γ σ F H → HS N (Γi b0) σ F H)
    (hsv : ∀ h ∈ l, ∀ a cls d, SV N Γ (h.ts a cls d) (JN N Γi) h.p) (hx : ∀ y, ∀ h ∈ l, (y = h.c ∨ y ∈ known) → PySem.W.exmOne G.K (.ref (G.exc y)) (.ref (G.exc h.c)) = some (decide (y = h.c)))
    (hk : ∀ b, SV N (Γi b) tz J (k b)) :
    SV N Γ (tSeq (fun D σ H => tSeq (tDrop (fun σ H Q => te (fun c d H => wMany G.K (fun c d _ H => N.E c d H) D (hV G l) c d σ H) σ H Q)) tNext D σ H) tz) J (catchP (fun e => hsel known e (l.map fun h => (h.c, h.p))) (m >>= fun _ => .ok b0) >>= k) := fun σ F H D hs q => by
  have q1 := wp_catch.1 (wp_bind.1 q)
  have q2 := wp_bind.1 q1
  let E' : XK := fun c d H => wMany G.K (fun c d _ H => N.E c d H) { D with nx := tz D } (hV G l) c d σ H
  have hn : HS (N.now F H E') Γ σ F H := hs.now hp
  refine h (N.now F H E') rfl σ F H hn _ (wp_imp q2 (fun a kk v F' H' hs' e r => ?_) fun e he F' H' C d w r => ?_)
  · obtain ⟨h2, e2⟩ := hs.call nowB hs'.w
    exact hk b0 σ F' H' D (hw0 _ _ _ h2) (wp_mono kk fun o x => J.mono e2 x)
  · obtain ⟨h2, e2⟩ := hs.call nowB w
    refine many_ok (Γi := Γi) (known := known) h2 r l hsv hx ?_
    revert he
    cases hsel known e (l.map fun h => (h.c, h.p)) with
    | some p => exact fun he => wp_mono he fun b kk σ2 F2 H2 hs2 e3 => hk b σ2 F2 H2 D hs2 (wp_mono kk fun o x => J.mono (Same.trans e2 e3) x)
    | none => exact fun he => he F' H' C d h2.w r
end
end Ty

namespace Ty
open PySem PySem.Spec PyProof.Rows L2
open Enc (enc)
variable {G : Glob}
/-! an own exception with two fields -/
def SpXi2 (C : Addr) (f1 f2 : Str) : Sp := fun vs H Q _ => ∃ a v1 v2, vs = [.ref a, v1, v2] ∧ H a = some (exo a C none) ∧ ∀ dx, H dx = none → dx ≠ a → Q .non (upd (upd (upd H dx (exd dx [(f1, v1)])) a (exo a C (some dx))) dx (exd dx [(f2, v2), (f1, v1)]))
structure Xi2 (G : Glob) (mg : Str → Option Value) (nm : Str) (x : String) (f1 f2 : Str) (qual : Str) (st : Stmt) (ps : List Str) where
  f : Addr
  fd : FuncData
  Fu : Fun G.K "__init__" qual st f fd
  b : Binds G.K fd ps []
  g : mg nm = some (.ref (G.exc x))
  T : OexC G.K (G.exc x)
  iC : PySem.W.findIn G.K (.ref (G.exc x)) "__init__" = some (some (.ref f))
  tI : PySem.W.typeIn G.K (.ref f) = some (.type "function")
  n1 : PySem.W.findIn G.K (.ref (G.exc x)) f1 = some none
  n2 : PySem.W.findIn G.K (.ref (G.exc x)) f2 = some none
  xf : XfC G.K (G.exc x)
theorem fn_xi2 {P : Program} {w : World} {mg : Str → Option Value} {base : Heap} {nm f1 f2 qual : Str} {x : String} {st : Stmt} {ps Ns : List Str} (I : Xi2 G mg nm x f1 f2 qual st ps) (S : FnScope Ns ps (defScope st)) (hNs : Ns.length = 3) (hps : ps.length = 3)
    (hb : ∀ (cdv : Value) (A : Around) (outer : List PySem.Env) (s : Shared) (H : Hp) (E : XK), PSs (cxOf (L2.CX P w) P w G.K mg base Ns qual (defScope st) I.f cdv A outer s H E) (defBody st) (tSeq (tOst G.K f1 (tVar 0) (tVar 1)) (tSeq (tOst G.K f2 (tVar 0) (tVar 2)) tNext))) :
    FnOk P w G.K mg base (L2.CX P w) 1 I.f I.fd ps (SpXi2 (G.exc x) f1 f2) :=
  I.Fu.okX S (fun vs H Q E ⟨a, v1, v2, e, _⟩ => by rw [e, hps]; rfl) fun cdv A outer s H vs Q E hr ⟨a, v1, v2, e, ha, q⟩ => by
    subst e
    refine ⟨_, hb cdv A outer s H E, ?_⟩
    match Ns, hNs with
    | [m1, m2, m3], _ =>
      refine ⟨v1, rfl, .ref a, rfl, a, G.exc x, rfl, I.T, I.n1, .inl ⟨ha, fun dx hdx ne => ?_⟩⟩
      refine ⟨v2, rfl, .ref a, rfl, a, G.exc x, rfl, I.T, I.n2, .inr ⟨dx, [(f1, v1)], upd_same, ?_, by show 1 ≤ 900; decide, ?_⟩⟩
      · rw [upd_ne ne]; exact upd_same
      · exact q dx hdx ne
section
variable {α β ω : Type} [iα : Enc α] [iβ : Enc β] {N : NN} {Γ : Env G} {ta tb : TE} {tz : TS} {m1 : Prog α} {m2 : Prog β}
theorem sx_raise2 {x : String} {f1 f2 : Str} (hf : fieldsOf x = [f2, f1]) (h1 : EV N Γ ta m1) (h2 : EV N Γ tb m2) :
    SX N Γ (tSeq (fun _ σ H => tMkO (G.exc x) (SpXi2 (G.exc x) f1 f2) [] (tCons ta (tCons tb tNil)) σ H fun cls d H' => N.E cls d H') tz) (m1 >>= fun a => m2 >>= fun b => .ok ⟨x, [enc b, enc a]⟩) := fun σ F H D hs q =>
  h1 σ F H hs _ (wp_mono (wp_bind.1 q) fun a q1 v1 F1 H1 hs1 e1 r1 => h2 σ F1 H1 hs1 _ (wp_mono (wp_bind.1 q1) fun b q2 v2 F2 H2 hs2 e2 r2 => by
    refine ⟨by show 2 ≤ 1000; decide, fun e he => ⟨e, v1, v2, rfl, upd_same, fun dx hdx ne => ⟨rfl, dx, [(f2, v2), (f1, v1)], ?_, upd_same, ?_, ?_⟩⟩⟩
    · rw [upd_ne (Ne.symm ne)]; exact upd_same
    · rw [upd_ne ne] at hdx; exact hdx
    · have hd2 : H2 dx = none := by rw [upd_ne ne] at hdx; exact hdx
      obtain ⟨hs3, e3⟩ := hs2.laid (o := .xd [(f2, v2), (f1, v1)]) hd2
      have eh : upd (del (upd (upd (upd (upd H2 e (exo e (G.exc x) none)) dx (exd dx [(f1, v1)])) e (exo e (G.exc x) (some dx))) dx (exd dx [(f2, v2), (f1, v1)])) e) dx (.xd [(f2, v2), (f1, v1)]) = upd H2 dx (.xd [(f2, v2), (f1, v1)]) := by
        funext b
        by_cases hb : b = dx
        · subst hb; rw [upd_same, upd_same]
        · rw [upd_ne hb, upd_ne hb]
          by_cases hbe : b = e
          · subst hbe; rw [del_same, he]
          · rw [del_ne hbe, upd_ne hb, upd_ne hbe, upd_ne hb, upd_ne hbe]
      show N.E _ _ _
      rw [eh]
      refine q2 _ _ _ (some dx) hs3.w ⟨rfl, .inr ⟨dx, [v2, v1], rfl, ?_, by rw [hf]; rfl, .cons (dp_same e3 _ _ r2) (.cons (dp_same (Same.trans e2 e3) _ _ r1) .nil), by rw [hf]; simp⟩⟩
      rw [upd_same, hf]
      rfl))
/-- a block that calls what never comes back -/
def outP {ω : Type} (n : Prog α) : Prog ω := n >>= fun _ => .stuck
theorem wp_out {α ω : Type} {n : Prog α} {P : ω → Prop} {E : Exc → Prop} : wp (outP n : Prog ω) P E ↔ wp n (fun _ => False) E := by
  unfold outP
  rw [wp_bind]
  exact Iff.rfl
theorem sv_ifout {ρ ξ : Type} [Rp G ρ] {tt : TT} {J : Aim ω} {m0 : Prog Bool} {n : Prog (ρ × ξ)} {Γx : ξ → Env G} {m2 : Prog ω} (h0 : TV N Γ tt m0) (h1 : EVX N Γ ta n Γx) (h2 : SV N Γ tz J m2) : SV N Γ (tSeq (tIfS tt (tSeq (tDrop ta) tNext) tNext) tz) J (m0 >>= fun c => if c then outP n else m2) := fun σ F H D hs q =>
  h0 σ F H hs _ (wp_mono (wp_bind.1 q) fun b k F' H' hs' e => by
    cases b with
    | true => exact h1 σ F' H' hs' _ (wp_mono (wp_out.1 k) fun _ z => z.elim)
    | false => exact h2 σ F' H' D hs' (wp_mono k fun o x => J.mono e x))
end
/-! except X as e, of a class with fields -/
structure XObj where
  a : Addr
  dd : Addr
  cls : String
  args : List PyData
instance rpX : Rp G XObj := ⟨fun x v F => v = .ref x.a ∧ ∃ vs, F x.dd = some (.xd ((fieldsOf x.cls).zip vs)) ∧ (fieldsOf x.cls).length = vs.length ∧ DqAll G.K F vs x.args, fun e ⟨h1, vs, h2, h3, h4⟩ => ⟨h1, vs, e _ _ h2, h3, dpAll_same e _ _ h4⟩⟩
def argX (args : List PyData) (j : Nat) : Prog PyData := match args[j]? with
  | some d => .ok d
  | none => .stuck
theorem zip_lookup {n : Str} {v : V} : ∀ {ns : List Str} {vs : List V} {j : Nat}, ns.idxOf n = j → ns[j]? = some n → vs[j]? = some v → (ns.zip vs).lookup n = some v
  | [], _, j, _, h, _ => by simp at h
  | m :: ns, [], j, _, _, h => by simp at h
  | m :: ns, u :: vs, j, hi, hn, hv => by
    rw [List.zip_cons_cons, List.lookup_cons]
    rw [List.idxOf_cons] at hi
    by_cases e : m = n
    · subst e
      have hj : j = 0 := by rw [← hi]; simp
      subst hj
      have : u = v := Option.some.inj hv
      subst this
      simp
    · have e1 : (n == m) = false := beq_eq_false_iff_ne.2 fun z => e z.symm
      have e2 : (m == n) = false := beq_eq_false_iff_ne.2 e
      rw [e2] at hi
      simp at hi
      rw [e1]
      cases j with
      | zero => omega
      | succ j =>
        have hj : ns.idxOf n = j := by omega
        exact zip_lookup hj hn hv
section
variable {β ω α : Type} [iα : Rp G α] {N : NN} {Γ : Env G} {tz : TS} {i : Nat}
theorem ev_xf {x : XObj} {C : Addr} {n : Str} (j : Nat) (hi : Γ[i]? = some (.per x)) (hk : (fieldsOf x.cls).idxOf n = j) (hn : (fieldsOf x.cls)[j]? = some n) : EV N Γ (tXf x.a (.ref C) (some x.dd) C n (tVar i)) (argX x.args j) := fun σ F H hs Q q => by
  obtain ⟨o, e0, v, e1, h1, vs, h2, h3, h4⟩ := hs.sl.get hi
  subst e1 h1
  refine ⟨_, e0, rfl, rfl, x.dd, (fieldsOf x.cls).zip vs, ?_⟩
  unfold argX at q
  cases hc : x.args[j]? with
  | none => rw [hc] at q; exact q.elim
  | some d =>
    rw [hc] at q
    obtain ⟨v, hv, dv⟩ := dpAll_at (α := PyData) (xs := x.args) (F := F) (K := G.K) (vs := vs) (by rw [show x.args.map (enc : PyData → PyData) = x.args from List.map_id _]; exact h4) hc
    exact ⟨v, rfl, hs.w.fh _ _ h2, zip_lookup hk hn hv, q v F H hs (Same.refl F) dv⟩
theorem HS.drop {σ : L2.St} {F H : Hp} (hs : HS N Γ σ F H) (hi : Γ[i]? = some .dead ∨ Γ[i]? = none) (o : Option V) : HS N Γ (σ.set i o) F H := by
  refine ⟨hs.w, Slots.of (by rw [List.length_set]; exact hs.sl.len) fun j e u h1 h2 => ?_, fun j k e e' p h1 h2 o1 o2 s1 s2 => ?_⟩
  · by_cases hj : j = i
    · subst hj
      rcases hi with z | z
      · rw [z] at h1; cases h1; trivial
      · rw [z] at h1; cases h1
    · rw [List.getElem?_set_ne (Ne.symm hj)] at h2
      obtain ⟨o', e1, s⟩ := hs.sl.get h1
      rw [h2] at e1; cases e1; exact s
  · have ne : ∀ {j : Nat} {e : Ent G}, Γ[j]? = some e → e.own = true → j ≠ i := fun {j e} h o z => by
      subst z
      rcases hi with z | z
      · rw [z] at h; cases h; cases o
      · rw [z] at h; cases h
    rw [List.getElem?_set_ne (Ne.symm (ne h1 o1))] at s1
    rw [List.getElem?_set_ne (Ne.symm (ne h2 o2))] at s2
    exact hs.ds j k e e' p h1 h2 o1 o2 s1 s2
theorem sv_tryas {Γi : β → Env G} {te : XK → TE} {m : Prog α} {b0 : β} {known : List String} {c : String} {p : Exc → Prog β} {ts : Addr → Value → Option Addr → TS} {J : Aim ω} {k : β → Prog ω} (hp : Plain Γ) (hfc : fieldsOf c ≠ [])
    (h : ∀ N' : NN, N'.S = N.S → EV N' Γ (te N'.E) m) (hw0 : ∀ σ F H, HS N Γ σ F H → HS N (Γi b0) σ F H)
    (hdead : ∀ b, (Γi b)[i]? = some .dead) (harg : ∀ e : Exc, e.cls = c → e.args = [] → p e = .stuck)
    (hsv : ∀ a dd (e : Exc), e.cls = c → SV N (Γ.set i (.per (XObj.mk a dd c e.args))) (ts a (.ref (G.exc c)) (some dd)) (JN N Γi) (p e))
    (hx : ∀ y, (y = c ∨ y ∈ known) → PySem.W.exmOne G.K (.ref (G.exc y)) (.ref (G.exc c)) = some (decide (y = c)))
    (hk : ∀ b, SV N (Γi b) tz J (k b)) :
    SV N Γ (tSeq (fun D σ H => tSeq (tDrop (fun σ H Q => te (fun cl d H => wAs G.K (.ref (G.exc c)) i ts (fun cl d _ H => N.E cl d H) D cl d σ H) σ H Q)) tNext D σ H) tz) J (catchP (fun e => if e.cls = c then some (p e) else if e.cls ∈ known then none else some .stuck) (m >>= fun _ => .ok b0) >>= k) := fun σ F H D hs q => by
  have q1 := wp_catch.1 (wp_bind.1 q)
  have q2 := wp_bind.1 q1
  let E' : XK := fun cl d H => wAs G.K (.ref (G.exc c)) i ts (fun cl d _ H => N.E cl d H) { D with nx := tz D } cl d σ H
  have hn : HS (N.now F H E') Γ σ F H := hs.now hp
  refine h (N.now F H E') rfl σ F H hn _ (wp_imp q2 (fun a kk v F' H' hs' e r => ?_) fun e he F' H' C d w r => ?_)
  · obtain ⟨h2, e2⟩ := hs.call nowB hs'.w
    exact hk b0 σ F' H' D (hw0 _ _ _ h2) (wp_mono kk fun o x => J.mono e2 x)
  · obtain ⟨h2, e2⟩ := hs.call nowB w
    have eC : C = .ref (G.exc e.cls) := r.1
    show ∃ b, PySem.W.exmOne G.K C (.ref (G.exc c)) = some b ∧ _
    by_cases h1 : e.cls = c
    · rw [if_pos h1] at he
      refine ⟨true, by rw [eC, hx e.cls (.inl h1), decide_eq_true h1], fun _ a _ => ?_, fun z => (nomatch z)⟩
      rcases r.2 with ⟨ea, ed⟩ | ⟨dx, vs, ed, hF, hl, da, _⟩
      · have he : wp (p e) _ _ := he
        rw [harg e h1 ea] at he
        exact he.elim
      · subst ed
        rw [eC, h1]
        have rx : Rp.rp (G := G) (XObj.mk a dx c e.args) (.ref a) F' := ⟨rfl, vs, by rw [← h1]; exact hF, by rw [← h1]; exact hl, da⟩
        refine hsv a dx e h1 _ F' H' _ (h2.setPer i rx) (wp_mono he fun b kk σ2 F2 H2 hs2 e3 => ?_)
        exact hk b _ F2 H2 D (hs2.drop (.inl (hdead b)) none) (wp_mono kk fun o x => J.mono (Same.trans e2 e3) x)
    · rw [if_neg h1] at he
      by_cases h3 : e.cls ∈ known
      · rw [if_pos h3] at he
        exact ⟨false, by rw [eC, hx e.cls (.inr h3), decide_eq_false h1], fun z => (nomatch z), fun _ => he F' H' C d h2.w r⟩
      · rw [if_neg h3] at he
        exact he.elim
end
theorem exm_mk {K : PySem.W.Frag} {Y X : Addr} {v : Bool} (b : PySem.W.subIn K (.ref X) (.type "BaseException") = some true) (i : PySem.W.isClsIn K X = true) (t : PySem.W.typeIn K (.ref X) = some (.type "type")) (s : PySem.W.subIn K (.ref Y) (.ref X) = some v) : PySem.W.exmOne K (.ref Y) (.ref X) = some v := by
  unfold PySem.W.exmOne
  rw [if_pos (by rw [b]; rfl)]
  unfold PySem.W.kitCls
  have i' : (PySem.W.clsIn K X).isSome = true := i
  show (if ((PySem.W.clsIn K X).isSome && PySem.W.typeIn K (.ref X) == some (.type "type")) = true then PySem.W.subIn K (.ref Y) (.ref X) else none) = some v
  rw [if_pos (by rw [i', t]; simp)]
  exact s
theorem opv_ninS : OPV (G := G) (α := Tx) (β := Tx) (γ := Bool) (fun x y H Q => ∃ i j, x = .str i ∧ y = .str j ∧ Q (.bl (!(!(Builtin.Str.occurrences j i 0 j.length 1).isEmpty))) H) (fun a b => .ok (!subS a b)) := fun N Γ σ F H x y a b hs ra rb Q q => by
  have e1 : x = .str (sx a) := Scl.dp (α := Tx) ra
  have e2 : y = .str (sx b) := Scl.dp (α := Tx) rb
  exact ⟨sx a, sx b, e1, e2, q _ F H hs (Same.refl F) (.bl _)⟩
end Ty

namespace TyL
open PySem PySem.Spec PyProof.Rows L2
section
variable {X : Cx}
def rInDT (K : PySem.W.Frag) (neg : Bool) : R2 := fun x y H Q => ∃ d ds, Dp K H x d ∧ Dp K H y (.tuple ds) ∧ SeqAt.shaped d = true ∧ SeqAt.shaped (.tuple ds) = true ∧ Q (.bl (if neg then !ds.any fun z => PyData.eqv z d else ds.any fun z => PyData.eqv z d)) H
theorem op_inDT (hu : X.A.units + 65 < cLine) : OpR X (compareOp .In) (rInDT X.K false) := by
  intro pins s σ H x y v u Q I rx ry h
  obtain ⟨d, ds, hd, he, sd, se, q⟩ := h
  obtain ⟨as, r1⟩ := Dp.reads I d x v hd rx
  obtain ⟨bs, r2⟩ := Dp.reads I (.tuple ds) y u he ry
  exact SeqAt.in_tuple_reads r2 r1 (SeqAt.canLay_of_shaped se) (SeqAt.canLay_of_shaped sd) (room_in_shaped sd hu) ⟨.bl _, H, I, rfl, q⟩
theorem op_notInDT (hu : X.A.units + 65 < cLine) : OpR X (compareOp .NotIn) (rInDT X.K true) := by
  intro pins s σ H x y v u Q I rx ry h
  obtain ⟨d, ds, hd, he, sd, se, q⟩ := h
  obtain ⟨as, r1⟩ := Dp.reads I d x v hd rx
  obtain ⟨bs, r2⟩ := Dp.reads I (.tuple ds) y u he ry
  exact SeqAt.notIn_tuple_reads r2 r1 (SeqAt.canLay_of_shaped se) (SeqAt.canLay_of_shaped sd) (room_in_shaped sd hu) ⟨.bl _, H, I, rfl, q⟩
end
theorem room65 {k : Nat} {A : Around} (h : Room k A) : A.units + 65 < cLine := by
  have := h.un
  omega
end TyL
namespace Ty
open PySem PySem.Spec PyProof.Rows L2
open Enc (enc)
variable {G : Glob}
section
variable {α : Type} [iα : Enc α]
def inDT (a : α) (xs : List α) : Prog Bool := chk (SeqAt.shaped (enc a) && SeqAt.shaped (.tuple (xs.map enc))) (.ok ((xs.map enc).any fun z => PyData.eqv z (enc a)))
def inDL (a : α) (xs : List α) : Prog Bool := chk (SeqAt.shaped (enc a) && SeqAt.shaped (.list (xs.map enc))) (.ok ((xs.map enc).any fun z => PyData.eqv z (enc a)))
theorem opv_inDT : OPV (G := G) (α := α) (β := List α) (γ := Bool) (TyL.rInDT G.K false) inDT := fun N Γ σ F H x y a b hs ra rb Q q => by
  obtain ⟨h, q⟩ := wp_chk q
  obtain ⟨h1, h2⟩ := Bool.and_eq_true_iff.1 h
  exact ⟨enc a, b.map enc, dq_dp _ _ (dp_same hs.w.fh _ _ ra), dq_dp _ _ (dp_same hs.w.fh _ _ rb), h1, h2, q _ F H hs (Same.refl F) (.bl _)⟩
theorem opv_ninDT : OPV (G := G) (α := α) (β := List α) (γ := Bool) (TyL.rInDT G.K true) (fun a xs => inDT a xs >>= fun b => .ok (!b)) := fun N Γ σ F H x y a b hs ra rb Q q => by
  obtain ⟨h, q⟩ := wp_chk (wp_bind.1 q)
  obtain ⟨h1, h2⟩ := Bool.and_eq_true_iff.1 h
  exact ⟨enc a, b.map enc, dq_dp _ _ (dp_same hs.w.fh _ _ ra), dq_dp _ _ (dp_same hs.w.fh _ _ rb), h1, h2, q _ F H hs (Same.refl F) (.bl _)⟩
theorem opv_inDL : OPV (G := G) (α := α) (β := L α) (γ := Bool) (rInD G.K) (fun a xs => inDL a (un xs)) := fun N Γ σ F H x y a (b : List α) hs ra rb Q q => by
  obtain ⟨h, q⟩ := wp_chk q
  obtain ⟨h1, h2⟩ := Bool.and_eq_true_iff.1 h
  exact ⟨enc a, b.map enc, dq_dp _ _ (dp_same hs.w.fh _ _ ra), dq_dp _ _ (dp_same hs.w.fh _ _ rb), h1, h2, q _ F H hs (Same.refl F) (.bl _)⟩
theorem opv_ninDL : OPV (G := G) (α := α) (β := L α) (γ := Bool) (rNotInD G.K) (fun a xs => inDL a (un xs) >>= fun b => .ok (!b)) := fun N Γ σ F H x y a (b : List α) hs ra rb Q q => by
  obtain ⟨h, q⟩ := wp_chk (wp_bind.1 q)
  obtain ⟨h1, h2⟩ := Bool.and_eq_true_iff.1 h
  exact ⟨enc a, b.map enc, dq_dp _ _ (dp_same hs.w.fh _ _ ra), dq_dp _ _ (dp_same hs.w.fh _ _ rb), h1, h2, q _ F H hs (Same.refl F) (.bl _)⟩
end
section
variable {α : Type} [Enc α] [DecidableEq α] [Shp α]
theorem any_eqv (a : α) : ∀ xs : List α, ((xs.map enc).any fun z => PyData.eqv z (enc a)) = decide (a ∈ xs)
  | [] => by simp
  | x :: xs => by
    rw [List.map_cons, List.any_cons, any_eqv a xs, Shp.eqv]
    by_cases h : x = a
    · simp [h]
    · simp [h, Ne.symm h]
theorem inDT_dec (h : Shp.dep α ≤ 63) {a : α} {xs : List α} (ha : Shp.ok a) (hx : ∀ x ∈ xs, Shp.ok x) : inDT a xs = .ok (decide (a ∈ xs)) := by
  have k : ∀ {β : Type} [Enc β] [DecidableEq β] [Shp β], Shp.dep β ≤ 64 → ∀ a : β, Shp.ok a → SeqAt.shaped (enc a) = true := fun hd a h' => by
    simp [SeqAt.shaped, Shp.lay a h', Nat.le_trans (Shp.dle a) hd]
  have k2 : SeqAt.shaped (.tuple (xs.map enc)) = true := k (β := List α) (show Shp.dep α + 1 ≤ 64 by omega) xs hx
  unfold inDT
  rw [k (by omega) a ha, k2, any_eqv]
  rfl
theorem inDL_dec (h : Shp.dep α ≤ 63) {a : α} {xs : List α} (ha : Shp.ok a) (hx : ∀ x ∈ xs, Shp.ok x) : inDL a xs = .ok (decide (a ∈ xs)) := by
  have k : ∀ {β : Type} [Enc β] [DecidableEq β] [Shp β], Shp.dep β ≤ 64 → ∀ a : β, Shp.ok a → SeqAt.shaped (enc a) = true := fun hd a h' => by
    simp [SeqAt.shaped, Shp.lay a h', Nat.le_trans (Shp.dle a) hd]
  have k2 : SeqAt.shaped (.list (xs.map enc)) = true := k (β := L α) (show Shp.dep α + 1 ≤ 64 by omega) xs hx
  unfold inDL
  rw [k (by omega) a ha, k2, any_eqv]
  rfl
end
/-! a name that may be unset -/
def mb {α : Type} [Rp G α] (o : Option α) : Ent G := match o with
  | none => .dead
  | some a => .per a
def fromSome {α : Type} (o : Option α) : Prog α := match o with
  | some a => .ok a
  | none => .stuck
theorem ev_mb {α : Type} [iα : Rp G α] {N : NN} {Γ : Env G} {i : Nat} {o : Option α} (h : Γ[i]? = some (mb o)) : EV N Γ (tVar i) (fromSome o) := by
  cases o with
  | none => exact fun σ F H hs Q q => q.elim
  | some a => exact ev_var h
theorem ev_some_of {α : Type} [Enc α] {N : NN} {Γ : Env G} {te : TE} {m : Prog (Option α)} (h : EV N Γ te m) : EV N Γ te (m >>= fromSome) := fun σ F H hs Q q =>
  h σ F H hs Q (wp_mono (wp_bind.1 q) fun o k v F' H' hs' e r => by
    cases o with
    | none => exact k.elim
    | some a => exact k v F' H' hs' e r)
end Ty

namespace Ty
open PySem PySem.Spec PyProof.Rows L2
/-! more of split and join -/
theorem spl_sum {c : Nat} (hc : c < 256) : ∀ (s acc : Tx), sumLen (TL.spl [c] 0 acc s) + (TL.spl [c] 0 acc s).length = acc.length + s.length + 1
  | [], acc => by rw [TL.spl_nil]; simp [sumLen]
  | x :: s, acc => by
    by_cases h : TL.pre [c] (x :: s) = true
    · rw [TL.spl_hit h]
      have := spl_sum hc s []
      simp [sumLen] at this ⊢
      omega
    · rw [TL.spl_miss (by simpa using h)]
      have := spl_sum hc s (acc ++ [x])
      simp at this ⊢
      omega
theorem splitT_sum {c : Nat} (hc : c < 256) (s : Tx) : sumLen (splitT s [c]) + (splitT s [c]).length = s.length + 1 := by
  rw [splitT_eq hc, spl_sum hc]
  simp
theorem spl_mem {c : Nat} (hc : c < 256) : ∀ (s acc p : Tx), p ∈ TL.spl [c] 0 acc s → ∀ x ∈ p, x ∈ acc ∨ x ∈ s
  | [], acc, p, m, x, mx => by
    rw [TL.spl_nil] at m
    rw [List.mem_singleton.1 m] at mx
    exact .inl mx
  | y :: s, acc, p, m, x, mx => by
    by_cases h : TL.pre [c] (y :: s) = true
    · rw [TL.spl_hit h] at m
      rcases List.mem_cons.1 m with e | m
      · rw [e] at mx; exact .inl mx
      · rcases spl_mem hc s [] p m x mx with z | z
        · cases z
        · exact .inr (List.mem_cons_of_mem _ z)
    · rw [TL.spl_miss (by simpa using h)] at m
      rcases spl_mem hc s (acc ++ [y]) p m x mx with z | z
      · rcases List.mem_append.1 z with z | z
        · exact .inl z
        · rw [List.mem_singleton.1 z]; exact .inr List.mem_cons_self
      · exact .inr (List.mem_cons_of_mem _ z)
theorem splitT_mem {c : Nat} (hc : c < 256) {s p : Tx} (m : p ∈ splitT s [c]) : ∀ x ∈ p, x ∈ s := fun x mx => by
  rw [splitT_eq hc] at m
  rcases spl_mem hc s [] p m x mx with z | z
  · cases z
  · exact z
theorem sumLen_mem : ∀ {ps : List Tx} {p : Tx}, p ∈ ps → p.length ≤ sumLen ps
  | q :: ps, p, m => by
    unfold sumLen
    rw [List.map_cons, List.sum_cons]
    rcases List.mem_cons.1 m with e | m
    · rw [e]; omega
    · have := sumLen_mem m
      unfold sumLen at this
      omega
theorem splitT_part {c : Nat} (hc : c < 256) {s p : Tx} (m : p ∈ splitT s [c]) : p.length ≤ s.length := by
  have h1 := splitT_sum hc s
  have h2 := sumLen_mem m
  have h3 : 1 ≤ (splitT s [c]).length := List.length_pos_of_mem m
  omega
theorem flds_part_le {s p : Tx} (m : p ∈ flds s) : p.length ≤ s.length := splitT_part (by decide) (List.mem_filter.1 m).1
theorem flds_mem {s p : Tx} (m : p ∈ flds s) : ∀ x ∈ p, x ∈ s := splitT_mem (by decide) (List.mem_filter.1 m).1
theorem joinL_mem {a : Tx} : ∀ {ps : List Tx} {x : Nat}, x ∈ TL.joinL a ps → x ∈ a ∨ ∃ p ∈ ps, x ∈ p
  | [], x, h => by cases h
  | [p], x, h => by
    have h' : x ∈ p := by simpa [TL.joinL] using h
    exact .inr ⟨p, List.mem_cons_self, h'⟩
  | p :: q :: r, x, h => by
    simp only [TL.joinL] at h
    rcases List.mem_append.1 h with h | h
    · exact .inr ⟨p, List.mem_cons_self, h⟩
    · rcases List.mem_append.1 h with h | h
      · exact .inl h
      rcases joinL_mem (ps := q :: r) h with z | ⟨u, m, z⟩
      · exact .inl z
      · exact .inr ⟨u, List.mem_cons_of_mem _ m, z⟩
theorem sumLen_app (a b : List Tx) : sumLen (a ++ b) = sumLen a + sumLen b := by simp [sumLen]
theorem sumLen_take (ps : List Tx) (k : Nat) : sumLen (ps.take k) ≤ sumLen ps := by
  have e : sumLen (ps.take k) + sumLen (ps.drop k) = sumLen ps := by rw [← sumLen_app, List.take_append_drop]
  omega
theorem sumLen_td (ps : List Tx) (k j : Nat) (h : k ≤ j) : sumLen (ps.take k) + sumLen (ps.drop j) ≤ sumLen ps := by
  have e : sumLen (ps.take k) + sumLen (ps.drop k) = sumLen ps := by rw [← sumLen_app, List.take_append_drop]
  have e2 : ps.drop j = (ps.drop k).drop (j - k) := by rw [List.drop_drop]; congr 1; omega
  have e3 : sumLen ((ps.drop k).take (j - k)) + sumLen ((ps.drop k).drop (j - k)) = sumLen (ps.drop k) := by rw [← sumLen_app, List.take_append_drop]
  rw [e2]
  omega
end Ty

namespace TyL
open PySem PySem.Spec PyProof.Rows L2
/-! dicts whose keys are tuples, of any depth -/
mutual
def nkey : PyData → NestedKey
  | .none => .none
  | .bool b => .num (if b = true then 1 else 0)
  | .int i => .num i
  | .str x => .text x
  | .tuple ds => .tup (nkeys ds)
  | .list _ => .none
  | .dict _ => .none
def nkeys : List PyData → List NestedKey
  | [] => []
  | d :: ds => nkey d :: nkeys ds
end
mutual
def hshb : PyData → Bool
  | .none => true
  | .bool _ => true
  | .int _ => true
  | .str _ => true
  | .tuple ds => hshbs ds
  | .list _ => false
  | .dict _ => false
def hshbs : List PyData → Bool
  | [] => true
  | d :: ds => hshb d && hshbs ds
end
mutual
theorem reads_nested {h : Heap} : ∀ (d : PyData) (v : Value) (as : List Addr), Reads h v d as → hshb d = true → NestedIs h (nkey d) v
  | .none, _, _, r, _ => by cases r; exact .none
  | .bool b, _, _, r, _ => by cases r; exact .bool rfl
  | .int i, _, _, r, _ => by cases r; exact .int _ _
  | .str x, _, _, r, _ => by cases r; exact .text _ _
  | .tuple ds, _, _, r, hh => by
    cases r with
    | tuple h1 h2 h3 h4 => exact .tup h1 h2 h3 (readsAll_nested ds _ _ h4 hh)
  | .list _, _, _, _, hh => by cases hh
  | .dict _, _, _, _, hh => by cases hh
theorem readsAll_nested {h : Heap} : ∀ (ds : List PyData) (vs : List Value) (as : List Addr), ReadsAll h vs ds as → hshbs ds = true → NestedAll h (nkeys ds) vs
  | [], _, _, r, _ => by cases r; exact .nil
  | d :: ds, _, _, r, hh => by
    obtain ⟨a, b⟩ := Bool.and_eq_true_iff.1 hh
    cases r with
    | cons r1 r2 => exact .cons (reads_nested d _ _ r1 a) (readsAll_nested ds _ _ r2 b)
end
/-- the tuple at b is the key d -/
structure KeyD (K : PySem.W.Frag) (H : Hp) (d : PyData) (b : Addr) : Prop where
  dp : Dp K H (.ref b) d
  hs : hshb d = true
  de : (nkey d).depth ≤ 8
abbrev DXs := List (PyData × Addr × V)
def DXr (p : PyData × Addr × V) (q : NestedKey × Addr × Value) : Prop := nkey p.1 = q.1 ∧ p.2.1 = q.2.1 ∧ RelV p.2.2 q.2.2
def DX (P : Program) (w : World) (a : Addr) (xs : DXs) : HO := .ext fun h => (a == sysModules) = false ∧ xs.length ≤ sizeLine ∧ ∃ ys : List (NestedKey × Addr × Value), Paired DXr xs ys ∧ ∃ o es ep, h.get? a = some o ∧ o.ExactDict ∧ o.data = .dict es ep ∧ es.toList = ys.map (entryOfKey (nestedKind P w)) ∧ (ys.map (·.1)).Nodup
def lookX (xs : DXs) (k : NestedKey) : Option V := (xs.find? fun e => decide (nkey e.1 = k)).map (·.2.2)
def putX (xs : DXs) (d : PyData) (b : Addr) (v : V) : DXs := if (lookX xs (nkey d)).isSome = true then xs.map (fun e => if nkey e.1 = nkey d then (e.1, e.2.1, v) else e) else xs ++ [(d, b, v)]
theorem dxr_look : ∀ {xs : DXs} {ys : List (NestedKey × Addr × Value)} (k : NestedKey), Paired DXr xs ys → RelO (lookX xs k) ((atKey ys k).map (·.2))
  | _, _, k, .nil => trivial
  | p :: xs, q :: ys, k, .cons r t => by
    have ih := dxr_look k t
    unfold lookX atKey at ih ⊢
    rw [List.find?_cons, List.find?_cons, r.1]
    by_cases h : q.1 = k
    · rw [decide_eq_true h]
      exact r.2.2
    · rw [decide_eq_false h]
      exact ih
theorem relO_isSome {x : Option V} {y : Option Value} (r : RelO x y) : x.isSome = y.isSome := by
  cases x <;> cases y <;> first | rfl | exact r.elim
theorem dxr_at {xs : DXs} {ys : List (NestedKey × Addr × Value)} (k : NestedKey) (r : Paired DXr xs ys) : (lookX xs k).isSome = (atKey ys k).isSome := by
  have := relO_isSome (dxr_look k r)
  rw [this, Option.isSome_map]
theorem dxr_put {xs : DXs} {ys : List (NestedKey × Addr × Value)} {d : PyData} {b : Addr} {v : V} {u : Value} (r : Paired DXr xs ys) (rv : RelV v u) : Paired DXr (putX xs d b v) (storedH ys (nkey d) b u) := by
  unfold putX storedH
  rw [dxr_at _ r]
  by_cases h : (atKey ys (nkey d)).isSome = true
  · rw [if_pos h, if_pos h]
    clear h
    induction r with
    | nil => exact .nil
    | cons r t ih =>
      rename_i p q xs ys
      refine .cons ?_ ih
      unfold putAt
      dsimp only
      by_cases e : q.1 = nkey d
      · rw [if_pos (r.1.trans e), if_pos e]
        exact ⟨r.1, r.2.1, rv⟩
      · rw [if_neg (fun z => e (r.1.symm.trans z)), if_neg e]
        exact r
  · rw [if_neg h, if_neg h]
    clear h
    induction r with
    | nil => exact .cons ⟨rfl, rfl, rv⟩ .nil
    | cons r t ih => exact .cons r ih
theorem putX_len (xs : DXs) (d : PyData) (b : Addr) (v : V) : (putX xs d b v).length ≤ xs.length + 1 := by
  unfold putX
  split
  · rw [List.length_map]; omega
  · simp
theorem dx_stay {P : Program} {w : World} {a : Addr} {xs : DXs} {h1 h2 : Heap} (x : (fun h : Heap => (a == sysModules) = false ∧ xs.length ≤ sizeLine ∧ ∃ ys : List (NestedKey × Addr × Value), Paired DXr xs ys ∧ ∃ o es ep, h.get? a = some o ∧ o.ExactDict ∧ o.data = .dict es ep ∧ es.toList = ys.map (entryOfKey (nestedKind P w)) ∧ (ys.map (·.1)).Nodup) h1) (k : ∀ o, h1.get? a = some o → h2.get? a = some o) :
    (fun h : Heap => (a == sysModules) = false ∧ xs.length ≤ sizeLine ∧ ∃ ys : List (NestedKey × Addr × Value), Paired DXr xs ys ∧ ∃ o es ep, h.get? a = some o ∧ o.ExactDict ∧ o.data = .dict es ep ∧ es.toList = ys.map (entryOfKey (nestedKind P w)) ∧ (ys.map (·.1)).Nodup) h2 := by
  obtain ⟨h1, h2, ys, r, o, es, ep, ho, q⟩ := x
  exact ⟨h1, h2, ys, r, o, es, ep, k o ho, q⟩
theorem dx_new {P : Program} {w : World} {H : Hp} {h : Heap} {a : Addr} {xs : DXs} {ys : List (NestedKey × Addr × Value)} (hd : (a == sysModules) = false) (hl : xs.length ≤ sizeLine) (r : Paired DXr xs ys) (m : h.DictOfH (nestedKind P w) a ys) : ObjOk P w H h a (DX P w a xs) := by
  obtain ⟨o, es, ep, h1, h2, h3, h4, h5, h6⟩ := m
  exact ⟨⟨hd, hl, ys, r, o, es, ep, h1, h2, h3, h4, h6⟩, ⟨o, h1⟩, fun _ _ x k => dx_stay x k⟩
section
variable {X : Cx} {pins : List (Addr × Obj)} {σ : L2.St} {H : Hp} {s : Shared} {a b : Addr} {xs : DXs} {d : PyData} {A : Around} {E : Value → Shared → Prop}
theorem key_is (I : L2.Inv X pins σ H s) (k : KeyD X.K H d b) : (nestedKind X.prog X.w).is s.heap (nkey d) b := by
  obtain ⟨as, r⟩ := Dp.reads I d (.ref b) (.ref b) k.dp rfl
  exact ⟨reads_nested d _ _ r k.hs, k.de⟩
theorem dxr_keys {P : Program} {w : World} {h : Heap} : ∀ {xs : DXs} {ys : List (NestedKey × Addr × Value)}, Paired DXr xs ys → (∀ p ∈ xs, (nestedKind P w).is h (nkey p.1) p.2.1) → ∀ x ∈ ys, (nestedKind P w).is h x.1 x.2.1
  | _, _, .nil, _, x, mx => by cases mx
  | p :: xs, q :: ys, .cons r t, hk, x, mx => by
    rcases List.mem_cons.1 mx with e | mx
    · subst e
      have := hk p List.mem_cons_self
      rw [r.1, r.2.1] at this
      exact this
    · exact dxr_keys t (fun p mp => hk p (List.mem_cons_of_mem _ mp)) x mx
theorem dx_at (I : L2.Inv X pins σ H s) (e : Rd H a (DX X.prog X.w a xs)) (hk : ∀ p ∈ xs, KeyD X.K H p.1 p.2.1) : ∃ ys, Paired DXr xs ys ∧ s.heap.DictOfH (nestedKind X.prog X.w) a ys ∧ (a == sysModules) = false ∧ xs.length ≤ sizeLine := by
  obtain ⟨⟨hd, hl, ys, r, o, es, ep, h1, h2, h3, h4, h5⟩, _⟩ := e.ok I.hok
  exact ⟨ys, r, ⟨o, es, ep, h1, h2, h3, h4, dxr_keys r fun p mp => key_is I (hk p mp), h5⟩, hd, hl⟩
theorem room8 {P : Program} {w : World} (hu : A.units + 65 < cLine) : (nestedKind P w).room A.in1 := by
  show A.in1.units + 8 < cLine
  have : A.in1.units = A.units + 1 := rfl
  omega
theorem room80 {P : Program} {w : World} (hu : A.units + 65 < cLine) : (nestedKind P w).room A := by
  show A.units + 8 < cLine
  omega
theorem paired_len {α β : Type} {R : α → β → Prop} : ∀ {xs : List α} {ys : List β}, Paired R xs ys → xs.length = ys.length
  | _, _, .nil => rfl
  | _, _, .cons _ t => congrArg (· + 1) (paired_len t)
end
section
variable {X : Cx}
def rInX (P : Program) (w : World) (K : PySem.W.Frag) (neg : Bool) : R2 := fun x y H Q => ∃ a xs d b, x = .ref b ∧ y = .ref a ∧ Rd H a (DX P w a xs) ∧ (∀ p ∈ xs, KeyD K H p.1 p.2.1) ∧ KeyD K H d b ∧ Q (.bl (if neg then !(lookX xs (nkey d)).isSome else (lookX xs (nkey d)).isSome)) H
theorem val_some {kvs : List (NestedKey × Addr × Value)} {k : NestedKey} : valueAt (pairsH kvs) k = (atKey kvs k).map (·.2) := valueAt_pairsH kvs k
theorem op_inX (hu : X.A.units + 65 < cLine) : OpR X (compareOp .In) (rInX X.prog X.w X.K false) := by
  intro pins s σ H x y v u Q I rx ry h
  obtain ⟨a, xs, d, b, rfl, rfl, e, hk, kd, q⟩ := h
  obtain rfl : v = Value.ref b := rx
  obtain rfl : u = Value.ref a := ry
  obtain ⟨ys, r, m, hd, _⟩ := dx_at I e hk
  refine in_keyed (knd := nestedKind X.prog X.w) (room8 hu) (key_is I kd) hd ⟨ys, m, rfl⟩ ⟨.bl _, H, I.tok _, rfl, ?_⟩
  rw [val_some, Option.isSome_map, ← dxr_at _ r]
  exact q
theorem op_notInX (hu : X.A.units + 65 < cLine) : OpR X (compareOp .NotIn) (rInX X.prog X.w X.K true) := by
  intro pins s σ H x y v u Q I rx ry h
  obtain ⟨a, xs, d, b, rfl, rfl, e, hk, kd, q⟩ := h
  obtain rfl : v = Value.ref b := rx
  obtain rfl : u = Value.ref a := ry
  obtain ⟨ys, r, m, hd, _⟩ := dx_at I e hk
  refine notIn_keyed (knd := nestedKind X.prog X.w) (room8 hu) (key_is I kd) hd ⟨ys, m, rfl⟩ ⟨.bl _, H, I.tok _, rfl, ?_⟩
  rw [val_some, Option.isSome_map, ← dxr_at _ r]
  exact q
def rGetX (P : Program) (w : World) (K : PySem.W.Frag) : R2 := fun x y H Q => ∃ a xs d b v, x = .ref a ∧ y = .ref b ∧ Rd H a (DX P w a xs) ∧ (∀ p ∈ xs, KeyD K H p.1 p.2.1) ∧ KeyD K H d b ∧ lookX xs (nkey d) = some v ∧ Q v H
theorem pe_xget {o i : Expr} {pos : Pos} {td ty : TE} (hu : X.A.units + 65 < cLine) (ho : PE X o td) (hi : PE X i ty) (hs : NoSl i) : PE X (.Subscript o i pos) (tOp (rGetX X.prog X.w X.K) td ty) := by
  refine ⟨fun pins s σ H Q I h => ?_⟩
  refine subD_of PySem.F.slot_dict_getitem.lookup hs (thn (ho.run pins s σ H _ I h) fun u s1 ⟨x, H1, I1, rx, q1⟩ => thn (hi.run pins s1 σ H1 _ I1 q1) fun iv s2 ⟨y, H2, I2, ry, a, xs, d, b, v, ex, ey, e, hk, kd, hv, q2⟩ => ?_)
  subst ex ey
  obtain rfl : u = Value.ref a := rx
  obtain rfl : iv = Value.ref b := ry
  obtain ⟨ys, r, m, hd, _⟩ := dx_at I2 e hk
  have rl := dxr_look (nkey d) r
  rw [hv] at rl
  refine ⟨m.typeIs, ?_⟩
  cases hw : (atKey ys (nkey d)).map (·.2) with
  | none => rw [hw] at rl; exact rl.elim
  | some w' =>
    rw [hw] at rl
    exact getItem_keyed (knd := nestedKind X.prog X.w) (room8 hu) (key_is I2 kd) ⟨ys, m, rfl⟩ (by rw [val_some]; exact hw) ⟨v, H2, I2.tok _, rl, q2⟩
def IsX (P : Program) (w : World) (H : Hp) (a : Addr) : Prop := ∃ xs, Rd H a (DX P w a xs)
theorem isX_at {pins : List (Addr × Obj)} {σ : L2.St} {H : Hp} {s : Shared} {a : Addr} (I : L2.Inv X pins σ H s) (d : IsX X.prog X.w H a) : s.TypeIs (.ref a) "dict" ∧ (∀ b, Value.ref a = .ref b → ∃ ob, s.heap.get? b = some ob ∧ ob.dict = none) := by
  obtain ⟨xs, e⟩ := d
  obtain ⟨⟨hd, hl, ys, r, o, es, ep, h1, h2, h3, h4, h5⟩, _⟩ := e.ok I.hok
  refine ⟨⟨o, h1, h2.1⟩, fun b q => ?_⟩
  cases q
  exact ⟨o, h1, h2.2.1⟩
def tXGet2 (P : Program) (w : World) (K : PySem.W.Frag) (td ty tx : TE) : TE := fun σ H Q => td σ H fun x H1 => ∃ a, x = .ref a ∧ IsX P w H1 a ∧ ty σ H1 fun y H2 => tx σ H2 fun z H3 => ∃ xs d b, y = .ref b ∧ Rd H3 a (DX P w a xs) ∧ (∀ p ∈ xs, KeyD K H3 p.1 p.2.1) ∧ KeyD K H3 d b ∧ Q ((lookX xs (nkey d)).getD z) H3
theorem pe_xget2 {o e f : Expr} {apos cpos : Pos} {td ty tx : TE} (hu : X.A.units + 65 < cLine) (ho : PE X o td) (he : PE X e ty) (hf : PE X f tx) (m : M2 X o "get" apos e f cpos) : PE X (.Call (.Attribute o "get" apos) [e, f] [] cpos) (tXGet2 X.prog X.w X.K td ty tx) := by
  refine ⟨fun pins s σ H Q I h => ?_⟩
  refine wpAny_Call_method m.base m.few m.line PySem.F.plainAttrs_dict PySem.F.slot_dict_get PySem.F.type_dict_get (thn (ho.run pins s σ H _ I h) fun u s1 ⟨x, H1, I1, rx, a, ex, d, q1⟩ => ?_)
  subst ex
  obtain rfl : u = Value.ref a := rx
  obtain ⟨t1, t2⟩ := isX_at I1 d
  refine ⟨t1, t2, ?_⟩
  rw [m.trees]
  refine Calls.callWith_builtin rfl (Calls.evalArgs_plain (Calls.spliced_cons (thn (he.run pins s1 σ H1 _ I1 q1) fun iv s2 ⟨y, H2, I2, ry, q2⟩ =>
    Calls.spliced_cons (thn (hf.run pins s2 σ H2 _ I2 q2) fun fv s3 ⟨z, H3, I3, rz, xs, dd, b, ey, e, hk, kd, q3⟩ => Calls.spliced_nil ?_))))
  subst ey
  obtain rfl : iv = Value.ref b := ry
  obtain ⟨ys, r, mm, hd, _⟩ := dx_at I3 e hk
  refine getOr_keyed (knd := nestedKind X.prog X.w) (room8 hu) (key_is I3 kd) hd ⟨ys, mm, rfl⟩ ⟨_, H3, I3.tok _, ?_, q3⟩
  rw [val_some]
  have rl := dxr_look (nkey dd) r
  cases h1 : lookX xs (nkey dd) with
  | none =>
    rw [h1] at rl
    cases h2 : (atKey ys (nkey dd)).map (·.2) with
    | none => exact rz
    | some w' => rw [h2] at rl; exact rl.elim
  | some v =>
    rw [h1] at rl
    cases h2 : (atKey ys (nkey dd)).map (·.2) with
    | none => rw [h2] at rl; exact rl.elim
    | some w' => rw [h2] at rl; exact rl
def sXPut (P : Program) (w : World) (K : PySem.W.Frag) (td ty tv : TE) : TS := fun D σ H => tv σ H fun v H1 => td σ H1 fun x H2 => ty σ H2 fun y H3 => ∃ a xs d b, x = .ref a ∧ y = .ref b ∧ H3 a = some (DX P w a xs) ∧ (∀ p ∈ xs, KeyD K H3 p.1 p.2.1) ∧ KeyD K H3 d b ∧ xs.length < sizeLine ∧ D.nx σ (upd H3 a (DX P w a (putX xs d b v)))
theorem ps_xput {o i value : Expr} {pos pos' : Pos} {td ty tv : TE} (hu : X.A.units + 65 < cLine) (ho : PE X o td) (hi : PE X i ty) (hv : PE X value tv) (hs : swapsWith value (some (.Subscript o i pos')) pos.line X.env = pure false) :
    PS X (.Assign [.Subscript o i pos'] value pos) (sXPut X.prog X.w X.K td ty tv) := by
  refine ⟨fun pins s σ H D I h => ?_⟩
  refine wpAny_Assign_Subscript (thn (hv.run pins s σ H _ I h) fun r s1 ⟨v, H1, I1, rv, q1⟩ => thn (ho.run pins s1 σ H1 _ I1 q1) fun u s2 ⟨x, H2, I2, rx, q2⟩ => thn (hi.run pins s2 σ H2 _ I2 q2) fun iv s3 ⟨y, H3, I3, ry, a, xs, d, b, ex, ey, e, hk, kd, hz, q3⟩ => ?_) hs
  subst ex ey
  obtain rfl : u = Value.ref a := rx
  obtain rfl : iv = Value.ref b := ry
  obtain ⟨ys, r', m, hd, hl⟩ := dx_at I3 (.inl e) hk
  have hly := paired_len r'
  refine wpAny_setItem_heap (hsz := by omega) (knd := nestedKind X.prog X.w) (room8 hu) (key_is I3 kd) m fun h' m' hs' => ?_
  have he : ∃ q, h'.get? a = some q := let ⟨q, _, _, hq, _⟩ := m'; ⟨q, hq⟩
  refine ⟨σ, _, I3.write (x := a) (e := a) (by rw [e]; exact True.intro) (.inl rfl) (fun b q hb z => (hs'.2 b hb).trans z) he (dx_new hd (by have := putX_len xs d b v; omega) (dxr_put r' rv) m'), q3⟩
def tDNewX (P : Program) (w : World) : TE := fun _ H Q => ∀ p, H p = none → Q (.ref p) (upd H p (DX P w p []))
theorem dx_empty {P : Program} {w : World} {H : Hp} (h : Heap) (hb : sysModules < h.objs.size) : ObjOk P w H (h.push { cls := .type "dict", data := .dict #[] }) h.objs.size (DX P w h.objs.size []) :=
  dx_new (beq_eq_false_iff_ne.mpr (Ne.symm (Nat.ne_of_lt hb))) (Nat.zero_le _) .nil (Heap.DictOfH.new h)
theorem pe_dnewX {pos : Pos} : PE X (.Dict [] [] pos) (tDNewX X.prog X.w) := ⟨fun pins s σ H Q I h =>
  wpAny_Dict_empty ⟨.ref s.heap.objs.size, _, I.laid (a := s.heap.objs.size) (o := DX X.prog X.w s.heap.objs.size []) (t' := s.toks) (fun _ _ q => Heap.get?_push_of_some _ q) (Nat.le_refl _) (dx_empty s.heap I.big), rfl, h _ (I.hok.fresh (Nat.le_refl _))⟩⟩
end
end TyL

namespace TyL
open PySem PySem.Spec PyProof.Rows L2
/-! {k: v}, and walks over such dicts -/
def tDispX (P : Program) (w : World) (K : PySem.W.Frag) (tk tv : TE) : TE := fun σ H Q => ∀ p, H p = none → tk σ (upd H p (DX P w p [])) fun x H1 => tv σ H1 fun y H2 => H2 p = some (DX P w p []) ∧ ∃ d b, x = .ref b ∧ KeyD K H2 d b ∧ Q (.ref p) (upd H2 p (DX P w p [(d, b, y)]))
section
variable {X : Cx}
theorem dict_pairsA {K : Type} [DecidableEq K] {prog : Program} {w : World} {knd : HeapKind prog w K} {A : Around} {E : Value → Shared → Prop} {s : Shared} {env : PySem.Env} {keys : List (Option Expr)} {values : List Expr} {pos : Pos} {pairs : List (Sem Value × Sem Value)} {Q : Value → Shared → Prop} (hu : knd.room A)
    (hshape : (evalEachOpt keys env).zip ((evalEach values env).map fun v => do let x ← v; standAt pos; pure x) = pairs.map fun p => (some p.1, p.2)) (h0 : pairs ≠ []) (hlen : pairs.length ≤ 15)
    (h : wpAny (model prog w) A (evalPairs pairs) (fun vs s₁ => ∃ ps, CarriesH knd s₁.heap vs ps ∧ s₁.heap.DictOfH knd s.heap.objs.size [] ∧
      ∀ h' tk, h'.DictOfH knd s.heap.objs.size (storedAllH [] ps) → Heap.SameBut s.heap.objs.size s₁.heap h' → Q (.ref s.heap.objs.size) { s₁ with heap := h', toks := tk }) E
      { s with heap := s.heap.push { cls := .type "dict", data := .dict #[] } }) :
    wpAny (model prog w) A (eval (.Dict keys values pos) env) Q E s := by
  rw [arm_eval_Dict, hshape, dictDisplay_pairs pairs h0 (by omega)]
  exact wpAny_bind (wpAny_standAt (wpAny_bind (wpAny_subDictH (knd := knd) (Q := fun d s' => wpAny (model prog w) A (pure (Value.ref d)) Q E s') hu hlen
    (wpAny_mono h (fun vs s₁ h₁ => by obtain ⟨ps, hc, hm, hq⟩ := h₁; exact ⟨ps, hc, hm, fun h' tk a b => wpAny_pure (hq h' tk a b)⟩) fun _ _ e => e))))
theorem merged_one {α : Type} [DecidableEq α] (k : α) (v : Value) : merged [] [(k, v)] = [(k, v)] := rfl
theorem pe_dispX {k v : Expr} {pos : Pos} {tk tv : TE} (hu : X.A.units + 65 < cLine) (hk : PE X k tk) (hv : PE X v tv) : PE X (.Dict [some k] [v] pos) (tDispX X.prog X.w X.K tk tv) := by
  refine ⟨fun pins s σ H Q I q => ?_⟩
  have hn := I.hok.fresh (Nat.le_refl s.heap.objs.size)
  have I1 := I.laid (a := s.heap.objs.size) (o := DX X.prog X.w s.heap.objs.size []) (h' := s.heap.push { cls := .type "dict", data := .dict #[] }) (t' := s.toks) (fun _ _ q => Heap.get?_push_of_some _ q) (Nat.le_refl _) (dx_empty s.heap I.big)
  let Q' : List (V × V) → Hp → Prop := fun ps H2 => match ps with
    | [(x, y)] => H2 s.heap.objs.size = some (DX X.prog X.w s.heap.objs.size []) ∧ ∃ d b, x = V.ref b ∧ KeyD X.K H2 d b ∧ Q (.ref s.heap.objs.size) (upd H2 s.heap.objs.size (DX X.prog X.w s.heap.objs.size [(d, b, y)]))
    | _ => False
  have q' : tPairs [(tk, tv)] σ (upd H s.heap.objs.size (DX X.prog X.w s.heap.objs.size [])) Q' := q _ hn
  refine dict_pairsA (knd := nestedKind X.prog X.w) (pairs := pairTrees [some k] [v] X.env pos) (room80 hu) (by rfl) (fun z => by cases z) (by show 1 ≤ 15; decide) (thn ((pps_cons (pos := pos) hk hv pps_nil).run pins _ σ _ _ I1 q') fun ws s2 ⟨ps, H2, I2, rel, q2⟩ => ?_)
  rcases ps with _ | ⟨⟨x, y⟩, _ | ⟨_, _⟩⟩
  · exact q2.elim
  · obtain ⟨e, d, b, ex, kd, q3⟩ := q2
    cases rel with
    | @cons a0 w0 as bs r0 t =>
      cases t
      obtain ⟨w1, w2⟩ := w0
      obtain ⟨r1, r2⟩ := r0
      subst ex
      have ew : w1 = Value.ref b := r1
      subst ew
      obtain ⟨ys, r, m, hd, _⟩ := dx_at I2 (.inl e) (fun p mp => by cases mp)
      cases r
      refine ⟨[(nkey d, b, w2)], ⟨rfl, rfl, key_is I2 kd, trivial⟩, m, fun h' tk' dd hs => ⟨.ref s.heap.objs.size, _, ?_, rfl, q3⟩⟩
      have he : ∃ q, h'.get? s.heap.objs.size = some q := let ⟨q, _, _, hq, _⟩ := dd; ⟨q, hq⟩
      exact I2.write (x := s.heap.objs.size) (e := s.heap.objs.size) (by rw [e]; exact True.intro) (.inl rfl) (fun b q hb z => (hs.2 b hb).trans z) he (dx_new (ys := [(nkey d, b, w2)]) hd (by show 1 ≤ sizeLine; decide) (.cons ⟨rfl, rfl, r2⟩ .nil) dd)
  · exact q2.elim
end
/-! locked ones, walked -/
def ItkX (P : Program) (w : World) (d : Addr) (o : Obj) (xs : DXs) : It :=
  ⟨fun i H => H d = some (.frz o (DX P w d xs)) ∧ i < xs.length, fun i H x H' => H' = H ∧ ∃ e, xs[i]? = some e ∧ x = .ref e.2.1, fun i H => H d = some (.frz o (DX P w d xs)) ∧ xs.length ≤ i⟩
def ItiX (P : Program) (w : World) (d : Addr) (o : Obj) (xs : DXs) : It :=
  ⟨fun i H => H d = some (.frz o (DX P w d xs)) ∧ i < xs.length, fun i H x H' => ∃ T e, xs[i]? = some e ∧ x = .ref T ∧ H T = none ∧ H' = upd H T (.tup [.ref e.2.1, e.2.2]), fun i H => H d = some (.frz o (DX P w d xs)) ∧ xs.length ≤ i⟩
section
variable {P : Program} {w : World} {K : PySem.W.Frag} {tg : Expr} {o : Obj} {d : Addr} {es : Array DictEntry} {ep : Nat} {xs : DXs}
theorem frzX {X : Cx} {pins : List (Addr × Obj)} {σ : L2.St} {H : Hp} {s : Shared} (I : L2.Inv X pins σ H s) (h : H d = some (.frz o (DX X.prog X.w d xs))) :
    (d == sysModules) = false ∧ ∃ es ep, s.heap.DictRaw d es ep ∧ o.data = .dict es ep ∧ es.size = xs.length ∧ ∀ (i : Nat) e, xs[i]? = some e → ∃ (hi : i < es.size) (u : Value), es[i].key = .ref e.2.1 ∧ es[i].val = u ∧ RelV e.2.2 u := by
  obtain ⟨h0, ⟨hd, hl, ys, r, o', es, ep, h1, h2, h3, h4, h5⟩, _⟩ := I.hok d _ h
  rw [h0] at h1
  cases h1
  have hs := size_of_entries h4
  have hlen := paired_len r
  refine ⟨hd, es, ep, ⟨o, h0, h2, h3⟩, h3, by omega, fun i e he => ?_⟩
  have hi : i < xs.length := (List.getElem?_eq_some_iff.1 he).1
  have hi2 : i < es.size := by omega
  have hy : i < ys.length := by omega
  have e1 := entry_at h4 i
  rw [Array.getElem?_eq_getElem hi2, List.getElem?_eq_getElem hy, Option.map_some] at e1
  have e1 := Option.some.inj e1
  have rr : ∀ {xs : DXs} {ys : List (NestedKey × Addr × Value)} {i : Nat} {p q}, Paired DXr xs ys → xs[i]? = some p → ys[i]? = some q → DXr p q := by
    intro xs ys i p q r
    induction r generalizing i with
    | nil => intro z; simp at z
    | cons r t ih =>
      intro z1 z2
      cases i with
      | zero => cases z1; cases z2; exact r
      | succ i => exact ih z1 z2
  have q := rr r he (List.getElem?_eq_getElem hy)
  exact ⟨hi2, _, by rw [e1, q.2.1]; rfl, rfl, by rw [e1]; exact q.2.2⟩
theorem raw_same {X : Cx} {s : Shared} {es es' : Array DictEntry} {ep ep' : Nat} (h : o.data = .dict es ep) (h' : o.data = .dict es' ep') : es = es' ∧ ep = ep' := by
  rw [h] at h'
  cases h'
  exact ⟨rfl, rfl⟩
theorem turn_keysX (it : Addr) (hod : o.data = .dict es ep) : Turn P w K tg (ItkX P w d o xs) [it] it (fun i h => h.IsKeyIter it d i xs.length ep) where
  mem := by simp
  obj := fun i h st b hb => by
    have e : b = it := by simpa using hb
    subst e
    obtain ⟨oi, e, c, dd⟩ := st
    exact ⟨oi, e, fun v z => by rw [dd] at z; cases z⟩
  keep := fun i h h' st k => by
    obtain ⟨oi, e, c, dd⟩ := st
    exact ⟨oi, k it (by simp) oi e, c, dd⟩
  item := by
    intro X hP hw hK hc i pins s σ H E I hf st hg
    subst hP hw hK
    obtain ⟨hd, hi⟩ := hg
    obtain ⟨f0, f1, f2, f3, f4, f5⟩ := hf it (by simp)
    obtain ⟨hs, es', ep', hm, hdt, hsz, ent⟩ := frzX I hd
    obtain ⟨rfl, rfl⟩ := raw_same (X := X) (s := s) hod hdt
    obtain ⟨e, he⟩ : ∃ p, xs[i]? = some p := ⟨xs[i], List.getElem?_eq_getElem hi⟩
    obtain ⟨hi2, u, hk, hv, ru⟩ := ent i e he
    rw [← hsz] at st
    refine wpAny_pyNext_keys_item_raw st hm hi2 fun h' st' sb => ?_
    have I1 : L2.Inv X pins σ H { s with heap := h' } := I.turned (t' := s.toks) (fun b ob hb e => (sb.2 b hb).trans e) f0 f1 f3 f4 f5
    obtain ⟨oi, e1, c, dd⟩ := id st'
    refine ⟨_, rfl, go_of (s := { s with heap := h' }) e1 c dd (by decide) ⟨.ref e.2.1, H, I1, hk, ⟨rfl, e, he, rfl⟩, ?_, fun b hb => (hf b hb).1⟩⟩
    show h'.IsKeyIter it d (i + 1) xs.length _
    rw [← hsz]
    exact st'
  done := by
    intro X hP hw hK hc i pins s σ H E I hf st hg
    subst hP hw hK
    obtain ⟨hd, hi⟩ := hg
    obtain ⟨f0, f1, f2, f3, f4, f5⟩ := hf it (by simp)
    obtain ⟨hs, es', ep', hm, hdt, hsz, ent⟩ := frzX I hd
    obtain ⟨rfl, rfl⟩ := raw_same (X := X) (s := s) hod hdt
    rw [← hsz] at st
    exact wpAny_pyNext_keys_end_raw (I.ok.hd hc) st hm (by omega) fun h' eb => ⟨rfl, I.turned (t' := s.toks) (fun b ob hb e => eb b ob hb e) f0 f1 f3 f4 f5⟩
  self := fun A i s Q E st h => wpAny_pyIter_keyiter st h
theorem turn_itemsX {elts : List Expr} {kk : Nat} {tpos : Pos} (it : Addr) (hod : o.data = .dict es ep) :
    Turn P w K (.Tuple elts kk tpos) (ItiX P w d o xs) [it] it (fun i h => ∃ ok ov, IsItemIter h it d i xs.length ep ok ov) where
  mem := by simp
  obj := fun i h st b hb => by
    have e : b = it := by simpa using hb
    subst e
    obtain ⟨ok, ov, e⟩ := st
    exact ⟨_, e, fun v z => nomatch z⟩
  keep := fun i h h' st k => let ⟨ok, ov, e⟩ := st; ⟨ok, ov, k it (by simp) _ e⟩
  item := by
    intro X hP hw hK hc i pins s σ H E I hf st hg
    subst hP hw hK
    obtain ⟨hd, hi⟩ := hg
    obtain ⟨hs, es', ep', hm, hdt, hsz, ent⟩ := frzX I hd
    obtain ⟨rfl, rfl⟩ := raw_same (X := X) (s := s) hod hdt
    obtain ⟨e, he⟩ : ∃ p, xs[i]? = some p := ⟨xs[i], List.getElem?_eq_getElem hi⟩
    obtain ⟨hi2, u, hk, hv, ru⟩ := ent i e he
    obtain ⟨ok, ov, hit⟩ := st
    rw [← hsz] at hit
    have hlt : it < s.heap.objs.size := Heap.lt_size hit
    refine wpAny_pyNext_items_item_raw hit hm hi2 fun h' ho hT hz hkp => ?_
    refine ⟨_, rfl, wpAny_letOwnedTupleGo_items (s := { s with heap := h' }) ho fun h'' he' sb => ?_⟩
    rw [hk, hv] at hT
    have hT2 : h''.get? s.heap.objs.size = some { cls := .type "tuple", data := .seq #[.ref e.2.1, u] } := (sb.2 _ (Nat.ne_of_gt hlt)).trans hT
    have new : ObjOk X.prog X.w (upd H s.heap.objs.size (.tup [.ref e.2.1, e.2.2])) h'' s.heap.objs.size (.tup [.ref e.2.1, e.2.2]) :=
      ⟨by show 2 ≤ sizeLine; decide, [.ref e.2.1, u], .cons rfl (.cons ru .nil), ⟨_, hT2, rfl, _, rfl⟩⟩
    have I1 : L2.Inv X pins σ (upd H s.heap.objs.size (.tup [.ref e.2.1, e.2.2])) { s with heap := h'' } :=
      I.turnedNew (t' := s.toks) (ch := [it]) (fun b ob hb e => (sb.2 b (by simpa using hb)).trans (hkp b ob (by simpa using hb) e)) hf (Nat.le_refl _) new
    refine ⟨.ref s.heap.objs.size, _, I1, rfl, ⟨_, e, he, rfl, I.hok.fresh (Nat.le_refl _), rfl⟩, ⟨es[i].key, es[i].val, ?_⟩, fun b hb => ?_⟩
    · rw [← hsz]; exact he'
    · have e : b = it := by simpa using hb
      rw [e, upd_ne (Nat.ne_of_lt hlt)]
      exact (hf it (by simp)).1
  done := by
    intro X hP hw hK hc i pins s σ H E I hf st hg
    subst hP hw hK
    obtain ⟨hd, hi⟩ := hg
    obtain ⟨f0, f1, f2, f3, f4, f5⟩ := hf it (by simp)
    obtain ⟨hs, es', ep', hm, hdt, hsz, ent⟩ := frzX I hd
    obtain ⟨rfl, rfl⟩ := raw_same (X := X) (s := s) hod hdt
    obtain ⟨ok, ov, he⟩ := st
    rw [← hsz] at he
    exact wpAny_pyNext_items_end_raw (I.ok.hd hc) he hm (by omega) fun h' eb => ⟨rfl, I.turned (t' := s.toks) (fun b ob hb e => eb b ob hb e) f0 f1 f3 f4 f5⟩
  self := fun A i s Q E st h => let ⟨_, _, e⟩ := st; PySem.W.kcp_self e h
end
def iKeysX (P : Program) (w : World) (td : TE) : TI := fun σ H R => td σ H fun x H1 => ∃ d o xs, x = .ref d ∧ H1 d = some (.frz o (DX P w d xs)) ∧ R (ItkX P w d o xs) H1
def iItemsX (P : Program) (w : World) (td : TE) : TI := fun σ H R => td σ H fun x H1 => ∃ d o xs, x = .ref d ∧ H1 d = some (.frz o (DX P w d xs)) ∧ R (ItiX P w d o xs) H1
section
variable {X : Cx} {tg e : Expr} {td : TE} {apos cpos : Pos}
theorem pi_keysX (he : PE X e td) : PI X tg e (iKeysX X.prog X.w td) := by
  refine ⟨fun pins s σ H R I h => ?_⟩
  refine thn (he.run pins s σ H _ I h) fun u s1 ⟨x, H1, I1, rx, d, o, xs, ex, hd, q⟩ => ?_
  subst ex
  obtain rfl : u = Value.ref d := rx
  obtain ⟨hs, es, ep, hm, hdt, hsz, _⟩ := frzX I1 hd
  refine wpAny_pyIter_dict_raw hs hm (pi_one (tk := s1.toks) I1 _ (turn_keysX _ hdt) ⟨_, Heap.get?_push_size _ rfl, rfl, ?_⟩ q)
  rw [hsz] <;> rfl
theorem pi_itemsX {elts : List Expr} {kk : Nat} {tpos : Pos} (he : PE X e td) (hbase : attributeBase e "items" X.env (eval e X.env) = eval e X.env := by rfl) (hline : (apos.endLine == cpos.line) = true := by rfl) :
    PI X (.Tuple elts kk tpos) (.Call (.Attribute e "items" apos) [] [] cpos) (iItemsX X.prog X.w td) := by
  refine ⟨fun pins s σ H R I h => ?_⟩
  refine wpAny_Call_method (T := "dict") (id := "dict.items") hbase rfl hline F.plainAttrs_dict F.slot_dict_items F.type_dict_items (thn (he.run pins s σ H _ I h) fun u s1 ⟨x, H1, I1, rx, d, o, xs, ex, hd, q⟩ => ?_)
  subst ex
  obtain rfl : u = Value.ref d := rx
  obtain ⟨hs, es, ep, hm, hdt, hsz, _⟩ := frzX I1 hd
  obtain ⟨od, h1, h2, h3⟩ := id hm
  refine ⟨hm.typeIs, fun b q => by cases q; exact ⟨od, h1, h2.2.1⟩, ?_⟩
  have I2 : L2.Inv X pins σ H1 { s1 with heap := s1.heap.push { cls := .type "dict_items", data := .fields #[.ref d] } } := I1.kept (t' := s1.toks) fun b ob q => Heap.get?_push_of_some _ q
  have fin : wpAny (model X.prog X.w) X.A (pyIter (.ref s1.heap.objs.size)) (PIE X pins σ (.Tuple elts kk tpos) R) X.xe { s1 with heap := s1.heap.push { cls := .type "dict_items", data := .fields #[.ref d] } } := by
    refine wpAny_pyIter_items_raw (d := d) ⟨_, Heap.get?_push_size _ rfl, rfl, rfl⟩ (hm.at fun o e => Heap.get?_push_of_some _ e) (pi_one (tk := s1.toks) I2 _ (turn_itemsX _ hdt) ⟨.none, .none, ?_⟩ q)
    rw [← hsz]
    exact Heap.get?_push_size _ rfl
  show wpAny _ _ (callWith cpos (.builtin "dict.items") [.ref d] [] []) _ X.xe s1
  exact method_meetsIn F.slot_dict_items F.entry_dict_items rfl (PySem.evalArgs_none ⟨rfl, hm.typeIs, F.args_dict_items_1 _, _, meets_dict_items_raw d hs, ⟨es, ep, hm⟩, fin⟩)
end
end TyL

namespace Ty
open PySem PySem.Spec PyProof.Rows L2
open Enc (enc)
variable {G : Glob}
/-! ### dicts as lists of pairs -/
section
variable {κ ν : Type} [DecidableEq κ]
def dget (kvs : List (κ × ν)) (k : κ) : Option ν := (kvs.find? fun e => decide (e.1 = k)).map (·.2)
def dhas (kvs : List (κ × ν)) (k : κ) : Bool := (dget kvs k).isSome
def dput (kvs : List (κ × ν)) (k : κ) (v : ν) : List (κ × ν) := if dhas kvs k = true then kvs.map (fun e => if e.1 = k then (e.1, v) else e) else kvs ++ [(k, v)]
def dgetP (kvs : List (κ × ν)) (k : κ) : Prog ν := match dget kvs k with
  | some v => .ok v
  | none => .stuck
end
/-! ### keys -/
class Kc (κ : Type) [Enc κ] where
  dep : Nat
  inj : ∀ a b : κ, TyL.nkey (enc a) = TyL.nkey (enc b) → a = b
  hs : ∀ a : κ, TyL.hshb (enc a) = true
  de : ∀ a : κ, (TyL.nkey (enc a)).depth ≤ dep
instance : Kc Int := ⟨0, fun a b h => by
  have h' : NestedKey.num a = NestedKey.num b := h
  cases h'; rfl, fun _ => rfl, fun _ => Nat.le_refl _⟩
instance : Kc (List Nat) := ⟨0, fun a b h => by
  have h' : NestedKey.text (sx a) = NestedKey.text (sx b) := h
  exact sx_inj (NestedKey.text.inj h'), fun _ => rfl, fun _ => Nat.le_refl _⟩
instance : Kc Bool := ⟨0, fun a b h => by
  have h' : NestedKey.num (if a = true then 1 else 0) = NestedKey.num (if b = true then 1 else 0) := h
  cases a <;> cases b <;> first | rfl | (exact absurd (NestedKey.num.inj h') (by decide)), fun _ => rfl, fun _ => Nat.le_refl _⟩
section
variable {α β γ : Type} [Enc α] [Enc β] [Enc γ] [Kc α] [Kc β] [Kc γ]
theorem nkeys_inj : ∀ xs ys : List α, TyL.nkeys (xs.map enc) = TyL.nkeys (ys.map enc) → xs = ys
  | [], [], _ => rfl
  | [], _ :: _, h => by cases h
  | _ :: _, [], h => by cases h
  | x :: xs, y :: ys, h => by
    have h' : TyL.nkey (enc x) :: TyL.nkeys (xs.map enc) = TyL.nkey (enc y) :: TyL.nkeys (ys.map enc) := h
    rw [Kc.inj x y (List.cons.inj h').1, nkeys_inj xs ys (List.cons.inj h').2]
theorem hshbs_all : ∀ xs : List α, TyL.hshbs (xs.map enc) = true
  | [] => rfl
  | x :: xs => by
    show (TyL.hshb (enc x) && TyL.hshbs (xs.map enc)) = true
    rw [Kc.hs, hshbs_all xs]; rfl
theorem depth_all : ∀ xs : List α, NestedKey.depthAll (TyL.nkeys (xs.map enc)) ≤ Kc.dep α
  | [] => Nat.zero_le _
  | x :: xs => by
    show max (TyL.nkey (enc x)).depth (NestedKey.depthAll (TyL.nkeys (xs.map enc))) ≤ _
    have h1 := Kc.de x
    have h2 := depth_all xs
    omega
instance kcT : Kc (List α) := ⟨Kc.dep α + 1, fun a b h => by
  have h' : NestedKey.tup (TyL.nkeys (a.map enc)) = NestedKey.tup (TyL.nkeys (b.map enc)) := h
  exact nkeys_inj a b (NestedKey.tup.inj h'), fun a => hshbs_all a, fun a => Nat.succ_le_succ (depth_all a)⟩
instance kcP : Kc (α × β) := ⟨max (Kc.dep α) (Kc.dep β) + 1, fun a b h => by
  have h' : NestedKey.tup [TyL.nkey (enc a.1), TyL.nkey (enc a.2)] = NestedKey.tup [TyL.nkey (enc b.1), TyL.nkey (enc b.2)] := h
  have h1 := NestedKey.tup.inj h'
  have e1 := Kc.inj a.1 b.1 (List.cons.inj h1).1
  have e2 := Kc.inj a.2 b.2 (List.cons.inj (List.cons.inj h1).2).1
  exact Prod.ext e1 e2, fun a => by
  show (TyL.hshb (enc a.1) && (TyL.hshb (enc a.2) && true)) = true
  rw [Kc.hs, Kc.hs]; rfl, fun a => by
  show max (TyL.nkey (enc a.1)).depth (max (TyL.nkey (enc a.2)).depth 0) + 1 ≤ _
  have h1 := Kc.de a.1
  have h2 := Kc.de a.2
  omega⟩
instance kcT3 : Kc (T3 α β γ) := ⟨max (Kc.dep α) (max (Kc.dep β) (Kc.dep γ)) + 1, fun a b h => by
  have h' : NestedKey.tup [TyL.nkey (enc a.a), TyL.nkey (enc a.b), TyL.nkey (enc a.c)] = NestedKey.tup [TyL.nkey (enc b.a), TyL.nkey (enc b.b), TyL.nkey (enc b.c)] := h
  have h1 := NestedKey.tup.inj h'
  have e1 := Kc.inj a.a b.a (List.cons.inj h1).1
  have e2 := Kc.inj a.b b.b (List.cons.inj (List.cons.inj h1).2).1
  have e3 := Kc.inj a.c b.c (List.cons.inj (List.cons.inj (List.cons.inj h1).2).2).1
  obtain ⟨a1, a2, a3⟩ := a
  obtain ⟨b1, b2, b3⟩ := b
  simp only at e1 e2 e3
  rw [e1, e2, e3], fun a => by
  show (TyL.hshb (enc a.a) && (TyL.hshb (enc a.b) && (TyL.hshb (enc a.c) && true))) = true
  rw [Kc.hs, Kc.hs, Kc.hs]; rfl, fun a => by
  show max (TyL.nkey (enc a.a)).depth (max (TyL.nkey (enc a.b)).depth (max (TyL.nkey (enc a.c)).depth 0)) + 1 ≤ _
  have h1 := Kc.de a.a
  have h2 := Kc.de a.b
  have h3 := Kc.de a.c
  omega⟩
end
/-- keys that are tuples -/
class Kt (κ : Type) [Enc κ] : Prop where
  tup : ∀ a : κ, ∃ ds, enc a = .tuple ds
instance {α : Type} [Enc α] : Kt (List α) := ⟨fun a => ⟨_, rfl⟩⟩
instance {α β : Type} [Enc α] [Enc β] : Kt (α × β) := ⟨fun a => ⟨_, rfl⟩⟩
instance {α β γ : Type} [Enc α] [Enc β] [Enc γ] : Kt (T3 α β γ) := ⟨fun a => ⟨_, rfl⟩⟩
theorem Kt.ref {κ : Type} [Enc κ] [Kt κ] {K : PySem.W.Frag} {F : Hp} {v : V} {a : κ} (h : Dq K F v (enc a)) : ∃ b, v = .ref b := by
  obtain ⟨ds, e⟩ := Kt.tup a
  rw [e] at h
  cases h
  exact ⟨_, rfl⟩
/-! ### what stands there -/
section
variable {κ ν : Type} [Enc κ] [Enc ν]
def DxE (K : PySem.W.Frag) (F : Hp) (kv : κ × ν) (e : PyData × Addr × V) : Prop := e.1 = enc kv.1 ∧ Dq K F (.ref e.2.1) (enc kv.1) ∧ Dq K F e.2.2 (enc kv.2)
theorem dxE_mono {K : PySem.W.Frag} {F F' : Hp} (e : Same F F') : ∀ {kvs : List (κ × ν)} {ws : TyL.DXs}, Paired (DxE K F) kvs ws → Paired (DxE K F') kvs ws
  | _, _, .nil => .nil
  | _, _, .cons r t => .cons ⟨r.1, dp_same e _ _ r.2.1, dp_same e _ _ r.2.2⟩ (dxE_mono e t)
def DxAt (G : Glob) (F : Hp) (p : Addr) (u : HO) (kvs : List (κ × ν)) : Prop := ∃ ws, (u = TyL.DX G.P G.w p ws ∨ ∃ o, u = .frz o (TyL.DX G.P G.w p ws)) ∧ Paired (DxE G.K F) kvs ws
def dxR (G : Glob) (kvs : List (κ × ν)) : OwnR := ⟨fun F p u => ∃ ws, u = TyL.DX G.P G.w p ws ∧ Paired (DxE G.K F) kvs ws, fun e ⟨ws, h1, h2⟩ => ⟨ws, h1, dxE_mono e h2⟩⟩
theorem DxAt.mono {F F' : Hp} {p : Addr} {u : HO} {kvs : List (κ × ν)} (e : Same F F') (h : DxAt G F p u kvs) : DxAt G F' p u kvs := by
  obtain ⟨ws, h1, h2⟩ := h
  exact ⟨ws, h1, dxE_mono e h2⟩
/-- locked: as it stands -/
def lockR (p : Addr) (od : Obj) (u : HO) (R : OwnR) : OwnR := ⟨fun F q o => q = p ∧ o = .frz od u ∧ R.R F p u, fun e ⟨h1, h2, h3⟩ => ⟨h1, h2, R.mono e h3⟩⟩
/-- a dict that is data -/
structure Dv (κ ν : Type) where
  kvs : List (κ × ν)
instance rpDv [Kt κ] : Rp G (Dv κ ν) := ⟨fun d v F => ∃ p u, v = .ref p ∧ F p = some u ∧ DxAt G F p u d.kvs, fun e ⟨p, u, h1, h2, h3⟩ => ⟨p, u, h1, e _ _ h2, h3.mono e⟩⟩
section
variable [DecidableEq κ] [Kc κ]
theorem dx_look {K : PySem.W.Frag} {F : Hp} (k : κ) : ∀ {kvs : List (κ × ν)} {ws : TyL.DXs}, Paired (DxE K F) kvs ws → (dget kvs k = none ∧ TyL.lookX ws (TyL.nkey (enc k)) = none) ∨ ∃ a v, dget kvs k = some a ∧ TyL.lookX ws (TyL.nkey (enc k)) = some v ∧ Dq K F v (enc a)
  | _, _, .nil => .inl ⟨rfl, rfl⟩
  | kv :: kvs, e :: ws, .cons r t => by
    have ih := dx_look k t
    unfold dget TyL.lookX at ih ⊢
    rw [List.find?_cons, List.find?_cons, r.1]
    by_cases h : kv.1 = k
    · rw [decide_eq_true h, decide_eq_true (by rw [h])]
      exact .inr ⟨_, _, rfl, rfl, r.2.2⟩
    · rw [decide_eq_false h, decide_eq_false (fun z => h (Kc.inj _ _ z))]
      exact ih
theorem dx_has {K : PySem.W.Frag} {F : Hp} (k : κ) {kvs : List (κ × ν)} {ws : TyL.DXs} (h : Paired (DxE K F) kvs ws) : (TyL.lookX ws (TyL.nkey (enc k))).isSome = dhas kvs k := by
  unfold dhas
  rcases dx_look k h with ⟨a, b⟩ | ⟨x, v, a, b, _⟩ <;> rw [a, b] <;> rfl
theorem dx_put {K : PySem.W.Frag} {F : Hp} {k : κ} {a : ν} {b : Addr} {v : V} {kvs : List (κ × ν)} {ws : TyL.DXs} (h : Paired (DxE K F) kvs ws) (hk : Dq K F (.ref b) (enc k)) (hv : Dq K F v (enc a)) : Paired (DxE K F) (dput kvs k a) (TyL.putX ws (enc k) b v) := by
  unfold dput TyL.putX
  rw [dx_has k h]
  by_cases hb : dhas kvs k = true
  · rw [if_pos hb, if_pos hb]
    clear hb
    induction h with
    | nil => exact .nil
    | @cons kv e kvs ws r t ih =>
      refine .cons ?_ ih
      dsimp only
      by_cases h : kv.1 = k
      · rw [if_pos h, if_pos (show TyL.nkey e.1 = TyL.nkey (enc k) by rw [r.1, h])]
        exact ⟨r.1, r.2.1, hv⟩
      · rw [if_neg h, if_neg (fun z => h (Kc.inj _ _ (by rw [r.1] at z; exact z)))]
        exact r
  · rw [if_neg hb, if_neg hb]
    clear hb
    induction h with
    | nil => exact .cons ⟨rfl, hk, hv⟩ .nil
    | cons r t ih => exact .cons r ih
theorem dx_keyD {N : NN} {K : PySem.W.Frag} {F H : Hp} (hd : Kc.dep κ ≤ 8) (e : Same F H) {k : κ} {b : Addr} (h : Dq K F (.ref b) (enc k)) : TyL.KeyD K H (enc k) b := ⟨dq_dp _ _ (dp_same e _ _ h), Kc.hs k, Nat.le_trans (Kc.de k) hd⟩
theorem dx_keys {K : PySem.W.Frag} {F H : Hp} (hd : Kc.dep κ ≤ 8) (e : Same F H) : ∀ {kvs : List (κ × ν)} {ws : TyL.DXs}, Paired (DxE K F) kvs ws → ∀ p ∈ ws, TyL.KeyD K H p.1 p.2.1
  | _, _, .nil, p, mp => by cases mp
  | kv :: kvs, w :: ws, .cons r t, p, mp => by
    rcases List.mem_cons.1 mp with z | mp
    · subst z
      rw [r.1]
      exact dx_keyD (N := ⟨F, F, fun _ => False, none, fun _ _ _ => True, fun _ => none⟩) hd e r.2.1
    · exact dx_keys hd e t p mp
theorem dx_len {K : PySem.W.Frag} {F : Hp} {kvs : List (κ × ν)} {ws : TyL.DXs} (h : Paired (DxE K F) kvs ws) : kvs.length = ws.length := TyL.paired_len h
end
end
/-! ### the frame's own objects -/
section
variable {α β γ ω : Type} [iα : Rp G α] {N : NN} {Γ Γ' : Env G} {te ta tb tk tv : TE} {tz ts : TS} {i : Nat} {R R' : OwnR} {b : Bool}
theorem HS.genAt {σ : L2.St} {F H : Hp} (hs : HS N Γ σ F H) (hi : Γ[i]? = some (.gen R b)) : ∃ p u, σ[i]? = some (some (.ref p)) ∧ MineI N F p ∧ (b = false → N.H0 p = none) ∧ H p = some u ∧ R.R F p u ∧ Held Γ σ p := by
  obtain ⟨o, e0, p, u, e1, m, hb, hp, d⟩ := hs.sl.get hi
  subst e1
  exact ⟨p, u, e0, m, hb, hp, d, i, _, hi, rfl, e0⟩
theorem HS.putG {σ : L2.St} {F H : Hp} {p : Addr} {u : HO} (hs : HS N Γ σ F H) (hO : N.O p = none) (hi : Γ[i]? = some (.gen R b)) (hp : σ[i]? = some (some (.ref p))) (r : R'.R F p u) : HS N (Γ.set i (.gen R' b)) σ F (upd H p u) := by
  obtain ⟨p', u', e0, m, hb, h0, _, hl⟩ := hs.genAt hi
  rw [hp] at e0
  cases e0
  have h1 := ((hs.dead i).writeO (u := u) hO m (hs.notHeld hi rfl hp)).own (e := .gen R' b) i (hs.notHeld hi rfl hp) ⟨p, u, rfl, m, hb, upd_same, r⟩
  rw [List.set_set, set_id hp] at h1
  exact h1
/-- a new object -/
def EVG {γ : Type} (N : NN) (Γ : Env G) (te : TE) (m : Prog γ) (R : γ → OwnR) : Prop := ∀ σ F H, HS N Γ σ F H → ∀ Q : VK, wp m (fun a => ∀ p u F' H', HS N Γ σ F' H' → Same F F' → NewAt N Γ σ F' p → H' p = some u → (R a).R F' p u → Q (.ref p) H') (EP G N) → te σ H Q
theorem hs_newG {σ : L2.St} {F H : Hp} (hs : HS N Γ σ F H) {p : Addr} {u : HO} (hp : H p = none) : HS N Γ σ F (upd H p u) ∧ NewAt N Γ σ F p := hs_newO hs hp
theorem sv_asgG {γ : Type} {m : Prog γ} {R : γ → OwnR} {J : Aim ω} {k : γ → Prog ω} (h : EVG N Γ te m R) (hk : ∀ a, SV N (Γ.set i (.gen (R a) false)) tz J (k a)) : SV N Γ (tSeq (tAsg te (gName i)) tz) J (m >>= k) := fun σ F H D hs q =>
  h σ F H hs _ (wp_mono (wp_bind.1 q) fun a q1 p u F1 H1 hs1 e1 n hp r => hk a _ F1 H1 D (hs1.own i n.nh ⟨p, u, rfl, n.mine.weak, fun _ => n.h0, hp, r⟩) (wp_mono q1 fun o x => J.mono e1 x))
/-- the name j holds from now on what the name i held -/
theorem HS.moved {σ : L2.St} {F H : Hp} {e : Ent G} {p : Addr} (j : Nat) (hs : HS N Γ σ F H) (hi : Γ[i]? = some e) (he : e.own = true) (e0 : σ[i]? = some (some (.ref p))) (ne : i ≠ j) : HS N ((Γ.set i .dead).set j e) (σ.set j (some (.ref p))) F H := by
  obtain ⟨o, e1, s⟩ := hs.sl.get hi
  rw [e0] at e1
  cases e1
  exact (hs.dead i).own j (hs.notHeld hi he e0) s
theorem sv_moveG {j : Nat} {J : Aim ω} {k : Prog ω} (hi : Γ[i]? = some (.gen R b)) (ne : i ≠ j) (hk : SV N ((Γ.set i .dead).set j (.gen R b)) tz J k) : SV N Γ (tSeq (tAsg (tVar i) (gName j)) tz) J k := fun σ F H D hs q => by
  obtain ⟨p, u, e0, _⟩ := hs.genAt hi
  exact ⟨.ref p, e0, hk _ F H D (hs.moved j hi rfl e0 ne) q⟩
/-- from here on it is data -/
theorem HS.thawG {σ : L2.St} {F H : Hp} (hO : ∀ a, N.O a = none) (hs : HS N Γ σ F H) (hi : Γ[i]? = some (.gen R false)) : ∃ p u, σ[i]? = some (some (.ref p)) ∧ H p = some u ∧ R.R (upd F p u) p u ∧ HS N (Γ.set i .dead) σ (upd F p u) H ∧ Same F (upd F p u) := by
  obtain ⟨p, u, e0, m, hb, hp, r, hl⟩ := hs.genAt hi
  have h0 := hb rfl
  obtain ⟨hs2, e2⟩ := (hs.dead i).freeze hp ⟨m.f, h0, m.s⟩ h0 (hs.notHeld hi rfl e0) (hO p)
  exact ⟨p, u, e0, hp, R.mono e2 r, hs2, e2⟩
theorem sv_freezeG [iα : Rp G α] {a : α} {J : Aim ω} {m : Prog ω} (i : Nat) (hO : ∀ a, N.O a = none) (hi : Γ[i]? = some (.gen R false)) (hr : ∀ F p u, F p = some u → R.R F p u → iα.rp a (.ref p) F) (h : SV N (Γ.set i (.per a)) ts J m) : SV N Γ ts J m := fun σ F H D hs q => by
  obtain ⟨p, u, e0, hp, r, hs2, e2⟩ := hs.thawG hO hi
  have h3 := hs2.setPer (a := a) (v := .ref p) i (hr _ p u upd_same r)
  rw [List.set_set, set_id e0] at h3
  exact h σ _ H D h3 (wp_mono q fun o x => J.mono e2 x)
/-- the statement runs while what the name i holds is locked -/
theorem sv_lock {βs : Type} {Γi : βs → Env G} {J : Aim ω} {m : Prog βs} {k : βs → Prog ω} (hO : ∀ a, N.O a = none) (hi : Γ[i]? = some (.gen R b)) (hmu : ∀ F p u, R.R F p u → Mut (some u))
    (hb : ∀ p od u, SV N (Γ.set i (.gen (lockR p od u R) b)) (fun D => ts D) (JN N fun x => (Γi x).set i (.gen (lockR p od u R) b)) m) (hl : ∀ x, i < (Γi x).length) (hk : ∀ x, SV N ((Γi x).set i (.gen R b)) tz J (k x)) : SV N Γ (tSeq (tLock ts) tz) J (m >>= k) := fun σ F H D hs q => by
  obtain ⟨p, u, e0, m0, hb0, hp, r, hl0⟩ := hs.genAt hi
  refine ⟨p, u, hp, hmu F p u r, fun od => ?_⟩
  have hs1 : HS N (Γ.set i (.gen (lockR p od u R) b)) σ F (upd H p (.frz od u)) := hs.putG (hO p) hi e0 ⟨rfl, rfl, r⟩
  refine hb p od u σ F _ _ hs1 (wp_mono (wp_bind.1 q) fun x q1 σ2 F2 H2 hs2 e2 => ?_)
  have hi2 : ((Γi x).set i (.gen (lockR p od u R) b))[i]? = some (.gen (lockR p od u R) b) := List.getElem?_set_self (hl x)
  obtain ⟨p2, u2, f0, m2, hb2, hp2, ⟨z1, z2, r2⟩, _⟩ := hs2.genAt hi2
  subst z1 z2
  have hs3 := hs2.putG (R' := R) (u := u) (hO p2) hi2 f0 r2
  rw [List.set_set] at hs3
  exact ⟨hp2, hk x σ2 F2 _ D hs3 (wp_mono q1 fun o x => J.mono e2 x)⟩
/-- .. an expression that makes a list -/
theorem evn_lock {δ : Type} [Enc δ] {m : Prog (L δ)} (hO : ∀ a, N.O a = none) (hi : Γ[i]? = some (.gen R b)) (hmu : ∀ F p u, R.R F p u → Mut (some u))
    (hb : ∀ p od u, EVN N (Γ.set i (.gen (lockR p od u R) b)) te m) : EVN N Γ (tLockE te) m := fun σ F H hs Q q => by
  obtain ⟨p, u, e0, m0, hb0, hp, r, hl0⟩ := hs.genAt hi
  refine ⟨p, u, hp, hmu F p u r, fun od => ?_⟩
  have hs1 : HS N (Γ.set i (.gen (lockR p od u R) b)) σ F (upd H p (.frz od u)) := hs.putG (hO p) hi e0 ⟨rfl, rfl, r⟩
  have hlt : i < Γ.length := (List.getElem?_eq_some_iff.1 hi).1
  have hi2 : (Γ.set i (.gen (lockR p od u R) b))[i]? = some (.gen (lockR p od u R) b) := List.getElem?_set_self hlt
  refine hb p od u σ F _ hs1 _ (wp_mono q fun xs k p1 vs F2 H2 hs2 e2 n hv d => ?_)
  obtain ⟨p2, u2, f0, m2, hb2, hp2, ⟨z1, z2, r2⟩, hl2⟩ := hs2.genAt hi2
  subst z1 z2
  have hs3 := hs2.putG (R' := R) (u := u) (hO p2) hi2 f0 r2
  have eΓ : (Γ.set i (.gen (lockR p2 od u R) b)).set i (.gen R b) = Γ := by
    rw [List.set_set]
    apply List.ext_getElem?
    intro j
    by_cases hj : j = i
    · subst hj; rw [List.getElem?_set_self hlt, hi]
    · rw [List.getElem?_set_ne (Ne.symm hj)]
  rw [eΓ] at hs3
  have ne : p1 ≠ p2 := fun z => n.nh (z ▸ hl2)
  have hheld : ∀ q, Held Γ σ q → Held (Γ.set i (.gen (lockR p2 od u R) b)) σ q := fun q ⟨j, e, x1, x2, x3⟩ => by
    by_cases hj : j = i
    · subst hj
      rw [hi] at x1; cases x1
      exact ⟨j, _, hi2, rfl, x3⟩
    · exact ⟨j, e, by rw [List.getElem?_set_ne (Ne.symm hj)]; exact x1, x2, x3⟩
  exact ⟨hp2, k p1 vs F2 _ hs3 e2 ⟨n.mine, n.h0, fun x => n.nh (hheld _ x), n.no⟩ (by rw [upd_ne ne]; exact hv) d⟩
end
end Ty

namespace Ty
open PySem PySem.Spec PyProof.Rows L2
open Enc (enc)
variable {G : Glob}
section
variable {κ ν ω : Type} [Enc κ] [Enc ν] [DecidableEq κ] [Kc κ] [Kt κ] {N : NN} {Γ Γ' : Env G} {td tk tv tx : TE} {tz ts : TS} {i : Nat} {R R' : OwnR} {b : Bool} {kvs : List (κ × ν)}
/-! ### dicts with tuple keys -/
theorem dxR_at {F : Hp} {p : Addr} {u : HO} (h : (dxR G kvs).R F p u) : DxAt G F p u kvs := let ⟨ws, a, b⟩ := h; ⟨ws, .inl a, b⟩
theorem dxR_lock {F : Hp} {p q : Addr} {u o : HO} {od : Obj} (h : (lockR p od u (dxR G kvs)).R F q o) : DxAt G F q o kvs := by
  obtain ⟨rfl, e, ws, a, b⟩ := h
  exact ⟨ws, .inr ⟨od, by rw [e, a]⟩, b⟩
theorem dxR_mut : ∀ F p u, (dxR G kvs).R F p u → Mut (some u) := fun F p u ⟨ws, e, _⟩ => by rw [e]; exact True.intro
theorem DxAt.rd {F H : Hp} {p : Addr} {u : HO} (h : DxAt G F p u kvs) (e : H p = some u) : ∃ ws, Rd H p (TyL.DX G.P G.w p ws) ∧ Paired (DxE G.K F) kvs ws := by
  obtain ⟨ws, h1, h2⟩ := h
  refine ⟨ws, ?_, h2⟩
  rcases h1 with z | ⟨o, z⟩
  · subst z; exact .inl e
  · subst z; exact .inr ⟨o, e⟩
def EVDX (N : NN) (Γ : Env G) (td : TE) (m : Prog (List (κ × ν))) : Prop := ∀ σ F H, HS N Γ σ F H → ∀ Q : VK, wp m (fun kvs => ∀ p F' H', HS N Γ σ F' H' → Same F F' → (∀ F2 H2, HS N Γ σ F2 H2 → Same F' F2 → ∃ u, H2 p = some u ∧ DxAt G F2 p u kvs) → Q (.ref p) H') (EP G N) → td σ H Q
theorem evdx_slot (hi : Γ[i]? = some (.gen R b)) (hR : ∀ F p u, R.R F p u → DxAt G F p u kvs) : EVDX N Γ (tVar i) (.ok kvs) := fun σ F H hs Q q => by
  obtain ⟨p, u, e0, _, _, hp, r, _⟩ := hs.genAt hi
  refine ⟨.ref p, e0, q p F H hs (Same.refl F) fun F2 H2 hs2 e2 => ?_⟩
  obtain ⟨p2, u2, f0, _, _, hp2, r2, _⟩ := hs2.genAt hi
  rw [e0] at f0
  cases f0
  exact ⟨u2, hp2, hR _ _ _ r2⟩
theorem evdx_of {m : Prog (Dv κ ν)} (h : EV N Γ td m) : EVDX N Γ td (m >>= fun d => .ok d.kvs) := fun σ F H hs Q q => h σ F H hs Q (wp_mono (wp_bind.1 q) fun d k v F' H' hs' e r => by
  obtain ⟨p, u, e1, e2, e3⟩ := r
  subst e1
  exact k p F' H' hs' e fun F2 H2 hs2 e4 => ⟨u, hs2.w.fh _ _ (e4 _ _ e2), e3.mono e4⟩)
theorem ev_xin (hd : Kc.dep κ ≤ 8) {m1 : Prog κ} {m2 : Prog (List (κ × ν))} (h1 : EV N Γ tk m1) (h2 : EVDX N Γ td m2) : EV N Γ (tOp (TyL.rInX G.P G.w G.K false) tk td) (m1 >>= fun k => m2 >>= fun kvs => .ok (dhas kvs k)) := fun σ F H hs Q q =>
  h1 σ F H hs _ (wp_mono (wp_bind.1 q) fun k q1 v F1 H1 hs1 e1 r1 => h2 σ F1 H1 hs1 _ (wp_mono (wp_bind.1 q1) fun kvs q2 p F2 H2 hs2 e2 hst => by
    obtain ⟨u, hp, hx⟩ := hst F2 H2 hs2 (Same.refl F2)
    obtain ⟨ws, hr, hw⟩ := hx.rd hp
    obtain ⟨b, rfl⟩ := Kt.ref r1
    refine ⟨p, ws, enc k, b, rfl, rfl, hr, dx_keys hd hs2.w.fh hw, dx_keyD (N := N) hd hs2.w.fh (dp_same e2 _ _ r1), ?_⟩
    rw [if_neg Bool.false_ne_true, dx_has k hw]
    exact q2 _ F2 H2 hs2 (Same.trans e1 e2) (.bl _)))
theorem ev_xnin (hd : Kc.dep κ ≤ 8) {m1 : Prog κ} {m2 : Prog (List (κ × ν))} (h1 : EV N Γ tk m1) (h2 : EVDX N Γ td m2) : EV N Γ (tOp (TyL.rInX G.P G.w G.K true) tk td) (m1 >>= fun k => m2 >>= fun kvs => .ok (!dhas kvs k)) := fun σ F H hs Q q =>
  h1 σ F H hs _ (wp_mono (wp_bind.1 q) fun k q1 v F1 H1 hs1 e1 r1 => h2 σ F1 H1 hs1 _ (wp_mono (wp_bind.1 q1) fun kvs q2 p F2 H2 hs2 e2 hst => by
    obtain ⟨u, hp, hx⟩ := hst F2 H2 hs2 (Same.refl F2)
    obtain ⟨ws, hr, hw⟩ := hx.rd hp
    obtain ⟨b, rfl⟩ := Kt.ref r1
    refine ⟨p, ws, enc k, b, rfl, rfl, hr, dx_keys hd hs2.w.fh hw, dx_keyD (N := N) hd hs2.w.fh (dp_same e2 _ _ r1), ?_⟩
    rw [if_pos rfl, dx_has k hw]
    exact q2 _ F2 H2 hs2 (Same.trans e1 e2) (.bl _)))
theorem wp_dget {κ ν : Type} [DecidableEq κ] {kvs : List (κ × ν)} {k : κ} {P : ν → Prop} {E : Exc → Prop} (h : wp (dgetP kvs k) P E) : ∃ a, dget kvs k = some a ∧ P a := by
  unfold dgetP at h
  cases e : dget kvs k with
  | none => rw [e] at h; exact h.elim
  | some a => rw [e] at h; exact ⟨a, rfl, h⟩
theorem ev_xget (hd : Kc.dep κ ≤ 8) {m1 : Prog (List (κ × ν))} {m2 : Prog κ} (h1 : EVDX N Γ td m1) (h2 : EV N Γ tk m2) : EV N Γ (tOp (TyL.rGetX G.P G.w G.K) td tk) (m1 >>= fun kvs => m2 >>= fun k => dgetP kvs k) := fun σ F H hs Q q =>
  h1 σ F H hs _ (wp_mono (wp_bind.1 q) fun kvs q1 p F1 H1 hs1 e1 hst => h2 σ F1 H1 hs1 _ (wp_mono (wp_bind.1 q1) fun k q2 v F2 H2 hs2 e2 r2 => by
    obtain ⟨u, hp, hx⟩ := hst F2 H2 hs2 e2
    obtain ⟨ws, hr, hw⟩ := hx.rd hp
    obtain ⟨b, rfl⟩ := Kt.ref r2
    obtain ⟨a, ea, q3⟩ := wp_dget q2
    rcases dx_look k hw with ⟨z, _⟩ | ⟨a', v', z1, z2, z3⟩
    · rw [z] at ea; cases ea
    · rw [z1] at ea
      cases ea
      exact ⟨p, ws, enc k, b, v', rfl, rfl, hr, dx_keys hd hs2.w.fh hw, dx_keyD (N := N) hd hs2.w.fh r2, z2, q3 v' F2 H2 hs2 (Same.trans e1 e2) z3⟩))
theorem ev_xget2 (hd : Kc.dep κ ≤ 8) {m1 : Prog (List (κ × ν))} {m2 : Prog κ} {m3 : Prog ν} (h1 : EVDX N Γ td m1) (h2 : EV N Γ tk m2) (h3 : EV N Γ tx m3) : EV N Γ (TyL.tXGet2 G.P G.w G.K td tk tx) (m1 >>= fun kvs => m2 >>= fun k => m3 >>= fun d => .ok ((dget kvs k).getD d)) := fun σ F H hs Q q =>
  h1 σ F H hs _ (wp_mono (wp_bind.1 q) fun kvs q1 p F1 H1 hs1 e1 hst => by
    obtain ⟨u, hp, hx⟩ := hst F1 H1 hs1 (Same.refl F1)
    obtain ⟨ws, hr, hw⟩ := hx.rd hp
    refine ⟨p, rfl, ⟨ws, hr⟩, h2 σ F1 H1 hs1 _ (wp_mono (wp_bind.1 q1) fun k q2 v F2 H2 hs2 e2 r2 => h3 σ F2 H2 hs2 _ (wp_mono (wp_bind.1 q2) fun d q3 z F3 H3 hs3 e3 r3 => ?_))⟩
    obtain ⟨u, hp, hx⟩ := hst F3 H3 hs3 (Same.trans e2 e3)
    obtain ⟨ws, hr, hw⟩ := hx.rd hp
    obtain ⟨b, rfl⟩ := Kt.ref r2
    refine ⟨ws, enc k, b, rfl, hr, dx_keys hd hs3.w.fh hw, dx_keyD (N := N) hd hs3.w.fh (dp_same e3 _ _ r2), ?_⟩
    rcases dx_look k hw with ⟨z1, z2⟩ | ⟨a', v', z1, z2, z3⟩
    · rw [z2]
      rw [z1] at q3
      exact q3 _ F3 H3 hs3 (Same.trans e1 (Same.trans e2 e3)) r3
    · rw [z2]
      rw [z1] at q3
      exact q3 _ F3 H3 hs3 (Same.trans e1 (Same.trans e2 e3)) z3)
theorem sv_xput (hd : Kc.dep κ ≤ 8) {J : Aim ω} {m1 : Prog ν} {m2 : Prog κ} {c : ν → κ → Prog ω} (hO : ∀ a, N.O a = none) (hi : Γ[i]? = some (.gen (dxR G kvs) b)) (h1 : EV N Γ tv m1) (h2 : EV N Γ tk m2) (hk : ∀ v k, SV N (Γ.set i (.gen (dxR G (dput kvs k v)) b)) tz J (c v k)) :
    SV N Γ (tSeq (TyL.sXPut G.P G.w G.K (tVar i) tk tv) tz) J (m1 >>= fun v => m2 >>= fun k => chk (small kvs.length) (c v k)) := fun σ F H D hs q =>
  h1 σ F H hs _ (wp_mono (wp_bind.1 q) fun a q1 v F1 H1 hs1 e1 r1 => by
    obtain ⟨p, u, e0, _, _, _, _, _⟩ := hs1.genAt hi
    refine ⟨.ref p, e0, h2 σ F1 H1 hs1 _ (wp_mono (wp_bind.1 q1) fun k q2 y F2 H2 hs2 e2 r2 => ?_)⟩
    obtain ⟨hz, q3⟩ := wp_chk q2
    obtain ⟨p2, u2, f0, m2, hb2, hp2, ⟨ws, hw1, hw2⟩, hl2⟩ := hs2.genAt hi
    rw [e0] at f0
    cases f0
    obtain ⟨bb, rfl⟩ := Kt.ref r2
    subst hw1
    refine ⟨p, ws, enc k, bb, rfl, rfl, hp2, dx_keys hd hs2.w.fh hw2, dx_keyD (N := N) hd hs2.w.fh r2, by rw [← dx_len hw2]; exact small_lt hz, ?_⟩
    exact hk a k σ F2 _ D (hs2.putG (hO p) hi e0 ⟨_, rfl, dx_put hw2 r2 (dp_same e2 _ _ r1)⟩) (wp_mono q3 fun o x => J.mono (Same.trans e1 e2) x))
theorem evg_newX : EVG N Γ (TyL.tDNewX G.P G.w) (.ok ([] : List (κ × ν))) (fun kvs => dxR G kvs) := fun σ F H hs Q q p hp => by
  obtain ⟨hs2, n⟩ := hs_newG (u := TyL.DX G.P G.w p []) hs hp
  exact q p _ F _ hs2 (Same.refl F) n upd_same ⟨[], rfl, .nil⟩
theorem evg_dispX (hd : Kc.dep κ ≤ 8) {m1 : Prog κ} {m2 : Prog ν} (h1 : ∀ O, EV (N.wi N.E O) Γ tk m1) (h2 : ∀ O, EV (N.wi N.E O) Γ tv m2) : EVG N Γ (TyL.tDispX G.P G.w G.K tk tv) (m1 >>= fun k => m2 >>= fun v => .ok [(k, v)]) (fun kvs => dxR G kvs) := fun σ F H hs Q q p hp => by
  obtain ⟨hs1, n1⟩ := hs_newG (u := TyL.DX G.P G.w p []) hs hp
  have hO : HS (N.wi N.E fun a => if a = p then some (TyL.DX G.P G.w p []) else N.O a) Γ σ F (upd H p (TyL.DX G.P G.w p [])) := hs1.wi fun a o x => by
    by_cases ha : a = p
    · subst ha
      rw [if_pos rfl] at x
      exact ⟨⟨upd_same.trans x, n1.mine.f⟩, n1.mine.s⟩
    · rw [if_neg ha] at x
      exact hs1.w.os a o x
  have hON : ∀ a o, N.O a = some o → (fun a => if a = p then some (TyL.DX G.P G.w p []) else N.O a) a = some o := fun a o x => by
    have ne : a ≠ p := fun z => by rw [z, n1.no] at x; cases x
    show (if a = p then some (TyL.DX G.P G.w p []) else N.O a) = some o
    rw [if_neg ne]
    exact x
  refine h1 _ σ F _ hO _ (wp_imp (wp_bind.1 q) (fun k q1 x F1 H1 hsa e1 r1 => h2 _ σ F1 H1 hsa _ (wp_imp (wp_bind.1 q1) (fun v q2 y F2 H2 hs2 e2 r2 => ?_) fun e h => ep_wi hON e h)) fun e h => ep_wi hON e h)
  have hp2 := hs2.w.os p _ (if_pos rfl)
  have hs3 : HS N Γ σ F2 H2 := hs2.unwi fun a o x => hs2.w.os a o (hON a o x)
  obtain ⟨b, rfl⟩ := Kt.ref r1
  refine ⟨hp2.1.1, enc k, b, rfl, dx_keyD (N := N) hd hs3.w.fh (dp_same e2 _ _ r1), ?_⟩
  have hs4 : HS N Γ σ F2 (upd H2 p (TyL.DX G.P G.w p [(enc k, b, y)])) := hs3.writeO n1.no ⟨hp2.1.2, .inl n1.h0, n1.mine.s⟩ n1.nh
  exact q2 p _ F2 _ hs4 (Same.trans e1 e2) ⟨⟨hp2.1.2, n1.h0, n1.mine.s⟩, n1.h0, n1.nh, n1.no⟩ upd_same ⟨_, rfl, .cons ⟨rfl, dp_same e2 _ _ r1, r2⟩ .nil⟩
end
end Ty

namespace Ty
open PySem PySem.Spec PyProof.Rows L2
open Enc (enc)
variable {G : Glob}
/-! ### dicts with plain keys -/
class Sk (κ : Type) [Enc κ] where
  key : κ → Key
  inj : ∀ a b : κ, key a = key b → a = b
  dp : ∀ {K : PySem.W.Frag} {F : Hp} {v : V} {a : κ}, Dq K F v (enc a) → v = kV (key a)
  pd : ∀ {K : PySem.W.Frag} {F : Hp} (a : κ), Dq K F (kV (key a)) (enc a)
instance : Sk Int := ⟨.inl, fun _ _ e => Sum.inl.inj e, fun h => by cases h; rfl, fun a => .int a⟩
instance : Sk (List Nat) := ⟨fun s => .inr (sx s), fun _ _ e => sx_inj (Sum.inr.inj e), fun h => by cases h; rfl, fun a => .str _⟩
section
variable {κ ν ω : Type} [Enc κ] [Enc ν] [DecidableEq κ] [Sk κ] {N : NN} {Γ Γ' : Env G} {td tk tv tx : TE} {tz ts : TS} {i : Nat} {R R' : OwnR} {b : Bool} {kvs : List (κ × ν)}
def DkE (K : PySem.W.Frag) (F : Hp) (kv : κ × ν) (e : Key × V) : Prop := e.1 = Sk.key kv.1 ∧ Dq K F e.2 (enc kv.2)
theorem dkE_mono {K : PySem.W.Frag} {F F' : Hp} (e : Same F F') : ∀ {kvs : List (κ × ν)} {ws : List (Key × V)}, Paired (DkE K F) kvs ws → Paired (DkE K F') kvs ws
  | _, _, .nil => .nil
  | _, _, .cons r t => .cons ⟨r.1, dp_same e _ _ r.2⟩ (dkE_mono e t)
def DkAt (G : Glob) (F : Hp) (p : Addr) (u : HO) (kvs : List (κ × ν)) : Prop := ∃ ws, (u = .dK ws ∨ ∃ o, u = .frz o (.dK ws)) ∧ Paired (DkE G.K F) kvs ws
def dkR (G : Glob) (kvs : List (κ × ν)) : OwnR := ⟨fun F p u => ∃ ws, u = .dK ws ∧ Paired (DkE G.K F) kvs ws, fun e ⟨ws, h1, h2⟩ => ⟨ws, h1, dkE_mono e h2⟩⟩
theorem DkAt.mono {F F' : Hp} {p : Addr} {u : HO} {kvs : List (κ × ν)} (e : Same F F') (h : DkAt G F p u kvs) : DkAt G F' p u kvs := by
  obtain ⟨ws, h1, h2⟩ := h
  exact ⟨ws, h1, dkE_mono e h2⟩
/-- such a dict as data -/
structure Dw (κ ν : Type) where
  kvs : List (κ × ν)
instance rpDw : Rp G (Dw κ ν) := ⟨fun d v F => ∃ p u, v = .ref p ∧ F p = some u ∧ DkAt G F p u d.kvs, fun e ⟨p, u, h1, h2, h3⟩ => ⟨p, u, h1, e _ _ h2, h3.mono e⟩⟩
theorem dk_look {K : PySem.W.Frag} {F : Hp} (k : κ) : ∀ {kvs : List (κ × ν)} {ws : List (Key × V)}, Paired (DkE K F) kvs ws → (dget kvs k = none ∧ valV ws (Sk.key k) = none) ∨ ∃ a v, dget kvs k = some a ∧ valV ws (Sk.key k) = some v ∧ Dq K F v (enc a)
  | _, _, .nil => .inl ⟨rfl, rfl⟩
  | kv :: kvs, e :: ws, .cons r t => by
    have ih := dk_look k t
    unfold dget valV at ih ⊢
    rw [List.find?_cons, List.find?_cons, r.1]
    by_cases h : kv.1 = k
    · rw [decide_eq_true h, decide_eq_true (by rw [h])]
      exact .inr ⟨_, _, rfl, rfl, r.2⟩
    · rw [decide_eq_false h, decide_eq_false (fun z => h (Sk.inj _ _ z))]
      exact ih
theorem dk_has {K : PySem.W.Frag} {F : Hp} (k : κ) {kvs : List (κ × ν)} {ws : List (Key × V)} (h : Paired (DkE K F) kvs ws) : (valV ws (Sk.key k)).isSome = dhas kvs k := by
  unfold dhas
  rcases dk_look k h with ⟨a, b⟩ | ⟨x, v, a, b, _⟩ <;> rw [a, b] <;> rfl
theorem valV_any {ws : List (Key × V)} {k : Key} : (ws.any fun kv => decide (kv.1 = k)) = (valV ws k).isSome := by
  induction ws with
  | nil => rfl
  | cons e ws ih =>
    unfold valV at ih ⊢
    rw [List.any_cons, List.find?_cons, ih]
    by_cases h : e.1 = k
    · rw [decide_eq_true h]; rfl
    · rw [decide_eq_false h]; rfl
theorem dk_put {K : PySem.W.Frag} {F : Hp} {k : κ} {a : ν} {v : V} {kvs : List (κ × ν)} {ws : List (Key × V)} (h : Paired (DkE K F) kvs ws) (hv : Dq K F v (enc a)) : Paired (DkE K F) (dput kvs k a) (putK ws (Sk.key k) v) := by
  unfold dput putK
  rw [valV_any, dk_has k h]
  by_cases hb : dhas kvs k = true
  · rw [if_pos hb, if_pos hb]
    clear hb
    induction h with
    | nil => exact .nil
    | @cons kv e kvs ws r t ih =>
      refine .cons ?_ ih
      dsimp only
      by_cases h : kv.1 = k
      · rw [if_pos h, if_pos (show e.1 = Sk.key k by rw [r.1, h])]
        exact ⟨r.1, hv⟩
      · rw [if_neg h, if_neg (fun z => h (Sk.inj _ _ (by rw [r.1] at z; exact z)))]
        exact r
  · rw [if_neg hb, if_neg hb]
    clear hb
    induction h with
    | nil => exact .cons ⟨rfl, hv⟩ .nil
    | cons r t ih => exact .cons r ih
theorem dkR_at {F : Hp} {p : Addr} {u : HO} (h : (dkR G kvs).R F p u) : DkAt G F p u kvs := let ⟨ws, a, b⟩ := h; ⟨ws, .inl a, b⟩
theorem dkR_lock {F : Hp} {p q : Addr} {u o : HO} {od : Obj} (h : (lockR p od u (dkR G kvs)).R F q o) : DkAt G F q o kvs := by
  obtain ⟨rfl, e, ws, a, b⟩ := h
  exact ⟨ws, .inr ⟨od, by rw [e, a]⟩, b⟩
theorem dkR_mut : ∀ F p u, (dkR G kvs).R F p u → Mut (some u) := fun F p u ⟨ws, e, _⟩ => by rw [e]; exact True.intro
theorem DkAt.rd {F H : Hp} {p : Addr} {u : HO} (h : DkAt G F p u kvs) (e : H p = some u) : ∃ ws, Rd H p (.dK ws) ∧ Paired (DkE G.K F) kvs ws := by
  obtain ⟨ws, h1, h2⟩ := h
  refine ⟨ws, ?_, h2⟩
  rcases h1 with z | ⟨o, z⟩
  · subst z; exact .inl e
  · subst z; exact .inr ⟨o, e⟩
def EVDK (N : NN) (Γ : Env G) (td : TE) (m : Prog (List (κ × ν))) : Prop := ∀ σ F H, HS N Γ σ F H → ∀ Q : VK, wp m (fun kvs => ∀ p F' H', HS N Γ σ F' H' → Same F F' → (∀ F2 H2, HS N Γ σ F2 H2 → Same F' F2 → ∃ u, H2 p = some u ∧ DkAt G F2 p u kvs) → Q (.ref p) H') (EP G N) → td σ H Q
theorem evdk_slot (hi : Γ[i]? = some (.gen R b)) (hR : ∀ F p u, R.R F p u → DkAt G F p u kvs) : EVDK N Γ (tVar i) (.ok kvs) := fun σ F H hs Q q => by
  obtain ⟨p, u, e0, _, _, hp, r, _⟩ := hs.genAt hi
  refine ⟨.ref p, e0, q p F H hs (Same.refl F) fun F2 H2 hs2 e2 => ?_⟩
  obtain ⟨p2, u2, f0, _, _, hp2, r2, _⟩ := hs2.genAt hi
  rw [e0] at f0
  cases f0
  exact ⟨u2, hp2, hR _ _ _ r2⟩
theorem evdk_of {m : Prog (Dw κ ν)} (h : EV N Γ td m) : EVDK N Γ td (m >>= fun d => .ok d.kvs) := fun σ F H hs Q q => h σ F H hs Q (wp_mono (wp_bind.1 q) fun d k v F' H' hs' e r => by
  obtain ⟨p, u, e1, e2, e3⟩ := r
  subst e1
  exact k p F' H' hs' e fun F2 H2 hs2 e4 => ⟨u, hs2.w.fh _ _ (e4 _ _ e2), e3.mono e4⟩)
theorem pg_get {H : Hp} {p : Addr} {ws : List (Key × V)} (h : Rd H p (.dK ws)) (k : Key) : DGet H p (kV k) (valV ws k) := .inl ⟨ws, k, h, rfl, rfl⟩
theorem tv_kin {m1 : Prog κ} {m2 : Prog (List (κ × ν))} (h1 : EV N Γ tk m1) (h2 : EVDK N Γ td m2) : EV N Γ (tDIn tk td) (m1 >>= fun k => m2 >>= fun kvs => .ok (dhas kvs k)) := fun σ F H hs Q q =>
  h1 σ F H hs _ (wp_mono (wp_bind.1 q) fun k q1 v F1 H1 hs1 e1 r1 => h2 σ F1 H1 hs1 _ (wp_mono (wp_bind.1 q1) fun kvs q2 p F2 H2 hs2 e2 hst => by
    obtain ⟨u, hp, hx⟩ := hst F2 H2 hs2 (Same.refl F2)
    obtain ⟨ws, hr, hw⟩ := hx.rd hp
    have ev := Sk.dp r1
    subst ev
    exact ⟨p, _, rfl, pg_get hr _, by rw [dk_has k hw]; exact q2 _ F2 H2 hs2 (Same.trans e1 e2) (.bl _)⟩))
theorem tv_knin {m1 : Prog κ} {m2 : Prog (List (κ × ν))} (h1 : EV N Γ tk m1) (h2 : EVDK N Γ td m2) : EV N Γ (tDNotIn tk td) (m1 >>= fun k => m2 >>= fun kvs => .ok (!dhas kvs k)) := fun σ F H hs Q q =>
  h1 σ F H hs _ (wp_mono (wp_bind.1 q) fun k q1 v F1 H1 hs1 e1 r1 => h2 σ F1 H1 hs1 _ (wp_mono (wp_bind.1 q1) fun kvs q2 p F2 H2 hs2 e2 hst => by
    obtain ⟨u, hp, hx⟩ := hst F2 H2 hs2 (Same.refl F2)
    obtain ⟨ws, hr, hw⟩ := hx.rd hp
    have ev := Sk.dp r1
    subst ev
    exact ⟨p, _, rfl, pg_get hr _, by rw [dk_has k hw]; exact q2 _ F2 H2 hs2 (Same.trans e1 e2) (.bl _)⟩))
theorem ev_kget {m1 : Prog (List (κ × ν))} {m2 : Prog κ} (h1 : EVDK N Γ td m1) (h2 : EV N Γ tk m2) : EV N Γ (tDGet td tk) (m1 >>= fun kvs => m2 >>= fun k => dgetP kvs k) := fun σ F H hs Q q =>
  h1 σ F H hs _ (wp_mono (wp_bind.1 q) fun kvs q1 p F1 H1 hs1 e1 hst => h2 σ F1 H1 hs1 _ (wp_mono (wp_bind.1 q1) fun k q2 v F2 H2 hs2 e2 r2 => by
    obtain ⟨u, hp, hx⟩ := hst F2 H2 hs2 e2
    obtain ⟨ws, hr, hw⟩ := hx.rd hp
    have ev := Sk.dp r2
    subst ev
    obtain ⟨a, ea, q3⟩ := wp_dget q2
    rcases dk_look k hw with ⟨z, _⟩ | ⟨a', v', z1, z2, z3⟩
    · rw [z] at ea; cases ea
    · rw [z1] at ea
      cases ea
      exact ⟨p, v', rfl, by rw [← z2]; exact pg_get hr _, q3 v' F2 H2 hs2 (Same.trans e1 e2) z3⟩))
theorem ev_kget2 {m1 : Prog (List (κ × ν))} {m2 : Prog κ} {m3 : Prog ν} (h1 : EVDK N Γ td m1) (h2 : EV N Γ tk m2) (h3 : EV N Γ tx m3) : EV N Γ (tDGet2 td tk tx) (m1 >>= fun kvs => m2 >>= fun k => m3 >>= fun d => .ok ((dget kvs k).getD d)) := fun σ F H hs Q q =>
  h1 σ F H hs _ (wp_mono (wp_bind.1 q) fun kvs q1 p F1 H1 hs1 e1 hst => by
    obtain ⟨u, hp, hx⟩ := hst F1 H1 hs1 (Same.refl F1)
    obtain ⟨ws, hr, hw⟩ := hx.rd hp
    refine ⟨p, rfl, .inl ⟨ws, hr⟩, h2 σ F1 H1 hs1 _ (wp_mono (wp_bind.1 q1) fun k q2 v F2 H2 hs2 e2 r2 => h3 σ F2 H2 hs2 _ (wp_mono (wp_bind.1 q2) fun d q3 z F3 H3 hs3 e3 r3 => ?_))⟩
    obtain ⟨u, hp, hx⟩ := hst F3 H3 hs3 (Same.trans e2 e3)
    obtain ⟨ws, hr, hw⟩ := hx.rd hp
    have ev := Sk.dp r2
    subst ev
    refine ⟨_, pg_get hr _, ?_⟩
    rcases dk_look k hw with ⟨z1, z2⟩ | ⟨a', v', z1, z2, z3⟩
    · rw [z2]
      rw [z1] at q3
      exact q3 _ F3 H3 hs3 (Same.trans e1 (Same.trans e2 e3)) r3
    · rw [z2]
      rw [z1] at q3
      exact q3 _ F3 H3 hs3 (Same.trans e1 (Same.trans e2 e3)) z3)
/-- d.get(k, None) -/
theorem ev_kgetN {m1 : Prog (List (κ × ν))} {m2 : Prog κ} (h1 : EVDK N Γ td m1) (h2 : EV N Γ tk m2) : EV N Γ (tDGet2 td tk (tC .non)) (m1 >>= fun kvs => m2 >>= fun k => .ok (dget kvs k)) := fun σ F H hs Q q =>
  h1 σ F H hs _ (wp_mono (wp_bind.1 q) fun kvs q1 p F1 H1 hs1 e1 hst => by
    obtain ⟨u, hp, hx⟩ := hst F1 H1 hs1 (Same.refl F1)
    obtain ⟨ws, hr, hw⟩ := hx.rd hp
    refine ⟨p, rfl, .inl ⟨ws, hr⟩, h2 σ F1 H1 hs1 _ (wp_mono (wp_bind.1 q1) fun k q2 v F2 H2 hs2 e2 r2 => ?_)⟩
    obtain ⟨u, hp, hx⟩ := hst F2 H2 hs2 e2
    obtain ⟨ws, hr, hw⟩ := hx.rd hp
    have ev := Sk.dp r2
    subst ev
    refine ⟨_, pg_get hr _, ?_⟩
    rcases dk_look k hw with ⟨z1, z2⟩ | ⟨a', v', z1, z2, z3⟩
    · rw [z2]
      rw [z1] at q2
      exact q2 _ F2 H2 hs2 (Same.trans e1 e2) .non
    · rw [z2]
      rw [z1] at q2
      exact q2 _ F2 H2 hs2 (Same.trans e1 e2) z3)
theorem sv_kput {J : Aim ω} {m1 : Prog ν} {m2 : Prog κ} {c : ν → κ → Prog ω} (hO : ∀ a, N.O a = none) (hi : Γ[i]? = some (.gen (dkR G kvs) b)) (h1 : EV N Γ tv m1) (h2 : EV N Γ tk m2) (hk : ∀ v k, SV N (Γ.set i (.gen (dkR G (dput kvs k v)) b)) tz J (c v k)) :
    SV N Γ (tSeq (sDPut (tVar i) tk tv) tz) J (m1 >>= fun v => m2 >>= fun k => chk (small kvs.length) (c v k)) := fun σ F H D hs q =>
  h1 σ F H hs _ (wp_mono (wp_bind.1 q) fun a q1 v F1 H1 hs1 e1 r1 => by
    obtain ⟨p, u, e0, _, _, _, _, _⟩ := hs1.genAt hi
    refine ⟨.ref p, e0, h2 σ F1 H1 hs1 _ (wp_mono (wp_bind.1 q1) fun k q2 y F2 H2 hs2 e2 r2 => ?_)⟩
    obtain ⟨hz, q3⟩ := wp_chk q2
    obtain ⟨p2, u2, f0, m2, hb2, hp2, ⟨ws, hw1, hw2⟩, hl2⟩ := hs2.genAt hi
    rw [e0] at f0
    cases f0
    have ev := Sk.dp r2
    subst hw1 ev
    refine ⟨p, _, rfl, .inl ⟨ws, _, hp2, rfl, by rw [← TyL.paired_len hw2]; exact small_lt hz, rfl⟩, ?_⟩
    exact hk a k σ F2 _ D (hs2.putG (hO p) hi e0 ⟨_, rfl, dk_put hw2 (dp_same e2 _ _ r1)⟩) (wp_mono q3 fun o x => J.mono (Same.trans e1 e2) x))
theorem evg_newK : EVG N Γ tDNewK (.ok ([] : List (κ × ν))) (fun kvs => dkR G kvs) := fun σ F H hs Q q p hp => by
  obtain ⟨hs2, n⟩ := hs_newG (u := .dK []) hs hp
  exact q p _ F _ hs2 (Same.refl F) n upd_same ⟨[], rfl, .nil⟩
theorem evg_dispK {m1 : Prog κ} {m2 : Prog ν} (h1 : ∀ O, EV (N.wi N.E O) Γ tk m1) (h2 : ∀ O, EV (N.wi N.E O) Γ tv m2) : EVG N Γ (tDisp [(tk, tv)]) (m1 >>= fun k => m2 >>= fun v => .ok [(k, v)]) (fun kvs => dkR G kvs) := fun σ F H hs Q q p hp => by
  obtain ⟨hs1, n1⟩ := hs_newG (u := .dK []) hs hp
  have hO : HS (N.wi N.E fun a => if a = p then some (.dK []) else N.O a) Γ σ F (upd H p (.dK [])) := hs1.wi fun a o x => by
    by_cases ha : a = p
    · subst ha
      rw [if_pos rfl] at x
      exact ⟨⟨upd_same.trans x, n1.mine.f⟩, n1.mine.s⟩
    · rw [if_neg ha] at x
      exact hs1.w.os a o x
  have hON : ∀ a o, N.O a = some o → (fun a => if a = p then some (HO.dK []) else N.O a) a = some o := fun a o x => by
    have ne : a ≠ p := fun z => by rw [z, n1.no] at x; cases x
    show (if a = p then some (HO.dK []) else N.O a) = some o
    rw [if_neg ne]
    exact x
  refine h1 _ σ F _ hO _ (wp_imp (wp_bind.1 q) (fun k q1 x F1 H1 hsa e1 r1 => h2 _ σ F1 H1 hsa _ (wp_imp (wp_bind.1 q1) (fun v q2 y F2 H2 hs2 e2 r2 => ?_) fun e h => ep_wi hON e h)) fun e h => ep_wi hON e h)
  have hp2 := hs2.w.os p _ (if_pos rfl)
  have hs3 : HS N Γ σ F2 H2 := hs2.unwi fun a o x => hs2.w.os a o (hON a o x)
  have ev := Sk.dp r1
  subst ev
  refine ⟨hp2.1.1, [(Sk.key k, y)], rfl, by show 1 ≤ 15; decide, ?_⟩
  have hs4 : HS N Γ σ F2 (upd H2 p (.dK [(Sk.key k, y)])) := hs3.writeO n1.no ⟨hp2.1.2, .inl n1.h0, n1.mine.s⟩ n1.nh
  exact q2 p _ F2 _ hs4 (Same.trans e1 e2) ⟨⟨hp2.1.2, n1.h0, n1.mine.s⟩, n1.h0, n1.nh, n1.no⟩ upd_same ⟨_, rfl, .cons ⟨rfl, r2⟩ .nil⟩
/-- dict(d) -/
theorem evg_copyK {m : Prog (List (κ × ν))} (h : EVDK N Γ td m) : EVG N Γ (tCB (fun xs H Q => ∃ (a : Addr) (kvs : List (Key × V)), xs = [.ref a] ∧ Rd H a (.dK kvs) ∧ ∀ p, H p = none → Q (.ref p) (upd H p (.dK kvs))) (tCons td tNil)) m (fun kvs => dkR G kvs) := fun σ F H hs Q q =>
  h σ F H hs _ (wp_mono q fun kvs q1 p F1 H1 hs1 e1 hst => by
    obtain ⟨u, hp, hx⟩ := hst F1 H1 hs1 (Same.refl F1)
    obtain ⟨ws, hr, hw⟩ := hx.rd hp
    refine ⟨p, ws, rfl, hr, fun l hl => ?_⟩
    obtain ⟨hs2, n⟩ := hs_newG (u := .dK ws) hs1 hl
    exact q1 l _ F1 _ hs2 e1 n upd_same ⟨ws, rfl, hw⟩)
theorem dk_keysV {K : PySem.W.Frag} {F : Hp} : ∀ {kvs : List (κ × ν)} {ws : List (Key × V)}, Paired (DkE K F) kvs ws → DqAll K F (ws.map fun kv => kV kv.1) ((kvs.map (·.1)).map enc)
  | _, _, .nil => .nil
  | _, _, .cons r t => by
    refine .cons ?_ (dk_keysV t)
    dsimp only
    rw [r.1]
    exact Sk.pd _
/-- list(d) -/
theorem evn_listK {m : Prog (List (κ × ν))} (h : EVDK N Γ td m) : EVN N Γ (tCB (fun xs H Q => ∃ (a : Addr) (kvs : List (Key × V)), xs = [.ref a] ∧ Rd H a (.dK kvs) ∧ ∀ p, H p = none → Q (.ref p) (upd H p (.lst (kvs.map fun kv => kV kv.1)))) (tCons td tNil)) (m >>= fun kvs => .ok (kvs.map (·.1) : L κ)) := fun σ F H hs Q q =>
  h σ F H hs _ (wp_mono (wp_bind.1 q) fun kvs q1 p F1 H1 hs1 e1 hst => by
    obtain ⟨u, hp, hx⟩ := hst F1 H1 hs1 (Same.refl F1)
    obtain ⟨ws, hr, hw⟩ := hx.rd hp
    refine ⟨p, ws, rfl, hr, fun l hl => ?_⟩
    obtain ⟨hs2, n⟩ := hs_newlist (vs := ws.map fun kv => kV kv.1) hs1 hl
    exact q1 l _ F1 _ hs2 e1 n upd_same (dk_keysV hw))
/-- for k in d -/
theorem evi_keysK {p : Addr} {od : Obj} {u : HO} (hi : Γ[i]? = some (.gen (lockR p od u (dkR G kvs)) b)) : EVI (G := G) (α := κ) N Γ (iKeys (tVar i)) (.ok (kvs.map (·.1))) (fun Γ' => Γ'[i]? = some (.gen (lockR p od u (dkR G kvs)) b)) := fun σ F H hs R q => by
  obtain ⟨p1, u1, e0, _, _, hp, ⟨z1, z2, ws, z3, hw⟩, _⟩ := hs.genAt hi
  subst z1 z2 z3
  have hl := TyL.paired_len hw
  refine ⟨.ref p1, e0, p1, od, rfl, .inl ⟨ws, hp, q F H _ hs (Same.refl F) fun N1 Γ' hΓ => ⟨fun j σ' F' H' hs' e' hj => ?_, fun j a σ' F' H' x H2 hs' e' hx y => ?_, fun j σ' F' H' hs' e' hj => ?_⟩⟩⟩
  · obtain ⟨p2, u2, f0, _, _, hp2, ⟨y1, y2, _⟩, _⟩ := hs'.genAt hΓ
    subst y1 y2
    exact ⟨hp2, by rw [List.length_map] at hj; omega⟩
  · obtain ⟨e2, k, v, hk, ex⟩ := y
    have rr : ∀ {kvs : List (κ × ν)} {ws : List (Key × V)} {j : Nat} {a} {kv : Key × V}, Paired (DkE G.K F) kvs ws → (kvs.map (·.1))[j]? = some a → ws[j]? = some kv → kv.1 = Sk.key a := by
      intro kvs ws j a kv r
      induction r generalizing j with
      | nil => intro z; simp at z
      | cons r t ih =>
        intro z1 z2
        cases j with
        | zero => cases z1; cases z2; exact r.1
        | succ j => exact ih (j := j) z1 z2
    have := rr hw hx hk
    refine .inl ⟨e2, ?_⟩
    rw [ex, show k = Sk.key a from this]
    exact Sk.pd a
  · obtain ⟨p2, u2, f0, _, _, hp2, ⟨y1, y2, _⟩, _⟩ := hs'.genAt hΓ
    subst y1 y2
    exact ⟨hp2, by rw [List.length_map] at hj; omega⟩
end
section
variable {κ ν ω : Type} [Enc κ] [Enc ν] [DecidableEq κ] [Kc κ] [Kt κ] {N : NN} {Γ Γ' : Env G} {i : Nat} {b : Bool} {kvs : List (κ × ν)}
theorem dx_pair {K : PySem.W.Frag} {F : Hp} : ∀ {kvs : List (κ × ν)} {ws : TyL.DXs} {j : Nat} {kv : κ × ν} {e : PyData × Addr × V}, Paired (DxE K F) kvs ws → kvs[j]? = some kv → ws[j]? = some e → DxE K F kv e
  | _, _, j, _, _, .nil, z, _ => by simp at z
  | _, _, 0, _, _, .cons r t, z1, z2 => by cases z1; cases z2; exact r
  | _, _, j + 1, _, _, .cons r t, z1, z2 => dx_pair (j := j) t z1 z2
theorem evi_keysX {p : Addr} {od : Obj} {u : HO} (hi : Γ[i]? = some (.gen (lockR p od u (dxR G kvs)) b)) : EVI (G := G) (α := κ) N Γ (TyL.iKeysX G.P G.w (tVar i)) (.ok (kvs.map (·.1))) (fun Γ' => Γ'[i]? = some (.gen (lockR p od u (dxR G kvs)) b)) := fun σ F H hs R q => by
  obtain ⟨p1, u1, e0, _, _, hp, ⟨z1, z2, ws, z3, hw⟩, _⟩ := hs.genAt hi
  subst z1 z2 z3
  have hl := dx_len hw
  refine ⟨.ref p1, e0, p1, od, ws, rfl, hp, q F H _ hs (Same.refl F) fun N1 Γ' hΓ => ⟨fun j σ' F' H' hs' e' hj => ?_, fun j a σ' F' H' x H2 hs' e' hx y => ?_, fun j σ' F' H' hs' e' hj => ?_⟩⟩
  · obtain ⟨p2, u2, f0, _, _, hp2, ⟨y1, y2, _⟩, _⟩ := hs'.genAt hΓ
    subst y1 y2
    exact ⟨hp2, by rw [List.length_map] at hj; omega⟩
  · obtain ⟨e2, e, he, ex⟩ := y
    rw [List.getElem?_map] at hx
    obtain ⟨kv, hkv, ek⟩ := Option.map_eq_some_iff.1 hx
    have r := dx_pair hw hkv he
    refine .inl ⟨e2, ?_⟩
    rw [ex, ← ek]
    exact dp_same e' _ _ r.2.1
  · obtain ⟨p2, u2, f0, _, _, hp2, ⟨y1, y2, _⟩, _⟩ := hs'.genAt hΓ
    subst y1 y2
    exact ⟨hp2, by rw [List.length_map] at hj; omega⟩
theorem evi_itemsX {p : Addr} {od : Obj} {u : HO} (hi : Γ[i]? = some (.gen (lockR p od u (dxR G kvs)) b)) : EVI (G := G) (α := κ × ν) N Γ (TyL.iItemsX G.P G.w (tVar i)) (.ok kvs) (fun Γ' => Γ'[i]? = some (.gen (lockR p od u (dxR G kvs)) b)) := fun σ F H hs R q => by
  obtain ⟨p1, u1, e0, _, _, hp, ⟨z1, z2, ws, z3, hw⟩, _⟩ := hs.genAt hi
  subst z1 z2 z3
  have hl := dx_len hw
  refine ⟨.ref p1, e0, p1, od, ws, rfl, hp, q F H _ hs (Same.refl F) fun N1 Γ' hΓ => ⟨fun j σ' F' H' hs' e' hj => ?_, fun j a σ' F' H' x H2 hs' e' hx y => ?_, fun j σ' F' H' hs' e' hj => ?_⟩⟩
  · obtain ⟨p2, u2, f0, _, _, hp2, ⟨y1, y2, _⟩, _⟩ := hs'.genAt hΓ
    subst y1 y2
    exact ⟨hp2, by omega⟩
  · obtain ⟨T, e, he, ex, hT, eH⟩ := y
    have r := dx_pair hw hx he
    refine .inr ⟨T, _, hT, eH, ?_⟩
    have fT : F' T = none := Same.free hs'.w.fh hT
    have s := Same.trans e' (same_new (o := .tup [.ref e.2.1, e.2.2]) fT)
    rw [ex]
    exact .tup (.inl (.inl upd_same)) (.cons (dp_same s _ _ r.2.1) (.cons (dp_same s _ _ r.2.2) .nil))
  · obtain ⟨p2, u2, f0, _, _, hp2, ⟨y1, y2, _⟩, _⟩ := hs'.genAt hΓ
    subst y1 y2
    exact ⟨hp2, by omega⟩
end
end Ty

namespace TyL
open PySem PySem.Spec PyProof.Rows L2
theorem get_list {X : Cx} : PGet X (rIxL X.K) := by
  intro pins s σ H o i ov iv Q I ro ri h
  obtain ⟨p, xs, k, z, rfl, rfl, hq, he, q⟩ := h
  obtain rfl : ov = Value.ref p := ro
  obtain ⟨t, rfl⟩ := ri
  obtain ⟨its, r, pl, hz⟩ := I.list hq
  obtain ⟨j, h1, h2, h3, h4, h5⟩ := atI_get he
  obtain ⟨w, ew, rw'⟩ := r.get h2
  have hl := r.length
  have hn := line63
  have fin : EP X pins σ Q w s := ⟨z, H, I, rw', q⟩
  by_cases h0 : 0 ≤ k
  · have hj : k.toNat = j := by
      rw [seqIndex_of h0 h5] at h1
      exact Option.some.inj h1
    exact wpAny_getItem_list pl.isList h0 (by omega) (by rw [hj]; simpa using ew) fin
  · have hj : (k + (its.toArray.size : Int)).toNat = j := by
      rw [seqIndex_neg (by omega) h4] at h1
      rw [List.size_toArray, ← hl]
      exact Option.some.inj h1
    exact wpAny_getItem_list_neg pl.isList (by omega) (by rw [List.size_toArray] <;> omega) (by omega) (by rw [hj]; simpa using ew) fin
end TyL
namespace Ty
open PySem PySem.Spec PyProof.Rows L2
open Enc (enc)
variable {G : Glob}
section
variable {α β γ ω : Type} [Enc α] {N : NN} {Γ Γ' : Env G} {te ta tb : TE} {tz ts : TS} {i : Nat} {xs : List α}
theorem map_eraseIdx' : ∀ (l : List α) (n : Nat), (l.eraseIdx n).map (enc : α → PyData) = (l.map enc).eraseIdx n
  | [], n => by simp
  | a :: l, 0 => rfl
  | a :: l, n + 1 => by show enc a :: _ = enc a :: _; rw [map_eraseIdx' l n]
theorem map_dropLast' : ∀ (l : List α), (l.dropLast).map (enc : α → PyData) = (l.map enc).dropLast
  | [] => rfl
  | [a] => rfl
  | a :: b :: l => by show enc a :: _ = enc a :: _; rw [map_dropLast' (b :: l)]; rfl
theorem dpAll_dropLast {K : PySem.W.Frag} {F : Hp} : ∀ {ds : List PyData} {vs : List V}, DqAll K F vs ds → DqAll K F vs.dropLast ds.dropLast
  | [], _, h => by cases h; exact .nil
  | [d], _, h => by
    cases h with
    | cons h1 h2 => cases h2; exact .nil
  | d :: e :: ds, _, h => by
    cases h with
    | cons h1 h2 =>
      cases h2 with
      | cons h3 h4 => exact .cons h1 (dpAll_dropLast (.cons h3 h4))
/-- xs.pop(): the last one, and the list without it -/
def popP (xs : List α) : Prog (α × List α) := match xs.getLast? with
  | some a => .ok (a, xs.dropLast)
  | none => .stuck
def popAtP (xs : List α) (j : Int) : Prog (α × List α) := match xs[j.toNat]? with
  | some a => chk (decide (0 ≤ j) && inRange j) (.ok (a, xs.eraseIdx j.toNat))
  | none => .stuck
theorem evx_pop (hO : ∀ a, N.O a = none) (hi : Γ[i]? = some (.lst xs)) : EVX N Γ (tBM0 G.K "list" rPop (tVar i)) (popP xs) (fun ys : List α => Γ.set i (.lst ys)) := fun σ F H hs Q q => by
  obtain ⟨p, vs, e0, m0, hp, d, hl⟩ := hs.lstAt hi
  unfold popP at q
  cases hg : xs.getLast? with
  | none => rw [hg] at q; exact q.elim
  | some a =>
    rw [hg] at q
    have hlen := dpAll_len d
    have hx : xs[xs.length - 1]? = some a := by rw [← List.getLast?_eq_getElem?]; exact hg
    obtain ⟨v, hv, dv⟩ := dpAll_at d hx
    refine ⟨.ref p, e0, .inl ⟨rfl, vs, .inl (.inl hp)⟩, p, vs, v, rfl, rfl, hp, by rw [hlen]; exact hv, ?_⟩
    exact q v F _ (hs.put hO hi e0 (by rw [map_dropLast']; exact dpAll_dropLast d)) (Same.refl F) dv
theorem evx_popAt {m : Prog Int} (hO : ∀ a, N.O a = none) (hi : Γ[i]? = some (.lst xs)) (h : EV N Γ ta m) : EVX N Γ (tBM G.K "list" rPopAt (tVar i) (tCons ta tNil)) (m >>= fun j => popAtP xs j) (fun ys : List α => Γ.set i (.lst ys)) := fun σ F H hs Q q => by
  obtain ⟨p, vs, e0, m0, hp, d, hl⟩ := hs.lstAt hi
  refine ⟨.ref p, e0, .inl ⟨rfl, vs, .inl (.inl hp)⟩, h σ F H hs _ (wp_mono (wp_bind.1 q) fun j q1 w F1 H1 hs1 e1 r1 => ?_)⟩
  obtain ⟨p', vs', e0', m0', hp', d', _⟩ := hs1.lstAt hi
  rw [e0] at e0'
  cases e0'
  unfold popAtP at q1
  cases hg : xs[j.toNat]? with
  | none => rw [hg] at q1; exact q1.elim
  | some a =>
    rw [hg] at q1
    obtain ⟨hz, q1⟩ := wp_chk q1
    obtain ⟨hz1, hz2⟩ := Bool.and_eq_true_iff.1 hz
    have hz1 := of_decide_eq_true hz1
    obtain ⟨b1, b2⟩ := inRange_ok hz2
    obtain ⟨v, hv, dv⟩ := dpAll_at d' hg
    have hlt : j.toNat < vs'.length := (List.getElem?_eq_some_iff.1 hv).1
    refine ⟨p, vs', j, j.toNat, v, rfl, by rw [Scl.dp (α := Int) r1]; rfl, hp', by omega, by omega, ?_, hv, ?_⟩
    · have hx : ixN vs'.length j = some j.toNat := by
        unfold ixN
        rw [if_pos hz1, if_pos (by omega)]
      exact (ixN_seq hx).1
    · exact q1 v F1 _ (hs1.put hO hi e0 (by rw [map_eraseIdx']; exact dpAll_erase _ d')) e1 dv
/-- a, b = (a call that changes the frame) -/
theorem sv_asgTX {α ξ : Type} [iα : Rp G α] {g : TG} {m : Prog (α × ξ)} {Γx : ξ → Env G} {J : Aim ω} {k : α × ξ → Prog ω} {Γt : α × ξ → Env G} (h : EVX N Γ te m Γx) (hg : ∀ y, GV N (Γx y.2) g y.1 (Γt y)) (hk : ∀ y, SV N (Γt y) tz J (k y)) : SV N Γ (tSeq (tAsg te g) tz) J (m >>= k) := fun σ F H D hs q =>
  h σ F H hs _ (wp_mono (wp_bind.1 q) fun y q1 v F1 H1 hs1 e1 r1 => hg y σ F1 H1 v hs1 r1 _ fun σ2 F2 H2 hs2 e2 => hk y σ2 F2 H2 D hs2 (wp_mono q1 fun o x => J.mono (Same.trans e1 e2) x))
/-! xs[j] = e, xs[j] += e -/
def setI (xs : List α) (j : Int) (a : α) : Prog (List α) := match ixN xs.length j with
  | some k => .ok (xs.set k a)
  | none => .stuck
theorem dpAll_set {K : PySem.W.Frag} {F : Hp} {v : V} {d : PyData} (hv : Dq K F v d) : ∀ {ds : List PyData} {vs : List V} (n : Nat), DqAll K F vs ds → DqAll K F (vs.set n v) (ds.set n d)
  | [], _, n, h => by cases h; exact .nil
  | e :: ds, _, n, h => by
    cases h with
    | cons h1 h2 =>
      cases n with
      | zero => exact .cons hv h2
      | succ n => exact .cons h1 (dpAll_set hv n h2)
theorem sv_setI {m1 : Prog α} {m2 : Prog Int} {J : Aim ω} {k : List α → Prog ω} (hO : ∀ a, N.O a = none) (hi : Γ[i]? = some (.lst xs)) (h1 : EV N Γ ta m1) (h2 : EV N Γ tb m2) (hk : ∀ ys : List α, SV N (Γ.set i (.lst ys)) tz J (k ys)) :
    SV N Γ (tSeq (tAsg ta (gSub (tVar i) tb rSetL)) tz) J (m1 >>= fun a => m2 >>= fun j => setI xs j a >>= k) := fun σ F H D hs q =>
  h1 σ F H hs _ (wp_mono (wp_bind.1 q) fun a q1 v F1 H1 hs1 e1 r1 => by
    obtain ⟨p, vs, e0, m0, hp, d, hl⟩ := hs1.lstAt hi
    refine ⟨.ref p, e0, h2 σ F1 H1 hs1 _ (wp_mono (wp_bind.1 q1) fun j q2 w F2 H2 hs2 e2 r2 => ?_)⟩
    obtain ⟨p', vs', e0', m0', hp', d', _⟩ := hs2.lstAt hi
    rw [e0] at e0'
    cases e0'
    unfold setI at q2
    cases hx : ixN xs.length j with
    | none => rw [hx] at q2; exact q2.elim
    | some n =>
      rw [hx] at q2
      refine ⟨p, vs', j, n, rfl, Scl.dp (α := Int) r2, hp', by rw [dpAll_len d']; exact hx, ?_⟩
      exact hk _ σ F2 _ D (hs2.put hO hi e0 (by rw [List.map_set]; exact dpAll_set (dp_same e2 _ _ r1) n d')) (wp_mono q2 fun o x => J.mono (Same.trans e1 e2) x))
end
section
variable {ω : Type} {N : NN} {Γ Γ' : Env G} {te ta tb : TE} {tz ts : TS} {i : Nat} {xs : List Int}
theorem sv_augI {m1 m2 : Prog Int} {J : Aim ω} {k : List Int → Prog ω} (hO : ∀ a, N.O a = none) (hi : Γ[i]? = some (.lst xs)) (h1 : EV N Γ ta m1) (h2 : EV N Γ tb m2) (hk : ∀ ys : List Int, SV N (Γ.set i (.lst ys)) tz J (k ys)) :
    SV N Γ (tSeq (tAugS (tVar i) ta tb (rIxL G.K) (ipI fun i j => i + j) rSetL) tz) J (m1 >>= fun j => getI xs j >>= fun a => m2 >>= fun b => setI xs j (a + b) >>= k) := fun σ F H D hs q => by
  obtain ⟨p, vs, e0, m0, hp, d, hl⟩ := hs.lstAt hi
  refine ⟨.ref p, e0, h1 σ F H hs _ (wp_mono (wp_bind.1 q) fun j q1 w F1 H1 hs1 e1 r1 => ?_)⟩
  obtain ⟨p', vs', e0', m0', hp', d', _⟩ := hs1.lstAt hi
  rw [e0] at e0'
  cases e0'
  have ew : w = .int j := Scl.dp r1
  subst ew
  obtain ⟨a, ea, q2⟩ := wp_getI (wp_bind.1 q1)
  obtain ⟨v, ev, dv⟩ := atI_dp d' ea
  have dv' : v = .int a := Scl.dp (α := Int) dv
  subst dv'
  refine ⟨p, vs', j, .int a, rfl, rfl, .inl (.inl hp'), ev, h2 σ F1 H1 hs1 _ (wp_mono (wp_bind.1 q2) fun b q3 y F2 H2 hs2 e2 r2 => ?_)⟩
  have ey : y = .int b := Scl.dp r2
  subst ey
  obtain ⟨p2, vs2, e02, m02, hp2, d2, _⟩ := hs2.lstAt hi
  rw [e0] at e02
  cases e02
  unfold setI at q3
  cases hx : ixN xs.length j with
  | none => rw [hx] at q3; exact q3.elim
  | some n =>
    rw [hx] at q3
    refine ⟨a, b, rfl, rfl, p, vs2, j, n, rfl, rfl, hp2, by rw [dpAll_len d2]; exact hx, ?_⟩
    exact hk _ σ F2 _ D (hs2.put hO hi e0 (by rw [List.map_set]; exact dpAll_set (.int _) n d2)) (wp_mono q3 fun o x => J.mono (Same.trans e1 e2) x)
end
end Ty

namespace Ty
open PySem PySem.Spec PyProof.Rows L2
open Enc (enc)
variable {G : Glob}
section
variable {α γ ω : Type} [iα : Rp G α] {N : NN} {Γ Γ' : Env G} {te ta : TE} {tz ts : TS} {i : Nat} {R R' : OwnR} {b : Bool}
theorem sv_lockF {βs : Type} {Γi : βs → Env G} {Γl : Addr → Obj → HO → βs → Env G} {J : Aim ω} {m : Prog βs} {k : βs → Prog ω} (hO : ∀ a, N.O a = none) (hi : Γ[i]? = some (.gen R b)) (hmu : ∀ F p u, R.R F p u → Mut (some u))
    (hb : ∀ p od u, SV N (Γ.set i (.gen (lockR p od u R) b)) (tSeq ts tNext) (JN N (Γl p od u)) m) (hl : ∀ p od u x, (Γl p od u x)[i]? = some (.gen (lockR p od u R) b)) (hs : ∀ p od u x, (Γl p od u x).set i (.gen R b) = Γi x)
    (hk : ∀ x, SV N (Γi x) tz J (k x)) : SV N Γ (tSeq (tLock ts) tz) J (m >>= k) := fun σ F H D hs0 q => by
  obtain ⟨p, u, e0, m0, hb0, hp, r, hl0⟩ := hs0.genAt hi
  refine ⟨p, u, hp, hmu F p u r, fun od => ?_⟩
  have hs1 : HS N (Γ.set i (.gen (lockR p od u R) b)) σ F (upd H p (.frz od u)) := hs0.putG (hO p) hi e0 ⟨rfl, rfl, r⟩
  let D' : Ends := ⟨fun σ' H' => H' p = some (.frz od u) ∧ tz D σ' (upd H' p u), fun v H' => H' p = some (.frz od u) ∧ D.rt v (upd H' p u), fun σ' H' => H' p = some (.frz od u) ∧ D.bk σ' (upd H' p u), fun σ' H' => H' p = some (.frz od u) ∧ D.ct σ' (upd H' p u)⟩
  suffices key : tSeq ts tNext D' σ (upd H p (.frz od u)) from key
  refine hb p od u σ F _ D' hs1 (wp_mono (wp_bind.1 q) fun x q1 σ2 F2 H2 hs2 e2 => ?_)
  obtain ⟨p2, u2, f0, m2, hb2, hp2, ⟨z1, z2, r2⟩, _⟩ := hs2.genAt (hl p od u x)
  subst z1 z2
  have hs3 := hs2.putG (R' := R) (u := u) (hO p2) (hl p2 od u x) f0 r2
  rw [hs p2 od u x] at hs3
  exact ⟨hp2, hk x σ2 F2 _ D hs3 (wp_mono q1 fun o x => J.mono e2 x)⟩
/-- y = [.. for .. in a dict ..] -/
theorem sv_asgNL {δ : Type} [Enc δ] {j : Nat} {m : Prog (L δ)} {J : Aim ω} {k : L δ → Prog ω} (h : EVN N Γ (tLockE te) m) (hk : ∀ xs : List δ, SV N (Γ.set j (.lst xs)) tz J (k xs)) : SV N Γ (tSeq (tLock (tAsg te (gName j))) tz) J (m >>= k) := sv_asgN (te := tLockE te) h hk
theorem sv_asgL [iα : Rp G α] {j : Nat} {m : Prog α} {J : Aim ω} {k : α → Prog ω} (h : EV N Γ (tLockE te) m) (hk : ∀ a, SV N (Γ.set j (.per a)) tz J (k a)) : SV N Γ (tSeq (tLock (tAsg te (gName j))) tz) J (m >>= k) := sv_asg (te := tLockE te) h hk
/-- xs.extend(a list that is data) -/
theorem sv_extendD {α : Type} [Enc α] {xs : List α} {m : Prog (L α)} {J : Aim ω} {k : L α → Prog ω} (hO : ∀ a, N.O a = none) (hi : Γ[i]? = some (.lst xs)) (h : EV N Γ te m) (hk : ∀ ys : List α, SV N (Γ.set i (.lst (xs ++ ys))) tz J (k ys)) :
    SV N Γ (tSeq (tDrop (tBM G.K "list" rExtend (tVar i) (tCons te tNil))) tz) J (m >>= fun (ys : List α) => chk (small (xs.length + ys.length)) (k ys)) := fun σ F H D hs q => by
  obtain ⟨p, vs, e0, m0, hp, d, hl⟩ := hs.lstAt hi
  refine ⟨.ref p, e0, .inl ⟨rfl, vs, .inl (.inl hp)⟩, h σ F H hs _ (wp_mono (wp_bind.1 q) fun (ys : List α) q1 b F1 H1 hs1 e1 r1 => ?_)⟩
  obtain ⟨hz, q1⟩ := wp_chk q1
  obtain ⟨p', vs', e0', m0', hp', d', _⟩ := hs1.lstAt hi
  rw [e0] at e0'
  cases e0'
  have hd : Dq G.K F1 b (.list (ys.map enc)) := r1
  cases hd with
  | lst hq ha =>
    refine ⟨p, _, vs', _, rfl, rfl, hp', hs1.w.fh _ _ hq, by rw [dpAll_len d', dpAll_len ha]; exact small_le hz, ?_⟩
    exact hk ys σ F1 _ D (hs1.put hO hi e0 (by rw [List.map_append]; exact dpAll_append d' ha)) (wp_mono q1 fun o x => J.mono e1 x)
theorem ev_tup0D : EV N Γ (tTup tNil) (.ok (PyData.tuple [])) := fun σ F H hs Q q => by
  refine ⟨by show 0 ≤ sizeLine; decide, fun p hp => ?_⟩
  obtain ⟨hs2, e3⟩ := hs.laid (o := .tup []) hp
  exact q (.ref p) _ _ hs2 e3 (.tup (.inl (.inl upd_same)) .nil)
theorem no_own3 {i j k : Nat} {e e2 e3 : Ent G} (h : Γ[i]? = some e) (o : e.own = false) (h2 : Γ[j]? = some e2) (o2 : e2.own = false) (h3 : Γ[k]? = some e3) (o3 : e3.own = false) : notOwn Γ [i, j, k] := fun n hn e' h' => by
  rcases List.mem_cons.1 hn with z | hn
  · subst z; rw [h] at h'; cases h'; exact o
  · exact no_own2 h2 o2 h3 o3 n hn e' h'
theorem no_own4 {i j k l : Nat} {e e2 e3 e4 : Ent G} (h : Γ[i]? = some e) (o : e.own = false) (h2 : Γ[j]? = some e2) (o2 : e2.own = false) (h3 : Γ[k]? = some e3) (o3 : e3.own = false) (h4 : Γ[l]? = some e4) (o4 : e4.own = false) : notOwn Γ [i, j, k, l] := fun n hn e' h' => by
  rcases List.mem_cons.1 hn with z | hn
  · subst z; rw [h] at h'; cases h'; exact o
  · exact no_own3 h2 o2 h3 o3 h4 o4 n hn e' h'
end
theorem dv_rp {κ ν : Type} [Enc κ] [Enc ν] [Kt κ] {kvs : List (κ × ν)} : ∀ F p u, F p = some u → (dxR G kvs).R F p u → Rp.rp (G := G) (Dv.mk kvs) (.ref p) F := fun F p u h r => ⟨p, u, rfl, h, let ⟨ws, a, b⟩ := r; ⟨ws, .inl a, b⟩⟩
theorem dw_rp {κ ν : Type} [Enc κ] [Enc ν] [DecidableEq κ] [Sk κ] {kvs : List (κ × ν)} : ∀ F p u, F p = some u → (dkR G kvs).R F p u → Rp.rp (G := G) (Dw.mk kvs) (.ref p) F := fun F p u h r => ⟨p, u, rfl, h, let ⟨ws, a, b⟩ := r; ⟨ws, .inl a, b⟩⟩
end Ty

namespace Ty
open PySem PySem.Spec PyProof.Rows L2
open Enc (enc)
variable {G : Glob}
section
variable {α β γ ω : Type} [iα : Rp G α] [iβ : Rp G β] [iγ : Rp G γ] {N : NN} {Γ : Env G} {ta tb tc : TE} {tz : TS} {i j l : Nat} {J : Aim ω}
/-- a, b = x, y for plain local names -/
theorem sv_par {m1 : Prog α} {m2 : Prog β} {k : α → β → Prog ω} (h1 : EV N Γ ta m1) (h2 : EV N Γ tb m2) (hk : ∀ a b, SV N ((Γ.set i (.per a)).set j (.per b)) tz J (k a b)) :
    SV N Γ (tSeq (tPar i j (tCons ta (tCons tb tNil))) tz) J (m1 >>= fun a => m2 >>= fun b => k a b) := fun σ F H D hs q => by
  show (tCons ta (tCons tb tNil)) σ H (fun vs H1 => ∃ v w, vs = [v, w] ∧ tz D ((σ.set i (some v)).set j (some w)) H1)
  refine eva2 h1 h2 σ F H hs _ ?_
  rw [wp_bind] at q ⊢
  refine wp_mono q fun a q1 => ?_
  rw [wp_bind] at q1 ⊢
  refine wp_mono q1 fun b q2 vs F1 H1 hs1 e1 r => ?_
  obtain ⟨v, ws, rfl, r1, w, us, rfl, r2, rfl⟩ := r
  exact ⟨v, w, rfl, hk a b _ F1 H1 D ((hs1.setPer (a := a) i r1).setPer (a := b) j r2) (wp_mono q2 fun o x => J.mono e1 x)⟩
/-- a, b, c = x, y, z -/
theorem sv_par3 {m1 : Prog α} {m2 : Prog β} {m3 : Prog γ} {k : α → β → γ → Prog ω} (h1 : EV N Γ ta m1) (h2 : EV N Γ tb m2) (h3 : EV N Γ tc m3) (hk : ∀ a b c, SV N (((Γ.set i (.per a)).set j (.per b)).set l (.per c)) tz J (k a b c)) :
    SV N Γ (tSeq (tPar3 i j l (tCons ta (tCons tb (tCons tc tNil)))) tz) J (m1 >>= fun a => m2 >>= fun b => m3 >>= fun c => k a b c) := fun σ F H D hs q => by
  show (tCons ta (tCons tb (tCons tc tNil))) σ H (fun vs H1 => ∃ u v w, vs = [u, v, w] ∧ tz D (((σ.set i (some u)).set j (some v)).set l (some w)) H1)
  refine eva3 h1 h2 h3 σ F H hs _ ?_
  rw [wp_bind] at q ⊢
  refine wp_mono q fun a q1 => ?_
  rw [wp_bind] at q1 ⊢
  refine wp_mono q1 fun b q2 => ?_
  rw [wp_bind] at q2 ⊢
  refine wp_mono q2 fun c q3 vs F1 H1 hs1 e1 r => ?_
  obtain ⟨v, ws, rfl, r1, w, us, rfl, r2, w3, us3, rfl, r3, rfl⟩ := r
  exact ⟨v, w, w3, rfl, hk a b c _ F1 H1 D (((hs1.setPer (a := a) i r1).setPer (a := b) j r2).setPer (a := c) l r3) (wp_mono q3 fun o x => J.mono e1 x)⟩
end
end Ty

/-! sorted(xs) of tuples of ints, any number of them -/
namespace TyL
open PySem PySem.Spec PyProof.Rows L2
def lexL : List Int → List Int → Bool
  | [], [] => false
  | [], _ :: _ => true
  | _ :: _, [] => false
  | x :: xs, y :: ys => if x = y then lexL xs ys else decide (x < y)
theorem lex_asym : ∀ {x y : List Int}, lexL x y = true → lexL y x = false
  | [], [], h => by cases h
  | [], _ :: _, _ => rfl
  | _ :: _, [], h => by cases h
  | x :: xs, y :: ys, h => by
    unfold lexL at h ⊢
    by_cases e : x = y
    · subst e
      rw [if_pos rfl] at h ⊢
      exact lex_asym h
    · rw [if_neg e] at h
      rw [if_neg (Ne.symm e)]
      have := of_decide_eq_true h
      exact decide_eq_false (by omega)
theorem lex_tr : ∀ {x y z : List Int}, lexL y x = false → lexL z y = false → lexL z x = false
  | [], [], _, _, h => h
  | [], _ :: _, [], _, _ => rfl
  | [], y :: ys, z :: zs, _, _ => rfl
  | x :: xs, [], _, h, _ => by cases h
  | x :: xs, y :: ys, [], _, h => by cases h
  | x :: xs, y :: ys, z :: zs, h1, h2 => by
    unfold lexL at h1 h2 ⊢
    by_cases e1 : y = x
    · subst e1
      rw [if_pos rfl] at h1
      by_cases e2 : z = y
      · subst e2
        rw [if_pos rfl] at h2 ⊢
        exact lex_tr h1 h2
      · rw [if_neg e2] at h2 ⊢
        exact h2
    · rw [if_neg e1] at h1
      have k1 := of_decide_eq_false h1
      by_cases e2 : z = y
      · subst e2
        rw [if_neg e1]
        exact h1
      · rw [if_neg e2] at h2
        have k2 := of_decide_eq_false h2
        have : z ≠ x := by omega
        rw [if_neg this]
        exact decide_eq_false (by omega)
theorem lex_eq : ∀ {x y : List Int}, lexL x y = false → lexL y x = false → x = y
  | [], [], _, _ => rfl
  | [], _ :: _, h, _ => by cases h
  | _ :: _, [], _, h => by cases h
  | x :: xs, y :: ys, h1, h2 => by
    unfold lexL at h1 h2
    by_cases e : x = y
    · subst e
      rw [if_pos rfl] at h1 h2
      rw [lex_eq h1 h2]
    · rw [if_neg e] at h1
      rw [if_neg (Ne.symm e)] at h2
      have k1 := of_decide_eq_false h1
      have k2 := of_decide_eq_false h2
      omega
theorem swo_lexL {α : Type} (k : α → List Int) : SrtO.Swo fun v u => lexL (k v) (k u) := ⟨fun _ _ h => lex_asym h, fun _ _ _ h1 h2 => lex_tr h1 h2⟩
/-- a tuple of ints -/
def IsIT (h : Heap) (v : Value) (ns : List Int) : Prop := ∃ a o its n, v = .ref a ∧ h.get? a = some o ∧ o.cls = .type "tuple" ∧ o.data = .seq its n ∧ IntsAre its.toList ns
theorem IsIT.keeps {h h' : Heap} {v : Value} {ns : List Int} (x : IsIT h v ns) (k : ∀ b o, h.get? b = some o → o.cls = .type "tuple" → h'.get? b = some o) : IsIT h' v ns := by
  obtain ⟨a, o, its, n, e, ho, hc, hd, hi⟩ := x
  exact ⟨a, o, its, n, e, k a o ho hc, hc, hd, hi⟩
section
variable {prog : Program} {w : World} {A : Around} {s : Shared}
theorem kat_ints {fin : Bool} {Q : Bool → Shared → Prop} : ∀ {us vs : List Value} {xs ys : List Int} {i : Nat}, IntsAre us xs → IntsAre vs ys → fin = decide (us.length < vs.length) → Q (lexL xs ys) s → PySem.W.KatLex prog w A true fin Q (us.zip vs) i s
  | _, _, _, _, i, .nil, .nil, hf, q => by
    refine PySem.W.kat_nil ?_
    rw [hf]; exact q
  | _, _, _, _, i, .nil, .cons y u h, hf, q => by
    refine PySem.W.kat_nil ?_
    have : fin = true := by rw [hf]; simp
    rw [this]; exact q
  | _, _, _, _, i, .cons x t h, .nil, hf, q => by
    refine PySem.W.kat_nil ?_
    have : fin = false := by rw [hf]; simp
    rw [this]; exact q
  | _, _, _, _, i, .cons (vs := us) (ns := xs) x t h1, .cons (vs := vs) (ns := ys) y u h2, hf, q => by
    rw [List.zip_cons_cons]
    refine PySem.W.kat_cons (SeqAt.EqAt.int_int x t y u prog w _ _ ?_)
    refine PySem.W.kat_go (fun e1 => ?_) (fun e1 => ?_)
    · have ex : x = y := by simpa using e1
      refine PySem.W.kat_yes (kat_ints h1 h2 (by rw [hf]; simp) ?_)
      unfold lexL at q
      rw [if_pos ex] at q
      exact q
    · have ex : ¬ x = y := by simpa using e1
      unfold lexL at q
      rw [if_neg ex] at q
      cases i with
      | zero => exact PySem.W.kat_no (oneLt_int q)
      | succ i => exact PySem.W.kat_no (PySem.W.kat_one _ _ (PyProof.Rows.lt_int q))
theorem it_cmp {vs : List Value} {k : Value → List Int} (hp : ∀ v ∈ vs, IsIT s.heap v (k v)) : SrtO.Cmp prog w A s (tuples' true) (fun p => p.1 ∈ vs) (SrtO.lt2 fun v u => lexL (k v) (k u)) := by
  intro p q hm hm'
  have h1 := hp _ hm
  have h2 := hp _ hm'
  show wpAny (model prog w) A (keyLt' (tuples' true) p.1 q.1) (fun r s' => s' = s ∧ r = lexL (k p.1) (k q.1)) (fun _ _ => False) s
  generalize k p.1 = xs at h1 ⊢
  generalize k q.1 = ys at h2 ⊢
  obtain ⟨a, o, its, n, e, ho, hc, hd, hi⟩ := h1
  obtain ⟨a', o', its', n', e', ho', hc', hd', hi'⟩ := h2
  rw [e, e']
  refine PySem.W.kat_lt ho hd ho' hd' ?_
  exact kat_ints hi hi' (by simp) ⟨rfl, rfl⟩
theorem it_firsts {h : Heap} : ∀ {vs : List Value} {k : Value → List Int}, (∀ v ∈ vs, IsIT h v (k v) ∧ k v ≠ []) → ∃ fs : List Value, PySem.W.KatTups h vs fs ∧ fs.length = vs.length ∧ ∀ f ∈ fs, ∃ x t, f = Value.int x t
  | [], k, _ => ⟨[], .nil, rfl, fun f m => by cases m⟩
  | v :: vs, k, hv => by
    obtain ⟨fs, h1, h2, h3⟩ := it_firsts (vs := vs) (k := k) fun u m => hv u (List.mem_cons_of_mem _ m)
    obtain ⟨⟨a, o, its, n, e, ho, hc, hd, hi⟩, hne⟩ := hv v List.mem_cons_self
    generalize k v = xs at hi hne
    generalize hl : its.toList = l at hi
    cases hi with
    | nil => exact absurd rfl hne
    | @cons x t us ns hi =>
      subst e
      have e0 : its[0]? = some (Value.int x t) := by
        rw [← Array.getElem?_toList, hl]
        rfl
      exact ⟨_ :: fs, .cons ho hc hd e0 h1, by rw [List.length_cons, List.length_cons, h2], fun f m => by
        rcases List.mem_cons.1 m with m | m
        · exact ⟨x, t, m⟩
        · exact h3 f m⟩
theorem it_sortable {a : Addr} {vs : List Value} {k : Value → List Int} (h0 : 0 < vs.length) (hp : ∀ v ∈ vs, IsIT s.heap v (k v) ∧ k v ≠ []) (ha : ∀ o, s.heap.get? a = some o → o.cls ≠ .type "tuple") : SrtO.SortableO prog w A s a vs fun v u => lexL (k v) (k u) := by
  intro h' keep
  have hp' : ∀ v ∈ vs, IsIT h' v (k v) ∧ k v ≠ [] := fun v hm => ⟨(hp v hm).1.keeps fun b o e c => keep b o (fun z => by subst z; exact ha o e c) e, (hp v hm).2⟩
  obtain ⟨fs, h1, h2, h3⟩ := it_firsts hp'
  refine ⟨tuples' true, fun Q E hq => ?_, it_cmp fun v m => (hp' v m).1⟩
  refine PySem.W.kat_kind (T := .type "int") h1 (by omega) (fun f hm => ?_) (by rfl) ?_
  · obtain ⟨x, t, rfl⟩ := h3 f hm
    exact PySem.W.Looks.now
  · have e : (Value.type "int" != Value.type "tuple") = true := by first | decide +kernel | rfl | decide
    rw [e]
    exact hq
end
/-- sorted(xs) -/
def rSortedT (K : PySem.W.Frag) : List V → Hp → VK → Prop := fun vs H Q => ∃ (a : Addr) (ys : List V) (k : V → List Int), vs = [V.ref a] ∧ SqL K H a ys ∧ (∀ y ∈ ys, ∃ t, y = V.ref t ∧ SqT K H t ((k y).map V.int)) ∧ (2 ≤ ys.length → ∀ y ∈ ys, k y ≠ []) ∧
  ∀ (zs : List V) (p : Addr), SrtO.Srtd (fun v u => lexL (k v) (k u)) zs → zs.Perm ys → H p = none → Q (.ref p) (upd H p (.lst zs))
section
variable {X : Cx}
theorem cr_sortedT : CallR X (.builtin "sorted") (rSortedT X.K) := by
  intro pins s σ H vs us Q I r h
  obtain ⟨a, ys, k, rfl, hs, hx, hne, q⟩ := h
  obtain ⟨its, rv, hl, hz⟩ := I.list hs
  rw [Vals.ref1 r]
  obtain ⟨e1, e2⟩ := refs_back rv fun x m => by
    obtain ⟨t, e, _⟩ := hx x m
    exact ⟨t, e⟩
  have hp : ∀ v ∈ its, IsIT s.heap v (k (backV v)) := fun v hv => by
    obtain ⟨t, rfl⟩ := e2 v hv
    have hm : V.ref t ∈ ys := by rw [e1]; exact List.mem_map.mpr ⟨_, hv, rfl⟩
    obtain ⟨t', e, ht⟩ := hx _ hm
    cases e
    obtain ⟨its2, r2, ⟨o, ho, hc, n, hd⟩, _⟩ := I.tuple ht
    exact ⟨t, o, its2.toArray, n, rfl, ho, hc, hd, show IntsAre its2.toArray.toList (k (V.ref t)) from Vals.ints r2⟩
  have hlen : ys.length = its.length := by rw [e1]; simp
  have hne' : 2 ≤ its.length → ∀ v ∈ its, k (backV v) ≠ [] := fun h2 v hv => hne (by omega) _ (by rw [e1]; exact List.mem_map.mpr ⟨_, hv, rfl⟩)
  refine SrtO.sorted_ord (swo_lexL fun u => k (backV u)) hl.isList (by rw [← rv.length]; exact hz) (fun h2 h₁ a' ha kk => it_sortable (s := { s with heap := h₁ }) (by omega) (fun v hm => ⟨(hp v hm).keeps fun b o e _ => (kk b o e).2, hne' h2 v hm⟩) fun o e => ?_) fun out h1 h2 => ?_
  · have e' : some o = some (seqObj "list" its.toArray 0) := e.symm.trans ha
    cases e'
    intro c
    exact absurd (Value.type.inj c) (by decide)
  · have h3 : ∀ u ∈ out, ∃ a, u = Value.ref a := fun u hu => e2 u (h2.perm.mem_iff.mp hu)
    obtain ⟨ep, he'⟩ := PyProof.Rows.sortedAll_at s.heap its out.toArray
    have hpm : (out.map backV).Perm ys := by rw [e1]; exact h2.perm.map backV
    have hlen : (out.map backV).length ≤ sizeLine := by rw [hpm.length_eq]; exact hz
    exact ⟨.ref _, upd H (s.heap.objs.size + 1) (.lst (out.map backV)), I.laid (t' := s.toks) (fun _ _ => PyProof.Rows.sortedAll_old) (Nat.le_succ _) ⟨hlen, out, ep, vals_back h3, he'⟩, rfl, q _ _ (SrtO.srtd_map h1) hpm (I.hok.fresh (Nat.le_succ _))⟩
/-- sorted(xs), with the numbers beside -/
def rSortedZ (K : PySem.W.Frag) : List V → Hp → VK → Prop := fun vs H Q => ∃ (a : Addr) (ys : List V) (ns : List (List Int)), vs = [V.ref a] ∧ SqL K H a ys ∧ ys.length = ns.length ∧ (∀ y n, (y, n) ∈ ys.zip ns → ∃ t, y = V.ref t ∧ SqT K H t (n.map V.int)) ∧ (2 ≤ ns.length → ∀ n ∈ ns, n ≠ []) ∧
  ∀ (zs : List V) (ms : List (List Int)) (p : Addr), ms.Pairwise (fun x y => lexL y x = false) → zs.length = ms.length → (zs.zip ms).Perm (ys.zip ns) → H p = none → Q (.ref p) (upd H p (.lst zs))
theorem int_inj : ∀ {x y : List Int}, x.map V.int = y.map V.int → x = y
  | [], [], _ => rfl
  | [], _ :: _, h => by cases h
  | _ :: _, [], h => by cases h
  | x :: xs, y :: ys, h => by
    rw [List.map_cons, List.map_cons] at h
    obtain ⟨h1, h2⟩ := List.cons.inj h
    rw [V.int.inj h1, int_inj h2]
open Classical in
noncomputable def itK (K : PySem.W.Frag) (H : Hp) : V → List Int
  | .ref t => if h : ∃ ns : List Int, SqT K H t (ns.map V.int) then Classical.choose h else []
  | _ => []
theorem zip_map_self {α β : Type} (f : α → β) : ∀ {xs : List α} {ys : List β}, xs.length = ys.length → (∀ x y, (x, y) ∈ xs.zip ys → f x = y) → xs.map f = ys
  | [], [], _, _ => rfl
  | [], _ :: _, h, _ => by cases h
  | _ :: _, [], h, _ => by cases h
  | x :: xs, y :: ys, h, k => by
    rw [List.map_cons, k x y (by simp), zip_map_self f (by simpa using h) fun a b m => k a b (by rw [List.zip_cons_cons]; exact List.mem_cons_of_mem _ m)]
theorem zip_map {α β : Type} (f : α → β) : ∀ xs : List α, xs.zip (xs.map f) = xs.map fun x => (x, f x)
  | [] => rfl
  | x :: xs => by rw [List.map_cons, List.zip_cons_cons, zip_map f xs, List.map_cons]
theorem cr_sortedZ : CallR X (.builtin "sorted") (rSortedZ X.K) := by
  intro pins s σ H vs us Q I r h
  obtain ⟨a, ys, ns, e, hs, hl, hx, hne, q⟩ := h
  have kk : ∀ y n, (y, n) ∈ ys.zip ns → itK X.K H y = n := fun y n m => by
    obtain ⟨t, rfl, ht⟩ := hx y n m
    have he : ∃ ns : List Int, SqT X.K H t (ns.map V.int) := ⟨n, ht⟩
    unfold itK
    dsimp only
    rw [dif_pos he]
    exact int_inj (I.tuple_inj (Classical.choose_spec he) ht)
  have em : ys.map (itK X.K H) = ns := zip_map_self _ hl kk
  have inz : ∀ y ∈ ys, (y, itK X.K H y) ∈ ys.zip ns := fun y m => by
    rw [← em, zip_map]
    exact List.mem_map.2 ⟨y, m, rfl⟩
  refine cr_sortedT pins s σ H vs us Q I r ⟨a, ys, itK X.K H, e, hs, fun y m => hx _ _ (inz y m), fun h2 y m => hne (by omega) _ (by rw [← em]; exact List.mem_map.2 ⟨y, m, rfl⟩), fun zs p h1 h2 h3 => ?_⟩
  refine q zs (zs.map (itK X.K H)) p (List.pairwise_map.2 (h1.imp fun {x y} h => h)) (by simp) ?_ h3
  rw [← em, zip_map, zip_map]
  exact h2.map _
end
end TyL

namespace Ty
open PySem PySem.Spec PyProof.Rows L2
open Enc (enc)
open TyL (lexL)
variable {G : Glob}
section
variable {N : NN} {Γ : Env G} {ta : TE}
def leL (a b : List Int) : Bool := !lexL b a
def sortT (xs : List (List Int)) : List (List Int) := xs.mergeSort leL
theorem leL_tr (a b c : List Int) (h1 : leL a b = true) (h2 : leL b c = true) : leL a c = true := by
  unfold leL at *
  have k1 : lexL b a = false := by simpa using h1
  have k2 : lexL c b = false := by simpa using h2
  rw [TyL.lex_tr k1 k2]; rfl
theorem leL_tot (a b : List Int) : (leL a b || leL b a) = true := by
  unfold leL
  cases h : lexL b a with
  | false => simp
  | true => rw [TyL.lex_asym h]; simp
theorem leL_anti {a b : List Int} (h1 : leL a b = true) (h2 : leL b a = true) : a = b := by
  unfold leL at *
  exact TyL.lex_eq (by simpa using h2) (by simpa using h1)
theorem sortT_perm (xs : List (List Int)) : (sortT xs).Perm xs := List.mergeSort_perm xs leL
theorem sortT_pw (xs : List (List Int)) : (sortT xs).Pairwise fun a b => leL a b = true := List.pairwise_mergeSort leL_tr leL_tot xs
theorem sortT_uniq {xs ys : List (List Int)} (hp : ys.Perm xs) (hs : ys.Pairwise fun a b => leL a b = true) : ys = sortT xs :=
  List.Perm.eq_of_pairwise (fun a b _ _ h1 h2 => leL_anti h1 h2) hs (sortT_pw xs) (hp.trans (sortT_perm xs).symm)
theorem dqAll_ints {K : PySem.W.Frag} {F : Hp} : ∀ {vs : List V} {ns : List Int}, DqAll K F vs (ns.map enc) → vs = ns.map V.int
  | _, [], h => by cases h; rfl
  | _, n :: ns, h => by
    cases h with
    | cons h1 h2 =>
      cases h1
      rw [dqAll_ints h2]
      rfl
theorem dq_it {K : PySem.W.Frag} {F : Hp} {v : V} {ns : List Int} (h : Dq K F v (enc ns)) : ∃ t, v = .ref t ∧ SqT K F t (ns.map V.int) := by
  have h : Dq K F v (.tuple (ns.map enc)) := h
  cases h with
  | tup hq ha =>
    rw [dqAll_ints ha] at hq
    exact ⟨_, rfl, hq⟩
theorem dqAll_zip {K : PySem.W.Frag} {F : Hp} {α : Type} [Enc α] : ∀ {vs : List V} {xs : List α}, DqAll K F vs (xs.map enc) → vs.length = xs.length ∧ ∀ v x, (v, x) ∈ vs.zip xs → Dq K F v (enc x)
  | _, [], h => by cases h; exact ⟨rfl, fun v x m => by cases m⟩
  | _, x :: xs, h => by
    cases h with
    | cons h1 h2 =>
      obtain ⟨e, k⟩ := dqAll_zip h2
      refine ⟨by rw [List.length_cons, List.length_cons, e], fun v y m => ?_⟩
      rw [List.zip_cons_cons] at m
      rcases List.mem_cons.1 m with m | m
      · cases m; exact h1
      · exact k v y m
theorem dqAll_of_zip {K : PySem.W.Frag} {F : Hp} {α : Type} [Enc α] : ∀ {vs : List V} {xs : List α}, vs.length = xs.length → (∀ v x, (v, x) ∈ vs.zip xs → Dq K F v (enc x)) → DqAll K F vs (xs.map enc)
  | [], [], _, _ => .nil
  | [], _ :: _, h, _ => by cases h
  | _ :: _, [], h, _ => by cases h
  | v :: vs, x :: xs, h, k => .cons (k v x (by simp)) (dqAll_of_zip (by simpa using h) fun a b m => k a b (by rw [List.zip_cons_cons]; exact List.mem_cons_of_mem _ m))
theorem zip_snd {α β : Type} : ∀ {xs : List α} {ys : List β}, xs.length = ys.length → (xs.zip ys).map (·.2) = ys
  | [], [], _ => rfl
  | [], _ :: _, h => by cases h
  | _ :: _, [], h => by cases h
  | x :: xs, y :: ys, h => by rw [List.zip_cons_cons, List.map_cons, zip_snd (by simpa using h)]
def srtOk (xs : List (List Int)) : Bool := decide (xs.length < 2) || xs.all fun x => !x.isEmpty
theorem evn_sortedT {m : Prog (L (List Int))} (h : EV N Γ ta m) : EVN N Γ (tCB (TyL.rSortedZ G.K) (tCons ta tNil)) (m >>= fun (xs : List (List Int)) => chk (srtOk xs) (.ok (sortT xs : L (List Int)))) := fun σ F H hs Q q =>
  h σ F H hs _ (wp_mono (wp_bind.1 q) fun (xs : List (List Int)) q1 x F1 H1 hs1 e1 r1 => by
    obtain ⟨hz, q1⟩ := wp_chk q1
    have hd : Dq G.K F1 x (.list (xs.map enc)) := r1
    cases hd with
    | lst hq0 ha =>
      have hq := Rd.of hq0
      obtain ⟨el, hall⟩ := dqAll_zip ha
      refine ⟨_, _, xs, rfl, sql_same hs1.w.fh (.inl hq), el, fun y n m => ?_, fun h2 n m => ?_, fun zs ms p hp hl hpm hn => ?_⟩
      · obtain ⟨t, e, ht⟩ := dq_it (hall y n m)
        exact ⟨t, e, sqt_same hs1.w.fh ht⟩
      · unfold srtOk at hz
        rw [decide_eq_false (by omega), Bool.false_or, List.all_eq_true] at hz
        intro z
        have := hz n m
        rw [z] at this
        cases this
      · have e2 : ms = sortT xs := by
          refine sortT_uniq ?_ (hp.imp fun {a b} h => by unfold leL; rw [h]; rfl)
          have := hpm.map (·.2)
          rwa [zip_snd hl, zip_snd el] at this
        obtain ⟨hs4, n⟩ := hs_newlist (vs := zs) hs1 hn
        have hda : DqAll G.K F1 zs (ms.map enc) := dqAll_of_zip hl fun v x m => hall v x (hpm.mem_iff.1 m)
        rw [e2] at hda
        exact q1 p _ _ _ hs4 e1 n upd_same hda)
end
end Ty

namespace Ty
open PySem PySem.Spec PyProof.Rows L2
open Enc (enc)
variable {G : Glob}
section
variable {N : NN} {Γ : Env G} {te : TE}
def allInts : List PyData → Option (List Int)
  | [] => some []
  | .int n :: r => (allInts r).map fun ns => n :: ns
  | _ :: _ => none
theorem allInts_eq : ∀ {ds : List PyData} {ns : List Int}, allInts ds = some ns → ds = ns.map enc
  | [], ns, h => by
    unfold allInts at h; cases h; rfl
  | d :: r, ns, h => by
    cases d with
    | int n =>
      unfold allInts at h
      cases e : allInts r with
      | none => rw [e] at h; cases h
      | some ms =>
        rw [e] at h
        cases h
        rw [allInts_eq e]
        rfl
    | _ => exact absurd h (by unfold allInts; exact fun z => by cases z)
def asInts : PyData → Prog (List Int)
  | .tuple xs => match allInts xs with
    | some ns => .ok ns
    | none => .stuck
  | _ => .stuck
theorem ev_asInts {m : Prog PyData} (h : EV N Γ te m) : EV N Γ te (m >>= asInts) := fun σ F H hs Q q =>
  h σ F H hs _ (wp_mono (wp_bind.1 q) fun d q1 x F1 H1 hs1 e1 r1 => by
    cases d with
    | tuple ys =>
      unfold asInts at q1
      dsimp only at q1
      cases e : allInts ys with
      | none => rw [e] at q1; exact q1.elim
      | some ns =>
        rw [e] at q1
        refine q1 x F1 H1 hs1 e1 ?_
        show Dq G.K F1 x (.tuple (ns.map enc))
        rw [← allInts_eq e]
        exact r1
    | _ => exact q1.elim)
end
end Ty

namespace Ty
open PySem PySem.Spec PyProof.Rows L2
open Enc (enc)
variable {G : Glob}
/-! except X as e, of a class without fields; isinstance(e, Y) -/
structure XO0 where
  a : Addr
instance rpX0 : Rp G XO0 := ⟨fun x v F => v = .ref x.a, fun _ h => h⟩
section
variable {β ω α : Type} [iα : Rp G α] {N : NN} {Γ : Env G} {tz : TS} {i : Nat}
theorem sv_tryas0 {Γi : β → Env G} {te : XK → TE} {m : Prog α} {b0 : β} {known : List String} {c : String} {p : Prog β} {ts : Addr → Value → Option Addr → TS} {J : Aim ω} {k : β → Prog ω} (hp : Plain Γ) (hfc : fieldsOf c = [])
    (h : ∀ N' : NN, N'.S = N.S → EV N' Γ (te N'.E) m) (hw0 : ∀ σ F H, HS N Γ σ F H → HS N (Γi b0) σ F H)
    (hdead : ∀ b, (Γi b)[i]? = some .dead)
    (hsv : ∀ a, SV N (Γ.set i (.per (XO0.mk a))) (ts a (.ref (G.exc c)) none) (JN N Γi) p)
    (hx : ∀ y, (y = c ∨ y ∈ known) → PySem.W.exmOne G.K (.ref (G.exc y)) (.ref (G.exc c)) = some (decide (y = c)))
    (hk : ∀ b, SV N (Γi b) tz J (k b)) :
    SV N Γ (tSeq (fun D σ H => tSeq (tDrop (fun σ H Q => te (fun cl d H => wAs G.K (.ref (G.exc c)) i ts (fun cl d _ H => N.E cl d H) D cl d σ H) σ H Q)) tNext D σ H) tz) J (catchP (fun e => if e.cls = c then some p else if e.cls ∈ known then none else some .stuck) (m >>= fun _ => .ok b0) >>= k) := fun σ F H D hs q => by
  have q1 := wp_catch.1 (wp_bind.1 q)
  have q2 := wp_bind.1 q1
  let E' : XK := fun cl d H => wAs G.K (.ref (G.exc c)) i ts (fun cl d _ H => N.E cl d H) { D with nx := tz D } cl d σ H
  have hn : HS (N.now F H E') Γ σ F H := hs.now hp
  refine h (N.now F H E') rfl σ F H hn _ (wp_imp q2 (fun a kk v F' H' hs' e r => ?_) fun e he F' H' C d w r => ?_)
  · obtain ⟨h2, e2⟩ := hs.call nowB hs'.w
    exact hk b0 σ F' H' D (hw0 _ _ _ h2) (wp_mono kk fun o x => J.mono e2 x)
  · obtain ⟨h2, e2⟩ := hs.call nowB w
    have eC : C = .ref (G.exc e.cls) := r.1
    show ∃ b, PySem.W.exmOne G.K C (.ref (G.exc c)) = some b ∧ _
    by_cases h1 : e.cls = c
    · rw [if_pos h1] at he
      refine ⟨true, by rw [eC, hx e.cls (.inl h1), decide_eq_true h1], fun _ a _ => ?_, fun z => (nomatch z)⟩
      rcases r.2 with ⟨ea, ed⟩ | ⟨dx, vs, ed, hF, hl, da, hne⟩
      · have he : wp p _ _ := he
        subst ed
        rw [eC, h1]
        have rx : Rp.rp (G := G) (XO0.mk a) (.ref a) F' := rfl
        refine hsv a _ F' H' _ (h2.setPer i rx) (wp_mono he fun b kk σ2 F2 H2 hs2 e3 => ?_)
        exact hk b _ F2 H2 D (hs2.drop (.inl (hdead b)) none) (wp_mono kk fun o x => J.mono (Same.trans e2 e3) x)
      · rw [h1] at hne
        exact absurd hfc hne
    · rw [if_neg h1] at he
      by_cases h3 : e.cls ∈ known
      · rw [if_pos h3] at he
        exact ⟨false, by rw [eC, hx e.cls (.inr h3), decide_eq_false h1], fun z => (nomatch z), fun _ => he F' H' C d h2.w r⟩
      · rw [if_neg h3] at he
        exact he.elim
/-- isinstance(e, Y), e the exception that the suite holds -/
def rIsE' (K : PySem.W.Frag) (D a : Addr) (cls : Value) (d : Option Addr) : List V → Hp → VK → Prop := fun xs H Q => cls = .ref D ∧ d = none ∧ rIsE K D a xs H Q
theorem call_isE' {X : Cx} {a D : Addr} {oe : Obj} {cls : Value} {d : Option Addr} {pn : List (Addr × Obj)} (C : ExcC X.K D) (hz : Zc cls d oe) (hf : ∃ vs, oe.data = .fields vs) : CallR (X.suite a ((a, oe) :: pn)) (.builtin "isinstance") (rIsE' X.K D a cls d) := by
  intro pins s σ H xs us Q I r h
  obtain ⟨rfl, rfl, h⟩ := h
  exact call_isE C hz hf pins s σ H xs us Q I r h
theorem ev_isE {x : XO0} {D Y : Addr} {b : Bool} (hi : Γ[i]? = some (.per x)) (hk : PySem.W.kitOne G.K (.ref D) (.ref Y) = some b) : EV N Γ (tCB (rIsE' G.K D x.a (.ref D) none) (tCons (tVar i) (tCons (tC (.ref Y)) tNil))) (.ok b) := fun σ F H hs Q q => by
  obtain ⟨o, e0, v, e1, h1⟩ := hs.sl.get hi
  subst e1 h1
  exact ⟨_, e0, rfl, rfl, .ref Y, .ref Y, b, rfl, fun u r => by cases r; rfl, hk, q _ F H hs (Same.refl F) (.bl b)⟩
theorem kit_mk {K : PySem.W.Frag} {Y X : Addr} (i : PySem.W.isClsIn K X = true) (t : PySem.W.typeIn K (.ref X) = some (.type "type")) (s : PySem.W.subIn K (.ref Y) (.ref X) = some true) : PySem.W.kitOne K (.ref Y) (.ref X) = some true := by
  unfold PySem.W.kitOne
  split
  · rfl
  · unfold PySem.W.kitCls
    have i' : (PySem.W.clsIn K X).isSome = true := i
    show (if ((PySem.W.clsIn K X).isSome && PySem.W.typeIn K (.ref X) == some (.type "type")) = true then PySem.W.subIn K (.ref Y) (.ref X) else none) = some true
    rw [if_pos (by rw [i', t]; simp)]
    exact s
end
end Ty

namespace Ty
open PySem PySem.Spec PyProof.Rows L2
open Enc (enc)
variable {G : Glob}
/-! a tuple of texts that the module holds -/
def KTup (K : PySem.W.Frag) (a : Addr) (ws : List Str) : Prop := ∃ (o : Obj) (its : Array Value) (n : Nat), K.lookup a = some o ∧ o.cls = .type "tuple" ∧ o.data = .seq its n ∧ its.size ≤ sizeLine ∧ Vals (ws.map V.str) its.toList
theorem dq_strs' {K : PySem.W.Frag} {F : Hp} : ∀ ws : List Str, DqAll K F (ws.map V.str) (ws.map fun s => (PyData.str s : PyData))
  | [] => .nil
  | s :: ws => .cons (.str s) (dq_strs' ws)
section
variable {N : NN} {Γ : Env G}
theorem ev_ktup {a : Addr} {ws : List Str} {xs : List Tx} (h : KTup G.K a ws) (e : ws = xs.map sx) : EV N Γ (tC (.ref a)) (.ok xs) := fun σ F H hs Q q => by
  refine q (.ref a) F H hs (Same.refl F) ?_
  show Dq G.K F (.ref a) (.tuple (xs.map enc))
  have e2 : xs.map (enc : Tx → PyData) = ws.map fun s => (PyData.str s : PyData) := by
    rw [e, List.map_map]
    rfl
  rw [e2]
  exact .tup (.inr h) (dq_strs' ws)
end
/-- list(range(n)) -/
theorem dq_ints {K : PySem.W.Frag} {F : Hp} : ∀ ns : List Int, DqAll K F (ns.map V.int) (ns.map enc)
  | [] => .nil
  | n :: ns => .cons (.int n) (dq_ints ns)
theorem evn_listR {N : NN} {Γ : Env G} {ta : TE} {m : Prog Int} (h : EV N Γ ta m) : EVN N Γ (tLstRg (tRg1 ta)) (m >>= fun n => chk (inRange n && small n.toNat) (.ok (rng 0 n : L Int))) := fun σ F H hs Q q =>
  h σ F H hs _ (wp_mono (wp_bind.1 q) fun n q1 x F1 H1 hs1 e1 r1 => by
    obtain ⟨hz, q1⟩ := wp_chk q1
    obtain ⟨h1, h2⟩ := Bool.and_eq_true_iff.1 hz
    have ex : x = .int n := Scl.dp (α := Int) r1
    have h3 := inRange_ok h1
    have h4 : n.toNat ≤ 100000 := of_decide_eq_true h2
    refine ⟨n, ex, ⟨by decide, by decide, h3.1, h3.2, by show (n - 0).toNat ≤ _; omega⟩, fun p hp => ?_⟩
    have e : rgV 0 n = (rng 0 n).map V.int := by
      unfold rgV rng
      rw [List.map_map]
      rfl
    rw [e]
    obtain ⟨hs4, nw⟩ := hs_newlist (vs := (rng 0 n).map V.int) hs1 hp
    exact q1 p _ _ _ hs4 e1 nw upd_same (dq_ints _))
theorem fn_stuck {P : Program} {w : World} {K : PySem.W.Frag} {mg : Str → Option Value} {base : Heap} {CX : CXT} {k : Nat} {f : Addr} {fd : FuncData} {ps : List Str} {sp : Sp} (h : ∀ vs H Q E, sp vs H Q E → False) : FnOk P w K mg base CX k f fd ps sp :=
  ⟨fun vs H Q E q => (h vs H Q E q).elim, fun A outer s H args us vs Q E hr he hb hv hs => (h _ _ _ _ hs).elim⟩
end Ty

/-! sorted(set(xs)), xs a list of texts -/
namespace TyL
open PySem PySem.Spec PyProof.Rows L2
def keyS (e : Int × Value) : Str := match e.2 with
  | .str k _ => k
  | _ => Str.empty
def GoodS (w : World) (e : Int × Value) : Prop := ∃ k tk, e.2 = Value.str k tk ∧ e.1 = hashStr w k
/-- the set of texts at a: S its members, n their number -/
structure SetS (w : World) (h : Heap) (a : Addr) (S : Str → Bool) (n : Nat) (o : Obj) (es : Array (Int × Value)) (ep : Nat) (t : SetTable) : Prop where
  ho : h.get? a = some o
  ex : o.ExactSet
  hd : o.data = .set es ep t
  g : ∀ e ∈ es.toList, GoodS w e
  nd : (es.toList.map keyS).Nodup
  m : ∀ k, S k = true ↔ k ∈ es.toList.map keyS
  b : es.size < scanBound
  f : t.fits es.size = true
  n : es.size = n
  r : Ris t.place.toList
  l : w.params.followText "set-order" = true ∨ t.led = true
def SetT (w : World) (h : Heap) (a : Addr) (S : Str → Bool) (n : Nat) : Prop := ∃ o es ep t, SetS w h a S n o es ep t
section
variable {P : Program} {w : World} {h h' : Heap} {a : Addr} {S : Str → Bool} {n : Nat}
theorem SetT.at (R : SetT w h a S n) (k : ∀ o, h.get? a = some o → h'.get? a = some o) : SetT w h' a S n := by
  obtain ⟨o, es, ep, t, s⟩ := R
  exact ⟨o, es, ep, t, { s with ho := k o s.ho }⟩
theorem SetT.congr {S' : Str → Bool} (R : SetT w h a S n) (e : ∀ k, S' k = S k) : SetT w h a S' n := by
  have q : S' = S := funext e
  rw [q]; exact R
theorem strK_is (P : Program) (w : World) (k : Str) (u : Tok) : (PySem.strKind P w).is k (.str k u) = true := by
  show Value.isStrOf k (.str k u) = true
  simp [Value.isStrOf]
theorem goodS_is {e : Int × Value} (g : GoodS w e) (k : Str) : (PySem.strKind P w).is k e.2 = true ↔ keyS e = k := by
  obtain ⟨k0, tk, h1, _⟩ := g
  unfold keyS
  rw [h1]
  show Value.isStrOf k (.str k0 tk) = true ↔ k0 = k
  simp [Value.isStrOf]
  try exact eq_comm
theorem goodS_elems {l : List (Int × Value)} (g : ∀ e ∈ l, GoodS w e) : ElemsOf (PySem.strKind P w) l := fun e he => by
  obtain ⟨k, tk, h1, h2⟩ := g e he
  exact ⟨⟨k, by rw [h1]; exact strK_is P w k tk, h2⟩, by rw [h1] <;> rfl⟩
theorem goodS_mem {l : List (Int × Value)} (g : ∀ e ∈ l, GoodS w e) (k : Str) : k ∈ l.map keyS ↔ ∃ e ∈ l, (PySem.strKind P w).is k e.2 = true := by
  rw [List.mem_map]
  constructor
  · rintro ⟨e, he, q⟩
    exact ⟨e, he, (goodS_is (g e he) k).2 q⟩
  · rintro ⟨e, he, q⟩
    exact ⟨e, he, (goodS_is (g e he) k).1 q⟩
theorem setT_fresh {w : World} {h : Heap} {a : Addr} {ns : List Str} (ho : h.get? a = some { cls := .type "set", dict := none, data := .set #[] 0 (.fresh 0 0 (!w.params.followText "set-order")) }) : SetT w h a (fun j => decide (j ∈ ns.take 0)) 0 :=
  ⟨_, #[], 0, _, ho, ⟨rfl, rfl, rfl⟩, rfl, (fun e he => by simp at he), (by simp), (fun k => by simp), (by decide), (by rfl), rfl, List.Pairwise.nil, by
    show _ ∨ (!w.params.followText "set-order") = true
    cases w.params.followText "set-order"
    · exact .inr rfl
    · exact .inl rfl⟩
end
section
variable {P : Program} {w : World} {A : Around} {E : Value → Shared → Prop} {s : Shared} {a : Addr} {S : Str → Bool} {n : Nat}
theorem setT_tail {g : Bool → Sem Unit} (hg : ∀ (b : Bool) (s₁ : Shared) (Q' : Unit → Shared → Prop), Q' () s₁ → wpAny (model P w) A (g b) Q' E s₁)
    {o : Obj} {es : Array (Int × Value)} {ep : Nat} {t : SetTable} (ho : s.heap.get? a = some o) (hex : o.ExactSet) (hd : o.data = .set es ep t)
    {es1 : Array (Int × Value)} {t2 : SetTable} {S' : Str → Bool} (g1 : ∀ e ∈ es1.toList, GoodS w e) (nd1 : (es1.toList.map keyS).Nodup) (m1 : ∀ k, S' k = true ↔ k ∈ es1.toList.map keyS)
    (hb1 : es1.size < scanBound) (hf2 : t2.fits es1.size = true) (hr : Ris t2.place.toList) (hl : w.params.followText "set-order" = true ∨ t2.led = true) {wasDummy : Bool} {R : Option Bool → Shared → Prop}
    (hR : ∀ h', Heap.SameBut a s.heap h' → SetT w h' a S' es1.size → R (some true) { s with heap := h' }) :
    wpAny (model P w) A (do
        storeSet a es1 t2
        if (!wasDummy && t2.tooFull) = true then do
            g (relayAll t2 es1 (SetTable.grown es1.size)).2.2
            storeSet a (relayAll t2 es1 (SetTable.grown es1.size)).1 (relayAll t2 es1 (SetTable.grown es1.size)).2.1
            pure (some true)
          else pure (some true)) R E s := by
  refine wpAny_bind (wpAny_storeSet_of ho hd ?_ (fits_of_scanBound hb1))
  have ho1 := store_at (es' := es1) (t' := t2) ho hd
  have sb1 := Heap.SameBut.update s.heap a (Obj.putSet es1 t2)
  split
  · have pm := relayAll_perm t2 es1 (SetTable.grown es1.size)
    have hf3 := relayAll_fits t2 es1 (SetTable.grown es1.size)
    have hr3 := relayAll_ris t2 es1 (SetTable.grown es1.size)
    have hl3 := relayAll_led t2 es1 (SetTable.grown es1.size)
    generalize relayAll t2 es1 (SetTable.grown es1.size) = Z at pm hf3 hr3 hl3 ⊢
    obtain ⟨es2, t3, gave⟩ := Z
    dsimp only at pm hf3 hr3 hl3 ⊢
    have hsz : es2.size = es1.size := by rw [← Array.length_toList, pm.length_eq, Array.length_toList]
    have hb2 : es2.size < scanBound := by rw [hsz]; exact hb1
    refine wpAny_bind (hg _ _ _ ?_)
    refine wpAny_bind (wpAny_storeSet_of ho1 rfl ?_ (fits_of_scanBound hb2))
    have ho2 := store_at (es' := es2) (t' := t3) ho1 rfl
    refine wpAny_pure (hR _ (sb1.trans (Heap.SameBut.update _ a _)) ?_)
    exact ⟨_, es2, _, t3, ho2, hex, rfl, fun e he => g1 e (pm.mem_iff.mp he), (pm.map keyS).nodup_iff.mpr nd1, fun k => (m1 k).trans (pm.map keyS).mem_iff.symm, hb2, hf3, hsz, hr3,
      hl.imp id fun z => by rw [hl3]; exact z⟩
  · exact wpAny_pure (hR _ sb1 ⟨_, es1, _, t2, ho1, hex, rfl, g1, nd1, m1, hb1, hf2, rfl, hr, hl⟩)
theorem setT_add {k : Str} {tk : Tok} {Q : Bool → Shared → Prop} (R : SetT w s.heap a S n) (room : n + 1 < scanBound)
    (hQ : ∀ h', Heap.SameBut a s.heap h' → SetT w h' a (fun j => S j || decide (j = k)) (if S k = true then n else n + 1) → Q (!S k) { s with heap := h' }) :
    wpAny (model P w) A (setAddHashed a (.str k tk) ((PySem.strKind P w).hash k)) Q E s := by
  obtain ⟨o, es, ep, t, ho, hex, hd, g, nd, hm, hb, hf, hn, hr, hl⟩ := R
  have hkey : (PySem.strKind P w).is k (.str k tk) = true := strK_is P w k tk
  have hsc : (Value.str k tk).scannable = true := rfl
  have hel : ElemsOf (PySem.strKind P w) es.toList := goodS_elems g
  unfold setAddHashed setAddHashedIn
  refine wpAny_holding (wpAny_bind (wpAny_setState_of ho hd hf ?_))
  dsimp only
  rw [byScan_of hsc hb hel]
  simp only [↓reduceIte]
  unfold setAddByScan
  refine wpAny_bind ?_
  refine wpAny_bind (wpAny_rule ?_)
  refine wpAny_bind (wpAny_setScan_of hkey ho hd hf hel ?_)
  cases hfi : List.findIdx? (fun e => (PySem.strKind P w).is k e.2) es.toList with
  | some j =>
    dsimp only
    obtain ⟨hj, pj, _⟩ := List.findIdx?_eq_some_iff_getElem.mp hfi
    have hSk : S k = true := (hm k).2 ((goodS_mem (P := P) (w := w) g k).2 ⟨es.toList[j], List.getElem_mem hj, pj⟩)
    refine wpAny_pure (wpAny_pure ?_)
    have q := hQ s.heap (Heap.SameBut.refl a s.heap) ⟨o, es, ep, t, ho, hex, hd, g, nd, fun i => by
      rw [Bool.or_eq_true, decide_eq_true_eq, ← hm i]
      exact ⟨fun z => z.elim id (fun e => e ▸ hSk), .inl⟩, hb, hf, by rw [if_pos hSk]; exact hn, hr, hl⟩
    rw [hSk] at q
    exact q
  | none =>
    dsimp only
    have hnk : k ∉ es.toList.map keyS := fun z => by
      obtain ⟨e, he, q⟩ := (goodS_mem (P := P) (w := w) g k).1 z
      have c := List.findIdx?_eq_none_iff.mp hfi e he
      rw [q] at c
      cases c
    have hSk : S k = false := by
      cases q : S k with
      | false => rfl
      | true => exact absurd ((hm k).1 q) hnk
    have hgw : ∀ (b : Bool) {s₁ : Shared} {Q' : Unit → Shared → Prop}, Q' () s₁ → wpAny (model P w) A (match b with | true => rule "set.scan.the-table-gave-way" | false => pure ()) Q' E s₁ :=
      fun b s₁ Q' q => by cases b <;> first | exact wpAny_pure q | exact wpAny_rule q
    have pm := layNew_perm t es ((PySem.strKind P w).hash k) (.str k tk)
    have hf1 := layNew_fits t es ((PySem.strKind P w).hash k) (.str k tk)
    have hr1 := layNew_ris t es ((PySem.strKind P w).hash k) (.str k tk) hr
    have hl1 := layNew_led t es ((PySem.strKind P w).hash k) (.str k tk)
    generalize layNew t es ((PySem.strKind P w).hash k) (.str k tk) = Z at pm hf1 hr1 hl1 ⊢
    obtain ⟨es1, t1, wasDummy, gave⟩ := Z
    dsimp only at pm hf1 hr1 hl1 ⊢
    rw [Array.toList_push] at pm
    have pc : es1.toList.Perm (((PySem.strKind P w).hash k, Value.str k tk) :: es.toList) := pm.trans (List.perm_append_singleton _ _)
    have pk : (es1.toList.map keyS).Perm (k :: es.toList.map keyS) := pc.map keyS
    have g1 : ∀ e ∈ es1.toList, GoodS w e := fun e he => by
      rcases List.mem_cons.mp (pc.mem_iff.mp he) with z | z
      · rw [z]; exact ⟨k, tk, rfl, rfl⟩
      · exact g e z
    have nd1 : (es1.toList.map keyS).Nodup := pk.nodup_iff.mpr (List.nodup_cons.mpr ⟨hnk, nd⟩)
    have m1 : ∀ i, (S i || decide (i = k)) = true ↔ i ∈ es1.toList.map keyS := fun i => by
      rw [Bool.or_eq_true, decide_eq_true_eq, hm i, pk.mem_iff, List.mem_cons]
      exact Or.comm
    have hsz : es1.size = n + 1 := by rw [← Array.length_toList, pc.length_eq, List.length_cons, Array.length_toList, hn]
    have hb1 : es1.size < scanBound := by rw [hsz]; exact room
    have hled : w.params.followText "set-order" = true ∨ t1.led = true := hl.imp id fun z => by rw [hl1]; exact z
    have fin : ∀ h', Heap.SameBut a s.heap h' → SetT w h' a (fun j => S j || decide (j = k)) es1.size → Q true { s with heap := h' } := fun h' sb r => by
      have q := hQ h' sb
      rw [hSk] at q
      rw [hsz] at r
      exact q r
    refine wpAny_bind (hgw _ ?_)
    split
    · refine wpAny_bind ?_
      rw [hashByValue_scannable 8 hsc]
      refine wpAny_pure ?_
      refine setT_tail ?_ ho hex hd g1 nd1 m1 hb1 ?_ ?_ ?_ ?_
      · intro b s₁ Q' q; cases b <;> first | exact wpAny_pure q | exact wpAny_rule q
      · first | (split <;> first | exact hf1 | exact SetTable.fits_plain_off hf1) | exact hf1
      · first | (split <;> exact hr1) | exact hr1
      · first | (split <;> exact hled) | exact hled
      · intro h' sb r; dsimp only; exact wpAny_pure (fin h' sb r)
    · refine wpAny_bind (wpAny_pure ?_)
      simp only [↓reduceIte]
      refine setT_tail ?_ ho hex hd g1 nd1 m1 hb1 hf1 hr1 hled ?_
      · intro b s₁ Q' q; cases b <;> first | exact wpAny_pure q | exact wpAny_rule q
      · intro h' sb r; dsimp only; exact wpAny_pure (fin h' sb r)
end
section
variable {P : Program} {w : World} {A : Around} {E : Value → Shared → Prop} {s : Shared}
theorem set_update_strs {I : Addr} {fp wr : List Addr} {G : Array GenState → Array GenState → Prop} {n : Nat} {Pv : Nat → Value → Prop} {St : Nat → Shared → Prop} {R : Result → Shared → Prop}
    (W : WalksS P w A.in1 I fp wr G n Pv St) (S : Addr) (hSf : S ∉ fp) (ns : List Str) (hn : n = ns.length) (hb : ns.length + 1 < scanBound) (hval : ∀ i v, Pv i v → ∃ k t, ns[i]? = some k ∧ v = .str k t) :
    ∀ (k i : Nat) (s : Shared), n - i = k → i ≤ n → St i s → (∃ c, c ≤ i ∧ SetT w s.heap S (fun j => decide (j ∈ ns.take i)) c) →
      (∀ s' c, Moved (S :: wr) G s s' → c ≤ n → SetT w s'.heap S (fun j => decide (j ∈ ns)) c → R (.ok (.ret .none)) s') →
      codeAny (model P w) A (.builtin "set.update.loop" ⟨[.ref S, .ref I], []⟩) R s := by
  have hSw : S ∉ wr := fun h => hSf (W.sub _ h)
  have hsub : ∀ b ∈ wr, b ∈ S :: wr := fun b hb => List.mem_cons_of_mem _ hb
  intro k
  induction k with
  | zero =>
    intro i s hk' hi hst ⟨c, hc, hS⟩ hR
    have hin : i = n := by omega
    subst hin
    refine codeAny_builtin F.entry_set_update_loop ?_
    rw [Around.under_plainId F.plain_set_update_loop _]
    show wpAny _ A.in1 (pyNext (.ref I) >>= _) _ _ s
    refine wpAny_bind (W.done s _ _ hst fun s' hm => ?_)
    show wpAny _ A.in1 (ret Value.none) _ _ s'
    have e : ns.take i = ns := List.take_of_length_le (by omega)
    rw [e] at hS
    exact wpAny_pure (hR s' c (hm.mono hsub) hc (hS.at fun o e => hm.heap S o hSw e))
  | succ k ih =>
    intro i s hk' hi hst ⟨c, hc, hS⟩ hR
    have hlt : i < n := by omega
    refine codeAny_builtin F.entry_set_update_loop ?_
    rw [Around.under_plainId F.plain_set_update_loop _]
    show wpAny _ A.in1 (pyNext (.ref I) >>= _) _ _ s
    refine wpAny_bind (W.item i s _ _ hlt hst fun v s' hP hst' hm => ?_)
    obtain ⟨z, t, hz, rfl⟩ := hval i v hP
    have hS' : SetT w s'.heap S (fun j => decide (j ∈ ns.take i)) c := hS.at fun o e => hm.heap S o hSw e
    show wpAny _ A.in1 (holding [Value.str z t] (setAdd S (.str z t)) >>= _) _ _ s'
    refine wpAny_bind (wpAny_holding ?_)
    unfold setAdd
    refine wpAny_holding ?_
    refine wpAny_bind ((PySem.strKind P w).pyHash (k := z) (strK_is _ _ _ _) ?_)
    refine setT_add (s := { s' with toks := s'.toks + 1 }) hS' (by omega) fun h' hsb hS2 => ?_
    have hS3 : SetT w h' S (fun j => decide (j ∈ ns.take (i + 1))) (if decide (z ∈ ns.take i) = true then c else c + 1) := hS2.congr fun j => by
      rw [List.take_add_one, hz]
      simp [List.mem_append]
    have hc3 : (if decide (z ∈ ns.take i) = true then c else c + 1) ≤ i + 1 := by
      split <;> omega
    refine wpAny_pure ⟨plainId_quiet F.plain_set_update_loop _, ih (i + 1) _ (by omega) hlt (W.frame _ s' _ _ hst' (Nat.le_succ _) fun b hb o e => ?_) ⟨_, hc3, hS3⟩ fun s'' c2 hm'' hc'' hS'' => ?_⟩
    · rw [hsb.2 b (fun h : b = S => hSf (by rw [← h]; exact hb))]; exact e
    · refine hR s'' c2 (Moved.trans W.gtrans ((hm.mono hsub).then_heap (Nat.le_succ _) fun b o hb e => ?_) hm'') hc'' hS''
      rw [hsb.2 b (fun h : b = S => hb (by rw [h]; exact List.mem_cons_self))]; exact e
set_option maxRecDepth 100000 in
set_option maxHeartbeats 3200000 in
theorem call_set_strs {l : Addr} {items : Array Value} (ns : List Str) {Q : Value → Shared → Prop} (hh : A.handled = none) (hl : s.heap.IsList l items) (hit : StrsAre items.toList ns) (hb : ns.length + 1 < scanBound)
    (h : ∀ (h' : Heap) (tk c : Nat), SetT w h' s.heap.objs.size (fun j => decide (j ∈ ns)) c → c ≤ ns.length → (∀ b o, s.heap.get? b = some o → h'.get? b = some o) → Q (.ref s.heap.objs.size) { s with heap := h', toks := tk }) :
    wpAny (model P w) A (call (.type "set") [.ref l]) Q E s := by
  have hisz : items.size = ns.length := by
    have q := StrsAre.len_eq hit
    rw [Array.length_toList] at q
    exact q
  obtain ⟨c, tl, hmro⟩ := F.called_set.mro
  have hmade := F.called_set.made
  have hsub := F.called_set.sub
  refine wpAny_call (codeAny_of_tree ?_)
  show wpAny _ _ (callAny (.type "set") _) _ _ _
  refine wpAny_pure ⟨Code.quiet_builtin _ (by decide +kernel), codeAny_builtin F.entry_type_call ?_⟩
  rw [Around.under_plain (weight_type_call_type "set" [.ref l] []) rfl]
  have h1 := F.called_set.notType
  have h2 := F.called_set.canCreate
  have hct := F.typeCall_set_1 (.ref l)
  repeat (any_goals (first | assumption | wp_step))
  refine codeAny_mono (code_set_led1 (.ref l) (E := E) (Q₁ := fun obj s₁ => obj = .ref s.heap.objs.size ∧ s₁ = { s with heap := s.heap.push { cls := .type "set", dict := none, data := .set #[] 0 (.fresh 0 0 (!w.params.followText "set-order")) } }) ⟨rfl, rfl⟩) fun r s₁ hr => ?_
  cases r with
  | error e => exact hr
  | ok fl =>
    cases fl with
    | ret obj =>
      obtain ⟨rfl, rfl⟩ := hr
      have hS : (s.heap.push { cls := .type "set", dict := none, data := .set #[] 0 (.fresh 0 0 (!w.params.followText "set-order")) }).get? s.heap.objs.size = some { cls := .type "set", dict := none, data := .set #[] 0 (.fresh 0 0 (!w.params.followText "set-order")) } := Heap.get?_push_size _ rfl
      have hT : Shared.TypeIs { s with heap := s.heap.push { cls := .type "set", dict := none, data := .set #[] 0 (.fresh 0 0 (!w.params.followText "set-order")) } } (.ref s.heap.objs.size) "set" := ⟨_, hS, rfl⟩
      have hli := F.called_set.init.lookup
      have hbi := F.called_set.init.bind (.ref s.heap.objs.size)
      repeat (any_goals (first | assumption | wp_step))
      refine codeAny_mono (codeAny_call_builtin (R := wants (fun r s₂ => r = .none ∧ ∃ h' tk c, s₂ = { s with heap := h', toks := tk } ∧ SetT w h' s.heap.objs.size (fun j => decide (j ∈ ns)) c ∧ c ≤ ns.length ∧
          (∀ b o, s.heap.get? b = some o → h'.get? b = some o)) E) F.called_set.init.plain F.entry_set_init (check_set_init_1 hT ?_)) fun r₂ s₂ hr₂ => ?_
      · obtain ⟨ol, hol, hcl, nl, hdl⟩ := hl
        obtain ⟨ocls, odict, odata, oslots⟩ := ol
        simp only at hcl hdl
        subst hcl; subst hdl
        have hol' : (s.heap.push { cls := .type "set", dict := none, data := .set #[] 0 (.fresh 0 0 (!w.params.followText "set-order")) }).get? l = some { cls := .type "list", dict := odict, data := .seq items nl, slots := oslots } := Heap.get?_push_of_some _ hol
        have hsls := F.sub_list_set
        have hslf := F.sub_list_frozenset
        have hne : (Value.type "list" == Value.type "dict") = false := by decide
        have hl1 : (s.heap.push { cls := .type "set", dict := none, data := .set #[] 0 (.fresh 0 0 (!w.params.followText "set-order")) }).IsList l items := ⟨_, hol', rfl, nl, rfl⟩
        unfold Builtin.«set.__init__» noKeywords Builtin.Frozenset.updateFrom
        generalize hPI : pyIter = PI
        wp_walk
        subst hPI
        refine wpAny_pyIter_list hl1 ?_
        refine wpAny_bind (wpAny_runValue ?_)
        have hlS : l < s.heap.objs.size := Heap.lt_size hol
        have hh3 : A.in1.in1.in1.handled = none := by simp [hh]
        have hz1 : (s.heap.push { cls := .type "set", dict := none, data := .set #[] 0 (.fresh 0 0 (!w.params.followText "set-order")) }).objs.size = s.heap.objs.size + 1 := Heap.size_push ..
        have hneI : l ≠ (s.heap.push { cls := .type "set", dict := none, data := .set #[] 0 (.fresh 0 0 (!w.params.followText "set-order")) }).objs.size := by
          rw [Heap.size_push]; exact Nat.ne_of_lt (Nat.lt_succ_of_lt hlS)
        have hSf : s.heap.objs.size ∉ [(s.heap.push { cls := .type "set", dict := none, data := .set #[] 0 (.fresh 0 0 (!w.params.followText "set-order")) }).objs.size, l] := by
          rw [Heap.size_push]; simp only [List.mem_cons, List.mem_singleton, List.not_mem_nil, or_false, not_or]
          exact ⟨Nat.ne_of_lt (Nat.lt_succ_self _), Nat.ne_of_gt hlS⟩
        have hval : ∀ (i : Nat) (v : Value), items[i]? = some v → ∃ k t, ns[i]? = some k ∧ v = .str k t := fun i v hv => by
          have hi : i < ns.length := by rw [← hisz]; exact (Array.getElem?_eq_some_iff.mp hv).1
          obtain ⟨t, e⟩ := SS.strs_at hit i v (by rw [Array.getElem?_toList]; exact hv)
          refine ⟨ns[i], t, List.getElem?_eq_getElem hi, ?_⟩
          rw [e, List.getD_eq_getElem?_getD, List.getElem?_eq_getElem hi] <;> rfl
        refine set_update_strs ((Walks.list hh3 _ l hneI items).toS) s.heap.objs.size
          hSf ns hisz hb hval (items.size - 0) 0 _ (by omega) (Nat.zero_le _)
          ⟨⟨_, Heap.get?_push_size _ rfl, rfl, rfl⟩, (hl1.push _)⟩ ?hS0 ?hR
        case hS0 =>
          have hget : ((s.heap.push { cls := .type "set", dict := none, data := .set #[] 0 (.fresh 0 0 (!w.params.followText "set-order")) }).push { cls := .type "list_iterator", data := .fields #[.ref l, .int 0 0] }).get? s.heap.objs.size
              = some { cls := .type "set", dict := none, data := .set #[] 0 (.fresh 0 0 (!w.params.followText "set-order")) } := Heap.get?_push_of_some _ hS
          exact ⟨0, Nat.le_refl 0, setT_fresh hget⟩
        case hR =>
          intro s' c' hm hc' hS'
          obtain ⟨h', g2, d', tk', os'⟩ := s'
          have eg : g2 = s.gens := hm.gens
          have ed : d' = s.drawn := hm.drawn
          have eo : os' = s.os := hm.os
          subst eg; subst ed; subst eo
          show wpAny _ _ _ _ _ _
          refine wpAny_pure ?_
          show wpAny _ _ (ret Value.none) _ _ _
          rw [hisz] at hc'
          refine wpAny_pure ⟨rfl, h', tk', c', rfl, hS', hc', fun b o e => ?_⟩
          have hb0 : b < s.heap.objs.size := Heap.lt_size e
          have hb1 : b ≠ s.heap.objs.size := Nat.ne_of_lt hb0
          have hb2 : b ≠ (s.heap.push { cls := .type "set", dict := none, data := .set #[] 0 (.fresh 0 0 (!w.params.followText "set-order")) }).objs.size := by
            rw [Heap.size_push]; exact Nat.ne_of_lt (Nat.lt_succ_of_lt hb0)
          exact hm.heap b o (by simp only [List.mem_cons, List.mem_singleton, List.not_mem_nil, or_false, not_or]; exact ⟨hb1, hb2⟩) (Heap.get?_push_of_some _ (Heap.get?_push_of_some _ e))
      · cases r₂ with
        | error e => exact hr₂
        | ok fl₂ =>
          cases fl₂ with
          | ret r =>
            obtain ⟨rfl, h', tk, c', rfl, hS', hc', hk'⟩ := hr₂
            repeat (any_goals (first | assumption | wp_step))
            exact h _ _ _ hS' hc' hk'
          | _ => exact hr₂.elim
    | _ => exact hr.elim
theorem strs_of : ∀ (l : List Value), (∀ v ∈ l, ∃ k tk, v = Value.str k tk) → StrsAre l (l.map fun v => keyS (0, v))
  | [], _ => .nil
  | v :: l, h => by
    obtain ⟨k, tk, rfl⟩ := h v List.mem_cons_self
    exact .cons k tk (strs_of l fun u hu => h u (List.mem_cons_of_mem _ hu))
theorem sorted_setT {a : Addr} {S : Str → Bool} {n : Nat} {Q : Value → Shared → Prop} (R : SetT w s.heap a S n) (hh : A.handled = none)
    (hQ : ∀ s' p (out : Array Value) (c : Nat) (ns : List Str), (∀ b o, s.heap.get? b = some o → s'.heap.get? b = some o) → s'.gens = s.gens → s'.os = s.os → s.heap.objs.size ≤ p →
      s'.heap.get? p = some (seqObj "list" out c) → StrsAre out.toList ns → sortedS ns = true → ns.Nodup → (∀ k, k ∈ ns ↔ S k = true) → ns.length = n → Q (.ref p) s') :
    wpAny (model P w) A (call (.builtin "sorted") [.ref a]) Q E s := by
  obtain ⟨o, es, ep, t, ho, hex, hd, g, nd, hm, hb, hf, hn, hr, hl⟩ := R
  refine Calls.call_function_entry kind_sorted plain_sorted entry_sorted (args_sorted1 _) ?_
  unfold Builtin.«sorted»
  refine wpAny_bind (m := checkCount "sorted" 1 1 _) (wpAny_pure ?_)
  refine wpAny_bind (collect_set (A := A.in1) hh ⟨o, ho, hex.1, hd⟩ hf hb hr hl fun s1 vs k1 hz g1 o1 pm => ?_)
  have hvl : vs.length = n := by rw [pm.length_eq, List.length_map, Array.length_toList]; exact hn
  have hI : StrsAre vs (vs.map fun v => keyS (0, v)) := strs_of vs fun v hv => by
    obtain ⟨e, he, q⟩ := List.mem_map.mp (pm.mem_iff.mp hv)
    obtain ⟨k, tk, h1, _⟩ := g e he
    exact ⟨k, tk, by rw [← q]; exact h1⟩
  have pk : (vs.map fun v => keyS (0, v)).Perm (es.toList.map keyS) := by
    have q := pm.map fun v => keyS (0, v)
    rw [List.map_map] at q
    exact q
  have hsl : vs.length ≤ sizeLine := by rw [hvl, ← hn]; exact fits_of_scanBound hb
  refine wpAny_bind (wpAny_newList ?_ hsl)
  have hoL : (s1.heap.push (seqObj "list" vs.toArray 0)).get? s1.heap.objs.size = some (seqObj "list" vs.toArray 0) := Heap.get?_push_size _ rfl
  refine wpAny_bind (wpAny_holding (wpAny_call_entry slot_list_sort ⟨_, hoL, rfl⟩ entry_list_sort (list_sort_treeKAny strKind_oneLt hoL hI.keysOf (fun v₁ v₂ rest e => keyKind_strs (by rw [← e]; exact hI)) hsl fun st' hp hs => ⟨_, rfl, ?_⟩) (args_list_sort _)))
  obtain ⟨ns', a1, a2, a3⟩ := sorted_out_str hI hp hs
  obtain ⟨c, hc⟩ := sortedHeap_at (vs := vs) (out := (arrOf st').map (·.2)) hoL
  have pn : ns'.Perm (es.toList.map keyS) := a2.trans pk
  refine wpAny_pure ⟨_, rfl, hQ _ s1.heap.objs.size _ c ns' (fun b u e => ?_) g1 o1 hz hc a1 a3 (pn.nodup_iff.mpr nd) (fun k => by rw [pn.mem_iff, ← hm k]) ?_⟩
  · have q := k1 b u e
    have hlt := Heap.lt_size q
    show (sortedHeap (s1.heap.push (seqObj "list" vs.toArray 0)) s1.heap.objs.size vs _).get? b = some u
    rw [sortedHeap_old (Nat.ne_of_lt hlt) (by rw [size_push']; exact Nat.lt_succ_of_lt hlt)]
    exact Heap.get?_push_of_some _ q
  · rw [pn.length_eq, List.length_map, Array.length_toList]; exact hn
end
end TyL

namespace TyL
open PySem PySem.Spec PyProof.Rows L2
section
variable {X : Cx}
theorem strsV : ∀ {ys : List Str} {us : List Value}, StrsAre us ys → Vals (ys.map V.str) us
  | _, _, .nil => .nil
  | _, _, .cons k t r => .cons ⟨t, rfl⟩ (strsV r)
/-- sorted(set(xs)) -/
def tSortSet (K : PySem.W.Frag) (ta : TE) : TE := fun σ H Q => ta σ H fun x H1 => ∃ l, ∃ xs : List Str, x = .ref l ∧ SqL K H1 l (xs.map V.str) ∧ xs.length + 1 < scanBound ∧
  ∀ ys p, sortedS ys = true → ys.Nodup → (∀ k, k ∈ ys ↔ k ∈ xs) → H1 p = none → Q (.ref p) (upd H1 p (.lst (ys.map V.str)))
theorem pe_sortedSet {a : Expr} {ta : TE} {p p2 q pos : Pos} (hc : X.calm = true) (hg : Gl X "sorted") (hm : X.mg "sorted" = none) (hv : bootBuiltins "sorted" = some (.builtin "sorted")) (hg2 : Gl X "set") (hm2 : X.mg "set" = none) (ha : PE X a ta)
    (na : starEach [a] X.env = (false, eval a X.env) :: starEach [] X.env := by rfl) : PE X (.Call (.Name "sorted" p) [.Call (.Name "set" p2) [a] [] q] [] pos) (tSortSet X.K ta) := by
  refine ⟨fun pins s σ H Q I h => ?_⟩
  refine Call_ (ld_blt I hg hm hv ?_)
  refine PyProof.Rows.callWith_builtin1 (PyProof.Rows.args_cons ?_ rfl) rfl rfl
  refine Call_ (ld_blt I hg2 hm2 boot_set ?_)
  refine PyProof.Rows.callWith_type1 (PyProof.Rows.args_cons (thn (ha.run pins s σ H _ I h) fun v s1 ⟨x, H1, I1, r1, q1⟩ => PyProof.Rows.args_nil ?_) na) na rfl
  obtain ⟨l, xs, rfl, hq, h1, q1⟩ := q1
  cases r1
  obtain ⟨its, r, pl, hz⟩ := I1.list hq
  refine call_set_strs xs (I1.ok.hd hc) pl.isList (by simpa using strsAre_of r) h1 fun h' tk c R hcl k => PyProof.Rows.args_nil ?_
  have I2 : Inv X pins σ H1 { s1 with heap := h', toks := tk } := I1.kept fun b o e => k b o e
  refine sorted_setT (s := { s1 with heap := h', toks := tk }) R (I2.ok.hd hc) fun s' p out c' ns k2 g o hp hg2 hi hs hnd hm2 hl => ?_
  have hl2 : ns.length ≤ xs.length := by rw [hl]; exact hcl
  have hlen : (ns.map V.str).length ≤ sizeLine := by
    rw [List.length_map]
    rw [List.length_map] at hz
    exact Nat.le_trans hl2 hz
  have hn : H1 p = none := I2.hok.fresh hp
  have J : Inv X pins σ (upd H1 p (.lst (ns.map V.str))) { ({ s1 with heap := h', toks := tk } : Shared) with heap := s'.heap, gens := s'.gens, drawn := s'.drawn, toks := s'.toks } :=
    I2.call (ch := []) (Un.laid k2 hp hn) (I2.hok.laid k2 hp ⟨hlen, out.toList, c', strsV hi, hg2⟩) (by rw [g]; exact I2.bare) (fun _ z => nomatch z)
  have e : s' = { s1 with heap := s'.heap, gens := s'.gens, drawn := s'.drawn, toks := s'.toks } := by
    cases s'
    cases s1
    cases o
    rfl
  rw [e]
  exact ⟨.ref p, _, J, rfl, q1 ns p hs hnd (fun k => (hm2 k).trans (by simp)) hn⟩
/-- sorted(xs), texts -/
def rSortedSA (K : PySem.W.Frag) : List V → Hp → VK → Prop := fun vs H Q => ∃ (a : Addr) (xs : List Str), vs = [V.ref a] ∧ SqL K H a (xs.map V.str) ∧ ∀ (ys : List Str) (p : Addr), ys.Perm xs → sortedS ys = true → H p = none → Q (.ref p) (upd H p (.lst (ys.map V.str)))
theorem cr_sortedSA : CallR X (.builtin "sorted") (rSortedSA X.K) := by
  intro pins s σ H vs us Q I r h
  obtain ⟨a, xs, rfl, hs, q⟩ := h
  obtain ⟨its, rv, hl, hz⟩ := I.list hs
  rw [Vals.ref1 r]
  refine PyProof.Rows.sorted_strsAny hl.isList rv.strs (by rw [← rv.length]; exact hz) fun out ys h1 h2 h3 => ?_
  obtain ⟨ep, he'⟩ := PyProof.Rows.sortedAll_at s.heap its out
  have hlen : (ys.map V.str).length ≤ sizeLine := by
    rw [List.length_map, h2.length_eq]
    rw [List.length_map] at hz
    exact hz
  exact ⟨.ref _, upd H (s.heap.objs.size + 1) (.lst (ys.map V.str)), I.laid (t' := s.toks) (fun _ _ => PyProof.Rows.sortedAll_old) (Nat.le_succ _) ⟨hlen, out.toList, ep, vals_of_strs h1, he'⟩, rfl, q ys _ h2 h3 (I.hok.fresh (Nat.le_succ _))⟩
end
end TyL

namespace Ty
open PySem PySem.Spec PyProof.Rows L2
open Enc (enc)
variable {G : Glob}
/-- not behind -/
def leT (a b : Tx) : Bool := !ltCps b a
theorem lt_asym : ∀ {x y : Tx}, ltCps x y = true → ltCps y x = false
  | [], [], h => by cases h
  | [], _ :: _, _ => rfl
  | _ :: _, [], h => by cases h
  | x :: xs, y :: ys, h => by
    unfold ltCps at h ⊢
    simp only [Bool.or_eq_true, Bool.and_eq_true, decide_eq_true_eq, beq_iff_eq] at h
    simp only [Bool.or_eq_false_iff, Bool.and_eq_false_iff, decide_eq_false_iff_not, beq_eq_false_iff_ne, ne_eq]
    rcases h with h | ⟨rfl, h⟩
    · exact ⟨by omega, .inl (by omega)⟩
    · exact ⟨by omega, .inr (lt_asym h)⟩
theorem lt_irr : ∀ x : Tx, ltCps x x = false
  | [] => rfl
  | x :: xs => by
    unfold ltCps
    simp [lt_irr xs]
theorem lt_tri : ∀ {x y : Tx}, ltCps x y = false → ltCps y x = false → x = y
  | [], [], _, _ => rfl
  | [], _ :: _, h, _ => by cases h
  | _ :: _, [], _, h => by cases h
  | x :: xs, y :: ys, h1, h2 => by
    unfold ltCps at h1 h2
    simp only [Bool.or_eq_false_iff, Bool.and_eq_false_iff, decide_eq_false_iff_not, beq_eq_false_iff_ne, ne_eq] at h1 h2
    have e : x = y := by omega
    subst e
    have k1 : ltCps xs ys = false := by
      rcases h1.2 with z | z
      · exact absurd rfl z
      · exact z
    have k2 : ltCps ys xs = false := by
      rcases h2.2 with z | z
      · exact absurd rfl z
      · exact z
    rw [lt_tri k1 k2]
theorem lt_tr : ∀ {x y z : Tx}, ltCps x y = true → ltCps y z = true → ltCps x z = true
  | _, [], [], _, h => by cases h
  | [], [], _ :: _, h, _ => by cases h
  | _ :: _, [], _ :: _, h, _ => by cases h
  | _, _ :: _, [], _, h => by cases h
  | [], _ :: _, _ :: _, _, _ => rfl
  | x :: xs, y :: ys, z :: zs, h1, h2 => by
    unfold ltCps at h1 h2 ⊢
    simp only [Bool.or_eq_true, Bool.and_eq_true, decide_eq_true_eq, beq_iff_eq] at h1 h2 ⊢
    rcases h1 with h1 | ⟨rfl, h1⟩
    · rcases h2 with h2 | ⟨rfl, h2⟩
      · exact .inl (by omega)
      · exact .inl h1
    · rcases h2 with h2 | ⟨rfl, h2⟩
      · exact .inl h2
      · exact .inr ⟨rfl, lt_tr h1 h2⟩
theorem leT_anti {a b : Tx} (h1 : leT a b = true) (h2 : leT b a = true) : a = b := by
  unfold leT at *
  exact lt_tri (by simpa using h2) (by simpa using h1)
theorem leT_tr {a b c : Tx} (h1 : leT a b = true) (h2 : leT b c = true) : leT a c = true := by
  cases h : leT a c with
  | true => rfl
  | false =>
    unfold leT at h1 h2 h
    have k1 : ltCps b a = false := by simpa using h1
    have k2 : ltCps c b = false := by simpa using h2
    have k3 : ltCps c a = true := by simpa using h
    cases h4 : ltCps a b with
    | true => rw [lt_tr k3 h4] at k2; cases k2
    | false => rw [lt_tri h4 k1] at k3; rw [k3] at k2; cases k2
theorem leT_tot (a b : Tx) : leT a b = true ∨ leT b a = true := by
  unfold leT
  cases h : ltCps b a with
  | false => simp
  | true => rw [lt_asym h]; simp
theorem leT_refl (a : Tx) : leT a a = true := by
  unfold leT
  rw [lt_irr]; rfl
def insX (a : Tx) : List Tx → List Tx
  | [] => [a]
  | b :: r => if leT a b then a :: b :: r else b :: insX a r
def sortX (xs : List Tx) : List Tx := xs.foldr insX []
theorem insX_perm (a : Tx) : ∀ xs, (insX a xs).Perm (a :: xs)
  | [] => .refl _
  | b :: r => by
    unfold insX
    split
    · exact .refl _
    · exact ((insX_perm a r).cons b).trans (.swap _ _ _)
theorem sortX_perm : ∀ xs, (sortX xs).Perm xs
  | [] => .refl _
  | a :: r => (insX_perm a _).trans ((sortX_perm r).cons a)
abbrev Up (xs : List Tx) : Prop := xs.Pairwise fun a b => leT a b = true
theorem insX_up (a : Tx) : ∀ {xs}, Up xs → Up (insX a xs)
  | [], _ => List.pairwise_singleton _ _
  | b :: r, h => by
    obtain ⟨h1, h2⟩ := List.pairwise_cons.1 h
    unfold insX
    split
    · rename_i k
      exact List.pairwise_cons.2 ⟨fun c m => by
        rcases List.mem_cons.1 m with rfl | m
        · exact k
        · exact leT_tr k (h1 c m), h⟩
    · rename_i k
      refine List.pairwise_cons.2 ⟨fun c m => ?_, insX_up a h2⟩
      rcases List.mem_cons.1 ((insX_perm a r).mem_iff.1 m) with rfl | m
      · exact (leT_tot c b).resolve_left k
      · exact h1 c m
theorem sortX_up : ∀ xs, Up (sortX xs)
  | [] => .nil
  | a :: r => insX_up a (sortX_up r)
theorem up_uniq {xs ys : List Tx} (hp : xs.Perm ys) (h1 : Up xs) (h2 : Up ys) : xs = ys :=
  List.Perm.eq_of_pairwise (fun a b _ _ k1 k2 => leT_anti k1 k2) h1 h2 hp
/-- each text once, where it stands last -/
def nubX : List Tx → List Tx
  | [] => []
  | a :: r => if a ∈ nubX r then nubX r else a :: nubX r
theorem nubX_mem {x : Tx} : ∀ {xs : List Tx}, x ∈ nubX xs ↔ x ∈ xs
  | [] => Iff.rfl
  | a :: r => by
    unfold nubX
    have ih := nubX_mem (x := x) (xs := r)
    split
    · rename_i k
      rw [ih, List.mem_cons]
      constructor
      · exact .inr
      · rintro (rfl | h)
        · exact nubX_mem.1 k
        · exact h
    · rw [List.mem_cons, List.mem_cons, ih]
theorem nubX_nd : ∀ xs : List Tx, (nubX xs).Nodup
  | [] => .nil
  | a :: r => by
    unfold nubX
    split
    · exact nubX_nd r
    · rename_i k
      exact List.nodup_cons.2 ⟨k, nubX_nd r⟩
def setX (xs : List Tx) : List Tx := sortX (nubX xs)
theorem setX_mem {x : Tx} {xs : List Tx} : x ∈ setX xs ↔ x ∈ xs := by
  unfold setX
  rw [(sortX_perm _).mem_iff, nubX_mem]
theorem setX_nd (xs : List Tx) : (setX xs).Nodup := (sortX_perm _).nodup_iff.2 (nubX_nd xs)
theorem setX_up (xs : List Tx) : Up (setX xs) := sortX_up _
theorem perm_of_mem {xs ys : List Tx} (h1 : xs.Nodup) (h2 : ys.Nodup) (h : ∀ x, x ∈ xs ↔ x ∈ ys) : xs.Perm ys := (List.perm_ext_iff_of_nodup h1 h2).2 h
theorem setX_uniq {xs ys : List Tx} (h1 : ys.Nodup) (h2 : Up ys) (h : ∀ x, x ∈ ys ↔ x ∈ xs) : ys = setX xs :=
  up_uniq (perm_of_mem h1 (setX_nd xs) fun x => (h x).trans setX_mem.symm) h2 (setX_up xs)
theorem setX_congr {xs ys : List Tx} (h : ∀ x, x ∈ xs ↔ x ∈ ys) : setX xs = setX ys := setX_uniq (setX_nd xs) (setX_up xs) fun x => setX_mem.trans (h x)
theorem sortX_of_nd {xs : List Tx} (h : xs.Nodup) : sortX xs = setX xs := setX_uniq ((sortX_perm xs).nodup_iff.2 h) (sortX_up xs) fun x => (sortX_perm xs).mem_iff
theorem rising_pw : ∀ (p : Str) (l : List Str), risingS p l = true → (p :: l).Pairwise fun a b => leT a.cps.toList b.cps.toList = true
  | p, [], _ => List.pairwise_singleton _ _
  | p, x :: r, h => by
    unfold risingS at h
    obtain ⟨h1, h2⟩ := Bool.and_eq_true_iff.1 h
    have ih := rising_pw x r h2
    refine List.pairwise_cons.2 ⟨fun c m => ?_, ih⟩
    rcases List.mem_cons.1 m with rfl | m
    · exact h1
    · exact leT_tr (b := x.cps.toList) h1 ((List.pairwise_cons.1 ih).1 c m)
theorem sortedS_pw : ∀ {l : List Str}, sortedS l = true → l.Pairwise fun a b => leT a.cps.toList b.cps.toList = true
  | [], _ => .nil
  | x :: r, h => rising_pw x r h
theorem cps_inj {a b : Str} (h : a.cps.toList = b.cps.toList) : a = b := by
  rcases a with ⟨a⟩
  rcases b with ⟨b⟩
  have : a = b := Array.ext' h
  rw [this]
theorem dqAll_strs {K : PySem.W.Frag} {F : Hp} : ∀ {vs : List V} {ns : List Tx}, DqAll K F vs (ns.map enc) → vs = (ns.map sx).map V.str
  | _, [], h => by cases h; rfl
  | _, n :: ns, h => by
    cases h with
    | cons h1 h2 =>
      cases h1
      rw [dqAll_strs h2]
      rfl
theorem dqAll_of_strs {K : PySem.W.Frag} {F : Hp} : ∀ ns : List Tx, DqAll K F ((ns.map sx).map V.str) (ns.map enc)
  | [] => .nil
  | n :: ns => .cons (.str _) (dqAll_of_strs ns)
theorem strs_back (ys : List Str) : ys = (ys.map fun s => s.cps.toList).map sx := by
  rw [List.map_map]
  conv => lhs; rw [← List.map_id ys]
  exact List.map_congr_left fun s _ => cps_inj rfl
section
variable {N : NN} {Γ : Env G} {ta : TE}
theorem evn_sortedSet {m : Prog (L Tx)} (h : EV N Γ ta m) : EVN N Γ (TyL.tSortSet G.K ta) (m >>= fun (xs : List Tx) => chk (decide (xs.length ≤ 3000)) (.ok (setX xs : L Tx))) := fun σ F H hs Q q =>
  h σ F H hs _ (wp_mono (wp_bind.1 q) fun (xs : List Tx) q1 x F1 H1 hs1 e1 r1 => by
    obtain ⟨hz, q1⟩ := wp_chk q1
    have hz := of_decide_eq_true hz
    have hd : Dq G.K F1 x (.list (xs.map enc)) := r1
    cases hd with
    | lst hq0 ha =>
      have hq := Rd.of hq0
      rw [dqAll_strs ha] at hq
      refine ⟨_, xs.map sx, rfl, sql_same hs1.w.fh (.inl hq), by rw [List.length_map]; unfold scanBound; omega, fun ys p h1 h2 h3 hn => ?_⟩
      have e3 : (ys.map fun s => s.cps.toList) = setX xs := by
        refine setX_uniq ?_ ?_ fun t => ?_
        · exact List.pairwise_map.2 (List.Pairwise.imp (fun {a b} hne e => hne (cps_inj e)) h2)
        · exact List.pairwise_map.2 (sortedS_pw h1)
        · rw [List.mem_map]
          constructor
          · rintro ⟨s, m, rfl⟩
            obtain ⟨u, mu, eu⟩ := List.mem_map.1 ((h3 s).1 m)
            rw [← eu]
            exact mu
          · intro m
            exact ⟨sx t, (h3 _).2 (List.mem_map.2 ⟨t, m, rfl⟩), rfl⟩
      obtain ⟨hs4, nw⟩ := hs_newlist (vs := ys.map V.str) hs1 hn
      refine q1 p _ _ _ hs4 e1 nw upd_same ?_
      rw [strs_back ys, e3]
      exact dqAll_of_strs _)
theorem evn_sortedX {m : Prog (L Tx)} (h : EV N Γ ta m) : EVN N Γ (tCB (TyL.rSortedSA G.K) (tCons ta tNil)) (m >>= fun (xs : List Tx) => .ok (sortX xs : L Tx)) := fun σ F H hs Q q =>
  h σ F H hs _ (wp_mono (wp_bind.1 q) fun (xs : List Tx) q1 x F1 H1 hs1 e1 r1 => by
    have hd : Dq G.K F1 x (.list (xs.map enc)) := r1
    cases hd with
    | lst hq0 ha =>
      have hq := Rd.of hq0
      rw [dqAll_strs ha] at hq
      refine ⟨_, xs.map sx, rfl, sql_same hs1.w.fh (.inl hq), fun ys p hp h1 hn => ?_⟩
      have e3 : (ys.map fun s => s.cps.toList) = sortX xs := by
        refine up_uniq ?_ (List.pairwise_map.2 (sortedS_pw h1)) (sortX_up xs)
        have h4 := hp.map fun s : Str => s.cps.toList
        rw [List.map_map] at h4
        have e5 : xs.map ((fun s : Str => s.cps.toList) ∘ sx) = xs := List.map_id _
        rw [e5] at h4
        exact h4.trans (sortX_perm xs).symm
      obtain ⟨hs4, nw⟩ := hs_newlist (vs := ys.map V.str) hs1 hn
      refine q1 p _ _ _ hs4 e1 nw upd_same ?_
      rw [strs_back ys, e3]
      exact dqAll_of_strs _)
end
end Ty

namespace Ty
open PySem PySem.Spec PyProof.Rows L2
open Enc (enc)
variable {G : Glob}
/-! a def with one keyword-only parameter that has a default -/
structure Dk (K : PySem.W.Frag) (mg : Str → Option Value) (x qual : Str) (st : Stmt) (ps : List Str) (n : Nat) (kw : Str) (d : Int) where
  f : Addr
  fd : FuncData
  Fu : Fun K x qual st f fd
  t : Tok
  b : Binds K fd ps [.int d t]
  kb : KBn K fd ps n [kw] (fun us ws => us ++ ws) (fun vs zs => vs ++ zs)
  g : mg x = some (.ref f)
section
variable {K : PySem.W.Frag} {x qual : Str} {st : Stmt} {D : Addr} {doc pm cdv ct u : Value} {an : Option Addr} {ps : List Str} {kw : Str}
theorem dk_b (n : Nat) (hn : n + 1 = ps.length) (hq : PySem.W.nsIn K D kw = some (some u))
    (h : ∀ us : List Value, us.length = n → KwChain D [(kw, u)] (bindArgs (PySem.W.fnOf x qual (defArgs st) (defBody st) (defScope st) .none (.ref D) doc pm an cdv ct) ⟨us, []⟩) (ps.zip (us ++ [u]))) :
    Binds K (PySem.W.fnOf x qual (defArgs st) (defBody st) (defScope st) .none (.ref D) doc pm an cdv ct) ps [u] := fun s us X hlen =>
  BindsTo.of_looks fun M => KwChain.looks X (l := [(kw, u)]) (fun q m => by rw [List.mem_singleton.1 m]; exact hq) (h us (by rw [List.length_append, List.length_singleton] at hlen; omega))
theorem dk_kb (n : Nat) (h : ∀ (s : Shared) (us ws : List Value), us.length = n → ws.length = 1 → BindsTo s (PySem.W.fnOf x qual (defArgs st) (defBody st) (defScope st) .none (.ref D) doc pm an cdv ct) ⟨us, [kw].zip ws⟩ (ps.zip (us ++ ws))) :
    KBn K (PySem.W.fnOf x qual (defArgs st) (defBody st) (defScope st) .none (.ref D) doc pm an cdv ct) ps n [kw] (fun us ws => us ++ ws) (fun vs zs => vs ++ zs) :=
  ⟨fun s us ws _ h1 h2 => h s us ws h1 h2, fun r1 r2 => r1.append r2⟩
end
section
variable {α β ρ : Type} [iα : Rp G α] [iβ : Rp G β] [iρ : Rp G ρ] {N : NN} {Γ : Env G} {ta tb : TE} {m1 : Prog α} {m2 : Prog β}
theorem ev_callD1 {f : α → Int → Prog ρ} {d : Int} (h1 : EV N Γ ta m1) : EV N Γ (tCall (SpF2 G α Int f) [.int d] N.E (tCons ta tNil)) (m1 >>= fun a => f a d) := by
  have e : tCall (SpF2 G α Int f) [.int d] N.E (tCons ta tNil) = tCall (SpF2 G α Int f) [] N.E (tCons ta (tCons (tC (.int d)) tNil)) := by
    funext σ H Q
    rfl
  rw [e]
  have h := ev_call2 (f := f) (m2 := .ok d) h1 ev_int
  simp only [ok_bind] at h
  exact h
end
end Ty
namespace Ty
open PySem PySem.Spec PyProof.Rows L2
open Enc (enc)
variable {G : Glob}
section
variable {α ρ : Type} [iα : Rp G α] [iρ : Rp G ρ] {N : NN} {Γ : Env G} {ta : TE} {m1 : Prog α}
theorem ev_callD1D {f : α → PyData → Prog ρ} {d : Int} (h1 : EV N Γ ta m1) : EV N Γ (tCall (SpF2 G α PyData f) [.int d] N.E (tCons ta tNil)) (m1 >>= fun a => f a (enc d)) := by
  have e : tCall (SpF2 G α PyData f) [.int d] N.E (tCons ta tNil) = tCall (SpF2 G α PyData f) [] N.E (tCons ta (tCons (tC (.int d)) tNil)) := by
    funext σ H Q
    rfl
  rw [e]
  have h := ev_call2 (f := f) (m2 := .ok (enc d)) h1 (ev_dat (m := .ok d) ev_int)
  simp only [ok_bind] at h
  exact h
end
end Ty

namespace TyL
open PySem PySem.Spec PyProof.Rows L2
section
variable {X : Cx} {CX : CXT} {k : Nat} {f : Addr} {fd : FuncData} {ps : List Str} {nm kw : Str} {sp : Sp} {E : XK} {E' : L2.St → XK} {x : Str} {p kp pos : Pos} {e ek : Expr} {ta tb : TE} {g : List Value → List Value → List Value}
theorem tN1 : tCallN 1 1 sp (fun vs zs => vs ++ zs) E (tCons ta tNil) (tCons tb tNil) = tCall sp [] E (tCons ta (tCons tb tNil)) := by
  funext σ H Q
  unfold tCallN tCall tCons tNil
  simp
/-- f(e, kw = ek) -/
theorem pe_callN1 (F : FnOk X.prog X.w X.K X.mg X.base CX k f fd ps sp) (hr : Room k X.A) (hg : Gl X x) (hm : X.mg x = some (.ref f)) (hk : PySem.W.keepIn X.K (.ref f) = true) (hb : KBn X.K fd ps 1 [kw] g (fun vs zs => vs ++ zs)) (hx : Passes CX X E)
    (ha : PE X e ta) (hek : PE X ek tb) (hall : (backToKw pos (keywordEach [⟨some kw, ek, kp⟩] X.env)).all (·.1.isSome) = true := by rfl) (hks : (backToKw pos (keywordEach [⟨some kw, ek, kp⟩] X.env)).filterMap (·.1) = [kw] := by rfl)
    (hdb : (x == ("__debug__" : Str)) = false := by decide) (he : starEach [e] X.env = (false, eval e X.env) :: starEach [] X.env := by rfl)
    (hpl : ((backTo pos (starEach [e] X.env)).any (·.1) || (backToKw pos (keywordEach [⟨some kw, ek, kp⟩] X.env)).any (·.1.isNone)) = false := by rfl) :
    PE X (.Call (.Name x p) [e] [⟨some kw, ek, kp⟩] pos) (tCall sp [] E (tCons ta (tCons tb tNil))) := by
  rw [← tN1]
  exact pe_callN (n := 1) (ks := [kw]) F hr hg hm hk hb hx (pa_cons ha pa_nil he) (pk_cons hek pk_nil) hall hks hdb he hpl
/-- the same, what is raised is wished for at the caller's slots -/
theorem pe_callN1SD (F : FnOk X.prog X.w X.K X.mg X.base CX k f fd ps sp) (hr : Room k X.A) (hg : Gl X x) (hm : X.mg x = some (.ref f)) (hk : PySem.W.keepIn X.K (.ref f) = true) (hb : KBn X.K fd ps 1 [kw] g (fun vs zs => vs ++ zs)) (hx : ∀ σ, PassesAt CX X σ (E' σ))
    (ha : PE X e ta) (hek : PE X ek tb) (hall : (backToKw pos (keywordEach [⟨some kw, ek, kp⟩] X.env)).all (·.1.isSome) = true := by rfl) (hks : (backToKw pos (keywordEach [⟨some kw, ek, kp⟩] X.env)).filterMap (·.1) = [kw] := by rfl)
    (hdb : (x == ("__debug__" : Str)) = false := by decide) (he : starEach [e] X.env = (false, eval e X.env) :: starEach [] X.env := by rfl)
    (hpl : ((backTo pos (starEach [e] X.env)).any (·.1) || (backToKw pos (keywordEach [⟨some kw, ek, kp⟩] X.env)).any (·.1.isNone)) = false := by rfl) :
    PE X (.Call (.Name x p) [e] [⟨some kw, ek, kp⟩] pos) (tCallSD sp [] E' (tCons ta (tCons tb tNil))) := by
  refine ⟨fun pins s σ H Q I h => ?_⟩
  refine wpAny_Call_Name_kw (ld_glob I hg hm ?_ hdb)
  have ha' : PA X [e] (tCons ta tNil) := pa_cons ha pa_nil he
  have hkw : PK X [⟨some kw, ek, kp⟩] (tCons tb tNil) := pk_cons hek pk_nil
  have h' : (tCons ta tNil) σ H (fun vs H1 => (tCons tb tNil) σ H1 fun zs H2 => vs.length = 1 ∧ zs.length = 1 ∧ sp (vs ++ zs) H2 Q (E' σ)) := by
    unfold tCallSD tCons tNil at h
    unfold tCons tNil
    simpa using h
  refine PySem.W.callWith_KW (h₀ := X.base) I.ok.mod.kin hk hall (thn (ha'.run pos pins s σ H _ I h') fun us s1 ⟨vs, H1, I1, r, q⟩ => ?_) hpl he
  refine thn (hkw.run pos pins s1 σ H1 _ I1 q) fun ws s2 ⟨zs, H2, I2, rz, l1, l2, q2⟩ => ⟨I2.kIn, ?_⟩
  rw [hks]
  have r2 := hb.rel r rz
  refine wpAny_call (codeAny_mono (F.run X.A X.stack s2 H2 ⟨us, [kw].zip ws⟩ (g us ws) (vs ++ zs) Q (E' σ) hr I2.env0 (hb.to s2 us ws I2.kIn (r.length.symm.trans l1) (rz.length.symm.trans l2)) r2 q2) fun r s' hq => ?_)
  cases r with
  | error e => exact hx σ pins H2 s2 e s' I2 hq
  | ok fl =>
    cases fl with
    | ret u => exact I2.after hq
    | next => exact False.elim hq
    | brk => exact False.elim hq
    | cont => exact False.elim hq
end
end TyL

namespace Ty
open PySem PySem.Spec PyProof.Rows L2
open Enc (enc)
variable {G : Glob}
/-! a, b = a list of two; texts compared -/
def asL2 {α : Type} : L α → Prog (L2v α α) := fun (xs : List α) => match xs with
  | [a, b] => .ok ⟨a, b⟩
  | _ => .stuck
section
variable {N : NN} {Γ : Env G} {te : TE}
theorem ev_asL2 {α : Type} [Enc α] {m : Prog (L α)} (h : EV N Γ te m) : EV N Γ te (m >>= asL2) := fun σ F H hs Q q =>
  h σ F H hs _ (wp_mono (wp_bind.1 q) fun (xs : List α) q1 x F1 H1 hs1 e1 r1 => by
    match xs with
    | [a, b] => exact q1 x F1 H1 hs1 e1 r1
    | [] => exact q1.elim
    | [a] => exact q1.elim
    | a :: b :: c :: r => exact q1.elim)
theorem gv_unl2 {α β : Type} [Enc α] [Enc β] {i j : Nat} {a : L2v α β} : GV N Γ (gUnl G.K 2 (gCons (gName i) (gCons (gName j) gNil))) a ((Γ.set i (.per a.a)).set j (.per a.b)) := fun σ F H x hs r Q q => by
  have h : Dq G.K F x (.list [enc a.a, enc a.b]) := r
  cases h with
  | lst hq ha =>
    cases ha with
    | cons d1 h2 =>
      cases h2 with
      | cons d2 h3 =>
        cases h3
        exact ⟨_, _, rfl, sql_same hs.w.fh (.inl (Rd.of hq)), rfl, _, _, rfl, _, _, rfl, rfl, q _ F H ((hs.setPer (a := a.a) i d1).setPer (a := a.b) j d2) (Same.refl F)⟩
end
def ltS (a b : Tx) : Bool := decide (a < b)
theorem opv_ltS : OPV (G := G) (α := Tx) (β := Tx) (γ := Bool) (fun x y H Q => ∃ i j, x = .str i ∧ y = .str j ∧ Q (.bl (decide (i.cps.toList < j.cps.toList))) H) (fun a b => .ok (ltS a b)) := fun N Γ σ F H x y a b hs ra rb Q q => by
  have e1 : x = .str (sx a) := Scl.dp (α := Tx) ra
  have e2 : y = .str (sx b) := Scl.dp (α := Tx) rb
  exact ⟨sx a, sx b, e1, e2, q _ F H hs (Same.refl F) (.bl _)⟩
theorem ltS_eq : ∀ a b : Tx, ltS a b = ltCps a b
  | [], [] => by decide
  | [], _ :: _ => by unfold ltS ltCps; simp
  | _ :: _, [] => by unfold ltS ltCps; simp
  | x :: a, y :: b => by
    have ih := ltS_eq a b
    unfold ltS at ih ⊢
    unfold ltCps
    rw [← ih]
    by_cases h : x < y
    · simp [List.cons_lt_cons_iff, h]
    · by_cases e : x = y
      · simp [List.cons_lt_cons_iff, e]
      · simp [List.cons_lt_cons_iff, h, e]
end Ty

namespace L2
open PySem PySem.Spec PyProof.Rows
/-! o.f = .. as one of several targets -/
def gFld (K : PySem.W.Frag) (ta : TE) (f : Str) : TG := fun v σ H Q => ta σ H fun x H2 => ∃ a C dx fs, x = .ref a ∧ H2 a = some (.ins C dx fs) ∧ Cls K C ∧ NoAttr K C f ∧ fs.length < 1000 ∧ Q σ (upd H2 a (.ins C dx (putF f v fs)))
theorem pg_fld {X : Cx} {o : Expr} {f : Str} {pos : Pos} {ta : TE} (ho : PE X o ta) : PG X (.Attribute o f pos) (gFld X.K ta f) := by
  refine ⟨fun pins s σ H v u Q I r h => ?_⟩
  rw [assign_Attribute]
  refine wpAny_bind (wpAny_holding (thn (ho.run pins s σ H _ I h) fun ov s1 ⟨x, H1, I1, r1, a, C, dx, fs, ex, ea, c, n, l, q⟩ => ?_))
  subst ex
  obtain rfl : ov = Value.ref a := r1
  refine wpAny_bind (wpAny_standAt (wpAny_bind (wpAny_holding (setattr_ok I1 ea c n l r fun s2 I2 => ?_))))
  exact wpAny_release ⟨σ, _, I2, q⟩
/-! len of an own instance -/
def rLenOwn (C : Addr) (sp : Sp) (E : XK) : List V → Hp → VK → Prop := fun xs H Q => ∃ a dx fs, xs = [V.ref a] ∧ H a = some (.ins C dx fs) ∧ sp [.ref a] H (fun z H' => ∃ i : Int, z = .int i ∧ 0 ≤ i ∧ i < 2 ^ 63 ∧ Q z H') E
theorem call_lenOwn {X : Cx} {CX : CXT} {n : Nat} {C g : Addr} {fd : FuncData} {ps : List Str} {sp : Sp} {E : XK} (c : Cls X.K C) (hs : PySem.W.findIn X.K (.ref C) "__len__" = some (some (.ref g))) (hf : PySem.W.isFn X.K (.ref g) = true) (F : FnOk X.prog X.w X.K X.mg X.base CX n g fd ps sp)
    (hb : Binds X.K fd ps []) (hr : Room (n + 1) X.A) (hx : Passes CX X E) : CallR X (.builtin "len") (rLenOwn C sp E) := by
  intro pins s σ H xs us Q I r h
  obtain ⟨a, dx, fs, rfl, ea, q⟩ := h
  obtain ⟨u, rfl, ru⟩ := r.one
  cases (show u = Value.ref a from ru)
  obtain ⟨mA, O, _, _, _, _⟩ := ins_get I.hok ea
  obtain ⟨od, J, _⟩ := O.look
  refine Calls.call_function_entry kind_len plain_len entry_len (args_len1 _) ?_
  unfold Builtin.«len»
  refine wpAny_bind (m := oneArg "len" _) (wpAny_pure ?_)
  have hl : ([Value.ref a] : List Value).length = ps.length := by
    rw [← F.len _ _ _ _ q]
    rfl
  refine wpAny_bind (m := callSpecial? (.ref a) (Str.ofString "__len__")) (PySem.W.special_fn I.kIn J hs (beq_iff_eq.mp hf) (wpAny_call (codeAny_mono (F.run X.A.in1 X.stack s H ⟨[.ref a], []⟩ [.ref a] [.ref a] _ E hr.in1 I.env0.in1 (hb s [.ref a] I.kIn hl) (.cons rfl .nil) q) fun r s' hq => ?_)))
  cases r with
  | error e => exact hx pins σ H s e s' I hq
  | ok fl =>
    cases fl with
    | ret u =>
      obtain ⟨v, H', I3, rv, i, ei, h0, h1, q3⟩ := I.after hq
      subst ei
      obtain ⟨t, e⟩ := (show ∃ t, u = Value.int i t from rv)
      subst e
      refine wpAny_bind (wpAny_holding (wpAny_pure ?_))
      refine wpAny_bind (wpAny_letGo ?_)
      show wpAny _ _ (if i < 0 then _ else _) _ _ _
      rw [if_neg (by omega)]
      show wpAny _ _ (if i ≥ 2 ^ 63 then _ else _) _ _ _
      rw [if_neg (by omega)]
      exact wpAny_bind (wpAny_mkInt (wpAny_pure ⟨_, rfl, .int i, H', I3.tok _, ⟨_, rfl⟩, q3⟩))
    | next => exact False.elim hq
    | brk => exact False.elim hq
    | cont => exact False.elim hq
end L2

namespace Ty
open PySem PySem.Spec PyProof.Rows L2
open Enc (enc)
variable {G : Glob}
/-! an instance taken as a value that stays -/
def InR (C : Addr) (fs : List (Fld G)) (v : V) (F : Hp) : Prop := ∃ a dx us, v = .ref a ∧ F a = some (.ins C dx us) ∧ FlR F fs us
theorem inR_mono {C : Addr} {fs : List (Fld G)} {v : V} {F F' : Hp} (e : Same F F') (h : InR C fs v F) : InR C fs v F' := by
  obtain ⟨a, dx, us, h1, h2, h3⟩ := h
  exact ⟨a, dx, us, h1, e _ _ h2, flR_mono e h3⟩
inductive FrzE : Ent G → Ent G → Prop
  | d (e : Ent G) : FrzE e .dead
  | p {α : Type} [i : Rp G α] (a : α) : FrzE (@Ent.per G α i a) (@Ent.per G α i a)
  | i {C : Addr} {fs : List (Fld G)} {w : Option Addr} {R : Type} [iR : Rp G R] {r : R} (h : ∀ v F, InR C fs v F → iR.rp r v F) : FrzE (.ins C fs w) (@Ent.per G R iR r)
  | l {α : Type} [Enc α] (xs : List α) : FrzE (@Ent.lst G α _ xs) (@Ent.per G (L α) _ xs)
inductive Frz : Env G → Env G → Prop
  | n : Frz [] []
  | c {e e' : Ent G} {Γ Γ' : Env G} : FrzE e e' → Frz Γ Γ' → Frz (e :: Γ) (e' :: Γ')
theorem Frz.slots {N N' : NN} {F H : Hp} (e : Same F H) {Γ Γ' : Env G} (h : Frz Γ Γ') : ∀ {σ : L2.St}, Slots N F H Γ σ → Slots N' H H Γ' σ := by
  induction h with
  | n => intro σ s; cases σ with
    | nil => trivial
    | cons _ _ => exact s.elim
  | c h1 _ ih =>
    intro σ s
    cases σ with
    | nil => exact s.elim
    | cons o σ =>
      refine ⟨?_, ih s.2⟩
      have s1 := s.1
      cases h1 with
      | d e => trivial
      | p a =>
        obtain ⟨v, e1, r⟩ := s1
        exact ⟨v, e1, Rp.mono e r⟩
      | i hr =>
        obtain ⟨p, dx, us, e1, _, hp, d, _⟩ := s1
        exact ⟨.ref p, e1, hr _ _ ⟨p, dx, us, rfl, hp, flR_mono e d⟩⟩
      | l xs =>
        obtain ⟨p, vs, e1, _, hp, d⟩ := s1
        exact ⟨.ref p, e1, Dq.lst hp (dpAll_same e _ _ d)⟩
theorem Frz.plain {Γ Γ' : Env G} (h : Frz Γ Γ') : ∀ e ∈ Γ', e.own = false := by
  induction h with
  | n => intro e m; cases m
  | c h1 _ ih =>
    intro e m
    rcases List.mem_cons.1 m with rfl | m
    · cases h1 <;> rfl
    · exact ih e m
theorem HS.frz {N : NN} {Γ Γ' : Env G} {σ : L2.St} {F H : Hp} (hs : HS N Γ σ F H) (h : Frz Γ Γ') (E : XK) : HS (.of H H E) Γ' σ H H :=
  ⟨⟨Same.refl H, Same.refl H, fun a o z => .inl z, fun a o _ z => z, fun a z => z, fun p c z => (nomatch z), fun p c z => (nomatch z), fun a o z => (nomatch z)⟩, h.slots hs.w.fh hs.sl, fun i j e e' p h1 h2 o1 o2 _ _ => by
    have := h.plain e (List.mem_of_getElem? h1)
    rw [this] at o1; cases o1⟩
theorem HS.unfrz {N : NN} {Γ : Env G} {σ : L2.St} {F H F' H' : Hp} {E : XK} (hs : HS N Γ σ F H) (w : W (.of H H E) F' H') : HS N Γ σ F H' := by
  have kp : ∀ a o, H a = some o → H' a = some o := fun a o h => w.kp a o (fun z => z) h
  have w2 : W (.of F H E) F H' := ⟨fun a o z => kp a o (hs.w.fh a o z), Same.refl F, fun a o z => .inl z, fun a o _ z => kp a o z, fun a z => w.dm a z, fun p c z => (nomatch z), fun p c z => (nomatch z), fun a o z => (nomatch z)⟩
  exact (hs.call noB w2).1
section
variable {α β γ ω ρ τ : Type} [iα : Rp G α] [iβ : Rp G β] [iρ : Rp G ρ] {N : NN} {Γ Γ' : Env G} {te ta tb : TE} {t : TA} {tt tu : TT} {tz ts : TS}
/-- a plain expression; all that the frame owns stays meanwhile -/
theorem ev_frz {δ : Type} [Enc δ] [Flat δ] {m : Prog δ} (hz : Frz Γ Γ') (h : ∀ H, EV (.of H H N.E) Γ' te m) : EV N Γ te (noerr m) := fun σ F H hs Q q => by
  refine h H σ H H (hs.frz hz _) Q (wp_imp (wp_noerr q) (fun a k v F' H' hs2 e2 r => ?_) fun _ z => z.elim)
  exact k v F H' (hs.unfrz hs2.w) (Same.refl F) (Flat.fl (a := a) r)
theorem tv_frz {m : Prog Bool} (hz : Frz Γ Γ') (h : ∀ H, TV (.of H H N.E) Γ' tt m) : TV N Γ tt (noerr m) := fun σ F H hs Q q => by
  refine h H σ H H (hs.frz hz _) Q (wp_imp (wp_noerr q) (fun a k F' H' hs2 e2 => ?_) fun _ z => z.elim)
  exact k F H' (hs.unfrz hs2.w) (Same.refl F)
variable {C : Addr} {n : Str}
/-! what is read of such a value -/
theorem ev_fldZ {R : Type} [iR : Rp G R] {fl : R → List (Fld G)} {g : R → α} {n' : Str} {m : Prog R} (hR : ∀ r v F, iR.rp r v F → InR C (fl r) v F) (hf : ∀ r, (fl r).find? (fun f => n == f.n) = some (Fld.mk (i := iα) n' (g r))) (c : Cls G.K C) (na : NoAttr G.K C n) (h : EV N Γ ta m) : EV N Γ (tFld G.K ta n) (m >>= fun r => .ok (g r)) := fun σ F H hs Q q =>
  h σ F H hs _ (wp_mono (wp_bind.1 q) fun r q1 x F1 H1 hs1 e1 r1 => by
    obtain ⟨p, dx, us, e0, hp, d⟩ := hR r x F1 r1
    obtain ⟨v, hv, rv⟩ := flR_get d (hf r)
    exact ⟨p, C, dx, us, v, e0, hs1.w.fh _ _ hp, c, na, hv, q1 v F1 H1 hs1 e1 rv⟩)
theorem ev_propZ {R : Type} [iR : Rp G R] {fl : R → List (Fld G)} {g : R → α} {f n' : Str} {m : Prog R} (hR : ∀ r v F, iR.rp r v F → InR C (fl r) v F) (hf : ∀ r, (fl r).find? (fun x => f == x.n) = some (Fld.mk (i := iα) n' (g r))) {E : XK} (h : EV N Γ ta m) : EV N Γ (tProp C (getSp C f) [] E ta) (m >>= fun r => .ok (g r)) := fun σ F H hs Q q =>
  h σ F H hs _ (wp_mono (wp_bind.1 q) fun r q1 x F1 H1 hs1 e1 r1 => by
    obtain ⟨p, dx, us, e0, hp, d⟩ := hR r x F1 r1
    obtain ⟨v, hv, rv⟩ := flR_get d (hf r)
    exact ⟨p, dx, us, e0, hs1.w.fh _ _ hp, p, dx, us, v, rfl, hs1.w.fh _ _ hp, hv, q1 v F1 H1 hs1 e1 rv⟩)
theorem ev_methZ {R : Type} [iR : Rp G R] {fl : R → List (Fld G)} {ra : τ → List V → Hp → Prop} {f : R × τ → Prog ρ} {mn : Str} {m1 : Prog R} {m2 : Prog τ} (hR : ∀ r v F, iR.rp r v F → InR C (fl r) v F) (hm : ∀ r, (fl r).find? (fun f => mn == f.n) = none) (h1 : EV N Γ ta m1) (h2 : EVA N Γ t m2 ra) :
    EV N Γ (tMeth C mn (SpF G (raC (G := G) R ra) f) [] N.E ta t) (m1 >>= fun r => m2 >>= fun x => f (r, x)) := fun σ F H hs Q q =>
  h1 σ F H hs _ (wp_mono (wp_bind.1 q) fun r q1 x F1 H1 hs1 e1 r1 => by
    obtain ⟨p, dx, us, e0, hp, d⟩ := hR r x F1 r1
    refine ⟨p, dx, us, e0, hs1.w.fh _ _ hp, flR_none d (hm r), h2 σ F1 H1 hs1 _ (wp_mono (wp_bind.1 q1) fun y q2 vs F2 H2 hs2 e2 r2 => ?_)⟩
    refine ⟨F2, (r, y), hs2.w.fh, ⟨x, vs, by rw [List.append_nil], Rp.mono e2 r1, r2⟩, wp_imp q2 (fun z k v F' H' w rr => ?_) fun e he => ep_of (F := F2) (H := H2) hs2 noB e he⟩
    obtain ⟨hs3, e3⟩ := hs2.call noB w
    exact k v F' H' hs3 (Same.trans e1 (Same.trans e2 e3)) rr)
theorem ev_lenZ {R : Type} [iR : Rp G R] {fl : R → List (Fld G)} {f : R → Prog Int} {m : Prog R} (hR : ∀ r v F, iR.rp r v F → InR C (fl r) v F) (h : EV N Γ ta m) : EV N Γ (tCB (rLenOwn C (SpF1 G R f) N.E) (tCons ta tNil)) (m >>= fun r => f r >>= fun i => if 0 ≤ i ∧ i < 2 ^ 63 then .ok i else .stuck) := fun σ F H hs Q q =>
  h σ F H hs _ (wp_mono (wp_bind.1 q) fun r q1 x F1 H1 hs1 e1 r1 => by
    obtain ⟨p, dx, us, e0, hp, d⟩ := hR r x F1 r1
    subst e0
    refine ⟨p, dx, us, rfl, hs1.w.fh _ _ hp, F1, (r, ()), hs1.w.fh, ⟨_, [], rfl, r1, rfl⟩, wp_imp (wp_bind.1 q1) (fun i k v F' H' w rr => ?_) fun e he => ep_of (F := F1) (H := H1) hs1 noB e he⟩
    obtain ⟨hs3, e3⟩ := hs1.call noB w
    have ev : v = .int i := Scl.dp (α := Int) rr
    subst ev
    by_cases hc : 0 ≤ i ∧ i < 2 ^ 63
    · rw [if_pos hc] at k
      exact ⟨i, rfl, hc.1, hc.2, k _ F' H' hs3 (Same.trans e1 e3) rr⟩
    · rw [if_neg hc] at k
      exact k.elim)
end
end Ty

namespace L2
open PySem PySem.Spec PyProof.Rows
section
variable {X : Cx} {CX : CXT} {k : Nat} {f C : Addr} {fd : FuncData} {ps : List Str} {sp : Sp} {dvs : List V} {ds : List Value} {E : St → XK} {m : Str} {apos pos : Pos} {e o : Expr} {es : List Expr} {t : TA} {ta : TE}
def tMethSD (C : Addr) (m : Str) (sp : Sp) (dvs : List V) (E : St → XK) (ta : TE) (t : TA) : TE := fun σ H Q => tMeth C m sp dvs (E σ) ta t σ H Q
theorem pe_methSD {pl : Sem Bool} (he : PE X o ta) (c : Cls X.K C) (hm : Meth X.K C m f) (F : FnOk X.prog X.w X.K X.mg X.base CX k f fd ps sp) (hr : Room k X.A) (hb : Binds X.K fd ps ds) (hd : Vals dvs ds) (hx : ∀ σ, PassesAt CX X σ (E σ)) (ha : PA X (e :: es) t)
    (hst : starEach (e :: es) X.env = (false, eval e X.env) :: starEach es X.env := by rfl) (hpl : (backTo pos (starEach es X.env)).any (·.1) = false := by rfl)
    (ht : eval (.Call (.Attribute o m apos) (e :: es) [] pos) X.env = (do
      let ov ← eval o X.env
      standAt apos.atName
      let (f, first) ← holding [ov] (getMethod ov m pl)
      callWith pos f first (backTo pos (starEach (e :: es) X.env)) (backToKw pos (keywordEach [] X.env))) := by rfl) :
    PE X (.Call (.Attribute o m apos) (e :: es) [] pos) (tMethSD C m sp dvs E ta t) := by
  refine ⟨fun pins s σ H Q I h => ?_⟩
  refine PySem.W.methodCall_KW (pl := pl) (thn (he.run pins s σ H _ I h) fun u s1 ⟨x, H1, I1, rx, a, dx, fs, ex, ea, l, q⟩ => ?_) ht
  subst ex
  obtain rfl : u = Value.ref a := rx
  refine getmeth_ok I1 ea c hm l ?_
  refine PySem.W.callWith_K (first := [.ref a]) (h₀ := X.base) I.ok.mod.kin hm.kp (thn (ha.run pos pins s1 σ H1 _ I1 q) fun us s2 ⟨vs, H2, I2, r, q2⟩ => ⟨I2.kIn, ?_⟩) hst hpl
  exact run_fnSD (us := .ref a :: us) (vs := .ref a :: vs) F hr hb hd (hx σ) I2 (.cons rfl r) q2
end
end L2
namespace Ty
open PySem PySem.Spec PyProof.Rows L2
open Enc (enc)
variable {G : Glob}
/-- an own property and its getter -/
structure Dp (K : PySem.W.Frag) (C : Addr) (x qual : Str) (st : Stmt) (ps : List Str) where
  f : Addr
  fd : FuncData
  Fu : Fun K x qual st f fd
  b : Binds K fd ps []
  p : Addr
  pr : PropOf K C x p f
theorem sv_stuck {ω : Type} {N : NN} {Γ : Env G} {J : Aim ω} : SV N Γ tNever J .stuck := fun _ _ _ _ _ q => q.elim
/-! a list of four kinds -/
structure L4v (α β γ δ : Type) where
  a : α
  b : β
  c : γ
  d : δ
deriving DecidableEq
instance encL4 {α β γ δ : Type} [Enc α] [Enc β] [Enc γ] [Enc δ] : Enc (L4v α β γ δ) := ⟨fun p => .list [enc p.a, enc p.b, enc p.c, enc p.d]⟩
section
variable {α β γ δ : Type} [Enc α] [Enc β] [Enc γ] [Enc δ] [DecidableEq α] [DecidableEq β] [DecidableEq γ] [DecidableEq δ] [Shp α] [Shp β] [Shp γ] [Shp δ]
instance shpL4 : Shp (L4v α β γ δ) := ⟨Shp.dep α + Shp.dep β + Shp.dep γ + Shp.dep δ + 1, fun a => Shp.ok a.a ∧ Shp.ok a.b ∧ Shp.ok a.c ∧ Shp.ok a.d, fun a h => by
    have h1 := Shp.lay a.a h.1
    have h2 := Shp.lay a.b h.2.1
    have h3 := Shp.lay a.c h.2.2.1
    have h4 := Shp.lay a.d h.2.2.2
    show PyData.canLay0 (.list [enc a.a, enc a.b, enc a.c, enc a.d]) = true
    simp [PyData.canLay0, PyData.canLayAll0, h1, h2, h3, h4], fun a => by
    have h1 := Shp.dle a.a
    have h2 := Shp.dle a.b
    have h3 := Shp.dle a.c
    have h4 := Shp.dle a.d
    show PyData.depth (.list [enc a.a, enc a.b, enc a.c, enc a.d]) ≤ _
    simp [PyData.depth, PyData.depthAll]; omega, fun a b => by
    show PyData.eqv (.list [enc a.a, enc a.b, enc a.c, enc a.d]) (.list [enc b.a, enc b.b, enc b.c, enc b.d]) = _
    simp only [PyData.eqv, PyData.eqvAll, Shp.eqv]
    rcases a with ⟨a1, a2, a3, a4⟩
    rcases b with ⟨b1, b2, b3, b4⟩
    by_cases h : a1 = b1 <;> by_cases h' : a2 = b2 <;> by_cases h3 : a3 = b3 <;> by_cases h4 : a4 = b4 <;> simp [h, h', h3, h4]⟩
end
section
variable {α β γ δ : Type} [Enc α] [Enc β] [Enc γ] [Enc δ] {N : NN} {Γ : Env G} {ta tb tc td : TE}
theorem ev_mkl4 {m1 : Prog α} {m2 : Prog β} {m3 : Prog γ} {m4 : Prog δ} (h1 : EV N Γ ta m1) (h2 : EV N Γ tb m2) (h3 : EV N Γ tc m3) (h4 : EV N Γ td m4) : EV N Γ (tLst (tCons ta (tCons tb (tCons tc (tCons td tNil))))) (m1 >>= fun a => m2 >>= fun b => m3 >>= fun c => m4 >>= fun d => .ok (L4v.mk a b c d)) := fun σ F H hs Q q => by
  refine eva4 h1 h2 h3 h4 σ F H hs _ ?_
  rw [wp_bind] at q ⊢
  refine wp_mono q fun a q1 => ?_
  rw [wp_bind] at q1 ⊢
  refine wp_mono q1 fun b q2 => ?_
  rw [wp_bind] at q2 ⊢
  refine wp_mono q2 fun c q3 => ?_
  rw [wp_bind] at q3 ⊢
  refine wp_mono q3 fun d q4 vs F1 H1 hs1 e1 r => ?_
  obtain ⟨v, ws, rfl, r1, w, us, rfl, r2, x, xs, rfl, r3, y, ys, rfl, r4, rfl⟩ := r
  refine ⟨by show 4 ≤ sizeLine; decide, fun p hp => ?_⟩
  obtain ⟨hs2, e3⟩ := hs1.laid (o := .lst [v, w, x, y]) hp
  exact q4 (.ref p) _ _ hs2 (Same.trans e1 e3) (.lst upd_same (dpAll_same e3 _ _ (.cons r1 (.cons r2 (.cons r3 (.cons r4 .nil))))))
end
/-! o.n1, o.n2 = a pair -/
theorem putFl_len (f : Fld G) : ∀ fs : List (Fld G), (putFl f fs).length ≤ fs.length + 1
  | [] => Nat.le_refl _
  | g :: r => by
    unfold putFl
    split
    · simp
    · have := putFl_len f r
      simp only [List.length_cons]
      omega
section
variable {α β γ ω ρ τ : Type} {N : NN} {Γ Γ' : Env G} {te ta tb : TE} {t : TA} {tt tu : TT} {tz ts : TS}
variable {i j : Nat} {C : Addr} {fs : List (Fld G)} {w : Option Addr} {n : Str}
theorem sv_unpI {α β : Type} [Enc α] [Enc β] {n1 n2 : Str} {m : Prog (α × β)} {J : Aim ω} {k : α × β → Prog ω} (hO : ∀ a, N.O a = none) (hi : Γ[i]? = some (.ins C fs w)) (c : Cls G.K C) (na1 : NoAttr G.K C n1) (na2 : NoAttr G.K C n2) (hz : fs.length + 1 < 1000) (h : EV N Γ te m)
    (hk : ∀ a, SV N (Γ.set i (.ins C (putFl (@Fld.mk G β _ n2 a.2) (putFl (@Fld.mk G α _ n1 a.1) fs)) w)) tz J (k a)) :
    SV N Γ (tSeq (tAsg te (gTup G.K 2 (gCons (gFld G.K (tVar i) n1) (gCons (gFld G.K (tVar i) n2) gNil)))) tz) J (m >>= k) := fun σ F H D hs q =>
  h σ F H hs _ (wp_mono (wp_bind.1 q) fun a q1 v F1 H1 hs1 e1 r1 => by
    have r1 : Dq G.K F1 v (.tuple [enc a.1, enc a.2]) := r1
    cases r1 with
    | tup hq ha =>
      cases ha with
      | cons d1 h2 =>
        cases h2 with
        | cons d2 h3 =>
          cases h3
          obtain ⟨p, dx, us, e0, m, hp, d, _⟩ := hs1.insAt hi
          refine ⟨_, _, rfl, sqt_same hs1.w.fh hq, rfl, _, _, rfl, .ref p, e0, p, C, dx, us, rfl, hp, c, na1, by rw [flR_len d]; omega, _, _, rfl, .ref p, e0, p, C, dx, _, rfl, upd_same, c, na2, ?_, rfl, ?_⟩
          · have := flR_len (flR_put (f := @Fld.mk G α _ n1 a.1) d1 d)
            rw [this]
            have hl := putFl_len (@Fld.mk G α _ n1 a.1) fs
            omega
          · rw [upd_upd]
            have h4 := hs1.putI (dx := dx) hO hi e0 (flR_put (f := @Fld.mk G β _ n2 a.2) d2 (flR_put (f := @Fld.mk G α _ n1 a.1) d1 d))
            exact hk a σ F1 _ D h4 (wp_mono q1 fun o x => J.mono e1 x))
/-! a test whose first part changes what the frame owns -/
theorem sv_ifX {ξ : Type} [iα : Rp G α] [iβ : Rp G β] {n : Prog (α × ξ)} {Γx : ξ → Env G} {m2 : α × ξ → Prog β} {f : α → β → Prog Bool} {r2 : R2} {J : Aim ω} {kt : α × ξ → Prog ω} {k : α × ξ → Prog ω} (hr : J.Ret) (h : EVX N Γ ta n Γx) (h2 : ∀ x, EV N (Γx x.2) tb (m2 x)) (ho : OPV (G := G) r2 f)
    (h3 : ∀ x, SV N (Γx x.2) ts J (kt x)) (h4 : ∀ x, SV N (Γx x.2) tz J (k x)) :
    SV N Γ (tSeq (tIfS (tTest (tOp r2 ta tb)) ts tNext) tz) J (n >>= fun x => m2 x >>= fun y => f x.1 y >>= fun c => if c then kt x else k x) := fun σ F H D hs q =>
  h σ F H hs _ (wp_mono (wp_bind.1 q) fun x q1 v F1 H1 hs1 e1 r1 => h2 x σ F1 H1 hs1 _ (wp_mono (wp_bind.1 q1) fun y q2 u F2 H2 hs3 e2 r3 => ho N (Γx x.2) σ F2 H2 v u x.1 y hs3 (Rp.mono e2 r1) r3 _ (wp_mono (wp_bind.1 q2) fun c q3 z F3 H3 hs4 e3 r4 => by
    have r' : Dq G.K F3 z (.bool c) := r4
    cases r'
    refine ⟨c, rfl, ?_⟩
    have e : Same F F3 := Same.trans e1 (Same.trans e2 e3)
    cases c with
    | true => exact h3 x σ F3 H3 { D with nx := tz D } hs4 (wp_mono q3 fun o z => hr _ o D _ rfl (J.mono e z))
    | false => exact h4 x σ F3 H3 D hs4 (wp_mono q3 fun o z => J.mono e z))))
theorem sv_ifXF {ξ : Type} [iα : Rp G α] [iβ : Rp G β] [iρ : Rp G ρ] {n : Prog (α × ξ)} {Γx : ξ → Env G} {m2 : α × ξ → Prog β} {f : α → β → Prog Bool} {r2 : R2} {Jr : Aim ρ} {J : Aim ω} {ret : ρ → ω} {kt : α × ξ → Prog ρ} {k : α × ξ → Prog ω} (hr : J.To ret Jr) (h : EVX N Γ ta n Γx) (h2 : ∀ x, EV N (Γx x.2) tb (m2 x)) (ho : OPV (G := G) r2 f)
    (h3 : ∀ x, SV N (Γx x.2) ts Jr (kt x)) (h4 : ∀ x, SV N (Γx x.2) tz J (k x)) :
    SV N Γ (tSeq (tIfS (tTest (tOp r2 ta tb)) ts tNext) tz) J (n >>= fun x => m2 x >>= fun y => f x.1 y >>= fun c => if c then kt x >>= (fun r => .ok (ret r)) else k x) := fun σ F H D hs q =>
  h σ F H hs _ (wp_mono (wp_bind.1 q) fun x q1 v F1 H1 hs1 e1 r1 => h2 x σ F1 H1 hs1 _ (wp_mono (wp_bind.1 q1) fun y q2 u F2 H2 hs3 e2 r3 => ho N (Γx x.2) σ F2 H2 v u x.1 y hs3 (Rp.mono e2 r1) r3 _ (wp_mono (wp_bind.1 q2) fun c q3 z F3 H3 hs4 e3 r4 => by
    have r' : Dq G.K F3 z (.bool c) := r4
    cases r'
    refine ⟨c, rfl, ?_⟩
    have e : Same F F3 := Same.trans e1 (Same.trans e2 e3)
    cases c with
    | true => exact h3 x σ F3 H3 { D with nx := tz D } hs4 (wp_mono (wp_bind.1 q3) fun o z => hr _ o D _ rfl (J.mono e z))
    | false => exact h4 x σ F3 H3 D hs4 (wp_mono q3 fun o z => J.mono e z))))
/-! a method that makes another instance -/
def SpIM (G : Glob) {τ R : Type} (C : Addr) (fl : R → List (Fld G)) (ra : τ → List V → Hp → Prop) (f : R → τ → Prog R) : Sp := fun vs H Q E => ∃ a us F dx fs r x, vs = .ref a :: us ∧ F a = none ∧ H a = some (.ins C dx fs) ∧ FlR F (fl r) fs ∧ Same F H ∧ ra x us F ∧
  wp (f r x) (fun q => ∀ b F' H' dx' fs' dx2 fs2, W (.slf F H a E) F' H' → F' a = none → H' a = some (.ins C dx2 fs2) → FlR F' (fl r) fs2 → b ≠ a → F' b = none → H b = none → H' b = some (.ins C dx' fs') → FlR F' (fl q) fs' → Q (.ref b) H') (EP G (.slf F H a E))
theorem HS.own' {p : Addr} {e : Ent G} {σ : L2.St} {F H : Hp} (hs : HS N Γ σ F H) (i : Nat) (nh : ¬ Held Γ σ p) (s : Sl N F H e (some (.ref p))) : HS N (Γ.set i e) (σ.set i (some (.ref p))) F H := hs.own i nh s
theorem set_same {Γ : Env G} {e : Ent G} (h : Γ[i]? = some e) : Γ.set i e = Γ := by
  obtain ⟨h1, h2⟩ := List.getElem?_eq_some_iff.1 h
  apply List.ext_getElem?
  intro k
  by_cases hk : k = i
  · subst hk; rw [List.getElem?_set_self h1, h]
  · rw [List.getElem?_set_ne (Ne.symm hk)]
theorem sv_copy {R : Type} {fl : R → List (Fld G)} {ra : τ → List V → Hp → Prop} {f : R → τ → Prog R} {m : Prog τ} {r : R} {mn : Str} {J : Aim ω} {k : R → Prog ω} (hO : ∀ a, N.O a = none) (hi : Γ[i]? = some (.ins C (fl r) w)) (hm : (fl r).find? (fun f => mn == f.n) = none) (h : EVA N Γ t m ra)
    (hk : ∀ q, SV N (Γ.set j (.ins C (fl q) none)) tz J (k q)) :
    SV N Γ (tSeq (tAsg (tMeth C mn (SpIM G C fl ra f) [] N.E (tVar i) t) (gName j)) tz) J (m >>= fun x => f r x >>= k) := fun σ F H D hs q => by
  obtain ⟨p, dx, us, e0, m0, hp, d, hw, _⟩ := hs.insAt hi
  refine ⟨.ref p, e0, p, dx, us, rfl, hp, flR_none d hm, h σ F H hs _ (wp_mono (wp_bind.1 q) fun x q1 vs F1 H1 hs1 e1 r1 => ?_)⟩
  obtain ⟨p', dx', us', e0', m1, hp1, d1, hw1, _⟩ := hs1.insAt hi
  rw [e0] at e0'
  cases e0'
  refine ⟨p, vs, F1, dx', us', r, x, by rw [List.append_nil], m1.f, hp1, d1, hs1.w.fh, r1, wp_imp (wp_bind.1 q1) (fun z kk b F' H' dx2 us2 dx3 us3 w2 fp hp2 d2 nb fb hb0 hb d3 => ?_) fun e he => ep_slf hs1 hO m1 e he⟩
  obtain ⟨h2, e2, m2⟩ := (hs1.dead i).callI hO m1 hp1 (hs1.notHeld hi rfl e0) w2 fp hp2
  have h3 := h2.own (e := .ins C (fl r) w) i (hs1.notHeld hi rfl e0) ⟨p, dx3, us3, rfl, m2, hp2, d2, hw⟩
  rw [List.set_set, set_id e0, set_same hi] at h3
  obtain ⟨_, n3⟩ := hs_newO (u := .own b) hs1 hb0
  have mb : MineI N F' b := ⟨fb, n3.mine.weak.h0, n3.mine.s⟩
  exact hk z _ F' H' D (h3.own (e := .ins C (fl z) none) j n3.nh ⟨b, dx2, us2, rfl, mb, hb, d3, fun q z => by cases z⟩) (wp_mono kk fun o x => J.mono (Same.trans e1 e2) x)
def JRM (G : Glob) {R : Type} (N : NN) (a C : Addr) (fl : R → List (Fld G)) (r : R) : Aim R := ⟨fun _ q D => ∀ b F' H' dx' fs' dx2 fs2, W N F' H' → F' a = none → H' a = some (.ins C dx2 fs2) → FlR F' (fl r) fs2 → b ≠ a → F' b = none → N.H0 b = none → H' b = some (.ins C dx' fs') → FlR F' (fl q) fs' → D.rt (.ref b) H', fun _ h => h⟩
theorem sv_retM {R : Type} {a : Addr} {fl : R → List (Fld G)} {r q : R} (hB : ∀ b, N.B b → b = a) (hi : Γ[i]? = some (.ins C (fl r) (some a))) (hj : Γ[j]? = some (.ins C (fl q) w)) (hij : i ≠ j) : SV N Γ (tSeq (tRet (tVar j)) tz) (JRM G N a C fl r) (.ok q) := fun σ F H D hs k => by
  obtain ⟨p, dx, us, e0, m0, hp, d, hw, _⟩ := hs.insAt hi
  obtain ⟨b, dx2, us2, e1, m1, hb, d2, _, _⟩ := hs.insAt hj
  have := hw a rfl
  subst this
  have nb : b ≠ a := fun z => by
    subst z
    exact hij (hs.ds i j _ _ b hi hj rfl rfl e0 e1)
  refine ⟨.ref b, e1, ?_⟩
  refine k b F H dx2 us2 dx us hs.w m0.f hp d nb m1.f ?_ hb d2
  rcases m1.h0 with z | z
  · exact z
  · exact absurd (hB b z) nb
end
abbrev SpIM0 (G : Glob) {R : Type} (C : Addr) (fl : R → List (Fld G)) (f : R → Prog R) : Sp := SpIM G C fl ra0 (fun r (_ : Unit) => f r)
section
variable {β ω ρ : Type} [iβ : Rp G β] [iρ : Rp G ρ] {N : NN} {Γ : Env G} {ta tb : TE} {tz : TS} {i j : Nat} {C : Addr} {w : Option Addr}
theorem sv_copy0 {R : Type} {fl : R → List (Fld G)} {f : R → Prog R} {r : R} {mn : Str} {J : Aim ω} {k : R → Prog ω} (hO : ∀ a, N.O a = none) (hi : Γ[i]? = some (.ins C (fl r) w)) (hm : (fl r).find? (fun f => mn == f.n) = none)
    (hk : ∀ q, SV N (Γ.set j (.ins C (fl q) none)) tz J (k q)) : SV N Γ (tSeq (tAsg (tMeth C mn (SpIM0 G C fl f) [] N.E (tVar i) tNil) (gName j)) tz) J (f r >>= k) := sv_copy (f := fun r _ => f r) (m := .ok ()) hO hi hm eva_nil hk
theorem ev_methZ1 {R : Type} [iR : Rp G R] {fl : R → List (Fld G)} {g : R → β → Prog ρ} {mn : Str} {m1 : Prog R} {m2 : Prog β} (hR : ∀ r v F, iR.rp r v F → InR C (fl r) v F) (hm : ∀ r, (fl r).find? (fun f => mn == f.n) = none) (h1 : EV N Γ ta m1) (h2 : EV N Γ tb m2) :
    EV N Γ (tMeth C mn (SpF2 G R β g) [] N.E ta (tCons tb tNil)) (m1 >>= fun r => m2 >>= fun b => g r b) := by
  have h := ev_methZ (f := fun p : R × β × Unit => g p.1 p.2.1) hR hm h1 (eva1 h2)
  simp only [bind_bind, ok_bind] at h
  exact h
end
section
variable {P : Program} {w : World} {mg : Str → Option Value} {base : Heap} {τ : Type}
theorem fn_okM {R : Type} {fl : R → List (Fld G)} {C : Addr} {x qual : Str} {st : Stmt} {f : Addr} {fd : FuncData} {Ns ps : List Str} {k : Nat} {ra : τ → List V → Hp → Prop} {g : R → τ → Prog R} (Fu : Fun G.K x qual st f fd) (S : FnScope Ns ps (defScope st)) (Γ0 : R → τ → Addr → Env G)
    (len : ∀ a vs F, ra a vs F → vs.length + 1 = ps.length) (h0 : ∀ r (a : τ) vs F H (N : NN) p dx us, MineI N F p → H p = some (.ins C dx us) → FlR F (fl r) us → ra a vs F → Slots N F H (Γ0 r a p) (start Ns (.ref p :: vs))) (nown : ∀ r (x : τ) p (j : Nat) e, (Γ0 r x p)[j]? = some e → e.own = true → j = 0)
    (hbody : ∀ (cdv : Value) (A : Around) (outer : List PySem.Env) (s : Shared) (H F : Hp) (p : Addr) (E : XK), Room k (A.deeper (envOfC qual (defScope st) s.heap.objs.size f cdv)) →
      ∃ t, PSs (cxOf (L2.CX P w) P w G.K mg base Ns qual (defScope st) f cdv A outer s H E) (defBody st) t ∧ ∀ r (a : τ), SV (.slf F H p E) (Γ0 r a p) t (JRM G (.slf F H p E) p C fl r) (g r a)) : FnOk P w G.K mg base (L2.CX P w) (k + 1) f fd ps (SpIM G C fl ra g) :=
  Fu.okX S (fun vs H Q E ⟨p, us, F, dx, fs, r, a, e1, _, _, _, _, h, _⟩ => by rw [e1]; exact len a us F h) fun cdv A outer s H vs Q E hr ⟨p, us, F, dx, fs, r, a, e1, fp, hp, d, e, h, q⟩ => by
    subst e1
    obtain ⟨t, hP, hv⟩ := hbody cdv A outer s H F p E hr
    exact ⟨t, hP, hv r a _ F H _ (hs_startI e (fun N m _ _ _ _ => h0 r a us F H N p dx fs m hp d h) fp (nown r a p)) (wp_mono q fun r k b F' H' dx' fs' dx2 fs2 w1 w2 w3 w4 w5 w6 w7 w8 w9 => k b F' H' dx' fs' dx2 fs2 w1 w2 w3 w4 w5 w6 w7 w8 w9)⟩
/-- a getter -/
theorem fn_get {C : Addr} {x qual fn : Str} {st : Stmt} {f : Addr} {fd : FuncData} {Ns ps : List Str} {k : Nat} (Fu : Fun G.K x qual st f fd) (S : FnScope Ns ps (defScope st)) (h0 : ∀ v, (start Ns [v])[0]? = some (some v)) (hps : ps.length = 1) (c : Cls G.K C) (na : NoAttr G.K C fn)
    (hbody : ∀ (cdv : Value) (A : Around) (outer : List PySem.Env) (s : Shared) (H : Hp) (E : XK), PSs (cxOf (L2.CX P w) P w G.K mg base Ns qual (defScope st) f cdv A outer s H E) (defBody st) (tSeq (tRet (tFld G.K (tVar 0) fn)) tNext)) : FnOk P w G.K mg base (L2.CX P w) (k + 1) f fd ps (getSp C fn) :=
  Fu.okX S (fun vs H Q E ⟨a, dx, fs, v, e, _⟩ => by rw [e, hps]; rfl) fun cdv A outer s H vs Q E hr ⟨a, dx, fs, v, e, ea, l, q⟩ => by
    subst e
    exact ⟨_, hbody cdv A outer s H E, .ref a, h0 _, a, C, dx, fs, v, rfl, ea, c, na, l, q⟩
end
end Ty

namespace Ty
open PySem PySem.Spec PyProof.Rows L2
open Enc (enc)
variable {G : Glob}
/-! ### a dict of the caller's as last argument, changed -/
def pinR (a : Addr) (R : OwnR) : OwnR := ⟨fun F p u => p = a ∧ R.R F p u, fun e h => ⟨h.1, R.mono e h.2⟩⟩
def SpG (G : Glob) {ρ τ S : Type} [Rp G ρ] (R : S → OwnR) (ra : τ → List V → Hp → Prop) (f : τ → S → Prog (ρ × S)) : Sp := fun vs H Q E => ∃ a us F u r x, vs = us ++ [.ref a] ∧ F a = none ∧ H a = some u ∧ (R r).R F a u ∧ Same F H ∧ ra x us F ∧
  wp (f x r) (fun q => ∀ v F' H' u', W (.slf F H a E) F' H' → Rp.rp (G := G) q.1 v F' → F' a = none → H' a = some u' → (R q.2).R F' a u' → Q v H') (EP G (.slf F H a E))
def JRG (G : Glob) {ρ S : Type} [Rp G ρ] (N : NN) (a : Addr) (R : S → OwnR) : Aim (ρ × S) := ⟨fun _ r D => ∀ v F' H' u, W N F' H' → Rp.rp (G := G) r.1 v F' → F' a = none → H' a = some u → (R r.2).R F' a u → D.rt v H', fun _ h => h⟩
section
variable {α β γ ω ρ τ S : Type} [iα : Rp G α] [iβ : Rp G β] [iγ : Rp G γ] [iρ : Rp G ρ] {N : NN} {Γ Γ' : Env G} {te ta tb tc : TE} {t : TA} {tt tu : TT} {tz ts : TS} {i : Nat} {b : Bool}
theorem jrg_ret {a : Addr} {R : S → OwnR} : (JRG (ρ := ρ) G N a R).Ret := fun F r D D' e h v F' H' u x1 x2 x3 x4 x5 => e ▸ h v F' H' u x1 x2 x3 x4 x5
theorem sv_retG {a : Addr} {R : S → OwnR} {r : S} {m : Prog ρ} (i : Nat) (hi : Γ[i]? = some (.gen (pinR a (R r)) b)) (h : EV N Γ te m) : SV N Γ (tSeq (tRet te) tz) (JRG G N a R) (m >>= fun x => .ok (x, r)) := fun σ F H D hs q =>
  h σ F H hs _ (wp_mono (wp_bind.1 q) fun x k v F1 H1 hs1 e1 r1 => by
    obtain ⟨p, u, e0, m0, hb, hp, ⟨z, d⟩, _⟩ := hs1.genAt hi
    subst z
    exact k v F1 H1 u hs1.w r1 m0.f hp d)
theorem sv_retGF {βs : Type} {Jn : Aim βs} {a : Addr} {R : S → OwnR} {r : S} {m : Prog ρ} (i : Nat) (hi : Γ[i]? = some (.gen (pinR a (R r)) b)) (h : EV N Γ te m) : SV N Γ (tSeq (tRet te) tz) (JF Jn (JRG G N a R)) (m >>= fun x => .ok (.rt (x, r))) := fun σ F H D hs q =>
  h σ F H hs _ (wp_mono (wp_bind.1 q) fun x k v F1 H1 hs1 e1 r1 => by
    obtain ⟨p, u, e0, m0, hb, hp, ⟨z, d⟩, _⟩ := hs1.genAt hi
    subst z
    exact k v F1 H1 u hs1.w r1 m0.f hp d)
/-- the call: the dict stands in slot i, in the frame's own words K -/
theorem evx_callG {R K : S → OwnR} {ra : τ → List V → Hp → Prop} {f : τ → S → Prog (ρ × S)} {m : Prog τ} {r : S} (hK1 : ∀ r F p u, (K r).R F p u → (R r).R F p u) (hK2 : ∀ r r' F F' p u u', (K r).R F p u → (R r').R F' p u' → (K r').R F' p u')
    (hO : ∀ a, N.O a = none) (hi : Γ[i]? = some (.gen (K r) b)) (h : EVA N Γ t m ra) (ht : ∀ σ H Q, t σ H (fun vs H1 => ∃ v, σ[i]? = some (some v) ∧ Q (vs ++ [v]) H1) → ta' σ H Q) :
    EVX N Γ (tCall (SpG G R ra f) [] N.E ta') (m >>= fun x => f x r) (fun r' => Γ.set i (.gen (K r') b)) := fun σ F H hs Q q => by
  refine ht _ _ _ (h σ F H hs _ (wp_mono (wp_bind.1 q) fun x q1 vs F1 H1 hs1 e1 r1 => ?_))
  obtain ⟨p, u, e0, m1, hb1, hp1, d1, _⟩ := hs1.genAt hi
  refine ⟨.ref p, e0, p, vs, F1, u, r, x, by rw [List.append_nil], m1.f, hp1, hK1 _ _ _ _ d1, hs1.w.fh, r1, wp_imp q1 (fun r' k v F' H' u2 w2 rr fp hp2 d2 => ?_) fun e he => ep_slf hs1 hO m1 e he⟩
  obtain ⟨h2, e2, m2⟩ := (hs1.dead i).callI hO m1 hp1 (hs1.notHeld hi rfl e0) w2 fp hp2
  have h3 := h2.own (e := .gen (K r'.2) b) i (hs1.notHeld hi rfl e0) ⟨p, u2, rfl, m2, hb1, hp2, hK2 _ _ _ _ _ _ _ d1 d2⟩
  rw [List.set_set, set_id e0] at h3
  exact k v F' H' h3 (Same.trans e1 e2) rr
abbrev SpG3 (G : Glob) (α β γ : Type) [Rp G α] [Rp G β] [Rp G γ] {ρ S : Type} [Rp G ρ] (R : S → OwnR) (f : α → β → γ → S → Prog (ρ × S)) : Sp := SpG G R (raC (G := G) α (raC (G := G) β (raC (G := G) γ ra0))) (fun p => f p.1 p.2.1 p.2.2.1)
theorem evx_callG3 {R K : S → OwnR} {f : α → β → γ → S → Prog (ρ × S)} {m1 : Prog α} {m2 : Prog β} {m3 : Prog γ} {r : S} (hK1 : ∀ r F p u, (K r).R F p u → (R r).R F p u) (hK2 : ∀ r r' F F' p u u', (K r).R F p u → (R r').R F' p u' → (K r').R F' p u')
    (hO : ∀ a, N.O a = none) (hi : Γ[i]? = some (.gen (K r) b)) (h1 : EV N Γ ta m1) (h2 : EV N Γ tb m2) (h3 : EV N Γ tc m3) :
    EVX N Γ (tCall (SpG3 G α β γ R f) [] N.E (tCons ta (tCons tb (tCons tc (tCons (tVar i) tNil))))) (m1 >>= fun a => m2 >>= fun b => m3 >>= fun c => f a b c r) (fun r' => Γ.set i (.gen (K r') b)) := by
  have h := evx_callG (f := fun p : α × β × γ × Unit => f p.1 p.2.1 p.2.2.1) (r := r) hK1 hK2 hO hi (eva3 h1 h2 h3) (ta' := tCons ta (tCons tb (tCons tc (tCons (tVar i) tNil)))) (fun σ H Q q => ?_)
  · simp only [bind_bind, ok_bind] at h
    exact h
  · have mono : ∀ {te : TE} {σ : L2.St} {H : Hp} {Q Q' : VK}, te σ H Q → Q = Q' → te σ H Q' := fun h e => e ▸ h
    exact q
theorem pin_K1 {a : Addr} {R : S → OwnR} : ∀ r F p u, (pinR a (R r)).R F p u → (R r).R F p u := fun _ _ _ _ h => h.2
theorem pin_K2 {a : Addr} {R : S → OwnR} : ∀ r r' F F' p u u', (pinR a (R r)).R F p u → (R r').R F' p u' → (pinR a (R r')).R F' p u' := fun _ _ _ _ _ _ _ h h' => ⟨h.1, h'⟩
end
section
variable {κ ν ω : Type} [Enc κ] [Enc ν] [DecidableEq κ] [Sk κ] {N : NN} {Γ Γ' : Env G} {td tk tv tx : TE} {tz ts : TS} {i : Nat} {b : Bool} {kvs : List (κ × ν)}
theorem sv_kputP {a : Addr} {J : Aim ω} {m1 : Prog ν} {m2 : Prog κ} {c : ν → κ → Prog ω} (hO : ∀ a, N.O a = none) (hi : Γ[i]? = some (.gen (pinR a (dkR G kvs)) b)) (h1 : EV N Γ tv m1) (h2 : EV N Γ tk m2) (hk : ∀ v k, SV N (Γ.set i (.gen (pinR a (dkR G (dput kvs k v))) b)) tz J (c v k)) :
    SV N Γ (tSeq (sDPut (tVar i) tk tv) tz) J (m1 >>= fun v => m2 >>= fun k => chk (small kvs.length) (c v k)) := fun σ F H D hs q =>
  h1 σ F H hs _ (wp_mono (wp_bind.1 q) fun x q1 v F1 H1 hs1 e1 r1 => by
    obtain ⟨p, u, e0, _, _, _, _, _⟩ := hs1.genAt hi
    refine ⟨.ref p, e0, h2 σ F1 H1 hs1 _ (wp_mono (wp_bind.1 q1) fun k q2 y F2 H2 hs2 e2 r2 => ?_)⟩
    obtain ⟨hz, q3⟩ := wp_chk q2
    obtain ⟨p2, u2, f0, m2, hb2, hp2, ⟨hpin, ws, hw1, hw2⟩, hl2⟩ := hs2.genAt hi
    rw [e0] at f0
    cases f0
    have ev := Sk.dp r2
    subst hw1 ev
    refine ⟨p, _, rfl, .inl ⟨ws, _, hp2, rfl, by rw [← TyL.paired_len hw2]; exact small_lt hz, rfl⟩, ?_⟩
    exact hk x k σ F2 _ D (hs2.putG (hO p) hi e0 ⟨hpin, _, rfl, dk_put hw2 (dp_same e2 _ _ r1)⟩) (wp_mono q3 fun o x => J.mono (Same.trans e1 e2) x))
end
section
variable {P : Program} {w : World} {mg : Str → Option Value} {base : Heap} {ρ τ : Type} [iρ : Rp G ρ]
theorem own_k0 {e : Ent G} {Γ : Env G} (k : ∀ e ∈ Γ, e.own = false) : ∀ (j : Nat) (e' : Ent G), (e :: Γ)[j]? = some e' → e'.own = true → j = 0 := own_i k
theorem own_ks {e : Ent G} {Γ : Env G} {n : Nat} (he : e.own = false) (k : ∀ (j : Nat) (e' : Ent G), Γ[j]? = some e' → e'.own = true → j = n) : ∀ (j : Nat) (e' : Ent G), (e :: Γ)[j]? = some e' → e'.own = true → j = n + 1 := fun j e' h o => by
  cases j with
  | zero => cases h; rw [he] at o; cases o
  | succ j => rw [k j e' h o]
theorem fn_okG {S : Type} {R : S → OwnR} {x qual : Str} {st : Stmt} {f : Addr} {fd : FuncData} {Ns ps : List Str} {k : Nat} {ra : τ → List V → Hp → Prop} {g : τ → S → Prog (ρ × S)} (Fu : Fun G.K x qual st f fd) (Sc : FnScope Ns ps (defScope st)) (n : Nat) (Γ0 : τ → S → Addr → Env G)
    (len : ∀ a vs F, ra a vs F → vs.length + 1 = ps.length) (h0 : ∀ (a : τ) (r : S) vs F H (N : NN) p u, MineI N F p → H p = some u → (R r).R F p u → ra a vs F → Slots N F H (Γ0 a r p) (start Ns (vs ++ [.ref p]))) (nown : ∀ (x : τ) (r : S) p (j : Nat) e, (Γ0 x r p)[j]? = some e → e.own = true → j = n)
    (hbody : ∀ (cdv : Value) (A : Around) (outer : List PySem.Env) (s : Shared) (H F : Hp) (p : Addr) (E : XK), Room k (A.deeper (envOfC qual (defScope st) s.heap.objs.size f cdv)) →
      ∃ t, PSs (cxOf (L2.CX P w) P w G.K mg base Ns qual (defScope st) f cdv A outer s H E) (defBody st) t ∧ ∀ (a : τ) (r : S), SV (.slf F H p E) (Γ0 a r p) t (JRG G (.slf F H p E) p R) (g a r)) : FnOk P w G.K mg base (L2.CX P w) (k + 1) f fd ps (SpG G R ra g) :=
  Fu.okX Sc (fun vs H Q E ⟨p, us, F, u, r, a, e1, _, _, _, _, h, _⟩ => by rw [e1, List.length_append]; exact len a us F h) fun cdv A outer s H vs Q E hr ⟨p, us, F, u, r, a, e1, fp, hp, d, e, h, q⟩ => by
    subst e1
    obtain ⟨t, hP, hv⟩ := hbody cdv A outer s H F p E hr
    refine ⟨t, hP, hv a r _ F H _ ⟨⟨e, Same.refl F, fun a o h => .inl h, fun a o _ h => h, fun a h => h, fun p c h => (nomatch h), fun p c h => (nomatch h), fun a o h => (nomatch h)⟩, h0 a r us F H _ p u ⟨fp, .inr rfl, fun q c h => (nomatch h)⟩ hp d h, fun i j e e' p' h1 h2 o1 o2 _ _ => by rw [nown a r p i e h1 o1, nown a r p j e' h2 o2]⟩ (wp_mono q fun r k v F' H' u' w1 w2 w3 w4 w5 => k v F' H' u' w1 w2 w3 w4 w5)⟩
end
/-! ### small rules -/
section
variable {α β γ δ : Type} [Enc α] [Enc β] [Enc γ] [Enc δ] {N : NN} {Γ Γ' : Env G} {te ta tb tc : TE}
theorem gv_tup4 {i j k l : Nat} {a : T4 α β γ δ} : GV N Γ (gTup G.K 4 (gCons (gName i) (gCons (gName j) (gCons (gName k) (gCons (gName l) gNil))))) a ((((Γ.set i (.per a.a)).set j (.per a.b)).set k (.per a.c)).set l (.per a.d)) := fun σ F H x hs r Q q => by
  have h : Dq G.K F x (.tuple [enc a.a, enc a.b, enc a.c, enc a.d]) := r
  cases h with
  | tup hq ha =>
    cases ha with
    | cons d1 h2 =>
      cases h2 with
      | cons d2 h3 =>
        cases h3 with
        | cons d3 h4 =>
          cases h4 with
          | cons d4 h5 =>
            cases h5
            exact ⟨_, _, rfl, sqt_same hs.w.fh hq, rfl, _, _, rfl, _, _, rfl, _, _, rfl, _, _, rfl, rfl, q _ F H ((((hs.setPer (a := a.a) i d1).setPer (a := a.b) j d2).setPer (a := a.c) k d3).setPer (a := a.d) l d4) (Same.refl F)⟩
theorem ev_mk4 {ta tb tc td : TE} {m1 : Prog α} {m2 : Prog β} {m3 : Prog γ} {m4 : Prog δ} (h1 : EV N Γ ta m1) (h2 : EV N Γ tb m2) (h3 : EV N Γ tc m3) (h4 : EV N Γ td m4) : EV N Γ (tTup (tCons ta (tCons tb (tCons tc (tCons td tNil))))) (m1 >>= fun a => m2 >>= fun b => m3 >>= fun c => m4 >>= fun d => .ok (T4.mk a b c d)) := by
  have h := ev_tupA (eva4 h1 h2 h3 h4) (f := fun p => T4.mk p.1 p.2.1 p.2.2.1 p.2.2.2.1) (fun a vs F r => by
    obtain ⟨v, ws, rfl, r1, w, us, rfl, r2, w3, us3, rfl, r3, w4, us4, rfl, r4, rfl⟩ := r
    exact ⟨_, rfl, .cons r1 (.cons r2 (.cons r3 (.cons r4 .nil))), by show 4 ≤ 100000; decide⟩)
  simp only [bind_bind, ok_bind] at h
  exact h
theorem wipe_set {σ : L2.St} {vs : List Nat} {i : Nat} {o : Option V} (h : i ∈ vs) : wipe (σ.set i o) vs = wipe σ vs := by
  apply List.ext_getElem?
  intro k
  rw [wipe_get, wipe_get]
  by_cases hk : k ∈ vs
  · rw [if_pos hk, if_pos hk, List.getElem?_set]
    by_cases e : i = k
    · subst e
      rw [if_pos rfl]
      by_cases hl : i < σ.length
      · rw [if_pos hl, List.getElem?_eq_getElem hl]; rfl
      · rw [if_neg hl, List.getElem?_eq_none (by omega)]
    · rw [if_neg e]
  · rw [if_neg hk, if_neg hk, List.getElem?_set_ne (fun (z : i = k) => hk (by rw [← z]; exact h))]
theorem gc_tup3 {i j k : Nat} {a : T3 α β γ} (_ : True) : GC N Γ (gTup G.K 3 (gCons (gName i) (gCons (gName j) (gCons (gName k) gNil)))) a (((Γ.set i (.per a.a)).set j (.per a.b)).set k (.per a.c)) [i, j, k] := fun σ F H x hs r Q q => by
  have h : Dq G.K F x (.tuple [enc a.a, enc a.b, enc a.c]) := r
  cases h with
  | tup hq ha =>
    cases ha with
    | cons d1 h2 =>
      cases h2 with
      | cons d2 h3 =>
        cases h3 with
        | cons d3 h4 =>
          cases h4
          exact ⟨_, _, rfl, sqt_same hs.w.fh hq, rfl, _, _, rfl, _, _, rfl, _, _, rfl, rfl, q _ F (((hs.setPer (a := a.a) i d1).setPer (a := a.b) j d2).setPer (a := a.c) k d3) (Same.refl F) (by
            rw [wipe_set (by simp), wipe_set (by simp), wipe_set (by simp)])⟩
/-- t[1:] of a triple -/
def tail3 (t : T3 α β γ) (lo hi : Option Int) : Prog (β × γ) := if lo = some 1 ∧ hi = none then .ok (t.b, t.c) else .stuck
theorem slv_t3 : SLV (G := G) (α := T3 α β γ) (β := β × γ) (rSlA G.K) tail3 := fun N Γ σ F H x t lo hi hs ra Q q => by
  unfold tail3 at q
  by_cases hz : lo = some 1 ∧ hi = none
  · rw [if_pos hz] at q
    obtain ⟨rfl, rfl⟩ := hz
    have h : Dq G.K F x (.tuple [enc t.a, enc t.b, enc t.c]) := ra
    cases h with
    | tup hq ha =>
      cases ha with
      | cons d1 h2 =>
        cases h2 with
        | cons d2 h3 =>
          cases h3 with
          | cons d3 h4 =>
            cases h4
            refine ⟨_, _, rfl, sqt_same hs.w.fh hq, fun hw => ?_, fun _ p hp => ?_⟩
            · exact absurd hw.1 (by show ¬ HT.sIx 3 0 (some 1) = 0; decide)
            · obtain ⟨hs2, e2⟩ := hs.laid hp
              exact q _ _ _ hs2 e2 (.tup (.inl (.inl upd_same)) (.cons (dp_same e2 _ _ d2) (.cons (dp_same e2 _ _ d3) .nil)))
  · rw [if_neg hz] at q
    exact q.elim
end
/-- max of a list of ints -/
def maxL (xs : List Int) : Prog Int := match xs with
  | [] => .stuck
  | a :: r => .ok (r.foldl (fun x y => if y > x then y else x) a)
def minL (xs : List Int) : Prog Int := match xs with
  | [] => .stuck
  | a :: r => .ok (r.foldl (fun x y => if y < x then y else x) a)
theorem foldl_max : ∀ (r : List Int) (a : Int), (a ≤ r.foldl (fun x y => if y > x then y else x) a ∧ ∀ y ∈ r, y ≤ r.foldl (fun x y => if y > x then y else x) a) ∧ (r.foldl (fun x y => if y > x then y else x) a = a ∨ r.foldl (fun x y => if y > x then y else x) a ∈ r)
  | [], a => ⟨⟨Int.le_refl _, fun y h => by cases h⟩, .inl rfl⟩
  | b :: r, a => by
    obtain ⟨⟨h1, h2⟩, h3⟩ := foldl_max r (if b > a then b else a)
    rw [List.foldl_cons]
    by_cases h : b > a
    · rw [if_pos h] at h1 h2 h3 ⊢
      refine ⟨⟨by omega, fun y hy => ?_⟩, .inr ?_⟩
      · rcases List.mem_cons.1 hy with z | z
        · subst z; exact h1
        · exact h2 y z
      · rcases h3 with z | z
        · rw [z]; exact List.mem_cons_self
        · exact List.mem_cons_of_mem _ z
    · rw [if_neg h] at h1 h2 h3 ⊢
      refine ⟨⟨h1, fun y hy => ?_⟩, ?_⟩
      · rcases List.mem_cons.1 hy with z | z
        · subst z; omega
        · exact h2 y z
      · rcases h3 with z | z
        · exact .inl z
        · exact .inr (List.mem_cons_of_mem _ z)
theorem foldl_min : ∀ (r : List Int) (a : Int), (r.foldl (fun x y => if y < x then y else x) a ≤ a ∧ ∀ y ∈ r, r.foldl (fun x y => if y < x then y else x) a ≤ y) ∧ (r.foldl (fun x y => if y < x then y else x) a = a ∨ r.foldl (fun x y => if y < x then y else x) a ∈ r)
  | [], a => ⟨⟨Int.le_refl _, fun y h => by cases h⟩, .inl rfl⟩
  | b :: r, a => by
    obtain ⟨⟨h1, h2⟩, h3⟩ := foldl_min r (if b < a then b else a)
    rw [List.foldl_cons]
    by_cases h : b < a
    · rw [if_pos h] at h1 h2 h3 ⊢
      refine ⟨⟨by omega, fun y hy => ?_⟩, .inr ?_⟩
      · rcases List.mem_cons.1 hy with z | z
        · subst z; exact h1
        · exact h2 y z
      · rcases h3 with z | z
        · rw [z]; exact List.mem_cons_self
        · exact List.mem_cons_of_mem _ z
    · rw [if_neg h] at h1 h2 h3 ⊢
      refine ⟨⟨h1, fun y hy => ?_⟩, ?_⟩
      · rcases List.mem_cons.1 hy with z | z
        · subst z; omega
        · exact h2 y z
      · rcases h3 with z | z
        · exact .inl z
        · exact .inr (List.mem_cons_of_mem _ z)
section
variable {N : NN} {Γ : Env G} {ta : TE}
theorem ev_maxL {m : Prog (L Int)} (h : EV N Γ ta m) : EV N Γ (tCB (rMax G.K) (tCons ta tNil)) (m >>= fun (xs : List Int) => maxL xs) := fun σ F H hs Q q =>
  h σ F H hs _ (wp_mono (wp_bind.1 q) fun (xs : List Int) q1 x F1 H1 hs1 e1 r1 => by
    obtain ⟨p, rfl, hq⟩ := dp_lst (α := Int) (xs := xs) r1
    cases xs with
    | nil => exact q1.elim
    | cons a r =>
      refine ⟨p, a :: r, rfl, sql_same hs1.w.fh hq, by simp, fun m hm hy => ?_⟩
      obtain ⟨⟨h1, h2⟩, h3⟩ := foldl_max r a
      have e : m = r.foldl (fun x y => if y > x then y else x) a := by
        have l1 : r.foldl (fun x y => if y > x then y else x) a ≤ m := by
          rcases h3 with z | z
          · rw [z]; exact hy _ List.mem_cons_self
          · exact hy _ (List.mem_cons_of_mem _ z)
        have l2 : m ≤ r.foldl (fun x y => if y > x then y else x) a := by
          rcases List.mem_cons.1 hm with z | z
          · rw [z]; exact h1
          · exact h2 _ z
        omega
      rw [e]
      exact q1 _ F1 H1 hs1 e1 (.int _))
theorem ev_minL {m : Prog (L Int)} (h : EV N Γ ta m) : EV N Γ (tCB (rMin G.K) (tCons ta tNil)) (m >>= fun (xs : List Int) => minL xs) := fun σ F H hs Q q =>
  h σ F H hs _ (wp_mono (wp_bind.1 q) fun (xs : List Int) q1 x F1 H1 hs1 e1 r1 => by
    obtain ⟨p, rfl, hq⟩ := dp_lst (α := Int) (xs := xs) r1
    cases xs with
    | nil => exact q1.elim
    | cons a r =>
      refine ⟨p, a :: r, rfl, sql_same hs1.w.fh hq, by simp, fun m hm hy => ?_⟩
      obtain ⟨⟨h1, h2⟩, h3⟩ := foldl_min r a
      have e : m = r.foldl (fun x y => if y < x then y else x) a := by
        have l1 : m ≤ r.foldl (fun x y => if y < x then y else x) a := by
          rcases h3 with z | z
          · rw [z]; exact hy _ List.mem_cons_self
          · exact hy _ (List.mem_cons_of_mem _ z)
        have l2 : r.foldl (fun x y => if y < x then y else x) a ≤ m := by
          rcases List.mem_cons.1 hm with z | z
          · rw [z]; exact h1
          · exact h2 _ z
        omega
      rw [e]
      exact q1 _ F1 H1 hs1 e1 (.int _))
/-- a tuple taken as one of any values -/
theorem ev_datT {α : Type} [Enc α] {m : Prog (List α)} (h : EV N Γ ta m) : EV N Γ ta (m >>= fun xs => .ok (xs.map (enc : α → PyData))) := fun σ F H hs Q q =>
  h σ F H hs _ (wp_mono (wp_bind.1 q) fun xs q1 x F1 H1 hs1 e1 r1 => by
    refine q1 x F1 H1 hs1 e1 ?_
    show Dq G.K F1 x (.tuple ((xs.map enc).map enc))
    have e : (xs.map (enc : α → PyData)).map (enc : PyData → PyData) = xs.map enc := List.map_id _
    rw [e]
    exact r1)
/-- any value taken as four rows -/
def asRows4 : PyData → Prog (T4 (List Int) (List Int) (List Int) (List Int))
  | .tuple [a, b, c, d] => asInts a >>= fun x => asInts b >>= fun y => asInts c >>= fun z => asInts d >>= fun w => .ok ⟨x, y, z, w⟩
  | _ => .stuck
theorem wp_asInts {d : PyData} {P : List Int → Prop} {E : Exc → Prop} (h : wp (asInts d) P E) : ∃ ns : List Int, d = enc ns ∧ P ns := by
  cases d with
  | tuple ys =>
    unfold asInts at h
    dsimp only at h
    cases e : allInts ys with
    | none => rw [e] at h; exact h.elim
    | some ns =>
      rw [e] at h
      refine ⟨ns, ?_, h⟩
      rw [allInts_eq e]
      rfl
  | _ => exact h.elim
theorem ev_asRows4 {m : Prog PyData} (h : EV N Γ ta m) : EV N Γ ta (m >>= asRows4) := fun σ F H hs Q q =>
  h σ F H hs _ (wp_mono (wp_bind.1 q) fun d q1 x F1 H1 hs1 e1 r1 => by
    unfold asRows4 at q1
    split at q1
    · rename_i a b c d
      obtain ⟨xa, rfl, q2⟩ := wp_asInts (wp_bind.1 q1)
      obtain ⟨xb, rfl, q3⟩ := wp_asInts (wp_bind.1 q2)
      obtain ⟨xc, rfl, q4⟩ := wp_asInts (wp_bind.1 q3)
      obtain ⟨xd, rfl, q5⟩ := wp_asInts (wp_bind.1 q4)
      exact q5 x F1 H1 hs1 e1 r1
    · exact q1.elim)
end
end Ty

/-! a ghost slot: a name that the scope does not know -/
namespace L2
open PySem PySem.Spec PyProof.Rows
theorem Inv.ghost {X : Cx} {pins : List (Addr × Obj)} {σ : St} {H : Hp} {s : Shared} {i : Nat} {x : Str} {v : V} (I : Inv X pins σ H s) (hi : X.N[i]? = some x) (hv : ¬ Vis X.env.scope x) : Inv X pins (σ.set i (some v)) H s := by
  obtain ⟨m, hn, hl⟩ := I.loc
  refine ⟨I.ok, I.os, I.bare, I.base, ⟨m, hn, fun j y u h1 h2 h3 => ?_⟩, I.cell, I.free, I.freeC, I.pin, I.hok, by rw [List.length_set]; exact I.len⟩
  by_cases hj : j = i
  · subst hj
    rw [hi] at h1
    cases h1
    exact absurd h3 hv
  · rw [List.getElem?_set_ne (Ne.symm hj)] at h2
    exact hl j y u h1 h2 h3
theorem pss_ghost {X : Cx} {sts : List Stmt} {t : TS} {i : Nat} {x : Str} (v : V) (hi : X.N[i]? = some x) (hv : ¬ Vis X.env.scope x) (h : PSs X sts t) : PSs X sts (fun D σ H => t D (σ.set i (some v)) H) :=
  ⟨fun pins s σ H D I hw => h.run pins s _ H D (I.ghost hi hv) hw⟩
end L2

/-! sorted(xs, key=lambda i: len(words[i]) * (-1 if way == "longest" else 1)) -/
namespace TyL
open PySem PySem.Spec PyProof.Rows L2
/-- the key's text -/
abbrev lamBody (w y x k : Str) (p1 p2 p3 p4 p5 p6 p7 p8 p9 p10 p11 p12 p13 : Pos) (j1 j2 j3 : Nat) : Expr :=
  .BinOp (.Call (.Name "len" p1) [.Subscript (.Name w p2) (.Name x p3) p4] [] p5) .Mult (.IfExp (.Compare (.Name y p6) [.Eq] [.Constant (.str k) j1 p7] p8) (.UnaryOp .USub (.Constant (.int 1) j2 p9) p10) (.Constant (.int 1) j3 p11) p12) p13
section
variable {P : Program} {wo : World} {A : Around} {s : Shared} {E : Value → Shared → Prop} {env : Env} {mg mb m : Str → Option Value}
/-- what the body says, in its own frame -/
theorem lam_body {w y x k : Str} {p1 p2 p3 p4 p5 p6 p7 p8 p9 p10 p11 p12 p13 : Pos} {j1 j2 j3 : Nat} {cw cy : Addr} {a : Addr} {its : Array Value} {i : Nat} {z yy : Str} {t1 t2 t3 : Tok} {Q : Value → Shared → Prop}
    (hk : env.scope.kind = .function) (kx : env.kindOf x = some .local) (kw : env.kindOf w = some .free) (ky : env.kindOf y = some .free) (kl : env.kindOf "len" = some .globalImplicit)
    (hm : s.heap.Ns env.locals m) (mx : m x = some (.int i t1)) (lw : env.cells.lookup w = some cw) (ly : env.cells.lookup y = some cy) (iw : s.heap.IsCell cw (some (.ref a))) (iy : s.heap.IsCell cy (some (.str yy t2)))
    (hg : s.heap.Ns env.globals mg) (ng : mg "len" = none) (hb : s.heap.Ns env.builtins mb) (nb : mb "len" = some (.builtin "len"))
    (ht : IsTup s.heap a its) (hi : its[i]? = some (.str z t3)) (hz : z.length ≤ 1000) (hi6 : i ≤ 1000) (hn : its.size ≤ 1000)
    (q : ∀ t tk, Q (.int ((z.length : Int) * (if yy = k then -1 else 1)) t) { s with toks := tk })
    (dw : (w == ("__debug__" : Str)) = false := by decide) (dy : (y == ("__debug__" : Str)) = false := by decide) (dx : (x == ("__debug__" : Str)) = false := by decide) (cdw : (w == ("__classdict__" : Str)) = false := by decide) (cdy : (y == ("__classdict__" : Str)) = false := by decide) :
    wpAny (model P wo) A (eval (lamBody w y x k p1 p2 p3 p4 p5 p6 p7 p8 p9 p10 p11 p12 p13 j1 j2 j3) env) Q E s := by
  refine wpAny_BinOp ?_
  refine wpAny_Call_Name_kw (Calls.Name_function_global hk kl (Calls.loadGlobal_builtin hg ng hb nb ?_))
  refine PyProof.Rows.callWith_builtin1 (Calls.spliced_cons ?_) (by rfl) (by rfl)
  refine Subscript_ (wpAny_Name (wpAny_loadName_free hk kw lw iw ?_ cdw) dw)
  refine wpAny_Name (wpAny_loadName_local hk kx hm mx ?_) dx
  refine subscriptTail_builtinR (x := .str z t3) (T := "tuple") (id := "tuple.__getitem__") ?_ slot_tuple_getitem.lookup ?_ (by rfl)
  · exact (show IsTup s.heap a its from ht).typeIs
  refine getItem_tuple (j := i) ht (by omega) (by omega) ?_ hi ⟨rfl, ?_⟩
  · have hlt : i < its.size := (Array.getElem?_eq_some_iff.1 hi).1
    unfold seqIndex?
    simp
    omega
  refine Calls.spliced_nil ?_
  refine len_str (by omega) ?_
  refine wpAny_IfExp (wpAny_isTrue_Compare1 ?_ (by rfl))
  refine wpAny_Name (wpAny_loadName_free hk ky ly iy ?_ cdy) dy
  refine Calls.Constant_str ?_
  refine eq_str ?_
  refine wpAny_truthy_bool ?_
  by_cases hq : yy = k
  · have e1 : (yy == k) = true := beq_iff_eq.2 hq
    rw [e1, if_pos rfl]
    refine UnaryOp_ (wpAny_Constant_int (neg_int ?_))
    refine mul_int ?_ ?_
    · have := q (s.toks + 1 + 1 + 1 + 1 + 1) (s.toks + 1 + 1 + 1 + 1 + 1 + 1)
      rw [if_pos hq] at this
      exact this
    · exact CMul.ok (by unfold CMul; omega)
  · have e1 : (yy == k) = false := by
      cases e : (yy == k) with
      | false => rfl
      | true => exact absurd (beq_iff_eq.1 e) hq
    rw [e1, if_neg Bool.false_ne_true]
    refine wpAny_Constant_int ?_
    refine mul_int ?_ ?_
    · have := q (s.toks + 1 + 1 + 1 + 1) (s.toks + 1 + 1 + 1 + 1 + 1)
      rw [if_neg hq] at this
      exact this
    · exact CMul.ok (by unfold CMul; omega)
end
end TyL

namespace TyL
open PySem PySem.Spec PyProof.Rows L2 LamX
section
variable {X : Cx} {pins : List (Addr × Obj)} {σ : L2.St} {H : Hp} {s : Shared}
/-- a table at P and what its codes are -/
structure Tbl (H : Hp) (P : Addr) (nm : Str) (rows : Array Value) : Prop where
  at_ : H P = some (.tbl rows)
  ok : TriplesOk rows.toList
  codes : ∀ (ps : Pos) (u : Value), codeAmong ps rows.toList = some u → ∃ b, u = .ref b ∧ H b = some (CodeO b nm)
/-- the heap behind the making of a lambda -/
def Made (H H' : Hp) (P : Addr) (nm : Str) (rows : Array Value) : Prop := H' = H ∨ ∃ (b : Addr) (ps : Pos), H b = none ∧ H' = upd (upd H P (.tbl (rows ++ #[rawInt ps.line, rawInt ps.col, .ref b]))) b (CodeO b nm)
theorem made_lam {cd P : Addr} {ar : Arguments} {bd : Expr} {sc : Scope} {lp : Pos} {Er : Value → Shared → Prop} {Qr : Value → Shared → Prop} {rows : Array Value} (I : Inv X pins σ H s) (tb : TabB X.base X.mg cd P) (ec : X.env.code = .ref cd)
    (tab : Tbl H P (X.env.qual ++ "<lambda>") rows) (ed : defaultsOf ar X.env = ([], [])) (fr : ∀ y ∈ sc.names, y.2 = .free → ∃ c, X.env.cells.lookup y.1 = some c)
    (go : ∀ (g b : Addr) (pm ct : Value) (H1 : Hp) (s1 : Shared), Inv X pins σ H1 s1 → Made H H1 P (X.env.qual ++ "<lambda>") rows →
      s1.heap.get? g = some (PySem.W.kla_obj "<lambda>" (X.env.qual ++ "<lambda>") ar bd sc (cloFrom X.env.cells sc.names []) pm b ct) → H1 b = some (CodeO b (X.env.qual ++ "<lambda>")) → Qr (.ref g) s1) :
    wpAny (model X.prog X.w) X.A (eval (.Lambda ar bd sc lp) X.env) Qr Er s := by
  refine PySem.W.kla_eval ed ?_
  have ba : s.heap.BuiltinsAt X.mg P := tb.bm.keeps I.bk
  have hp : s.heap.get? P = some { cls := .none, data := .fields rows } := I.hok P _ tab.at_
  cases hit : codeAmong lp rows.toList with
  | some u =>
    obtain ⟨b, rfl, hb⟩ := tab.codes lp u hit
    refine PySem.W.kla_makeFunctionHit (mg := X.mg) (c := cd) (P := P) (ps := rows) (closure_ok fr) I.ok.glob (I.mod.glob.keeps I.bk) ec (tb.code.keeps I.bk) hp tab.ok hit ba fun ct hx tk kp _ => ?_
    exact go _ b ((X.mg "__name__").getD .none) ct H _ (I.kept fun a o e => Heap.get?_push_of_some _ (kp a o e)) (.inl rfl) (Heap.get?_push_size _ rfl) hb
  | none =>
    refine PySem.W.kla_makeFunction (mg := X.mg) (c := cd) (P := P) (ps := rows) (closure_ok fr) I.ok.glob (I.mod.glob.keeps I.bk) ec (tb.code.keeps I.bk) hp tab.ok hit tb.gP ba fun b ct hx tk kp ge lt rec_ atP => ?_
    obtain ⟨b2, oc, vs, tn, eb, g1, g2, g3⟩ := rec_
    cases eb
    have fresh : H b = none := I.hok.fresh ge
    exact go _ b ((X.mg "__name__").getD .none) ct _ _ (inv_table (t' := tk) (more := #[rawInt lp.line, rawInt lp.col, .ref b]) I tab.at_ (fun a o ne e => Heap.get?_push_of_some _ (kp a o ne e)) (Heap.get?_push_of_some _ atP) ge ⟨oc, vs, tn, Heap.get?_push_of_some _ g1, g2, g3⟩)
      (.inr ⟨b, lp, fresh, rfl⟩) (Heap.get?_push_size _ rfl) upd_same
/-- what the key needs to see -/
structure KeyAt (X : Cx) (σ : L2.St) (H : Hp) (iw iy : Nat) (a : Addr) (ws : List Str) (yy : Str) : Prop where
  w : σ[iw]? = some (some (.ref a))
  t : SqT X.K H a (ws.map V.str)
  y : σ[iy]? = some (some (.str yy))
  n : ws.length ≤ 1000
  l : ∀ z ∈ ws, z.length ≤ 1000
def keyOf (ws : List Str) (yy k : Str) (n : Int) : Int := ((ws.getD n.toNat Str.empty).length : Int) * (if yy = k then -1 else 1)
theorem lam_turn {iw iy : Nat} {w y x k : Str} {p1 p2 p3 p4 p5 p6 p7 p8 p9 p10 p11 p12 p13 : Pos} {j1 j2 j3 : Nat} {ar : Arguments} {sc : Scope} {g b : Addr} {pm ct : Value} {H1 : Hp} {s1 : Shared} {a : Addr} {ws : List Str} {yy : Str} {kk : Nat}
    (I : Inv X pins σ H1 s1) (ka : KeyAt X σ H1 iw iy a ws yy) (hg : s1.heap.get? g = some (PySem.W.kla_obj "<lambda>" (X.env.qual ++ "<lambda>") ar (lamBody w y x k p1 p2 p3 p4 p5 p6 p7 p8 p9 p10 p11 p12 p13 j1 j2 j3) sc (cloFrom X.env.cells sc.names []) pm b ct))
    (hb : H1 b = some (CodeO b (X.env.qual ++ "<lambda>"))) (hr : Room kk X.A)
    (sk : sc.kind = .function) (co : sc.isCoroutine = false) (ge : sc.isGenerator = false) (nc : ∀ z ∈ sc.names, z.2 ≠ .cell) (lx : sc.names.lookup x = some .local) (lw : sc.names.lookup w = some .free) (ly : sc.names.lookup y = some .free) (ll : sc.names.lookup ("len" : Str) = some .globalImplicit)
    (cw : X.env.scope.names.lookup w = some .cell) (cy : X.env.scope.names.lookup y = some .cell) (nw : X.N[iw]? = some w) (ny : X.N[iy]? = some y) (fr : ∀ z ∈ sc.names, z.2 = .free → ∃ c, X.env.cells.lookup z.1 = some c)
    (bnd : ∀ (q : Str) (cl : List (Str × Addr)) (pm cv ct u : Value) (bd : Expr), bindArgs (PySem.W.kla_fn "<lambda>" q ar bd sc cl pm cv ct) ⟨[u], []⟩ = pure [(x, u)]) (nl : X.mg "len" = none)
    (dw : (w == ("__debug__" : Str)) = false) (dy : (y == ("__debug__" : Str)) = false) (dx : (x == ("__debug__" : Str)) = false) (cdw : (w == ("__classdict__" : Str)) = false) (cdy : (y == ("__classdict__" : Str)) = false)
    {n : Int} (h0 : 0 ≤ n) (h1 : n < ws.length) {u : Value} (hu : ∃ t, u = .int n t) (hx : Heap) (tk : Nat) (kp : ∀ c o, s1.heap.get? c = some o → hx.get? c = some o) :
    wpAny (model X.prog X.w) X.A.in1.in1 (call (.ref g) [u]) (PySem.W.KeyPure (.int (keyOf ws yy k n)) { s1 with heap := hx, toks := tk }) (fun _ _ => False) { s1 with heap := hx, toks := tk } := by
  obtain ⟨t, rfl⟩ := hu
  obtain ⟨m, hn, hl⟩ := I.loc
  have cellOf : ∀ {i : Nat} {z : Str} {v : V}, X.N[i]? = some z → σ[i]? = some (some v) → X.env.scope.names.lookup z = some .cell → ∃ c u, X.env.cells.lookup z = some c ∧ RelV v u ∧ s1.heap.IsCell c (some u) := fun {i z v} e1 e2 e3 => by
    obtain ⟨u, r, q⟩ := hl i z v e1 e2 (.inr (.inl e3))
    rcases q with ⟨q1, _⟩ | ⟨_, c, q2, q3⟩
    · have q1' : X.env.scope.names.lookup z = some .local := q1
      rw [e3] at q1'; cases q1'
    · exact ⟨c, u, q2, r, q3⟩
  obtain ⟨c1, u1, a1, r1, i1⟩ := cellOf nw ka.w cw
  obtain ⟨c2, u2, a2, r2, i2⟩ := cellOf ny ka.y cy
  obtain rfl : u1 = Value.ref a := r1
  obtain ⟨t2, rfl⟩ := r2
  obtain ⟨its, rv, ht, _⟩ := I.tuple ka.t
  have hlt : n.toNat < ws.length := by omega
  obtain ⟨u3, e3, r3⟩ := rv.get (show (ws.map V.str)[n.toNat]? = some (V.str ws[n.toNat]) by rw [List.getElem?_map, List.getElem?_eq_getElem hlt]; rfl)
  obtain ⟨t3, rfl⟩ := r3
  obtain ⟨mb, hb1, hb2⟩ := I.mod.blt
  obtain ⟨⟨oc, vs, tn, o1, o2, o3⟩, _, _⟩ := I.hok b _ hb
  refine wpAny_call (PySem.W.kla_callFunE (o := PySem.W.kla_obj "<lambda>" (X.env.qual ++ "<lambda>") ar (lamBody w y x k p1 p2 p3 p4 p5 p6 p7 p8 p9 p10 p11 p12 p13 j1 j2 j3) sc (cloFrom X.env.cells sc.names []) pm b ct) (by show X.A.depth < _; have := hr.dp; omega) (kp _ _ hg) rfl co ge rfl ⟨b, oc, vs, tn, rfl, kp _ _ o1, o2, o3⟩ ?_)
  rw [bnd]
  refine wpAny_pure (wpAny_newFunctionEnv nc (fun z hz => ?_) (fun h2 hns hsb => ?_) sk)
  · rw [List.mem_singleton.1 hz]; exact lx
  have k2 : ∀ c o, hx.get? c = some o → h2.get? c = some o := fun c o e => hsb.extBut c o (Nat.ne_of_lt (Heap.lt_size e)) (Heap.get?_push_of_some _ e)
  have k3 : ∀ c o, s1.heap.get? c = some o → h2.get? c = some o := fun c o e => k2 c o (kp c o e)
  have cellK : ∀ {c : Addr} {v : Option Value}, s1.heap.IsCell c v → h2.IsCell c v := fun {c v} ⟨o, ho, hd⟩ => ⟨o, k3 _ _ ho, hd⟩
  refine ⟨(I.nolimit.keeps kp).fresh _ hsb, PySem.W.kla_codeExpr ?_⟩
  refine lam_body (mg := X.mg) (mb := mb) (m := fun z => [(x, Value.int n t)].reverse.lookup z) (cw := c1) (cy := c2) (a := a) (its := its.toArray) (i := n.toNat) (z := ws[n.toNat]) (yy := yy) (t1 := t) (t2 := t2) (t3 := t3) sk lx lw ly ll ?_ ?_ ?_ ?_ (cellK i1) (cellK i2) ?_ nl ?_ ?_ ?_ ?_ ?_ (by have := ka.n; omega) ?_ (fun t' tk' => ?_) dw dy dx cdw cdy
  · exact hns
  · show ([(x, Value.int n t)] : List (Str × Value)).lookup x = some (.int (n.toNat : Int) t)
    have en : ((n.toNat : Nat) : Int) = n := by omega
    rw [en, List.lookup_cons]
    simp
  · exact NdefX.clo_has fr (PySem.mem_of_lookup lw) a1
  · exact NdefX.clo_has fr (PySem.mem_of_lookup ly) a2
  · exact (I.mod.glob.keeps I.bk).keeps k3
  · exact (hb1.keeps I.bk).keeps k3
  · exact (hb2 "len" (by decide)).trans PySem.boot_len
  · exact ht.keeps k3
  · simpa using e3
  · exact ka.l _ (List.getElem_mem hlt)
  · have hlen := rv.length
    rw [List.size_toArray, ← hlen, List.length_map]
    exact ka.n
  · refine ⟨h2, tk', rfl, k2, ?_⟩
    have ek : keyOf ws yy k n = ((ws[n.toNat]).length : Int) * (if yy = k then -1 else 1) := by
      unfold keyOf
      rw [List.getD_eq_getElem?_getD, List.getElem?_eq_getElem hlt]
      rfl
    rw [ek]
    exact .int _ _
/-- the reading of sorted(xs, key=lambda ..) -/
def tSortLam (K : PySem.W.Frag) (P : Addr) (nm : Str) (iw iy : Nat) (k : Str) (te : TE) : TE := fun σ H Q => te σ H fun v H1 => ∃ (l : Addr) (ns : List Int) (a : Addr) (ws : List Str) (yy : Str) (rows : Array Value), v = .ref l ∧ SqL K H1 l (ns.map V.int) ∧
  (σ[iw]? = some (some (.ref a)) ∧ SqT K H1 a (ws.map V.str) ∧ σ[iy]? = some (some (.str yy)) ∧ ws.length ≤ 1000 ∧ ∀ z ∈ ws, z.length ≤ 1000) ∧ (∀ n ∈ ns, 0 ≤ n ∧ n < ws.length) ∧ ns.length ≤ 1000 ∧ Tbl H1 P nm rows ∧
  ∀ H2, Made H1 H2 P nm rows → ∀ p, H2 p = none → Q (.ref p) (upd H2 p (.lst ((ns.mergeSort fun i j => decide (keyOf ws yy k i ≤ keyOf ws yy k j)).map V.int)))
theorem Made.seq {H H' : Hp} {P : Addr} {nm : Str} {rows : Array Value} (m : Made H H' P nm rows) (hP : H P = some (.tbl rows)) : ∀ b o, (∀ r, o ≠ .tbl r) → H b = some o → H' b = some o := fun b o no e => by
  rcases m with z | ⟨c, ps, hc, z⟩
  · rw [z]; exact e
  · have n1 : b ≠ c := ne_of_none e hc
    have n2 : b ≠ P := fun q => no rows (Option.some.inj (e.symm.trans (by rw [q]; exact hP)))
    rw [z, upd_ne n1, upd_ne n2]; exact e
theorem eachInt : ∀ {zs : List Int} {us : List Value}, Vals (zs.map V.int) us → PySem.W.EachIs (fun u n => ∃ t, u = Value.int n t) us zs
  | [], _, h => by cases h; exact .nil
  | z :: zs, _, h => by
    cases h with
    | cons h1 h2 => exact .cons h1 (eachInt h2)
theorem valsInt : ∀ {zs : List Int} {us : List Value}, PySem.W.EachIs (fun u n => ∃ t, u = Value.int n t) us zs → Vals (zs.map V.int) us
  | [], _, h => by cases h; exact .nil
  | z :: zs, _, h => by
    cases h with
    | cons h1 h2 => exact .cons h1 (valsInt h2)
theorem pe_sortLam {iw iy : Nat} {w y x k : Str} {p0 p1 p2 p3 p4 p5 p6 p7 p8 p9 p10 p11 p12 p13 lp kp pos : Pos} {j1 j2 j3 : Nat} {ar : Arguments} {sc : Scope} {kk : Nat} {cd P : Addr} {e : Expr} {te : TE} (he : PE X e te)
    (hgl : Gl X "sorted") (ns : X.mg "sorted" = none) (hv : bootBuiltins "sorted" = some (.builtin "sorted")) (tb : TabB X.base X.mg cd P) (ec : X.env.code = .ref cd) (ed : defaultsOf ar X.env = ([], [])) (hr : Room kk X.A)
    (sk : sc.kind = .function) (co : sc.isCoroutine = false) (ge : sc.isGenerator = false) (nc : ∀ z ∈ sc.names, z.2 ≠ .cell) (lx : sc.names.lookup x = some .local) (lw : sc.names.lookup w = some .free) (ly : sc.names.lookup y = some .free) (ll : sc.names.lookup ("len" : Str) = some .globalImplicit)
    (cw : X.env.scope.names.lookup w = some .cell) (cy : X.env.scope.names.lookup y = some .cell) (nw : X.N[iw]? = some w) (ny : X.N[iy]? = some y) (fr : ∀ z ∈ sc.names, z.2 = .free → X.env.scope.names.lookup z.1 = some .cell)
    (bnd : ∀ (q : Str) (cl : List (Str × Addr)) (pm cv ct u : Value) (bd : Expr), bindArgs (PySem.W.kla_fn "<lambda>" q ar bd sc cl pm cv ct) ⟨[u], []⟩ = pure [(x, u)]) (nl : X.mg "len" = none)
    (dw : (w == ("__debug__" : Str)) = false := by decide) (dy : (y == ("__debug__" : Str)) = false := by decide) (dx : (x == ("__debug__" : Str)) = false := by decide) (cdw : (w == ("__classdict__" : Str)) = false := by decide) (cdy : (y == ("__classdict__" : Str)) = false := by decide)
    (hst : backTo pos (starEach [e] X.env) = (false, eval e X.env) :: backTo pos (starEach [] X.env) := by rfl) (hpl : (backTo pos (starEach [e] X.env)).any (·.1) = false := by rfl) :
    PE X (.Call (.Name "sorted" p0) [e] [⟨some "key", .Lambda ar (lamBody w y x k p1 p2 p3 p4 p5 p6 p7 p8 p9 p10 p11 p12 p13 j1 j2 j3) sc lp, kp⟩] pos) (tSortLam X.K P (X.env.qual ++ "<lambda>") iw iy k te) := by
  refine ⟨fun pins s σ H Q I h => ?_⟩
  refine wpAny_Call_Name_kw (ld_blt I hgl ns hv ?_ (by decide) (by decide))
  refine PyProof.Rows.callWith_kw ?_ hst hpl (by rfl) (by rfl)
  rw [hst]
  refine Calls.spliced_cons (thn (he.run pins s σ H _ I h) fun u s1 ⟨v, H1, I1, r1, q1⟩ => ?_)
  obtain ⟨l, zs, a, ws, yy, rows, rfl, hl, ⟨k1, k2, k3, k4, k5⟩, hn, hz, ht, q⟩ := q1
  obtain rfl : u = Value.ref l := r1
  refine Calls.spliced_nil ?_
  have frX : ∀ z ∈ sc.names, z.2 = .free → ∃ c, X.env.cells.lookup z.1 = some c := fun z hz e => I1.ok.has _ (.inl (fr z hz e))
  show wpAny _ _ (evalAll ((do let v ← eval (.Lambda ar (lamBody w y x k p1 p2 p3 p4 p5 p6 p7 p8 p9 p10 p11 p12 p13 j1 j2 j3) sc lp) X.env; standAt pos; pure v) :: (backToKw pos (keywordEach [] X.env)).map (·.2))) _ _ s1
  refine wpAny_evalAll_cons (wpAny_bind (made_lam I1 tb ec ht ed frX fun g b pm ct H2 s2 I2 md hg hb => wpAny_bind (wpAny_standAt (wpAny_pure ?_))))
  refine wpAny_evalAll_nil ?_
  have sq := md.seq ht.at_
  have rd : ∀ {c : Addr} {o : HO}, (∀ r, o ≠ .tbl r) → Rd H1 c o → Rd H2 c o := fun {c o} no h => by
    rcases h with z | ⟨od, z⟩
    · exact .inl (sq _ _ no z)
    · exact .inr ⟨od, sq _ _ (fun r e => by cases e) z⟩
  have hl2 : SqL X.K H2 l (zs.map V.int) := hl.imp (rd fun r e => by cases e) id
  have ka : KeyAt X σ H2 iw iy a ws yy := ⟨k1, k2.imp (rd fun r e => by cases e) id, k3, k4, k5⟩
  obtain ⟨its, rv, hL, hsz⟩ := I2.list hl2
  have hlen := rv.length
  rw [List.length_map] at hlen
  show wpAny _ _ (call (.builtin "sorted") [.ref l] [(Str.ofString "key", .ref g)]) _ _ s2
  refine PySem.W.sorted_key_data (b := false) (R := fun u n => ∃ t, u = Value.int n t) (bs := zs) (fun n => PyData.int (keyOf ws yy k n)) hL.isList (eachInt rv) (PySem.W.AllAlike.of fun _ _ => by simp [PySem.W.alike]) (PySem.W.Sortable.others (enc := fun n => PyData.int (keyOf ws yy k n)) fun _ => ⟨(fun z => by cases z), (fun _ z => by cases z)⟩) (by rw [sizeLine_eq]; omega) (fun n _ => ?_)
    (PyProof.Rows.ksk_s1 _ _) (fun _ => PyProof.Rows.ksk_l1 _ _) (fun _ => PyProof.Rows.ksk_t1 _ _) (fun u n hu m hx tk kp => lam_turn I2 ka hg hb hr sk co ge nc lx lw ly ll cw cy nw ny frX bnd nl dw dy dx cdw cdy (hn n m).1 (hn n m).2 hu hx tk kp) fun out c hx tk kp _ hD hol eo => ?_
  · have hd : (PyData.int (keyOf ws yy k n)).depth = 0 := by simp [PyData.depth]
    have := hr.un
    omega
  · rw [PySem.W.dataLe_int] at eo
    have vl := valsInt eo
    have hl3 : ((zs.mergeSort fun i j => decide (keyOf ws yy k i ≤ keyOf ws yy k j)).map V.int).length ≤ sizeLine := by
      rw [List.length_map, (List.mergeSort_perm zs _).length_eq, sizeLine_eq]; omega
    exact ⟨.ref _, _, I2.laid (o := .lst ((zs.mergeSort fun i j => decide (keyOf ws yy k i ≤ keyOf ws yy k j)).map V.int)) (t' := tk) kp (Nat.le_succ _) ⟨hl3, out, c, vl, hD⟩, rfl, q H2 md _ (I2.hok.fresh (Nat.le_succ _))⟩
end
end TyL

/-! typed rules for defs that make a lambda: the table of code objects at tp stands in a ghost slot -/
namespace Ty
open PySem PySem.Spec PyProof.Rows L2 LamX
open Enc (enc)
variable {G : Glob}
def tabR (nm : Str) : OwnR := ⟨fun F _ u => ∃ rows : Array Value, u = .tbl rows ∧ TriplesOk rows.toList ∧ ∀ (ps : Pos) (v : Value), codeAmong ps rows.toList = some v → ∃ b, v = .ref b ∧ F b = some (CodeO b nm),
  fun e ⟨rows, h1, h2, h3⟩ => ⟨rows, h1, h2, fun ps v h => let ⟨b, e1, e2⟩ := h3 ps v h; ⟨b, e1, e _ _ e2⟩⟩⟩
abbrev tabE (tp : Addr) (nm : Str) : Ent G := .gen (pinR tp (tabR nm)) true
theorem tab_nil {nm : Str} {F : Hp} {p : Addr} : (tabR nm).R F p (.tbl #[]) := ⟨#[], rfl, trivial, fun ps v h => by cases h⟩
theorem dqAll_of_ints {K : PySem.W.Frag} {F : Hp} : ∀ ns : List Int, DqAll K F (ns.map V.int) (ns.map enc)
  | [] => .nil
  | n :: ns => .cons (.int n) (dqAll_of_ints ns)
section
variable {N : NN} {Γ : Env G} {σ : L2.St} {F H H2 : Hp} {tp : Addr} {nm : Str} {i : Nat} {b : Bool} {rows : Array Value}
theorem HS.tabAt (hs : HS N Γ σ F H) (hi : Γ[i]? = some (.gen (pinR tp (tabR nm)) b)) : ∃ rows : Array Value, σ[i]? = some (some (.ref tp)) ∧ MineI N F tp ∧ (b = false → N.H0 tp = none) ∧ H tp = some (.tbl rows) ∧ TriplesOk rows.toList ∧ (∀ (ps : Pos) (v : Value), codeAmong ps rows.toList = some v → ∃ c, v = .ref c ∧ F c = some (CodeO c nm)) := by
  obtain ⟨p, u, e0, m, hb, hp, ⟨z, rows, e1, e2, e3⟩, _⟩ := hs.genAt hi
  subst z e1
  exact ⟨rows, e0, m, hb, hp, e2, e3⟩
theorem HS.made (hO : ∀ a, N.O a = none) (hs : HS N Γ σ F H) (hi : Γ[i]? = some (.gen (pinR tp (tabR nm)) b)) (hp : H tp = some (.tbl rows)) (m : TyL.Made H H2 tp nm rows) : ∃ F2, HS N Γ σ F2 H2 ∧ Same F F2 := by
  rcases m with z | ⟨c, ps, hc, z⟩
  · rw [z]; exact ⟨F, hs, Same.refl F⟩
  · obtain ⟨rows', e0, mi, hb, hp', ok, cs⟩ := hs.tabAt hi
    rw [hp] at hp'
    cases hp'
    obtain ⟨h1, e1⟩ := hs.laid (o := CodeO c nm) hc
    have ne : c ≠ tp := fun q => by rw [q, hp] at hc; cases hc
    have h2 := h1.putG (R' := pinR tp (tabR nm)) (u := .tbl (rows ++ #[rawInt ps.line, rawInt ps.col, .ref c])) (hO tp) hi e0 ⟨rfl, _, rfl, by
      rw [Array.toList_append]
      exact TriplesOk_snoc _ _ _ _ ok, fun p' v hv => by
      rw [Array.toList_append] at hv
      rcases among_app _ ok hv with q | q
      · obtain ⟨d, q1, q2⟩ := cs p' v q
        exact ⟨d, q1, e1 _ _ q2⟩
      · exact ⟨c, q, upd_same⟩⟩
    have eΓ : Γ.set i (.gen (pinR tp (tabR nm)) b) = Γ := by
      apply List.ext_getElem?
      intro j
      by_cases hj : i = j
      · subst hj; rw [List.getElem?_set_self (List.getElem?_eq_some_iff.1 hi).1, hi]
      · rw [List.getElem?_set_ne hj]
    rw [eΓ] at h2
    have eH : upd (upd H c (CodeO c nm)) tp (.tbl (rows ++ #[rawInt ps.line, rawInt ps.col, .ref c])) = H2 := by
      rw [z]
      funext a
      by_cases ha : a = tp
      · subst ha; rw [upd_same, upd_ne (Ne.symm ne), upd_same]
      · by_cases hb : a = c
        · subst hb; rw [upd_ne ha, upd_same, upd_same]
        · rw [upd_ne ha, upd_ne hb, upd_ne hb, upd_ne ha]
    rw [eH] at h2
    exact ⟨_, h2, e1⟩
end
/-! ### sorted(xs, key=lambda ..) -/
def keyL (ws : List Tx) (y k : Tx) (n : Int) : Int := ((ws.getD n.toNat []).length : Int) * (if y = k then -1 else 1)
def sortL (ws : List Tx) (y k : Tx) (xs : List Int) : List Int := xs.mergeSort fun i j => decide (keyL ws y k i ≤ keyL ws y k j)
def okL (ws : List Tx) (xs : List Int) : Bool := decide (ws.length ≤ 1000) && ws.all (fun w => decide (w.length ≤ 1000)) && decide (xs.length ≤ 1000) && xs.all fun n => decide (0 ≤ n) && decide (n < ws.length)
theorem okL_iff {ws : List Tx} {xs : List Int} : okL ws xs = true ↔ ws.length ≤ 1000 ∧ (∀ w ∈ ws, w.length ≤ 1000) ∧ xs.length ≤ 1000 ∧ ∀ n ∈ xs, 0 ≤ n ∧ n < ws.length := by
  unfold okL
  simp [and_assoc]
theorem keyL_of {ws : List Tx} {y : Tx} {k : Str} {n : Int} : TyL.keyOf (ws.map sx) (sx y) k n = keyL ws y k.cps.toList n := by
  unfold TyL.keyOf keyL
  have h1 : (((ws.map sx).getD n.toNat Str.empty).length) = (ws.getD n.toNat []).length := by
    rw [List.getD_eq_getElem?_getD, List.getD_eq_getElem?_getD, List.getElem?_map]
    cases ws[n.toNat]? with
    | none => rfl
    | some z => rfl
  rw [h1]
  have h2 : (sx y = k) ↔ (y = k.cps.toList) := ⟨fun e => by rw [← e], fun e => by rw [e]⟩
  by_cases e : sx y = k
  · rw [if_pos e, if_pos (h2.1 e)]
  · rw [if_neg e, if_neg fun z => e (h2.2 z)]
section
variable {N : NN} {Γ : Env G} {te : TE} {tp : Addr} {nm : Str} {i iw iy : Nat} {b : Bool}
theorem evn_sortLam {k : Str} {kt : Tx} {ws : List Tx} {y : Tx} {m : Prog (L Int)} (g : Nat) (hO : ∀ a, N.O a = none) (hg : Γ[g]? = some (.gen (pinR tp (tabR nm)) b)) (hw : Γ[iw]? = some (.per ws)) (hy : Γ[iy]? = some (.per y)) (hk : k.cps.toList = kt) (h : EV N Γ te m) :
    EVN N Γ (TyL.tSortLam G.K tp nm iw iy k te) (m >>= fun (xs : List Int) => chk (okL ws xs) (.ok (sortL ws y kt xs : L Int))) := fun σ F H hs Q q =>
  h σ F H hs _ (wp_mono (wp_bind.1 q) fun (xs : List Int) q1 x F1 H1 hs1 e1 r1 => by
    obtain ⟨hz, q2⟩ := wp_chk q1
    obtain ⟨z1, z2, z3, z4⟩ := okL_iff.1 hz
    obtain ⟨l, rfl, hq⟩ := dp_lst (α := Int) (xs := xs) r1
    obtain ⟨rows, e0, mi, hb, hp, ok, cs⟩ := hs1.tabAt hg
    obtain ⟨ow, s1, vw, rfl, rw_⟩ := hs1.sl.get hw
    obtain ⟨oy, s2, vy, rfl, ry⟩ := hs1.sl.get hy
    have rw1 : Dq G.K F1 vw (.tuple (ws.map enc)) := rw_
    cases rw1 with
    | tup hqt hat =>
      rw [dqAll_strs hat] at hqt
      have ry1 : Dq G.K F1 vy (.str ⟨y.toArray⟩) := ry
      cases ry1
      refine ⟨l, xs, _, ws.map sx, sx y, rows, rfl, sql_same hs1.w.fh hq, ⟨s1, sqt_same hs1.w.fh hqt, s2, by rw [List.length_map]; exact z1, fun z hz => ?_⟩, by rw [List.length_map]; exact z4, z3, ⟨hp, ok, fun ps u hu => ?_⟩, fun H2 md p hn => ?_⟩
      · obtain ⟨w, hw1, rfl⟩ := List.mem_map.1 hz
        exact z2 w hw1
      · obtain ⟨c, q1, q2⟩ := cs ps u hu
        exact ⟨c, q1, hs1.w.fh _ _ q2⟩
      · obtain ⟨F2, hs2, e2⟩ := hs1.made hO hg hp md
        have es : (xs.mergeSort fun i j => decide (TyL.keyOf (ws.map sx) (sx y) k i ≤ TyL.keyOf (ws.map sx) (sx y) k j)) = sortL ws y kt xs := by
          unfold sortL
          subst hk
          congr 1
          funext i j
          rw [keyL_of, keyL_of]
        rw [es]
        obtain ⟨hs4, nw⟩ := hs_newlist (vs := (sortL ws y kt xs).map V.int) hs2 hn
        exact q2 p _ _ _ hs4 (Same.trans e1 e2) nw upd_same (dqAll_of_ints _))
end
/-! ### calls -/
section
variable {ρ τ : Type} [iρ : Rp G ρ]
def SpT (G : Glob) {ρ τ : Type} [Rp G ρ] (tp : Addr) (nm : Str) (ra : τ → List V → Hp → Prop) (f : τ → Prog ρ) : Sp := fun vs H Q E => ∃ F u x, F tp = none ∧ H tp = some u ∧ (tabR nm).R F tp u ∧ Same F H ∧ ra x vs F ∧
  wp (f x) (fun q => ∀ v F' H' u', W (.slf F H tp E) F' H' → Rp.rp (G := G) q v F' → F' tp = none → H' tp = some u' → (tabR nm).R F' tp u' → Q v H') (EP G (.slf F H tp E))
def JRT (G : Glob) {ρ : Type} [Rp G ρ] (N : NN) (tp : Addr) (nm : Str) : Aim ρ := ⟨fun _ r D => ∀ v F' H' u, W N F' H' → Rp.rp (G := G) r v F' → F' tp = none → H' tp = some u → (tabR nm).R F' tp u → D.rt v H', fun _ h => h⟩
variable {α β γ δ : Type} [iα : Rp G α] [iβ : Rp G β] [iγ : Rp G γ] [iδ : Rp G δ] {N : NN} {Γ : Env G} {te ta tb tc td : TE} {t : TA} {tz : TS} {tp : Addr} {nm : Str} {b : Bool}
theorem jrt_ret : (JRT (ρ := ρ) G N tp nm).Ret := fun F r D D' e h v F' H' u x1 x2 x3 x4 x5 => e ▸ h v F' H' u x1 x2 x3 x4 x5
theorem sv_retT {m : Prog ρ} (g : Nat) (hi : Γ[g]? = some (.gen (pinR tp (tabR nm)) b)) (h : EV N Γ te m) : SV N Γ (tSeq (tRet te) tz) (JRT G N tp nm) m := fun σ F H D hs q =>
  h σ F H hs _ (wp_mono q fun x k v F1 H1 hs1 e1 r1 => by
    obtain ⟨p, u, e0, m0, hb, hp, ⟨z, d⟩, _⟩ := hs1.genAt hi
    subst z
    exact k v F1 H1 u hs1.w r1 m0.f hp d)
theorem sv_retTF {βs : Type} {Jn : Aim βs} {m : Prog ρ} (g : Nat) (hi : Γ[g]? = some (.gen (pinR tp (tabR nm)) b)) (h : EV N Γ te m) : SV N Γ (tSeq (tRet te) tz) (JF Jn (JRT G N tp nm)) (m >>= fun r => .ok (.rt r)) := fun σ F H D hs q =>
  h σ F H hs _ (wp_mono (wp_bind.1 q) fun x k v F1 H1 hs1 e1 r1 => by
    obtain ⟨p, u, e0, m0, hb, hp, ⟨z, d⟩, _⟩ := hs1.genAt hi
    subst z
    exact k v F1 H1 u hs1.w r1 m0.f hp d)
theorem ev_callT {ra : τ → List V → Hp → Prop} {f : τ → Prog ρ} {m : Prog τ} (g : Nat) (hO : ∀ a, N.O a = none) (hi : Γ[g]? = some (.gen (pinR tp (tabR nm)) b)) (h : EVA N Γ t m ra) : EV N Γ (tCall (SpT G tp nm ra f) [] N.E t) (m >>= f) := fun σ F H hs Q q =>
  h σ F H hs _ (wp_mono (wp_bind.1 q) fun x q1 vs F1 H1 hs1 e1 r1 => by
    obtain ⟨p, u, e0, m1, hb1, hp1, ⟨z, d1⟩, _⟩ := hs1.genAt hi
    subst z
    refine ⟨F1, u, x, m1.f, hp1, d1, hs1.w.fh, by rw [List.append_nil]; exact r1, wp_imp q1 (fun r k v F' H' u2 w2 rr fp hp2 d2 => ?_) fun e he => ep_slf hs1 hO m1 e he⟩
    obtain ⟨h2, e2, m2⟩ := (hs1.dead g).callI hO m1 hp1 (hs1.notHeld hi rfl e0) w2 fp hp2
    have h3 := h2.own (e := .gen (pinR p (tabR nm)) b) g (hs1.notHeld hi rfl e0) ⟨p, u2, rfl, m2, hb1, hp2, rfl, d2⟩
    have eΓ : Γ.set g (.gen (pinR p (tabR nm)) b) = Γ := by
      apply List.ext_getElem?
      intro j
      by_cases hj : g = j
      · subst hj; rw [List.getElem?_set_self (List.getElem?_eq_some_iff.1 hi).1, hi]
      · rw [List.getElem?_set_ne hj]
    rw [List.set_set, eΓ, set_id e0] at h3
    exact k v F' H' h3 (Same.trans e1 e2) rr)
abbrev SpT1 (G : Glob) (tp : Addr) (nm : Str) (α : Type) [Rp G α] (f : α → Prog ρ) [Rp G ρ] : Sp := SpT G tp nm (raC (G := G) α ra0) (fun p => f p.1)
abbrev SpT2 (G : Glob) (tp : Addr) (nm : Str) (α β : Type) [Rp G α] [Rp G β] (f : α → β → Prog ρ) [Rp G ρ] : Sp := SpT G tp nm (raC (G := G) α (raC (G := G) β ra0)) (fun p => f p.1 p.2.1)
abbrev SpT3 (G : Glob) (tp : Addr) (nm : Str) (α β γ : Type) [Rp G α] [Rp G β] [Rp G γ] (f : α → β → γ → Prog ρ) [Rp G ρ] : Sp := SpT G tp nm (raC (G := G) α (raC (G := G) β (raC (G := G) γ ra0))) (fun p => f p.1 p.2.1 p.2.2.1)
abbrev SpT4 (G : Glob) (tp : Addr) (nm : Str) (α β γ δ : Type) [Rp G α] [Rp G β] [Rp G γ] [Rp G δ] (f : α → β → γ → δ → Prog ρ) [Rp G ρ] : Sp := SpT G tp nm (raC (G := G) α (raC (G := G) β (raC (G := G) γ (raC (G := G) δ ra0)))) (fun p => f p.1 p.2.1 p.2.2.1 p.2.2.2.1)
variable {m1 : Prog α} {m2 : Prog β} {m3 : Prog γ} {m4 : Prog δ}
theorem ev_callT1 {f : α → Prog ρ} (g : Nat) (hO : ∀ a, N.O a = none) (hi : Γ[g]? = some (.gen (pinR tp (tabR nm)) b)) (h1 : EV N Γ ta m1) : EV N Γ (tCall (SpT1 G tp nm α f) [] N.E (tCons ta tNil)) (m1 >>= fun a => f a) := by
  have h := ev_callT (f := fun p : α × Unit => f p.1) g hO hi (eva1 h1)
  simp only [bind_bind, ok_bind] at h
  exact h
theorem ev_callT2 {f : α → β → Prog ρ} (g : Nat) (hO : ∀ a, N.O a = none) (hi : Γ[g]? = some (.gen (pinR tp (tabR nm)) b)) (h1 : EV N Γ ta m1) (h2 : EV N Γ tb m2) : EV N Γ (tCall (SpT2 G tp nm α β f) [] N.E (tCons ta (tCons tb tNil))) (m1 >>= fun a => m2 >>= fun b => f a b) := by
  have h := ev_callT (f := fun p : α × β × Unit => f p.1 p.2.1) g hO hi (eva2 h1 h2)
  simp only [bind_bind, ok_bind] at h
  exact h
theorem ev_callT3 {f : α → β → γ → Prog ρ} (g : Nat) (hO : ∀ a, N.O a = none) (hi : Γ[g]? = some (.gen (pinR tp (tabR nm)) b)) (h1 : EV N Γ ta m1) (h2 : EV N Γ tb m2) (h3 : EV N Γ tc m3) : EV N Γ (tCall (SpT3 G tp nm α β γ f) [] N.E (tCons ta (tCons tb (tCons tc tNil)))) (m1 >>= fun a => m2 >>= fun b => m3 >>= fun c => f a b c) := by
  have h := ev_callT (f := fun p : α × β × γ × Unit => f p.1 p.2.1 p.2.2.1) g hO hi (eva3 h1 h2 h3)
  simp only [bind_bind, ok_bind] at h
  exact h
theorem ev_callT4 {f : α → β → γ → δ → Prog ρ} (g : Nat) (hO : ∀ a, N.O a = none) (hi : Γ[g]? = some (.gen (pinR tp (tabR nm)) b)) (h1 : EV N Γ ta m1) (h2 : EV N Γ tb m2) (h3 : EV N Γ tc m3) (h4 : EV N Γ td m4) : EV N Γ (tCall (SpT4 G tp nm α β γ δ f) [] N.E (tCons ta (tCons tb (tCons tc (tCons td tNil))))) (m1 >>= fun a => m2 >>= fun b => m3 >>= fun c => m4 >>= fun d => f a b c d) := by
  have h := ev_callT (f := fun p : α × β × γ × δ × Unit => f p.1 p.2.1 p.2.2.1 p.2.2.2.1) g hO hi (eva4 h1 h2 h3 h4)
  simp only [bind_bind, ok_bind] at h
  exact h
end
/-! ### a def with a ghost slot -/
section
variable {P : Program} {w : World} {mg : Str → Option Value} {base : Heap} {ρ τ : Type} [iρ : Rp G ρ]
theorem fn_okT {x qual : Str} {st : Stmt} {f tp : Addr} {nm gn : Str} {fd : FuncData} {Ns ps : List Str} {k : Nat} {ra : τ → List V → Hp → Prop} {g : τ → Prog ρ} (Fu : Fun G.K x qual st f fd) (Sc : FnScope Ns ps (defScope st)) (n : Nat) (hn : Ns[n]? = some gn) (hv : ¬ Vis (defScope st) gn) (Γ0 : τ → Env G)
    (len : ∀ a vs F, ra a vs F → vs.length = ps.length) (h0 : ∀ (a : τ) vs F H (N : NN) u, MineI N F tp → H tp = some u → (tabR nm).R F tp u → ra a vs F → Slots N F H (Γ0 a) ((start Ns vs).set n (some (.ref tp)))) (nown : ∀ (x : τ) (j : Nat) e, (Γ0 x)[j]? = some e → e.own = true → j = n)
    (hbody : ∀ (cdv : Value) (A : Around) (outer : List PySem.Env) (s : Shared) (H F : Hp) (E : XK), fd.code = cdv → Room k (A.deeper (envOfC qual (defScope st) s.heap.objs.size f cdv)) →
      ∃ t, PSs (cxOf (L2.CX P w) P w G.K mg base Ns qual (defScope st) f cdv A outer s H E) (defBody st) t ∧ ∀ a : τ, SV (.slf F H tp E) (Γ0 a) t (JRT G (.slf F H tp E) tp nm) (g a)) : FnOk P w G.K mg base (L2.CX P w) (k + 1) f fd ps (SpT G tp nm ra g) := by
  obtain ⟨oc, od, kV, doc, pm, an, cdv, ct, osl, efd, lk, hcd⟩ := Fu.ex
  subst efd
  refine fn_of lk hcd Sc (fun vs H Q E ⟨F, u, a, _, _, _, _, h, _⟩ => len a vs F h) fun A outer s H vs Q E hr ⟨F, u, a, fp, hp, d, e, h, q⟩ => ?_
  obtain ⟨t, hP, hv2⟩ := hbody cdv A outer s H F E rfl hr
  refine ⟨_, pss_ghost (i := n) (x := gn) (.ref tp) hn hv hP, ?_⟩
  exact hv2 a _ F H _ ⟨⟨e, Same.refl F, fun a o h => .inl h, fun a o _ h => h, fun a h => h, fun p c h => (nomatch h), fun p c h => (nomatch h), fun a o h => (nomatch h)⟩, h0 a vs F H _ u ⟨fp, .inr rfl, fun q c h => (nomatch h)⟩ hp d h, fun i j e e' p' h1 h2 o1 o2 _ _ => by rw [nown a i e h1 o1, nown a j e' h2 o2]⟩ (wp_mono q fun r k v F' H' u' w1 w2 w3 w4 w5 => k v F' H' u' w1 w2 w3 w4 w5)
end
/-! ### the law -/
def SpLawT (K : PySem.W.Frag) (tp : Addr) : Sp := fun vs H Q _ => ∃ (a : Addr) (ns : List Int), vs = [.ref a] ∧ SqL K H a (ns.map V.int) ∧ ns.length ≤ 63 ∧ H tp = some (.tbl #[]) ∧ ∀ H', Q (.bl true) H'
def NN.law (p c : Addr) (E : XK) : NN := NN.src (fun _ => none) (fun _ => none) p c E
theorem hs_lawT {Γ : Env G} {σ : L2.St} {H' : Hp} {p c : Addr} {E : XK} {st : Int} {ns : List Int} {n : Nat} (e1 : H' p = some (.lst [.int st, .ref c, .int 0, .int 14])) (e2 : H' c = some (.lst (ns.map V.int))) (ne : p ≠ c) (hl : ns.length ≤ 64) (sl : ∀ N : NN, N.S = some (p, c) → N.H0 = (fun _ => none) → Slots N (fun _ => none) H' Γ σ) (nown : ∀ (j : Nat) e, Γ[j]? = some e → e.own = true → j = n) : HS (NN.law p c E) Γ σ (fun _ => none) H' :=
  ⟨⟨fun a u z => (nomatch z), Same.refl _, fun a o z => (nomatch z), fun a o _ z => (nomatch z), fun a z => rfl, fun p' c' z => by cases z; exact ⟨rfl, rfl, ne, st, 0, ns, e1, e2, hl⟩, fun p' c' z => by cases z; exact ⟨.inl rfl, .inl rfl⟩, fun a o z => (nomatch z)⟩, sl _ rfl rfl, fun i j e e' q h1 h2 o1 o2 _ _ => by rw [nown i e h1 o1, nown j e' h2 o2]⟩
end Ty
/-! ### the top -/
namespace TyL
open PySem PySem.Spec PyProof.Rows L2 LamX
/-- the code object of a def of the top and its table, which stands outside K -/
def outB (K : PySem.W.Frag) (x : Str) : Bool := match PySem.W.tabIn K x with
  | some (_, P) => (K.lookup P).isNone
  | none => false
theorem outB_of {K : PySem.W.Frag} {x : Str} (h : outB K x = true) : ∃ c P, PySem.W.tabIn K x = some (c, P) ∧ K.lookup P = none := by
  unfold outB at h
  split at h
  · rename_i c P e
    exact ⟨c, P, e, by simpa using h⟩
  · cases h
theorem walk_ofTT {l : PySem.W.OpenLaw} {n k : Nat} {q : Program} {loose : List Str} {XP : (Str → Option Value) → Heap → Prop} {YP : World → Heap → Prop} {d dz : DefRec} {K : Params → PySem.W.Frag} {CX : World → CXT} {x z : Str} (hz : (recsOf q).find? (fun e => e.name == z) = some dz)
    (hn : l.most = some n) (hn2 : n ≤ sizeLine) (hdf : d.params.defaults = []) (hr : Room k callerA) (hY : ∀ (w : World) (h : Heap), YP w h → (K w.params).In h)
    (F : ∀ (w : World) (mg : Str → Option Value) (fa : Addr) (h : Heap), (K w.params).In h → h.Ns mainGlobals mg → mg d.name = some (.ref fa) → (∀ c P, PySem.W.tabIn (K w.params) z = some (c, P) → PySem.W.CodeHd h c P ∧ h.get? P = some (PySem.W.tabObj #[])) → LawAtS l w (K w.params) (CX w) k n x mg fa h)
    (hCX : ∀ (w : World) (H : Hp) (s : Shared) (e : Value) (s' : Shared), CX w [] H s (fun _ _ _ => False) e s' → False) :
    PySem.W.WalkO q loose XP YP l.row.toRowW d [] (fun f vs => PySem.call f vs) := by
  refine Att.attach_callB hn hdf fun w s₀ s₁ mg mb fa o pm cd doc a vs ns G Y ho hd hcd hmg hobj hints hlen hbits hg => ?_
  have KX := hY w _ Y
  obtain ⟨fd, cs, sp, hT, nT, C, hb, hsp, hF⟩ := F w mg fa _ KX G.T.g hmg fun c P e => PySem.W.tab_of G.T KX hz e
  exact law_callTs KX G.T.g G.T.b G.T.builtins G.T.nolimit hg hT nT C G.T.bmain hobj hints (Nat.le_trans hlen hn2) hr hF hb (fun H hH hS => hsp H a ns hlen hbits hH hS) fun H e s' => hCX w H s₁ e s'
end TyL

/-! t[::-1] of a tuple; l.index(n) of a list of ints -/
namespace TyL
open PySem PySem.Spec PyProof.Rows L2 HT
section
variable {prog : Program} {w : World} {A : Around} {E : Value → Shared → Prop} {s : Shared}
theorem rev_pick (xs : Array Value) : ((List.range xs.size).filterMap fun (m : Nat) => xs[(((xs.size : Int) - 1) + (m : Int) * (-1)).toNat]?).toArray = xs.toList.reverse.toArray := by
  have key : ∀ k : Nat, k ≤ xs.size → ((List.range k).filterMap fun (m : Nat) => xs[(((xs.size : Int) - 1) + (m : Int) * (-1)).toNat]?) = (xs.toList.drop (xs.size - k)).reverse := by
    intro k
    induction k with
    | zero =>
      intro _
      have : xs.size = xs.toList.length := by simp
      rw [Nat.sub_zero, this, List.drop_length]
      rfl
    | succ k ih =>
      intro hk
      have e1 : (((xs.size : Int) - 1) + (k : Int) * (-1)).toNat = xs.size - (k + 1) := by omega
      have hlt : xs.size - (k + 1) < xs.toList.length := by simp; omega
      have e2 : xs[xs.size - (k + 1)]? = some xs.toList[xs.size - (k + 1)] := by
        rw [← Array.getElem?_toList, List.getElem?_eq_getElem hlt]
      rw [List.range_succ, List.filterMap_append, ih (by omega)]
      have e3 : (List.filterMap (fun (m : Nat) => xs[(((xs.size : Int) - 1) + (m : Int) * (-1)).toNat]?) [k]) = [xs.toList[xs.size - (k + 1)]] := by
        rw [List.filterMap_cons]
        rw [e1, e2]
        rfl
      rw [e3, List.drop_eq_getElem_cons hlt, List.reverse_cons]
      have e4 : xs.size - (k + 1) + 1 = xs.size - k := by omega
      rw [e4]
  have h := key xs.size (Nat.le_refl _)
  rw [Nat.sub_self, List.drop_zero] at h
  rw [h]
theorem adjust_rev (n : Nat) : Builtin.Slice.sliceAdjust none none (-1) (n : Int) = ((n : Int) - 1, -1) := rfl
theorem places_rev (n : Nat) : Builtin.Slice.slicePlaces ((n : Int) - 1) (-1) (-1) = n := by
  unfold Builtin.Slice.slicePlaces
  rw [if_neg (by decide)]
  by_cases h : (n : Int) - 1 > -1
  · rw [if_pos h]
    have : ((n : Int) - 1 - (-1) - 1) / (- (-1)) + 1 = n := by
      rw [show (-(-1 : Int)) = 1 by rfl, Int.ediv_one]; omega
    rw [this]; rfl
  · rw [if_neg h]
    have : n = 0 := by omega
    rw [this]; rfl
theorem sliceApplied_rev {sl : Addr} {vl vu vs : Value} {n : Nat} {Q : Int × Int × Nat → Shared → Prop} (hs : s.heap.IsSliceOf sl vl vu vs) (pl : IsPart vl none) (pu : IsPart vu none) (ps : IsPart vs (some (-1)))
    (h : Q ((n : Int) - 1, -1, n) s) : wpAny (model prog w) A (Builtin.Slice.sliceApplied (.ref sl) (pure (n : Int))) Q E s := by
  obtain ⟨os, hos, hcs, hds⟩ := id hs
  unfold Builtin.Slice.sliceApplied Builtin.Slice.sliceFields
  refine wpAny_bind (wpAny_bind (wpAny_field hos hds (x := vl) rfl (wpAny_bind (wpAny_field hos hds (x := vu) rfl (wpAny_bind (wpAny_field hos hds (x := vs) rfl (wpAny_pure ?_)))))))
  refine wpAny_bind (slicePart_ ps ?_)
  show wpAny _ _ (if ((-1 : Int) == 0) = true then _ else _) _ _ s
  rw [if_neg (by decide)]
  refine wpAny_bind (slicePart_ pl (wpAny_bind (slicePart_ pu (wpAny_bind (wpAny_pure ?_)))))
  show wpAny _ _ (match Builtin.Slice.sliceAdjust none none (-1) (n : Int) with | (lo, hi) => pure (lo, (-1 : Int), Builtin.Slice.slicePlaces lo hi (-1))) _ _ s
  rw [adjust_rev]
  show wpAny _ _ (pure ((n : Int) - 1, (-1 : Int), Builtin.Slice.slicePlaces ((n : Int) - 1) (-1) (-1))) _ _ s
  rw [places_rev]
  exact wpAny_pure h
theorem getItem_tuple_rev {t sl : Addr} {items : Array Value} {vl vu vs : Value} {Q : Value → Shared → Prop} (ht : IsTup s.heap t items) (hs : s.heap.IsSliceOf sl vl vu vs) (pl : IsPart vl none) (pu : IsPart vu none) (ps : IsPart vs (some (-1)))
    (h : Q (.ref s.heap.objs.size) { s with heap := s.heap.push { cls := .type "tuple", data := .seq items.toList.reverse.toArray } })
    (hsz : items.size ≤ sizeLine) : wpAny (model prog w) A (getItem (.ref t) (.ref sl)) Q E s := by
  have htake : sizeOk (.seq items.toList.reverse.toArray) := by
    show items.toList.reverse.toArray.size ≤ sizeLine
    rw [List.size_toArray, List.length_reverse, Array.length_toList]
    exact hsz
  obtain ⟨os, hos, hcs, hds⟩ := id hs
  have hTs : s.TypeIs (.ref sl) "slice" := ⟨os, hos, hcs⟩
  unfold getItem
  try with_reducible refine wpAny_holding ?_
  first | refine wpAny_bind (wpAny_pure ?_) | skip
  refine wpAny_bind (wpAny_sequenceKey ht.typeIs (by decide) ?_)
  refine wpAny_bind (wpAny_callSpecial?_slot (name := Str.ofString "__getitem__") ht.typeIs PyProof.Rows.slot_tuple_getitem
    (wpAny_call_entry PyProof.Rows.slot_tuple_getitem ht.typeIs entry_tuple_getitem ?_ (args_tuple_getitem _ _)))
  show wpAny _ _ (Builtin.Tuple.tupleItemsOf (.ref t) >>= _) _ _ s
  refine wpAny_bind (tupleItemsOf_ ht ?_)
  refine wpAny_bind (wpAny_typeOf hTs ?_)
  rw [if_pos (by decide)]
  refine wpAny_bind (sliceApplied_rev (n := items.size) hs pl pu ps ?_)
  have hno : ¬ ((((items.size : Int) - 1) == 0 && (-1 : Int) == 1 && items.size == items.size) = true) := by
    intro q
    rw [Bool.and_eq_true, Bool.and_eq_true] at q
    exact absurd q.1.2 (by decide)
  show wpAny _ _ (if (((items.size : Int) - 1) == 0 && (-1 : Int) == 1 && items.size == items.size) = true then _ else _) _ _ s
  rw [if_neg hno, rev_pick]
  first
    | exact wpAny_bind (m := Builtin.Tuple.tupleExact _) (wpAny_newObj_type (wpAny_pure ⟨_, rfl, wpAny_pure h⟩) htake)
    | exact wpAny_bind (m := Builtin.Tuple.tupleExact _) (wpAny_newObj_type (wpAny_bind (wpAny_pure (wpAny_pure ⟨_, rfl, wpAny_pure h⟩))) htake)
    | exact wpAny_bind (wpAny_bind (m := Builtin.Tuple.tupleExact _) (wpAny_newObj_type (wpAny_pure (wpAny_pure ⟨_, rfl, wpAny_pure h⟩)) htake))
    | exact wpAny_bind (wpAny_bind (m := Builtin.Tuple.tupleExact _) (wpAny_newObj_type (wpAny_pure ⟨_, rfl, wpAny_pure h⟩) htake))
end
theorem free_ok {N M : List (Str × NameKind)} (h : (N.all fun z => z.2 != .free || M.lookup z.1 == some .cell) = true) : ∀ z ∈ N, z.2 = .free → M.lookup z.1 = some .cell := fun z hz e => by
  have h1 := List.all_eq_true.1 h z hz
  rw [e] at h1
  simpa using h1
section
variable {X : Cx}
def tRevT (K : PySem.W.Frag) (te : TE) : TE := fun σ H Q => te σ H fun x H1 => ∃ a xs, x = .ref a ∧ SqT K H1 a xs ∧ ∀ p, H1 p = none → Q (.ref p) (upd H1 p (.tup xs.reverse))
theorem pe_revT {e : Expr} {te : TE} {k : Nat} {p1 p2 p3 pos : Pos} (he : PE X e te) : PE X (.Subscript e (.Slice none none (some (.UnaryOp .USub (.Constant (.int 1) k p1) p2)) p3) pos) (tRevT X.K te) := by
  refine ⟨fun pins s σ H Q I h => ?_⟩
  refine Subscript_ (thn (he.run pins s σ H _ I h) fun v s1 ⟨x, H1, I1, r1, q1⟩ => ?_)
  obtain ⟨a, xs, ex, hx, q⟩ := q1
  subst ex
  cases r1
  have hst : PO X (some (.UnaryOp .USub (.Constant (.int 1) k p1) p2)) (tPart (tUn (rU fun i => .int (-i)) (tC (.int 1)))) := po_some (pe_un un_neg pe_int)
  refine wpAny_Slice (thn (po_none.run pins s1 σ H1 (fun o H2 => o = none ∧ H2 = H1) I1 ⟨rfl, rfl⟩) fun vl s2 ⟨l, H2, I2, pl, el, e2⟩ => ?_)
  subst el e2
  refine thn (po_none.run pins s2 σ H2 (fun o H3 => o = none ∧ H3 = H2) I2 ⟨rfl, rfl⟩) fun vu s3 ⟨u, H3, I3, pu, eu, e3⟩ => ?_
  subst eu e3
  refine thn (hst.run pins s3 σ H3 (fun o H4 => o = some (-1) ∧ H4 = H3) I3 ⟨1, rfl, -1, rfl, rfl, rfl⟩) fun vs s4 ⟨o, H4, I4, ps, eo, e4⟩ => ?_
  subst eo e4
  have I5 : Inv X pins σ H4 { s4 with heap := s4.heap.push { cls := .type "slice", data := .fields #[vl, vu, vs] } } := I4.kept (t' := s4.toks) fun b ob q => Heap.get?_push_of_some _ q
  obtain ⟨its, r, ht, hz⟩ := I5.tuple hx
  have hlen := r.length
  show wpAny (model X.prog X.w) X.A (subscriptTail e (.Slice none none (some (.UnaryOp .USub (.Constant (.int 1) k p1) p2)) p3) (.ref a) (.ref s4.heap.objs.size)) (EP X pins σ Q) X.xe { s4 with heap := s4.heap.push { cls := .type "slice", data := .fields #[vl, vu, vs] } }
  refine tail_any (ops := [.ref a, .ref s4.heap.objs.size]) ht.typeIs (PyProof.Rows.slot_tuple_getitem.lookup) ?_ (by with_unfolding_all rfl)
  refine getItem_tuple_rev ht (Heap.IsSliceOf.new _ vl vu vs) pl pu ps ?_ (by rw [List.size_toArray]; omega)
  refine ⟨.ref _, _, I5.laid (t' := s4.toks) (o := .tup xs.reverse) (fun b ob q => Heap.get?_push_of_some _ q) (Nat.le_refl _) ?_, rfl, q _ (I5.hok.fresh (Nat.le_refl _))⟩
  exact ⟨by rw [List.length_reverse]; exact hz, _, r.reverse, IsTup.new _ _⟩
end
end TyL
namespace Ty
open PySem PySem.Spec PyProof.Rows L2
open Enc (enc)
section
variable {G : Glob} {α β : Type} [Enc α] [Enc β] {N : NN} {Γ : Env G} {ta tb te : TE}
theorem dqAll_rev {K : PySem.W.Frag} {F : Hp} : ∀ {ds : List PyData} {vs : List V}, DqAll K F vs ds → DqAll K F vs.reverse ds.reverse
  | [], _, h => by cases h; exact .nil
  | d :: ds, _, h => by
    cases h with
    | cons h1 h2 => rw [List.reverse_cons, List.reverse_cons]; exact dpAll_append (dqAll_rev h2) (.cons h1 .nil)
theorem ev_revT {m : Prog (List α)} (h : EV N Γ te m) : EV N Γ (TyL.tRevT G.K te) (m >>= fun xs => .ok xs.reverse) := fun σ F H hs Q q =>
  h σ F H hs _ (wp_mono (wp_bind.1 q) fun xs q1 v F1 H1 hs1 e1 r1 => by
    have r2 : Dq G.K F1 v (.tuple (xs.map enc)) := r1
    cases r2 with
    | tup hq ha =>
      refine ⟨_, _, rfl, sqt_same hs1.w.fh hq, fun p hp => ?_⟩
      obtain ⟨hs2, e2⟩ := hs1.laid (o := .tup _) hp
      refine q1 _ _ _ hs2 (Same.trans e1 e2) ?_
      show Dq G.K _ _ (.tuple (xs.reverse.map enc))
      rw [List.map_reverse]
      exact .tup (.inl (.inl upd_same)) (dpAll_same e2 _ _ (dqAll_rev ha)))
/-- the first place of n in a list -/
def idxP (xs : List Int) (n : Int) : Prog Int := if n ∈ xs then .ok (xs.idxOf n : Nat) else .stuck
theorem idx_first {n : Int} : ∀ {xs : List Int}, n ∈ xs → xs[xs.idxOf n]? = some n ∧ ∀ (m : Nat) (z : Int), m < xs.idxOf n → xs[m]? = some z → z ≠ n
  | [], h => by cases h
  | x :: xs, h => by
    by_cases e : x = n
    · subst e
      rw [List.idxOf_cons_self]
      exact ⟨rfl, fun m z hm _ => by omega⟩
    · have e2 : (x :: xs).idxOf n = xs.idxOf n + 1 := by rw [List.idxOf_cons, show (x == n) = false from beq_eq_false_iff_ne.2 e]; rfl
      rw [e2]
      obtain ⟨h1, h2⟩ := idx_first (xs := xs) (by
        rcases List.mem_cons.1 h with z | z
        · exact absurd z.symm e
        · exact z)
      refine ⟨h1, fun m z hm hz => ?_⟩
      cases m with
      | zero => cases hz; exact e
      | succ m => exact h2 m z (by omega) hz
theorem ev_indexL {m1 : Prog (L Int)} {m2 : Prog Int} (h1 : EV N Γ ta m1) (h2 : EV N Γ tb m2) : EV N Γ (tBM G.K "list" (rIndex G.K) ta (tCons tb tNil)) (m1 >>= fun (xs : List Int) => m2 >>= fun n => idxP xs n) := fun σ F H hs Q q =>
  h1 σ F H hs _ (wp_mono (wp_bind.1 q) fun (xs : List Int) q1 v F1 H1 hs1 e1 r1 => by
    obtain ⟨l, rfl, hq⟩ := dp_lst (α := Int) (xs := xs) r1
    refine ⟨.inl ⟨rfl, _, sql_same hs1.w.fh hq⟩, h2 σ F1 H1 hs1 _ (wp_mono (wp_bind.1 q1) fun n q2 y F2 H2 hs2 e2 r2 => ?_)⟩
    unfold idxP at q2
    by_cases hn : n ∈ xs
    · rw [if_pos hn] at q2
      obtain ⟨k1, k2⟩ := idx_first hn
      have ry : Dq G.K F2 y (.int n) := r2
      cases ry
      refine ⟨l, xs.map V.int, .int n, xs.idxOf n, .int n, rfl, rfl, sql_same (Same.trans e2 hs2.w.fh) hq, rfl, all_flat xs, by rw [List.getElem?_map, k1]; rfl, (Scl.ev n n).2 rfl, fun m z hm hz => ?_, ?_⟩
      · rw [List.getElem?_map] at hz
        cases e : xs[m]? with
        | none => rw [e] at hz; cases hz
        | some z' =>
          rw [e] at hz
          cases hz
          cases b : eqV (V.int z') (V.int n) with
          | false => rfl
          | true => exact absurd ((Scl.ev z' n).1 b) (k2 m z' hm e)
      · exact q2 _ F2 H2 hs2 (Same.trans e1 e2) (.int _)
    · rw [if_neg hn] at q2
      exact q2.elim)
end
end Ty

/-! rows of words that read alike, in plain Lean -/
namespace PL
open PySem PySem.Spec PyProof.Rows L2 Ty
section
variable {α : Type} {ws : List (List α)}
def Wds (ws xs : List (List α)) : Prop := ∀ x ∈ xs, x ∈ ws
theorem Wds.nil : Wds ws [] := fun x h => by cases h
theorem Wds.cons {a : List α} {xs : List (List α)} (h : a ∈ ws) (hs : Wds ws xs) : Wds ws (a :: xs) := fun x m => by
  rcases List.mem_cons.1 m with e | e
  · rw [e]; exact h
  · exact hs x e
theorem Wds.snoc {a : List α} {xs : List (List α)} (h : a ∈ ws) (hs : Wds ws xs) : Wds ws (xs ++ [a]) := fun x m => by
  rcases List.mem_append.1 m with e | e
  · exact hs x e
  · rw [List.mem_singleton.1 e]; exact h
theorem Wds.tl {a : List α} {xs : List (List α)} (hs : Wds ws (a :: xs)) : Wds ws xs := fun x m => hs x (List.mem_cons_of_mem _ m)
theorem Wds.hd {a : List α} {xs : List (List α)} (hs : Wds ws (a :: xs)) : a ∈ ws := hs a List.mem_cons_self
/-- two rows of words that read alike -/
def Dbl (ws : List (List α)) : Prop := ∃ xs ys, Wds ws xs ∧ Wds ws ys ∧ xs ≠ ys ∧ xs.flatten = ys.flatten
/-- the same, with first words apart -/
def Dbl2 (ws : List (List α)) : Prop := ∃ a b xs ys, a ∈ ws ∧ b ∈ ws ∧ a ≠ b ∧ Wds ws xs ∧ Wds ws ys ∧ a ++ xs.flatten = b ++ ys.flatten
theorem dbl2_of (hne : ∀ w ∈ ws, w ≠ []) : ∀ {xs ys : List (List α)}, Wds ws xs → Wds ws ys → xs ≠ ys → xs.flatten = ys.flatten → Dbl2 ws
  | [], [], _, _, h, _ => absurd rfl h
  | [], y :: ys, _, hy, _, e => by
    have : y ++ ys.flatten = [] := by simpa using e.symm
    exact absurd (List.append_eq_nil_iff.1 this).1 (hne y hy.hd)
  | x :: xs, [], hx, _, _, e => by
    have : x ++ xs.flatten = [] := by simpa using e
    exact absurd (List.append_eq_nil_iff.1 this).1 (hne x hx.hd)
  | x :: xs, y :: ys, hx, hy, h, e => by
    have e' : x ++ xs.flatten = y ++ ys.flatten := by simpa using e
    by_cases k : x = y
    · subst k
      exact dbl2_of hne hx.tl hy.tl (fun z => h (by rw [z])) (List.append_cancel_left e')
    · exact ⟨x, y, xs, ys, hx.hd, hy.hd, k, hx.tl, hy.tl, e'⟩
theorem dbl_iff (hne : ∀ w ∈ ws, w ≠ []) : Dbl ws ↔ Dbl2 ws := by
  constructor
  · rintro ⟨xs, ys, hx, hy, h, e⟩
    exact dbl2_of hne hx hy h e
  · rintro ⟨a, b, xs, ys, ha, hb, h, hx, hy, e⟩
    exact ⟨a :: xs, b :: ys, hx.cons ha, hy.cons hb, fun z => h (List.cons.inj z).1, by simpa using e⟩
/-- what is left over -/
inductive Left (ws : List (List α)) : List α → Prop
  | base {a b t : List α} : a ∈ ws → b ∈ ws → a ≠ b → b = a ++ t → Left ws t
  | up {r w t : List α} : Left ws r → r ≠ [] → w ∈ ws → w = r ++ t → Left ws t
  | dn {r w t : List α} : Left ws r → r ≠ [] → w ∈ ws → r = w ++ t → Left ws t
theorem left_inv {t : List α} (h : Left ws t) : ∃ a b xs ys, a ∈ ws ∧ b ∈ ws ∧ a ≠ b ∧ Wds ws xs ∧ Wds ws ys ∧ a ++ xs.flatten ++ t = b ++ ys.flatten := by
  induction h with
  | @base a b t ha hb hab e => exact ⟨a, b, [], [], ha, hb, hab, .nil, .nil, by simp [e]⟩
  | @up r w t _ hr hw e ih =>
    obtain ⟨a, b, xs, ys, ha, hb, hab, hx, hy, k⟩ := ih
    exact ⟨b, a, ys, xs ++ [w], hb, ha, Ne.symm hab, hy, hx.snoc hw, by rw [← k]; simp [e]⟩
  | @dn r w t _ hr hw e ih =>
    obtain ⟨a, b, xs, ys, ha, hb, hab, hx, hy, k⟩ := ih
    exact ⟨a, b, xs ++ [w], ys, ha, hb, hab, hx.snoc hw, hy, by rw [← k]; simp [e]⟩
theorem left_run : ∀ (n : Nat) {xs ys : List (List α)} {t : List α}, xs.length + ys.length ≤ n → Left ws t → Wds ws xs → Wds ws ys → xs.flatten = t ++ ys.flatten → Left ws []
  | n, xs, ys, [], _, h, _, _, _ => h
  | n, [], ys, c :: t, _, h, _, _, e => by simp at e
  | 0, x :: xs, ys, c :: t, hn, h, _, _, e => by simp at hn
  | n + 1, w :: xs, ys, c :: t, hn, h, hx, hy, e => by
    have e' : w ++ xs.flatten = (c :: t) ++ ys.flatten := by simpa using e
    have hn' : xs.length + ys.length ≤ n := by simp at hn; omega
    rcases List.append_eq_append_iff.1 e' with ⟨a', h1, h2⟩ | ⟨c', h1, h2⟩
    · exact left_run n hn' (.dn h (by simp) hx.hd h1) hx.tl hy h2
    · exact left_run n (by omega) (.up h (by simp) hx.hd h1) hy hx.tl h2
theorem left_iff (hne : ∀ w ∈ ws, w ≠ []) : Left ws [] ↔ Dbl ws := by
  rw [dbl_iff hne]
  constructor
  · intro h
    obtain ⟨a, b, xs, ys, ha, hb, hab, hx, hy, k⟩ := left_inv h
    exact ⟨a, b, xs, ys, ha, hb, hab, hx, hy, by simpa using k⟩
  · rintro ⟨a, b, xs, ys, ha, hb, hab, hx, hy, e⟩
    rcases List.append_eq_append_iff.1 e with ⟨a', h1, h2⟩ | ⟨c', h1, h2⟩
    · exact left_run _ (Nat.le_refl _) (.base ha hb hab h1) hx hy h2
    · exact left_run _ (Nat.le_refl _) (.base hb ha (Ne.symm hab) h1) hy hx h2
/-! pairs of rests -/
variable [DecidableEq α]
def nRests (ws : List (List α)) (r : List α) (c : α) : List (List α) := match r with
  | d :: t => if d = c then [t] else []
  | [] => (ws.filter fun w => decide (w.head? = some c)).map List.tail
def nPairs (ws : List (List α)) (p : T3 (List α) (List α) Bool) (c : α) : List (T3 (List α) (List α) Bool) :=
  if p.c = true ∨ p.a ≠ [] ∨ p.b ≠ [] then (nRests ws p.a c).flatMap fun l => (nRests ws p.b c).map fun r => ⟨l, r, p.c || decide (l ≠ r)⟩
  else ws.flatMap fun w => (ws.filter fun v => decide (w.head? = some c) && decide (v.head? = some c)).map fun v => ⟨w.tail, v.tail, decide (w ≠ v)⟩
inductive Reach (ws : List (List α)) (sg : List α) : T3 (List α) (List α) Bool → Prop
  | zero : Reach ws sg ⟨[], [], false⟩
  | step {p q : T3 (List α) (List α) Bool} {c : α} : Reach ws sg p → c ∈ sg → q ∈ nPairs ws p c → Reach ws sg q
theorem nRests_mem {r t : List α} {c : α} : t ∈ nRests ws r c ↔ (r = c :: t) ∨ (r = [] ∧ (c :: t) ∈ ws) := by
  unfold nRests
  cases r with
  | cons d r =>
    by_cases h : d = c
    · subst h; simp [eq_comm]
    · simp [h]
  | nil =>
    simp only [List.mem_map, List.mem_filter, decide_eq_true_eq]
    constructor
    · rintro ⟨w, ⟨h1, h2⟩, rfl⟩
      cases w with
      | nil => cases h2
      | cons d w => simp at h2; subst h2; exact .inr ⟨by trivial, h1⟩
    · rintro (h | ⟨_, h⟩)
      · cases h
      · exact ⟨c :: t, ⟨h, by simp⟩, rfl⟩
/-- what a reached pair shows -/
def Shown (ws : List (List α)) (p : T3 (List α) (List α) Bool) : Prop :=
  if p.c = true then ∃ a b xs ys, a ∈ ws ∧ b ∈ ws ∧ a ≠ b ∧ Wds ws xs ∧ Wds ws ys ∧ ∃ s, a ++ xs.flatten = s ++ p.a ∧ b ++ ys.flatten = s ++ p.b
  else p.a = p.b
theorem rest_step {a : List α} {xs : List (List α)} {s r t : List α} {c : α} (hx : Wds ws xs) (e : a ++ xs.flatten = s ++ r) (h : t ∈ nRests ws r c) : ∃ ys, Wds ws ys ∧ a ++ ys.flatten = (s ++ [c]) ++ t := by
  rcases nRests_mem.1 h with h | ⟨h1, h2⟩
  · exact ⟨xs, hx, by rw [e, h]; simp⟩
  · exact ⟨xs ++ [c :: t], hx.snoc h2, by rw [List.flatten_append, ← List.append_assoc, e, h1]; simp⟩
theorem shown_of {sg : List α} {p : T3 (List α) (List α) Bool} (h : Reach ws sg p) : Shown ws p := by
  induction h with
  | zero => simp [Shown]
  | @step p q c h hc hq ih =>
    unfold nPairs at hq
    split at hq
    · rename_i hp
      simp only [List.mem_flatMap, List.mem_map] at hq
      obtain ⟨l, hl, r, hr, rfl⟩ := hq
      by_cases k : p.c = true
      · simp only [Shown, k, if_true] at ih
        obtain ⟨a, b, xs, ys, ha, hb, hab, hx, hy, s, e1, e2⟩ := ih
        obtain ⟨xs', hx', e1'⟩ := rest_step hx e1 hl
        obtain ⟨ys', hy', e2'⟩ := rest_step hy e2 hr
        simp only [Shown, k, Bool.true_or, if_true]
        exact ⟨a, b, xs', ys', ha, hb, hab, hx', hy', _, e1', e2'⟩
      · simp only [Shown, if_neg k] at ih
        have k' : p.c = false := by simpa using k
        have ne : p.a ≠ [] := by
          rcases hp with hp | hp | hp
          · exact absurd hp k
          · exact hp
          · rw [ih]; exact hp
        have hlr : l = r := by
          rw [← ih] at hr
          rcases nRests_mem.1 hl with h1 | ⟨h1, _⟩
          · rcases nRests_mem.1 hr with h2 | ⟨h2, _⟩
            · rw [h1] at h2; exact (List.cons.inj h2).2
            · exact absurd h2 ne
          · exact absurd h1 ne
        simp [Shown, k', hlr]
    · rename_i hp
      simp only [List.mem_flatMap, List.mem_map, List.mem_filter, Bool.and_eq_true, decide_eq_true_eq] at hq
      obtain ⟨w, hw, v, ⟨hv, h1, h2⟩, rfl⟩ := hq
      have tl : ∀ {w : List α}, w.head? = some c → w = c :: w.tail := fun {w} h => by
        cases w with
        | nil => cases h
        | cons d w => simp at h; subst h; rfl
      have e1 := tl h1
      have e2 := tl h2
      by_cases k : w = v
      · simp [Shown, k]
      · simp only [Shown, ne_eq, k, not_false_eq_true, decide_true, if_true]
        exact ⟨w, v, [], [], hw, hv, k, .nil, .nil, [c], by simpa using e1, by simpa using e2⟩
theorem rest_go (hne : ∀ w ∈ ws, w ≠ []) {u s : List α} {xs : List (List α)} {c : α} (hx : Wds ws xs) (e : u ++ xs.flatten = c :: s) : ∃ t ys, t ∈ nRests ws u c ∧ Wds ws ys ∧ t ++ ys.flatten = s := by
  cases u with
  | cons d u =>
    have e' : d = c ∧ u ++ xs.flatten = s := by simpa using e
    obtain ⟨rfl, e'⟩ := e'
    exact ⟨u, xs, nRests_mem.2 (.inl rfl), hx, e'⟩
  | nil =>
    cases xs with
    | nil => simp at e
    | cons w xs =>
      cases w with
      | nil => exact absurd rfl (hne _ hx.hd)
      | cons d w =>
        have e' : d = c ∧ w ++ xs.flatten = s := by simpa using e
        obtain ⟨rfl, e'⟩ := e'
        exact ⟨w, xs, nRests_mem.2 (.inr ⟨rfl, hx.hd⟩), hx.tl, e'⟩
theorem reach_run (hne : ∀ w ∈ ws, w ≠ []) {sg : List α} : ∀ {s u v : List α} {xs ys : List (List α)}, (∀ c ∈ s, c ∈ sg) → Reach ws sg ⟨u, v, true⟩ → Wds ws xs → Wds ws ys → u ++ xs.flatten = s → v ++ ys.flatten = s → Reach ws sg ⟨[], [], true⟩
  | [], u, v, xs, ys, _, h, hx, hy, e1, e2 => by
    rw [(List.append_eq_nil_iff.1 e1).1, (List.append_eq_nil_iff.1 e2).1] at h
    exact h
  | c :: s, u, v, xs, ys, hs, h, hx, hy, e1, e2 => by
    obtain ⟨t, xs', ht, hx', e1'⟩ := rest_go hne hx e1
    obtain ⟨t', ys', ht', hy', e2'⟩ := rest_go hne hy e2
    refine reach_run hne (s := s) (fun d m => hs d (List.mem_cons_of_mem _ m)) (.step h (hs c List.mem_cons_self) (?_ : (⟨t, t', true⟩ : T3 _ _ Bool) ∈ _)) hx' hy' e1' e2'
    unfold nPairs
    rw [if_pos (.inl rfl)]
    simp only [List.mem_flatMap, List.mem_map]
    exact ⟨t, ht, t', ht', by simp⟩
theorem flat_in {sg : List α} {xs : List (List α)} (hw : ∀ w ∈ ws, ∀ c ∈ w, c ∈ sg) (hx : Wds ws xs) : ∀ c ∈ xs.flatten, c ∈ sg := fun c m => by
  obtain ⟨w, h1, h2⟩ := List.mem_flatten.1 m
  exact hw w (hx w h1) c h2
theorem reach_iff (hne : ∀ w ∈ ws, w ≠ []) {sg : List α} (hw : ∀ w ∈ ws, ∀ c ∈ w, c ∈ sg) : Reach ws sg ⟨[], [], true⟩ ↔ Dbl ws := by
  rw [dbl_iff hne]
  constructor
  · intro h
    have := shown_of h
    simp only [Shown, if_true] at this
    obtain ⟨a, b, xs, ys, ha, hb, hab, hx, hy, s, e1, e2⟩ := this
    exact ⟨a, b, xs, ys, ha, hb, hab, hx, hy, by rw [e1, e2]⟩
  · rintro ⟨a, b, xs, ys, ha, hb, hab, hx, hy, e⟩
    cases a with
    | nil => exact absurd rfl (hne _ ha)
    | cons c a =>
      cases b with
      | nil => exact absurd rfl (hne _ hb)
      | cons d b =>
        have e' : c = d ∧ a ++ xs.flatten = b ++ ys.flatten := by simpa using e
        obtain ⟨rfl, e'⟩ := e'
        refine reach_run hne (s := a ++ xs.flatten) (fun x m => ?_) (.step .zero (hw _ ha c List.mem_cons_self) (?_ : (⟨a, b, true⟩ : T3 _ _ Bool) ∈ _)) hx hy rfl e'.symm
        · rcases List.mem_append.1 m with m | m
          · exact hw _ ha x (List.mem_cons_of_mem _ m)
          · exact flat_in hw hx x m
        · unfold nPairs
          rw [if_neg (by simp)]
          simp only [List.mem_flatMap, List.mem_map, List.mem_filter, Bool.and_eq_true, decide_eq_true_eq]
          exact ⟨c :: a, ha, c :: b, ⟨hb, rfl, rfl⟩, by simp [hab]⟩
end
end PL

/-! McMillan's inequality -/
namespace PL
section
variable {α : Type} {ws : List (List α)}
def tot {β : Type} (f : β → Nat) (xs : List β) : Nat := (xs.map f).sum
theorem tot_nil {β : Type} (f : β → Nat) : tot f [] = 0 := rfl
theorem tot_cons {β : Type} (f : β → Nat) (x : β) (xs : List β) : tot f (x :: xs) = f x + tot f xs := by simp [tot]
theorem tot_app {β : Type} (f : β → Nat) (xs ys : List β) : tot f (xs ++ ys) = tot f xs + tot f ys := by simp [tot]
theorem tot_map {β γ : Type} (f : γ → Nat) (g : β → γ) (xs : List β) : tot f (xs.map g) = tot (fun x => f (g x)) xs := by
  induction xs with
  | nil => rfl
  | cons x xs ih => rw [List.map_cons, tot_cons, tot_cons, ih]
theorem tot_congr {β : Type} {f g : β → Nat} {xs : List β} (h : ∀ x ∈ xs, f x = g x) : tot f xs = tot g xs := by
  induction xs with
  | nil => rfl
  | cons x xs ih => rw [tot_cons, tot_cons, h x List.mem_cons_self, ih fun y m => h y (List.mem_cons_of_mem _ m)]
theorem tot_mul {β : Type} (k : Nat) (f : β → Nat) (xs : List β) : tot (fun x => k * f x) xs = k * tot f xs := by
  induction xs with
  | nil => simp [tot]
  | cons x xs ih => rw [tot_cons, tot_cons, ih, Nat.mul_add]
theorem tot_flat {β γ : Type} (f : γ → Nat) (g : β → List γ) (xs : List β) : tot f (xs.flatMap g) = tot (fun x => tot f (g x)) xs := by
  induction xs with
  | nil => rfl
  | cons x xs ih => rw [List.flatMap_cons, tot_app, tot_cons, ih]
theorem tot_le {β : Type} {f : β → Nat} {k : Nat} {xs : List β} (h : ∀ x ∈ xs, f x ≤ k) : tot f xs ≤ xs.length * k := by
  induction xs with
  | nil => simp [tot]
  | cons x xs ih =>
    rw [tot_cons, List.length_cons, Nat.succ_mul]
    have := h x List.mem_cons_self
    have := ih fun y m => h y (List.mem_cons_of_mem _ m)
    omega
/-- n words in a row -/
def rowsOf (ws : List (List α)) : Nat → List (List (List α))
  | 0 => [[]]
  | n + 1 => ws.flatMap fun w => (rowsOf ws n).map fun r => w :: r
theorem rows_wds : ∀ {n : Nat} {r : List (List α)}, r ∈ rowsOf ws n → Wds ws r
  | 0, r, h => by
    rw [List.mem_singleton.1 h]; exact .nil
  | n + 1, r, h => by
    simp only [rowsOf, List.mem_flatMap, List.mem_map] at h
    obtain ⟨w, hw, r', hr, rfl⟩ := h
    exact (rows_wds hr).cons hw
theorem nodup_flatMap {β γ : Type} {f : β → List γ} : ∀ {xs : List β}, xs.Nodup → (∀ x ∈ xs, (f x).Nodup) → (∀ x ∈ xs, ∀ y ∈ xs, x ≠ y → ∀ z ∈ f x, z ∉ f y) → (xs.flatMap f).Nodup
  | [], _, _, _ => List.nodup_nil
  | x :: xs, h, h1, h2 => by
    rw [List.flatMap_cons, List.nodup_append]
    obtain ⟨hx, hxs⟩ := List.nodup_cons.1 h
    refine ⟨h1 x List.mem_cons_self, nodup_flatMap hxs (fun y m => h1 y (List.mem_cons_of_mem _ m)) (fun y m z m' => h2 y (List.mem_cons_of_mem _ m) z (List.mem_cons_of_mem _ m')), ?_⟩
    rintro a ha b hb rfl
    obtain ⟨y, hy, hb⟩ := List.mem_flatMap.1 hb
    exact h2 x List.mem_cons_self y (List.mem_cons_of_mem _ hy) (fun z => hx (by rw [z]; exact hy)) a ha hb
theorem nodup_map {β γ : Type} {f : β → γ} : ∀ {xs : List β}, xs.Nodup → (∀ x ∈ xs, ∀ y ∈ xs, f x = f y → x = y) → (xs.map f).Nodup
  | [], _, _ => List.nodup_nil
  | x :: xs, h, hf => by
    obtain ⟨hx, hxs⟩ := List.nodup_cons.1 h
    rw [List.map_cons, List.nodup_cons]
    refine ⟨fun m => ?_, nodup_map hxs fun y m z m' => hf y (List.mem_cons_of_mem _ m) z (List.mem_cons_of_mem _ m')⟩
    obtain ⟨y, hy, e⟩ := List.mem_map.1 m
    exact hx (by rw [← hf y (List.mem_cons_of_mem _ hy) x List.mem_cons_self e]; exact hy)
theorem rows_nodup (h : ws.Nodup) : ∀ n, (rowsOf ws n).Nodup
  | 0 => by simp [rowsOf]
  | n + 1 => nodup_flatMap h (fun w _ => nodup_map (rows_nodup h n) fun x _ y _ e => (List.cons.inj e).2) fun x _ y _ hxy z hz hz' => by
    obtain ⟨r, _, rfl⟩ := List.mem_map.1 hz
    obtain ⟨r', _, e⟩ := List.mem_map.1 hz'
    exact hxy (List.cons.inj e).1.symm
theorem texts_nodup (h : ws.Nodup) (hd : ¬ Dbl ws) (n : Nat) : ((rowsOf ws n).map List.flatten).Nodup :=
  nodup_map (rows_nodup h n) fun x hx y hy e => Classical.byContradiction fun k => hd ⟨x, y, rows_wds hx, rows_wds hy, k, e⟩
theorem flatten_len {L : Nat} (hl : ∀ w ∈ ws, w.length ≤ L) : ∀ {n : Nat} {r : List (List α)}, r ∈ rowsOf ws n → r.flatten.length ≤ n * L
  | 0, r, h => by
    rw [List.mem_singleton.1 h]; simp
  | n + 1, r, h => by
    simp only [rowsOf, List.mem_flatMap, List.mem_map] at h
    obtain ⟨w, hw, r', hr, rfl⟩ := h
    have := flatten_len hl hr
    have := hl w hw
    rw [List.flatten_cons, List.length_append, Nat.succ_mul]
    omega
/-- the weights of all rows of n words -/
theorem rows_tot {m L : Nat} (hl : ∀ w ∈ ws, w.length ≤ L) : ∀ n, tot (fun r => m ^ (n * L - r.flatten.length)) (rowsOf ws n) = (tot (fun w => m ^ (L - w.length)) ws) ^ n
  | 0 => by simp [rowsOf, tot]
  | n + 1 => by
    rw [rowsOf, tot_flat]
    have : ∀ w ∈ ws, tot (fun r => m ^ ((n + 1) * L - r.flatten.length)) ((rowsOf ws n).map fun r => w :: r) = (tot (fun w => m ^ (L - w.length)) ws) ^ n * m ^ (L - w.length) := fun w hw => by
      rw [tot_map, Nat.mul_comm (tot (fun w => m ^ (L - w.length)) ws ^ n), ← rows_tot hl n, ← tot_mul]
      refine tot_congr fun r hr => ?_
      have h1 := flatten_len hl hr
      have h2 := hl w hw
      show m ^ ((n + 1) * L - (w :: r).flatten.length) = _
      rw [← Nat.pow_add]
      congr 1
      rw [List.flatten_cons, List.length_append, Nat.succ_mul]
      omega
    rw [tot_congr this, tot_mul, Nat.pow_succ]
/-! strings apart weigh little -/
variable [DecidableEq α]
def tlsOf (c : α) (S : List (List α)) : List (List α) := S.filterMap fun x => match x with
  | d :: t => if d = c then some t else none
  | [] => none
theorem tls_mem {c : α} {S : List (List α)} {t : List α} : t ∈ tlsOf c S ↔ (c :: t) ∈ S := by
  unfold tlsOf
  rw [List.mem_filterMap]
  constructor
  · rintro ⟨x, hx, e⟩
    cases x with
    | nil => cases e
    | cons d x =>
      by_cases k : d = c
      · subst k
        simp at e
        subst e
        exact hx
      · simp [k] at e
  · intro h
    exact ⟨_, h, by simp⟩
theorem tls_nodup {c : α} : ∀ {S : List (List α)}, S.Nodup → (tlsOf c S).Nodup
  | [], _ => List.nodup_nil
  | x :: S, h => by
    obtain ⟨hx, hS⟩ := List.nodup_cons.1 h
    have ih := tls_nodup (c := c) hS
    cases x with
    | nil => exact ih
    | cons d x =>
      by_cases k : d = c
      · subst k
        have e : tlsOf d ((d :: x) :: S) = x :: tlsOf d S := by simp [tlsOf]
        rw [e, List.nodup_cons]
        exact ⟨fun m => hx (tls_mem.1 m), ih⟩
      · have e : tlsOf c ((d :: x) :: S) = tlsOf c S := by simp [tlsOf, k]
        rw [e]
        exact ih
theorem tot_pick {c : α} {v : Nat} (g : α → Nat) : ∀ {A : List α}, A.Nodup → c ∈ A → tot (fun d => if d = c then v + g d else g d) A = v + tot g A
  | [], _, h => by cases h
  | a :: A, hn, h => by
    obtain ⟨ha, hA⟩ := List.nodup_cons.1 hn
    rw [tot_cons, tot_cons]
    by_cases k : a = c
    · subst k
      have : tot (fun d => if d = a then v + g d else g d) A = tot g A := tot_congr fun x m => by
        have : x ≠ a := fun z => ha (z ▸ m)
        simp [this]
      rw [this]
      simp
      omega
    · have m : c ∈ A := by
        rcases List.mem_cons.1 h with e | e
        · exact absurd e.symm k
        · exact e
      rw [tot_pick g hA m]
      simp [k]
      omega
theorem tot_split {A : List α} (hA : A.Nodup) (g : List α → Nat) : ∀ {S : List (List α)}, (∀ x ∈ S, ∀ c ∈ x, c ∈ A) → tot g S = S.count [] * g [] + tot (fun c => tot (fun t => g (c :: t)) (tlsOf c S)) A
  | [], _ => by
    have : tot (fun c : α => tot (fun t => g (c :: t)) (tlsOf c [])) A = 0 := by
      have := tot_le (f := fun c : α => tot (fun t => g (c :: t)) (tlsOf c [])) (k := 0) (xs := A) fun x _ => by simp [tlsOf, tot]
      omega
    rw [this]
    simp [tot]
  | x :: S, h => by
    have ih := tot_split hA g (S := S) fun y m => h y (List.mem_cons_of_mem _ m)
    rw [tot_cons, ih]
    cases x with
    | nil =>
      have : ∀ c, tlsOf c ([] :: S) = tlsOf c S := fun c => rfl
      simp only [this, List.count_cons_self, Nat.succ_mul]
      omega
    | cons d x =>
      have hd : d ∈ A := h _ List.mem_cons_self d List.mem_cons_self
      have : tot (fun c => tot (fun t => g (c :: t)) (tlsOf c ((d :: x) :: S))) A = g (d :: x) + tot (fun c => tot (fun t => g (c :: t)) (tlsOf c S)) A := by
        rw [← tot_pick (c := d) (v := g (d :: x)) (A := A) _ hA hd]
        · refine tot_congr fun c _ => ?_
          by_cases k : c = d
          · subst k
            have e : tlsOf c ((c :: x) :: S) = x :: tlsOf c S := by simp [tlsOf]
            rw [e, tot_cons]
            simp
          · have e : tlsOf c ((d :: x) :: S) = tlsOf c S := by simp [tlsOf, Ne.symm k]
            rw [e]
            simp [k]
      rw [this]
      have e : ((d :: x) :: S).count [] = S.count [] := by simp
      rw [e]
      omega
theorem count_le {β : Type} [BEq β] [LawfulBEq β] {S : List β} (h : S.Nodup) (a : β) : S.count a ≤ 1 := List.nodup_iff_count.1 h a
theorem apart {A : List α} (hA : A.Nodup) : ∀ {B : Nat} {S : List (List α)}, S.Nodup → (∀ x ∈ S, x.length ≤ B) → (∀ x ∈ S, ∀ c ∈ x, c ∈ A) → tot (fun x => A.length ^ (B - x.length)) S ≤ (B + 1) * A.length ^ B
  | 0, S, hn, hl, hS => by
    have hall : ∀ x ∈ S, x = [] := fun x m => List.length_eq_zero_iff.1 (Nat.le_zero.1 (hl x m))
    have : S.length ≤ 1 := by
      cases S with
      | nil => simp
      | cons x S =>
        cases S with
        | nil => simp
        | cons y S =>
          have h1 := hall x (by simp)
          have h2 := hall y (by simp)
          subst h1; subst h2
          simp at hn
    have h2 := tot_le (f := fun x : List α => A.length ^ (0 - x.length)) (k := 1) (xs := S) fun x _ => by simp
    simp at h2 ⊢
    omega
  | B + 1, S, hn, hl, hS => by
    rw [tot_split hA _ hS]
    have h1 : S.count [] * A.length ^ (B + 1 - ([] : List α).length) ≤ A.length ^ (B + 1) := by
      have := Nat.mul_le_mul_right (A.length ^ (B + 1 - ([] : List α).length)) (count_le hn [])
      simpa using this
    have h2 : ∀ c ∈ A, tot (fun t => A.length ^ (B + 1 - (c :: t).length)) (tlsOf c S) ≤ (B + 1) * A.length ^ B := fun c _ => by
      have e : tot (fun t => A.length ^ (B + 1 - (c :: t).length)) (tlsOf c S) = tot (fun t => A.length ^ (B - t.length)) (tlsOf c S) := tot_congr fun t _ => by
        congr 1
        simp
      rw [e]
      exact apart hA (tls_nodup hn) (fun t m => by have := hl _ (tls_mem.1 m); simp at this; exact this) (fun t m d hd => hS _ (tls_mem.1 m) d (List.mem_cons_of_mem _ hd))
    have h3 := tot_le h2
    have e : A.length * ((B + 1) * A.length ^ B) = (B + 1) * A.length ^ (B + 1) := by
      rw [Nat.pow_succ, Nat.mul_left_comm, Nat.mul_comm (A.length ^ B)]
    rw [e] at h3
    have e2 : (B + 1 + 1) * A.length ^ (B + 1) = (B + 1) * A.length ^ (B + 1) + A.length ^ (B + 1) := by rw [Nat.succ_mul]
    omega
theorem pow_grow (M : Nat) : ∀ n, n * M ^ (n - 1) + M ^ n ≤ (M + 1) ^ n
  | 0 => by simp
  | n + 1 => by
    have ih := pow_grow M n
    have h := Nat.mul_le_mul_right (M + 1) ih
    rw [← Nat.pow_succ] at h
    refine Nat.le_trans ?_ h
    cases n with
    | zero => simp; omega
    | succ n =>
      simp only [Nat.add_sub_cancel]
      rw [Nat.pow_succ M (n + 1), Nat.pow_succ M n]
      simp only [Nat.add_mul, Nat.mul_add, Nat.mul_one, Nat.one_mul, ← Nat.mul_assoc]
      generalize M ^ n = P
      generalize hp : n * P = q
      omega
theorem mcmillan {A : List α} (hA : A.Nodup) (hm : 0 < A.length) {L : Nat} (hL : 0 < L) (hn : ws.Nodup) (hl : ∀ w ∈ ws, w.length ≤ L) (hs : ∀ w ∈ ws, ∀ c ∈ w, c ∈ A) (hd : ¬ Dbl ws) : tot (fun w => A.length ^ (L - w.length)) ws ≤ A.length ^ L := by
  refine Classical.byContradiction fun hk => ?_
  generalize hM : A.length ^ L = M at hk
  have hM0 : 0 < M := by rw [← hM]; exact Nat.pow_pos hm
  have all : ∀ n, (M + 1) ^ n ≤ (n * L + 1) * M ^ n := fun n => by
    have h1 := rows_tot (m := A.length) hl n
    have h2 := apart hA (B := n * L) (texts_nodup hn hd n) (fun x m => by
      obtain ⟨r, hr, rfl⟩ := List.mem_map.1 m
      exact flatten_len hl hr) (fun x m c hc => by
      obtain ⟨r, hr, rfl⟩ := List.mem_map.1 m
      obtain ⟨w, hw, hc⟩ := List.mem_flatten.1 hc
      exact hs w (rows_wds hr w hw) c hc)
    rw [tot_map, h1, Nat.mul_comm n L, Nat.pow_mul, hM, Nat.mul_comm L n] at h2
    exact Nat.le_trans (Nat.pow_le_pow_left (by omega) n) h2
  have hk2 := all (2 * (2 * L * (M * M)))
  generalize hq : 2 * L * (M * M) = k at hk2
  have k0 : 0 < k := by rw [← hq]; exact Nat.mul_pos (Nat.mul_pos (by decide) hL) (Nat.mul_pos hM0 hM0)
  have g := pow_grow M k
  obtain ⟨j, rfl⟩ : ∃ j, k = j + 1 := ⟨k - 1, by omega⟩
  rw [Nat.add_sub_cancel] at g
  have hP : 0 < M ^ j := Nat.pow_pos hM0
  have e1 : (M + 1) ^ (2 * (j + 1)) = (M + 1) ^ (j + 1) * (M + 1) ^ (j + 1) := by rw [Nat.two_mul, Nat.pow_add]
  have e2 : M ^ (2 * (j + 1)) = M ^ (j + 1) * M ^ (j + 1) := by rw [Nat.two_mul, Nat.pow_add]
  have e3 : M ^ (j + 1) = M ^ j * M := Nat.pow_succ ..
  have e4 : (j + 1) * M ^ j + M ^ (j + 1) = M ^ j * ((j + 1) + M) := by rw [e3, Nat.mul_add, Nat.mul_comm (j + 1)]
  rw [e4] at g
  have g2 := Nat.mul_le_mul g g
  rw [← e1] at g2
  have g3 := Nat.le_trans g2 hk2
  rw [e2, e3] at g3
  have e5 : M ^ j * (j + 1 + M) * (M ^ j * (j + 1 + M)) = (M ^ j * M ^ j) * ((j + 1 + M) * (j + 1 + M)) := by ac_rfl
  have e6 : (2 * (j + 1) * L + 1) * (M ^ j * M * (M ^ j * M)) = (M ^ j * M ^ j) * ((2 * (j + 1) * L + 1) * (M * M)) := by ac_rfl
  rw [e5, e6] at g3
  have g4 := Nat.le_of_mul_le_mul_left g3 (Nat.mul_pos hP hP)
  have e7 : (2 * (j + 1) * L + 1) * (M * M) = (j + 1) * (j + 1) + M * M := by
    rw [Nat.add_mul, Nat.one_mul]
    congr 1
    have : 2 * (j + 1) * L * (M * M) = (j + 1) * (2 * L * (M * M)) := by ac_rfl
    rw [this, hq]
  rw [e7] at g4
  have sq : ∀ a b : Nat, (a + b) * (a + b) = a * a + b * b + 2 * (a * b) := fun a b => by
    rw [Nat.add_mul, Nat.mul_add, Nat.mul_add, Nat.mul_comm b a]
    omega
  have e8 := sq (j + 1) M
  rw [e8] at g4
  have : 0 < (j + 1) * M := Nat.mul_pos (by omega) hM0
  omega
end
end PL

/-! loops, dicts, lists -/
namespace Ty
open PySem PySem.Spec PyProof.Rows L2
open Enc (enc)
section
variable {α β ρ : Type} {E : Exc → Prop}
theorem chk_eq {b : Bool} {m r : Prog α} (h : b = true) (h2 : m = r) : chk b m = r := by rw [h, chk_true]; exact h2
theorem ite_t {c : Prop} [Decidable c] {a b r : β} (h : c) (h2 : a = r) : (if c then a else b) = r := by rw [if_pos h]; exact h2
theorem ite_f {c : Prop} [Decidable c] {a b r : β} (h : ¬ c) (h2 : b = r) : (if c then a else b) = r := by rw [if_neg h]; exact h2
theorem wp_ite_t {c : Prop} [Decidable c] {a b : Prog α} {P : α → Prop} (h : c) (h2 : wp a P E) : wp (if c then a else b) P E := by rw [if_pos h]; exact h2
theorem wp_ite_f {c : Prop} [Decidable c] {a b : Prog α} {P : α → Prop} (h : ¬ c) (h2 : wp b P E) : wp (if c then a else b) P E := by rw [if_neg h]; exact h2
theorem wp_step {m : Prog α} {x : α} {k : α → Prog β} {P : β → Prop} (h : m = .ok x) (h2 : wp (k x) P E) : wp (m >>= k) P E := by rw [h]; exact h2
theorem filter_map_flat (p : α → Bool) (g : α → β) : ∀ xs : List α, (xs.flatMap fun x => if p x = true then [g x] else []) = (xs.filter p).map g
  | [] => rfl
  | x :: xs => by
    rw [List.flatMap_cons, filter_map_flat p g xs]
    cases h : p x <;> simp [h]
theorem wp_whileP {c : β → Prog Bool} {f : β → Prog β} {Inv : β → Prop} {mu : β → Nat} {Q : β → Prop} (h : ∀ b, Inv b → wp (c b) (fun t => if t = true then wp (f b) (fun b' => Inv b' ∧ mu b' < mu b) E else Q b) E) :
    ∀ {fuel : Nat} {b : β}, Inv b → mu b < fuel → wp (whileP c f fuel b) Q E
  | 0, b, _, hm => by omega
  | n + 1, b, hb, hm => by
    unfold whileP
    refine wp_bind.2 (wp_mono (h b hb) fun t ht => ?_)
    cases t with
    | true =>
      rw [if_pos rfl] at ht ⊢
      exact wp_bind.2 (wp_mono ht fun b' ⟨h1, h2⟩ => wp_whileP h h1 (by omega))
    | false =>
      rw [if_neg Bool.false_ne_true] at ht ⊢
      exact ht
theorem wp_whileF {c : β → Prog Bool} {f : β → Prog (Fl β ρ)} {Inv : β → Prop} {mu : β → Nat} {Q : Fl β ρ → Prop} (h : ∀ b, Inv b → wp (c b) (fun t => if t = true then wp (f b) (fun o => match o with
      | .nx b' => Inv b' ∧ mu b' < mu b
      | .rt r => Q (.rt r)) E else Q (.nx b)) E) :
    ∀ {fuel : Nat} {b : β}, Inv b → mu b < fuel → wp (whileF c f fuel b) Q E
  | 0, b, _, hm => by omega
  | n + 1, b, hb, hm => by
    unfold whileF
    refine wp_bind.2 (wp_mono (h b hb) fun t ht => ?_)
    cases t with
    | true =>
      rw [if_pos rfl] at ht ⊢
      refine wp_bind.2 (wp_mono ht fun o ho => ?_)
      cases o with
      | nx b' => exact wp_whileF h ho.1 (by have := ho.2; omega)
      | rt r => exact ho
    | false =>
      rw [if_neg Bool.false_ne_true] at ht ⊢
      exact ht
theorem comp2P_ok {δ : Type} {t : α → Prog Bool} {mi : α → Prog (List β)} {t1 : α → β → Prog Bool} {f : α → β → Prog δ} {l : α → List β} {g : α → β → δ} : ∀ {xs : List α}, (∀ a ∈ xs, t a = .ok true) → (∀ a ∈ xs, mi a = .ok (l a) ∧ (l a).length ≤ 160) → (∀ a ∈ xs, ∀ b ∈ l a, t1 a b = .ok true ∧ f a b = .ok (g a b)) →
    comp2P t mi t1 f xs = .ok (xs.flatMap fun a => (l a).map (g a))
  | [], _, _, _ => rfl
  | a :: xs, h1, h2, h3 => by
    have ih := comp2P_ok (xs := xs) (fun b m => h1 b (List.mem_cons_of_mem _ m)) (fun b m => h2 b (List.mem_cons_of_mem _ m)) (fun b m => h3 b (List.mem_cons_of_mem _ m))
    obtain ⟨e2, e3⟩ := h2 a List.mem_cons_self
    have e4 : compP (t1 a) (f a) (l a) = .ok (((l a).filter fun _ => true).map (g a)) := compP_ok (p := fun _ => true) (fun b m => (h3 a List.mem_cons_self b m).1) (fun b m => (h3 a List.mem_cons_self b m).2)
    have e5 : (l a).filter (fun _ => true) = l a := List.filter_eq_self.2 fun _ _ => rfl
    rw [e5] at e4
    unfold comp2P
    rw [h1 a List.mem_cons_self, ok_bind, if_pos rfl, e2, ok_bind, decide_eq_true e3, chk_true, e4, ok_bind, ih, ok_bind, List.flatMap_cons]
/-- a loop that only adds to a list -/
theorem foldP_app {h : α → List β} {K : Nat} {f : List β → α → Prog (List β)} {n : Nat} : ∀ {xs : List α} {b : List β}, (∀ b a, a ∈ xs → b.length + n ≤ K → f b a = .ok (b ++ h a)) → (∀ a ∈ xs, (h a).length ≤ n) → b.length + xs.length * n ≤ K → foldP f xs b = .ok (b ++ xs.flatMap h)
  | [], b, _, _, _ => by simp [foldP]
  | a :: xs, b, h1, h2, h3 => by
    rw [List.length_cons, Nat.succ_mul] at h3
    have h4 := h2 a List.mem_cons_self
    unfold foldP
    rw [h1 b a List.mem_cons_self (by omega), ok_bind, foldP_app (fun b a m => h1 b a (List.mem_cons_of_mem _ m)) (fun a m => h2 a (List.mem_cons_of_mem _ m)) (by rw [List.length_append]; omega), List.flatMap_cons, List.append_assoc]
theorem flatMap_len {h : α → List β} {n : Nat} : ∀ {xs : List α}, (∀ a ∈ xs, (h a).length ≤ n) → (xs.flatMap h).length ≤ xs.length * n
  | [], _ => by simp
  | a :: xs, k => by
    have := flatMap_len (xs := xs) fun b m => k b (List.mem_cons_of_mem _ m)
    have := k a List.mem_cons_self
    rw [List.flatMap_cons, List.length_append, List.length_cons, Nat.succ_mul]
    omega
theorem nodup_len [DecidableEq α] : ∀ {xs ys : List α}, xs.Nodup → (∀ x ∈ xs, x ∈ ys) → xs.length ≤ ys.length
  | [], _, _, _ => Nat.zero_le _
  | x :: xs, ys, h, hs => by
    obtain ⟨hx, hn⟩ := List.nodup_cons.1 h
    have m := hs x List.mem_cons_self
    have := nodup_len (ys := ys.erase x) hn fun y my => (List.mem_erase_of_ne (fun z : y = x => hx (z ▸ my))).2 (hs y (List.mem_cons_of_mem _ my))
    rw [List.length_erase_of_mem m] at this
    have : 0 < ys.length := List.length_pos_of_mem m
    rw [List.length_cons]
    omega
end
section
variable {κ ν : Type} [DecidableEq κ]
theorem dhas_iff {d : List (κ × ν)} {k : κ} : dhas d k = true ↔ k ∈ d.map (·.1) := by
  unfold dhas dget
  rw [Option.isSome_map, List.find?_isSome, List.mem_map]
  constructor
  · rintro ⟨e, m, h⟩
    exact ⟨e, m, of_decide_eq_true h⟩
  · rintro ⟨e, m, h⟩
    exact ⟨e, m, decide_eq_true h⟩
theorem dput_new {d : List (κ × ν)} {k : κ} {v : ν} (h : k ∉ d.map (·.1)) : dput d k v = d ++ [(k, v)] := by
  unfold dput
  rw [if_neg fun z => h (dhas_iff.1 z)]
theorem dhas_dec (d : List (κ × ν)) (k : κ) : dhas d k = decide (k ∈ d.map (·.1)) := by
  by_cases h : k ∈ d.map (·.1)
  · rw [decide_eq_true h, dhas_iff.2 h]
  · rw [decide_eq_false h]
    cases e : dhas d k with
    | true => exact absurd (dhas_iff.1 e) h
    | false => rfl
end
section
variable {α β γ : Type} [Enc α] [DecidableEq α] [Shp α] [Enc β] [DecidableEq β] [Shp β] [Enc γ] [DecidableEq γ] [Shp γ]
instance shpT3 : Shp (T3 α β γ) := ⟨Shp.dep α + Shp.dep β + Shp.dep γ + 1, fun t => Shp.ok t.a ∧ Shp.ok t.b ∧ Shp.ok t.c, fun t ⟨h1, h2, h3⟩ => by
    have h1 := Shp.lay t.a h1
    have h2 := Shp.lay t.b h2
    have h3 := Shp.lay t.c h3
    show PyData.canLay0 (.tuple [enc t.a, enc t.b, enc t.c]) = true
    simp [PyData.canLay0, PyData.canLayAll0, h1, h2, h3], fun t => by
    have h1 := Shp.dle t.a
    have h2 := Shp.dle t.b
    have h3 := Shp.dle t.c
    show PyData.depth (.tuple [enc t.a, enc t.b, enc t.c]) ≤ _
    simp [PyData.depth, PyData.depthAll]; omega, fun t u => by
    show PyData.eqv (.tuple [enc t.a, enc t.b, enc t.c]) (.tuple [enc u.a, enc u.b, enc u.c]) = _
    simp only [PyData.eqv, PyData.eqvAll, Shp.eqv]
    rcases t with ⟨a1, a2, a3⟩
    rcases u with ⟨b1, b2, b3⟩
    by_cases h : a1 = b1 <;> by_cases h' : a2 = b2 <;> by_cases h'' : a3 = b3 <;> simp [h, h', h'']⟩
theorem dec_nil {β : Type} (xs : List β) (i : Decidable (xs = [])) : @decide (xs = []) i = List.isEmpty xs := by
  cases xs with
  | nil => exact decide_eq_true rfl
  | cons x xs => exact decide_eq_false (fun z => by cases z)
theorem neP_nil (h : Shp.dep α + 1 ≤ 64) {xs : List α} (hx : ∀ x ∈ xs, Shp.ok x) : neP (α := L α) (β := L α) xs ([] : List α) = .ok (!List.isEmpty xs) :=
  (neP_dec (α := L α) h hx (fun x m => by cases m)).trans (congrArg Prog.ok (congrArg not (dec_nil (β := α) xs _)))
theorem eqP_nil (h : Shp.dep α + 1 ≤ 64) {xs : List α} (hx : ∀ x ∈ xs, Shp.ok x) : eqP (α := L α) (β := L α) xs ([] : List α) = .ok (List.isEmpty xs) :=
  (eqP_dec (α := L α) h hx (fun x m => by cases m)).trans (congrArg Prog.ok (dec_nil (β := α) xs _))
end
end Ty

/-! the pairs of rests of short words -/
namespace PL
open PySem PySem.Spec PyProof.Rows L2 Ty
abbrev abc : List Nat := [97, 98, 99]
structure Wv (ws : List Tx) : Prop where
  n7 : ws.length ≤ 7
  ne : ∀ w ∈ ws, w ≠ []
  l6 : ∀ w ∈ ws, w.length ≤ 6
  ab : ∀ w ∈ ws, ∀ c ∈ w, c ∈ abc
def sufs : Tx → List Tx
  | [] => [[]]
  | c :: t => (c :: t) :: sufs t
theorem sufs_len : ∀ w : Tx, (sufs w).length = w.length + 1
  | [] => rfl
  | c :: t => by simp [sufs, sufs_len t]
theorem sufs_self : ∀ w : Tx, w ∈ sufs w
  | [] => by simp [sufs]
  | c :: t => by simp [sufs]
theorem sufs_app : ∀ {a t w : Tx}, a ++ t ∈ sufs w → t ∈ sufs w
  | [], t, w, h => h
  | c :: a, t, [], h => by simp [sufs] at h
  | c :: a, t, d :: w, h => by
    rw [sufs, List.mem_cons] at h ⊢
    rcases h with h | h
    · have : a ++ t = w := by simpa using (List.cons.inj h).2
      right
      exact sufs_app (a := a) (by rw [this]; exact sufs_self w)
    · exact .inr (sufs_app (a := c :: a) h)
theorem sufs_sub : ∀ {t w : Tx}, t ∈ sufs w → ∃ a, w = a ++ t
  | t, [], h => by
    rw [sufs, List.mem_singleton] at h
    exact ⟨[], by simp [h]⟩
  | t, c :: w, h => by
    rw [sufs, List.mem_cons] at h
    rcases h with h | h
    · exact ⟨[], by simp [h]⟩
    · obtain ⟨a, e⟩ := sufs_sub h
      exact ⟨c :: a, by rw [e]; rfl⟩
/-- all rests -/
def Un (ws : List Tx) : List Tx := [] :: ws.flatMap sufs
theorem un_app {ws : List Tx} {a t : Tx} (h : a ++ t ∈ Un ws) : t ∈ Un ws := by
  unfold Un at h ⊢
  rw [List.mem_cons, List.mem_flatMap] at h ⊢
  rcases h with h | ⟨w, hw, h⟩
  · exact .inl (List.append_eq_nil_iff.1 h).2
  · exact .inr ⟨w, hw, sufs_app h⟩
theorem un_word {ws : List Tx} {w : Tx} (h : w ∈ ws) : w ∈ Un ws := by
  unfold Un
  rw [List.mem_cons, List.mem_flatMap]
  exact .inr ⟨w, h, sufs_self w⟩
theorem un_nil {ws : List Tx} : [] ∈ Un ws := List.mem_cons_self
theorem un_len {ws : List Tx} (h : Wv ws) : (Un ws).length ≤ 50 := by
  have := flatMap_len (h := sufs) (n := 7) (xs := ws) fun w m => by have := h.l6 w m; rw [sufs_len]; omega
  have := h.n7
  unfold Un
  rw [List.length_cons]
  omega
theorem un_l6 {ws : List Tx} (h : Wv ws) {t : Tx} (m : t ∈ Un ws) : t.length ≤ 6 ∧ ∀ c ∈ t, c ∈ abc := by
  unfold Un at m
  rw [List.mem_cons, List.mem_flatMap] at m
  rcases m with m | ⟨w, hw, m⟩
  · subst m; exact ⟨by simp, fun c z => by cases z⟩
  · obtain ⟨a, e⟩ := sufs_sub m
    have := h.l6 w hw
    rw [e, List.length_append] at this
    exact ⟨by omega, fun c z => h.ab w hw c (by rw [e]; exact List.mem_append_right _ z)⟩
def Un2 (ws : List Tx) : List (T3 Tx Tx Bool) := (Un ws).flatMap fun a => (Un ws).flatMap fun b => [⟨a, b, false⟩, ⟨a, b, true⟩]
theorem un2_mem {ws : List Tx} {p : T3 Tx Tx Bool} : p ∈ Un2 ws ↔ p.a ∈ Un ws ∧ p.b ∈ Un ws := by
  unfold Un2
  simp only [List.mem_flatMap]
  constructor
  · rintro ⟨a, ha, b, hb, h⟩
    rcases List.mem_cons.1 h with h | h
    · subst h; exact ⟨ha, hb⟩
    · rw [List.mem_singleton.1 h]; exact ⟨ha, hb⟩
  · rintro ⟨h1, h2⟩
    refine ⟨_, h1, _, h2, ?_⟩
    rcases p with ⟨a, b, c⟩
    cases c <;> simp
theorem un2_len {ws : List Tx} (h : Wv ws) : (Un2 ws).length ≤ 5000 := by
  have hl := un_len h
  have h1 : ∀ a ∈ Un ws, ((Un ws).flatMap fun b => ([⟨a, b, false⟩, ⟨a, b, true⟩] : List (T3 Tx Tx Bool))).length ≤ 100 := fun a _ => by
    have := flatMap_len (h := fun b => ([⟨a, b, false⟩, ⟨a, b, true⟩] : List (T3 Tx Tx Bool))) (n := 2) (xs := Un ws) fun _ _ => by simp
    omega
  have := flatMap_len h1
  unfold Un2
  omega
theorem nRests_un {ws : List Tx} {r t : Tx} {c : Nat} (hr : r ∈ Un ws) (h : t ∈ nRests ws r c) : t ∈ Un ws := by
  rcases nRests_mem.1 h with h | ⟨_, h⟩
  · rw [h] at hr; exact un_app (a := [c]) hr
  · exact un_app (a := [c]) (un_word h)
theorem nPairs_un {ws : List Tx} {p q : T3 Tx Tx Bool} {c : Nat} (hp : p ∈ Un2 ws) (h : q ∈ nPairs ws p c) : q ∈ Un2 ws := by
  rw [un2_mem] at hp ⊢
  unfold nPairs at h
  split at h
  · simp only [List.mem_flatMap, List.mem_map] at h
    obtain ⟨l, hl, r, hr, rfl⟩ := h
    exact ⟨nRests_un hp.1 hl, nRests_un hp.2 hr⟩
  · simp only [List.mem_flatMap, List.mem_map, List.mem_filter] at h
    obtain ⟨w, hw, v, ⟨hv, _⟩, rfl⟩ := h
    have tl : ∀ {w : Tx}, w ∈ ws → w.tail ∈ Un ws := fun {w} m => by
      cases w with
      | nil => exact un_nil
      | cons c w => exact un_app (a := [c]) (un_word m)
    exact ⟨tl hw, tl hv⟩
theorem nRests_len {ws : List Tx} (h : Wv ws) (r : Tx) (c : Nat) : (nRests ws r c).length ≤ 7 := by
  unfold nRests
  cases r with
  | cons d t =>
    dsimp only
    split <;> simp
  | nil =>
    dsimp only
    rw [List.length_map]
    exact Nat.le_trans (List.length_filter_le _ _) h.n7
/-! adding what is new -/
abbrev Pr := T3 Tx Tx Bool
structure AddR (S0 : List (Pr × Bool)) (F0 l : List Pr) (st : List (Pr × Bool) × List Pr) : Prop where
  ex : ∃ nw, st.1 = S0 ++ nw.map (fun p => (p, true)) ∧ st.2 = F0 ++ nw ∧ (S0.map (·.1) ++ nw).Nodup ∧ (∀ x ∈ nw, x ∈ l) ∧ ∀ x ∈ l, x ∈ S0.map (·.1) ++ nw
theorem AddR.zero {S0 : List (Pr × Bool)} {F0 : List Pr} (h : (S0.map (·.1)).Nodup) : AddR S0 F0 [] (S0, F0) := ⟨[], by simp, by simp, by simpa using h, fun x m => (by cases m), fun x m => (by cases m)⟩
theorem keys_app (S0 : List (Pr × Bool)) (nw : List Pr) : (S0 ++ nw.map (fun p => (p, true))).map (·.1) = S0.map (·.1) ++ nw := by
  rw [List.map_append, List.map_map]
  congr 1
  exact List.map_id _
theorem AddR.keep {S0 : List (Pr × Bool)} {F0 l : List Pr} {st : List (Pr × Bool) × List Pr} {a : Pr} (h : AddR S0 F0 l st) (ha : dhas st.1 a = true) : AddR S0 F0 (l ++ [a]) st := by
  obtain ⟨nw, e1, e2, hn, h1, h2⟩ := h.ex
  refine ⟨nw, e1, e2, hn, fun x m => List.mem_append_left _ (h1 x m), fun x m => ?_⟩
  rcases List.mem_append.1 m with m | m
  · exact h2 x m
  · rw [List.mem_singleton.1 m]
    have := dhas_iff.1 ha
    rwa [e1, keys_app] at this
theorem AddR.put {S0 : List (Pr × Bool)} {F0 l : List Pr} {st : List (Pr × Bool) × List Pr} {a : Pr} (h : AddR S0 F0 l st) (ha : dhas st.1 a = false) : AddR S0 F0 (l ++ [a]) (dput st.1 a true, st.2 ++ [a]) := by
  obtain ⟨nw, e1, e2, hn, h1, h2⟩ := h.ex
  have hk : a ∉ S0.map (·.1) ++ nw := fun m => by
    rw [dhas_dec, e1, keys_app] at ha
    exact (of_decide_eq_false ha) m
  have ea : dput st.1 a true = st.1 ++ [(a, true)] := dput_new fun m => by
    rw [e1, keys_app] at m; exact hk m
  refine ⟨nw ++ [a], ?_, ?_, ?_, fun x m => ?_, fun x m => ?_⟩
  · rw [ea, e1]; simp
  · show st.2 ++ [a] = _; rw [e2]; simp
  · rw [← List.append_assoc, List.nodup_append]
    exact ⟨hn, by simp, fun x m y my => by rw [List.mem_singleton.1 my]; exact fun z => hk (z ▸ m)⟩
  · rcases List.mem_append.1 m with m | m
    · exact List.mem_append_left _ (h1 x m)
    · exact List.mem_append_right _ m
  · rw [← List.append_assoc]
    rcases List.mem_append.1 m with m | m
    · exact List.mem_append_left _ (h2 x m)
    · exact List.mem_append_right _ m
theorem AddR.len {S0 : List (Pr × Bool)} {F0 l : List Pr} {st : List (Pr × Bool) × List Pr} {ws : List Tx} (hw : Wv ws) (h : AddR S0 F0 l st) (hS : ∀ p ∈ S0.map (·.1), p ∈ Un2 ws) (hl : ∀ p ∈ l, p ∈ Un2 ws) : st.1.length ≤ 5000 ∧ st.2.length ≤ F0.length + 5000 := by
  obtain ⟨nw, e1, e2, hn, h1, h2⟩ := h.ex
  have k := nodup_len (ys := Un2 ws) hn fun x m => by
    rcases List.mem_append.1 m with m | m
    · exact hS x m
    · exact hl x (h1 x m)
  have := un2_len hw
  rw [List.length_append, List.length_map] at k
  rw [e1, e2, List.length_append, List.length_append, List.length_map]
  omega
end PL

/-! the rests left over, as the law finds them -/
namespace PL
open PySem PySem.Spec PyProof.Rows L2 Ty
theorem getI_last {α : Type} (ys : List α) (r : α) : getI (ys ++ [r]) (-1) = .ok r := by
  have e : ixN (ys ++ [r]).length (-1) = some ys.length := by
    unfold ixN
    rw [if_neg (by decide), List.length_append, List.length_singleton, if_pos (by omega)]
    congr 1
    omega
  unfold getI atI
  rw [e]
  simp
theorem cut_last {α : Type} (ys : List α) (r : α) : cut (ys ++ [r]) none (some (-1)) = ys := by
  unfold cut
  rw [HT.sIx_none]
  have : HT.sIx (ys ++ [r]).length (ys ++ [r]).length (some (-1)) = ys.length := by
    unfold HT.sIx
    dsimp only
    rw [if_pos (by decide), List.length_append, List.length_singleton]
    omega
  rw [this]
  simp
theorem pre_iff {a b : Tx} : b.take a.length = a ↔ ∃ t, b = a ++ t := by
  constructor
  · intro h
    exact ⟨b.drop a.length, by conv => lhs; rw [← List.take_append_drop a.length b, h]⟩
  · rintro ⟨t, rfl⟩
    simp
/-- the first rests -/
def inits (ws : List Tx) : List Tx := ws.flatMap fun a => ws.flatMap fun b => if decide (a ≠ b) && decide (b.take a.length = a) then [b.drop a.length] else []
def nexts (ws : List Tx) (r : Tx) : List Tx := ws.flatMap fun w => (if decide (r ≠ []) && decide (w.take r.length = r) then [w.drop r.length] else []) ++ (if decide (r ≠ []) && decide (r.take w.length = w) then [r.drop w.length] else [])
theorem inits_mem {ws : List Tx} {t : Tx} : t ∈ inits ws ↔ ∃ a ∈ ws, ∃ b ∈ ws, a ≠ b ∧ b = a ++ t := by
  unfold inits
  simp only [List.mem_flatMap]
  constructor
  · rintro ⟨a, ha, b, hb, h⟩
    split at h
    · rename_i k
      obtain ⟨k1, k2⟩ := Bool.and_eq_true_iff.1 k
      have k1 := of_decide_eq_true k1
      obtain ⟨t', e⟩ := pre_iff.1 (of_decide_eq_true k2)
      rw [List.mem_singleton] at h
      refine ⟨a, ha, b, hb, k1, ?_⟩
      rw [h, e]
      simp
    · cases h
  · rintro ⟨a, ha, b, hb, h, e⟩
    refine ⟨a, ha, b, hb, ?_⟩
    rw [if_pos (by rw [Bool.and_eq_true_iff]; exact ⟨decide_eq_true h, decide_eq_true (pre_iff.2 ⟨t, e⟩)⟩), e]
    simp
theorem nexts_mem {ws : List Tx} {r t : Tx} : t ∈ nexts ws r ↔ r ≠ [] ∧ ∃ w ∈ ws, w = r ++ t ∨ r = w ++ t := by
  unfold nexts
  simp only [List.mem_flatMap, List.mem_append]
  constructor
  · rintro ⟨w, hw, h | h⟩
    · split at h
      · rename_i k
        obtain ⟨k1, k2⟩ := Bool.and_eq_true_iff.1 k
        obtain ⟨t', e⟩ := pre_iff.1 (of_decide_eq_true k2)
        rw [List.mem_singleton] at h
        exact ⟨of_decide_eq_true k1, w, hw, .inl (by rw [h, e]; simp)⟩
      · cases h
    · split at h
      · rename_i k
        obtain ⟨k1, k2⟩ := Bool.and_eq_true_iff.1 k
        obtain ⟨t', e⟩ := pre_iff.1 (of_decide_eq_true k2)
        rw [List.mem_singleton] at h
        exact ⟨of_decide_eq_true k1, w, hw, .inr (by rw [h, e]; simp)⟩
      · cases h
  · rintro ⟨h, w, hw, e | e⟩
    · refine ⟨w, hw, .inl ?_⟩
      rw [if_pos (by rw [Bool.and_eq_true_iff]; exact ⟨decide_eq_true h, decide_eq_true (pre_iff.2 ⟨t, e⟩)⟩), e]
      simp
    · refine ⟨w, hw, .inr ?_⟩
      rw [if_pos (by rw [Bool.and_eq_true_iff]; exact ⟨decide_eq_true h, decide_eq_true (pre_iff.2 ⟨t, e⟩)⟩), e]
      simp
theorem inits_len {ws : List Tx} (h : Wv ws) : (inits ws).length ≤ 49 := by
  have h7 := h.n7
  have h1 : ∀ a ∈ ws, (ws.flatMap fun b => if decide (a ≠ b) && decide (b.take a.length = a) then [b.drop a.length] else []).length ≤ 7 := fun a _ => by
    have := flatMap_len (h := fun b => if decide (a ≠ b) && decide (b.take a.length = a) then [b.drop a.length] else []) (n := 1) (xs := ws) fun b _ => by split <;> simp
    omega
  have := flatMap_len h1
  unfold inits
  omega
theorem nexts_len {ws : List Tx} (h : Wv ws) (r : Tx) : (nexts ws r).length ≤ 14 := by
  have h7 := h.n7
  have := flatMap_len (h := fun w : Tx => (if decide (r ≠ []) && decide (w.take r.length = r) then [w.drop r.length] else []) ++ (if decide (r ≠ []) && decide (r.take w.length = w) then [r.drop w.length] else [])) (n := 2) (xs := ws) fun b _ => by split <;> split <;> simp
  exact Nat.le_trans this (by omega)
structure LfI (ws : List Tx) (st : List Tx × List (Tx × Bool)) : Prop where
  nd : (st.2.map (·.1)).Nodup
  lf : ∀ t, t ∈ st.1 ∨ t ∈ st.2.map (·.1) → Left ws t ∧ t ∈ Un ws
  base : ∀ t ∈ inits ws, t ∈ st.1 ∨ t ∈ st.2.map (·.1)
  clo : ∀ r ∈ st.2.map (·.1), ∀ t ∈ nexts ws r, t ∈ st.1 ∨ t ∈ st.2.map (·.1)
  ln : st.1.length ≤ 49 + 14 * st.2.length
theorem LfI.len {ws : List Tx} (hw : Wv ws) {st : List Tx × List (Tx × Bool)} (h : LfI ws st) : st.2.length ≤ 50 := by
  have := nodup_len h.nd fun t m => (h.lf t (.inr m)).2
  have := un_len hw
  rw [List.length_map] at *
  omega
theorem LfI.start {ws : List Tx} (hw : Wv ws) : LfI ws (inits ws, []) := by
  refine ⟨by simp, fun t m => ?_, fun t m => .inl m, fun r m => (by cases m), by have := inits_len hw; simpa using this⟩
  rcases m with m | m
  · obtain ⟨a, ha, b, hb, h, e⟩ := inits_mem.1 m
    exact ⟨.base ha hb h e, un_app (a := a) (by rw [← e]; exact un_word hb)⟩
  · cases m
theorem LfI.skip {ws : List Tx} {q : List Tx} {r : Tx} {d : List (Tx × Bool)} (h : LfI ws (q ++ [r], d)) (hr : r ∈ d.map (·.1)) : LfI ws (q, d) := by
  have mv : ∀ {t : Tx}, t ∈ q ++ [r] ∨ t ∈ d.map (·.1) → t ∈ q ∨ t ∈ d.map (·.1) := fun {t} m => by
    rcases m with m | m
    · rcases List.mem_append.1 m with m | m
      · exact .inl m
      · rw [List.mem_singleton.1 m]; exact .inr hr
    · exact .inr m
  have hl := h.ln
  refine ⟨h.nd, fun t m => h.lf t ?_, fun t m => mv (h.base t m), fun x m t mt => mv (h.clo x m t mt), by simp at hl ⊢; omega⟩
  rcases m with m | m
  · exact .inl (List.mem_append_left _ m)
  · exact .inr m
theorem LfI.take {ws : List Tx} (hw : Wv ws) {q : List Tx} {r : Tx} {d : List (Tx × Bool)} (h : LfI ws (q ++ [r], d)) (hr : r ∉ d.map (·.1)) : LfI ws (q ++ nexts ws r, d ++ [(r, true)]) := by
  have ek : (d ++ [(r, true)]).map (·.1) = d.map (·.1) ++ [r] := by simp
  have mv : ∀ {t : Tx}, t ∈ q ++ [r] ∨ t ∈ d.map (·.1) → t ∈ q ++ nexts ws r ∨ t ∈ (d ++ [(r, true)]).map (·.1) := fun {t} m => by
    rw [ek]
    rcases m with m | m
    · rcases List.mem_append.1 m with m | m
      · exact .inl (List.mem_append_left _ m)
      · exact .inr (List.mem_append_right _ m)
    · exact .inr (List.mem_append_left _ m)
  obtain ⟨lr, ur⟩ := h.lf r (.inl (by simp))
  have hl := h.ln
  refine ⟨?_, fun t m => ?_, fun t m => mv (h.base t m), fun x m t mt => ?_, ?_⟩
  · show ((d ++ [(r, true)]).map (·.1)).Nodup
    rw [ek, List.nodup_append]
    exact ⟨h.nd, by simp, fun x m y my => by rw [List.mem_singleton.1 my]; exact fun z => hr (z ▸ m)⟩
  · rcases m with m | m
    · rcases List.mem_append.1 m with m | m
      · exact h.lf t (.inl (List.mem_append_left _ m))
      · obtain ⟨hne, w, hw', e | e⟩ := nexts_mem.1 m
        · exact ⟨.up lr hne hw' e, un_app (a := r) (by rw [← e]; exact un_word hw')⟩
        · exact ⟨.dn lr hne hw' e, un_app (a := w) (by rw [← e]; exact ur)⟩
    · have m : t ∈ (d ++ [(r, true)]).map (·.1) := m
      rw [ek] at m
      rcases List.mem_append.1 m with m | m
      · exact h.lf t (.inr m)
      · rw [List.mem_singleton.1 m]; exact ⟨lr, ur⟩
  · have m : x ∈ (d ++ [(r, true)]).map (·.1) := m
    rw [ek] at m
    rcases List.mem_append.1 m with m | m
    · exact mv (h.clo x m t mt)
    · rw [List.mem_singleton.1 m] at mt
      exact .inl (List.mem_append_right _ mt)
  · have := nexts_len hw r
    simp at hl ⊢
    omega
theorem LfI.fin {ws : List Tx} {d : List (Tx × Bool)} (h : LfI ws ([], d)) (t : Tx) : t ∈ d.map (·.1) ↔ Left ws t := by
  have mv : ∀ {t : Tx}, t ∈ ([] : List Tx) ∨ t ∈ d.map (·.1) → t ∈ d.map (·.1) := fun {t} m => by
    rcases m with m | m
    · cases m
    · exact m
  constructor
  · intro m; exact (h.lf t (.inr m)).1
  · intro hl
    induction hl with
    | base ha hb hab e => exact mv (h.base _ (inits_mem.2 ⟨_, ha, _, hb, hab, e⟩))
    | up _ hr hw e ih => exact mv (h.clo _ ih _ (nexts_mem.2 ⟨hr, _, hw, .inl e⟩))
    | dn _ hr hw e ih => exact mv (h.clo _ ih _ (nexts_mem.2 ⟨hr, _, hw, .inr e⟩))
end PL

/-! greatest common divisors and fractions -/
namespace PL
open PySem PySem.Spec PyProof.Rows L2 Ty
def bl (p : Nat) : Nat := if p = 0 then 0 else p.log2 + 1
theorem bl_half {p q : Nat} (h : 2 * q < p) : bl q < bl p := by
  unfold bl
  rw [if_neg (show p ≠ 0 by omega)]
  split
  · omega
  · rename_i hq
    have h1 := Nat.log2_self_le hq
    have : q.log2 + 1 ≤ p.log2 := (Nat.le_log2 (by omega)).2 (by rw [Nat.pow_succ]; omega)
    omega
theorem bl_le {p n : Nat} (h : p < 2 ^ n) : bl p ≤ n := by
  unfold bl
  split
  · omega
  · rename_i hp
    have := (Nat.log2_lt hp).2 h
    omega
def gmu (x y : Nat) : Nat := 2 * bl (x * y) + if x < y then 1 else 0
theorem gmu_lt {x y : Nat} (hy : 0 < y) : gmu y (x % y) < gmu x y := by
  unfold gmu
  have hm := Nat.mod_lt x hy
  rw [if_neg (by omega)]
  by_cases h : x < y
  · rw [if_pos h, Nat.mod_eq_of_lt h, Nat.mul_comm y x]
    omega
  · rw [if_neg h]
    have h2 : 2 * (x % y) < x := by
      have h3 := Nat.div_add_mod x y
      have h4 : 1 ≤ x / y := (Nat.le_div_iff_mul_le hy).2 (by omega)
      have h5 : y * 1 ≤ y * (x / y) := Nat.mul_le_mul_left y h4
      omega
    have : bl (y * (x % y)) < bl (x * y) := bl_half (by
      have := Nat.mul_lt_mul_of_pos_right h2 hy
      rw [Nat.mul_comm y]
      rw [← Nat.mul_assoc]
      exact this)
    omega
/-- a fraction in its least terms -/
def red (a b : Nat) : Int × Int := ((a / Nat.gcd a b : Nat), (b / Nat.gcd a b : Nat))
theorem red_eq {a b c d : Nat} (hb : 0 < b) (hd : 0 < d) (h : a * d = c * b) : red a b = red c d := by
  have g0 : 0 < Nat.gcd a b := Nat.gcd_pos_of_pos_right _ hb
  have h0 : 0 < Nat.gcd c d := Nat.gcd_pos_of_pos_right _ hd
  have e : Nat.gcd a b * d = Nat.gcd c d * b := by
    rw [← Nat.gcd_mul_right, ← Nat.gcd_mul_right, h, Nat.mul_comm b d]
  unfold red
  generalize hg : Nat.gcd a b = g at *
  generalize hh : Nat.gcd c d = k at *
  obtain ⟨a', ea⟩ : g ∣ a := hg ▸ Nat.gcd_dvd_left a b
  obtain ⟨b', eb⟩ : g ∣ b := hg ▸ Nat.gcd_dvd_right a b
  obtain ⟨c', ec⟩ : k ∣ c := hh ▸ Nat.gcd_dvd_left c d
  obtain ⟨d', ed⟩ : k ∣ d := hh ▸ Nat.gcd_dvd_right c d
  have e1 : d' = b' := by
    rw [ed, eb] at e
    have e : (g * k) * d' = (g * k) * b' := by
      calc (g * k) * d' = g * (k * d') := by ac_rfl
        _ = k * (g * b') := e
        _ = (g * k) * b' := by ac_rfl
    exact Nat.eq_of_mul_eq_mul_left (Nat.mul_pos g0 h0) e
  have b0 : 0 < b' := by
    cases b' with
    | zero => rw [eb] at hb; simp at hb
    | succ n => omega
  have e2 : a' = c' := by
    rw [ea, ed, ec, eb, e1] at h
    have h : (g * k * b') * a' = (g * k * b') * c' := by
      calc (g * k * b') * a' = g * a' * (k * b') := by ac_rfl
        _ = k * c' * (g * b') := h
        _ = (g * k * b') * c' := by ac_rfl
    exact Nat.eq_of_mul_eq_mul_left (Nat.mul_pos (Nat.mul_pos g0 h0) b0) h
  rw [ea, eb, ec, ed, e1, e2, Nat.mul_div_cancel_left _ g0, Nat.mul_div_cancel_left _ g0, Nat.mul_div_cancel_left _ h0, Nat.mul_div_cancel_left _ h0]
theorem cMul_of {i j : Int} (h : j.natAbs < 2 ^ 63) : cMul i j = true := by
  unfold cMul
  rw [decide_eq_true h]
  simp
theorem cDiv_of {i j : Int} (h0 : 0 < j) (h : j.natAbs < 2 ^ 63) : cDiv i j = true := by
  unfold cDiv
  have : j.natAbs.log2 < 9000 := by
    have := (Nat.log2_lt (n := j.natAbs) (k := 63) (by omega)).2 h
    omega
  rw [decide_eq_true h0, decide_eq_true this]
  rfl
end PL

/-! the readings of a string, in order -/
namespace PL
open PySem PySem.Spec PyProof.Rows L2 Ty
open TyL (lexL)
/-- the string behind word k -/
def ch (ws : List Tx) (t : Tx) (k : Nat) : Option Tx := match ws[k]? with
  | some w => if t.take w.length = w then some (t.drop w.length) else none
  | none => none
def rds (ws : List Tx) : Nat → Tx → List (List Int)
  | 0, _ => []
  | _ + 1, [] => [[]]
  | n + 1, c :: s => (List.range ws.length).flatMap fun k => match ch ws (c :: s) k with
    | some t => (rds ws n t).map fun r => (k : Int) :: r
    | none => []
def R (ws : List Tx) (s : Tx) : List (List Int) := rds ws (s.length + 1) s
theorem ch_some {ws : List Tx} {t u : Tx} {k : Nat} : ch ws t k = some u ↔ ∃ w, ws[k]? = some w ∧ t = w ++ u := by
  unfold ch
  cases h : ws[k]? with
  | none => simp
  | some w =>
    dsimp only
    constructor
    · intro e
      split at e
      · rename_i hp
        cases e
        exact ⟨w, rfl, by conv => lhs; rw [← List.take_append_drop w.length t, hp]⟩
      · cases e
    · rintro ⟨w', e, rfl⟩
      cases e
      rw [if_pos (by simp)]
      simp
variable {ws : List Tx}
theorem ch_lt (hne : ∀ w ∈ ws, w ≠ []) {t u : Tx} {k : Nat} (h : ch ws t k = some u) : u.length < t.length := by
  obtain ⟨w, hw, rfl⟩ := ch_some.1 h
  have := hne w (List.mem_of_getElem? hw)
  have : 0 < w.length := List.length_pos_iff.2 this
  simp
  omega
theorem rds_fuel (hne : ∀ w ∈ ws, w ≠ []) : ∀ {n m : Nat} {s : Tx}, s.length < n → s.length < m → rds ws n s = rds ws m s
  | 0, _, _, h, _ => by omega
  | _ + 1, 0, _, _, h => by omega
  | n + 1, m + 1, [], _, _ => rfl
  | n + 1, m + 1, c :: s, h1, h2 => by
    unfold rds
    have : ∀ k, (match ch ws (c :: s) k with
        | some t => (rds ws n t).map fun r => (k : Int) :: r
        | none => []) = (match ch ws (c :: s) k with
        | some t => (rds ws m t).map fun r => (k : Int) :: r
        | none => []) := fun k => by
      cases e : ch ws (c :: s) k with
      | none => rfl
      | some t =>
        have := ch_lt hne e
        dsimp only
        simp at h1 h2 this
        rw [rds_fuel hne (n := n) (m := m) (by omega) (by omega)]
    simp only [this]
theorem R_nil : R ws [] = [[]] := rfl
theorem R_cons (hne : ∀ w ∈ ws, w ≠ []) {s : Tx} (hs : s ≠ []) : R ws s = (List.range ws.length).flatMap fun k => match ch ws s k with
    | some t => (R ws t).map fun r => (k : Int) :: r
    | none => [] := by
  cases s with
  | nil => exact absurd rfl hs
  | cons c s =>
    unfold R
    rw [List.length_cons, rds]
    have : ∀ k, (match ch ws (c :: s) k with
        | some t => (rds ws (s.length + 1) t).map fun r => (k : Int) :: r
        | none => []) = (match ch ws (c :: s) k with
        | some t => (rds ws (t.length + 1) t).map fun r => (k : Int) :: r
        | none => []) := fun k => by
      cases e : ch ws (c :: s) k with
      | none => rfl
      | some t =>
        have := ch_lt hne e
        dsimp only
        simp at this
        rw [rds_fuel hne (n := s.length + 1) (m := t.length + 1) (by omega) (by omega)]
    simp only [this]
/-- r reads s -/
inductive Rd (ws : List Tx) : List Int → Tx → Prop
  | nil : Rd ws [] []
  | cons {k : Nat} {w : Tx} {r : List Int} {s : Tx} : ws[k]? = some w → Rd ws r s → Rd ws ((k : Int) :: r) (w ++ s)
theorem Rd.snoc {k : Nat} {w : Tx} (hk : ws[k]? = some w) : ∀ {r : List Int} {s : Tx}, Rd ws r s → Rd ws (r ++ [(k : Int)]) (s ++ w)
  | _, _, .nil => by
    have := Rd.cons hk (Rd.nil (ws := ws))
    simpa using this
  | _, _, .cons h1 h2 => by
    have := Rd.cons h1 (Rd.snoc hk h2)
    simpa using this
theorem Rd.unsnoc {k : Int} : ∀ {r : List Int} {t : Tx}, Rd ws (r ++ [k]) t → ∃ (j : Nat) (w s : Tx), k = j ∧ ws[j]? = some w ∧ t = s ++ w ∧ Rd ws r s
  | [], t, h => by
    cases h with
    | @cons j w r s h1 h2 =>
      cases h2
      exact ⟨j, w, [], rfl, h1, by simp, .nil⟩
  | a :: r, t, h => by
    cases h with
    | @cons j w r' s h1 h2 =>
      obtain ⟨i, v, u, e, h3, h4, h5⟩ := Rd.unsnoc h2
      exact ⟨i, v, w ++ u, e, h3, by rw [h4]; simp, .cons h1 h5⟩
theorem R_mem (hne : ∀ w ∈ ws, w ≠ []) : ∀ (n : Nat) {s : Tx} {r : List Int}, s.length ≤ n → (r ∈ R ws s ↔ Rd ws r s)
  | n, [], r, _ => by
    rw [R_nil, List.mem_singleton]
    constructor
    · rintro rfl; exact .nil
    · intro h
      generalize hs : ([] : Tx) = s at h
      cases h with
      | nil => rfl
      | cons h1 h2 =>
        have := (List.append_eq_nil_iff.1 hs.symm).1
        exact absurd this (hne _ (List.mem_of_getElem? h1))
  | 0, c :: s, r, h => by simp at h
  | n + 1, c :: s, r, h => by
    rw [R_cons hne (by simp), List.mem_flatMap]
    constructor
    · rintro ⟨k, hk, m⟩
      cases e : ch ws (c :: s) k with
      | none => rw [e] at m; cases m
      | some t =>
        rw [e] at m
        dsimp only at m
        obtain ⟨r', hr, rfl⟩ := List.mem_map.1 m
        have hl := ch_lt hne e
        obtain ⟨w, hw, es⟩ := ch_some.1 e
        rw [es]
        exact .cons hw ((R_mem hne n (by simp at h hl; omega)).1 hr)
    · intro hr
      generalize hs : (c :: s : Tx) = s' at hr
      cases hr with
      | nil => cases hs
      | @cons k w r t h1 h2 =>
        have hk : k < ws.length := (List.getElem?_eq_some_iff.1 h1).1
        refine ⟨k, List.mem_range.2 hk, ?_⟩
        have e : ch ws (w ++ t) k = some t := ch_some.2 ⟨w, h1, rfl⟩
        rw [e]
        have hl := ch_lt hne e
        rw [← hs] at hl
        simp at h hl
        exact List.mem_map.2 ⟨r, (R_mem hne n (by omega)).2 h2, rfl⟩
theorem R_iff (hne : ∀ w ∈ ws, w ≠ []) {s : Tx} {r : List Int} : r ∈ R ws s ↔ Rd ws r s := R_mem hne s.length (Nat.le_refl _)
theorem R_sorted (hne : ∀ w ∈ ws, w ≠ []) : ∀ (n : Nat) {s : Tx}, s.length ≤ n → (R ws s).Pairwise fun a b => lexL a b = true
  | n, [], _ => by rw [R_nil]; exact List.pairwise_singleton _ _
  | 0, c :: s, h => by simp at h
  | n + 1, c :: s, h => by
    rw [R_cons hne (by simp), List.pairwise_flatMap]
    refine ⟨fun k hk => ?_, List.pairwise_lt_range.imp fun {i j} hij x hx y hy => ?_⟩
    · cases e : ch ws (c :: s) k with
      | none => exact List.Pairwise.nil
      | some t =>
        have hl := ch_lt hne e
        dsimp only
        rw [List.pairwise_map]
        refine (R_sorted hne n (s := t) (by simp at h hl; omega)).imp fun {a b} hab => ?_
        unfold lexL
        rw [if_pos rfl]
        exact hab
    · cases e : ch ws (c :: s) i with
      | none => rw [e] at hx; cases hx
      | some t =>
        cases e2 : ch ws (c :: s) j with
        | none => rw [e2] at hy; cases hy
        | some u =>
          rw [e] at hx
          rw [e2] at hy
          obtain ⟨x', _, rfl⟩ := List.mem_map.1 hx
          obtain ⟨y', _, rfl⟩ := List.mem_map.1 hy
          unfold lexL
          rw [if_neg (by omega)]
          exact decide_eq_true (by omega)
theorem R_nodup (hne : ∀ w ∈ ws, w ≠ []) (s : Tx) : (R ws s).Nodup := (R_sorted hne s.length (Nat.le_refl _)).imp fun {a b} h e => by
  subst e
  have := TyL.lex_asym h
  rw [h] at this
  cases this
theorem sort_R (hne : ∀ w ∈ ws, w ≠ []) {s : Tx} {xs : List (List Int)} (hn : xs.Nodup) (hm : ∀ r, r ∈ xs ↔ Rd ws r s) : sortT xs = R ws s := by
  refine (sortT_uniq ?_ ?_).symm
  · exact (List.perm_ext_iff_of_nodup (R_nodup hne s) hn).2 fun r => (R_iff hne).trans (hm r).symm
  · refine (R_sorted hne s.length (Nat.le_refl _)).imp fun {a b} h => ?_
    unfold leL
    rw [TyL.lex_asym h]
    rfl
/-! how many -/
theorem tot_erase {β : Type} [DecidableEq β] (f : β → Nat) {a : β} : ∀ {xs : List β}, a ∈ xs → tot f xs = f a + tot f (xs.erase a)
  | x :: xs, h => by
    by_cases e : x = a
    · subst e
      rw [List.erase_cons_head, tot_cons]
    · rw [List.erase_cons_tail (by simpa using e), tot_cons, tot_cons]
      have m : a ∈ xs := by
        rcases List.mem_cons.1 h with h | h
        · exact absurd h.symm e
        · exact h
      rw [tot_erase f m]
      omega
theorem tot_sub {β : Type} [DecidableEq β] (f : β → Nat) : ∀ {xs ys : List β}, xs.Nodup → (∀ x ∈ xs, x ∈ ys) → tot f xs ≤ tot f ys
  | [], ys, _, _ => Nat.zero_le _
  | x :: xs, ys, h, hs => by
    obtain ⟨hx, hn⟩ := List.nodup_cons.1 h
    have m := hs x List.mem_cons_self
    have := tot_sub f (ys := ys.erase x) hn fun y my => (List.mem_erase_of_ne (fun z : y = x => hx (z ▸ my))).2 (hs y (List.mem_cons_of_mem _ my))
    rw [tot_cons, tot_erase f m]
    omega
theorem tot_pow : ∀ n : Nat, tot (fun l => 2 ^ (n - (l + 1))) (List.range n) + 1 = 2 ^ n
  | 0 => rfl
  | n + 1 => by
    rw [List.range_succ_eq_map, tot_cons, tot_map]
    have e : tot (fun x => 2 ^ (n + 1 - (Nat.succ x + 1))) (List.range n) = tot (fun l => 2 ^ (n - (l + 1))) (List.range n) := tot_congr fun x _ => by
      congr 1
      omega
    rw [e]
    have := tot_pow n
    rw [Nat.pow_succ]
    have e2 : n + 1 - (0 + 1) = n := by omega
    rw [e2]
    omega
/-- the lengths of the words that begin s -/
def fits (ws : List Tx) (s : Tx) : List Nat := (List.range ws.length).filterMap fun k => (ch ws s k).map fun t => s.length - t.length - 1
theorem R_len (hne : ∀ w ∈ ws, w ≠ []) (hn : ws.Nodup) : ∀ (n : Nat) {s : Tx}, s.length ≤ n → (R ws s).length ≤ 2 ^ s.length
  | n, [], _ => by rw [R_nil]; simp
  | 0, c :: s, h => by simp at h
  | n + 1, c :: s, h => by
    rw [R_cons hne (by simp)]
    generalize hs : (c :: s : Tx) = S at *
    have step : ∀ k, (match ch ws S k with
        | some t => (R ws t).map fun r => (k : Int) :: r
        | none => []).length ≤ tot (fun l => 2 ^ (S.length - (l + 1))) (((ch ws S k).map fun t => S.length - t.length - 1).toList) := fun k => by
      cases e : ch ws S k with
      | none => simp
      | some t =>
        have hl := ch_lt hne e
        have := R_len hne hn n (s := t) (by omega)
        dsimp only
        rw [List.length_map]
        simp only [Option.map_some, Option.toList_some, tot, List.map_cons, List.map_nil, List.sum_cons, List.sum_nil]
        have e2 : S.length - (S.length - t.length - 1 + 1) = t.length := by omega
        rw [e2]
        omega
    have tl : ∀ ks : List Nat, (ks.flatMap fun k => match ch ws S k with
        | some t => (R ws t).map fun r => (k : Int) :: r
        | none => []).length ≤ tot (fun l => 2 ^ (S.length - (l + 1))) (ks.filterMap fun k => (ch ws S k).map fun t => S.length - t.length - 1) := fun ks => by
      induction ks with
      | nil => simp [tot]
      | cons k ks ih =>
        rw [List.flatMap_cons, List.length_append, List.filterMap_cons]
        have hk := step k
        cases e : ch ws S k with
        | none =>
          rw [e] at hk
          simp only [Option.map_none] at hk ⊢
          simpa using ih
        | some t =>
          rw [e] at hk
          simp only [Option.map_some, Option.toList_some] at hk ⊢
          rw [tot_cons]
          simp only [tot, List.map_cons, List.map_nil, List.sum_cons, List.sum_nil] at hk ih ⊢
          omega
    have hnd : (fits ws S).Nodup := by
      unfold fits
      refine List.Pairwise.filterMap _ ?_ (List.pairwise_lt_range (n := ws.length))
      intro i j hij a ha b hb
      cases e1 : ch ws S i with
      | none => rw [e1] at ha; cases ha
      | some t =>
        cases e2 : ch ws S j with
        | none => rw [e2] at hb; cases hb
        | some u =>
          rw [e1] at ha
          rw [e2] at hb
          simp at ha hb
          obtain ⟨w, hw, es⟩ := ch_some.1 e1
          obtain ⟨v, hv, es2⟩ := ch_some.1 e2
          have l1 := ch_lt hne e1
          have l2 := ch_lt hne e2
          intro hab
          have e3 := congrArg List.length es
          have e4 := congrArg List.length es2
          rw [List.length_append] at e3 e4
          have lwv : w.length = v.length := by omega
          have : w = v := by
            have h1 : S.take w.length = w := by rw [es]; simp
            have h2 : S.take v.length = v := by rw [es2]; simp
            rw [← h1, ← h2, lwv]
          subst this
          have hi := (List.getElem?_eq_some_iff.1 hw)
          have hj := (List.getElem?_eq_some_iff.1 hv)
          obtain ⟨i1, i2⟩ := hi
          obtain ⟨j1, j2⟩ := hj
          exact List.pairwise_iff_getElem.1 hn i j i1 j1 hij (i2.trans j2.symm)
    have hsub := tot_sub (fun l => 2 ^ (S.length - (l + 1))) (ys := List.range S.length) hnd fun x m => by
      unfold fits at m
      obtain ⟨k, _, hk⟩ := List.mem_filterMap.1 m
      cases e : ch ws S k with
      | none => rw [e] at hk; cases hk
      | some t =>
        rw [e] at hk
        have := ch_lt hne e
        simp at hk
        exact List.mem_range.2 (by omega)
    have h1 := tl (List.range ws.length)
    have h2 := tot_pow S.length
    unfold fits at hsub
    omega
end PL

/-! the law's readings, place by place -/
namespace PL
open PySem PySem.Spec PyProof.Rows L2 Ty
section
variable {κ ν : Type} [DecidableEq κ]
theorem dget_put_new {d : List (κ × ν)} {k j : κ} {v : ν} (h : k ∉ d.map (·.1)) : dget (d ++ [(k, v)]) j = if j = k then some v else dget d j := by
  unfold dget
  rw [List.find?_append]
  by_cases e : j = k
  · subst e
    have : d.find? (fun e => decide (e.1 = j)) = none := by
      rw [List.find?_eq_none]
      intro x mx z
      exact h (List.mem_map.2 ⟨x, mx, of_decide_eq_true z⟩)
    rw [this, if_pos rfl]
    simp
  · rw [if_neg e]
    have : ([(k, v)] : List (κ × ν)).find? (fun e => decide (e.1 = j)) = none := by
      rw [List.find?_cons_of_neg (by simp; exact fun z => e z.symm)]
      rfl
    rw [this]
    simp
theorem dget_map {k j : κ} {v : ν} : ∀ d : List (κ × ν), dget (d.map fun e => if e.1 = k then (e.1, v) else e) j = if j = k then (dget d j).map (fun _ => v) else dget d j
  | [] => by simp [dget]
  | x :: d => by
    have ih := dget_map (k := k) (j := j) (v := v) d
    unfold dget at ih ⊢
    rw [List.map_cons]
    by_cases h1 : x.1 = j
    · have e1 : (if x.1 = k then (x.1, v) else x).1 = j := by split <;> exact h1
      rw [List.find?_cons_of_pos (p := fun e : κ × ν => decide (e.1 = j)) (decide_eq_true e1), List.find?_cons_of_pos (p := fun e : κ × ν => decide (e.1 = j)) (decide_eq_true h1)]
      by_cases e : j = k
      · rw [if_pos e, if_pos (h1.trans e)]
        rfl
      · rw [if_neg e, if_neg fun z => e (h1.symm.trans z)]
    · have e1 : ¬ (if x.1 = k then (x.1, v) else x).1 = j := by split <;> exact h1
      rw [List.find?_cons_of_neg (p := fun e : κ × ν => decide (e.1 = j)) (by simpa using e1), List.find?_cons_of_neg (p := fun e : κ × ν => decide (e.1 = j)) (by simpa using h1)]
      exact ih
theorem dget_dput (d : List (κ × ν)) (k j : κ) (v : ν) : dget (dput d k v) j = if j = k then some v else dget d j := by
  unfold dput
  by_cases h : dhas d k = true
  · rw [if_pos h, dget_map]
    by_cases e : j = k
    · subst e
      rw [if_pos rfl, if_pos rfl]
      unfold dhas at h
      cases e : dget d j with
      | none => rw [e] at h; cases h
      | some u => rfl
    · rw [if_neg e, if_neg e]
  · rw [if_neg h]
    exact dget_put_new fun m => h (dhas_iff.2 m)
theorem keys_dput (d : List (κ × ν)) (k : κ) (v : ν) : (dput d k v).map (·.1) = if k ∈ d.map (·.1) then d.map (·.1) else d.map (·.1) ++ [k] := by
  unfold dput
  by_cases h : dhas d k = true
  · rw [if_pos h, if_pos (dhas_iff.1 h), List.map_map]
    refine List.map_congr_left fun x _ => ?_
    simp only [Function.comp]
    split <;> rfl
  · rw [if_neg h, if_neg fun m => h (dhas_iff.2 m)]
    simp
end
abbrev Dr := List (Int × List (List Int))
def gd (d : Dr) (q : Nat) : List (List Int) := (dget d (q : Int)).getD []
variable {ws : List Tx} {s : Tx}
theorem Rd.len (hne : ∀ w ∈ ws, w ≠ []) : ∀ {r : List Int} {t : Tx}, Rd ws r t → r.length ≤ t.length
  | _, _, .nil => Nat.le_refl _
  | _, _, .cons h1 h2 => by
    have := Rd.len hne h2
    have := List.length_pos_iff.2 (hne _ (List.mem_of_getElem? h1))
    rw [List.length_cons, List.length_append]
    omega
/-- rows whose last word starts ahead of p -/
def Pq (ws : List Tx) (s : Tx) (p q : Nat) (r : List Int) : Prop := (r = [] ∧ q = 0) ∨ ∃ (j : Nat) (w u : Tx) (r' : List Int), r = r' ++ [(j : Int)] ∧ ws[j]? = some w ∧ s.take q = u ++ w ∧ Rd ws r' u ∧ u.length < p
theorem Pq.rd {p q : Nat} {r : List Int} (h : Pq ws s p q r) : Rd ws r (s.take q) := by
  rcases h with ⟨rfl, rfl⟩ | ⟨j, w, u, r', rfl, hw, e, hr, _⟩
  · exact .nil
  · rw [e]; exact hr.snoc hw
theorem Pq.of_rd (hne : ∀ w ∈ ws, w ≠ []) {p q : Nat} {r : List Int} (hq : q ≤ p) (hqs : q ≤ s.length) (h : Rd ws r (s.take q)) : Pq ws s p q r := by
  rcases List.eq_nil_or_concat r with e | ⟨r', k, e⟩
  · subst e
    generalize ht : s.take q = t at h
    cases h
    refine .inl ⟨rfl, ?_⟩
    have := congrArg List.length ht
    rw [List.length_take] at this
    simp at this
    rcases this with h | h
    · exact h
    · subst h; simpa using hqs
  · rw [List.concat_eq_append] at e
    subst e
    obtain ⟨j, w, u, ek, hw, e, hr⟩ := h.unsnoc
    subst ek
    refine .inr ⟨j, w, u, r', rfl, hw, e, hr, ?_⟩
    have := congrArg List.length e
    rw [List.length_take, List.length_append] at this
    have := List.length_pos_iff.2 (hne _ (List.mem_of_getElem? hw))
    omega
structure Jd (ws : List Tx) (s : Tx) (p : Nat) (D : List Int → Nat → Prop) (d : Dr) : Prop where
  nd : (d.map (·.1)).Nodup
  ks : ∀ k ∈ d.map (·.1), ∃ q : Nat, k = (q : Int) ∧ q ≤ s.length
  un : ∀ q, q ≤ s.length → (gd d q).Nodup
  mem : ∀ q, q ≤ s.length → ∀ r, r ∈ gd d q ↔ Pq ws s p q r ∨ ∃ r' k w, D r' k ∧ r = r' ++ [(k : Int)] ∧ ws[k]? = some w ∧ (s.drop p).take w.length = w ∧ q = p + w.length
theorem Jd.len {p : Nat} {D : List Int → Nat → Prop} {d : Dr} (h : Jd ws s p D d) : d.length ≤ s.length + 1 := by
  have := nodup_len (ys := (List.range (s.length + 1)).map fun (q : Nat) => (q : Int)) h.nd fun k m => by
    obtain ⟨q, e, hq⟩ := h.ks k m
    exact List.mem_map.2 ⟨q, List.mem_range.2 (by omega), e.symm⟩
  simpa using this
theorem Jd.congr {p : Nat} {D D' : List Int → Nat → Prop} {d : Dr} (h : Jd ws s p D d) (e : ∀ a b, D a b ↔ D' a b) : Jd ws s p D' d := by
  have : D = D' := by funext a b; exact propext (e a b)
  rw [← this]; exact h
theorem Jd.start : Jd ws s 0 (fun _ _ => False) [(0, [[]])] := by
  refine ⟨by simp, fun k m => ?_, fun q hq => ?_, fun q hq r => ?_⟩
  · simp at m; exact ⟨0, by simp [m], Nat.zero_le _⟩
  · unfold gd dget
    by_cases h : q = 0
    · subst h; simp
    · have : ¬ (0 : Int) = (q : Int) := by omega
      simp [this]
  · unfold gd dget
    by_cases h : q = 0
    · subst h
      simp [Pq]
    · have : ¬ (0 : Int) = (q : Int) := by omega
      simp [this, Pq, h]
theorem Jd.rd (hne : ∀ w ∈ ws, w ≠ []) {p : Nat} {D : List Int → Nat → Prop} {d : Dr} (h : Jd ws s p D d) (hD : ∀ a b, D a b → Rd ws a (s.take p)) {q : Nat} (hq : q ≤ s.length) {r : List Int} (m : r ∈ gd d q) : Rd ws r (s.take q) := by
  rcases (h.mem q hq r).1 m with k | ⟨r', k, w, hd, rfl, hw, e, rfl⟩
  · exact k.rd
  · have : s.take (p + w.length) = s.take p ++ w := by rw [List.take_add, e]
    rw [this]
    exact (hD _ _ hd).snoc hw
theorem Jd.small (hne : ∀ w ∈ ws, w ≠ []) {p : Nat} {D : List Int → Nat → Prop} {d : Dr} (h : Jd ws s p D d) (hD : ∀ a b, D a b → Rd ws a (s.take p)) {B : Nat} (hB : ∀ q, q ≤ s.length → (R ws (s.take q)).length ≤ B) {q : Nat} (hq : q ≤ s.length) : (gd d q).length ≤ B :=
  Nat.le_trans (nodup_len (h.un q hq) fun r m => (R_iff hne).2 (h.rd hne hD hq m)) (hB q hq)
/-- a word that does not fit -/
theorem Jd.skip {p : Nat} {D : List Int → Nat → Prop} {d : Dr} (h : Jd ws s p D d) {r' : List Int} {k : Nat} {w : Tx} (hw : ws[k]? = some w) (hn : ¬ (s.drop p).take w.length = w) : Jd ws s p (fun a b => D a b ∨ (a = r' ∧ b = k)) d := by
  refine ⟨h.nd, h.ks, h.un, fun q hq r => (h.mem q hq r).trans ?_⟩
  constructor
  · rintro (m | ⟨a, b, v, h1, h2⟩)
    · exact .inl m
    · exact .inr ⟨a, b, v, .inl h1, h2⟩
  · rintro (m | ⟨a, b, v, h1 | ⟨rfl, rfl⟩, h2, h3, h4, h5⟩)
    · exact .inl m
    · exact .inr ⟨a, b, v, h1, h2, h3, h4, h5⟩
    · rw [hw] at h3
      cases h3
      exact absurd h4 hn
/-- a word that fits -/
theorem Jd.put {p : Nat} {D : List Int → Nat → Prop} {d : Dr} (h : Jd ws s p D d) {r' : List Int} {k : Nat} {w : Tx} (hw : ws[k]? = some w) (hm : (s.drop p).take w.length = w) (hle : p + w.length ≤ s.length) (hD : ¬ D r' k) :
    Jd ws s p (fun a b => D a b ∨ (a = r' ∧ b = k)) (dput d ((p : Int) + (w.length : Int)) (gd d (p + w.length) ++ [r' ++ [(k : Int)]])) := by
  have ek : ((p : Int) + (w.length : Int)) = ((p + w.length : Nat) : Int) := by simp
  rw [ek]
  have hg : ∀ q, gd (dput d ((p + w.length : Nat) : Int) (gd d (p + w.length) ++ [r' ++ [(k : Int)]])) q = if q = p + w.length then gd d (p + w.length) ++ [r' ++ [(k : Int)]] else gd d q := fun q => by
    unfold gd
    rw [dget_dput]
    by_cases e : q = p + w.length
    · subst e
      rw [if_pos rfl, if_pos rfl]
      rfl
    · rw [if_neg (by omega), if_neg e]
  have hnew : r' ++ [(k : Int)] ∉ gd d (p + w.length) := fun m => by
    rcases (h.mem _ hle _).1 m with hp | ⟨a, b, v, h1, h2, _⟩
    · rcases hp with ⟨z, _⟩ | ⟨j, v, u, a, h1, h2, h3, _, h5⟩
      · simp at z
      · obtain ⟨_, h1⟩ := List.append_inj' h1 rfl
        have hjk : j = k := by have := (List.cons.inj h1).1; omega
        subst hjk
        rw [hw] at h2
        cases h2
        have := congrArg List.length h3
        rw [List.length_take, List.length_append] at this
        omega
    · obtain ⟨h0, h1'⟩ := List.append_inj' h2 rfl
      have hjk : b = k := by have := (List.cons.inj h1').1; omega
      subst hjk h0
      exact hD h1
  refine ⟨?_, fun x m => ?_, fun q hq => ?_, fun q hq r => ?_⟩
  · rw [keys_dput]
    split
    · exact h.nd
    · rename_i hk
      rw [List.nodup_append]
      exact ⟨h.nd, by simp, fun x m y my => by rw [List.mem_singleton.1 my]; exact fun z => hk (z ▸ m)⟩
  · rw [keys_dput] at m
    split at m
    · exact h.ks x m
    · rcases List.mem_append.1 m with m | m
      · exact h.ks x m
      · exact ⟨_, List.mem_singleton.1 m, hle⟩
  · rw [hg]
    split
    · rw [List.nodup_append]
      exact ⟨h.un _ hle, by simp, fun x m y my => by rw [List.mem_singleton.1 my]; exact fun z => hnew (z ▸ m)⟩
    · exact h.un q hq
  · rw [hg]
    by_cases e : q = p + w.length
    · subst e
      rw [if_pos rfl, List.mem_append, h.mem _ hle, List.mem_singleton]
      constructor
      · rintro ((m | ⟨a, b, v, h1, h2⟩) | rfl)
        · exact .inl m
        · exact .inr ⟨a, b, v, .inl h1, h2⟩
        · exact .inr ⟨r', k, w, .inr ⟨rfl, rfl⟩, rfl, hw, hm, rfl⟩
      · rintro (m | ⟨a, b, v, h1 | ⟨rfl, rfl⟩, h2, h3⟩)
        · exact .inl (.inl m)
        · exact .inl (.inr ⟨a, b, v, h1, h2, h3⟩)
        · exact .inr h2
    · rw [if_neg e, h.mem q hq]
      constructor
      · rintro (m | ⟨a, b, v, h1, h2⟩)
        · exact .inl m
        · exact .inr ⟨a, b, v, .inl h1, h2⟩
      · rintro (m | ⟨a, b, v, h1 | ⟨rfl, rfl⟩, h2, h3, h4, h5⟩)
        · exact .inl m
        · exact .inr ⟨a, b, v, h1, h2, h3, h4, h5⟩
        · rw [hw] at h3
          cases h3
          exact absurd h5 e
theorem Jd.next {p : Nat} {D : List Int → Nat → Prop} {d : Dr} (h : Jd ws s p D d) (hD : ∀ a b, D a b ↔ Rd ws a (s.take p) ∧ b < ws.length) : Jd ws s (p + 1) (fun _ _ => False) d := by
  refine ⟨h.nd, h.ks, h.un, fun q hq r => (h.mem q hq r).trans ?_⟩
  constructor
  · rintro (m | ⟨a, b, w, h1, rfl, h3, h4, rfl⟩)
    · rcases m with m | ⟨j, w, u, r', h1, h2, h3, h4, h5⟩
      · exact .inl (.inl m)
      · exact .inl (.inr ⟨j, w, u, r', h1, h2, h3, h4, by omega⟩)
    · refine .inl (.inr ⟨b, w, s.take p, a, rfl, h3, ?_, ((hD a b).1 h1).1, ?_⟩)
      · rw [List.take_add, h4]
      · rw [List.length_take]; omega
  · rintro (m | ⟨_, _, _, z, _⟩)
    · rcases m with m | ⟨j, w, u, r', h1, h2, h3, h4, h5⟩
      · exact .inl (.inl m)
      · by_cases hu : u.length < p
        · exact .inl (.inr ⟨j, w, u, r', h1, h2, h3, h4, hu⟩)
        · have hu : u.length = p := by omega
          have hl := congrArg List.length h3
          rw [List.length_take, List.length_append] at hl
          have e1 : q = p + w.length := by omega
          have e2 : s.take p = u := by
            have := congrArg (List.take p) h3
            rw [List.take_take, List.take_left' hu] at this
            rw [← this]
            congr 1
            omega
          have e3 : (s.drop p).take w.length = w := by
            have := congrArg (List.drop p) h3
            rw [List.drop_left' hu, List.drop_take] at this
            have e : q - p = w.length := by omega
            rw [e] at this
            exact this
          refine .inr ⟨r', j, w, (hD _ _).2 ⟨by rw [e2]; exact h4, (List.getElem?_eq_some_iff.1 h2).1⟩, h1, h2, e3, e1⟩
    · exact z.elim
end PL

/-! strings by length, then by letters; the search through them -/
namespace PL
open PySem PySem.Spec PyProof.Rows L2 Ty
def Bef (s t : Tx) : Prop := s.length < t.length ∨ (s.length = t.length ∧ ltCps s t = true)
theorem lt_app : ∀ {p s : Tx} (u v : Tx), p.length = s.length → ltCps p s = true → ltCps (p ++ u) (s ++ v) = true
  | [], [], _, _, _, h => by cases h
  | [], _ :: _, _, _, h, _ => by cases h
  | _ :: _, [], _, _, h, _ => by cases h
  | x :: p, y :: s, u, v, hl, h => by
    unfold ltCps at h
    show ltCps (x :: (p ++ u)) (y :: (s ++ v)) = true
    unfold ltCps
    simp only [Bool.or_eq_true, Bool.and_eq_true, decide_eq_true_eq, beq_iff_eq] at h ⊢
    rcases h with h | ⟨h1, h2⟩
    · exact .inl h
    · exact .inr ⟨h1, lt_app u v (by simpa using hl) h2⟩
theorem lt_same : ∀ (s : Tx) {u v : Tx}, ltCps u v = true → ltCps (s ++ u) (s ++ v) = true
  | [], _, _, h => h
  | x :: s, u, v, h => by
    show ltCps (x :: (s ++ u)) (x :: (s ++ v)) = true
    unfold ltCps
    simp [lt_same s h]
theorem bef_irr {s : Tx} (h : Bef s s) : False := by
  rcases h with h | ⟨_, h⟩
  · exact Nat.lt_irrefl _ h
  · rw [lt_irr] at h; cases h
theorem bef_tr {s t u : Tx} (h1 : Bef s t) (h2 : Bef t u) : Bef s u := by
  unfold Bef at *
  rcases h1 with h1 | ⟨e1, h1⟩
  · rcases h2 with h2 | ⟨e2, h2⟩ <;> exact .inl (by omega)
  · rcases h2 with h2 | ⟨e2, h2⟩
    · exact .inl (by omega)
    · exact .inr ⟨by omega, lt_tr h1 h2⟩
theorem bef_asym {s t : Tx} (h1 : Bef s t) (h2 : Bef t s) : False := bef_irr (bef_tr h1 h2)
theorem bef_tri (s t : Tx) : s = t ∨ Bef s t ∨ Bef t s := by
  unfold Bef
  by_cases h : s.length = t.length
  · cases h1 : ltCps s t with
    | true => exact .inr (.inl (.inr ⟨h, rfl⟩))
    | false =>
      cases h2 : ltCps t s with
      | true => exact .inr (.inr (.inr ⟨h.symm, rfl⟩))
      | false => exact .inl (lt_tri h1 h2)
  · rcases Nat.lt_or_gt_of_ne h with k | k
    · exact .inr (.inl (.inl k))
    · exact .inr (.inr (.inl k))
theorem bef_app2 {p s : Tx} (u v : Tx) (hl : u.length = v.length) (h : Bef p s) : Bef (p ++ u) (s ++ v) := by
  unfold Bef at *
  rw [List.length_append, List.length_append]
  rcases h with h | ⟨e, h⟩
  · exact .inl (by omega)
  · exact .inr ⟨by omega, lt_app u v e h⟩
theorem bef_app {p s : Tx} (v : Tx) (h : Bef p s) : Bef (p ++ v) (s ++ v) := bef_app2 v v rfl h
theorem bef_sib (s : Tx) {x c : Nat} (h : x < c) : Bef (s ++ [x]) (s ++ [c]) := .inr ⟨by simp, lt_same s (by unfold ltCps; simp [h])⟩
theorem bef_child (s : Tx) (c : Nat) : Bef s (s ++ [c]) := .inl (by simp)
theorem bef_pre (s : Tx) {v : Tx} (h : v ≠ []) : Bef s (s ++ v) := .inl (by
  have := List.length_pos_iff.2 h
  rw [List.length_append]; omega)
theorem bef_nil {s : Tx} (h : s ≠ []) : Bef [] s := bef_pre [] h
theorem bef_len {s t : Tx} (h : Bef s t) : s.length ≤ t.length := by
  rcases h with h | ⟨h, _⟩ <;> omega
/-- all strings of n signs, in order -/
def strN (sg : List Nat) : Nat → List Tx
  | 0 => [[]]
  | n + 1 => (strN sg n).flatMap fun s => sg.map fun c => s ++ [c]
theorem strN_mem {sg : List Nat} : ∀ {n : Nat} {s : Tx}, s ∈ strN sg n ↔ s.length = n ∧ ∀ c ∈ s, c ∈ sg
  | 0, s => by
    unfold strN
    rw [List.mem_singleton]
    constructor
    · rintro rfl; exact ⟨rfl, fun c z => by cases z⟩
    · rintro ⟨h, _⟩; exact List.length_eq_zero_iff.1 h
  | n + 1, s => by
    unfold strN
    rw [List.mem_flatMap]
    constructor
    · rintro ⟨p, hp, h⟩
      obtain ⟨c, hc, rfl⟩ := List.mem_map.1 h
      obtain ⟨h1, h2⟩ := strN_mem.1 hp
      refine ⟨by simp [h1], fun d m => ?_⟩
      rcases List.mem_append.1 m with m | m
      · exact h2 d m
      · rw [List.mem_singleton.1 m]; exact hc
    · rintro ⟨h1, h2⟩
      have hne : s ≠ [] := fun z => by rw [z] at h1; cases h1
      refine ⟨s.dropLast, strN_mem.2 ⟨by simp [h1], fun d m => h2 d (List.dropLast_subset s m)⟩, List.mem_map.2 ⟨s.getLast hne, h2 _ (List.getLast_mem hne), List.dropLast_concat_getLast hne⟩⟩
theorem strN_len (sg : List Nat) : ∀ n, (strN sg n).length = sg.length ^ n
  | 0 => rfl
  | n + 1 => by
    have e : ∀ l : List Tx, (l.flatMap fun s => sg.map fun c => s ++ [c]).length = l.length * sg.length := fun l => by
      induction l with
      | nil => simp
      | cons a l ih => rw [List.flatMap_cons, List.length_append, ih, List.length_map, List.length_cons, Nat.succ_mul]; omega
    unfold strN
    rw [e, strN_len sg n, Nat.pow_succ]
theorem strN_asc {sg : List Nat} (hs : sg.Pairwise (· < ·)) : ∀ n, (strN sg n).Pairwise Bef
  | 0 => List.pairwise_singleton _ _
  | n + 1 => by
    unfold strN
    rw [List.pairwise_flatMap]
    refine ⟨fun s _ => List.pairwise_map.2 (hs.imp fun {x c} h => bef_sib s h), (strN_asc hs n).imp fun {a b} h x hx y hy => ?_⟩
    obtain ⟨c, _, rfl⟩ := List.mem_map.1 hx
    obtain ⟨d, _, rfl⟩ := List.mem_map.1 hy
    exact bef_app2 [c] [d] rfl h
/-- the least one of a list -/
theorem list_min : ∀ {l : List Tx}, l ≠ [] → ∃ m ∈ l, ∀ x ∈ l, x = m ∨ Bef m x
  | [], h => absurd rfl h
  | [a], _ => ⟨a, by simp, fun x m => .inl (List.mem_singleton.1 m)⟩
  | a :: b :: l, _ => by
    obtain ⟨m, hm, h⟩ := list_min (l := b :: l) (by simp)
    rcases bef_tri a m with e | k | k
    · exact ⟨a, by simp, fun x mx => by
        rcases List.mem_cons.1 mx with rfl | mx
        · exact .inl rfl
        · rw [e]; exact h x mx⟩
    · exact ⟨a, by simp, fun x mx => by
        rcases List.mem_cons.1 mx with rfl | mx
        · exact .inl rfl
        · rcases h x mx with rfl | z
          · exact .inr k
          · exact .inr (bef_tr k z)⟩
    · exact ⟨m, List.mem_cons_of_mem _ hm, fun x mx => by
        rcases List.mem_cons.1 mx with rfl | mx
        · exact .inr k
        · exact h x mx⟩
def Over (sg : List Nat) (s : Tx) : Prop := ∀ c ∈ s, c ∈ sg
theorem Over.snoc {sg : List Nat} {s : Tx} {c : Nat} (h : Over sg s) (hc : c ∈ sg) : Over sg (s ++ [c]) := fun d m => by
  rcases List.mem_append.1 m with m | m
  · exact h d m
  · rw [List.mem_singleton.1 m]; exact hc
theorem Over.app {sg : List Nat} {s t : Tx} (h : Over sg s) (h2 : Over sg t) : Over sg (s ++ t) := fun d m => (List.mem_append.1 m).elim (h d) (h2 d)
theorem Over.right {sg : List Nat} {s t : Tx} (h : Over sg (s ++ t)) : Over sg t := fun d m => h d (List.mem_append_right _ m)
theorem Over.left {sg : List Nat} {s t : Tx} (h : Over sg (s ++ t)) : Over sg s := fun d m => h d (List.mem_append_left _ m)
/-- the least string of a kind -/
structure Lst (sg : List Nat) (P : Tx → Prop) (t : Tx) : Prop where
  ov : Over sg t
  p : P t
  le : ∀ s, Over sg s → P s → s = t ∨ Bef t s
theorem Lst.uniq {sg : List Nat} {P : Tx → Prop} {s t : Tx} (h1 : Lst sg P s) (h2 : Lst sg P t) : s = t := by
  rcases h1.le t h2.ov h2.p with e | k
  · exact e.symm
  · rcases h2.le s h1.ov h1.p with e | k2
    · exact e
    · exact (bef_asym k k2).elim
open Classical in
theorem lst_ex {sg : List Nat} {P : Tx → Prop} {s : Tx} (h1 : Over sg s) (h2 : P s) : ∃ t, Lst sg P t := by
  let l := ((List.range (s.length + 1)).flatMap fun n => strN sg n).filter fun t => decide (P t)
  have hm : s ∈ l := List.mem_filter.2 ⟨List.mem_flatMap.2 ⟨s.length, List.mem_range.2 (Nat.lt_succ_self _), strN_mem.2 ⟨rfl, h1⟩⟩, by simpa using h2⟩
  obtain ⟨m, hml, h⟩ := list_min (l := l) (fun z => by rw [z] at hm; cases hm)
  obtain ⟨m1, m2⟩ := List.mem_filter.1 hml
  obtain ⟨n, hn, m3⟩ := List.mem_flatMap.1 m1
  obtain ⟨m4, m5⟩ := strN_mem.1 m3
  refine ⟨m, m5, by simpa using m2, fun t ht hp => ?_⟩
  by_cases hl : t.length ≤ s.length
  · exact h t (List.mem_filter.2 ⟨List.mem_flatMap.2 ⟨t.length, List.mem_range.2 (by omega), strN_mem.2 ⟨rfl, ht⟩⟩, by simpa using hp⟩)
  · have := List.mem_range.1 hn
    exact .inr (.inl (by omega))
/-- an answer: the least one, or that there is none -/
def Ans (sg : List Nat) (P : Tx → Prop) (o : Option Tx) : Prop := match o with
  | some t => Lst sg P t
  | none => ∀ s, Over sg s → ¬ P s
theorem Ans.uniq {sg : List Nat} {P : Tx → Prop} {a b : Option Tx} (h1 : Ans sg P a) (h2 : Ans sg P b) : a = b := by
  cases a with
  | none =>
    cases b with
    | none => rfl
    | some t => exact absurd h2.p (h1 t h2.ov)
  | some s =>
    cases b with
    | none => exact absurd h1.p (h2 s h1.ov)
    | some t => rw [Lst.uniq h1 h2]
/-! ### the search -/
section
variable {σ : Type} (δ : σ → Nat → σ) (q0 : σ)
def run (s : Tx) : σ := s.foldl δ q0
theorem run_snoc (s : Tx) (c : Nat) : run δ q0 (s ++ [c]) = δ (run δ q0 s) c := by
  unfold run; rw [List.foldl_append]; rfl
theorem run_app (s v : Tx) : run δ q0 (s ++ v) = v.foldl δ (run δ q0 s) := by
  unfold run; rw [List.foldl_append]
/-- what is waiting, what was met: each is taken out, then its state is noted -/
structure Bq (sg : List Nat) (P : Tx → Prop) (seen : List σ) (q : List (Tx × σ)) : Prop where
  ent : ∀ e ∈ q, e.2 = run δ q0 e.1 ∧ Over sg e.1
  asc : q.Pairwise fun a b => Bef a.1 b.1
  par : ∀ e ∈ q, e.1 = [] ∨ ∃ p x, e.1 = p ++ [x] ∧ ∀ e' ∈ q, Bef p e'.1
  nd : seen.Nodup
  sw : ∀ st ∈ seen, ∃ s0, run δ q0 s0 = st ∧ Over sg s0 ∧ ∀ e ∈ q, Bef s0 e.1
  pre : ∀ t, Lst sg P t → ∃ e ∈ q, ∃ v, t = e.1 ++ v
variable {δ q0} {sg : List Nat} {P : Tx → Prop} {seen : List σ} {q : List (Tx × σ)} {s : Tx} {st : σ}
theorem Bq.start : Bq δ q0 sg P [] [([], q0)] := by
  refine ⟨fun e m => ?_, List.pairwise_singleton _ _, fun e m => ?_, .nil, (fun x m => by cases m), fun t _ => ⟨([], q0), by simp, t, rfl⟩⟩
  · rw [List.mem_singleton.1 m]; exact ⟨rfl, fun c z => by cases z⟩
  · rw [List.mem_singleton.1 m]; exact .inl rfl
theorem Bq.goal (h : Bq δ q0 sg P seen ((s, st) :: q)) (hp : P s) : Lst sg P s := by
  have ho := (h.ent _ List.mem_cons_self).2
  obtain ⟨t, ht⟩ := lst_ex ho hp
  obtain ⟨e, me, v, ev⟩ := h.pre t ht
  have : s = t := by
    have h1 : s = e.1 ∨ Bef s e.1 := by
      rcases List.mem_cons.1 me with rfl | me
      · exact .inl rfl
      · exact .inr ((List.pairwise_cons.1 h.asc).1 e me)
    have h2 : e.1 = t ∨ Bef e.1 t := by
      by_cases hv : v = []
      · exact .inl (by rw [ev, hv]; simp)
      · exact .inr (by rw [ev]; exact bef_pre _ hv)
    rcases ht.le s ho hp with e' | k
    · exact e'
    · rcases h1 with h1 | h1 <;> rcases h2 with h2 | h2
      · rw [h1, h2]
      · rw [← h1] at h2; exact (bef_asym k h2).elim
      · rw [h2] at h1; exact (bef_asym k h1).elim
      · exact (bef_asym k (bef_tr h1 h2)).elim
  rw [this]; exact ht
theorem Bq.skip (hP : ∀ s s0 v, v ≠ [] → run δ q0 s = run δ q0 s0 → Bef s0 s → P (s ++ v) → P (s0 ++ v)) (h : Bq δ q0 sg P seen ((s, st) :: q)) (hn : ¬ P s) (hk : st ∈ seen ∨ ∀ v, v ≠ [] → ¬ P (s ++ v)) : Bq δ q0 sg P seen q := by
  obtain ⟨a1, a2⟩ := List.pairwise_cons.1 h.asc
  refine ⟨fun e m => h.ent e (List.mem_cons_of_mem _ m), a2, fun e m => ?_, h.nd, fun x m => ?_, fun t ht => ?_⟩
  · rcases h.par e (List.mem_cons_of_mem _ m) with z | ⟨p, x, e1, e2⟩
    · exact .inl z
    · exact .inr ⟨p, x, e1, fun e' m' => e2 e' (List.mem_cons_of_mem _ m')⟩
  · obtain ⟨s0, e1, e2, e3⟩ := h.sw x m
    exact ⟨s0, e1, e2, fun e m' => e3 e (List.mem_cons_of_mem _ m')⟩
  · obtain ⟨e, me, v, ev⟩ := h.pre t ht
    rcases List.mem_cons.1 me with rfl | me
    · exfalso
      have hv : v ≠ [] := fun z => by
        rw [z, List.append_nil] at ev
        have ev : t = s := ev
        exact hn (by rw [← ev]; exact ht.p)
      rcases hk with hk | hk
      · obtain ⟨s0, e1, e2, e3⟩ := h.sw st hk
        have hb := e3 _ List.mem_cons_self
        have hr : run δ q0 s = run δ q0 s0 := by rw [e1]; exact (h.ent _ List.mem_cons_self).1.symm
        have hp := hP s s0 v hv hr hb (by rw [← ev]; exact ht.p)
        have ho : Over sg v := by
          have := ht.ov
          rw [ev] at this
          exact this.right
        rcases ht.le _ (e2.app ho) hp with z | z
        · have := bef_app v hb
          rw [z, ev] at this
          exact bef_irr this
        · rw [ev] at z
          exact bef_asym z (bef_app v hb)
      · exact hk v hv (by rw [← ev]; exact ht.p)
    · exact ⟨e, me, v, ev⟩
theorem Bq.grow (hs : sg.Pairwise (· < ·)) (h : Bq δ q0 sg P seen ((s, st) :: q)) (hn : ¬ P s) {seen' : List σ} (hnd : seen'.Nodup) (hsn : ∀ x ∈ seen', x ∈ seen ∨ x = st) : Bq δ q0 sg P seen' (q ++ sg.map fun c => (s ++ [c], δ st c)) := by
  obtain ⟨a1, a2⟩ := List.pairwise_cons.1 h.asc
  obtain ⟨r1, o1⟩ := h.ent _ List.mem_cons_self
  have sb : ∀ e ∈ q ++ sg.map fun c => (s ++ [c], δ st c), Bef s e.1 := fun e m => by
    rcases List.mem_append.1 m with m | m
    · exact a1 e m
    · obtain ⟨c, _, rfl⟩ := List.mem_map.1 m
      exact bef_child s c
  refine ⟨fun e m => ?_, List.pairwise_append.2 ⟨a2, List.pairwise_map.2 (hs.imp fun {x c} k => bef_sib s k), fun a ma b mb => ?_⟩, fun e m => ?_, hnd, fun x m => ?_, fun t ht => ?_⟩
  · rcases List.mem_append.1 m with m | m
    · exact h.ent e (List.mem_cons_of_mem _ m)
    · obtain ⟨c, hc, rfl⟩ := List.mem_map.1 m
      exact ⟨by rw [run_snoc, ← r1], o1.snoc hc⟩
  · obtain ⟨c, hc, rfl⟩ := List.mem_map.1 mb
    rcases h.par a (List.mem_cons_of_mem _ ma) with z | ⟨p, x, e1, e2⟩
    · rw [z]; exact bef_nil (by simp)
    · rw [e1]; exact bef_app2 [x] [c] rfl (e2 _ List.mem_cons_self)
  · rcases List.mem_append.1 m with m | m
    · rcases h.par e (List.mem_cons_of_mem _ m) with z | ⟨p, x, e1, e2⟩
      · exact .inl z
      · exact .inr ⟨p, x, e1, fun e' m' => bef_tr (e2 _ List.mem_cons_self) (sb e' m')⟩
    · obtain ⟨c, _, rfl⟩ := List.mem_map.1 m
      exact .inr ⟨s, c, rfl, sb⟩
  · rcases hsn x m with m | rfl
    · obtain ⟨s0, e1, e2, e3⟩ := h.sw x m
      exact ⟨s0, e1, e2, fun e m' => bef_tr (e3 _ List.mem_cons_self) (sb e m')⟩
    · exact ⟨s, r1.symm, o1, sb⟩
  · obtain ⟨e, me, v, ev⟩ := h.pre t ht
    rcases List.mem_cons.1 me with rfl | me
    · cases v with
      | nil =>
        rw [List.append_nil] at ev
        have ev : t = s := ev
        exact absurd (by rw [← ev]; exact ht.p) hn
      | cons c v =>
        have hc : c ∈ sg := ht.ov c (by rw [ev]; simp)
        exact ⟨(s ++ [c], δ st c), List.mem_append_right _ (List.mem_map.2 ⟨c, hc, rfl⟩), v, by rw [ev]; simp⟩
    · exact ⟨e, List.mem_append_left _ me, v, ev⟩
theorem Bq.none (h : Bq δ q0 sg P seen []) : Ans sg P none := fun s ho hp => by
  obtain ⟨t, ht⟩ := lst_ex ho hp
  obtain ⟨e, me, _⟩ := h.pre t ht
  cases me
/-! each state is noted when it is put to what is waiting -/
structure Eq' (δ : σ → Nat → σ) (q0 : σ) (sg : List Nat) (P : Tx → Prop) (seen : List σ) (q : List (Tx × σ)) : Prop where
  ent : ∀ e ∈ q, e.2 = run δ q0 e.1 ∧ Over sg e.1
  asc : q.Pairwise fun a b => Bef a.1 b.1
  par : ∀ e ∈ q, e.1 = [] ∨ ∃ p x, e.1 = p ++ [x] ∧ ∀ e' ∈ q, Bef p e'.1
  nd : seen.Nodup
  sw : ∀ st ∈ seen, ∃ s0, run δ q0 s0 = st ∧ Over sg s0 ∧ (s0 = [] ∨ ∃ p x, s0 = p ++ [x] ∧ ∀ e ∈ q, Bef p e.1)
  pre : ∀ t, Lst sg P t → ∃ e ∈ q, ∃ v, t = e.1 ++ v
theorem Eq'.start : Eq' δ q0 sg P [q0] [([], q0)] := by
  refine ⟨fun e m => ?_, List.pairwise_singleton _ _, fun e m => ?_, by simp, (fun x m => ?_), fun t _ => ⟨([], q0), by simp, t, rfl⟩⟩
  · rw [List.mem_singleton.1 m]; exact ⟨rfl, fun c z => by cases z⟩
  · rw [List.mem_singleton.1 m]; exact .inl rfl
  · rw [List.mem_singleton.1 m]; exact ⟨[], rfl, (fun c z => by cases z), .inl rfl⟩
/-- in the midst of a turn: s is taken out, the signs left are r -/
structure Em (δ : σ → Nat → σ) (q0 : σ) (sg : List Nat) (P : Tx → Prop) (s : Tx) (st : σ) (r : List Nat) (seen : List σ) (q : List (Tx × σ)) : Prop where
  ent : ∀ e ∈ q, e.2 = run δ q0 e.1 ∧ Over sg e.1
  asc : q.Pairwise fun a b => Bef a.1 b.1
  par : ∀ e ∈ q, e.1 = [] ∨ ∃ p x, e.1 = p ++ [x] ∧ (∀ e' ∈ q, Bef p e'.1) ∧ (Bef p s ∨ p = s ∧ x ∉ r)
  nd : seen.Nodup
  sw : ∀ st ∈ seen, ∃ s0, run δ q0 s0 = st ∧ Over sg s0 ∧ (s0 = [] ∨ ∃ p x, s0 = p ++ [x] ∧ (Bef p s ∨ p = s ∧ x ∉ r))
  sb : ∀ e ∈ q, Bef s e.1
  hs : st = run δ q0 s ∧ Over sg s
  pre : ∀ t, Lst sg P t → (∃ e ∈ q, ∃ v, t = e.1 ++ v) ∨ ∃ c ∈ r, ∃ v, t = s ++ c :: v
theorem Eq'.goal (h : Eq' δ q0 sg P seen ((s, st) :: q)) (hp : P s) : Lst sg P s :=
  Bq.goal (δ := δ) (q0 := q0) (seen := []) ⟨h.ent, h.asc, h.par, .nil, (fun x m => by cases m), h.pre⟩ hp
theorem Eq'.turn (h : Eq' δ q0 sg P seen ((s, st) :: q)) (hn : ¬ P s) : Em δ q0 sg P s st sg seen q := by
  obtain ⟨a1, a2⟩ := List.pairwise_cons.1 h.asc
  refine ⟨fun e m => h.ent e (List.mem_cons_of_mem _ m), a2, fun e m => ?_, h.nd, fun x m => ?_, a1, h.ent _ List.mem_cons_self, fun t ht => ?_⟩
  · rcases h.par e (List.mem_cons_of_mem _ m) with z | ⟨p, x, e1, e2⟩
    · exact .inl z
    · exact .inr ⟨p, x, e1, fun e' m' => e2 e' (List.mem_cons_of_mem _ m'), .inl (e2 _ List.mem_cons_self)⟩
  · obtain ⟨s0, e1, e2, e3⟩ := h.sw x m
    refine ⟨s0, e1, e2, ?_⟩
    rcases e3 with z | ⟨p, x, e4, e5⟩
    · exact .inl z
    · exact .inr ⟨p, x, e4, .inl (e5 _ List.mem_cons_self)⟩
  · obtain ⟨e, me, v, ev⟩ := h.pre t ht
    rcases List.mem_cons.1 me with rfl | me
    · cases v with
      | nil =>
        rw [List.append_nil] at ev
        have ev : t = s := ev
        exact absurd (by rw [← ev]; exact ht.p) hn
      | cons c v => exact .inr ⟨c, ht.ov c (by rw [ev]; simp), v, ev⟩
    · exact .inl ⟨e, me, v, ev⟩
theorem Em.less {c : Nat} {r : List Nat} {p : Tx} {x : Nat} (hr : ∀ x ∈ sg, x ∉ c :: r → x < c) (hx : Over sg (p ++ [x])) (h : Bef p s ∨ p = s ∧ x ∉ c :: r) : Bef (p ++ [x]) (s ++ [c]) := by
  rcases h with h | ⟨rfl, h⟩
  · exact bef_app2 [x] [c] rfl h
  · exact bef_sib _ (hr x (hx x (by simp)) h)
theorem Em.skip (hP : ∀ s s0 v, run δ q0 s = run δ q0 s0 → Bef s0 s → P (s ++ v) → P (s0 ++ v)) {c : Nat} {r : List Nat} (hc : c ∈ sg) (hr : ∀ x ∈ sg, x ∉ c :: r → x < c) (h : Em δ q0 sg P s st (c :: r) seen q) (hk : δ st c ∈ seen) : Em δ q0 sg P s st r seen q := by
  refine ⟨h.ent, h.asc, fun e m => ?_, h.nd, fun x m => ?_, h.sb, h.hs, fun t ht => ?_⟩
  · rcases h.par e m with z | ⟨p, x, e1, e2, e3⟩
    · exact .inl z
    · exact .inr ⟨p, x, e1, e2, e3.imp id fun ⟨a, b⟩ => ⟨a, fun z => b (List.mem_cons_of_mem _ z)⟩⟩
  · obtain ⟨s0, e1, e2, e3⟩ := h.sw x m
    refine ⟨s0, e1, e2, e3.imp id fun ⟨p, x, a, b⟩ => ⟨p, x, a, b.imp id fun ⟨a, b⟩ => ⟨a, fun z => b (List.mem_cons_of_mem _ z)⟩⟩⟩
  · rcases h.pre t ht with z | ⟨d, hd, v, ev⟩
    · exact .inl z
    · rcases List.mem_cons.1 hd with rfl | hd
      · exfalso
        obtain ⟨s0, e1, e2, e3⟩ := h.sw _ hk
        have hb : Bef s0 (s ++ [d]) := by
          rcases e3 with rfl | ⟨p, x, rfl, e4⟩
          · exact bef_nil (by simp)
          · exact Em.less hr e2 e4
        have ev' : t = (s ++ [d]) ++ v := by rw [ev]; simp
        have hp := hP (s ++ [d]) s0 v (by rw [run_snoc, ← h.hs.1, e1]) hb (by rw [← ev']; exact ht.p)
        have ho : Over sg v := by
          have := ht.ov
          rw [ev'] at this
          exact this.right
        rcases ht.le _ (e2.app ho) hp with z | z
        · have := bef_app v hb
          rw [z, ev'] at this
          exact bef_irr this
        · rw [ev'] at z
          exact bef_asym z (bef_app v hb)
      · exact .inr ⟨d, hd, v, ev⟩
theorem Em.put {c : Nat} {r : List Nat} (hc : c ∈ sg) (hcr : c ∉ r) (hr : ∀ x ∈ sg, x ∉ c :: r → x < c) (h : Em δ q0 sg P s st (c :: r) seen q) (hk : δ st c ∉ seen) : Em δ q0 sg P s st r (seen ++ [δ st c]) (q ++ [(s ++ [c], δ st c)]) := by
  have hrn : δ st c = run δ q0 (s ++ [c]) := by rw [run_snoc, ← h.hs.1]
  have ho := h.hs.2.snoc hc
  refine ⟨fun e m => ?_, List.pairwise_append.2 ⟨h.asc, List.pairwise_singleton _ _, fun a ma b mb => ?_⟩, fun e m => ?_, List.nodup_append.2 ⟨h.nd, by simp, fun x mx y my => by rw [List.mem_singleton.1 my]; exact fun z => hk (z ▸ mx)⟩, fun x m => ?_, fun e m => ?_, h.hs, fun t ht => ?_⟩
  · rcases List.mem_append.1 m with m | m
    · exact h.ent e m
    · rw [List.mem_singleton.1 m]; exact ⟨hrn, ho⟩
  · rw [List.mem_singleton.1 mb]
    rcases h.par a ma with z | ⟨p, x, e1, e2, e3⟩
    · rw [z]; exact bef_nil (by simp)
    · rw [e1]; exact Em.less hr (by rw [← e1]; exact (h.ent a ma).2) e3
  · rcases List.mem_append.1 m with m | m
    · rcases h.par e m with z | ⟨p, x, e1, e2, e3⟩
      · exact .inl z
      · refine .inr ⟨p, x, e1, fun e' m' => ?_, e3.imp id fun ⟨a, b⟩ => ⟨a, fun z => b (List.mem_cons_of_mem _ z)⟩⟩
        rcases List.mem_append.1 m' with m' | m'
        · exact e2 e' m'
        · rw [List.mem_singleton.1 m']
          rcases e3 with k | ⟨k, _⟩
          · exact bef_tr k (bef_child s c)
          · rw [k]; exact bef_child s c
    · rw [List.mem_singleton.1 m]
      refine .inr ⟨s, c, rfl, fun e' m' => ?_, .inr ⟨rfl, hcr⟩⟩
      rcases List.mem_append.1 m' with m' | m'
      · exact h.sb e' m'
      · rw [List.mem_singleton.1 m']; exact bef_child s c
  · rcases List.mem_append.1 m with m | m
    · obtain ⟨s0, e1, e2, e3⟩ := h.sw x m
      refine ⟨s0, e1, e2, e3.imp id fun ⟨p, x, a, b⟩ => ⟨p, x, a, b.imp id fun ⟨a, b⟩ => ⟨a, fun z => b (List.mem_cons_of_mem _ z)⟩⟩⟩
    · rw [List.mem_singleton.1 m]
      exact ⟨s ++ [c], hrn.symm, ho, .inr ⟨s, c, rfl, .inr ⟨rfl, hcr⟩⟩⟩
  · rcases List.mem_append.1 m with m | m
    · exact h.sb e m
    · rw [List.mem_singleton.1 m]; exact bef_child s c
  · rcases h.pre t ht with ⟨e, me, v, ev⟩ | ⟨d, hd, v, ev⟩
    · exact .inl ⟨e, List.mem_append_left _ me, v, ev⟩
    · rcases List.mem_cons.1 hd with rfl | hd
      · exact .inl ⟨(s ++ [d], δ st d), List.mem_append_right _ (by simp), v, by rw [ev]; simp⟩
      · exact .inr ⟨d, hd, v, ev⟩
theorem Em.fin (h : Em δ q0 sg P s st [] seen q) : Eq' δ q0 sg P seen q := by
  refine ⟨h.ent, h.asc, fun e m => ?_, h.nd, fun x m => ?_, fun t ht => ?_⟩
  · rcases h.par e m with z | ⟨p, x, e1, e2, _⟩
    · exact .inl z
    · exact .inr ⟨p, x, e1, e2⟩
  · obtain ⟨s0, e1, e2, e3⟩ := h.sw x m
    refine ⟨s0, e1, e2, e3.imp id fun ⟨p, x, a, b⟩ => ⟨p, x, a, fun e m => ?_⟩⟩
    rcases b with b | ⟨b, _⟩
    · exact bef_tr b (h.sb e m)
    · rw [b]; exact h.sb e m
  · rcases h.pre t ht with z | ⟨d, hd, _⟩
    · exact z
    · cases hd
theorem Eq'.none (h : Eq' δ q0 sg P seen []) : Ans sg P none := fun s ho hp => by
  obtain ⟨t, ht⟩ := lst_ex ho hp
  obtain ⟨e, me, _⟩ := h.pre t ht
  cases me
end
end PL

/-! what can be left of words, sign by sign -/
namespace PL
open PySem PySem.Spec PyProof.Rows L2 Ty
def nxt (ws R : List Tx) (c : Nat) : List Tx := setX (R.flatMap fun r => nRests ws r c)
structure Rk (ws R : List Tx) : Prop where
  up : Up R
  nd : R.Nodup
  un : ∀ r ∈ R, r ∈ Un ws
section
variable {ws R S R0 : List Tx} {c : Nat} {r t s : Tx}
theorem Rk.len (hw : Wv ws) (h : Rk ws R) : R.length ≤ 50 := Nat.le_trans (nodup_len h.nd h.un) (un_len hw)
theorem Rk.eq (h1 : Rk ws R) (h2 : Rk ws S) (h : ∀ x, x ∈ R ↔ x ∈ S) : R = S := up_uniq (perm_of_mem h1.nd h2.nd h) h1.up h2.up
theorem setX_rk (h : ∀ r ∈ R, r ∈ Un ws) : Rk ws (setX R) := ⟨setX_up _, setX_nd _, fun r m => h r (setX_mem.1 m)⟩
theorem nxt_mem : t ∈ nxt ws R c ↔ c :: t ∈ R ∨ ([] ∈ R ∧ c :: t ∈ ws) := by
  unfold nxt
  rw [setX_mem, List.mem_flatMap]
  constructor
  · rintro ⟨r, hr, h⟩
    rcases nRests_mem.1 h with rfl | ⟨rfl, h'⟩
    · exact .inl hr
    · exact .inr ⟨hr, h'⟩
  · rintro (h | ⟨h1, h2⟩)
    · exact ⟨_, h, nRests_mem.2 (.inl rfl)⟩
    · exact ⟨_, h1, nRests_mem.2 (.inr ⟨rfl, h2⟩)⟩
theorem nxt_rk (h : ∀ r ∈ R, r ∈ Un ws) : Rk ws (nxt ws R c) := setX_rk fun r m => by
  rcases nxt_mem.1 (setX_mem.2 m) with k | ⟨_, k⟩
  · exact un_app (a := [c]) (h _ k)
  · exact un_app (a := [c]) (un_word k)
abbrev rn (ws R0 : List Tx) (s : Tx) : List Tx := run (nxt ws) R0 s
theorem snoc_ind {P : Tx → Prop} (h0 : P []) (h1 : ∀ s c, P s → P (s ++ [c])) (s : Tx) : P s := by
  have : ∀ n, ∀ s : Tx, s.length = n → P s := fun n => by
    induction n with
    | zero => intro s hs; rw [List.length_eq_zero_iff.1 hs]; exact h0
    | succ n ih =>
      intro s hs
      have hne : s ≠ [] := fun z => by rw [z] at hs; cases hs
      rw [← List.dropLast_concat_getLast hne]
      exact h1 _ _ (ih _ (by simp [hs]))
  exact this _ s rfl
theorem rn_rk (h : Rk ws R0) : ∀ s, Rk ws (rn ws R0 s) := snoc_ind h fun s c ih => by
  show Rk ws (run (nxt ws) R0 (s ++ [c]))
  rw [run_snoc]
  exact nxt_rk ih.un
theorem rn_mem : ∀ {s r : Tx}, r ∈ rn ws R0 s ↔ s ++ r ∈ R0 ∨ ∃ p u, u ≠ [] ∧ s = p ++ u ∧ u ++ r ∈ ws ∧ [] ∈ rn ws R0 p := fun {s} => by
  refine snoc_ind (P := fun s => ∀ {r : Tx}, r ∈ rn ws R0 s ↔ s ++ r ∈ R0 ∨ ∃ p u, u ≠ [] ∧ s = p ++ u ∧ u ++ r ∈ ws ∧ [] ∈ rn ws R0 p) ?_ ?_ s
  · intro r
    constructor
    · intro h; exact .inl h
    · rintro (h | ⟨p, u, h1, h2, _⟩)
      · exact h
      · exact absurd (List.append_eq_nil_iff.1 h2.symm).2 h1
  · intro s c ih r
    show r ∈ run (nxt ws) R0 (s ++ [c]) ↔ _
    rw [run_snoc, nxt_mem]
    constructor
    · rintro (h | ⟨h1, h2⟩)
      · rcases ih.1 h with k | ⟨p, u, k1, k2, k3, k4⟩
        · exact .inl (by simpa using k)
        · exact .inr ⟨p, u ++ [c], by simp, by rw [k2]; simp, by simpa using k3, k4⟩
      · exact .inr ⟨s, [c], by simp, rfl, h2, h1⟩
    · rintro (h | ⟨p, u, k1, k2, k3, k4⟩)
      · exact .inl (ih.2 (.inl (by simpa using h)))
      · obtain ⟨u', d, rfl⟩ : ∃ u' d, u = u' ++ [d] := ⟨_, _, (List.dropLast_concat_getLast k1).symm⟩
        rw [← List.append_assoc] at k2
        obtain ⟨e1, e2⟩ := List.append_inj' k2 rfl
        have e2 : c = d := by simpa using e2
        subst e2
        by_cases hu : u' = []
        · subst hu
          rw [List.append_nil] at e1
          subst e1
          exact .inr ⟨k4, by simpa using k3⟩
        · exact .inl (ih.2 (.inr ⟨p, u', hu, e1, by simpa using k3, k4⟩))
/-- texts of rows -/
theorem rn_text (hne : ∀ w ∈ ws, w ≠ []) : ∀ s : Tx, [] ∈ rn ws [[]] s ↔ ∃ xs, Wds ws xs ∧ xs.flatten = s := by
  have key : ∀ n, ∀ s : Tx, s.length ≤ n → ([] ∈ rn ws [[]] s ↔ ∃ xs, Wds ws xs ∧ xs.flatten = s) := fun n => by
    induction n with
    | zero =>
      intro s hs
      have : s = [] := List.length_eq_zero_iff.1 (by omega)
      subst this
      exact ⟨fun _ => ⟨[], .nil, rfl⟩, fun _ => by show [] ∈ [[]]; simp⟩
    | succ n ih =>
      intro s hs
      rw [rn_mem]
      constructor
      · rintro (h | ⟨p, u, k1, k2, k3, k4⟩)
        · have : s = [] := by simpa using h
          exact ⟨[], .nil, this.symm⟩
        · have hl : 0 < u.length := List.length_pos_iff.2 k1
          have hl2 : s.length = p.length + u.length := by rw [k2, List.length_append]
          obtain ⟨xs, h1, h2⟩ := (ih p (by omega)).1 k4
          exact ⟨xs ++ [u], h1.snoc (by simpa using k3), by rw [List.flatten_append, h2, k2]; simp⟩
      · rintro ⟨xs, h1, h2⟩
        by_cases hx : xs = []
        · subst hx
          exact .inl (by rw [← h2]; simp)
        · have e := (List.dropLast_concat_getLast hx).symm
          have hm : xs.getLast hx ∈ ws := h1 _ (List.getLast_mem hx)
          have e2 : s = xs.dropLast.flatten ++ xs.getLast hx := by rw [← h2]; conv => lhs; rw [e]; simp
          have hl : 0 < (xs.getLast hx).length := List.length_pos_iff.2 (hne _ hm)
          have hl2 := congrArg List.length e2
          rw [List.length_append] at hl2
          exact .inr ⟨xs.dropLast.flatten, xs.getLast hx, hne _ hm, e2, by simpa using hm, (ih _ (by omega)).2 ⟨xs.dropLast, fun x m => h1 x (List.dropLast_subset _ m), rfl⟩⟩
  exact fun s => key s.length s (Nat.le_refl _)
/-! there are few of them -/
def keyX (ws : List Tx) (t : Tx) (bs : List Bool) : List Tx := setX ((List.range 4).flatMap fun i => if bs[i]? = some true then (ws.filter fun w => decide (i < w.length) && decide (w.take (i + 1) = t.drop (3 - i))).map fun w => w.drop (i + 1) else [])
theorem keyX_mem {bs : List Bool} : r ∈ keyX ws t bs ↔ ∃ i, i < 4 ∧ bs[i]? = some true ∧ ∃ w ∈ ws, i < w.length ∧ w.take (i + 1) = t.drop (3 - i) ∧ w.drop (i + 1) = r := by
  unfold keyX
  rw [setX_mem, List.mem_flatMap]
  constructor
  · rintro ⟨i, hi, h⟩
    split at h
    · rename_i hb
      obtain ⟨w, hw, e⟩ := List.mem_map.1 h
      obtain ⟨h1, h2⟩ := List.mem_filter.1 hw
      obtain ⟨h3, h4⟩ := Bool.and_eq_true_iff.1 h2
      exact ⟨i, List.mem_range.1 hi, hb, w, h1, of_decide_eq_true h3, of_decide_eq_true h4, e⟩
    · cases h
  · rintro ⟨i, hi, hb, w, h1, h2, h3, h4⟩
    refine ⟨i, List.mem_range.2 hi, ?_⟩
    rw [if_pos hb]
    exact List.mem_map.2 ⟨w, List.mem_filter.2 ⟨h1, by rw [Bool.and_eq_true_iff]; exact ⟨decide_eq_true h2, decide_eq_true h3⟩⟩, h4⟩
def bls : Nat → List (List Bool)
  | 0 => [[]]
  | n + 1 => (bls n).flatMap fun l => [true :: l, false :: l]
theorem bls_mem : ∀ l : List Bool, l ∈ bls l.length
  | [] => by simp [bls]
  | b :: l => by
    show b :: l ∈ (bls l.length).flatMap fun l => [true :: l, false :: l]
    exact List.mem_flatMap.2 ⟨l, bls_mem l, by cases b <;> simp⟩
/-- which of the last four places are borders -/
def bits (ws R0 : List Tx) (s : Tx) : List Bool := (List.range 4).map fun i => decide ([] ∈ rn ws R0 (s.take (s.length - (i + 1))))
theorem bits_get {i : Nat} (hi : i < 4) : (bits ws R0 s)[i]? = some true ↔ [] ∈ rn ws R0 (s.take (s.length - (i + 1))) := by
  unfold bits
  rw [List.getElem?_map, List.getElem?_range hi]
  simp
theorem rn_key (h4 : ∀ w ∈ ws, w.length ≤ 4) (h3 : ∀ r ∈ R0, r.length ≤ 3) (hk : Rk ws R0) (hl : 4 ≤ s.length) : rn ws R0 s = keyX ws (s.drop (s.length - 4)) (bits ws R0 s) := by
  have k1 := rn_rk hk s
  refine up_uniq (perm_of_mem k1.nd (setX_nd _) fun r => ?_) k1.up (setX_up _)
  show r ∈ rn ws R0 s ↔ r ∈ keyX ws _ _
  rw [rn_mem, keyX_mem]
  have dd : ∀ i, i < 4 → (s.drop (s.length - 4)).drop (3 - i) = s.drop (s.length - (i + 1)) := fun i hi => by
    rw [List.drop_drop]
    congr 1
    omega
  constructor
  · rintro (h | ⟨p, u, e1, e2, e3, e4⟩)
    · have := h3 _ h
      rw [List.length_append] at this
      omega
    · have hu : 0 < u.length := List.length_pos_iff.2 e1
      have hw := h4 _ e3
      rw [List.length_append] at hw
      have hsl : s.length = p.length + u.length := by rw [e2, List.length_append]
      have i4 : u.length - 1 < 4 := by omega
      have ek : u.length - 1 + 1 = u.length := by omega
      refine ⟨u.length - 1, i4, (bits_get i4).2 ?_, u ++ r, e3, by rw [List.length_append]; omega, ?_, ?_⟩
      · rw [ek, show s.length - u.length = p.length by omega, e2]
        simpa using e4
      · rw [dd _ i4, ek, show s.length - u.length = p.length by omega, e2]
        simp
      · rw [ek]; simp
  · rintro ⟨i, hi, hb, w, hw, h1, h2, h5⟩
    right
    rw [dd i hi] at h2
    refine ⟨s.take (s.length - (i + 1)), w.take (i + 1), ?_, ?_, ?_, (bits_get hi).1 hb⟩
    · intro z
      have := congrArg List.length z
      rw [List.length_take, List.length_nil] at this
      omega
    · rw [h2, List.take_append_drop]
    · rw [← h5, List.take_append_drop]; exact hw
/-- all that are met -/
def Sts (ws R0 : List Tx) (sg : List Nat) : List (List Tx) := ((List.range 4).flatMap fun n => (strN sg n).map (rn ws R0)) ++ (strN sg 4).flatMap fun t => (bls 4).map (keyX ws t)
theorem rn_sts {sg : List Nat} (h4 : ∀ w ∈ ws, w.length ≤ 4) (h3 : ∀ r ∈ R0, r.length ≤ 3) (hk : Rk ws R0) (ho : Over sg s) : rn ws R0 s ∈ Sts ws R0 sg := by
  unfold Sts
  rw [List.mem_append]
  by_cases hl : s.length < 4
  · exact .inl (List.mem_flatMap.2 ⟨s.length, List.mem_range.2 hl, List.mem_map.2 ⟨s, strN_mem.2 ⟨rfl, ho⟩, rfl⟩⟩)
  · refine .inr (List.mem_flatMap.2 ⟨s.drop (s.length - 4), strN_mem.2 ⟨by rw [List.length_drop]; omega, fun c m => ho c (List.mem_of_mem_drop m)⟩, List.mem_map.2 ⟨bits ws R0 s, ?_, (rn_key h4 h3 hk (by omega)).symm⟩⟩)
    have := bls_mem (bits ws R0 s)
    rwa [show (bits ws R0 s).length = 4 by simp [bits]] at this
theorem flen {α β : Type} (f : α → List β) (n : Nat) : ∀ l : List α, (∀ a ∈ l, (f a).length = n) → (l.flatMap f).length = l.length * n
  | [], _ => by simp
  | a :: l, h => by
    rw [List.flatMap_cons, List.length_append, h a List.mem_cons_self, flen f n l fun b m => h b (List.mem_cons_of_mem _ m), List.length_cons, Nat.succ_mul]
    omega
theorem sts_len {sg : List Nat} (hs : sg.length ≤ 3) : (Sts ws R0 sg).length ≤ 1336 := by
  have e1 : ((List.range 4).flatMap fun n => (strN sg n).map (rn ws R0)).length = 1 + sg.length + sg.length ^ 2 + sg.length ^ 3 := by
    rw [show List.range 4 = [0, 1, 2, 3] from rfl]
    simp only [List.flatMap_cons, List.flatMap_nil, List.length_append, List.length_map, strN_len, List.length_nil, Nat.pow_zero, Nat.pow_one]
    omega
  have e2 : ((strN sg 4).flatMap fun t => (bls 4).map (keyX ws t)).length = sg.length ^ 4 * 16 := by
    rw [flen _ 16 _ fun t _ => by rw [List.length_map]; rfl, strN_len]
  unfold Sts
  rw [List.length_append, e1, e2]
  have : sg.length = 0 ∨ sg.length = 1 ∨ sg.length = 2 ∨ sg.length = 3 := by omega
  rcases this with h | h | h | h <;> rw [h] <;> decide
/-- the two sides of two codes -/
def nxt2 (ws us : List Tx) (p : List Tx × List Tx) (c : Nat) : List Tx × List Tx := (nxt ws p.1 c, nxt us p.2 c)
theorem run2 {us A B : List Tx} : ∀ s, run (nxt2 ws us) (A, B) s = (rn ws A s, rn us B s) := snoc_ind rfl fun s c ih => by
  rw [run_snoc, ih]
  show (nxt ws (run (nxt ws) A s) c, nxt us (run (nxt us) B s) c) = (run (nxt ws) A (s ++ [c]), run (nxt us) B (s ++ [c]))
  rw [run_snoc, run_snoc]
def Sts2 (ws us A B : List Tx) (sg : List Nat) : List (List Tx × List Tx) := ((List.range 4).flatMap fun n => (strN sg n).map fun s => (rn ws A s, rn us B s)) ++ (strN sg 4).flatMap fun t => (bls 4).flatMap fun b => (bls 4).map fun b' => (keyX ws t b, keyX us t b')
theorem run2_sts {us A B : List Tx} {sg : List Nat} (h4 : ∀ w ∈ ws, w.length ≤ 4) (h4' : ∀ w ∈ us, w.length ≤ 4) (h3 : ∀ r ∈ A, r.length ≤ 3) (h3' : ∀ r ∈ B, r.length ≤ 3) (hk : Rk ws A) (hk' : Rk us B) (ho : Over sg s) : run (nxt2 ws us) (A, B) s ∈ Sts2 ws us A B sg := by
  rw [run2]
  unfold Sts2
  rw [List.mem_append]
  by_cases hl : s.length < 4
  · exact .inl (List.mem_flatMap.2 ⟨s.length, List.mem_range.2 hl, List.mem_map.2 ⟨s, strN_mem.2 ⟨rfl, ho⟩, rfl⟩⟩)
  · have hb : ∀ vs R, bits vs R s ∈ bls 4 := fun vs R => by
      have := bls_mem (bits vs R s)
      rwa [show (bits vs R s).length = 4 by simp [bits]] at this
    refine .inr (List.mem_flatMap.2 ⟨s.drop (s.length - 4), strN_mem.2 ⟨by rw [List.length_drop]; omega, fun c m => ho c (List.mem_of_mem_drop m)⟩, List.mem_flatMap.2 ⟨_, hb ws A, List.mem_map.2 ⟨_, hb us B, ?_⟩⟩⟩)
    rw [rn_key h4 h3 hk (by omega), rn_key h4' h3' hk' (by omega)]
theorem sts2_len {us A B : List Tx} {sg : List Nat} (hs : sg.length ≤ 3) : (Sts2 ws us A B sg).length ≤ 20776 := by
  have e1 : ((List.range 4).flatMap fun n => (strN sg n).map fun s => (rn ws A s, rn us B s)).length = 1 + sg.length + sg.length ^ 2 + sg.length ^ 3 := by
    rw [show List.range 4 = [0, 1, 2, 3] from rfl]
    simp only [List.flatMap_cons, List.flatMap_nil, List.length_append, List.length_map, strN_len, List.length_nil, Nat.pow_zero, Nat.pow_one]
    omega
  have e2 : ((strN sg 4).flatMap fun t => (bls 4).flatMap fun b => (bls 4).map fun b' => (keyX ws t b, keyX us t b')).length = sg.length ^ 4 * 256 := by
    rw [flen _ 256 _ fun t _ => by rw [flen _ 16 _ fun b _ => by rw [List.length_map]; rfl]; rfl, strN_len]
  unfold Sts2
  rw [List.length_append, e1, e2]
  have : sg.length = 0 ∨ sg.length = 1 ∨ sg.length = 2 ∨ sg.length = 3 := by omega
  rcases this with h | h | h | h <;> rw [h] <;> decide
/-- all that can be left of a word -/
def allR (ws : List Tx) : List Tx := setX (ws.flatMap fun w => (List.range w.length).map fun i => w.drop (i + 1))
theorem allR_mem : r ∈ allR ws ↔ ∃ w ∈ ws, ∃ a, a ≠ [] ∧ w = a ++ r := by
  unfold allR
  rw [setX_mem, List.mem_flatMap]
  constructor
  · rintro ⟨w, hw, h⟩
    obtain ⟨i, hi, e⟩ := List.mem_map.1 h
    have hi := List.mem_range.1 hi
    refine ⟨w, hw, w.take (i + 1), fun z => ?_, by rw [← e, List.take_append_drop]⟩
    have := congrArg List.length z
    rw [List.length_take, List.length_nil] at this
    omega
  · rintro ⟨w, hw, a, ha, e⟩
    have : 0 < a.length := List.length_pos_iff.2 ha
    refine ⟨w, hw, List.mem_map.2 ⟨a.length - 1, List.mem_range.2 (by rw [e, List.length_append]; omega), ?_⟩⟩
    rw [show a.length - 1 + 1 = a.length by omega, e]
    simp
theorem allR_rk : Rk ws (allR ws) := setX_rk fun r m => by
  obtain ⟨w, hw, a, _, e⟩ := allR_mem.1 (setX_mem.2 m)
  exact un_app (a := a) (by rw [← e]; exact un_word hw)
theorem allR_3 (h4 : ∀ w ∈ ws, w.length ≤ 4) : ∀ r ∈ allR ws, r.length ≤ 3 := fun r m => by
  obtain ⟨w, hw, a, ha, e⟩ := allR_mem.1 m
  have := h4 w hw
  have := List.length_pos_iff.2 ha
  rw [e, List.length_append] at *
  omega
theorem nil_rk : Rk ws [[]] := ⟨List.pairwise_singleton _ _, by simp, fun r m => by rw [List.mem_singleton.1 m]; exact un_nil⟩
theorem nil_3 : ∀ r ∈ ([[]] : List Tx), r.length ≤ 3 := fun r m => by rw [List.mem_singleton.1 m]; exact Nat.zero_le _
end
end PL

/-! dicts that serve as sets of texts -/
namespace PL
open PySem PySem.Spec PyProof.Rows L2 Ty
abbrev Ks := List (Tx × Bool)
def puts (d : Ks) (ks : List Tx) : Ks := ks.foldl (fun d k => dput d k true) d
theorem keys_dput' {κ ν : Type} [DecidableEq κ] (d : List (κ × ν)) (k : κ) (v : ν) : (dput d k v).map (·.1) = if k ∈ d.map (·.1) then d.map (·.1) else d.map (·.1) ++ [k] := by
  by_cases h : k ∈ d.map (·.1)
  · rw [if_pos h]
    unfold dput
    rw [if_pos (dhas_iff.2 h), List.map_map]
    refine List.map_congr_left fun e _ => ?_
    show (if e.1 = k then (e.1, v) else e).1 = e.1
    split <;> rfl
  · rw [if_neg h, dput_new h, List.map_append]
    rfl
theorem dput_len {κ ν : Type} [DecidableEq κ] (d : List (κ × ν)) (k : κ) (v : ν) : (dput d k v).length ≤ d.length + 1 := by
  have := congrArg List.length (keys_dput' d k v)
  rw [List.length_map] at this
  rw [this]
  split
  · rw [List.length_map]; omega
  · rw [List.length_append, List.length_map]; exact Nat.le_refl _
theorem puts_len : ∀ (ks : List Tx) (d : Ks), (puts d ks).length ≤ d.length + ks.length
  | [], d => Nat.le_refl _
  | k :: ks, d => by
    have h1 := puts_len ks (dput d k true)
    have h2 := dput_len d k true
    show (puts (dput d k true) ks).length ≤ _
    rw [List.length_cons]
    omega
theorem puts_app (d : Ks) (a b : List Tx) : puts d (a ++ b) = puts (puts d a) b := by unfold puts; rw [List.foldl_append]
theorem puts_mem {x : Tx} : ∀ (ks : List Tx) (d : Ks), x ∈ (puts d ks).map (·.1) ↔ x ∈ d.map (·.1) ∨ x ∈ ks
  | [], d => by simp [puts]
  | k :: ks, d => by
    show x ∈ (puts (dput d k true) ks).map (·.1) ↔ _
    rw [puts_mem ks, keys_dput']
    split
    · rename_i h
      rw [List.mem_cons]
      constructor
      · rintro (z | z)
        · exact .inl z
        · exact .inr (.inr z)
      · rintro (z | rfl | z)
        · exact .inl z
        · exact .inl h
        · exact .inr z
    · rw [List.mem_append, List.mem_singleton, List.mem_cons]
      exact or_assoc
theorem puts_nd : ∀ (ks : List Tx) (d : Ks), (d.map (·.1)).Nodup → ((puts d ks).map (·.1)).Nodup
  | [], d, h => h
  | k :: ks, d, h => by
    refine puts_nd ks (dput d k true) ?_
    rw [keys_dput']
    split
    · exact h
    · rename_i hk
      exact List.nodup_append.2 ⟨h, by simp, fun a ma b mb => by rw [List.mem_singleton.1 mb]; exact fun z => hk (z ▸ ma)⟩
theorem puts_sort (ks : List Tx) : sortX ((puts [] ks).map (·.1)) = setX ks := by
  rw [sortX_of_nd (puts_nd ks [] .nil)]
  exact setX_congr fun x => by rw [puts_mem]; simp
theorem foldP_puts {α : Type} {K : Nat} {f : Ks → α → Prog Ks} (h : α → List Tx) : ∀ {xs : List α} {d : Ks}, (∀ d a, a ∈ xs → d.length + (h a).length ≤ K → f d a = .ok (puts d (h a))) → d.length + (xs.flatMap h).length ≤ K → foldP f xs d = .ok (puts d (xs.flatMap h))
  | [], d, _, _ => rfl
  | a :: xs, d, h1, h2 => by
    rw [List.flatMap_cons, List.length_append] at h2
    have h3 := puts_len (h a) d
    unfold foldP
    rw [h1 d a List.mem_cons_self (by omega), ok_bind, foldP_puts h (fun d a m => h1 d a (List.mem_cons_of_mem _ m)) (by omega), List.flatMap_cons, puts_app]
end PL

/-! loops that may return; signs of a code -/
namespace PL
open PySem PySem.Spec PyProof.Rows L2 Ty
theorem wp_foldR {α β ρ : Type} {E : Exc → Prop} {f : β → α → Prog (Fl β ρ)} {Inv : List α → β → Prop} {Q : ρ → Prop} : ∀ {xs : List α} {b : β}, Inv xs b → (∀ b a r, Inv (a :: r) b → wp (f b a) (fun o => match o with
    | .nx b' => Inv r b'
    | .rt x => Q x) E) → wp (foldF f xs b) (fun o => match o with
    | .nx b' => Inv [] b'
    | .rt x => Q x) E
  | [], b, h, _ => h
  | a :: r, b, h, k => by
    unfold foldF
    refine wp_bind.2 (wp_mono (k b a r h) fun o ho => ?_)
    cases o with
    | nx b' => exact wp_foldR ho k
    | rt x => exact ho
/-- the loop runs through -/
theorem wp_foldN {α β ρ ω : Type} {E : Exc → Prop} {f : β → α → Prog (Fl β ρ)} {Inv : List α → β → Prop} {k : β → Prog ω} {ret : ρ → ω} {P : ω → Prop} {xs : List α} {b : β} (h0 : Inv xs b) (hf : ∀ b a r, Inv (a :: r) b → wp (f b a) (fun o => match o with
    | .nx b' => Inv r b'
    | .rt _ => False) E) (hk : ∀ b, Inv [] b → wp (k b) P E) : wp (foldF f xs b >>= flK k ret) P E :=
  wp_bind.2 (wp_mono (wp_foldR (Q := fun _ => False) h0 hf) fun o ho => by
    cases o with
    | nx b => exact hk b ho
    | rt _ => exact ho.elim)
def sgs (many : Int) : List Nat := abc.take many.toNat
theorem sgs_cut {many : Int} (hm : many = 2 ∨ many = 3) : cut ([97, 98, 99] : Tx) none (some many) = sgs many := by
  rcases hm with rfl | rfl <;> rfl
theorem sgs_iff {many : Int} (hm : many = 2 ∨ many = 3) {c : Nat} : c ∈ sgs many ↔ Lett many c := by
  unfold Lett
  rcases hm with rfl | rfl
  · show c ∈ [97, 98] ↔ _
    simp
  · show c ∈ [97, 98, 99] ↔ _
    simp
theorem sgs_asc {many : Int} (hm : many = 2 ∨ many = 3) : (sgs many).Pairwise (· < ·) := by
  rcases hm with rfl | rfl <;> decide
theorem sgs_len {many : Int} (hm : many = 2 ∨ many = 3) : (sgs many).length ≤ 3 := by
  rcases hm with rfl | rfl <;> decide
theorem sgs_abc {many : Int} {c : Nat} (h : c ∈ sgs many) : c ∈ abc := List.mem_of_mem_take h
theorem sgs_lenI {many : Int} (hm : many = 2 ∨ many = 3) : ((sgs many).length : Int) = many := by
  rcases hm with rfl | rfl <;> rfl
theorem wv_of {many : Int} {ws : List Tx} (h : Cd many ws) : Wv ws := ⟨Nat.le_trans h.l6 (by decide), fun w m z => by
    have := (h.w w m).2.1
    rw [z] at this
    simp at this, fun w m => Nat.le_trans (h.w w m).2.2 (by decide), fun w m c mc => sgs_abc ((sgs_iff h.m).2 ((h.w w m).1 c mc))⟩
theorem cd_4 {many : Int} {ws : List Tx} (h : Cd many ws) : ∀ w ∈ ws, w.length ≤ 4 := fun w m => (h.w w m).2.2
theorem cd_ne {many : Int} {ws : List Tx} (h : Cd many ws) : ∀ w ∈ ws, w ≠ [] := (wv_of h).ne
theorem abc_okT {w : Tx} (h : ∀ c ∈ w, c ∈ abc) : okT w := by
  unfold okT
  show PyData.strOk (sx w) = true
  unfold PyData.strOk
  simp only [Array.all_eq_true_iff_forall_mem] at *
  first
    | (intro c m
       have := h c (by simpa [sx] using m)
       simp at this
       rcases this with rfl | rfl | rfl <;> decide)
    | simp
theorem rk_okT {ws R : List Tx} (hw : Wv ws) (h : Rk ws R) : ∀ r ∈ R, okT r := fun r m => abc_okT (un_l6 hw (h.un r m)).2
theorem rng_nat (n : Nat) : rng 0 (n : Int) = (List.range n).map fun (i : Nat) => (i : Int) := by
  unfold rng
  rw [show ((n : Int) - 0).toNat = n by omega]
  exact List.map_congr_left fun i _ => by omega
theorem rng_len (n : Int) : (rng 0 n).length = n.toNat := by simp [rng]
theorem foldP_eq {α β : Type} {f : β → α → Prog β} {g : β → α → β} {I : β → Prop} (hI : ∀ b a, I b → I (g b a)) : ∀ {xs : List α} {b : β}, I b → (∀ b a, a ∈ xs → I b → f b a = .ok (g b a)) → foldP f xs b = .ok (xs.foldl g b)
  | [], b, _, _ => rfl
  | a :: xs, b, h, k => by
    unfold foldP
    rw [k b a List.mem_cons_self h, ok_bind, foldP_eq hI (hI b a h) fun b a m => k b a (List.mem_cons_of_mem _ m)]
    rfl
theorem fold_rn {ws : List Tx} {f : List Tx → Tx → Prog (List Tx)} (hf : ∀ R c, Rk ws R → f R [c] = .ok (nxt ws R c)) : ∀ (s : Tx) {R : List Tx}, Rk ws R → foldP f (Ty.signs s) R = .ok (s.foldl (nxt ws) R)
  | [], R, _ => rfl
  | c :: s, R, h => by
    show foldP f ([c] :: Ty.signs s) R = _
    unfold foldP
    rw [hf R c h, ok_bind, fold_rn hf s (nxt_rk h.un)]
    rfl
theorem signs_flat {β : Type} (h : Nat → β) : ∀ l : List Nat, ((Ty.signs l).flatMap fun a => [h (a.headD 0)]) = l.map h
  | [] => rfl
  | c :: l => by
    show (([c] : Tx) :: Ty.signs l).flatMap _ = _
    rw [List.flatMap_cons, signs_flat h l]
    rfl
theorem signs_mem {l : List Nat} {a : Tx} (h : a ∈ Ty.signs l) : ∃ c ∈ l, a = [c] := by
  obtain ⟨c, m, e⟩ := List.mem_map.1 h
  exact ⟨c, m, e.symm⟩
theorem signs_len (l : Tx) : (Ty.signs l).length = l.length := List.length_map _
end PL

namespace PL
open PySem PySem.Spec PyProof.Rows L2 Ty
theorem cut_mid {s : Tx} {q l : Nat} (h : q ≤ s.length) : cut s (some (q : Int)) (some ((q : Int) + (l : Int))) = (s.drop q).take l := by
  unfold cut
  have e1 : HT.sIx s.length 0 (some (q : Int)) = q := by
    rw [HT.sIx_nat]; omega
  have e2 : HT.sIx s.length s.length (some ((q : Int) + (l : Int))) = min (q + l) s.length := by
    have : ((q : Int) + (l : Int)) = ((q + l : Nat) : Int) := by simp
    rw [this, HT.sIx_nat]
  rw [e1, e2]
  apply List.ext_getElem?
  intro i
  rw [List.getElem?_take, List.getElem?_take]
  by_cases h1 : i < l
  · rw [if_pos h1]
    by_cases h2 : i < min (q + l) s.length - q
    · rw [if_pos h2]
    · rw [if_neg h2]
      symm
      rw [List.getElem?_eq_none_iff, List.length_drop]
      omega
  · rw [if_neg h1, if_neg (by omega)]
end PL

/-! readers that take -/
namespace PL
open PySem PySem.Spec PyProof.Rows L2 Ty
abbrev wLong : Tx := [108, 111, 110, 103, 101, 115, 116]
abbrev wShort : Tx := [115, 104, 111, 114, 116, 101, 115, 116]
abbrev wList : Tx := [108, 105, 115, 116, 101, 100]
abbrev gw (ws : List Tx) (k : Int) : Tx := ws.getD k.toNat []
def inT (ws : List Tx) (way : Tx) : List Int := if way = wList then rng 0 ws.length else sortL ws way wLong (rng 0 ws.length)
def mt (ws : List Tx) (s : Tx) (k : Int) : Bool := decide (s.take (gw ws k).length = gw ws k)
def tk (ws : List Tx) (way s : Tx) : Option Int := ((inT ws way).filter (mt ws s)).head?
def ky (ws : List Tx) (way : Tx) (k : Int) : Int := if way = wList then 0 else keyL ws way wLong k
def Pk (n : Nat) (f : Int → Int) (P : Int → Prop) : Option Int → Prop
  | none => ∀ j : Int, 0 ≤ j → j < n → ¬ P j
  | some k => (0 ≤ k ∧ k < n) ∧ P k ∧ ∀ j : Int, 0 ≤ j → j < n → P j → f k < f j ∨ (f k = f j ∧ k ≤ j)
theorem Pk.uniq {n : Nat} {f : Int → Int} {P : Int → Prop} {o o' : Option Int} (h : Pk n f P o) (h' : Pk n f P o') : o = o' := by
  cases o with
  | none =>
    cases o' with
    | none => rfl
    | some k => exact absurd h'.2.1 (h k h'.1.1 h'.1.2)
  | some k =>
    cases o' with
    | none => exact absurd h.2.1 (h' k h.1.1 h.1.2)
    | some k' =>
      have h1 := h.2.2 k' h'.1.1 h'.1.2 h'.2.1
      have h2 := h'.2.2 k h.1.1 h.1.2 h.2.1
      congr 1
      omega
theorem rng_mem {n : Nat} {k : Int} : k ∈ rng 0 (n : Int) ↔ 0 ≤ k ∧ k < n := by
  rw [rng_nat, List.mem_map]
  constructor
  · rintro ⟨i, hi, rfl⟩
    have := List.mem_range.1 hi
    omega
  · rintro ⟨h0, h1⟩
    exact ⟨k.toNat, List.mem_range.2 (by omega), by omega⟩
theorem rng_asc (n : Nat) : (rng 0 (n : Int)).Pairwise (· < ·) := by
  rw [rng_nat, List.pairwise_map]
  exact List.pairwise_lt_range.imp fun h => by omega
theorem pair_sub {l : List Int} (h : l.Pairwise (· < ·)) {a b : Int} (ha : a ∈ l) (hb : b ∈ l) (hab : a < b) : [a, b].Sublist l := by
  induction l with
  | nil => cases ha
  | cons x t ih =>
    obtain ⟨h1, h2⟩ := List.pairwise_cons.1 h
    rcases List.mem_cons.1 ha with z | z
    · subst z
      rcases List.mem_cons.1 hb with y | y
      · omega
      · exact (List.singleton_sublist.2 y).cons_cons a
    · rcases List.mem_cons.1 hb with y | y
      · have := h1 a z; omega
      · exact (ih h2 z y).cons x
theorem two_sub {l : List Int} (nd : l.Nodup) {a b : Int} (h1 : [a, b].Sublist l) (h2 : [b, a].Sublist l) : False := by
  induction l with
  | nil => cases h1
  | cons x t ih =>
    obtain ⟨n1, n2⟩ := List.nodup_cons.1 nd
    cases h1 with
    | cons _ k1 =>
      cases h2 with
      | cons _ k2 => exact ih n2 k1 k2
      | cons_cons _ k2 => exact n1 (k1.subset (by simp))
    | cons_cons _ k1 =>
      cases h2 with
      | cons _ k2 => exact n1 (k2.subset (by simp))
      | cons_cons _ k2 => exact n1 (k1.subset (by simp))
theorem sort_pw {f : Int → Int} {l : List Int} (h : l.Pairwise (· < ·)) : (l.mergeSort fun i j => decide (f i ≤ f j)).Pairwise (fun a b => f a < f b ∨ (f a = f b ∧ a < b)) := by
  have tr : ∀ a b c : Int, decide (f a ≤ f b) = true → decide (f b ≤ f c) = true → decide (f a ≤ f c) = true := fun a b c h1 h2 => by
    have := of_decide_eq_true h1; have := of_decide_eq_true h2
    exact decide_eq_true (by omega)
  have tot : ∀ a b : Int, (decide (f a ≤ f b) || decide (f b ≤ f a)) = true := fun a b => by
    by_cases z : f a ≤ f b
    · rw [decide_eq_true z]; rfl
    · rw [decide_eq_true (show f b ≤ f a by omega), Bool.or_true]
  have pm := List.mergeSort_perm l fun i j => decide (f i ≤ f j)
  have nd : (l.mergeSort fun i j => decide (f i ≤ f j)).Nodup := pm.nodup_iff.2 (h.imp fun z => by omega)
  have so := List.pairwise_mergeSort tr tot l
  rw [List.pairwise_iff_forall_sublist] at so ⊢
  intro a b hs
  have h1 := of_decide_eq_true (so hs)
  by_cases e : f a = f b
  · refine .inr ⟨e, ?_⟩
    by_cases lt : a < b
    · exact lt
    · exfalso
      have ne : a ≠ b := fun z => by
        rw [z] at hs
        have := nd.sublist hs
        simp at this
      have ma : a ∈ l := pm.mem_iff.1 (hs.subset (by simp))
      have mb : b ∈ l := pm.mem_iff.1 (hs.subset (by simp))
      have h2 := List.pair_sublist_mergeSort tr tot (a := b) (b := a) (l := l) (decide_eq_true (by omega)) (pair_sub h mb ma (by omega))
      exact two_sub nd hs h2
  · exact .inl (by omega)
theorem inT_mem {ws : List Tx} {way : Tx} {k : Int} : k ∈ inT ws way ↔ 0 ≤ k ∧ k < ws.length := by
  unfold inT
  split
  · exact rng_mem
  · unfold sortL
    rw [(List.mergeSort_perm _ _).mem_iff]
    exact rng_mem
theorem inT_len (ws : List Tx) (way : Tx) : (inT ws way).length = ws.length := by
  unfold inT
  split
  · rw [rng_len]; simp
  · unfold sortL
    rw [(List.mergeSort_perm _ _).length_eq, rng_len]; simp
theorem inT_pw (ws : List Tx) (way : Tx) : (inT ws way).Pairwise (fun a b => ky ws way a < ky ws way b ∨ (ky ws way a = ky ws way b ∧ a < b)) := by
  unfold inT ky
  by_cases e : way = wList
  · rw [if_pos e]
    exact (rng_asc _).imp fun h => by rw [if_pos e, if_pos e]; exact .inr ⟨rfl, h⟩
  · rw [if_neg e]
    exact (sort_pw (f := keyL ws way wLong) (rng_asc ws.length)).imp fun h => by rw [if_neg e, if_neg e]; exact h
theorem head_pk {n : Nat} {f : Int → Int} {p : Int → Bool} {xs : List Int} (hm : ∀ k, k ∈ xs ↔ 0 ≤ k ∧ k < n) (pw : xs.Pairwise (fun a b => f a < f b ∨ (f a = f b ∧ a < b))) : Pk n f (fun k => p k = true) (xs.filter p).head? := by
  have pw2 := pw.filter (p := p)
  cases e : xs.filter p with
  | nil =>
    intro j h0 h1 hp
    have : j ∈ xs.filter p := List.mem_filter.2 ⟨(hm j).2 ⟨h0, h1⟩, hp⟩
    rw [e] at this
    cases this
  | cons k r =>
    have mk : k ∈ xs.filter p := by rw [e]; simp
    obtain ⟨m1, m2⟩ := List.mem_filter.1 mk
    refine ⟨(hm k).1 m1, m2, fun j h0 h1 hp => ?_⟩
    have mj : j ∈ xs.filter p := List.mem_filter.2 ⟨(hm j).2 ⟨h0, h1⟩, hp⟩
    rw [e] at mj pw2
    rcases List.mem_cons.1 mj with z | z
    · exact .inr ⟨by rw [z], by rw [z]; exact Int.le_refl _⟩
    · rcases (List.pairwise_cons.1 pw2).1 j z with y | y
      · exact .inl y
      · exact .inr ⟨y.1, by omega⟩
theorem tk_pk (ws : List Tx) (way s : Tx) : Pk ws.length (ky ws way) (fun k => mt ws s k = true) (tk ws way s) := head_pk (fun _ => inT_mem) (inT_pw ws way)
theorem tk_in {ws : List Tx} {way s : Tx} {k : Int} (h : tk ws way s = some k) : (0 ≤ k ∧ k < ws.length) ∧ s.take (gw ws k).length = gw ws k := by
  have := tk_pk ws way s
  rw [h] at this
  exact ⟨this.1, of_decide_eq_true this.2.1⟩
/-! the law's choice -/
theorem first_ix {able : List Int} (pw : able.Pairwise (· < ·)) {g : Int → Int} {m : Int} (hm : m ∈ able.map g) : ∃ k, able[(able.map g).idxOf m]? = some k ∧ k ∈ able ∧ g k = m ∧ ∀ j ∈ able, g j = m → k ≤ j := by
  obtain ⟨h1, h2⟩ := idx_first hm
  rw [List.getElem?_map] at h1
  cases e : able[(able.map g).idxOf m]? with
  | none => rw [e] at h1; cases h1
  | some k =>
    rw [e] at h1
    have hk : g k = m := Option.some.inj h1
    refine ⟨k, rfl, List.mem_of_getElem? e, hk, fun j mj ej => ?_⟩
    obtain ⟨i, hi, rfl⟩ := List.mem_iff_getElem.1 mj
    obtain ⟨hl, ek⟩ := List.getElem?_eq_some_iff.1 e
    by_cases lt : i < (able.map g).idxOf m
    · exact absurd ej (h2 i _ lt (by rw [List.getElem?_map, List.getElem?_eq_getElem hi]; rfl))
    · by_cases eq : (able.map g).idxOf m = i
      · subst eq; rw [← ek]; exact Int.le_refl _
      · have := List.pairwise_iff_getElem.1 pw _ _ hl hi (by omega)
        rw [ek] at this
        omega
/-! reading -/
def rdF (ws : List Tx) (way : Tx) : Nat → Tx → List Int × Nat
  | 0, _ => ([], 0)
  | n + 1, s => match tk ws way s with
    | none => ([], 0)
    | some k => (k :: (rdF ws way n (s.drop (gw ws k).length)).1, (gw ws k).length + (rdF ws way n (s.drop (gw ws k).length)).2)
def RD (ws : List Tx) (way s : Tx) : List Int × Nat := rdF ws way (s.length + 1) s
theorem gw_in {ws : List Tx} {k : Int} (h : 0 ≤ k ∧ k < ws.length) : getI ws k = .ok (gw ws k) ∧ gw ws k ∈ ws := by
  obtain ⟨a, e, m, g⟩ := getI_ex h.1 h.2
  have : gw ws k = a := by unfold gw; rw [List.getD_eq_getElem?_getD, e]; rfl
  rw [this]
  exact ⟨g, m⟩
theorem tk_len {ws : List Tx} (ne : ∀ w ∈ ws, w ≠ []) {way s : Tx} {k : Int} (h : tk ws way s = some k) : 1 ≤ (gw ws k).length ∧ (gw ws k).length ≤ s.length := by
  obtain ⟨h1, h2⟩ := tk_in h
  have h3 := List.length_pos_iff.2 (ne _ (gw_in h1).2)
  have h4 := congrArg List.length h2
  rw [List.length_take] at h4
  omega
theorem rdF_fuel {ws : List Tx} (ne : ∀ w ∈ ws, w ≠ []) {way : Tx} : ∀ {n m : Nat} {s : Tx}, s.length < n → s.length < m → rdF ws way n s = rdF ws way m s
  | 0, _, _, h, _ => by omega
  | _ + 1, 0, _, _, h => by omega
  | n + 1, m + 1, s, h1, h2 => by
    unfold rdF
    cases e : tk ws way s with
    | none => rfl
    | some k =>
      have := tk_len ne e
      have ih := rdF_fuel ne (way := way) (n := n) (m := m) (s := s.drop (gw ws k).length) (by rw [List.length_drop]; omega) (by rw [List.length_drop]; omega)
      dsimp only
      rw [ih]
theorem RD_none {ws : List Tx} {way s : Tx} (h : tk ws way s = none) : RD ws way s = ([], 0) := by
  unfold RD rdF
  rw [h]
theorem RD_some {ws : List Tx} (ne : ∀ w ∈ ws, w ≠ []) {way s : Tx} {k : Int} (h : tk ws way s = some k) : RD ws way s = (k :: (RD ws way (s.drop (gw ws k).length)).1, (gw ws k).length + (RD ws way (s.drop (gw ws k).length)).2) := by
  have := tk_len ne h
  unfold RD
  rw [rdF]
  rw [h]
  dsimp only
  rw [rdF_fuel ne (way := way) (n := s.length) (m := (s.drop (gw ws k).length).length + 1) (by rw [List.length_drop]; omega) (by omega)]
/-! turned -/
theorem gw_rev (ws : List Tx) (k : Int) : gw (ws.map List.reverse) k = (gw ws k).reverse := by
  unfold gw
  rw [List.getD_eq_getElem?_getD, List.getD_eq_getElem?_getD, List.getElem?_map]
  cases ws[k.toNat]? <;> rfl
theorem mt_rev (ws : List Tx) (s : Tx) (k : Int) : mt (ws.map List.reverse) s.reverse k = decide (s.drop (s.length - (gw ws k).length) = gw ws k) := by
  unfold mt
  rw [gw_rev, List.length_reverse, List.take_reverse]
  exact decide_eq_decide.2 ⟨fun h => List.reverse_inj.1 h, fun h => by rw [h]⟩
theorem ky_rev (ws : List Tx) (way : Tx) (k : Int) : ky (ws.map List.reverse) way k = ky ws way k := by
  unfold ky keyL
  have := gw_rev ws k
  unfold gw at this
  rw [this, List.length_reverse]
end PL

namespace K06
open PySem PySem.Spec PyProof.Rows L2 Ty
open Enc (enc)
def topS (i : Nat) : Stmt := PySem.Challenge.pw_endsread_k06_whole_readers_that_take.main.body.getD i (.Pass ⟨0, 0, 0, 0⟩)
abbrev s_is_integer : Stmt := topS 11
abbrev Ns_is_integer : List Str := ["value"]
theorem sc_is_integer : FnScope Ns_is_integer ["value"] (defScope s_is_integer) := ⟨rfl, rfl, rfl, by decide +kernel, rfl, by decide +kernel, by decide +kernel⟩
abbrev s_is_string : Stmt := topS 12
abbrev Ns_is_string : List Str := ["many", "value", "sign"]
theorem sc_is_string : FnScope Ns_is_string ["many", "value"] (defScope s_is_string) := ⟨rfl, rfl, rfl, by decide +kernel, rfl, by decide +kernel, by decide +kernel⟩
abbrev s_look_at_words : Stmt := topS 13
abbrev Ns_look_at_words : List Str := ["many", "words", "known", "index", "word"]
theorem sc_look_at_words : FnScope Ns_look_at_words ["many", "words"] (defScope s_look_at_words) := ⟨rfl, rfl, rfl, by decide +kernel, rfl, by decide +kernel, by decide +kernel⟩
abbrev s_Code___init__ : Stmt := inClass (topS 14) 1
abbrev Ns_Code___init__ : List Str := ["self", "signs", "words"]
theorem sc_Code___init__ : FnScope Ns_Code___init__ ["self", "signs", "words"] (defScope s_Code___init__) := ⟨rfl, rfl, rfl, by decide +kernel, rfl, by decide +kernel, by decide +kernel⟩
abbrev s_look_at_string : Stmt := topS 16
abbrev Ns_look_at_string : List Str := ["code", "value"]
theorem sc_look_at_string : FnScope Ns_look_at_string ["code", "value"] (defScope s_look_at_string) := ⟨rfl, rfl, rfl, by decide +kernel, rfl, by decide +kernel, by decide +kernel⟩
abbrev s_turned_words : Stmt := topS 15
abbrev Ns_turned_words : List Str := ["words", "word"]
theorem sc_turned_words : FnScope Ns_turned_words ["words"] (defScope s_turned_words) := ⟨rfl, rfl, rfl, by decide +kernel, rfl, by decide +kernel, by decide +kernel⟩
abbrev s_look_at_way : Stmt := topS 20
abbrev Ns_look_at_way : List Str := ["way", "side"]
theorem sc_look_at_way : FnScope Ns_look_at_way ["way", "side"] (defScope s_look_at_way) := ⟨rfl, rfl, rfl, by decide +kernel, rfl, by decide +kernel, by decide +kernel⟩
abbrev s_in_taste : Stmt := topS 21
abbrev Ns_in_taste : List Str := ["words", "way", "every", "@"]
theorem sc_in_taste : FnScope Ns_in_taste ["words", "way"] (defScope s_in_taste) := ⟨rfl, rfl, rfl, by decide +kernel, rfl, by decide +kernel, by decide +kernel⟩
theorem gh_in_taste : ¬ Vis (defScope s_in_taste) "@" := by unfold Vis; decide +kernel
abbrev s_read_front : Stmt := topS 22
abbrev Ns_read_front : List Str := ["words", "string", "way", "row", "place", "order", "able", "index", "@"]
theorem sc_read_front : FnScope Ns_read_front ["words", "string", "way"] (defScope s_read_front) := ⟨rfl, rfl, rfl, by decide +kernel, rfl, by decide +kernel, by decide +kernel⟩
theorem gh_read_front : ¬ Vis (defScope s_read_front) "@" := by unfold Vis; decide +kernel
abbrev s_read : Stmt := topS 23
abbrev Ns_read : List Str := ["code", "string", "way", "side", "row", "many", "@"]
theorem sc_read : FnScope Ns_read ["code", "string", "way", "side"] (defScope s_read) := ⟨rfl, rfl, rfl, by decide +kernel, rfl, by decide +kernel, by decide +kernel⟩
theorem gh_read : ¬ Vis (defScope s_read) "@" := by unfold Vis; decide +kernel
abbrev s_read_err : Stmt := topS 23
abbrev Ns_read_err : List Str := ["code", "string", "way", "side", "row", "many"]
theorem sc_read_err : FnScope Ns_read_err ["code", "string", "way", "side"] (defScope s_read_err) := ⟨rfl, rfl, rfl, by decide +kernel, rfl, by decide +kernel, by decide +kernel⟩
abbrev s_misread_err : Stmt := topS 27
abbrev Ns_misread_err : List Str := ["code", "way", "side"]
theorem sc_misread_err : FnScope Ns_misread_err ["code", "way", "side"] (defScope s_misread_err) := ⟨rfl, rfl, rfl, by decide +kernel, rfl, by decide +kernel, by decide +kernel⟩
abbrev s_misread : Stmt := topS 27
abbrev s__law_word : Stmt := topS 31
abbrev Ns__law_word : List Str := ["_law_h", "_law_many", "_law_high", "_law_k"]
theorem sc__law_word : FnScope Ns__law_word ["_law_h", "_law_many", "_law_high"] (defScope s__law_word) := ⟨rfl, rfl, rfl, by decide +kernel, rfl, by decide +kernel, by decide +kernel⟩
abbrev s__law_code : Stmt := topS 32
abbrev Ns__law_code : List Str := ["_law_h", "_law_high", "_law_many", "_law_words", "_law_left", "_law_k", "_law_at", "_law_word_here", "_law_sign"]
theorem sc__law_code : FnScope Ns__law_code ["_law_h", "_law_high"] (defScope s__law_code) := ⟨rfl, rfl, rfl, by decide +kernel, rfl, by decide +kernel, by decide +kernel⟩
abbrev s__law_row : Stmt := topS 33
abbrev Ns__law_row : List Str := ["_law_h", "_law_t", "_law_high", "_law_k"]
theorem sc__law_row : FnScope Ns__law_row ["_law_h", "_law_t", "_law_high"] (defScope s__law_row) := ⟨rfl, rfl, rfl, by decide +kernel, rfl, by decide +kernel, by decide +kernel⟩
abbrev s__law_built : Stmt := topS 34
abbrev Ns__law_built : List Str := ["_law_t"]
theorem sc__law_built : FnScope Ns__law_built ["_law_t"] (defScope s__law_built) := ⟨rfl, rfl, rfl, by decide +kernel, rfl, by decide +kernel, by decide +kernel⟩
abbrev s__law_text : Stmt := topS 35
abbrev Ns__law_text : List Str := ["_law_t", "_law_row_here", "_law_k"]
theorem sc__law_text : FnScope Ns__law_text ["_law_t", "_law_row_here"] (defScope s__law_text) := ⟨rfl, rfl, rfl, by decide +kernel, rfl, by decide +kernel, by decide +kernel⟩
abbrev s__law_take : Stmt := topS 39
abbrev Ns__law_take : List Str := ["_law_t", "_law_string", "_law_way", "_law_is_end", "_law_able", "_law_k", "_law_word_here", "_law_sizes"]
theorem sc__law_take : FnScope Ns__law_take ["_law_t", "_law_string", "_law_way", "_law_is_end"] (defScope s__law_take) := ⟨rfl, rfl, rfl, by decide +kernel, rfl, by decide +kernel, by decide +kernel⟩
abbrev s__law_read : Stmt := topS 40
abbrev Ns__law_read : List Str := ["_law_t", "_law_string", "_law_way", "_law_side", "_law_row_here", "_law_left", "_law_k"]
theorem sc__law_read : FnScope Ns__law_read ["_law_t", "_law_string", "_law_way", "_law_side"] (defScope s__law_read) := ⟨rfl, rfl, rfl, by decide +kernel, rfl, by decide +kernel, by decide +kernel⟩
abbrev s__law_refused : Stmt := topS 41
abbrev Ns__law_refused : List Str := ["_law_code_here", "_law_string", "_law_way", "_law_side", "_law_told"]
theorem sc__law_refused : FnScope Ns__law_refused ["_law_code_here", "_law_string", "_law_way", "_law_side"] (defScope s__law_refused) := ⟨rfl, rfl, rfl, by decide +kernel, rfl, by decide +kernel, by decide +kernel⟩
abbrev s__law_barred : Stmt := topS 42
abbrev Ns__law_barred : List Str := ["_law_code_here", "_law_way", "_law_side", "_law_told"]
theorem sc__law_barred : FnScope Ns__law_barred ["_law_code_here", "_law_way", "_law_side"] (defScope s__law_barred) := ⟨rfl, rfl, rfl, by decide +kernel, rfl, by decide +kernel, by decide +kernel⟩
abbrev s_law : Stmt := topS 43
abbrev Ns_law : List Str := ["_law_script", "_law_h", "_law_t", "_law_code_here", "_law_string", "_law_way", "_law_side", "_law_told", "_law_odd", "_law_k", "@"]
theorem sc_law : FnScope Ns_law ["_law_script"] (defScope s_law) := ⟨rfl, rfl, rfl, by decide +kernel, rfl, by decide +kernel, by decide +kernel⟩
theorem gh_law : ¬ Vis (defScope s_law) "@" := by unfold Vis; decide +kernel
abbrev nmL : Str := (envOfC "in_taste" (defScope s_in_taste) 0 0 .none).qual ++ "<lambda>"
abbrev s__law_mix : Stmt := topS 29
abbrev s__law_next : Stmt := topS 30
abbrev Ns__law_mix : List Str := ["_law_script", "_law_seed", "_law_state", "_law_cell"]
theorem sc__law_mix : FnScope Ns__law_mix ["_law_script", "_law_seed"] (defScope s__law_mix) := ⟨rfl, rfl, rfl, by decide +kernel, rfl, by decide +kernel, by decide +kernel⟩
abbrev Ns__law_next : List Str := ["_law_h", "_law_bound", "_law_cell"]
theorem sc__law_next : FnScope Ns__law_next ["_law_h", "_law_bound"] (defScope s__law_next) := ⟨rfl, rfl, rfl, by decide +kernel, rfl, by decide +kernel, by decide +kernel⟩
theorem st_0 : ("abc" : Str).cps.toList = ([97, 98, 99] : Tx) := by decide +kernel
theorem st_1 : ("listed" : Str).cps.toList = ([108, 105, 115, 116, 101, 100] : Tx) := by decide +kernel
theorem st_2 : ("longest" : Str).cps.toList = ([108, 111, 110, 103, 101, 115, 116] : Tx) := by decide +kernel
theorem st_3 : ("front" : Str).cps.toList = ([102, 114, 111, 110, 116] : Tx) := by decide +kernel
theorem st_4 : ("" : Str).cps.toList = ([] : Tx) := by decide +kernel
theorem st_5 : ("end" : Str).cps.toList = ([101, 110, 100] : Tx) := by decide +kernel
theorem st_6 : ("string" : Str).cps.toList = ([115, 116, 114, 105, 110, 103] : Tx) := by decide +kernel
theorem st_7 : ("way" : Str).cps.toList = ([119, 97, 121] : Tx) := by decide +kernel
theorem st_8 : ("shortest" : Str).cps.toList = ([115, 104, 111, 114, 116, 101, 115, 116] : Tx) := by decide +kernel
theorem st_9 : ("long" : Str).cps.toList = ([108, 111, 110, 103] : Tx) := by decide +kernel
theorem st_10 : ("x" : Str).cps.toList = ([120] : Tx) := by decide +kernel
theorem st_11 : ("begin" : Str).cps.toList = ([98, 101, 103, 105, 110] : Tx) := by decide +kernel
theorem bb_all : bootBuiltins "all" = some (.builtin "all") := by decide +kernel
theorem bb_isinstance : bootBuiltins "isinstance" = some (.builtin "isinstance") := by decide +kernel
theorem bb_max : bootBuiltins "max" = some (.builtin "max") := by decide +kernel
theorem bb_min : bootBuiltins "min" = some (.builtin "min") := by decide +kernel
theorem bb_sorted : bootBuiltins "sorted" = some (.builtin "sorted") := by decide +kernel
theorem bt_bool : bootBuiltins "bool" = some (.type "bool") := by decide +kernel
theorem bt_int : bootBuiltins "int" = some (.type "int") := by decide +kernel
theorem bt_str : bootBuiltins "str" = some (.type "str") := by decide +kernel
theorem bt_tuple : bootBuiltins "tuple" = some (.type "tuple") := by decide +kernel
theorem kn_bool : Known "bool" := by decide +kernel
theorem kn_int : Known "int" := by decide +kernel
theorem kn_str : Known "str" := by decide +kernel
theorem kn_tuple : Known "tuple" := by decide +kernel
theorem bt_list : bootBuiltins "list" = some (.type "list") := by decide +kernel
structure Txt (G : Glob) (mg : Str → Option Value) where
  cf : CodeFacts G
  Code : CodeCls G mg
  x_InvalidString : Xc G mg "InvalidString" "InvalidString"
  x_InvalidWay : Xc G mg "InvalidWay" "InvalidWay"
  a_SIDES : Addr
  g_SIDES : mg "SIDES" = some (.ref a_SIDES)
  q_SIDES : KTup G.K a_SIDES ["front", "end"]
  a_WAYS : Addr
  g_WAYS : mg "WAYS" = some (.ref a_WAYS)
  q_WAYS : KTup G.K a_WAYS ["longest", "shortest", "listed"]
  xm_InvalidString_InvalidString : PySem.W.exmOne G.K (.ref (G.exc "InvalidString")) (.ref (G.exc "InvalidString")) = some (decide ("InvalidString" = "InvalidString"))
  xm_InvalidString_InvalidWay : PySem.W.exmOne G.K (.ref (G.exc "InvalidString")) (.ref (G.exc "InvalidWay")) = some (decide ("InvalidString" = "InvalidWay"))
  xm_InvalidWay_InvalidString : PySem.W.exmOne G.K (.ref (G.exc "InvalidWay")) (.ref (G.exc "InvalidString")) = some (decide ("InvalidWay" = "InvalidString"))
  xm_InvalidWay_InvalidWay : PySem.W.exmOne G.K (.ref (G.exc "InvalidWay")) (.ref (G.exc "InvalidWay")) = some (decide ("InvalidWay" = "InvalidWay"))
  _law_mix : Df G.K mg "_law_mix" "_law_mix" s__law_mix ["_law_script", "_law_seed"]
  _law_next : Df G.K mg "_law_next" "_law_next" s__law_next ["_law_h", "_law_bound"]
  is_integer : Df G.K mg "is_integer" "is_integer" s_is_integer ["value"]
  is_string : Df G.K mg "is_string" "is_string" s_is_string ["many", "value"]
  look_at_words : Df G.K mg "look_at_words" "look_at_words" s_look_at_words ["many", "words"]
  Code___init__ : Di G.K G.code "__init__" "Code.__init__" s_Code___init__ ["self", "signs", "words"]
  look_at_string : Df G.K mg "look_at_string" "look_at_string" s_look_at_string ["code", "value"]
  turned_words : Df G.K mg "turned_words" "turned_words" s_turned_words ["words"]
  look_at_way : Df G.K mg "look_at_way" "look_at_way" s_look_at_way ["way", "side"]
  in_taste : Df G.K mg "in_taste" "in_taste" s_in_taste ["words", "way"]
  read_front : Df G.K mg "read_front" "read_front" s_read_front ["words", "string", "way"]
  read : Df G.K mg "read" "read" s_read ["code", "string", "way", "side"]
  misread : Df G.K mg "misread" "misread" s_misread ["code", "way", "side"]
  _law_word : Df G.K mg "_law_word" "_law_word" s__law_word ["_law_h", "_law_many", "_law_high"]
  _law_code : Df G.K mg "_law_code" "_law_code" s__law_code ["_law_h", "_law_high"]
  _law_row : Df G.K mg "_law_row" "_law_row" s__law_row ["_law_h", "_law_t", "_law_high"]
  _law_built : Df G.K mg "_law_built" "_law_built" s__law_built ["_law_t"]
  _law_text : Df G.K mg "_law_text" "_law_text" s__law_text ["_law_t", "_law_row_here"]
  _law_take : Df G.K mg "_law_take" "_law_take" s__law_take ["_law_t", "_law_string", "_law_way", "_law_is_end"]
  _law_read : Df G.K mg "_law_read" "_law_read" s__law_read ["_law_t", "_law_string", "_law_way", "_law_side"]
  _law_refused : Df G.K mg "_law_refused" "_law_refused" s__law_refused ["_law_code_here", "_law_string", "_law_way", "_law_side"]
  _law_barred : Df G.K mg "_law_barred" "_law_barred" s__law_barred ["_law_code_here", "_law_way", "_law_side"]
  law : Df G.K mg "law" "law" s_law ["_law_script"]
  tC : Addr
  tP : Addr
  tc : in_taste.fd.code = .ref tC
  z_all : mg "all" = none
  z_bool : mg "bool" = none
  z_enumerate : mg "enumerate" = none
  z_int : mg "int" = none
  z_isinstance : mg "isinstance" = none
  z_len : mg "len" = none
  z_list : mg "list" = none
  z_max : mg "max" = none
  z_min : mg "min" = none
  z_range : mg "range" = none
  z_sorted : mg "sorted" = none
  z_str : mg "str" = none
  z_tuple : mg "tuple" = none
  t_LETTERS : Tok
  g_LETTERS : mg "LETTERS" = some (.str "abc" t_LETTERS)
  t_MOST_SIGNS : Tok
  g_MOST_SIGNS : mg "MOST_SIGNS" = some (.int 4 t_MOST_SIGNS)
  t_MOST_WORDS : Tok
  g_MOST_WORDS : mg "MOST_WORDS" = some (.int 6 t_MOST_WORDS)
def m__law_next (n : Int) : Prog Int := .draw n .ok
def m_is_integer (x_value : PyData) : Prog Bool :=
  (((Prog.ok x_value : Prog PyData) >>= fun (a1 : PyData) => Prog.ok (isD "int" (enc a1))) >>= fun (b4 : Bool) => if b4 then (((Prog.ok x_value : Prog PyData) >>= fun (a2 : PyData) => Prog.ok (isD "bool" (enc a2))) >>= fun (a3 : Bool) => Prog.ok (!a3)) else Prog.ok false)
def m_is_string (x_many : Int) (x_value : PyData) : Prog Bool :=
  (((Prog.ok x_value : Prog PyData) >>= fun (a1 : PyData) => Prog.ok (isD "str" (enc a1))) >>= fun (b12 : Bool) => if b12 then (((((Prog.ok x_value : Prog PyData) >>= asTx) >>= fun (a2 : Tx) => Prog.ok (signs a2)) >>= fun (xs10 : List Tx) => chk (small xs10.length) (mapP (fun (a3 : Tx) => ((Prog.ok a3 : Prog Tx) >>= fun (a8 : Tx) => ((Prog.ok ([97, 98, 99] : Tx)) >>= fun (a4 : Tx) => (Prog.ok (none : Option Int)) >>= fun (p6 : Option Int) => ((Prog.ok x_many : Prog Int) >>= fun (a5 : Int) => Prog.ok (some a5)) >>= fun (p7 : Option Int) => chk (small a4.length) (Prog.ok (cut a4 p6 p7))) >>= fun (a9 : Tx) => Prog.ok (subS a8 a9))) xs10 : Prog (L Bool))) >>= fun (a11 : L Bool) => Prog.ok ((un a11).all id)) else Prog.ok false)
def m_look_at_words (x_many : Int) (x_words : (List Tx)) : Prog Unit :=
  (((((Prog.ok x_words : Prog (List Tx)) >>= fun (a1 : (List Tx)) => Prog.ok (isD "tuple" (enc a1))) >>= fun (b2 : Bool) => Prog.ok (!b2)) >>= fun (b9 : Bool) => if b9 then Prog.ok true else (((Prog.ok (1 : Int)) >>= fun (a4 : Int) => ((Prog.ok x_words : Prog (List Tx)) >>= fun (a3 : (List Tx)) => Prog.ok (a3.length : Int)) >>= fun (a5 : Int) => (Prog.ok (decide (a4 ≤ a5))) >>= fun (k7 : Bool) => if k7 then (Prog.ok (6 : Int)) >>= fun (a6 : Int) => Prog.ok (decide (a5 ≤ a6)) else Prog.ok false) >>= fun (b8 : Bool) => Prog.ok (!b8))) >>= fun (c10 : Bool) => if c10 then Prog.stuck else (((Prog.ok ([] : List Tx)) >>= fun (a11 : List Tx) => if a11.length ≤ 100000 then (Prog.ok a11 : Prog (L Tx)) else Prog.stuck) >>= fun (v12 : L Tx) => (((Prog.ok x_words : Prog (List Tx)) >>= fun (a13 : (List Tx)) => Prog.ok (enumT a13)) >>= fun (xs31 : List (Int × Tx)) => foldP (fun (b14 : ((List Tx))) (a15 : (Int × Tx)) => (((((Prog.ok x_many : Prog Int) >>= fun (a16 : Int) => ((Prog.ok a15.2 : Prog Tx) >>= fun a => Prog.ok (enc a)) >>= fun (a17 : PyData) => m_is_string a16 a17) >>= fun (b18 : Bool) => Prog.ok (!b18)) >>= fun (b28 : Bool) => if b28 then Prog.ok true else ((((Prog.ok (1 : Int)) >>= fun (a20 : Int) => ((Prog.ok a15.2 : Prog Tx) >>= fun (a19 : Tx) => chk (small a19.length) (Prog.ok (a19.length : Int))) >>= fun (a21 : Int) => (Prog.ok (decide (a20 ≤ a21))) >>= fun (k23 : Bool) => if k23 then (Prog.ok (4 : Int)) >>= fun (a22 : Int) => Prog.ok (decide (a21 ≤ a22)) else Prog.ok false) >>= fun (b24 : Bool) => Prog.ok (!b24)) >>= fun (b27 : Bool) => if b27 then Prog.ok true else ((Prog.ok a15.2 : Prog Tx) >>= fun (a25 : Tx) => (Prog.ok b14 : Prog (L Tx)) >>= fun (a26 : (L Tx)) => Prog.ok (memB a25 (un a26))))) >>= fun (c29 : Bool) => if c29 then Prog.stuck else ((Prog.ok a15.2 : Prog Tx) >>= fun (v30 : Tx) => chk (small (b14).length) (Prog.ok (b14 ++ [v30]) : Prog ((List Tx)))))) xs31 (un v12) >>= fun (b14 : ((List Tx))) => (Prog.ok ()))))
def m_Code___init__ (x_signs : Int) (x_words : (List Tx)) : Prog CodeV :=
  ((((((Prog.ok x_signs : Prog Int) >>= fun a => Prog.ok (enc a)) >>= fun (a1 : PyData) => m_is_integer a1) >>= fun (b2 : Bool) => Prog.ok (!b2)) >>= fun (b8 : Bool) => if b8 then Prog.ok true else (((Prog.ok (2 : Int)) >>= fun (a3 : Int) => (Prog.ok x_signs : Prog Int) >>= fun (a4 : Int) => (Prog.ok (decide (a3 ≤ a4))) >>= fun (k6 : Bool) => if k6 then (Prog.ok (3 : Int)) >>= fun (a5 : Int) => Prog.ok (decide (a4 ≤ a5)) else Prog.ok false) >>= fun (b7 : Bool) => Prog.ok (!b7))) >>= fun (c9 : Bool) => if c9 then Prog.stuck else (((Prog.ok x_signs : Prog Int) >>= fun (a10 : Int) => (Prog.ok x_words : Prog (List Tx)) >>= fun (a11 : (List Tx)) => m_look_at_words a10 a11) >>= fun (_ : Unit) => (Prog.ok (CodeV.mk x_signs x_words))))
def m_look_at_string (x_code : CodeV) (x_value : PyData) : Prog Unit :=
  (((((Prog.ok x_code : Prog CodeV) >>= fun (c1 : CodeV) => Prog.ok c1.many) >>= fun (a2 : Int) => (Prog.ok x_value : Prog PyData) >>= fun (a3 : PyData) => m_is_string a2 a3) >>= fun (b4 : Bool) => Prog.ok (!b4)) >>= fun (c5 : Bool) => if c5 then raiseP (Prog.ok (⟨"InvalidString", []⟩ : Exc)) else (Prog.ok ()))
def m_turned_words (x_words : (List Tx)) : Prog (List Tx) :=
  (((Prog.ok x_words : Prog (List Tx)) >>= fun (xs3 : List Tx) => chk (small xs3.length) (mapP (fun (a1 : Tx) => ((Prog.ok a1 : Prog Tx) >>= fun (a2 : Tx) => chk (small a2.length) (Prog.ok a2.reverse))) xs3 : Prog (L Tx))) >>= fun (a4 : (L Tx)) => Prog.ok (un a4))
def m_look_at_way (x_way : PyData) (x_side : PyData) : Prog Unit :=
  (((((Prog.ok x_way : Prog PyData) >>= fun (a1 : PyData) => Prog.ok (isD "str" (enc a1))) >>= fun (b2 : Bool) => Prog.ok (!b2)) >>= fun (b11 : Bool) => if b11 then Prog.ok true else ((((Prog.ok x_way : Prog PyData) >>= asTx) >>= fun (a3 : Tx) => (Prog.ok [([108, 111, 110, 103, 101, 115, 116] : Tx), ([115, 104, 111, 114, 116, 101, 115, 116] : Tx), ([108, 105, 115, 116, 101, 100] : Tx)]) >>= fun (a4 : (List Tx)) => Prog.ok (!memB a3 a4)) >>= fun (b10 : Bool) => if b10 then Prog.ok true else ((((Prog.ok x_side : Prog PyData) >>= fun (a5 : PyData) => Prog.ok (isD "str" (enc a5))) >>= fun (b6 : Bool) => Prog.ok (!b6)) >>= fun (b9 : Bool) => if b9 then Prog.ok true else (((Prog.ok x_side : Prog PyData) >>= asTx) >>= fun (a7 : Tx) => (Prog.ok [([102, 114, 111, 110, 116] : Tx), ([101, 110, 100] : Tx)]) >>= fun (a8 : (List Tx)) => Prog.ok (!memB a7 a8))))) >>= fun (c12 : Bool) => if c12 then raiseP (Prog.ok (⟨"InvalidWay", []⟩ : Exc)) else (Prog.ok ()))
def m_in_taste (x_words : (List Tx)) (x_way : Tx) : Prog (L Int) :=
  ((((Prog.ok x_words : Prog (List Tx)) >>= fun (a1 : (List Tx)) => Prog.ok (a1.length : Int)) >>= fun (n2 : Int) => chk (inRange n2 && small n2.toNat) (Prog.ok (rng 0 n2) : Prog (L Int))) >>= fun (v3 : (L Int)) => (((Prog.ok x_way : Prog Tx) >>= fun (a4 : Tx) => (Prog.ok ([108, 105, 115, 116, 101, 100] : Tx)) >>= fun (a5 : Tx) => Prog.ok (decide (a4 = a5))) >>= fun (c6 : Bool) => if c6 then (Prog.ok v3 : Prog (L Int)) else ((Prog.ok v3 : Prog (L Int)) >>= fun (xs8 : L Int) => chk (okL x_words (un xs8)) (Prog.ok (sortL x_words x_way ([108, 111, 110, 103, 101, 115, 116] : Tx) (un xs8)) : Prog (L Int)))))
def m_read_front (x_words : (List Tx)) (x_string : Tx) (x_way : Tx) : Prog ((List Int) × Int) :=
  ((((Prog.ok ([] : List Int)) >>= fun (a1 : List Int) => if a1.length ≤ 100000 then Prog.ok a1 else Prog.stuck) >>= fun (a2 : (List Int)) => (Prog.ok (0 : Int)) >>= fun (a3 : Int) => Prog.ok (a2, a3)) >>= fun (v4 : ((List Int) × Int)) => (((Prog.ok x_words : Prog (List Tx)) >>= fun (a5 : (List Tx)) => (Prog.ok x_way : Prog Tx) >>= fun (a6 : Tx) => m_in_taste a5 a6) >>= fun (v7 : (L Int)) => ((((Prog.ok v7 : Prog (L Int)) : Prog (List Int)) >>= fun (xs49 : List Int) => chk (small xs49.length) (compP (fun (a29 : Int) => (((Prog.ok x_string : Prog Tx) >>= fun (a30 : Tx) => ((Prog.ok v4.2 : Prog Int) >>= fun (a31 : Int) => Prog.ok (some a31)) >>= fun (p42 : Option Int) => (((Prog.ok v4.2 : Prog Int) >>= fun (a39 : Int) => (((Prog.ok x_words : Prog (List Tx)) >>= fun (a36 : (List Tx)) => (Prog.ok a29 : Prog Int) >>= fun (a37 : Int) => getI a36 a37) >>= fun (a38 : Tx) => chk (small a38.length) (Prog.ok (a38.length : Int))) >>= fun (a40 : Int) => Prog.ok (a39 + a40)) >>= fun (a41 : Int) => Prog.ok (some a41)) >>= fun (p43 : Option Int) => chk (small a30.length) (Prog.ok (cut a30 p42 p43))) >>= fun (a47 : Tx) => ((Prog.ok x_words : Prog (List Tx)) >>= fun (a45 : (List Tx)) => (Prog.ok a29 : Prog Int) >>= fun (a46 : Int) => getI a45 a46) >>= fun (a48 : Tx) => Prog.ok (decide (a47 = a48)))) (fun (a29 : Int) => (Prog.ok a29 : Prog Int)) xs49 : Prog (L Int))) >>= fun (v50 : (L Int)) => (whileP (fun (b51 : ((List Int) × Int × (L Int))) => ((Prog.ok b51.2.2 : Prog (L Int)) >>= fun (a53 : (L Int)) => ((Prog.ok ([] : List Int)) >>= fun (a52 : List Int) => if a52.length ≤ 100000 then (Prog.ok a52 : Prog (L Int)) else Prog.stuck) >>= fun (a54 : (L Int)) => neP a53 a54)) (fun (b51 : ((List Int) × Int × (L Int))) => ((((Prog.ok b51.1 : Prog (List Int)) >>= fun (a60 : (List Int)) => (((Prog.ok b51.2.2 : Prog (L Int)) >>= fun (a56 : (L Int)) => (Prog.ok (0 : Int)) >>= fun (a57 : Int) => getI (un a56) a57) >>= fun (a58 : Int) => (Prog.ok ([] : List Int)) >>= fun (a59 : List Int) => Prog.ok (a58 :: a59)) >>= fun (a61 : List Int) => Prog.ok (a60 ++ a61)) >>= fun (a62 : List Int) => if a62.length ≤ 100000 then Prog.ok a62 else Prog.stuck) >>= fun (v63 : (List Int)) => ((((Prog.ok x_words : Prog (List Tx)) >>= fun (a74 : (List Tx)) => ((Prog.ok b51.2.2 : Prog (L Int)) >>= fun (a72 : (L Int)) => (Prog.ok (0 : Int)) >>= fun (a73 : Int) => getI (un a72) a73) >>= fun (a75 : Int) => getI a74 a75) >>= fun (a76 : Tx) => chk (small a76.length) (Prog.ok (a76.length : Int))) >>= fun (v77 : Int) => ((((Prog.ok v7 : Prog (L Int)) : Prog (List Int)) >>= fun (xs119 : List Int) => chk (small xs119.length) (compP (fun (a99 : Int) => (((Prog.ok x_string : Prog Tx) >>= fun (a100 : Tx) => ((Prog.ok (b51.2.1 + v77) : Prog Int) >>= fun (a101 : Int) => Prog.ok (some a101)) >>= fun (p112 : Option Int) => (((Prog.ok (b51.2.1 + v77) : Prog Int) >>= fun (a109 : Int) => (((Prog.ok x_words : Prog (List Tx)) >>= fun (a106 : (List Tx)) => (Prog.ok a99 : Prog Int) >>= fun (a107 : Int) => getI a106 a107) >>= fun (a108 : Tx) => chk (small a108.length) (Prog.ok (a108.length : Int))) >>= fun (a110 : Int) => Prog.ok (a109 + a110)) >>= fun (a111 : Int) => Prog.ok (some a111)) >>= fun (p113 : Option Int) => chk (small a100.length) (Prog.ok (cut a100 p112 p113))) >>= fun (a117 : Tx) => ((Prog.ok x_words : Prog (List Tx)) >>= fun (a115 : (List Tx)) => (Prog.ok a99 : Prog Int) >>= fun (a116 : Int) => getI a115 a116) >>= fun (a118 : Tx) => Prog.ok (decide (a117 = a118)))) (fun (a99 : Int) => (Prog.ok a99 : Prog Int)) xs119 : Prog (L Int))) >>= fun (v120 : (L Int)) => (Prog.ok (v63, (b51.2.1 + v77), v120) : Prog ((List Int) × Int × (L Int))))))) 1000000 (v4.1, v4.2, v50) >>= fun (b51 : ((List Int) × Int × (L Int))) => ((Prog.ok b51.1 : Prog (List Int)) >>= fun (a121 : (List Int)) => (Prog.ok b51.2.1 : Prog Int) >>= fun (a122 : Int) => Prog.ok (a121, a122))))))
def m_read (x_code : CodeV) (x_string : Tx) (x_way : Tx) (x_side : Tx) : Prog ((List Int) × Int) :=
  (((Prog.ok x_code : Prog CodeV) >>= fun (a1 : CodeV) => ((Prog.ok x_string : Prog Tx) >>= fun a => Prog.ok (enc a)) >>= fun (a2 : PyData) => m_look_at_string a1 a2) >>= fun (_ : Unit) => ((((Prog.ok x_way : Prog Tx) >>= fun a => Prog.ok (enc a)) >>= fun (a3 : PyData) => ((Prog.ok x_side : Prog Tx) >>= fun a => Prog.ok (enc a)) >>= fun (a4 : PyData) => m_look_at_way a3 a4) >>= fun (_ : Unit) => (((Prog.ok x_side : Prog Tx) >>= fun (a5 : Tx) => (Prog.ok ([102, 114, 111, 110, 116] : Tx)) >>= fun (a6 : Tx) => Prog.ok (decide (a5 = a6))) >>= fun (c7 : Bool) => if c7 then (((Prog.ok x_code : Prog CodeV) >>= fun (c8 : CodeV) => Prog.ok c8.parts) >>= fun (a9 : (List Tx)) => (Prog.ok x_string : Prog Tx) >>= fun (a10 : Tx) => (Prog.ok x_way : Prog Tx) >>= fun (a11 : Tx) => m_read_front a9 a10 a11) else (((((Prog.ok x_code : Prog CodeV) >>= fun (c13 : CodeV) => Prog.ok c13.parts) >>= fun (a14 : (List Tx)) => m_turned_words a14) >>= fun (a16 : (List Tx)) => ((Prog.ok x_string : Prog Tx) >>= fun (a15 : Tx) => chk (small a15.length) (Prog.ok a15.reverse)) >>= fun (a17 : Tx) => (Prog.ok x_way : Prog Tx) >>= fun (a18 : Tx) => m_read_front a16 a17 a18) >>= fun (v19 : ((List Int) × Int)) => (((Prog.ok v19.1 : Prog (List Int)) >>= fun (a20 : (List Int)) => Prog.ok a20.reverse) >>= fun (a21 : (List Int)) => (Prog.ok v19.2 : Prog Int) >>= fun (a22 : Int) => Prog.ok (a21, a22))))))
def m_read_err (x_code : CodeV) (x_string : Tx) (x_way : PyData) (x_side : PyData) : Prog ((List Int) × Int) :=
  (((Prog.ok x_code : Prog CodeV) >>= fun (a1 : CodeV) => ((Prog.ok x_string : Prog Tx) >>= fun a => Prog.ok (enc a)) >>= fun (a2 : PyData) => m_look_at_string a1 a2) >>= fun (_ : Unit) => (((Prog.ok x_way : Prog PyData) >>= fun (a3 : PyData) => (Prog.ok x_side : Prog PyData) >>= fun (a4 : PyData) => m_look_at_way a3 a4) >>= fun (_ : Unit) => Prog.stuck))
def m_misread_err (x_code : CodeV) (x_way : PyData) (x_side : PyData) : Prog (Option (List Int)) :=
  (((Prog.ok x_way : Prog PyData) >>= fun (a1 : PyData) => (Prog.ok x_side : Prog PyData) >>= fun (a2 : PyData) => m_look_at_way a1 a2) >>= fun (_ : Unit) => Prog.stuck)
def m__law_word (x_law_many : Int) (x_law_high : Int) : Prog Tx :=
  ((Prog.ok ([] : Tx)) >>= fun (a11 : Tx) => ((((Prog.ok (1 : Int)) >>= fun (a2 : Int) => ((Prog.ok x_law_high : Prog Int) >>= fun (a1 : Int) => m__law_next a1) >>= fun (a3 : Int) => Prog.ok (a2 + a3)) >>= fun (n4 : Int) => chk (inRange n4) (Prog.ok (rng 0 n4))) >>= fun (xs10 : List Int) => chk (small xs10.length) (noerr (mapP (fun (a5 : Int) => ((Prog.ok ([97, 98, 99] : Tx)) >>= fun (a8 : Tx) => ((Prog.ok x_law_many : Prog Int) >>= fun (a7 : Int) => m__law_next a7) >>= fun (a9 : Int) => getS a8 a9)) xs10) : Prog (L Tx))) >>= fun (a12 : L Tx) => chk (small (sumLen (un a12) + (un a12).length * a11.length)) (Prog.ok (joinT a11 (un a12))))
def m__law_code (x_law_high : Int) : Prog (L2v Int (List Tx)) :=
  (((Prog.ok (2 : Int)) >>= fun (a5 : Int) => ((((Prog.ok (4 : Int)) >>= fun (a1 : Int) => m__law_next a1) >>= fun (a2 : Int) => (Prog.ok (0 : Int)) >>= fun (a3 : Int) => Prog.ok (decide (a2 = a3))) >>= fun (b4 : Bool) => Prog.ok (if b4 then (1 : Int) else 0)) >>= fun (a6 : Int) => Prog.ok (a5 + a6)) >>= fun (v7 : Int) => (((Prog.ok ([] : List Tx)) >>= fun (a8 : List Tx) => if a8.length ≤ 100000 then (Prog.ok a8 : Prog (L Tx)) else Prog.stuck) >>= fun (v9 : L Tx) => ((((Prog.ok (3 : Int)) >>= fun (a10 : Int) => m__law_next a10) >>= fun (a11 : Int) => (Prog.ok (0 : Int)) >>= fun (a12 : Int) => Prog.ok (decide (a11 = a12))) >>= fun (c13 : Bool) => (if c13 then ((((Prog.ok ([] : Tx)) >>= fun (a15 : Tx) => (Prog.ok ([] : List Tx)) >>= fun (a16 : List Tx) => Prog.ok (a15 :: a16)) >>= fun (a17 : List Tx) => if a17.length ≤ 100000 then (Prog.ok a17 : Prog (L Tx)) else Prog.stuck) >>= fun (v18 : (L Tx)) => ((((Prog.ok x_law_high : Prog Int) >>= fun (a19 : Int) => m__law_next a19) >>= fun (n20 : Int) => chk (inRange n20) (Prog.ok (rng 0 n20))) >>= fun (xs93 : List Int) => foldP (fun (b21 : ((L Tx))) (a22 : Int) => ((((Prog.ok b21 : Prog (L Tx)) >>= fun (a23 : (L Tx)) => Prog.ok ((un a23).length : Int)) >>= fun (a24 : Int) => m__law_next a24) >>= fun (v25 : Int) => ((((((Prog.ok b21 : Prog (L Tx)) >>= fun (a30 : (L Tx)) => (Prog.ok v25 : Prog Int) >>= fun (a31 : Int) => getI (un a30) a31) >>= fun (a32 : Tx) => chk (small a32.length) (Prog.ok (a32.length : Int))) >>= fun (a33 : Int) => (Prog.ok (4 : Int)) >>= fun (a34 : Int) => Prog.ok (decide (a33 < a34))) >>= fun (b42 : Bool) => if b42 then (((((Prog.ok b21 : Prog (L Tx)) >>= fun (a35 : (L Tx)) => Prog.ok ((un a35).length : Int)) >>= fun (a36 : Int) => (Prog.ok v7 : Prog Int) >>= fun (a37 : Int) => Prog.ok (a36 + a37)) >>= fun (a38 : Int) => (Prog.ok (1 : Int)) >>= fun (a39 : Int) => Prog.ok (a38 - a39)) >>= fun (a40 : Int) => (Prog.ok (6 : Int)) >>= fun (a41 : Int) => Prog.ok (decide (a40 ≤ a41))) else Prog.ok false) >>= fun (c43 : Bool) => (if c43 then (((((Prog.ok b21 : Prog (L Tx)) >>= fun (a45 : (L Tx)) => (Prog.ok (none : Option Int)) >>= fun (p47 : Option Int) => ((Prog.ok v25 : Prog Int) >>= fun (a46 : Int) => Prog.ok (some a46)) >>= fun (p48 : Option Int) => (Prog.ok (cut (un a45) p47 p48) : Prog (L Tx))) >>= fun (a61 : L Tx) => ((((Prog.ok ([97, 98, 99] : Tx)) >>= fun (a49 : Tx) => (Prog.ok (none : Option Int)) >>= fun (p51 : Option Int) => ((Prog.ok v7 : Prog Int) >>= fun (a50 : Int) => Prog.ok (some a50)) >>= fun (p52 : Option Int) => chk (small a49.length) (Prog.ok (cut a49 p51 p52))) >>= fun (a53 : Tx) => Prog.ok (signs a53)) >>= fun (xs60 : List Tx) => chk (small xs60.length) (mapP (fun (a54 : Tx) => (((Prog.ok b21 : Prog (L Tx)) >>= fun (a56 : (L Tx)) => (Prog.ok v25 : Prog Int) >>= fun (a57 : Int) => getI (un a56) a57) >>= fun (a58 : Tx) => (Prog.ok a54 : Prog Tx) >>= fun (a59 : Tx) => chk (small (a58.length + a59.length)) (Prog.ok (a58 ++ a59)))) xs60 : Prog (L Tx))) >>= fun (a62 : L Tx) => chk (small ((un a61).length + (un a62).length)) (Prog.ok (un a61 ++ un a62) : Prog (L Tx))) >>= fun (a69 : L Tx) => ((Prog.ok b21 : Prog (L Tx)) >>= fun (a63 : (L Tx)) => (((Prog.ok v25 : Prog Int) >>= fun (a64 : Int) => (Prog.ok (1 : Int)) >>= fun (a65 : Int) => Prog.ok (a64 + a65)) >>= fun (a66 : Int) => Prog.ok (some a66)) >>= fun (p67 : Option Int) => (Prog.ok (none : Option Int)) >>= fun (p68 : Option Int) => (Prog.ok (cut (un a63) p67 p68) : Prog (L Tx))) >>= fun (a70 : L Tx) => chk (small ((un a69).length + (un a70).length)) (Prog.ok (un a69 ++ un a70) : Prog (L Tx))) >>= fun (v71 : (L Tx)) => (Prog.ok v71 : Prog ((L Tx)))) else (Prog.ok b21 : Prog ((L Tx)))) >>= fun (b44 : ((L Tx))) => (Prog.ok b44 : Prog ((L Tx)))))) xs93 v18 >>= fun (b21 : ((L Tx))) => ((((Prog.ok b21 : Prog (L Tx)) : Prog (List Tx)) >>= fun (xs79 : List Tx) => chk (small xs79.length) (compP (fun (a76 : Tx) => ((Prog.ok a76 : Prog Tx) >>= fun (a77 : Tx) => (Prog.ok ([] : Tx)) >>= fun (a78 : Tx) => Prog.ok (!decide (a77 = a78)))) (fun (a76 : Tx) => (Prog.ok a76 : Prog Tx)) xs79 : Prog (L Tx))) >>= fun (v80 : L Tx) => ((((Prog.ok (2 : Int)) >>= fun (a81 : Int) => m__law_next a81) >>= fun (a82 : Int) => (Prog.ok (0 : Int)) >>= fun (a83 : Int) => Prog.ok (decide (a82 = a83))) >>= fun (c84 : Bool) => (if c84 then ((((Prog.ok (un v80) : Prog (L Tx)) : Prog (List Tx)) >>= fun (xs91 : List Tx) => chk (small xs91.length) (mapP (fun (a89 : Tx) => ((Prog.ok a89 : Prog Tx) >>= fun (a90 : Tx) => chk (small a90.length) (Prog.ok a90.reverse))) xs91 : Prog (L Tx))) >>= fun (v92 : L Tx) => (Prog.ok (un v92) : Prog ((List Tx)))) else (Prog.ok (un v80) : Prog ((List Tx)))) >>= fun (b85 : ((List Tx))) => (Prog.ok b85 : Prog ((List Tx))))))) else (Prog.ok (un v9) : Prog ((List Tx)))) >>= fun (b14 : ((List Tx))) => (((((Prog.ok x_law_high : Prog Int) >>= fun (a94 : Int) => m__law_next a94) >>= fun (a99 : Int) => (((Prog.ok b14 : Prog (L Tx)) >>= fun (a96 : (L Tx)) => ((Prog.ok ([] : List Tx)) >>= fun (a95 : List Tx) => if a95.length ≤ 100000 then (Prog.ok a95 : Prog (L Tx)) else Prog.stuck) >>= fun (a97 : (L Tx)) => eqP a96 a97) >>= fun (b98 : Bool) => Prog.ok (if b98 then (1 : Int) else 0)) >>= fun (a100 : Int) => Prog.ok (a99 + a100)) >>= fun (n101 : Int) => chk (inRange n101) (Prog.ok (rng 0 n101))) >>= fun (xs140 : List Int) => foldP (fun (b102 : ((List Tx))) (a103 : Int) => (((Prog.ok v7 : Prog Int) >>= fun (a108 : Int) => ((((Prog.ok (3 : Int)) >>= fun (a104 : Int) => m__law_next a104) >>= fun (a105 : Int) => (Prog.ok (0 : Int)) >>= fun (a106 : Int) => Prog.ok (decide (a105 = a106))) >>= fun (b107 : Bool) => if b107 then (Prog.ok (4 : Int)) else (Prog.ok (3 : Int))) >>= fun (a109 : Int) => m__law_word a108 a109) >>= fun (v110 : Tx) => ((((Prog.ok v110 : Prog Tx) >>= fun (a111 : Tx) => (Prog.ok b102 : Prog (L Tx)) >>= fun (a112 : (L Tx)) => Prog.ok (!memB a111 (un a112))) >>= fun (b116 : Bool) => if b116 then (((Prog.ok b102 : Prog (L Tx)) >>= fun (a113 : (L Tx)) => Prog.ok ((un a113).length : Int)) >>= fun (a114 : Int) => (Prog.ok (6 : Int)) >>= fun (a115 : Int) => Prog.ok (decide (a114 < a115))) else Prog.ok false) >>= fun (c117 : Bool) => (if c117 then (((((Prog.ok b102 : Prog (L Tx)) >>= fun (a119 : (L Tx)) => Prog.ok ((un a119).length : Int)) >>= fun (a120 : Int) => (Prog.ok (1 : Int)) >>= fun (a121 : Int) => Prog.ok (a120 + a121)) >>= fun (a122 : Int) => m__law_next a122) >>= fun (j123 : Int) => (Prog.ok v110 : Prog Tx) >>= fun (v124 : Tx) => chk (small (b102).length && decide (0 ≤ j123) && inRange j123) (Prog.ok (b102.take j123.toNat ++ [v124] ++ b102.drop j123.toNat) : Prog ((List Tx)))) else (Prog.ok b102 : Prog ((List Tx)))) >>= fun (b118 : ((List Tx))) => (Prog.ok b118 : Prog ((List Tx)))))) xs140 b14 >>= fun (b102 : ((List Tx))) => (((((Prog.ok b102 : Prog (L Tx)) >>= fun (a125 : (L Tx)) => Prog.ok ((un a125).length : Int)) >>= fun (a126 : Int) => (Prog.ok (2 : Int)) >>= fun (a127 : Int) => Prog.ok (decide (a127 < a126))) >>= fun (b131 : Bool) => if b131 then (((Prog.ok (2 : Int)) >>= fun (a128 : Int) => m__law_next a128) >>= fun (a129 : Int) => (Prog.ok (0 : Int)) >>= fun (a130 : Int) => Prog.ok (decide (a129 = a130))) else Prog.ok false) >>= fun (c132 : Bool) => (if c132 then ((((Prog.ok b102 : Prog (L Tx)) >>= fun (a134 : (L Tx)) => Prog.ok ((un a134).length : Int)) >>= fun (a135 : Int) => m__law_next a135) >>= fun (j136 : Int) => chk (decide (0 ≤ j136) && decide (j136 < (b102).length) && inRange j136) (Prog.ok (b102.eraseIdx j136.toNat) : Prog ((List Tx)))) else (Prog.ok b102 : Prog ((List Tx)))) >>= fun (b133 : ((List Tx))) => ((Prog.ok v7 : Prog Int) >>= fun (a138 : Int) => ((Prog.ok b133 : Prog (L Tx)) >>= fun (a137 : (L Tx)) => Prog.ok (un a137)) >>= fun (a139 : (List Tx)) => Prog.ok (L2v.mk a138 a139)))))))
def m__law_row (x_law_t : (L2v Int (List Tx))) (x_law_high : Int) : Prog (List Int) :=
  ((((((Prog.ok x_law_high : Prog Int) >>= fun (a1 : Int) => (Prog.ok (1 : Int)) >>= fun (a2 : Int) => Prog.ok (a1 + a2)) >>= fun (a3 : Int) => m__law_next a3) >>= fun (n4 : Int) => chk (inRange n4) (Prog.ok (rng 0 n4))) >>= fun (xs10 : List Int) => chk (small xs10.length) (noerr (mapP (fun (a5 : Int) => ((((Prog.ok x_law_t : Prog (L2v Int (List Tx))) >>= fun (a7 : (L2v Int (List Tx))) => Prog.ok a7.b) >>= fun (a8 : (List Tx)) => Prog.ok (a8.length : Int)) >>= fun (a9 : Int) => m__law_next a9)) xs10) : Prog (L Int))) >>= fun (a11 : (L Int)) => Prog.ok (un a11))
def m__law_built (x_law_t : (L2v Int (List Tx))) : Prog CodeV :=
  (((Prog.ok x_law_t : Prog (L2v Int (List Tx))) >>= fun (a1 : (L2v Int (List Tx))) => Prog.ok a1.a) >>= fun (a3 : Int) => ((Prog.ok x_law_t : Prog (L2v Int (List Tx))) >>= fun (a2 : (L2v Int (List Tx))) => Prog.ok a2.b) >>= fun (a4 : (List Tx)) => m_Code___init__ a3 a4)
def m__law_text (x_law_t : (L2v Int (List Tx))) (x_law_row_here : (List Int)) : Prog Tx :=
  ((Prog.ok ([] : Tx)) >>= fun (a7 : Tx) => ((Prog.ok x_law_row_here : Prog (List Int)) >>= fun (xs6 : List Int) => chk (small xs6.length) (mapP (fun (a1 : Int) => (((Prog.ok x_law_t : Prog (L2v Int (List Tx))) >>= fun (a2 : (L2v Int (List Tx))) => Prog.ok a2.b) >>= fun (a4 : (List Tx)) => (Prog.ok a1 : Prog Int) >>= fun (a5 : Int) => getI a4 a5)) xs6 : Prog (L Tx))) >>= fun (a8 : L Tx) => chk (small (sumLen (un a8) + (un a8).length * a7.length)) (Prog.ok (joinT a7 (un a8))))
def m__law_take (x_law_t : (L2v Int (List Tx))) (x_law_string : Tx) (x_law_way : Tx) (x_law_is_end : Bool) : Prog (Option Int) :=
  (((Prog.ok ([] : List Int)) >>= fun (a1 : List Int) => if a1.length ≤ 100000 then (Prog.ok a1 : Prog (L Int)) else Prog.stuck) >>= fun (v2 : L Int) => (((((Prog.ok x_law_t : Prog (L2v Int (List Tx))) >>= fun (a4 : (L2v Int (List Tx))) => Prog.ok a4.b) >>= fun (a5 : (List Tx)) => Prog.ok (a5.length : Int)) >>= fun (n6 : Int) => chk (inRange n6) (Prog.ok (rng 0 n6))) >>= fun (xs88 : List Int) => foldP (fun (b7 : ((List Int))) (a8 : Int) => ((((Prog.ok x_law_t : Prog (L2v Int (List Tx))) >>= fun (a9 : (L2v Int (List Tx))) => Prog.ok a9.b) >>= fun (a11 : (List Tx)) => (Prog.ok a8 : Prog Int) >>= fun (a12 : Int) => getI a11 a12) >>= fun (v13 : Tx) => ((((Prog.ok x_law_is_end : Prog Bool) >>= fun (b26 : Bool) => if b26 then (((Prog.ok x_law_string : Prog Tx) >>= fun (a14 : Tx) => (((((Prog.ok x_law_string : Prog Tx) >>= fun (a15 : Tx) => chk (small a15.length) (Prog.ok (a15.length : Int))) >>= fun (a17 : Int) => ((Prog.ok v13 : Prog Tx) >>= fun (a16 : Tx) => chk (small a16.length) (Prog.ok (a16.length : Int))) >>= fun (a18 : Int) => Prog.ok (a17 - a18)) >>= fun (a19 : Int) => (Prog.ok (0 : Int)) >>= fun (a20 : Int) => Prog.ok (if a20 > a19 then a20 else a19)) >>= fun (a21 : Int) => Prog.ok (some a21)) >>= fun (p22 : Option Int) => (Prog.ok (none : Option Int)) >>= fun (p23 : Option Int) => chk (small a14.length) (Prog.ok (cut a14 p22 p23))) >>= fun (a24 : Tx) => (Prog.ok v13 : Prog Tx) >>= fun (a25 : Tx) => Prog.ok (decide (a24 = a25))) else Prog.ok false) >>= fun (b36 : Bool) => if b36 then Prog.ok true else (((Prog.ok x_law_is_end : Prog Bool) >>= fun (b27 : Bool) => Prog.ok (!b27)) >>= fun (b35 : Bool) => if b35 then (((Prog.ok x_law_string : Prog Tx) >>= fun (a28 : Tx) => (Prog.ok (none : Option Int)) >>= fun (p31 : Option Int) => (((Prog.ok v13 : Prog Tx) >>= fun (a29 : Tx) => chk (small a29.length) (Prog.ok (a29.length : Int))) >>= fun (a30 : Int) => Prog.ok (some a30)) >>= fun (p32 : Option Int) => chk (small a28.length) (Prog.ok (cut a28 p31 p32))) >>= fun (a33 : Tx) => (Prog.ok v13 : Prog Tx) >>= fun (a34 : Tx) => Prog.ok (decide (a33 = a34))) else Prog.ok false)) >>= fun (c37 : Bool) => (if c37 then ((Prog.ok a8 : Prog Int) >>= fun (v39 : Int) => chk (small (b7).length) (Prog.ok (b7 ++ [v39]) : Prog ((List Int)))) else (Prog.ok b7 : Prog ((List Int)))) >>= fun (b38 : ((List Int))) => (Prog.ok b38 : Prog ((List Int)))))) xs88 (un v2) >>= fun (b7 : ((List Int))) => (((Prog.ok b7 : Prog (L Int)) >>= fun (a41 : (L Int)) => ((Prog.ok ([] : List Int)) >>= fun (a40 : List Int) => if a40.length ≤ 100000 then (Prog.ok a40 : Prog (L Int)) else Prog.stuck) >>= fun (a42 : (L Int)) => eqP a41 a42) >>= fun (c43 : Bool) => if c43 then (Prog.ok (none : (Option Int))) else ((((Prog.ok b7 : Prog (L Int)) : Prog (List Int)) >>= fun (xs65 : List Int) => chk (small xs65.length) (mapP (fun (a55 : Int) => ((((Prog.ok x_law_t : Prog (L2v Int (List Tx))) >>= fun (a60 : (L2v Int (List Tx))) => Prog.ok a60.b) >>= fun (a62 : (List Tx)) => (Prog.ok a55 : Prog Int) >>= fun (a63 : Int) => getI a62 a63) >>= fun (a64 : Tx) => chk (small a64.length) (Prog.ok (a64.length : Int)))) xs65 : Prog (L Int))) >>= fun (v66 : (L Int)) => (((Prog.ok x_law_way : Prog Tx) >>= fun (a67 : Tx) => (Prog.ok ([108, 111, 110, 103, 101, 115, 116] : Tx)) >>= fun (a68 : Tx) => Prog.ok (decide (a67 = a68))) >>= fun (c69 : Bool) => if c69 then (((Prog.ok b7 : Prog (L Int)) >>= fun (a74 : (L Int)) => ((Prog.ok v66 : Prog (L Int)) >>= fun (a72 : L Int) => ((Prog.ok v66 : Prog (L Int)) >>= fun (a71 : L Int) => maxL (un a71)) >>= fun (a73 : Int) => idxP (un a72) a73) >>= fun (a75 : Int) => getI (un a74) a75) >>= fun a => Prog.ok (some a)) else (((Prog.ok x_law_way : Prog Tx) >>= fun (a76 : Tx) => (Prog.ok ([108, 105, 115, 116, 101, 100] : Tx)) >>= fun (a77 : Tx) => Prog.ok (decide (a76 = a77))) >>= fun (b87 : Bool) => if b87 then (((Prog.ok b7 : Prog (L Int)) >>= fun (a79 : (L Int)) => (Prog.ok (0 : Int)) >>= fun (a80 : Int) => getI (un a79) a80) >>= fun a => Prog.ok (some a)) else (((Prog.ok b7 : Prog (L Int)) >>= fun (a85 : (L Int)) => ((Prog.ok v66 : Prog (L Int)) >>= fun (a83 : L Int) => ((Prog.ok v66 : Prog (L Int)) >>= fun (a82 : L Int) => minL (un a82)) >>= fun (a84 : Int) => idxP (un a83) a84) >>= fun (a86 : Int) => getI (un a85) a86) >>= fun a => Prog.ok (some a))))))))
def m__law_read (x_law_t : (L2v Int (List Tx))) (x_law_string : Tx) (x_law_way : Tx) (x_law_side : Tx) : Prog ((List Int) × Int) :=
  (((Prog.ok ([] : List Int)) >>= fun (a1 : List Int) => if a1.length ≤ 100000 then Prog.ok a1 else Prog.stuck) >>= fun (a2 : (List Int)) => (Prog.ok x_law_string : Prog Tx) >>= fun (a3 : Tx) => (((Prog.ok x_law_t : Prog (L2v Int (List Tx))) >>= fun (a6 : (L2v Int (List Tx))) => (Prog.ok a3 : Prog Tx) >>= fun (a7 : Tx) => (Prog.ok x_law_way : Prog Tx) >>= fun (a8 : Tx) => ((Prog.ok x_law_side : Prog Tx) >>= fun (a4 : Tx) => (Prog.ok ([101, 110, 100] : Tx)) >>= fun (a5 : Tx) => Prog.ok (decide (a4 = a5))) >>= fun (a9 : Bool) => m__law_take a6 a7 a8 a9) >>= fun (v10 : (Option Int)) => (whileP (fun (b11 : ((List Int) × Tx × (Option Int))) => ((Prog.ok b11.2.2 : Prog (Option Int)) >>= fun (a12 : (Option Int)) => Prog.ok (!Noneness.isN a12))) (fun (b11 : ((List Int) × Tx × (Option Int))) => (((Prog.ok x_law_side : Prog Tx) >>= fun (a13 : Tx) => (Prog.ok ([101, 110, 100] : Tx)) >>= fun (a14 : Tx) => Prog.ok (decide (a13 = a14))) >>= fun (c15 : Bool) => (if c15 then ((((((Prog.ok b11.2.2 : Prog (Option Int)) >>= fromSome) >>= fun (a17 : Int) => (Prog.ok ([] : List Int)) >>= fun (a18 : List Int) => Prog.ok (a17 :: a18)) >>= fun (a19 : List Int) => if a19.length ≤ 100000 then Prog.ok a19 else Prog.stuck) >>= fun (a20 : (List Int)) => (Prog.ok b11.1 : Prog (List Int)) >>= fun (a21 : (List Int)) => chk (small (a20.length + a21.length)) (Prog.ok (a20 ++ a21))) >>= fun (a38 : (List Int)) => ((Prog.ok b11.2.1 : Prog Tx) >>= fun (a22 : Tx) => (Prog.ok (none : Option Int)) >>= fun (p36 : Option Int) => ((((Prog.ok b11.2.1 : Prog Tx) >>= fun (a23 : Tx) => chk (small a23.length) (Prog.ok (a23.length : Int))) >>= fun (a33 : Int) => ((((Prog.ok x_law_t : Prog (L2v Int (List Tx))) >>= fun (a28 : (L2v Int (List Tx))) => Prog.ok a28.b) >>= fun (a30 : (List Tx)) => ((Prog.ok b11.2.2 : Prog (Option Int)) >>= fromSome) >>= fun (a31 : Int) => getI a30 a31) >>= fun (a32 : Tx) => chk (small a32.length) (Prog.ok (a32.length : Int))) >>= fun (a34 : Int) => Prog.ok (a33 - a34)) >>= fun (a35 : Int) => Prog.ok (some a35)) >>= fun (p37 : Option Int) => chk (small a22.length) (Prog.ok (cut a22 p36 p37))) >>= fun (a39 : Tx) => (Prog.ok (a38, a39) : Prog ((List Int) × Tx))) else (((Prog.ok b11.1 : Prog (List Int)) >>= fun (a43 : (List Int)) => ((((Prog.ok b11.2.2 : Prog (Option Int)) >>= fromSome) >>= fun (a40 : Int) => (Prog.ok ([] : List Int)) >>= fun (a41 : List Int) => Prog.ok (a40 :: a41)) >>= fun (a42 : List Int) => if a42.length ≤ 100000 then Prog.ok a42 else Prog.stuck) >>= fun (a44 : (List Int)) => chk (small (a43.length + a44.length)) (Prog.ok (a43 ++ a44))) >>= fun (a58 : (List Int)) => ((Prog.ok b11.2.1 : Prog Tx) >>= fun (a45 : Tx) => (((((Prog.ok x_law_t : Prog (L2v Int (List Tx))) >>= fun (a50 : (L2v Int (List Tx))) => Prog.ok a50.b) >>= fun (a52 : (List Tx)) => ((Prog.ok b11.2.2 : Prog (Option Int)) >>= fromSome) >>= fun (a53 : Int) => getI a52 a53) >>= fun (a54 : Tx) => chk (small a54.length) (Prog.ok (a54.length : Int))) >>= fun (a55 : Int) => Prog.ok (some a55)) >>= fun (p56 : Option Int) => (Prog.ok (none : Option Int)) >>= fun (p57 : Option Int) => chk (small a45.length) (Prog.ok (cut a45 p56 p57))) >>= fun (a59 : Tx) => (Prog.ok (a58, a59) : Prog ((List Int) × Tx)))) >>= fun (b16 : ((List Int) × Tx)) => (((Prog.ok x_law_t : Prog (L2v Int (List Tx))) >>= fun (a62 : (L2v Int (List Tx))) => (Prog.ok b16.2 : Prog Tx) >>= fun (a63 : Tx) => (Prog.ok x_law_way : Prog Tx) >>= fun (a64 : Tx) => ((Prog.ok x_law_side : Prog Tx) >>= fun (a60 : Tx) => (Prog.ok ([101, 110, 100] : Tx)) >>= fun (a61 : Tx) => Prog.ok (decide (a60 = a61))) >>= fun (a65 : Bool) => m__law_take a62 a63 a64 a65) >>= fun (v66 : (Option Int)) => (Prog.ok (b16.1, b16.2, v66) : Prog ((List Int) × Tx × (Option Int)))))) 1000000 (a2, a3, v10) >>= fun (b11 : ((List Int) × Tx × (Option Int))) => ((Prog.ok b11.1 : Prog (List Int)) >>= fun (a71 : (List Int)) => (((Prog.ok x_law_string : Prog Tx) >>= fun (a67 : Tx) => chk (small a67.length) (Prog.ok (a67.length : Int))) >>= fun (a69 : Int) => ((Prog.ok b11.2.1 : Prog Tx) >>= fun (a68 : Tx) => chk (small a68.length) (Prog.ok (a68.length : Int))) >>= fun (a70 : Int) => Prog.ok (a69 - a70)) >>= fun (a72 : Int) => Prog.ok (a71, a72)))))
def m__law_refused (x_law_code_here : CodeV) (x_law_string : Tx) (x_law_way : PyData) (x_law_side : PyData) : Prog (Option Tx) :=
  ((Prog.ok (none : (Option Tx))) >>= fun (v1 : (Option Tx)) => (catchP (fun e => hsel (["InvalidString", "InvalidWay"] : List String) e ([("InvalidString", (((Prog.ok ([115, 116, 114, 105, 110, 103] : Tx)) >>= fun a => Prog.ok (some a)) >>= fun (v7 : (Option Tx)) => (Prog.ok v7 : Prog ((Option Tx))))), ("InvalidWay", (((Prog.ok ([119, 97, 121] : Tx)) >>= fun a => Prog.ok (some a)) >>= fun (v8 : (Option Tx)) => (Prog.ok v8 : Prog ((Option Tx)))))] : List (String × Prog ((Option Tx))))) (((Prog.ok x_law_code_here : Prog CodeV) >>= fun (a3 : CodeV) => (Prog.ok x_law_string : Prog Tx) >>= fun (a4 : Tx) => (Prog.ok x_law_way : Prog PyData) >>= fun (a5 : PyData) => (Prog.ok x_law_side : Prog PyData) >>= fun (a6 : PyData) => m_read_err a3 a4 a5 a6) >>= fun _ => (Prog.ok v1 : Prog ((Option Tx)))) >>= fun (b2 : ((Option Tx))) => (Prog.ok b2 : Prog (Option Tx))))
def m__law_barred (x_law_code_here : CodeV) (x_law_way : PyData) (x_law_side : PyData) : Prog Bool :=
  ((Prog.ok false) >>= fun (v1 : Bool) => (catchP (fun e => hsel (["InvalidString", "InvalidWay"] : List String) e ([("InvalidWay", ((Prog.ok true) >>= fun (v6 : Bool) => (Prog.ok v6 : Prog (Bool))))] : List (String × Prog (Bool)))) (((Prog.ok x_law_code_here : Prog CodeV) >>= fun (a3 : CodeV) => (Prog.ok x_law_way : Prog PyData) >>= fun (a4 : PyData) => (Prog.ok x_law_side : Prog PyData) >>= fun (a5 : PyData) => m_misread_err a3 a4 a5) >>= fun _ => (Prog.ok v1 : Prog (Bool))) >>= fun (b2 : (Bool)) => (Prog.ok b2 : Prog Bool)))
def m_law  : Prog Bool :=
  (((Prog.ok (5 : Int)) >>= fun (a1 : Int) => m__law_code a1) >>= fun (v2 : (L2v Int (List Tx))) => (((Prog.ok v2 : Prog (L2v Int (List Tx))) >>= fun (a3 : (L2v Int (List Tx))) => m__law_built a3) >>= fun (v4 : CodeV) => (((Prog.ok v2 : Prog (L2v Int (List Tx))) >>= fun (a7 : (L2v Int (List Tx))) => ((Prog.ok v2 : Prog (L2v Int (List Tx))) >>= fun (a5 : (L2v Int (List Tx))) => (Prog.ok (5 : Int)) >>= fun (a6 : Int) => m__law_row a5 a6) >>= fun (a8 : (List Int)) => m__law_text a7 a8) >>= fun (v9 : Tx) => ((((Prog.ok (2 : Int)) >>= fun (a10 : Int) => m__law_next a10) >>= fun (a11 : Int) => (Prog.ok (0 : Int)) >>= fun (a12 : Int) => Prog.ok (decide (a11 = a12))) >>= fun (c13 : Bool) => (if c13 then (((Prog.ok ([] : Tx)) >>= fun (a24 : Tx) => ((((Prog.ok (15 : Int)) >>= fun (a15 : Int) => m__law_next a15) >>= fun (n16 : Int) => chk (inRange n16) (Prog.ok (rng 0 n16))) >>= fun (xs23 : List Int) => chk (small xs23.length) (noerr (mapP (fun (a17 : Int) => ((Prog.ok ([97, 98, 99] : Tx)) >>= fun (a21 : Tx) => (((Prog.ok v2 : Prog (L2v Int (List Tx))) >>= fun (a19 : (L2v Int (List Tx))) => Prog.ok a19.a) >>= fun (a20 : Int) => m__law_next a20) >>= fun (a22 : Int) => getS a21 a22)) xs23) : Prog (L Tx))) >>= fun (a25 : L Tx) => chk (small (sumLen (un a25) + (un a25).length * a24.length)) (Prog.ok (joinT a24 (un a25)))) >>= fun (v26 : Tx) => (Prog.ok v26 : Prog (Tx))) else (Prog.ok v9 : Prog (Tx))) >>= fun (b14 : (Tx)) => ((((Prog.ok ([108, 111, 110, 103, 101, 115, 116] : Tx)) >>= fun (a31 : Tx) => ((Prog.ok ([115, 104, 111, 114, 116, 101, 115, 116] : Tx)) >>= fun (a29 : Tx) => ((Prog.ok ([108, 105, 115, 116, 101, 100] : Tx)) >>= fun (a27 : Tx) => (Prog.ok ([] : List Tx)) >>= fun (a28 : List Tx) => Prog.ok (a27 :: a28)) >>= fun (a30 : List Tx) => Prog.ok (a29 :: a30)) >>= fun (a32 : List Tx) => Prog.ok (a31 :: a32)) >>= fun (a33 : List Tx) => if a33.length ≤ 100000 then Prog.ok a33 else Prog.stuck) >>= fun (xs120 : List Tx) => foldF (fun (b34 : Unit) (a35 : Tx) => ((((Prog.ok ([102, 114, 111, 110, 116] : Tx)) >>= fun (a38 : Tx) => ((Prog.ok ([101, 110, 100] : Tx)) >>= fun (a36 : Tx) => (Prog.ok ([] : List Tx)) >>= fun (a37 : List Tx) => Prog.ok (a36 :: a37)) >>= fun (a39 : List Tx) => Prog.ok (a38 :: a39)) >>= fun (a40 : List Tx) => if a40.length ≤ 100000 then Prog.ok a40 else Prog.stuck) >>= fun (xs59 : List Tx) => foldF (fun (b41 : Unit) (a42 : Tx) => (((Prog.ok v4 : Prog CodeV) >>= fun (a43 : CodeV) => (Prog.ok b14 : Prog Tx) >>= fun (a44 : Tx) => (Prog.ok a35 : Prog Tx) >>= fun (a45 : Tx) => (Prog.ok a42 : Prog Tx) >>= fun (a46 : Tx) => m_read a43 a44 a45 a46) >>= fun (v47 : ((List Int) × Int)) => ((((Prog.ok v47 : Prog ((List Int) × Int)) >>= fun (a52 : ((List Int) × Int)) => ((Prog.ok v2 : Prog (L2v Int (List Tx))) >>= fun (a48 : (L2v Int (List Tx))) => (Prog.ok b14 : Prog Tx) >>= fun (a49 : Tx) => (Prog.ok a35 : Prog Tx) >>= fun (a50 : Tx) => (Prog.ok a42 : Prog Tx) >>= fun (a51 : Tx) => m__law_read a48 a49 a50 a51) >>= fun (a53 : ((List Int) × Int)) => neP a52 a53) >>= fun (b56 : Bool) => if b56 then Prog.ok true else (((Prog.ok v47 : Prog ((List Int) × Int)) >>= fun (a54 : ((List Int) × Int)) => Prog.ok (isD "tuple" (enc a54))) >>= fun (b55 : Bool) => Prog.ok (!b55))) >>= fun (c57 : Bool) => if c57 then (Prog.ok false) >>= (fun (r58 : Bool) => (Prog.ok (.rt r58) : Prog (Fl Unit Bool))) else (Prog.ok (.nx ()) : Prog (Fl Unit Bool))))) xs59 () >>= flK (fun (b41 : Unit) => (Prog.ok (.nx ()) : Prog (Fl Unit Bool))) Fl.rt)) xs120 () >>= flK (fun (b34 : Unit) => (((((Prog.ok PyData.none) >>= fun (a76 : PyData) => (((Prog.ok ([108, 111, 110, 103] : Tx)) >>= fun a => Prog.ok (enc a)) >>= fun (a74 : PyData) => (((Prog.ok ([] : Tx)) >>= fun a => Prog.ok (enc a)) >>= fun (a72 : PyData) => (((Prog.ok (1 : Int)) >>= fun a => Prog.ok (enc a)) >>= fun (a70 : PyData) => (((((Prog.ok ([108, 111, 110, 103, 101, 115, 116] : Tx)) >>= fun (a65 : Tx) => (Prog.ok ([] : List Tx)) >>= fun (a66 : List Tx) => Prog.ok (a65 :: a66)) >>= fun (a67 : List Tx) => if a67.length ≤ 100000 then Prog.ok a67 else Prog.stuck) >>= fun a => Prog.ok (enc a)) >>= fun (a68 : PyData) => (((Prog.ok ([102, 114, 111, 110, 116] : Tx)) >>= fun a => Prog.ok (enc a)) >>= fun (a63 : PyData) => (Prog.ok ([] : List PyData)) >>= fun (a64 : List PyData) => Prog.ok (a63 :: a64)) >>= fun (a69 : List PyData) => Prog.ok (a68 :: a69)) >>= fun (a71 : List PyData) => Prog.ok (a70 :: a71)) >>= fun (a73 : List PyData) => Prog.ok (a72 :: a73)) >>= fun (a75 : List PyData) => Prog.ok (a74 :: a75)) >>= fun (a77 : List PyData) => Prog.ok (a76 :: a77)) >>= fun (a78 : List PyData) => if a78.length ≤ 100000 then (Prog.ok a78 : Prog (L PyData)) else Prog.stuck) >>= fun (a81 : (L PyData)) => ((Prog.ok (6 : Int)) >>= fun (a80 : Int) => m__law_next a80) >>= fun (a82 : Int) => getI (un a81) a82) >>= fun (v83 : PyData) => (((((Prog.ok v4 : Prog CodeV) >>= fun (a84 : CodeV) => (Prog.ok b14 : Prog Tx) >>= fun (a85 : Tx) => (Prog.ok v83 : Prog PyData) >>= fun (a86 : PyData) => ((Prog.ok ([101, 110, 100] : Tx)) >>= fun a => Prog.ok (enc a)) >>= fun (a87 : PyData) => m__law_refused a84 a85 a86 a87) >>= fun (a88 : (Option Tx)) => (Prog.ok ([119, 97, 121] : Tx)) >>= fun (a89 : Tx) => neP a88 a89) >>= fun (b98 : Bool) => if b98 then Prog.ok true else (((Prog.ok v4 : Prog CodeV) >>= fun (a92 : CodeV) => ((Prog.ok b14 : Prog Tx) >>= fun (a90 : Tx) => (Prog.ok ([120] : Tx)) >>= fun (a91 : Tx) => chk (small (a90.length + a91.length)) (Prog.ok (a90 ++ a91))) >>= fun (a93 : Tx) => (Prog.ok v83 : Prog PyData) >>= fun (a94 : PyData) => (Prog.ok v83 : Prog PyData) >>= fun (a95 : PyData) => m__law_refused a92 a93 a94 a95) >>= fun (a96 : (Option Tx)) => (Prog.ok ([115, 116, 114, 105, 110, 103] : Tx)) >>= fun (a97 : Tx) => neP a96 a97)) >>= fun (c99 : Bool) => if c99 then (Prog.ok false) else ((((Prog.ok v4 : Prog CodeV) >>= fun (a103 : CodeV) => (Prog.ok b14 : Prog Tx) >>= fun (a104 : Tx) => ((Prog.ok ([108, 105, 115, 116, 101, 100] : Tx)) >>= fun a => Prog.ok (enc a)) >>= fun (a105 : PyData) => (((Prog.ok v83 : Prog PyData) >>= fun (a100 : PyData) => (Prog.ok ([102, 114, 111, 110, 116] : Tx)) >>= fun (a101 : Tx) => neP a100 a101) >>= fun (b102 : Bool) => if b102 then (Prog.ok v83 : Prog PyData) else ((Prog.ok ([108, 111, 110, 103, 101, 115, 116] : Tx)) >>= fun a => Prog.ok (enc a))) >>= fun (a106 : PyData) => m__law_refused a103 a104 a105 a106) >>= fun (a107 : (Option Tx)) => (Prog.ok ([119, 97, 121] : Tx)) >>= fun (a108 : Tx) => neP a107 a108) >>= fun (c109 : Bool) => if c109 then (Prog.ok false) else (((Prog.ok v4 : Prog CodeV) >>= fun (a110 : CodeV) => (Prog.ok v83 : Prog PyData) >>= fun (a111 : PyData) => ((Prog.ok ([102, 114, 111, 110, 116] : Tx)) >>= fun a => Prog.ok (enc a)) >>= fun (a112 : PyData) => m__law_barred a110 a111 a112) >>= fun (b119 : Bool) => if b119 then ((Prog.ok v4 : Prog CodeV) >>= fun (a116 : CodeV) => ((Prog.ok ([115, 104, 111, 114, 116, 101, 115, 116] : Tx)) >>= fun a => Prog.ok (enc a)) >>= fun (a117 : PyData) => (((Prog.ok v83 : Prog PyData) >>= fun (a113 : PyData) => (Prog.ok ([102, 114, 111, 110, 116] : Tx)) >>= fun (a114 : Tx) => neP a113 a114) >>= fun (b115 : Bool) => if b115 then (Prog.ok v83 : Prog PyData) else ((Prog.ok ([98, 101, 103, 105, 110] : Tx)) >>= fun a => Prog.ok (enc a))) >>= fun (a118 : PyData) => m__law_barred a116 a117 a118) else Prog.ok false))))) id)))))
section
variable {G : Glob} {mg : Str → Option Value} {base : Heap}
theorem ok__law_next (T : Txt G mg) : FnOk G.P G.w G.K mg base (L2.CX G.P G.w) 1 T._law_next.f T._law_next.fd ["_law_h", "_law_bound"] (SpS1 G Int m__law_next) :=
  fn_okS T._law_next.Fu sc__law_next (fun x => [.src, .per x.1, .dead]) (fun a vs F ⟨v0, _, e0, r0, ee⟩ => by rw [e0, ee]; rfl) (fun a vs F H N p c hS ⟨v0, _, e0, r0, ee⟩ => by rw [e0, ee]; exact ⟨⟨p, c, rfl, hS⟩, ⟨v0, rfl, r0⟩, trivial, trivial⟩) (fun x => (own_c rfl (own_c rfl (own_c rfl own_n)))) fun cdv A outer s H F p c E hr =>
  ⟨_, pss_cons (ps_set (i := 2) sc__law_next.nd rfl (Or.inl rfl) (pe_ix ix_list (pe_op op_cat (pe_ix ix_list (pv 0) pe_int (fun _ _ => rfl)) (pe_lst (pa_cons pe_int pa_nil)))
      (pe_op op_mod (pe_callTy call_int1 (by rfl) T.z_int bt_int (pa_cons (pe_ix ix_list (pv 0) pe_int (fun _ _ => rfl)) pa_nil)) (pe_callB (call_max2 rfl) (by rfl) T.z_max bb_max (pa_cons pe_int (pa_cons (pe_callB call_len_seq (by rfl) T.z_len PySem.boot_len (pa_cons (pe_ix ix_list (pv 0) pe_int (fun _ _ => rfl)) pa_nil)) pa_nil)))) (fun _ _ => rfl)))
    (pss_cons (ps_if (pt_cmpR op_ge (pv 2) (pe_op op_pow pe_int pe_int) (nomark _))
      (pss_cons (ps_asg (pe_op op_fdiv (pv 2) (pv 1)) (pg_sub (pe_ix ix_list (pv 0) pe_int (fun _ _ => rfl)) (pe_op op_mod (pe_callTy call_int1 (by rfl) T.z_int bt_int (pa_cons (pe_ix ix_list (pv 0) pe_int (fun _ _ => rfl)) pa_nil)) (pe_callB call_len_seq (by rfl) T.z_len PySem.boot_len (pa_cons (pe_ix ix_list (pv 0) pe_int (fun _ _ => rfl)) pa_nil))) set_list))
        (pss_one (ps_ret (pe_op op_mod (pe_callTy call_int1 (by rfl) T.z_int bt_int (pa_cons (pv 2) pa_nil)) (pv 1))))) pss_nil)
    (pss_cons (ps_asg (pe_op op_mod (pe_callTy call_int1 (by rfl) T.z_int bt_int (pa_cons (pe_op op_add (pe_op op_add (pe_op op_mul (pe_ix ix_list (pv 0) pe_int (fun _ _ => rfl)) pe_int) (pe_op op_mul (pv 2) pe_int)) pe_int) pa_nil)) pe_int) (pg_sub (pv 0) pe_int set_list))
    (pss_cons (ps_asg (pe_op op_add (pe_ix ix_list (pv 0) pe_int (fun _ _ => rfl)) pe_int) (pg_sub (pv 0) pe_int set_list))
    (pss_one (ps_ret (pe_op op_mod (pe_callTy call_int1 (by rfl) T.z_int bt_int (pa_cons (pe_op op_fdiv (pe_ix ix_list (pv 0) pe_int (fun _ _ => rfl)) pe_int) pa_nil)) (pv 1))))))), fun x => by
    intro σ F1 H1 D hs q
    obtain ⟨hb, hb2, q⟩ := q
    obtain ⟨o0, o1, o2, rfl⟩ : ∃ o0 o1 o2, σ = [o0, o1, o2] := by
      have hlen := hs.sl.len
      match σ, hlen with
      | [a, b, c], _ => exact ⟨a, b, c, rfl⟩
    obtain ⟨⟨p', c', rfl, hS⟩, ⟨v, rfl, r1⟩, _⟩ := hs.sl
    cases hS
    have ev : v = .int x.1 := Scl.dp (α := Int) r1
    subst ev
    have s := hs.w.sr p c rfl
    obtain ⟨st, ix, cs, hp, hc, hl⟩ := s.at_
    have hne := s.ne
    have fin : ∀ (r : Int) (H' : Hp), 0 ≤ r → r < x.1 → W (NN.src F H p c E) F1 H' → D.rt (.int r) H' := fun r H' a b w => q r a b (.int r) F1 H' w (.int r)
    -- the cell
    refine ⟨.ref p, rfl, p, _, 1, .ref c, rfl, rfl, .inl (.inl hp), rfl, ?_⟩
    refine ⟨by show 1 ≤ sizeLine; decide, fun l hl0 => ?_⟩
    have hs1 := (hs_newlist (vs := [.int 0]) hs hl0).1
    have lp : p ≠ l := ne_of_none hp hl0
    have lc : c ≠ l := ne_of_none hc hl0
    refine ⟨c, l, _, [.int 0], rfl, rfl, by rw [upd_ne lc]; exact hc, upd_same, by rw [List.length_map]; show cs.length + 1 ≤ sizeLine; rw [sizeLine_eq]; omega, fun l2 hl2 => ?_⟩
    have hs2 := (hs_newlist (vs := cs.map V.int ++ [.int 0]) hs1 hl2).1
    have hp1 : upd H1 l (.lst [.int 0]) p = some (.lst [.int st, .ref c, .int ix, .int 14]) := by rw [upd_ne lp]; exact hp
    have hc1 : upd H1 l (.lst [.int 0]) c = some (.lst (cs.map V.int)) := by rw [upd_ne lc]; exact hc
    have l2p : p ≠ l2 := ne_of_none hp1 hl2
    have l2c : c ≠ l2 := ne_of_none hc1 hl2
    generalize hH2 : upd (upd H1 l (.lst [.int 0])) l2 (.lst (cs.map V.int ++ [.int 0])) = H2 at hs2 ⊢
    have hp2 : H2 p = some (.lst [.int st, .ref c, .int ix, .int 14]) := by rw [← hH2, upd_ne l2p]; exact hp1
    have hc2 : H2 c = some (.lst (cs.map V.int)) := by rw [← hH2, upd_ne l2c]; exact hc1
    have h22 : H2 l2 = some (.lst (cs.map V.int ++ [.int 0])) := by rw [← hH2, upd_same]
    obtain ⟨cell, hcell⟩ := mod_lt_len (ix := ix) (cs := cs)
    refine ⟨.ref p, rfl, p, _, 2, .int ix, rfl, rfl, .inl (.inl hp2), rfl, .inl ⟨ix, rfl, ?_⟩⟩
    refine ⟨.ref p, rfl, p, _, 1, .ref c, rfl, rfl, .inl (.inl hp2), rfl, c, _, rfl, .inl (.inl (.inl hc2)), 1, ((cs.map V.int).length : Int), rfl, ?_⟩
    rw [List.length_map]
    refine ⟨ix, _, rfl, rfl, by split <;> omega, l2, _, _, .int cell, rfl, rfl, .inl (.inl h22), hcell, ?_⟩
    -- if cell >= 10 ** 18
    refine ⟨.int cell, rfl, 10, 18, rfl, rfl, ⟨by decide, by decide, by decide⟩, cell, _, rfl, rfl, _, rfl, ite2 (fun hge => ?_) (fun _ => ?_)⟩
    · -- the cell is cut, its place written
      have hge' : (10 : Int) ^ (18 : Int).toNat ≤ cell := of_decide_eq_true hge
      have hpos : 0 < cs.length := by
        rcases Nat.eq_zero_or_pos cs.length with z | z
        · have : cs = [] := List.eq_nil_of_length_eq_zero z
          subst this
          have h0 : ix % (1 : Int) = 0 := Int.emod_one ix
          have : atI ([] ++ [V.int 0]) (ix % 1) = some (V.int cell) := hcell
          rw [h0] at this
          have : V.int 0 = V.int cell := Option.some.inj this
          have : (0 : Int) = cell := V.int.inj this
          rw [← this] at hge'
          exact absurd hge' (by decide)
        · exact z
      refine ⟨.int cell, rfl, .int x.1, rfl, cell, x.1, rfl, rfl, ⟨hb, by omega⟩, ?_⟩
      refine ⟨.ref p, rfl, p, _, 1, .ref c, rfl, rfl, .inl (.inl hp2), rfl, ?_⟩
      refine ⟨.ref p, rfl, p, _, 2, .int ix, rfl, rfl, .inl (.inl hp2), rfl, .inl ⟨ix, rfl, ?_⟩⟩
      refine ⟨.ref p, rfl, p, _, 1, .ref c, rfl, rfl, .inl (.inl hp2), rfl, c, _, rfl, .inl (.inl (.inl hc2)), ?_⟩
      rw [List.length_map]
      refine ⟨ix, (cs.length : Int), rfl, rfl, by omega, ?_⟩
      have k0 : 0 ≤ ix % (cs.length : Int) := Int.emod_nonneg _ (by omega)
      have k1 : ix % (cs.length : Int) < (cs.length : Int) := Int.emod_lt_of_pos _ (by omega)
      refine ⟨c, _, ix % (cs.length : Int), (ix % (cs.length : Int)).toNat, rfl, rfl, hc2, ?_, ?_⟩
      · unfold ixN
        rw [List.length_map, if_pos k0, if_pos k1]
      · have e2 : (cs.map V.int).set (ix % (cs.length : Int)).toNat (.int (cell / x.1)) = (cs.set (ix % (cs.length : Int)).toNat (cell / x.1)).map V.int := by rw [List.map_set]
        rw [e2]
        have hs3 : HS (NN.src F H p c E) _ _ F1 (upd H2 c (.lst ((cs.set (ix % (cs.length : Int)).toNat (cell / x.1)).map V.int))) := src_set hs2 rfl (hO_src F H p c E) (st := st) (ix := ix) (by rw [upd_ne hne]; exact hp2) upd_same (by rw [List.length_set]; exact hl) fun a _ n2 => by rw [upd_ne n2]
        refine ⟨.int cell, rfl, .inl ⟨cell, rfl, .int x.1, rfl, cell, x.1, rfl, rfl, hb, ?_⟩⟩
        exact fin _ _ (Int.emod_nonneg _ (by omega)) (Int.emod_lt_of_pos _ hb) hs3.w
    · refine ⟨.ref p, rfl, p, _, 0, .int st, rfl, rfl, .inl (.inl hp2), rfl, st, 48271, rfl, rfl, .inr ⟨by decide, by decide⟩, .int cell, rfl, cell, 69621, rfl, rfl, .inr ⟨by decide, by decide⟩, _, _, rfl, rfl, _, 11, rfl, rfl, .inl ⟨_, rfl, ?_⟩⟩
      refine ⟨_, 2147483647, rfl, rfl, by show (0:Int) < 2147483647; decide, ?_⟩
      refine ⟨.ref p, rfl, p, _, 0, 0, rfl, rfl, hp2, rfl, ?_⟩
      have hp3 : upd H2 p (.lst [.int ((st * 48271 + cell * 69621 + 11) % 2147483647), .ref c, .int ix, .int 14]) p = some (.lst [.int ((st * 48271 + cell * 69621 + 11) % 2147483647), .ref c, .int ix, .int 14]) := upd_same
      have hs3 : HS (NN.src F H p c E) _ _ F1 (upd H2 p (.lst [.int ((st * 48271 + cell * 69621 + 11) % 2147483647), .ref c, .int ix, .int 14])) := src_set hs2 rfl (hO_src F H p c E) (st := ((st * 48271 + cell * 69621 + 11) % 2147483647)) (ix := ix) upd_same (by rw [upd_ne (Ne.symm hne)]; exact hc2) hl fun a n1 _ => by rw [upd_ne n1]
      refine ⟨.ref p, rfl, p, _, 2, .int ix, rfl, rfl, .inl (.inl hp3), rfl, ix, 1, rfl, rfl, ?_⟩
      refine ⟨.ref p, rfl, p, _, 2, 2, rfl, rfl, hp3, rfl, ?_⟩
      have hp4 : upd (upd H2 p (.lst [.int ((st * 48271 + cell * 69621 + 11) % 2147483647), .ref c, .int ix, .int 14])) p (.lst [.int ((st * 48271 + cell * 69621 + 11) % 2147483647), .ref c, .int (ix + 1), .int 14]) p = some (.lst [.int ((st * 48271 + cell * 69621 + 11) % 2147483647), .ref c, .int (ix + 1), .int 14]) := upd_same
      have hs4 : HS (NN.src F H p c E) _ _ F1 (upd (upd H2 p (.lst [.int ((st * 48271 + cell * 69621 + 11) % 2147483647), .ref c, .int ix, .int 14])) p (.lst [.int ((st * 48271 + cell * 69621 + 11) % 2147483647), .ref c, .int (ix + 1), .int 14])) := src_set hs3 rfl (hO_src F H p c E) (st := ((st * 48271 + cell * 69621 + 11) % 2147483647)) (ix := ix + 1) upd_same (by rw [upd_ne (Ne.symm hne), upd_ne (Ne.symm hne)]; exact hc2) hl fun a n1 _ => by rw [upd_ne n1]
      refine ⟨.ref p, rfl, p, _, 0, .int ((st * 48271 + cell * 69621 + 11) % 2147483647), rfl, rfl, .inl (.inl hp4), rfl, ((st * 48271 + cell * 69621 + 11) % 2147483647), 7, rfl, rfl, ⟨by decide, by decide⟩, .inl ⟨_, rfl, .int x.1, rfl, _, x.1, rfl, rfl, hb, ?_⟩⟩
      exact fin _ _ (Int.emod_nonneg _ (by omega)) (Int.emod_lt_of_pos _ hb) hs4.w⟩
theorem ok__law_mix (T : Txt G mg) : FnOk G.P G.w G.K mg base (L2.CX G.P G.w) 1 T._law_mix.f T._law_mix.fd ["_law_script", "_law_seed"] (SpMix G.K) :=
  T._law_mix.Fu.okX sc__law_mix (fun vs H Q E ⟨a, ns, seed, e, _⟩ => by rw [e]; rfl) fun cdv A outer s H vs Q E hr ⟨a, ns, seed, e, hS, hlen, q⟩ => by
    subst e
    refine ⟨_, pss_cons (ps_set (i := 2) sc__law_mix.nd rfl (Or.inl rfl) (pv 1))
      (pss_cons (ps_for (passes_of rfl) rfl (pi_list (pv 0)) (pg_name (i := 3) sc__law_mix.nd rfl (Or.inl rfl))
        (pss_one (ps_set (i := 2) sc__law_mix.nd rfl (Or.inl rfl) (pe_op op_mod (pe_callTy call_int1 (by rfl) T.z_int bt_int (pa_cons (pe_op op_add (pe_op op_add (pe_op op_mul (pv 2) pe_int) (pe_op op_mod (pe_callTy call_int1 (by rfl) T.z_int bt_int (pa_cons (pv 3) pa_nil)) pe_int)) pe_int) pa_nil)) pe_int))))
      (pss_one (ps_ret (pe_lst (pa_cons (pv 2) (pa_cons (pe_callTy call_list_of (by rfl) T.z_list bt_list (pa_cons (pv 0) pa_nil)) (pa_cons pe_int (pa_cons pe_int pa_nil)))))))), ?_⟩
    refine ⟨.int seed, rfl, .ref a, rfl, a, rfl, ⟨_, hS⟩, fun i m σ H3 => ∃ st y3, σ = [some (.ref a), some (.int seed), some (.int st), y3] ∧ i + m = ns.length ∧ H3 = H, ⟨ns.length, seed, none, rfl, by omega, rfl⟩, fun i m σ H3 hW => ?_⟩
    obtain ⟨st, y3, rfl, em, rfl⟩ := hW
    by_cases hi : i < ns.length
    · have g : (ns.map V.int)[i]? = some (.int ns[i]) := by
        rw [List.getElem?_map, List.getElem?_eq_getElem hi]
        rfl
      refine .inr ⟨⟨_, _, hS, g⟩, fun σ' H' => ∃ st y3, σ' = [some (.ref a), some (.int seed), some (.int st), y3] ∧ H' = H3, fun σ' H' hN => ?_, fun v H' hy => ?_⟩
      · obtain ⟨st', z3, e1, e2⟩ := hN
        exact ⟨m - 1, by omega, st', z3, e1, by omega, e2⟩
      · obtain ⟨rfl, fv⟩ := hy
        have ev : v = .int ns[i] := Option.some.inj ((fv _ hS).symm.trans g)
        subst ev
        refine ⟨.int st, rfl, st, 48271, rfl, rfl, .inr ⟨by decide, by decide⟩, .int ns[i], rfl, .inl ⟨ns[i], rfl, ?_⟩⟩
        refine ⟨ns[i], 2147483629, rfl, rfl, by show (0:Int) < 2147483629; decide, ?_⟩
        refine ⟨_, _, rfl, rfl, _, 1, rfl, rfl, .inl ⟨_, rfl, ?_⟩⟩
        refine ⟨_, 2147483647, rfl, rfl, by show (0:Int) < 2147483647; decide, ?_⟩
        exact ⟨_, _, rfl, rfl⟩
    · refine .inl ⟨⟨_, hS, by rw [List.length_map]; omega⟩, ?_⟩
      refine ⟨.int st, rfl, .ref a, rfl, a, _, rfl, .inl hS, fun c hc => ?_⟩
      refine ⟨by show 4 ≤ sizeLine; decide, fun p hp => ?_⟩
      have pc : c ≠ p := fun z => by
        subst z
        rw [upd_same] at hp; cases hp
      have hp0 : H3 p = none := by
        rw [upd_ne (Ne.symm pc)] at hp; exact hp
      refine q _ p c st (fun b o e => ?_) (fun b e => ?_) hp0 hc (Ne.symm pc) upd_same (by rw [upd_ne pc]; exact upd_same)
      · rw [upd_ne (ne_of_none e hp0), upd_ne (ne_of_none e hc)]; exact e
      · by_cases hb : b = p
        · subst hb; exact hp0
        · rw [upd_ne hb] at e
          by_cases hc2 : b = c
          · subst hc2; exact hc
          · rw [upd_ne hc2] at e; exact e

theorem ok_is_integer (T : Txt G mg) : FnOk G.P G.w G.K mg base (L2.CX G.P G.w) 1 T.is_integer.f T.is_integer.fd ["value"] (SpF1 G PyData m_is_integer) :=
  fn_ok T.is_integer.Fu sc_is_integer (fun x => [.per x.1]) (fun a vs F ⟨v0, _, e0, r0, ee⟩ => by rw [e0, ee]; rfl) (fun a vs F H N ⟨v0, _, e0, r0, ee⟩ => by rw [e0, ee]; exact ⟨⟨v0, rfl, r0⟩, trivial⟩) (fun x => (own_c rfl own_n)) fun cdv A outer s H F E hr =>
  ⟨_, (pss_cons (ps_ret (pe_and (pe_callB L2.call_isi (by rfl) T.z_isinstance bb_isinstance (pa_cons (pv 0) (pa_cons (pe_bltn (v := .ty "int") (u := .type "int") (by rfl) T.z_int bt_int rfl) pa_nil))) (pe_one (pe_not (pe_callB L2.call_isi (by rfl) T.z_isinstance bb_isinstance (pa_cons (pv 0) (pa_cons (pe_bltn (v := .ty "bool") (u := .type "bool") (by rfl) T.z_bool bt_bool rfl) pa_nil))))))) pss_nil),
  fun x => (sv_ret (ev_and (ev_isi kn_int (ev_var rfl)) (ev_not (ev_isi kn_bool (ev_var rfl)))))⟩
theorem ok_is_string (T : Txt G mg) : FnOk G.P G.w G.K mg base (L2.CX G.P G.w) 1 T.is_string.f T.is_string.fd ["many", "value"] (SpF2 G Int PyData m_is_string) :=
  fn_ok T.is_string.Fu sc_is_string (fun x => [.per x.1, .per x.2.1, .dead]) (fun a vs F ⟨v0, _, e0, r0, ⟨v1, _, e1, r1, ee⟩⟩ => by rw [e0, e1, ee]; rfl) (fun a vs F H N ⟨v0, _, e0, r0, ⟨v1, _, e1, r1, ee⟩⟩ => by rw [e0, e1, ee]; exact ⟨⟨v0, rfl, r0⟩, ⟨v1, rfl, r1⟩, trivial, trivial⟩) (fun x => (own_c rfl (own_c rfl (own_c rfl own_n)))) fun cdv A outer s H F E hr =>
  ⟨_, (pss_cons (ps_ret (pe_and (pe_callB L2.call_isi (by rfl) T.z_isinstance bb_isinstance (pa_cons (pv 1) (pa_cons (pe_bltn (v := .ty "str") (u := .type "str") (by rfl) T.z_str bt_str rfl) pa_nil))) (pe_one (pe_callB (cr_all rfl) (by rfl) T.z_all bb_all (pa_cons (pe_lc (own := [("sign", 2)]) (g := (gName 2)) (tt := tYes) (te := (tOp (fun x y H Q => ∃ i j, x = .str i ∧ y = .str j ∧ Q (.bl (!(Builtin.Str.occurrences j i 0 j.length 1).isEmpty)) H) (tVar 2) (tSl rSlS (tC (.str "abc")) tNoPart (tPart (tVar 0))))) rfl sc_is_string.nd (pi_str (pv 1)) (blkOk_by (N := Ns_is_string) (sc := defScope s_is_string) (by decide +kernel)) (fun _ _ _ _ _ => (pg_name (i := 2) sc_is_string.nd rfl (Or.inl rfl))) (fun _ _ _ _ _ => pts_nil) (fun _ _ _ _ _ => (pe_cmpR op_in_str (pv 2) (pe_slice sl_str (pe_glob (v := .str "abc") (by rfl) T.g_LETTERS ⟨_, rfl⟩) po_none (po_some (pv 0))) (by rfl)))) pa_nil))))) pss_nil),
  fun x => (sv_ret (ev_and (ev_isi kn_str (ev_var rfl)) (ev_all (ev_new (evn_map (evi_str (ev_asTx (ev_var rfl))) (no_own1 rfl rfl) trivial (fun O a3 => gc_name) (fun O a3 => (ev_op (α := Tx) (β := Tx) (ev_var rfl) (ev_slice (ev_str st_0) evo_none (evo_some (ev_var rfl)) slv_txt) opv_inS)) (fun _ => rfl))))))⟩
theorem ok_look_at_words (T : Txt G mg) : FnOk G.P G.w G.K mg base (L2.CX G.P G.w) 3 T.look_at_words.f T.look_at_words.fd ["many", "words"] (SpF2 G Int (List Tx) m_look_at_words) :=
  fn_okV T.look_at_words.Fu sc_look_at_words (fun x => [.per x.1, .per x.2.1, .dead, .dead, .dead]) (fun a vs F ⟨v0, _, e0, r0, ⟨v1, _, e1, r1, ee⟩⟩ => by rw [e0, e1, ee]; rfl) (fun a vs F H N ⟨v0, _, e0, r0, ⟨v1, _, e1, r1, ee⟩⟩ => by rw [e0, e1, ee]; exact ⟨⟨v0, rfl, r0⟩, ⟨v1, rfl, r1⟩, trivial, trivial, trivial, trivial⟩) (fun x => (own_c rfl (own_c rfl (own_c rfl (own_c rfl (own_c rfl own_n)))))) fun cdv A outer s H F E hr =>
  ⟨_, (pss_cons (ps_if ((pw_or (pt_not (pt_val (pe_callB L2.call_isi (by rfl) T.z_isinstance bb_isinstance (pa_cons (pv 1) (pa_cons (pe_bltn (v := .ty "tuple") (u := .type "tuple") (by rfl) T.z_tuple bt_tuple rfl) pa_nil))))) (pw_or1 (pt_not (pt_chain op_le op_le pe_int (pe_callB call_len_seq (by rfl) T.z_len PySem.boot_len (pa_cons (pv 1) pa_nil)) (pe_glob (v := .int 6) (by rfl) T.g_MOST_WORDS ⟨_, rfl⟩)))))).pt pss_never pss_nil) (pss_cons (ps_set (i := 2) sc_look_at_words.nd rfl (Or.inl rfl) (pe_lst pa_nil)) (pss_cons (ps_for (passes_of rfl) rfl (TyL.pi_enumT (by rfl) T.z_enumerate (pa_cons (pv 1) pa_nil)) (pg_tup rfl (pgs_cons (pg_name (i := 3) sc_look_at_words.nd rfl (Or.inl rfl)) (pgs_cons (pg_name (i := 4) sc_look_at_words.nd rfl (Or.inl rfl)) pgs_nil))) (pss_cons (ps_if ((pw_or (pt_not (pt_val (pe_call (ok_is_string T) (hr.mono (by decide)) (by rfl) T.is_string.g T.is_string.Fu.kp T.is_string.b .nil (passes_call (takes_of rfl rfl rfl rfl) (fun _ _ _ _ h => h)) (pa_cons (pv 0) (pa_cons (pv 4) pa_nil))))) (pw_or (pt_not (pt_chain op_le op_le pe_int (pe_callB call_len_str (by rfl) T.z_len PySem.boot_len (pa_cons (pv 4) pa_nil)) (pe_glob (v := .int 4) (by rfl) T.g_MOST_SIGNS ⟨_, rfl⟩))) (pw_or1 (pt_cmpR op_in_seq (pv 4) (pv 2) (by rfl)))))).pt pss_never pss_nil) (pss_cons (ps_expr (pe_bm PySem.F.plainAttrs_list PySem.F.slot_list_append PySem.F.type_list_append mt_append (pv 2) (pa_cons (pv 4) pa_nil))) pss_nil))) pss_nil))),
  fun x => (sv_ifnever (tv_or (tv_not (tv_B (ev_isi kn_tuple (ev_var rfl)))) (tv_not (tv_test (ev_chain ev_int (ev_lenT (ev_var rfl)) ev_int opv_B0 opv_B0)))) (sv_asgN (evn_lst evl_nil) fun v12 => (sv_for (Γi := fun (b14 : ((List Tx))) => [@Ent.per G Int _ x.1, @Ent.per G (List Tx) _ x.2.1, @Ent.lst G Tx _ b14, .dead, .dead]) (b0 := (un v12)) (evi_enumT (ev_var rfl)) (wk_hs (wk_s (wk_s (wk_s (wk_d (wk_d wk_n)))))) (fun _ => trivial) (fun b14 a15 => gv_tup2) (fun b14 a15 => (sv_ifnever (tv_or (tv_not (tv_B (ev_call2 (ev_var rfl) (ev_dat (ev_var rfl))))) (tv_or (tv_not (tv_test (ev_chain ev_int (ev_lenS (ev_var rfl)) ev_int opv_B0 opv_B0))) (tv_borrow 2 (hO_of _ _ _) rfl fun O => (tv_test (ev_op (α := Tx) (β := (L Tx)) (ev_var rfl) (ev_var rfl) opv_inL))))) (sv_append (hO_of _ _ _) rfl (ev_var rfl) fun v30 => (sv_next (wk_hs (wk_s (wk_s (wk_s (wk_d (wk_d wk_n)))))))))) (fun b14 => sv_end))))⟩
theorem ok_Code___init__ (T : Txt G mg) : FnOk G.P G.w G.K mg base (L2.CX G.P G.w) 4 T.Code___init__.f T.Code___init__.fd ["self", "signs", "words"] (SpC G m_Code___init__) :=
  fn_okC T.Code___init__.Fu sc_Code___init__ rfl rfl fun cdv A outer s H F E hr =>
  ⟨_, (pss_cons (ps_if ((pw_or (pt_not (pt_val (pe_call (ok_is_integer T) (hr.mono (by decide)) (by rfl) T.is_integer.g T.is_integer.Fu.kp T.is_integer.b .nil (passes_call (takes_of rfl rfl rfl rfl) (fun _ _ _ _ h => h)) (pa_cons (pv 1) pa_nil)))) (pw_or1 (pt_not (pt_chain op_le op_le pe_int (pv 1) pe_int))))).pt pss_never pss_nil) (pss_cons (ps_expr (pe_call (ok_look_at_words T) (hr.mono (by decide)) (by rfl) T.look_at_words.g T.look_at_words.Fu.kp T.look_at_words.b .nil (passes_call (takes_of rfl rfl rfl rfl) (fun _ _ _ _ h => h)) (pa_cons (pv 1) (pa_cons (pv 2) pa_nil)))) (pss_cons (SlX.ps_sl (pv 0) (pv 1)) (pss_cons (SlX.ps_sl (pv 0) (pv 2)) pss_nil)))),
  fun x dx many parts hx ne => (sv_ifnever (tv_or (tv_not (tv_B (ev_call1 (ev_dat (ev_var rfl))))) (tv_not (tv_test (ev_chain ev_int (ev_var rfl) ev_int opv_B0 opv_B0)))) (sv_drop (ev_call2 (ev_var rfl) (ev_var rfl)) (sv_setCode T.cf rfl rfl rfl hx (fun z => z) ne)))⟩
theorem ok_look_at_string (T : Txt G mg) : FnOk G.P G.w G.K mg base (L2.CX G.P G.w) 2 T.look_at_string.f T.look_at_string.fd ["code", "value"] (SpF2 G CodeV PyData m_look_at_string) :=
  fn_okV T.look_at_string.Fu sc_look_at_string (fun x => [.per x.1, .per x.2.1]) (fun a vs F ⟨v0, _, e0, r0, ⟨v1, _, e1, r1, ee⟩⟩ => by rw [e0, e1, ee]; rfl) (fun a vs F H N ⟨v0, _, e0, r0, ⟨v1, _, e1, r1, ee⟩⟩ => by rw [e0, e1, ee]; exact ⟨⟨v0, rfl, r0⟩, ⟨v1, rfl, r1⟩, trivial⟩) (fun x => (own_c rfl (own_c rfl own_n))) fun cdv A outer s H F E hr =>
  ⟨_, (pss_cons (ps_if (pt_not (pt_val (pe_call (ok_is_string T) (hr.mono (by decide)) (by rfl) T.is_string.g T.is_string.Fu.kp T.is_string.b .nil (passes_call (takes_of rfl rfl rfl rfl) (fun _ _ _ _ h => h)) (pa_cons (SlX.pe_sl (pv 0)) (pa_cons (pv 1) pa_nil))))) (pss_cons (ps_raise rfl (takes_of rfl rfl rfl rfl) (TyL.pmk_own0 PySem.F.excBase_ValueError T.x_InvalidString.ex T.x_InvalidString.g T.x_InvalidString.kp (raises_own T.x_InvalidString.b T.x_InvalidString.t) rfl)) pss_nil) pss_nil) pss_nil),
  fun x => (sv_ifraise (tv_not (tv_B (ev_call2 (ev_many T.cf (ev_var rfl)) (ev_var rfl)))) (sx_raise0 "InvalidString") sv_end)⟩
theorem ok_turned_words (T : Txt G mg) : FnOk G.P G.w G.K mg base (L2.CX G.P G.w) 1 T.turned_words.f T.turned_words.fd ["words"] (SpF1 G (List Tx) m_turned_words) :=
  fn_ok T.turned_words.Fu sc_turned_words (fun x => [.per x.1, .dead]) (fun a vs F ⟨v0, _, e0, r0, ee⟩ => by rw [e0, ee]; rfl) (fun a vs F H N ⟨v0, _, e0, r0, ee⟩ => by rw [e0, ee]; exact ⟨⟨v0, rfl, r0⟩, trivial, trivial⟩) (fun x => (own_c rfl (own_c rfl own_n))) fun cdv A outer s H F E hr =>
  ⟨_, (pss_cons (ps_ret (pe_callTy call_tuple_of (by rfl) T.z_tuple bt_tuple (pa_cons (pe_lc (own := [("word", 1)]) (g := (gName 1)) (tt := tYes) (te := (TyL.tRevS (tVar 1))) rfl sc_turned_words.nd (pi_tup (pv 0)) (blkOk_by (N := Ns_turned_words) (sc := defScope s_turned_words) (by decide +kernel)) (fun _ _ _ _ _ => (pg_name (i := 1) sc_turned_words.nd rfl (Or.inl rfl))) (fun _ _ _ _ _ => pts_nil) (fun _ _ _ _ _ => (TyL.pe_revS (pv 1)))) pa_nil))) pss_nil),
  fun x => (sv_ret (ev_tupleL (ev_new (evn_map (evi_tup (ev_var rfl)) (no_own1 rfl rfl) trivial (fun O a1 => gc_name) (fun O a1 => (ev_revS (ev_var rfl))) (fun _ => rfl)))))⟩
theorem ok_look_at_way (T : Txt G mg) : FnOk G.P G.w G.K mg base (L2.CX G.P G.w) 1 T.look_at_way.f T.look_at_way.fd ["way", "side"] (SpF2 G PyData PyData m_look_at_way) :=
  fn_okV T.look_at_way.Fu sc_look_at_way (fun x => [.per x.1, .per x.2.1]) (fun a vs F ⟨v0, _, e0, r0, ⟨v1, _, e1, r1, ee⟩⟩ => by rw [e0, e1, ee]; rfl) (fun a vs F H N ⟨v0, _, e0, r0, ⟨v1, _, e1, r1, ee⟩⟩ => by rw [e0, e1, ee]; exact ⟨⟨v0, rfl, r0⟩, ⟨v1, rfl, r1⟩, trivial⟩) (fun x => (own_c rfl (own_c rfl own_n))) fun cdv A outer s H F E hr =>
  ⟨_, (pss_cons (ps_if ((pw_or (pt_not (pt_val (pe_callB L2.call_isi (by rfl) T.z_isinstance bb_isinstance (pa_cons (pv 0) (pa_cons (pe_bltn (v := .ty "str") (u := .type "str") (by rfl) T.z_str bt_str rfl) pa_nil))))) (pw_or (pt_cmpR op_notIn_seq (pv 0) (pe_glob (v := .ref T.a_WAYS) (by rfl) T.g_WAYS rfl) (by rfl)) (pw_or (pt_not (pt_val (pe_callB L2.call_isi (by rfl) T.z_isinstance bb_isinstance (pa_cons (pv 1) (pa_cons (pe_bltn (v := .ty "str") (u := .type "str") (by rfl) T.z_str bt_str rfl) pa_nil))))) (pw_or1 (pt_cmpR op_notIn_seq (pv 1) (pe_glob (v := .ref T.a_SIDES) (by rfl) T.g_SIDES rfl) (by rfl))))))).pt (pss_cons (ps_raise rfl (takes_of rfl rfl rfl rfl) (TyL.pmk_own0 PySem.F.excBase_ValueError T.x_InvalidWay.ex T.x_InvalidWay.g T.x_InvalidWay.kp (raises_own T.x_InvalidWay.b T.x_InvalidWay.t) rfl)) pss_nil) pss_nil) pss_nil),
  fun x => (sv_ifraise (tv_or (tv_not (tv_B (ev_isi kn_str (ev_var rfl)))) (tv_or (tv_test (ev_op (α := Tx) (β := (List Tx)) (ev_asTx (ev_var rfl)) (ev_ktup T.q_WAYS (by decide +kernel)) opv_ninT)) (tv_or (tv_not (tv_B (ev_isi kn_str (ev_var rfl)))) (tv_test (ev_op (α := Tx) (β := (List Tx)) (ev_asTx (ev_var rfl)) (ev_ktup T.q_SIDES (by decide +kernel)) opv_ninT))))) (sx_raise0 "InvalidWay") sv_end)⟩
theorem ok_in_taste (T : Txt G mg) (B : LamX.TabB base mg T.tC T.tP) : FnOk G.P G.w G.K mg base (L2.CX G.P G.w) 3 T.in_taste.f T.in_taste.fd ["words", "way"] (SpT2 G T.tP nmL (List Tx) Tx m_in_taste) :=
  fn_okT (gn := "@") T.in_taste.Fu sc_in_taste 3 rfl gh_in_taste (fun x => [.per x.1, .per x.2.1, .dead, .gen (pinR T.tP (tabR nmL)) true]) (fun a vs F ⟨v0, _, e0, r0, ⟨v1, _, e1, r1, ee⟩⟩ => by rw [e0, e1, ee]; rfl) (fun a vs F H N u hm hp hd ⟨v0, _, e0, r0, ⟨v1, _, e1, r1, ee⟩⟩ => by rw [e0, e1, ee]; exact ⟨⟨v0, rfl, r0⟩, ⟨v1, rfl, r1⟩, trivial, ⟨T.tP, u, rfl, hm, (fun z => by cases z), hp, rfl, hd⟩, trivial⟩) (fun x => (own_ks rfl (own_ks rfl (own_ks rfl (own_k0 own_n))))) fun cdv A outer s H F E hc hr =>
  ⟨_, (pss_cons (ps_set (i := 2) sc_in_taste.nd rfl (Or.inl rfl) (pe_listRg rfl (by rfl) T.z_list (prg_1 (by rfl) T.z_range (pe_callB call_len_seq (by rfl) T.z_len PySem.boot_len (pa_cons (pv 0) pa_nil))))) (pss_cons (ps_if (pt_cmpR op_eq (pv 1) pe_str (nomark _)) (pss_cons (ps_ret (pv 2)) pss_nil) pss_nil) (pss_cons (ps_ret (TyL.pe_sortLam (P := T.tP) (cd := T.tC) (kk := 1) (iw := 0) (iy := 1) (pv 2) (by rfl) T.z_sorted bb_sorted B (hc.symm.trans T.tc) (by rfl) (hr.mono (by decide)) (by rfl) (by rfl) (by rfl) (by decide +kernel) (by rfl) (by rfl) (by rfl) (by rfl) (by rfl) (by rfl) (by rfl) (by rfl) (TyL.free_ok (by rfl)) (fun _ _ _ _ _ _ _ => rfl) T.z_len)) pss_nil))),
  fun x => (sv_asg (α := (L Int)) (ev_new (evn_listR (ev_lenT (ev_var rfl)))) fun v3 => (sv_ifret jrt_ret (tv_test (ev_op (α := Tx) (β := Tx) (ev_var rfl) (ev_str st_1) opv_eq)) (sv_retT 3 rfl (ev_var rfl)) (sv_retT 3 rfl (ev_new (evn_sortLam 3 (hO_slf _ _ _ _) rfl rfl rfl st_2 (ev_var rfl))))))⟩
theorem ok_read_front (T : Txt G mg) (B : LamX.TabB base mg T.tC T.tP) : FnOk G.P G.w G.K mg base (L2.CX G.P G.w) 4 T.read_front.f T.read_front.fd ["words", "string", "way"] (SpT3 G T.tP nmL (List Tx) Tx Tx m_read_front) :=
  fn_okT (gn := "@") T.read_front.Fu sc_read_front 8 rfl gh_read_front (fun x => [.per x.1, .per x.2.1, .per x.2.2.1, .dead, .dead, .dead, .dead, .dead, .gen (pinR T.tP (tabR nmL)) true]) (fun a vs F ⟨v0, _, e0, r0, ⟨v1, _, e1, r1, ⟨v2, _, e2, r2, ee⟩⟩⟩ => by rw [e0, e1, e2, ee]; rfl) (fun a vs F H N u hm hp hd ⟨v0, _, e0, r0, ⟨v1, _, e1, r1, ⟨v2, _, e2, r2, ee⟩⟩⟩ => by rw [e0, e1, e2, ee]; exact ⟨⟨v0, rfl, r0⟩, ⟨v1, rfl, r1⟩, ⟨v2, rfl, r2⟩, trivial, trivial, trivial, trivial, trivial, ⟨T.tP, u, rfl, hm, (fun z => by cases z), hp, rfl, hd⟩, trivial⟩) (fun x => (own_ks rfl (own_ks rfl (own_ks rfl (own_ks rfl (own_ks rfl (own_ks rfl (own_ks rfl (own_ks rfl (own_k0 own_n)))))))))) fun cdv A outer s H F E hc hr =>
  ⟨_, (pss_cons (ps_asg (pe_tup (pa_cons (pe_tup pa_nil) (pa_cons pe_int pa_nil))) (pg_tup rfl (pgs_cons (pg_name (i := 3) sc_read_front.nd rfl (Or.inl rfl)) (pgs_cons (pg_name (i := 4) sc_read_front.nd rfl (Or.inr rfl)) pgs_nil)))) (pss_cons (ps_set (i := 5) sc_read_front.nd rfl (Or.inl rfl) (pe_call (ok_in_taste T B) (hr.mono (by decide)) (by rfl) T.in_taste.g T.in_taste.Fu.kp T.in_taste.b .nil (passes_call (takes_of rfl rfl rfl rfl) (fun _ _ _ _ h => h)) (pa_cons (pv 0) (pa_cons (pv 2) pa_nil)))) (pss_cons (ps_setLc (i := 6) (own := [("index", 7)]) (g := (gName 7)) (tt := (tTest (tOp rEq (tSl rSlS (tVar 1) (tPart (tVar 4)) (tPart (tOp (rI0 fun i j => .int (i + j)) (tVar 4) (tCB (fun xs H Q => ∃ z, xs = [.str z] ∧ z.length ≤ sizeLine ∧ Q (.int z.length) H) (tCons (tOp (rIxT G.K) (tVar 0) (tVar 7)) tNil))))) (tOp (rIxT G.K) (tVar 0) (tVar 7))))) (te := (tVar 7)) rfl sc_read_front.nd rfl rfl (sw_true rfl rfl rfl (by decide +kernel)) (pi_list (pv 5)) (blkOk_by (N := Ns_read_front) (sc := defScope s_read_front) (by decide +kernel)) (fun _ _ _ _ _ => (pg_name (i := 7) sc_read_front.nd rfl (Or.inl rfl))) (fun _ _ _ _ _ => pts_one (pt_cmpR op_eq (pe_slice sl_str (pv 1) (po_some (pv 4)) (po_some (pe_op op_add (pv 4) (pe_callB call_len_str (by rfl) T.z_len PySem.boot_len (pa_cons (pe_ix ix_tup (pv 0) (pv 7) (fun _ _ => rfl)) pa_nil))))) (pe_ix ix_tup (pv 0) (pv 7) (fun _ _ => rfl)) (nomark _))) (fun _ _ _ _ _ => (pv 7))) (pss_cons (ps_while (passes_of rfl) (pt_cmpR (op_neD hr.units) (pv 6) (pe_lst pa_nil) (nomark _)) (pss_cons (ps_set (i := 3) sc_read_front.nd rfl (Or.inl rfl) (pe_tup (StX.pa_star (pv 3) (pa_cons (pe_ix ix_list (pv 6) pe_int (fun _ _ => rfl)) pa_nil)))) (pss_cons (ps_aug (i := 4) sc_read_front.nd rfl (Or.inr rfl) (pe_callB call_len_str (by rfl) T.z_len PySem.boot_len (pa_cons (pe_ix ix_tup (pv 0) (pe_ix ix_list (pv 6) pe_int (fun _ _ => rfl)) (fun _ _ => rfl)) pa_nil)) ip_add) (pss_cons (ps_setLc (i := 6) (own := [("index", 7)]) (g := (gName 7)) (tt := (tTest (tOp rEq (tSl rSlS (tVar 1) (tPart (tVar 4)) (tPart (tOp (rI0 fun i j => .int (i + j)) (tVar 4) (tCB (fun xs H Q => ∃ z, xs = [.str z] ∧ z.length ≤ sizeLine ∧ Q (.int z.length) H) (tCons (tOp (rIxT G.K) (tVar 0) (tVar 7)) tNil))))) (tOp (rIxT G.K) (tVar 0) (tVar 7))))) (te := (tVar 7)) rfl sc_read_front.nd rfl rfl (sw_true rfl rfl rfl (by decide +kernel)) (pi_list (pv 5)) (blkOk_by (N := Ns_read_front) (sc := defScope s_read_front) (by decide +kernel)) (fun _ _ _ _ _ => (pg_name (i := 7) sc_read_front.nd rfl (Or.inl rfl))) (fun _ _ _ _ _ => pts_one (pt_cmpR op_eq (pe_slice sl_str (pv 1) (po_some (pv 4)) (po_some (pe_op op_add (pv 4) (pe_callB call_len_str (by rfl) T.z_len PySem.boot_len (pa_cons (pe_ix ix_tup (pv 0) (pv 7) (fun _ _ => rfl)) pa_nil))))) (pe_ix ix_tup (pv 0) (pv 7) (fun _ _ => rfl)) (nomark _))) (fun _ _ _ _ _ => (pv 7))) pss_nil)))) (pss_cons (ps_ret (pe_tup (pa_cons (pv 3) (pa_cons (pv 4) pa_nil)))) pss_nil))))),
  fun x => (sv_asgT (ev_mkp (ev_tup evl_nil) ev_int) (fun v4 => gv_tup2) fun v4 => (sv_asg (α := (L Int)) (ev_callT2 8 (hO_slf _ _ _ _) rfl (ev_var rfl) (ev_var rfl)) fun v7 => (sv_asg (α := (L Int)) (ev_new (evn_lc (evi_lst (ev_var rfl)) (no_own1 rfl rfl) trivial (fun O a29 => gc_name) (fun O a29 => (tv_test (ev_op (α := Tx) (β := Tx) (ev_slice (ev_var rfl) (evo_some (ev_var rfl)) (evo_some (ev_op (α := Int) (β := Int) (ev_var rfl) (ev_lenS (ev_op (α := (List Tx)) (β := Int) (ev_var rfl) (ev_var rfl) opv_ixT)) opv_I0)) slv_txt) (ev_op (α := (List Tx)) (β := Int) (ev_var rfl) (ev_var rfl) opv_ixT) opv_eq))) (fun O a29 => (ev_var rfl)) (fun _ => rfl))) fun v50 => (sv_while (Γi := fun (b51 : ((List Int) × Int × (L Int))) => [@Ent.per G (List Tx) _ x.1, @Ent.per G Tx _ x.2.1, @Ent.per G Tx _ x.2.2.1, @Ent.per G (List Int) _ b51.1, @Ent.per G Int _ b51.2.1, @Ent.per G (L Int) _ v7, @Ent.per G (L Int) _ b51.2.2, .dead, .gen (pinR T.tP (tabR nmL)) true]) (b0 := (v4.1, v4.2, v50)) (wk_hs (wk_s (wk_s (wk_s (wk_s (wk_s (wk_s (wk_s (wk_d (wk_s wk_n)))))))))) (fun b51 => (tv_test (ev_op (α := (L Int)) (β := (L Int)) (ev_var rfl) (ev_new (evn_lst evl_nil)) (opv_neD (α := (L Int)) (β := (L Int)))))) (fun b51 => (sv_asg (α := (List Int)) (ev_tup (evl_star (ev_var rfl) (evl_cons (ev_op (α := (L Int)) (β := Int) (ev_var rfl) ev_int opv_ixL) evl_nil))) fun v63 => (sv_aug rfl (ev_lenS (ev_op (α := (List Tx)) (β := Int) (ev_var rfl) (ev_op (α := (L Int)) (β := Int) (ev_var rfl) ev_int opv_ixL) opv_ixT)) fun v77 => (sv_asg (α := (L Int)) (ev_new (evn_lc (evi_lst (ev_var rfl)) (no_own1 rfl rfl) trivial (fun O a99 => gc_name) (fun O a99 => (tv_test (ev_op (α := Tx) (β := Tx) (ev_slice (ev_var rfl) (evo_some (ev_var rfl)) (evo_some (ev_op (α := Int) (β := Int) (ev_var rfl) (ev_lenS (ev_op (α := (List Tx)) (β := Int) (ev_var rfl) (ev_var rfl) opv_ixT)) opv_I0)) slv_txt) (ev_op (α := (List Tx)) (β := Int) (ev_var rfl) (ev_var rfl) opv_ixT) opv_eq))) (fun O a99 => (ev_var rfl)) (fun _ => rfl))) fun v120 => (sv_next (wk_hs (wk_s (wk_s (wk_s (wk_s (wk_s (wk_s (wk_s (wk_d (wk_s wk_n))))))))))))))) (fun b51 => (sv_retT 8 rfl (ev_mkp (ev_var rfl) (ev_var rfl))))))))⟩
theorem ok_read (T : Txt G mg) (B : LamX.TabB base mg T.tC T.tP) : FnOk G.P G.w G.K mg base (L2.CX G.P G.w) 5 T.read.f T.read.fd ["code", "string", "way", "side"] (SpT4 G T.tP nmL CodeV Tx Tx Tx m_read) :=
  fn_okT (gn := "@") T.read.Fu sc_read 6 rfl gh_read (fun x => [.per x.1, .per x.2.1, .per x.2.2.1, .per x.2.2.2.1, .dead, .dead, .gen (pinR T.tP (tabR nmL)) true]) (fun a vs F ⟨v0, _, e0, r0, ⟨v1, _, e1, r1, ⟨v2, _, e2, r2, ⟨v3, _, e3, r3, ee⟩⟩⟩⟩ => by rw [e0, e1, e2, e3, ee]; rfl) (fun a vs F H N u hm hp hd ⟨v0, _, e0, r0, ⟨v1, _, e1, r1, ⟨v2, _, e2, r2, ⟨v3, _, e3, r3, ee⟩⟩⟩⟩ => by rw [e0, e1, e2, e3, ee]; exact ⟨⟨v0, rfl, r0⟩, ⟨v1, rfl, r1⟩, ⟨v2, rfl, r2⟩, ⟨v3, rfl, r3⟩, trivial, trivial, ⟨T.tP, u, rfl, hm, (fun z => by cases z), hp, rfl, hd⟩, trivial⟩) (fun x => (own_ks rfl (own_ks rfl (own_ks rfl (own_ks rfl (own_ks rfl (own_ks rfl (own_k0 own_n)))))))) fun cdv A outer s H F E hc hr =>
  ⟨_, (pss_cons (ps_expr (pe_call (ok_look_at_string T) (hr.mono (by decide)) (by rfl) T.look_at_string.g T.look_at_string.Fu.kp T.look_at_string.b .nil (passes_call (takes_of rfl rfl rfl rfl) (fun _ _ _ _ h => h)) (pa_cons (pv 0) (pa_cons (pv 1) pa_nil)))) (pss_cons (ps_expr (pe_call (ok_look_at_way T) (hr.mono (by decide)) (by rfl) T.look_at_way.g T.look_at_way.Fu.kp T.look_at_way.b .nil (passes_call (takes_of rfl rfl rfl rfl) (fun _ _ _ _ h => h)) (pa_cons (pv 2) (pa_cons (pv 3) pa_nil)))) (pss_cons (ps_if (pt_cmpR op_eq (pv 3) pe_str (nomark _)) (pss_cons (ps_ret (pe_call (ok_read_front T B) (hr.mono (by decide)) (by rfl) T.read_front.g T.read_front.Fu.kp T.read_front.b .nil (passes_call (takes_of rfl rfl rfl rfl) (fun _ _ _ _ h => h)) (pa_cons (SlX.pe_sl (pv 0)) (pa_cons (pv 1) (pa_cons (pv 2) pa_nil))))) pss_nil) pss_nil) (pss_cons (ps_asg (pe_call (ok_read_front T B) (hr.mono (by decide)) (by rfl) T.read_front.g T.read_front.Fu.kp T.read_front.b .nil (passes_call (takes_of rfl rfl rfl rfl) (fun _ _ _ _ h => h)) (pa_cons (pe_call (ok_turned_words T) (hr.mono (by decide)) (by rfl) T.turned_words.g T.turned_words.Fu.kp T.turned_words.b .nil (passes_call (takes_of rfl rfl rfl rfl) (fun _ _ _ _ h => h)) (pa_cons (SlX.pe_sl (pv 0)) pa_nil)) (pa_cons (TyL.pe_revS (pv 1)) (pa_cons (pv 2) pa_nil)))) (pg_tup rfl (pgs_cons (pg_name (i := 4) sc_read.nd rfl (Or.inl rfl)) (pgs_cons (pg_name (i := 5) sc_read.nd rfl (Or.inl rfl)) pgs_nil)))) (pss_cons (ps_ret (pe_tup (pa_cons (TyL.pe_revT (pv 4)) (pa_cons (pv 5) pa_nil)))) pss_nil))))),
  fun x => (sv_drop (ev_call2 (ev_var rfl) (ev_dat (ev_var rfl))) (sv_drop (ev_call2 (ev_dat (ev_var rfl)) (ev_dat (ev_var rfl))) (sv_ifret jrt_ret (tv_test (ev_op (α := Tx) (β := Tx) (ev_var rfl) (ev_str st_3) opv_eq)) (sv_retT 6 rfl (ev_callT3 6 (hO_slf _ _ _ _) rfl (ev_parts T.cf (ev_var rfl)) (ev_var rfl) (ev_var rfl))) (sv_asgT (ev_callT3 6 (hO_slf _ _ _ _) rfl (ev_call1 (ev_parts T.cf (ev_var rfl))) (ev_revS (ev_var rfl)) (ev_var rfl)) (fun v19 => gv_tup2) fun v19 => (sv_retT 6 rfl (ev_mkp (ev_revT (ev_var rfl)) (ev_var rfl)))))))⟩
theorem ok_read_err (T : Txt G mg) : FnOk G.P G.w G.K mg base (L2.CX G.P G.w) 5 T.read.f T.read.fd ["code", "string", "way", "side"] (SpF4 G CodeV Tx PyData PyData m_read_err) :=
  fn_ok T.read.Fu sc_read_err (fun x => [.per x.1, .per x.2.1, .per x.2.2.1, .per x.2.2.2.1, .dead, .dead]) (fun a vs F ⟨v0, _, e0, r0, ⟨v1, _, e1, r1, ⟨v2, _, e2, r2, ⟨v3, _, e3, r3, ee⟩⟩⟩⟩ => by rw [e0, e1, e2, e3, ee]; rfl) (fun a vs F H N ⟨v0, _, e0, r0, ⟨v1, _, e1, r1, ⟨v2, _, e2, r2, ⟨v3, _, e3, r3, ee⟩⟩⟩⟩ => by rw [e0, e1, e2, e3, ee]; exact ⟨⟨v0, rfl, r0⟩, ⟨v1, rfl, r1⟩, ⟨v2, rfl, r2⟩, ⟨v3, rfl, r3⟩, trivial, trivial, trivial⟩) (fun x => (own_c rfl (own_c rfl (own_c rfl (own_c rfl (own_c rfl (own_c rfl own_n))))))) fun cdv A outer s H F E hr =>
  ⟨_, (pss_cons (ps_expr (pe_call (ok_look_at_string T) (hr.mono (by decide)) (by rfl) T.look_at_string.g T.look_at_string.Fu.kp T.look_at_string.b .nil (passes_call (takes_of rfl rfl rfl rfl) (fun _ _ _ _ h => h)) (pa_cons (pv 0) (pa_cons (pv 1) pa_nil)))) (pss_cons (ps_expr (pe_call (ok_look_at_way T) (hr.mono (by decide)) (by rfl) T.look_at_way.g T.look_at_way.Fu.kp T.look_at_way.b .nil (passes_call (takes_of rfl rfl rfl rfl) (fun _ _ _ _ h => h)) (pa_cons (pv 2) (pa_cons (pv 3) pa_nil)))) pss_never)),
  fun x => (sv_drop (ev_call2 (ev_var rfl) (ev_dat (ev_var rfl))) (sv_drop (ev_call2 (ev_var rfl) (ev_var rfl)) sv_stuck))⟩
theorem ok_misread_err (T : Txt G mg) : FnOk G.P G.w G.K mg base (L2.CX G.P G.w) 2 T.misread.f T.misread.fd ["code", "way", "side"] (SpF3 G CodeV PyData PyData m_misread_err) :=
  fn_ok T.misread.Fu sc_misread_err (fun x => [.per x.1, .per x.2.1, .per x.2.2.1]) (fun a vs F ⟨v0, _, e0, r0, ⟨v1, _, e1, r1, ⟨v2, _, e2, r2, ee⟩⟩⟩ => by rw [e0, e1, e2, ee]; rfl) (fun a vs F H N ⟨v0, _, e0, r0, ⟨v1, _, e1, r1, ⟨v2, _, e2, r2, ee⟩⟩⟩ => by rw [e0, e1, e2, ee]; exact ⟨⟨v0, rfl, r0⟩, ⟨v1, rfl, r1⟩, ⟨v2, rfl, r2⟩, trivial⟩) (fun x => (own_c rfl (own_c rfl (own_c rfl own_n)))) fun cdv A outer s H F E hr =>
  ⟨_, (pss_cons (ps_expr (pe_call (ok_look_at_way T) (hr.mono (by decide)) (by rfl) T.look_at_way.g T.look_at_way.Fu.kp T.look_at_way.b .nil (passes_call (takes_of rfl rfl rfl rfl) (fun _ _ _ _ h => h)) (pa_cons (pv 1) (pa_cons (pv 2) pa_nil)))) pss_never),
  fun x => (sv_drop (ev_call2 (ev_var rfl) (ev_var rfl)) sv_stuck)⟩
theorem ok__law_word (T : Txt G mg) : FnOk G.P G.w G.K mg base (L2.CX G.P G.w) 2 T._law_word.f T._law_word.fd ["_law_h", "_law_many", "_law_high"] (SpS2 G Int Int m__law_word) :=
  fn_okS T._law_word.Fu sc__law_word (fun x => [.src, .per x.1, .per x.2.1, .dead]) (fun a vs F ⟨v0, _, e0, r0, ⟨v1, _, e1, r1, ee⟩⟩ => by rw [e0, e1, ee]; rfl) (fun a vs F H N p c hS ⟨v0, _, e0, r0, ⟨v1, _, e1, r1, ee⟩⟩ => by rw [e0, e1, ee]; exact ⟨⟨p, c, rfl, hS⟩, ⟨v0, rfl, r0⟩, ⟨v1, rfl, r1⟩, trivial, trivial⟩) (fun x => (own_c rfl (own_c rfl (own_c rfl (own_c rfl own_n))))) fun cdv A outer s H F p c E hr =>
  ⟨_, (pss_cons (ps_ret (pe_join pe_str (pe_lc (own := [("_law_k", 3)]) (g := (gName 3)) (tt := tYes) (te := (tOp rIxS (tC (.str "abc")) (tCall (SpS1 G Int m__law_next) [] E0 (tCons (tVar 0) (tCons (tVar 1) tNil))))) rfl sc__law_word.nd (pi_range1 (by rfl) T.z_range (pa_cons (pe_op op_add pe_int (pe_call (ok__law_next T) (hr.mono (by decide)) (by rfl) T._law_next.g T._law_next.Fu.kp T._law_next.b .nil (passes_call (takes_of rfl rfl rfl rfl) (fun _ _ _ _ h => h)) (pa_cons (pv 0) (pa_cons (pv 2) pa_nil)))) pa_nil)) (blkOk_by (N := Ns__law_word) (sc := defScope s__law_word) (by decide +kernel)) (fun _ _ _ _ _ => (pg_name (i := 3) sc__law_word.nd rfl (Or.inl rfl))) (fun _ _ _ _ _ => pts_nil) (fun _ _ _ _ _ => (pe_ix ix_str pe_str (pe_call (ok__law_next T) (hr.mono (by decide)) (by rfl) T._law_next.g T._law_next.Fu.kp T._law_next.b .nil passL (pa_cons (pv 0) (pa_cons (pv 1) pa_nil))) (fun _ _ => rfl)))))) pss_nil),
  fun x => (sv_ret (ev_join (ev_str st_4) (ev_new (evn_mapE (evi_rng1 (ev_op (α := Int) (β := Int) ev_int (ev_callS1 rfl (ev_var rfl)) opv_I0)) (no_own1 rfl rfl) trivial (fun O a5 => gc_name) (fun O a5 => (ev_op (α := Tx) (β := Int) (ev_str st_0) (ev_callS1 rfl (ev_var rfl)) opv_ixS)) (fun _ => rfl)))))⟩
theorem ok__law_code (T : Txt G mg) : FnOk G.P G.w G.K mg base (L2.CX G.P G.w) 3 T._law_code.f T._law_code.fd ["_law_h", "_law_high"] (SpS1 G Int m__law_code) :=
  fn_okS T._law_code.Fu sc__law_code (fun x => [.src, .per x.1, .dead, .dead, .dead, .dead, .dead, .dead, .dead]) (fun a vs F ⟨v0, _, e0, r0, ee⟩ => by rw [e0, ee]; rfl) (fun a vs F H N p c hS ⟨v0, _, e0, r0, ee⟩ => by rw [e0, ee]; exact ⟨⟨p, c, rfl, hS⟩, ⟨v0, rfl, r0⟩, trivial, trivial, trivial, trivial, trivial, trivial, trivial, trivial⟩) (fun x => (own_c rfl (own_c rfl (own_c rfl (own_c rfl (own_c rfl (own_c rfl (own_c rfl (own_c rfl (own_c rfl own_n)))))))))) fun cdv A outer s H F p c E hr =>
  ⟨_, (pss_cons (ps_set (i := 2) sc__law_code.nd rfl (Or.inl rfl) (pe_op op_add pe_int (pe_callTy call_int1 (by rfl) T.z_int bt_int (pa_cons (pe_cmpR op_eq (pe_call (ok__law_next T) (hr.mono (by decide)) (by rfl) T._law_next.g T._law_next.Fu.kp T._law_next.b .nil (passes_call (takes_of rfl rfl rfl rfl) (fun _ _ _ _ h => h)) (pa_cons (pv 0) (pa_cons pe_int pa_nil))) pe_int (nomark _)) pa_nil)))) (pss_cons (ps_set (i := 3) sc__law_code.nd rfl (Or.inl rfl) (pe_lst pa_nil)) (pss_cons (ps_if (pt_cmpR op_eq (pe_call (ok__law_next T) (hr.mono (by decide)) (by rfl) T._law_next.g T._law_next.Fu.kp T._law_next.b .nil (passes_call (takes_of rfl rfl rfl rfl) (fun _ _ _ _ h => h)) (pa_cons (pv 0) (pa_cons pe_int pa_nil))) pe_int (nomark _)) (pss_cons (ps_set (i := 4) sc__law_code.nd rfl (Or.inr rfl) (pe_lst (pa_cons pe_str pa_nil))) (pss_cons (ps_for (passes_of rfl) rfl (pi_range1 (by rfl) T.z_range (pa_cons (pe_call (ok__law_next T) (hr.mono (by decide)) (by rfl) T._law_next.g T._law_next.Fu.kp T._law_next.b .nil (passes_call (takes_of rfl rfl rfl rfl) (fun _ _ _ _ h => h)) (pa_cons (pv 0) (pa_cons (pv 1) pa_nil))) pa_nil)) (pg_name (i := 5) sc__law_code.nd rfl (Or.inl rfl)) (pss_cons (ps_set (i := 6) sc__law_code.nd rfl (Or.inr rfl) (pe_call (ok__law_next T) (hr.mono (by decide)) (by rfl) T._law_next.g T._law_next.Fu.kp T._law_next.b .nil (passes_call (takes_of rfl rfl rfl rfl) (fun _ _ _ _ h => h)) (pa_cons (pv 0) (pa_cons (pe_callB call_len_seq (by rfl) T.z_len PySem.boot_len (pa_cons (pv 4) pa_nil)) pa_nil)))) (pss_cons (ps_if ((pw_and (pt_cmpR op_lt (pe_callB call_len_str (by rfl) T.z_len PySem.boot_len (pa_cons (pe_ix ix_list (pv 4) (pv 6) (fun _ _ => rfl)) pa_nil)) pe_int (nomark _)) (pw_and1 (pt_cmpR op_le (pe_op op_sub (pe_op op_add (pe_callB call_len_seq (by rfl) T.z_len PySem.boot_len (pa_cons (pv 4) pa_nil)) (pv 2)) pe_int) pe_int (nomark _))))).pt (pss_cons (ps_set (i := 4) sc__law_code.nd rfl (Or.inr rfl) (pe_op TyL.op_catL (pe_op TyL.op_catL (pe_slice sl_list (pv 4) po_none (po_some (pv 6))) (pe_lc (own := [("_law_sign", 8)]) (g := (gName 8)) (tt := tYes) (te := (tOp (fun x y H Q => ∃ i j, x = .str i ∧ y = .str j ∧ i.length + j.length ≤ sizeLine ∧ Q (.str (i ++ j)) H) (tOp (rIxL G.K) (tVar 4) (tVar 6)) (tVar 8))) rfl sc__law_code.nd (pi_str (pe_slice sl_str pe_str po_none (po_some (pv 2)))) (blkOk_by (N := Ns__law_code) (sc := defScope s__law_code) (by decide +kernel)) (fun _ _ _ _ _ => (pg_name (i := 8) sc__law_code.nd rfl (Or.inl rfl))) (fun _ _ _ _ _ => pts_nil) (fun _ _ _ _ _ => (pe_op op_add_str (pe_ix ix_list (pv 4) (pv 6) (fun _ _ => rfl)) (pv 8))))) (pe_slice sl_list (pv 4) (po_some (pe_op op_add (pv 6) pe_int)) po_none))) pss_nil) pss_nil) pss_nil))) (pss_cons (ps_setLc (i := 3) (own := [("_law_word_here", 7)]) (g := (gName 7)) (tt := (tTest (tOp rNe (tVar 7) (tC (.str ""))))) (te := (tVar 7)) rfl sc__law_code.nd rfl rfl (sw_true rfl rfl rfl (by decide +kernel)) (pi_list (pv 4)) (blkOk_by (N := Ns__law_code) (sc := defScope s__law_code) (by decide +kernel)) (fun _ _ _ _ _ => (pg_name (i := 7) sc__law_code.nd rfl (Or.inl rfl))) (fun _ _ _ _ _ => pts_one (pt_cmpR op_ne (pv 7) pe_str (nomark _))) (fun _ _ _ _ _ => (pv 7))) (pss_cons (ps_if (pt_cmpR op_eq (pe_call (ok__law_next T) (hr.mono (by decide)) (by rfl) T._law_next.g T._law_next.Fu.kp T._law_next.b .nil (passes_call (takes_of rfl rfl rfl rfl) (fun _ _ _ _ h => h)) (pa_cons (pv 0) (pa_cons pe_int pa_nil))) pe_int (nomark _)) (pss_cons (ps_setLc (i := 3) (own := [("_law_word_here", 7)]) (g := (gName 7)) (tt := tYes) (te := (TyL.tRevS (tVar 7))) rfl sc__law_code.nd rfl rfl (sw_true rfl rfl rfl (by decide +kernel)) (pi_list (pv 3)) (blkOk_by (N := Ns__law_code) (sc := defScope s__law_code) (by decide +kernel)) (fun _ _ _ _ _ => (pg_name (i := 7) sc__law_code.nd rfl (Or.inl rfl))) (fun _ _ _ _ _ => pts_nil) (fun _ _ _ _ _ => (TyL.pe_revS (pv 7)))) pss_nil) pss_nil) pss_nil)))) pss_nil) (pss_cons (ps_for (passes_of rfl) rfl (pi_range1 (by rfl) T.z_range (pa_cons (pe_op op_add (pe_call (ok__law_next T) (hr.mono (by decide)) (by rfl) T._law_next.g T._law_next.Fu.kp T._law_next.b .nil (passes_call (takes_of rfl rfl rfl rfl) (fun _ _ _ _ h => h)) (pa_cons (pv 0) (pa_cons (pv 1) pa_nil))) (pe_callTy call_int1 (by rfl) T.z_int bt_int (pa_cons (pe_cmpR (op_eqD hr.units) (pv 3) (pe_lst pa_nil) (nomark _)) pa_nil))) pa_nil)) (pg_name (i := 5) sc__law_code.nd rfl (Or.inl rfl)) (pss_cons (ps_set (i := 7) sc__law_code.nd rfl (Or.inl rfl) (pe_call (ok__law_word T) (hr.mono (by decide)) (by rfl) T._law_word.g T._law_word.Fu.kp T._law_word.b .nil (passes_call (takes_of rfl rfl rfl rfl) (fun _ _ _ _ h => h)) (pa_cons (pv 0) (pa_cons (pv 2) (pa_cons (pe_ifExp (pt_cmpR op_eq (pe_call (ok__law_next T) (hr.mono (by decide)) (by rfl) T._law_next.g T._law_next.Fu.kp T._law_next.b .nil (passes_call (takes_of rfl rfl rfl rfl) (fun _ _ _ _ h => h)) (pa_cons (pv 0) (pa_cons pe_int pa_nil))) pe_int (nomark _)) pe_int pe_int) pa_nil))))) (pss_cons (ps_if ((pw_and (pt_cmpR op_notIn_seq (pv 7) (pv 3) (by rfl)) (pw_and1 (pt_cmpR op_lt (pe_callB call_len_seq (by rfl) T.z_len PySem.boot_len (pa_cons (pv 3) pa_nil)) pe_int (nomark _))))).pt (pss_cons (ps_expr (pe_bm PySem.F.plainAttrs_list PySem.F.slot_list_insert PySem.F.type_list_insert mt_insert (pv 3) (pa_cons (pe_call (ok__law_next T) (hr.mono (by decide)) (by rfl) T._law_next.g T._law_next.Fu.kp T._law_next.b .nil (passes_call (takes_of rfl rfl rfl rfl) (fun _ _ _ _ h => h)) (pa_cons (pv 0) (pa_cons (pe_op op_add (pe_callB call_len_seq (by rfl) T.z_len PySem.boot_len (pa_cons (pv 3) pa_nil)) pe_int) pa_nil))) (pa_cons (pv 7) pa_nil)))) pss_nil) pss_nil) pss_nil))) (pss_cons (ps_if ((pw_and (pt_cmpR op_gt (pe_callB call_len_seq (by rfl) T.z_len PySem.boot_len (pa_cons (pv 3) pa_nil)) pe_int (nomark _)) (pw_and1 (pt_cmpR op_eq (pe_call (ok__law_next T) (hr.mono (by decide)) (by rfl) T._law_next.g T._law_next.Fu.kp T._law_next.b .nil (passes_call (takes_of rfl rfl rfl rfl) (fun _ _ _ _ h => h)) (pa_cons (pv 0) (pa_cons pe_int pa_nil))) pe_int (nomark _))))).pt (pss_cons (ps_expr (pe_bm PySem.F.plainAttrs_list PySem.F.slot_list_pop PySem.F.type_list_pop mt_popAt (pv 3) (pa_cons (pe_call (ok__law_next T) (hr.mono (by decide)) (by rfl) T._law_next.g T._law_next.Fu.kp T._law_next.b .nil (passes_call (takes_of rfl rfl rfl rfl) (fun _ _ _ _ h => h)) (pa_cons (pv 0) (pa_cons (pe_callB call_len_seq (by rfl) T.z_len PySem.boot_len (pa_cons (pv 3) pa_nil)) pa_nil))) pa_nil))) pss_nil) pss_nil) (pss_cons (ps_ret (pe_lst (pa_cons (pv 2) (pa_cons (pe_callTy call_tuple_of (by rfl) T.z_tuple bt_tuple (pa_cons (pv 3) pa_nil)) pa_nil)))) pss_nil)))))),
  fun x => (sv_asg (α := Int) (ev_op (α := Int) (β := Int) ev_int (ev_intB (ev_op (α := Int) (β := Int) (ev_callS1 rfl ev_int) ev_int opv_eq)) opv_I0) fun v7 => (sv_asgN (evn_lst evl_nil) fun v9 => (sv_if (Γi := fun (b14 : ((List Tx))) => [.src, @Ent.per G Int _ x.1, @Ent.per G Int _ v7, @Ent.lst G Tx _ b14, .dead, .dead, .dead, .dead, .dead]) (tv_test (ev_op (α := Int) (β := Int) (ev_callS1 rfl ev_int) ev_int opv_eq)) (sv_asg (α := (L Tx)) (ev_new (evn_lst (evl_cons (ev_str st_4) evl_nil))) fun v18 => (sv_for (Γi := fun (b21 : ((L Tx))) => [.src, @Ent.per G Int _ x.1, @Ent.per G Int _ v7, @Ent.lst G Tx _ (un v9), @Ent.per G (L Tx) _ b21, .dead, .dead, .dead, .dead]) (b0 := v18) (evi_rng1 (ev_callS1 rfl (ev_var rfl))) (wk_hs (wk_s (wk_s (wk_s (wk_s (wk_s (wk_d (wk_d (wk_d (wk_d wk_n)))))))))) (fun _ => trivial) (fun b21 a22 => gv_name) (fun b21 a22 => (sv_asg (α := Int) (ev_callS1 rfl (ev_lenL (ev_var rfl))) fun v25 => (sv_if (Γi := fun (b44 : ((L Tx))) => [.src, @Ent.per G Int _ x.1, @Ent.per G Int _ v7, @Ent.lst G Tx _ (un v9), @Ent.per G (L Tx) _ b44, @Ent.per G Int _ a22, @Ent.per G Int _ v25, .dead, .dead]) (tv_and (tv_test (ev_op (α := Int) (β := Int) (ev_lenS (ev_op (α := (L Tx)) (β := Int) (ev_var rfl) (ev_var rfl) opv_ixL)) ev_int opv_B0)) (tv_test (ev_op (α := Int) (β := Int) (ev_op (α := Int) (β := Int) (ev_op (α := Int) (β := Int) (ev_lenL (ev_var rfl)) (ev_var rfl) opv_I0) ev_int opv_I0) ev_int opv_B0))) (sv_asg (α := (L Tx)) (ev_new (evn_catL (ev_new (evn_catL (ev_new (evn_cutL (ev_var rfl) evo_none (evo_some (ev_var rfl)))) (ev_new (evn_map (evi_str (ev_slice (ev_str st_0) evo_none (evo_some (ev_var rfl)) slv_txt)) (no_own1 rfl rfl) trivial (fun O a54 => gc_name) (fun O a54 => (ev_op (α := Tx) (β := Tx) (ev_op (α := (L Tx)) (β := Int) (ev_var rfl) (ev_var rfl) opv_ixL) (ev_var rfl) opv_addS)) (fun _ => rfl))))) (ev_new (evn_cutL (ev_var rfl) (evo_some (ev_op (α := Int) (β := Int) (ev_var rfl) ev_int opv_I0)) evo_none)))) fun v71 => (sv_next (wk_hs (wk_s (wk_s (wk_s (wk_s (wk_s (wk_s (wk_s (wk_d (wk_d wk_n)))))))))))) (sv_next (wk_hs (wk_s (wk_s (wk_s (wk_s (wk_s (wk_s (wk_s (wk_d (wk_d wk_n))))))))))) fun b44 => (sv_next (wk_hs (wk_s (wk_s (wk_s (wk_s (wk_s (wk_d (wk_d (wk_d (wk_d wk_n)))))))))))))) (fun b21 => (sv_asgN (evn_lc (evi_lst (ev_var rfl)) (no_own1 rfl rfl) trivial (fun O a76 => gc_name) (fun O a76 => (tv_test (ev_op (α := Tx) (β := Tx) (ev_var rfl) (ev_str st_4) opv_ne))) (fun O a76 => (ev_var rfl)) (fun _ => rfl)) fun v80 => (sv_if (Γi := fun (b85 : ((List Tx))) => [.src, @Ent.per G Int _ x.1, @Ent.per G Int _ v7, @Ent.lst G Tx _ b85, @Ent.per G (L Tx) _ b21, .dead, .dead, .dead, .dead]) (tv_test (ev_op (α := Int) (β := Int) (ev_callS1 rfl ev_int) ev_int opv_eq)) (sv_freeze 3 (hO_src _ _ _ _ _) rfl (sv_asgN (evn_map (evi_lst (ev_var rfl)) (no_own1 rfl rfl) trivial (fun O a89 => gc_name) (fun O a89 => (ev_revS (ev_var rfl))) (fun _ => rfl)) fun v92 => (sv_next (wk_hs (wk_s (wk_s (wk_s (wk_s (wk_s (wk_d (wk_d (wk_d (wk_d wk_n))))))))))))) (sv_next (wk_hs (wk_s (wk_s (wk_s (wk_s (wk_s (wk_d (wk_d (wk_d (wk_d wk_n))))))))))) fun b85 => (sv_next (wk_hs (wk_s (wk_s (wk_s (wk_s (wk_d (wk_d (wk_d (wk_d (wk_d wk_n)))))))))))))))) (sv_next (wk_hs (wk_s (wk_s (wk_s (wk_s (wk_d (wk_d (wk_d (wk_d (wk_d wk_n))))))))))) fun b14 => (sv_for (Γi := fun (b102 : ((List Tx))) => [.src, @Ent.per G Int _ x.1, @Ent.per G Int _ v7, @Ent.lst G Tx _ b102, .dead, .dead, .dead, .dead, .dead]) (b0 := b14) (evi_rng1 (ev_op (α := Int) (β := Int) (ev_callS1 rfl (ev_var rfl)) (ev_intB (ev_borrow 3 (hO_src _ _ _ _ _) rfl fun O => (ev_op (α := (L Tx)) (β := (L Tx)) (ev_var rfl) (ev_new (evn_lst evl_nil)) (opv_eqD (α := (L Tx)) (β := (L Tx)))))) opv_I0)) (wk_hs (wk_s (wk_s (wk_s (wk_s (wk_d (wk_d (wk_d (wk_d (wk_d wk_n)))))))))) (fun _ => trivial) (fun b102 a103 => gv_name) (fun b102 a103 => (sv_asg (α := Tx) (ev_callS2 rfl (ev_var rfl) (ev_if (tv_test (ev_op (α := Int) (β := Int) (ev_callS1 rfl ev_int) ev_int opv_eq)) ev_int ev_int)) fun v110 => (sv_if (Γi := fun (b118 : ((List Tx))) => [.src, @Ent.per G Int _ x.1, @Ent.per G Int _ v7, @Ent.lst G Tx _ b118, .dead, @Ent.per G Int _ a103, .dead, @Ent.per G Tx _ v110, .dead]) (tv_and (tv_borrow 3 (hO_src _ _ _ _ _) rfl fun O => (tv_test (ev_op (α := Tx) (β := (L Tx)) (ev_var rfl) (ev_var rfl) opv_ninL))) (tv_test (ev_op (α := Int) (β := Int) (ev_borrow 3 (hO_src _ _ _ _ _) rfl fun O => (ev_lenL (ev_var rfl))) ev_int opv_B0))) (sv_insert (hO_src _ _ _ _ _) rfl (ev_callS1 rfl (ev_op (α := Int) (β := Int) (ev_borrow 3 (hO_src _ _ _ _ _) rfl fun O => (ev_lenL (ev_var rfl))) ev_int opv_I0)) (ev_var rfl) fun j123 v124 => (sv_next (wk_hs (wk_s (wk_s (wk_s (wk_s (wk_d (wk_s (wk_d (wk_s (wk_d wk_n)))))))))))) (sv_next (wk_hs (wk_s (wk_s (wk_s (wk_s (wk_d (wk_s (wk_d (wk_s (wk_d wk_n))))))))))) fun b118 => (sv_next (wk_hs (wk_s (wk_s (wk_s (wk_s (wk_d (wk_d (wk_d (wk_d (wk_d wk_n)))))))))))))) (fun b102 => (sv_if (Γi := fun (b133 : ((List Tx))) => [.src, @Ent.per G Int _ x.1, @Ent.per G Int _ v7, @Ent.lst G Tx _ b133, .dead, .dead, .dead, .dead, .dead]) (tv_and (tv_test (ev_op (α := Int) (β := Int) (ev_borrow 3 (hO_src _ _ _ _ _) rfl fun O => (ev_lenL (ev_var rfl))) ev_int opv_B0)) (tv_test (ev_op (α := Int) (β := Int) (ev_callS1 rfl ev_int) ev_int opv_eq))) (sv_popAtD (hO_src _ _ _ _ _) rfl (ev_callS1 rfl (ev_borrow 3 (hO_src _ _ _ _ _) rfl fun O => (ev_lenL (ev_var rfl)))) fun j136 => (sv_next (wk_hs (wk_s (wk_s (wk_s (wk_s (wk_d (wk_d (wk_d (wk_d (wk_d wk_n)))))))))))) (sv_next (wk_hs (wk_s (wk_s (wk_s (wk_s (wk_d (wk_d (wk_d (wk_d (wk_d wk_n))))))))))) fun b133 => (sv_freeze 3 (hO_src _ _ _ _ _) rfl (sv_ret (ev_mkl (ev_var rfl) (ev_tupleL (ev_var rfl)))))))))))⟩
theorem ok__law_row (T : Txt G mg) : FnOk G.P G.w G.K mg base (L2.CX G.P G.w) 2 T._law_row.f T._law_row.fd ["_law_h", "_law_t", "_law_high"] (SpS2 G (L2v Int (List Tx)) Int m__law_row) :=
  fn_okS T._law_row.Fu sc__law_row (fun x => [.src, .per x.1, .per x.2.1, .dead]) (fun a vs F ⟨v0, _, e0, r0, ⟨v1, _, e1, r1, ee⟩⟩ => by rw [e0, e1, ee]; rfl) (fun a vs F H N p c hS ⟨v0, _, e0, r0, ⟨v1, _, e1, r1, ee⟩⟩ => by rw [e0, e1, ee]; exact ⟨⟨p, c, rfl, hS⟩, ⟨v0, rfl, r0⟩, ⟨v1, rfl, r1⟩, trivial, trivial⟩) (fun x => (own_c rfl (own_c rfl (own_c rfl (own_c rfl own_n))))) fun cdv A outer s H F p c E hr =>
  ⟨_, (pss_cons (ps_ret (pe_callTy call_tuple_of (by rfl) T.z_tuple bt_tuple (pa_cons (pe_lc (own := [("_law_k", 3)]) (g := (gName 3)) (tt := tYes) (te := (tCall (SpS1 G Int m__law_next) [] E0 (tCons (tVar 0) (tCons (tCB (fun xs H Q => ∃ p ys, xs = [.ref p] ∧ (SqL G.K H p ys ∨ SqT G.K H p ys) ∧ Q (.int ys.length) H) (tCons (tOp (rIxL G.K) (tVar 1) (tC (.int 1))) tNil)) tNil)))) rfl sc__law_row.nd (pi_range1 (by rfl) T.z_range (pa_cons (pe_call (ok__law_next T) (hr.mono (by decide)) (by rfl) T._law_next.g T._law_next.Fu.kp T._law_next.b .nil (passes_call (takes_of rfl rfl rfl rfl) (fun _ _ _ _ h => h)) (pa_cons (pv 0) (pa_cons (pe_op op_add (pv 2) pe_int) pa_nil))) pa_nil)) (blkOk_by (N := Ns__law_row) (sc := defScope s__law_row) (by decide +kernel)) (fun _ _ _ _ _ => (pg_name (i := 3) sc__law_row.nd rfl (Or.inl rfl))) (fun _ _ _ _ _ => pts_nil) (fun _ _ _ _ _ => (pe_call (ok__law_next T) (hr.mono (by decide)) (by rfl) T._law_next.g T._law_next.Fu.kp T._law_next.b .nil passL (pa_cons (pv 0) (pa_cons (pe_callB call_len_seq (by rfl) T.z_len PySem.boot_len (pa_cons (pe_ix ix_list (pv 1) pe_int (fun _ _ => rfl)) pa_nil)) pa_nil))))) pa_nil))) pss_nil),
  fun x => (sv_ret (ev_tupleL (ev_new (evn_mapE (evi_rng1 (ev_callS1 rfl (ev_op (α := Int) (β := Int) (ev_var rfl) ev_int opv_I0))) (no_own1 rfl rfl) trivial (fun O a5 => gc_name) (fun O a5 => (ev_callS1 rfl (ev_lenT (ev_l2 (ev_var rfl))))) (fun _ => rfl)))))⟩
theorem ok__law_built (T : Txt G mg) : FnOk G.P G.w G.K mg base (L2.CX G.P G.w) 6 T._law_built.f T._law_built.fd ["_law_t"] (SpF1 G (L2v Int (List Tx)) m__law_built) :=
  fn_ok T._law_built.Fu sc__law_built (fun x => [.per x.1]) (fun a vs F ⟨v0, _, e0, r0, ee⟩ => by rw [e0, ee]; rfl) (fun a vs F H N ⟨v0, _, e0, r0, ee⟩ => by rw [e0, ee]; exact ⟨⟨v0, rfl, r0⟩, trivial⟩) (fun x => (own_c rfl own_n)) fun cdv A outer s H F E hr =>
  ⟨_, (pss_cons (ps_ret (pe_make T.Code___init__.mki (ok_Code___init__ T) (hr.mono (by decide)) (by rfl) T.Code.g T.Code___init__.b .nil (passes_call (takes_of rfl rfl rfl rfl) (fun _ _ _ _ h => h)) (pa_cons (pe_ix ix_list (pv 0) pe_int (fun _ _ => rfl)) (pa_cons (pe_ix ix_list (pv 0) pe_int (fun _ _ => rfl)) pa_nil)))) pss_nil),
  fun x => (sv_ret (ev_make (ev_l1 (ev_var rfl)) (ev_l2 (ev_var rfl))))⟩
theorem ok__law_text (T : Txt G mg) : FnOk G.P G.w G.K mg base (L2.CX G.P G.w) 1 T._law_text.f T._law_text.fd ["_law_t", "_law_row_here"] (SpF2 G (L2v Int (List Tx)) (List Int) m__law_text) :=
  fn_ok T._law_text.Fu sc__law_text (fun x => [.per x.1, .per x.2.1, .dead]) (fun a vs F ⟨v0, _, e0, r0, ⟨v1, _, e1, r1, ee⟩⟩ => by rw [e0, e1, ee]; rfl) (fun a vs F H N ⟨v0, _, e0, r0, ⟨v1, _, e1, r1, ee⟩⟩ => by rw [e0, e1, ee]; exact ⟨⟨v0, rfl, r0⟩, ⟨v1, rfl, r1⟩, trivial, trivial⟩) (fun x => (own_c rfl (own_c rfl (own_c rfl own_n)))) fun cdv A outer s H F E hr =>
  ⟨_, (pss_cons (ps_ret (pe_join pe_str (pe_lc (own := [("_law_k", 2)]) (g := (gName 2)) (tt := tYes) (te := (tOp (rIxT G.K) (tOp (rIxL G.K) (tVar 0) (tC (.int 1))) (tVar 2))) rfl sc__law_text.nd (pi_tup (pv 1)) (blkOk_by (N := Ns__law_text) (sc := defScope s__law_text) (by decide +kernel)) (fun _ _ _ _ _ => (pg_name (i := 2) sc__law_text.nd rfl (Or.inl rfl))) (fun _ _ _ _ _ => pts_nil) (fun _ _ _ _ _ => (pe_ix ix_tup (pe_ix ix_list (pv 0) pe_int (fun _ _ => rfl)) (pv 2) (fun _ _ => rfl)))))) pss_nil),
  fun x => (sv_ret (ev_join (ev_str st_4) (ev_new (evn_map (evi_tup (ev_var rfl)) (no_own1 rfl rfl) trivial (fun O a1 => gc_name) (fun O a1 => (ev_op (α := (List Tx)) (β := Int) (ev_l2 (ev_var rfl)) (ev_var rfl) opv_ixT)) (fun _ => rfl)))))⟩
theorem ok__law_take (T : Txt G mg) : FnOk G.P G.w G.K mg base (L2.CX G.P G.w) 1 T._law_take.f T._law_take.fd ["_law_t", "_law_string", "_law_way", "_law_is_end"] (SpF4 G (L2v Int (List Tx)) Tx Tx Bool m__law_take) :=
  fn_ok T._law_take.Fu sc__law_take (fun x => [.per x.1, .per x.2.1, .per x.2.2.1, .per x.2.2.2.1, .dead, .dead, .dead, .dead]) (fun a vs F ⟨v0, _, e0, r0, ⟨v1, _, e1, r1, ⟨v2, _, e2, r2, ⟨v3, _, e3, r3, ee⟩⟩⟩⟩ => by rw [e0, e1, e2, e3, ee]; rfl) (fun a vs F H N ⟨v0, _, e0, r0, ⟨v1, _, e1, r1, ⟨v2, _, e2, r2, ⟨v3, _, e3, r3, ee⟩⟩⟩⟩ => by rw [e0, e1, e2, e3, ee]; exact ⟨⟨v0, rfl, r0⟩, ⟨v1, rfl, r1⟩, ⟨v2, rfl, r2⟩, ⟨v3, rfl, r3⟩, trivial, trivial, trivial, trivial, trivial⟩) (fun x => (own_c rfl (own_c rfl (own_c rfl (own_c rfl (own_c rfl (own_c rfl (own_c rfl (own_c rfl own_n))))))))) fun cdv A outer s H F E hr =>
  ⟨_, (pss_cons (ps_set (i := 4) sc__law_take.nd rfl (Or.inl rfl) (pe_lst pa_nil)) (pss_cons (ps_for (passes_of rfl) rfl (pi_range1 (by rfl) T.z_range (pa_cons (pe_callB call_len_seq (by rfl) T.z_len PySem.boot_len (pa_cons (pe_ix ix_list (pv 0) pe_int (fun _ _ => rfl)) pa_nil)) pa_nil)) (pg_name (i := 5) sc__law_take.nd rfl (Or.inl rfl)) (pss_cons (ps_set (i := 6) sc__law_take.nd rfl (Or.inl rfl) (pe_ix ix_tup (pe_ix ix_list (pv 0) pe_int (fun _ _ => rfl)) (pv 5) (fun _ _ => rfl))) (pss_cons (ps_if ((pw_or ((pw_and (pt_val (pv 3)) (pw_and1 (pt_cmpR op_eq (pe_slice sl_str (pv 1) (po_some (pe_callB (call_max2 rfl) (by rfl) T.z_max bb_max (pa_cons (pe_op op_sub (pe_callB call_len_str (by rfl) T.z_len PySem.boot_len (pa_cons (pv 1) pa_nil)) (pe_callB call_len_str (by rfl) T.z_len PySem.boot_len (pa_cons (pv 6) pa_nil))) (pa_cons pe_int pa_nil)))) po_none) (pv 6) (nomark _))))).pt (pw_or1 ((pw_and (pt_not (pt_val (pv 3))) (pw_and1 (pt_cmpR op_eq (pe_slice sl_str (pv 1) po_none (po_some (pe_callB call_len_str (by rfl) T.z_len PySem.boot_len (pa_cons (pv 6) pa_nil)))) (pv 6) (nomark _))))).pt))).pt (pss_cons (ps_expr (pe_bm PySem.F.plainAttrs_list PySem.F.slot_list_append PySem.F.type_list_append mt_append (pv 4) (pa_cons (pv 5) pa_nil))) pss_nil) pss_nil) pss_nil))) (pss_cons (ps_if (pt_cmpR (op_eqD hr.units) (pv 4) (pe_lst pa_nil) (nomark _)) (pss_cons (ps_ret pe_non) pss_nil) pss_nil) (pss_cons (ps_setLc (i := 7) (own := [("_law_k", 5)]) (g := (gName 5)) (tt := tYes) (te := (tCB (fun xs H Q => ∃ z, xs = [.str z] ∧ z.length ≤ sizeLine ∧ Q (.int z.length) H) (tCons (tOp (rIxT G.K) (tOp (rIxL G.K) (tVar 0) (tC (.int 1))) (tVar 5)) tNil))) rfl sc__law_take.nd rfl rfl (sw_true rfl rfl rfl (by decide +kernel)) (pi_list (pv 4)) (blkOk_by (N := Ns__law_take) (sc := defScope s__law_take) (by decide +kernel)) (fun _ _ _ _ _ => (pg_name (i := 5) sc__law_take.nd rfl (Or.inl rfl))) (fun _ _ _ _ _ => pts_nil) (fun _ _ _ _ _ => (pe_callB call_len_str (by rfl) T.z_len PySem.boot_len (pa_cons (pe_ix ix_tup (pe_ix ix_list (pv 0) pe_int (fun _ _ => rfl)) (pv 5) (fun _ _ => rfl)) pa_nil)))) (pss_cons (ps_if (pt_cmpR op_eq (pv 2) pe_str (nomark _)) (pss_cons (ps_ret (pe_ix ix_list (pv 4) (pe_bm PySem.F.plainAttrs_list PySem.F.slot_list_index PySem.F.type_list_index mt_index (pv 7) (pa_cons (pe_callB (cr_max rfl) (by rfl) T.z_max bb_max (pa_cons (pv 7) pa_nil)) pa_nil)) (fun _ _ => rfl))) pss_nil) pss_nil) (pss_cons (ps_ret (pe_ifExp (pt_cmpR op_eq (pv 2) pe_str (nomark _)) (pe_ix ix_list (pv 4) pe_int (fun _ _ => rfl)) (pe_ix ix_list (pv 4) (pe_bm PySem.F.plainAttrs_list PySem.F.slot_list_index PySem.F.type_list_index mt_index (pv 7) (pa_cons (pe_callB (cr_min rfl) (by rfl) T.z_min bb_min (pa_cons (pv 7) pa_nil)) pa_nil)) (fun _ _ => rfl)))) pss_nil)))))),
  fun x => (sv_asgN (evn_lst evl_nil) fun v2 => (sv_for (Γi := fun (b7 : ((List Int))) => [@Ent.per G (L2v Int (List Tx)) _ x.1, @Ent.per G Tx _ x.2.1, @Ent.per G Tx _ x.2.2.1, @Ent.per G Bool _ x.2.2.2.1, @Ent.lst G Int _ b7, .dead, .dead, .dead]) (b0 := (un v2)) (evi_rng1 (ev_lenT (ev_l2 (ev_var rfl)))) (wk_hs (wk_s (wk_s (wk_s (wk_s (wk_s (wk_d (wk_d (wk_d wk_n))))))))) (fun _ => trivial) (fun b7 a8 => gv_name) (fun b7 a8 => (sv_asg (α := Tx) (ev_op (α := (List Tx)) (β := Int) (ev_l2 (ev_var rfl)) (ev_var rfl) opv_ixT) fun v13 => (sv_if (Γi := fun (b38 : ((List Int))) => [@Ent.per G (L2v Int (List Tx)) _ x.1, @Ent.per G Tx _ x.2.1, @Ent.per G Tx _ x.2.2.1, @Ent.per G Bool _ x.2.2.2.1, @Ent.lst G Int _ b38, @Ent.per G Int _ a8, @Ent.per G Tx _ v13, .dead]) (tv_or (tv_and (tv_B (ev_var rfl)) (tv_test (ev_op (α := Tx) (β := Tx) (ev_slice (ev_var rfl) (evo_some (ev_max2 (ev_op (α := Int) (β := Int) (ev_lenS (ev_var rfl)) (ev_lenS (ev_var rfl)) opv_I0) ev_int)) evo_none slv_txt) (ev_var rfl) opv_eq))) (tv_and (tv_not (tv_B (ev_var rfl))) (tv_test (ev_op (α := Tx) (β := Tx) (ev_slice (ev_var rfl) evo_none (evo_some (ev_lenS (ev_var rfl))) slv_txt) (ev_var rfl) opv_eq)))) (sv_append (hO_of _ _ _) rfl (ev_var rfl) fun v39 => (sv_next (wk_hs (wk_s (wk_s (wk_s (wk_s (wk_s (wk_s (wk_s (wk_d wk_n))))))))))) (sv_next (wk_hs (wk_s (wk_s (wk_s (wk_s (wk_s (wk_s (wk_s (wk_d wk_n)))))))))) fun b38 => (sv_next (wk_hs (wk_s (wk_s (wk_s (wk_s (wk_s (wk_d (wk_d (wk_d wk_n))))))))))))) (fun b7 => (sv_ifret jr_ret (tv_borrow 4 (hO_of _ _ _) rfl fun O => (tv_test (ev_op (α := (L Int)) (β := (L Int)) (ev_var rfl) (ev_new (evn_lst evl_nil)) (opv_eqD (α := (L Int)) (β := (L Int)))))) (sv_ret ev_non) (sv_freeze 4 (hO_of _ _ _) rfl (sv_asg (α := (L Int)) (ev_new (evn_map (evi_lst (ev_var rfl)) (no_own1 rfl rfl) trivial (fun O a55 => gc_name) (fun O a55 => (ev_lenS (ev_op (α := (List Tx)) (β := Int) (ev_l2 (ev_var rfl)) (ev_var rfl) opv_ixT))) (fun _ => rfl))) fun v66 => (sv_ifret jr_ret (tv_test (ev_op (α := Tx) (β := Tx) (ev_var rfl) (ev_str st_2) opv_eq)) (sv_ret (ev_some (ev_op (α := (L Int)) (β := Int) (ev_var rfl) (ev_indexL (ev_var rfl) (ev_maxL (ev_var rfl))) opv_ixL))) (sv_ret (ev_if (tv_test (ev_op (α := Tx) (β := Tx) (ev_var rfl) (ev_str st_1) opv_eq)) (ev_some (ev_op (α := (L Int)) (β := Int) (ev_var rfl) ev_int opv_ixL)) (ev_some (ev_op (α := (L Int)) (β := Int) (ev_var rfl) (ev_indexL (ev_var rfl) (ev_minL (ev_var rfl))) opv_ixL)))))))))))⟩
theorem ok__law_read (T : Txt G mg) : FnOk G.P G.w G.K mg base (L2.CX G.P G.w) 2 T._law_read.f T._law_read.fd ["_law_t", "_law_string", "_law_way", "_law_side"] (SpF4 G (L2v Int (List Tx)) Tx Tx Tx m__law_read) :=
  fn_ok T._law_read.Fu sc__law_read (fun x => [.per x.1, .per x.2.1, .per x.2.2.1, .per x.2.2.2.1, .dead, .dead, .dead]) (fun a vs F ⟨v0, _, e0, r0, ⟨v1, _, e1, r1, ⟨v2, _, e2, r2, ⟨v3, _, e3, r3, ee⟩⟩⟩⟩ => by rw [e0, e1, e2, e3, ee]; rfl) (fun a vs F H N ⟨v0, _, e0, r0, ⟨v1, _, e1, r1, ⟨v2, _, e2, r2, ⟨v3, _, e3, r3, ee⟩⟩⟩⟩ => by rw [e0, e1, e2, e3, ee]; exact ⟨⟨v0, rfl, r0⟩, ⟨v1, rfl, r1⟩, ⟨v2, rfl, r2⟩, ⟨v3, rfl, r3⟩, trivial, trivial, trivial, trivial⟩) (fun x => (own_c rfl (own_c rfl (own_c rfl (own_c rfl (own_c rfl (own_c rfl (own_c rfl own_n)))))))) fun cdv A outer s H F E hr =>
  ⟨_, (pss_cons (ps_par (i := 4) (j := 5) rfl sc__law_read.nd rfl rfl (by decide) rfl rfl (pa_cons (pe_tup pa_nil) (pa_cons (pv 1) pa_nil)) (by rfl)) (pss_cons (ps_set (i := 6) sc__law_read.nd rfl (Or.inl rfl) (pe_call (ok__law_take T) (hr.mono (by decide)) (by rfl) T._law_take.g T._law_take.Fu.kp T._law_take.b .nil (passes_call (takes_of rfl rfl rfl rfl) (fun _ _ _ _ h => h)) (pa_cons (pv 0) (pa_cons (pv 5) (pa_cons (pv 2) (pa_cons (pe_cmpR op_eq (pv 3) pe_str (nomark _)) pa_nil)))))) (pss_cons (ps_while (passes_of rfl) (pt_cmpR op_notN (pv 6) pe_non (nomark _)) (pss_cons (ps_if (pt_cmpR op_eq (pv 3) pe_str (nomark _)) (pss_cons (ps_par (i := 4) (j := 5) rfl sc__law_read.nd rfl rfl (by decide) rfl rfl (pa_cons (pe_op op_catA (pe_tup (pa_cons (pv 6) pa_nil)) (pv 4)) (pa_cons (pe_slice sl_str (pv 5) po_none (po_some (pe_op op_sub (pe_callB call_len_str (by rfl) T.z_len PySem.boot_len (pa_cons (pv 5) pa_nil)) (pe_callB call_len_str (by rfl) T.z_len PySem.boot_len (pa_cons (pe_ix ix_tup (pe_ix ix_list (pv 0) pe_int (fun _ _ => rfl)) (pv 6) (fun _ _ => rfl)) pa_nil))))) pa_nil)) (by rfl)) pss_nil) (pss_cons (ps_par (i := 4) (j := 5) rfl sc__law_read.nd rfl rfl (by decide) rfl rfl (pa_cons (pe_op op_catA (pv 4) (pe_tup (pa_cons (pv 6) pa_nil))) (pa_cons (pe_slice sl_str (pv 5) (po_some (pe_callB call_len_str (by rfl) T.z_len PySem.boot_len (pa_cons (pe_ix ix_tup (pe_ix ix_list (pv 0) pe_int (fun _ _ => rfl)) (pv 6) (fun _ _ => rfl)) pa_nil))) po_none) pa_nil)) (by rfl)) pss_nil)) (pss_cons (ps_set (i := 6) sc__law_read.nd rfl (Or.inl rfl) (pe_call (ok__law_take T) (hr.mono (by decide)) (by rfl) T._law_take.g T._law_take.Fu.kp T._law_take.b .nil (passes_call (takes_of rfl rfl rfl rfl) (fun _ _ _ _ h => h)) (pa_cons (pv 0) (pa_cons (pv 5) (pa_cons (pv 2) (pa_cons (pe_cmpR op_eq (pv 3) pe_str (nomark _)) pa_nil)))))) pss_nil))) (pss_cons (ps_ret (pe_tup (pa_cons (pv 4) (pa_cons (pe_op op_sub (pe_callB call_len_str (by rfl) T.z_len PySem.boot_len (pa_cons (pv 1) pa_nil)) (pe_callB call_len_str (by rfl) T.z_len PySem.boot_len (pa_cons (pv 5) pa_nil))) pa_nil)))) pss_nil)))),
  fun x => (sv_par (ev_tup evl_nil) (ev_var rfl) fun a2 a3 => (sv_asg (α := (Option Int)) (ev_call4 (ev_var rfl) (ev_var rfl) (ev_var rfl) (ev_op (α := Tx) (β := Tx) (ev_var rfl) (ev_str st_5) opv_eq)) fun v10 => (sv_while (Γi := fun (b11 : ((List Int) × Tx × (Option Int))) => [@Ent.per G (L2v Int (List Tx)) _ x.1, @Ent.per G Tx _ x.2.1, @Ent.per G Tx _ x.2.2.1, @Ent.per G Tx _ x.2.2.2.1, @Ent.per G (List Int) _ b11.1, @Ent.per G Tx _ b11.2.1, @Ent.per G (Option Int) _ b11.2.2]) (b0 := (a2, a3, v10)) (wk_hs (wk_s (wk_s (wk_s (wk_s (wk_s (wk_s (wk_s wk_n)))))))) (fun b11 => (tv_test (ev_notN (ev_var rfl)))) (fun b11 => (sv_if (Γi := fun (b16 : ((List Int) × Tx)) => [@Ent.per G (L2v Int (List Tx)) _ x.1, @Ent.per G Tx _ x.2.1, @Ent.per G Tx _ x.2.2.1, @Ent.per G Tx _ x.2.2.2.1, @Ent.per G (List Int) _ b16.1, @Ent.per G Tx _ b16.2, @Ent.per G (Option Int) _ b11.2.2]) (tv_test (ev_op (α := Tx) (β := Tx) (ev_var rfl) (ev_str st_5) opv_eq)) (sv_par (ev_op (α := (List Int)) (β := (List Int)) (ev_tup (evl_cons (ev_some_of (ev_var rfl)) evl_nil)) (ev_var rfl) opv_catT) (ev_slice (ev_var rfl) evo_none (evo_some (ev_op (α := Int) (β := Int) (ev_lenS (ev_var rfl)) (ev_lenS (ev_op (α := (List Tx)) (β := Int) (ev_l2 (ev_var rfl)) (ev_some_of (ev_var rfl)) opv_ixT)) opv_I0)) slv_txt) fun a38 a39 => (sv_next (wk_hs (wk_s (wk_s (wk_s (wk_s (wk_s (wk_s (wk_s wk_n)))))))))) (sv_par (ev_op (α := (List Int)) (β := (List Int)) (ev_var rfl) (ev_tup (evl_cons (ev_some_of (ev_var rfl)) evl_nil)) opv_catT) (ev_slice (ev_var rfl) (evo_some (ev_lenS (ev_op (α := (List Tx)) (β := Int) (ev_l2 (ev_var rfl)) (ev_some_of (ev_var rfl)) opv_ixT))) evo_none slv_txt) fun a58 a59 => (sv_next (wk_hs (wk_s (wk_s (wk_s (wk_s (wk_s (wk_s (wk_s wk_n)))))))))) fun b16 => (sv_asg (α := (Option Int)) (ev_call4 (ev_var rfl) (ev_var rfl) (ev_var rfl) (ev_op (α := Tx) (β := Tx) (ev_var rfl) (ev_str st_5) opv_eq)) fun v66 => (sv_next (wk_hs (wk_s (wk_s (wk_s (wk_s (wk_s (wk_s (wk_s wk_n)))))))))))) (fun b11 => (sv_ret (ev_mkp (ev_var rfl) (ev_op (α := Int) (β := Int) (ev_lenS (ev_var rfl)) (ev_lenS (ev_var rfl)) opv_I0)))))))⟩
theorem ok__law_refused (T : Txt G mg) : FnOk G.P G.w G.K mg base (L2.CX G.P G.w) 6 T._law_refused.f T._law_refused.fd ["_law_code_here", "_law_string", "_law_way", "_law_side"] (SpF4 G CodeV Tx PyData PyData m__law_refused) :=
  fn_ok T._law_refused.Fu sc__law_refused (fun x => [.per x.1, .per x.2.1, .per x.2.2.1, .per x.2.2.2.1, .dead]) (fun a vs F ⟨v0, _, e0, r0, ⟨v1, _, e1, r1, ⟨v2, _, e2, r2, ⟨v3, _, e3, r3, ee⟩⟩⟩⟩ => by rw [e0, e1, e2, e3, ee]; rfl) (fun a vs F H N ⟨v0, _, e0, r0, ⟨v1, _, e1, r1, ⟨v2, _, e2, r2, ⟨v3, _, e3, r3, ee⟩⟩⟩⟩ => by rw [e0, e1, e2, e3, ee]; exact ⟨⟨v0, rfl, r0⟩, ⟨v1, rfl, r1⟩, ⟨v2, rfl, r2⟩, ⟨v3, rfl, r3⟩, trivial, trivial⟩) (fun x => (own_c rfl (own_c rfl (own_c rfl (own_c rfl (own_c rfl own_n)))))) fun cdv A outer s H F E hr =>
  ⟨_, (pss_cons (ps_set (i := 4) sc__law_refused.nd rfl (Or.inl rfl) pe_non) (pss_cons (ps_try_many (tb := fun W => tSeq (tDrop (tCallSD (SpF4 G CodeV Tx PyData PyData m_read_err) [] (WE W) (tCons (tVar 0) (tCons (tVar 1) (tCons (tVar 2) (tCons (tVar 3) tNil)))))) tNext) (Wout := fun cl d _ H => E cl d H) rfl rfl (takes_of rfl rfl rfl rfl) (fun W pn xe tk _ => pss_cons (ps_expr (pe_callSD (ok_read_err T) (hr.mono (by decide)) (by rfl) T.read.g T.read.Fu.kp T.read.b .nil (fun σ => passAt tk σ) (pa_cons (pv 0) (pa_cons (pv 1) (pa_cons (pv 2) (pa_cons (pv 3) pa_nil)))))) pss_nil) (HdsOk.cons ⟨rfl, by decide, .inl T.x_InvalidString.g⟩ (fun a oe cls d pn hz hf => (pss_cons (ps_set (i := 4) sc__law_refused.nd rfl (Or.inl rfl) pe_str) pss_nil)) (HdsOk.cons ⟨rfl, by decide, .inl T.x_InvalidWay.g⟩ (fun a oe cls d pn hz hf => (pss_cons (ps_set (i := 4) sc__law_refused.nd rfl (Or.inl rfl) pe_str) pss_nil)) HdsOk.nil))) (pss_cons (ps_ret (pv 4)) pss_nil))),
  fun x => (sv_asg (α := (Option Tx)) ev_non fun v1 => (sv_try (te := (fun E1 => tCall (SpF4 G CodeV Tx PyData PyData m_read_err) [] E1 (tCons (tVar 0) (tCons (tVar 1) (tCons (tVar 2) (tCons (tVar 3) tNil)))))) (l := [Hd.mk "InvalidString" (((Prog.ok ([115, 116, 114, 105, 110, 103] : Tx)) >>= fun a => Prog.ok (some a)) >>= fun (v7 : (Option Tx)) => (Prog.ok v7 : Prog ((Option Tx)))) _, Hd.mk "InvalidWay" (((Prog.ok ([119, 97, 121] : Tx)) >>= fun a => Prog.ok (some a)) >>= fun (v8 : (Option Tx)) => (Prog.ok v8 : Prog ((Option Tx)))) _]) (known := ["InvalidString", "InvalidWay"]) (Γi := fun (b2 : ((Option Tx))) => [@Ent.per G CodeV _ x.1, @Ent.per G Tx _ x.2.1, @Ent.per G PyData _ x.2.2.1, @Ent.per G PyData _ x.2.2.2.1, @Ent.per G (Option Tx) _ b2]) (b0 := v1) ⟨trivial, ⟨trivial, ⟨trivial, ⟨trivial, ⟨trivial, trivial⟩⟩⟩⟩⟩ (fun N1 hN => ev_call4 (ev_var rfl) (ev_var rfl) (ev_var rfl) (ev_var rfl)) (wk_hs (wk_s (wk_s (wk_s (wk_s (wk_s wk_n)))))) (List.forall_mem_cons.2 ⟨fun a cls d => (sv_asg (α := (Option Tx)) (ev_some (ev_str st_6)) fun v7 => (sv_next (wk_hs (wk_s (wk_s (wk_s (wk_s (wk_s wk_n)))))))), (List.forall_mem_cons.2 ⟨fun a cls d => (sv_asg (α := (Option Tx)) (ev_some (ev_str st_7)) fun v8 => (sv_next (wk_hs (wk_s (wk_s (wk_s (wk_s (wk_s wk_n)))))))), (fun h hm => by cases hm)⟩)⟩) (fun y => (List.forall_mem_cons.2 ⟨(fun y hy => by rcases hy with hy | hy; (· subst hy; exact T.xm_InvalidString_InvalidString); (· simp only [List.mem_cons, List.not_mem_nil, or_false] at hy; rcases hy with rfl | rfl; exact T.xm_InvalidString_InvalidString; exact T.xm_InvalidWay_InvalidString)) y, (List.forall_mem_cons.2 ⟨(fun y hy => by rcases hy with hy | hy; (· subst hy; exact T.xm_InvalidWay_InvalidWay); (· simp only [List.mem_cons, List.not_mem_nil, or_false] at hy; rcases hy with rfl | rfl; exact T.xm_InvalidString_InvalidWay; exact T.xm_InvalidWay_InvalidWay)) y, (fun h hm => by cases hm)⟩)⟩)) fun b2 => (sv_ret (ev_var rfl))))⟩
theorem ok__law_barred (T : Txt G mg) : FnOk G.P G.w G.K mg base (L2.CX G.P G.w) 3 T._law_barred.f T._law_barred.fd ["_law_code_here", "_law_way", "_law_side"] (SpF3 G CodeV PyData PyData m__law_barred) :=
  fn_ok T._law_barred.Fu sc__law_barred (fun x => [.per x.1, .per x.2.1, .per x.2.2.1, .dead]) (fun a vs F ⟨v0, _, e0, r0, ⟨v1, _, e1, r1, ⟨v2, _, e2, r2, ee⟩⟩⟩ => by rw [e0, e1, e2, ee]; rfl) (fun a vs F H N ⟨v0, _, e0, r0, ⟨v1, _, e1, r1, ⟨v2, _, e2, r2, ee⟩⟩⟩ => by rw [e0, e1, e2, ee]; exact ⟨⟨v0, rfl, r0⟩, ⟨v1, rfl, r1⟩, ⟨v2, rfl, r2⟩, trivial, trivial⟩) (fun x => (own_c rfl (own_c rfl (own_c rfl (own_c rfl own_n))))) fun cdv A outer s H F E hr =>
  ⟨_, (pss_cons (ps_set (i := 3) sc__law_barred.nd rfl (Or.inl rfl) pe_bl) (pss_cons (ps_try_many (tb := fun W => tSeq (tDrop (tCallSD (SpF3 G CodeV PyData PyData m_misread_err) [] (WE W) (tCons (tVar 0) (tCons (tVar 1) (tCons (tVar 2) tNil))))) tNext) (Wout := fun cl d _ H => E cl d H) rfl rfl (takes_of rfl rfl rfl rfl) (fun W pn xe tk _ => pss_cons (ps_expr (pe_callSD (ok_misread_err T) (hr.mono (by decide)) (by rfl) T.misread.g T.misread.Fu.kp T.misread.b .nil (fun σ => passAt tk σ) (pa_cons (pv 0) (pa_cons (pv 1) (pa_cons (pv 2) pa_nil))))) pss_nil) (HdsOk.cons ⟨rfl, by decide, .inl T.x_InvalidWay.g⟩ (fun a oe cls d pn hz hf => (pss_cons (ps_set (i := 3) sc__law_barred.nd rfl (Or.inl rfl) pe_bl) pss_nil)) HdsOk.nil)) (pss_cons (ps_ret (pv 3)) pss_nil))),
  fun x => (sv_asg (α := Bool) ev_bl fun v1 => (sv_try (te := (fun E1 => tCall (SpF3 G CodeV PyData PyData m_misread_err) [] E1 (tCons (tVar 0) (tCons (tVar 1) (tCons (tVar 2) tNil))))) (l := [Hd.mk "InvalidWay" ((Prog.ok true) >>= fun (v6 : Bool) => (Prog.ok v6 : Prog (Bool))) _]) (known := ["InvalidString", "InvalidWay"]) (Γi := fun (b2 : (Bool)) => [@Ent.per G CodeV _ x.1, @Ent.per G PyData _ x.2.1, @Ent.per G PyData _ x.2.2.1, @Ent.per G Bool _ b2]) (b0 := v1) ⟨trivial, ⟨trivial, ⟨trivial, ⟨trivial, trivial⟩⟩⟩⟩ (fun N1 hN => ev_call3 (ev_var rfl) (ev_var rfl) (ev_var rfl)) (wk_hs (wk_s (wk_s (wk_s (wk_s wk_n))))) (List.forall_mem_cons.2 ⟨fun a cls d => (sv_asg (α := Bool) ev_bl fun v6 => (sv_next (wk_hs (wk_s (wk_s (wk_s (wk_s wk_n))))))), (fun h hm => by cases hm)⟩) (fun y => (List.forall_mem_cons.2 ⟨(fun y hy => by rcases hy with hy | hy; (· subst hy; exact T.xm_InvalidWay_InvalidWay); (· simp only [List.mem_cons, List.not_mem_nil, or_false] at hy; rcases hy with rfl | rfl; exact T.xm_InvalidString_InvalidWay; exact T.xm_InvalidWay_InvalidWay)) y, (fun h hm => by cases hm)⟩)) fun b2 => (sv_ret (ev_var rfl))))⟩
theorem ps_law (T : Txt G mg) (B : LamX.TabB base mg T.tC T.tP) (cdv : Value) (A : Around) (outer : List PySem.Env) (s : Shared) (H : Hp) (E : XK) (hr : Room 6 (A.deeper (envOfC "law" (defScope s_law) s.heap.objs.size T.law.f cdv))) : ∃ t, PSs (cxOf (L2.CX G.P G.w) G.P G.w G.K mg base Ns_law "law" (defScope s_law) T.law.f cdv A outer s H E) ((defBody s_law).drop 1) t ∧ ∀ p c, SV (NN.law p c E) ([.dead, .src, .dead, .dead, .dead, .dead, .dead, .dead, .dead, .dead, .gen (pinR T.tP (tabR nmL)) true] : Env G) t (JR G (NN.law p c E)) m_law :=
  ⟨_, (pss_cons (ps_set (i := 2) sc_law.nd rfl (Or.inr rfl) (pe_call (ok__law_code T) (hr.mono (by decide)) (by rfl) T._law_code.g T._law_code.Fu.kp T._law_code.b .nil (passes_call (takes_of rfl rfl rfl rfl) (fun _ _ _ _ h => h)) (pa_cons (pv 1) (pa_cons pe_int pa_nil)))) (pss_cons (ps_set (i := 3) sc_law.nd rfl (Or.inl rfl) (pe_call (ok__law_built T) (hr.mono (by decide)) (by rfl) T._law_built.g T._law_built.Fu.kp T._law_built.b .nil (passes_call (takes_of rfl rfl rfl rfl) (fun _ _ _ _ h => h)) (pa_cons (pv 2) pa_nil))) (pss_cons (ps_set (i := 4) sc_law.nd rfl (Or.inl rfl) (pe_call (ok__law_text T) (hr.mono (by decide)) (by rfl) T._law_text.g T._law_text.Fu.kp T._law_text.b .nil (passes_call (takes_of rfl rfl rfl rfl) (fun _ _ _ _ h => h)) (pa_cons (pv 2) (pa_cons (pe_call (ok__law_row T) (hr.mono (by decide)) (by rfl) T._law_row.g T._law_row.Fu.kp T._law_row.b .nil (passes_call (takes_of rfl rfl rfl rfl) (fun _ _ _ _ h => h)) (pa_cons (pv 1) (pa_cons (pv 2) (pa_cons pe_int pa_nil)))) pa_nil)))) (pss_cons (ps_if (pt_cmpR op_eq (pe_call (ok__law_next T) (hr.mono (by decide)) (by rfl) T._law_next.g T._law_next.Fu.kp T._law_next.b .nil (passes_call (takes_of rfl rfl rfl rfl) (fun _ _ _ _ h => h)) (pa_cons (pv 1) (pa_cons pe_int pa_nil))) pe_int (nomark _)) (pss_cons (ps_set (i := 4) sc_law.nd rfl (Or.inl rfl) (pe_join pe_str (pe_lc (own := [("_law_k", 9)]) (g := (gName 9)) (tt := tYes) (te := (tOp rIxS (tC (.str "abc")) (tCall (SpS1 G Int m__law_next) [] E0 (tCons (tVar 1) (tCons (tOp (rIxL G.K) (tVar 2) (tC (.int 0))) tNil))))) rfl sc_law.nd (pi_range1 (by rfl) T.z_range (pa_cons (pe_call (ok__law_next T) (hr.mono (by decide)) (by rfl) T._law_next.g T._law_next.Fu.kp T._law_next.b .nil (passes_call (takes_of rfl rfl rfl rfl) (fun _ _ _ _ h => h)) (pa_cons (pv 1) (pa_cons pe_int pa_nil))) pa_nil)) (blkOk_by (N := Ns_law) (sc := defScope s_law) (by decide +kernel)) (fun _ _ _ _ _ => (pg_name (i := 9) sc_law.nd rfl (Or.inl rfl))) (fun _ _ _ _ _ => pts_nil) (fun _ _ _ _ _ => (pe_ix ix_str pe_str (pe_call (ok__law_next T) (hr.mono (by decide)) (by rfl) T._law_next.g T._law_next.Fu.kp T._law_next.b .nil passL (pa_cons (pv 1) (pa_cons (pe_ix ix_list (pv 2) pe_int (fun _ _ => rfl)) pa_nil))) (fun _ _ => rfl)))))) pss_nil) pss_nil) (pss_cons (ps_for (passes_of rfl) rfl (pi_tup (pe_tup (pa_cons pe_str (pa_cons pe_str (pa_cons pe_str pa_nil))))) (pg_name (i := 5) sc_law.nd rfl (Or.inl rfl)) (pss_cons (ps_for (passes_of rfl) rfl (pi_tup (pe_tup (pa_cons pe_str (pa_cons pe_str pa_nil)))) (pg_name (i := 6) sc_law.nd rfl (Or.inl rfl)) (pss_cons (ps_set (i := 7) sc_law.nd rfl (Or.inl rfl) (pe_call (ok_read T B) (hr.mono (by decide)) (by rfl) T.read.g T.read.Fu.kp T.read.b .nil (passes_call (takes_of rfl rfl rfl rfl) (fun _ _ _ _ h => h)) (pa_cons (pv 3) (pa_cons (pv 4) (pa_cons (pv 5) (pa_cons (pv 6) pa_nil)))))) (pss_cons (ps_if ((pw_or (pt_cmpR (op_neD hr.units) (pv 7) (pe_call (ok__law_read T) (hr.mono (by decide)) (by rfl) T._law_read.g T._law_read.Fu.kp T._law_read.b .nil (passes_call (takes_of rfl rfl rfl rfl) (fun _ _ _ _ h => h)) (pa_cons (pv 2) (pa_cons (pv 4) (pa_cons (pv 5) (pa_cons (pv 6) pa_nil))))) (nomark _)) (pw_or1 (pt_not (pt_val (pe_callB L2.call_isi (by rfl) T.z_isinstance bb_isinstance (pa_cons (pv 7) (pa_cons (pe_bltn (v := .ty "tuple") (u := .type "tuple") (by rfl) T.z_tuple bt_tuple rfl) pa_nil)))))))).pt (pss_cons (ps_ret pe_bl) pss_nil) pss_nil) pss_nil))) pss_nil)) (pss_cons (ps_set (i := 8) sc_law.nd rfl (Or.inl rfl) (pe_ix ix_list (pe_lst (pa_cons pe_non (pa_cons pe_str (pa_cons pe_str (pa_cons pe_int (pa_cons (pe_tup (pa_cons pe_str pa_nil)) (pa_cons pe_str pa_nil))))))) (pe_call (ok__law_next T) (hr.mono (by decide)) (by rfl) T._law_next.g T._law_next.Fu.kp T._law_next.b .nil (passes_call (takes_of rfl rfl rfl rfl) (fun _ _ _ _ h => h)) (pa_cons (pv 1) (pa_cons pe_int pa_nil))) (fun _ _ => rfl))) (pss_cons (ps_if ((pw_or (pt_cmpR (op_neD hr.units) (pe_call (ok__law_refused T) (hr.mono (by decide)) (by rfl) T._law_refused.g T._law_refused.Fu.kp T._law_refused.b .nil (passes_call (takes_of rfl rfl rfl rfl) (fun _ _ _ _ h => h)) (pa_cons (pv 3) (pa_cons (pv 4) (pa_cons (pv 8) (pa_cons pe_str pa_nil))))) pe_str (nomark _)) (pw_or1 (pt_cmpR (op_neD hr.units) (pe_call (ok__law_refused T) (hr.mono (by decide)) (by rfl) T._law_refused.g T._law_refused.Fu.kp T._law_refused.b .nil (passes_call (takes_of rfl rfl rfl rfl) (fun _ _ _ _ h => h)) (pa_cons (pv 3) (pa_cons (pe_op op_add_str (pv 4) pe_str) (pa_cons (pv 8) (pa_cons (pv 8) pa_nil))))) pe_str (nomark _))))).pt (pss_cons (ps_ret pe_bl) pss_nil) pss_nil) (pss_cons (ps_if (pt_cmpR (op_neD hr.units) (pe_call (ok__law_refused T) (hr.mono (by decide)) (by rfl) T._law_refused.g T._law_refused.Fu.kp T._law_refused.b .nil (passes_call (takes_of rfl rfl rfl rfl) (fun _ _ _ _ h => h)) (pa_cons (pv 3) (pa_cons (pv 4) (pa_cons pe_str (pa_cons (pe_ifExp (pt_cmpR (op_neD hr.units) (pv 8) pe_str (nomark _)) (pv 8) pe_str) pa_nil))))) pe_str (nomark _)) (pss_cons (ps_ret pe_bl) pss_nil) pss_nil) (pss_cons (ps_ret (pe_and (pe_call (ok__law_barred T) (hr.mono (by decide)) (by rfl) T._law_barred.g T._law_barred.Fu.kp T._law_barred.b .nil (passes_call (takes_of rfl rfl rfl rfl) (fun _ _ _ _ h => h)) (pa_cons (pv 3) (pa_cons (pv 8) (pa_cons pe_str pa_nil)))) (pe_one (pe_call (ok__law_barred T) (hr.mono (by decide)) (by rfl) T._law_barred.g T._law_barred.Fu.kp T._law_barred.b .nil (passes_call (takes_of rfl rfl rfl rfl) (fun _ _ _ _ h => h)) (pa_cons (pv 3) (pa_cons pe_str (pa_cons (pe_ifExp (pt_cmpR (op_neD hr.units) (pv 8) pe_str (nomark _)) (pv 8) pe_str) pa_nil))))))) pss_nil))))))))),
  fun p c => (sv_asg (α := (L2v Int (List Tx))) (ev_callS1 rfl ev_int) fun v2 => (sv_asg (α := CodeV) (ev_call1 (ev_var rfl)) fun v4 => (sv_asg (α := Tx) (ev_call2 (ev_var rfl) (ev_callS2 rfl (ev_var rfl) ev_int)) fun v9 => (sv_if (Γi := fun (b14 : (Tx)) => [.dead, .src, @Ent.per G (L2v Int (List Tx)) _ v2, @Ent.per G CodeV _ v4, @Ent.per G Tx _ b14, .dead, .dead, .dead, .dead, .dead, .gen (pinR T.tP (tabR nmL)) true]) (tv_test (ev_op (α := Int) (β := Int) (ev_callS1 rfl ev_int) ev_int opv_eq)) (sv_asg (α := Tx) (ev_join (ev_str st_4) (ev_new (evn_mapE (evi_rng1 (ev_callS1 rfl ev_int)) (no_own1 rfl rfl) trivial (fun O a17 => gc_name) (fun O a17 => (ev_op (α := Tx) (β := Int) (ev_str st_0) (ev_callS1 rfl (ev_l1 (ev_var rfl))) opv_ixS)) (fun _ => rfl)))) fun v26 => (sv_next (wk_hs (wk_d (wk_s (wk_s (wk_s (wk_s (wk_d (wk_d (wk_d (wk_d (wk_d (wk_s wk_n)))))))))))))) (sv_next (wk_hs (wk_d (wk_s (wk_s (wk_s (wk_s (wk_d (wk_d (wk_d (wk_d (wk_d (wk_s wk_n))))))))))))) fun b14 => (sv_forF (Γi := fun (b34 : Unit) => [.dead, .src, @Ent.per G (L2v Int (List Tx)) _ v2, @Ent.per G CodeV _ v4, @Ent.per G Tx _ b14, .dead, .dead, .dead, .dead, .dead, .gen (pinR T.tP (tabR nmL)) true]) (b0 := ()) (jr_id jr_ret) (evi_tup (ev_tup (evl_cons (ev_str st_2) (evl_cons (ev_str st_8) (evl_cons (ev_str st_1) evl_nil))))) (wk_hs (wk_d (wk_s (wk_s (wk_s (wk_s (wk_d (wk_d (wk_d (wk_d (wk_d (wk_s wk_n)))))))))))) (fun _ => trivial) (fun b34 a35 => gv_name) (fun b34 a35 => (sv_forF (Γi := fun (b41 : Unit) => [.dead, .src, @Ent.per G (L2v Int (List Tx)) _ v2, @Ent.per G CodeV _ v4, @Ent.per G Tx _ b14, @Ent.per G Tx _ a35, .dead, .dead, .dead, .dead, .gen (pinR T.tP (tabR nmL)) true]) (b0 := ()) (jr_to jr_ret) (evi_tup (ev_tup (evl_cons (ev_str st_3) (evl_cons (ev_str st_5) evl_nil)))) (wk_hs (wk_d (wk_s (wk_s (wk_s (wk_s (wk_s (wk_d (wk_d (wk_d (wk_d (wk_s wk_n)))))))))))) (fun _ => trivial) (fun b41 a42 => gv_name) (fun b41 a42 => (sv_asg (α := ((List Int) × Int)) (ev_callT4 10 (hO_src _ _ _ _ _) rfl (ev_var rfl) (ev_var rfl) (ev_var rfl) (ev_var rfl)) fun v47 => (sv_ifretF (ret := Fl.rt) (jr_to jr_ret) (tv_or (tv_test (ev_op (α := ((List Int) × Int)) (β := ((List Int) × Int)) (ev_var rfl) (ev_call4 (ev_var rfl) (ev_var rfl) (ev_var rfl) (ev_var rfl)) (opv_neD (α := ((List Int) × Int)) (β := ((List Int) × Int))))) (tv_not (tv_B (ev_isi kn_tuple (ev_var rfl))))) (sv_ret ev_bl) (sv_nextF (wk_hs (wk_d (wk_s (wk_s (wk_s (wk_s (wk_s (wk_d (wk_d (wk_d (wk_d (wk_s wk_n)))))))))))))))) (fun b41 => (sv_nextF (wk_hs (wk_d (wk_s (wk_s (wk_s (wk_s (wk_d (wk_d (wk_d (wk_d (wk_d (wk_s wk_n)))))))))))))))) (fun b34 => (sv_asg (α := PyData) (ev_op (α := (L PyData)) (β := Int) (ev_new (evn_lst (evl_cons ev_nonD (evl_cons (ev_dat (ev_str st_9)) (evl_cons (ev_dat (ev_str st_4)) (evl_cons (ev_dat ev_int) (evl_cons (ev_dat (ev_tup (evl_cons (ev_str st_2) evl_nil))) (evl_cons (ev_dat (ev_str st_3)) evl_nil)))))))) (ev_callS1 rfl ev_int) opv_ixL) fun v83 => (sv_ifret jr_ret (tv_or (tv_test (ev_op (α := (Option Tx)) (β := Tx) (ev_call4 (ev_var rfl) (ev_var rfl) (ev_var rfl) (ev_dat (ev_str st_5))) (ev_str st_7) (opv_neD (α := (Option Tx)) (β := Tx)))) (tv_test (ev_op (α := (Option Tx)) (β := Tx) (ev_call4 (ev_var rfl) (ev_op (α := Tx) (β := Tx) (ev_var rfl) (ev_str st_10) opv_addS) (ev_var rfl) (ev_var rfl)) (ev_str st_6) (opv_neD (α := (Option Tx)) (β := Tx))))) (sv_ret ev_bl) (sv_ifret jr_ret (tv_test (ev_op (α := (Option Tx)) (β := Tx) (ev_call4 (ev_var rfl) (ev_var rfl) (ev_dat (ev_str st_1)) (ev_if (tv_test (ev_op (α := PyData) (β := Tx) (ev_var rfl) (ev_str st_3) (opv_neD (α := PyData) (β := Tx)))) (ev_var rfl) (ev_dat (ev_str st_2)))) (ev_str st_7) (opv_neD (α := (Option Tx)) (β := Tx)))) (sv_ret ev_bl) (sv_ret (ev_and (ev_call3 (ev_var rfl) (ev_var rfl) (ev_dat (ev_str st_3))) (ev_call3 (ev_var rfl) (ev_dat (ev_str st_8)) (ev_if (tv_test (ev_op (α := PyData) (β := Tx) (ev_var rfl) (ev_str st_3) (opv_neD (α := PyData) (β := Tx)))) (ev_var rfl) (ev_dat (ev_str st_11)))))))))))))))⟩
theorem ok_law (T : Txt G mg) (B : LamX.TabB base mg T.tC T.tP) (hm : wp m_law (fun b => b = true) (fun _ => False)) : FnOk G.P G.w G.K mg base (L2.CX G.P G.w) 7 T.law.f T.law.fd ["_law_script"] (SpLawT G.K T.tP) :=
  T.law.Fu.okX sc_law (fun vs H Q E ⟨a, ns, e, _⟩ => by rw [e]; rfl) fun cdv A outer s H vs Q E hr ⟨a, ns, e, hS, hlen, hT, q⟩ => by
    subst e
    obtain ⟨t, hp, hv⟩ := ps_law (base := base) T B cdv A outer s H E hr
    refine ⟨_, pss_ghost (i := 10) (x := "@") (.ref T.tP) rfl gh_law (pss_cons (ps_set (i := 1) sc_law.nd rfl (Or.inr rfl) (pe_call (ok__law_mix T) (hr.mono (by decide)) (by rfl) T._law_mix.g T._law_mix.Fu.kp T._law_mix.b .nil (passes_call (takes_of rfl rfl rfl rfl) (fun _ _ _ _ h => h)) (pa_cons (pv 0) (pa_cons pe_int pa_nil)))) hp), ?_⟩
    refine ⟨.ref a, rfl, a, ns, 6, rfl, hS, by omega, fun H' p c st sm dm h1 h2 ne e1 e2 => ?_⟩
    have nq : T.tP ≠ p ∧ T.tP ≠ c := ⟨fun z => (by rw [z, h1] at hT; cases hT), fun z => (by rw [z, h2] at hT; cases hT)⟩
    exact hv p c _ (fun _ => none) H' _ (hs_lawT e1 e2 ne (by omega) (fun N hS hH => ⟨trivial, ⟨p, c, rfl, hS⟩, trivial, trivial, trivial, trivial, trivial, trivial, trivial, trivial, ⟨T.tP, _, rfl, ⟨rfl, .inl (by rw [hH]), fun a b z => by rw [hS] at z; cases z; exact nq⟩, (fun z => by cases z), sm _ _ hT, rfl, tab_nil⟩, trivial⟩) (own_ks rfl (own_ks rfl (own_ks rfl (own_ks rfl (own_ks rfl (own_ks rfl (own_ks rfl (own_ks rfl (own_ks rfl (own_ks rfl (own_k0 own_n)))))))))))) (wp_imp hm (fun b hb v F' H2 w' r => by
      subst hb
      have r' : Dq G.K F' v (.bool true) := r
      cases r'
      exact q H2) fun e he => he.elim)
end
end K06

namespace K06
open PySem PySem.Spec PyProof.Rows L2 Ty
open Enc (enc)
theorem sumLen_one : ∀ {xs : List Tx}, (∀ x ∈ xs, x.length = 1) → sumLen xs = xs.length
  | [], _ => rfl
  | x :: xs, h => by
    have ih := sumLen_one fun y m => h y (List.mem_cons_of_mem _ m)
    unfold sumLen at ih ⊢
    rw [List.map_cons, List.sum_cons, ih, h x List.mem_cons_self, List.length_cons]
    omega
theorem join_nil : ∀ {xs : List Tx}, joinT [] xs = xs.flatten
  | [] => rfl
  | [x] => by simp [joinT, TL.joinL]
  | x :: y :: r => by
    have ih := join_nil (xs := y :: r)
    unfold joinT at ih ⊢
    simp only [TL.joinL, List.flatten_cons] at ih ⊢
    rw [ih]
    simp
theorem wp_word {many high : Int} (hm : many = 2 ∨ many = 3) (hh : high = 3 ∨ high = 4) : wp (m__law_word many high) (Word many) (fun _ => False) := by
  simp only [m__law_word, m__law_next, ok_bind, bind_bind, draw_bind, chk_bind]
  refine ⟨by omega, by omega, fun i h0 h1 => ?_⟩
  refine wp_chk_of (decide_eq_true (by omega)) ?_
  have hr : (rng 0 (1 + i)).length = (1 + i).toNat := by simp [rng]
  refine wp_chk_of (small_of (by rw [hr]; omega)) ?_
  refine wp_bind.2 (wp_mono (wp_noerr_of (wp_mapP (Q := fun _ y => ∃ c, y = [c] ∧ Lett many c) fun a _ => ⟨by omega, by omega, fun j j0 j1 => ?_⟩)) fun (ys : List Tx) hy => ?_)
  · have : j = 0 ∨ j = 1 ∨ (j = 2 ∧ many = 3) := by omega
    rcases this with e | e | ⟨e, e2⟩
    · subst e; exact ⟨97, rfl, .inl rfl⟩
    · subst e; exact ⟨98, rfl, .inr (.inl rfl)⟩
    · subst e; exact ⟨99, rfl, .inr (.inr ⟨rfl, e2⟩)⟩
  · obtain ⟨hl, hy⟩ := hy
    have h1' : ∀ y ∈ ys, y.length = 1 := fun y m => by
      obtain ⟨_, _, c, e, _⟩ := hy y m
      rw [e]; rfl
    have hs := sumLen_one h1'
    refine wp_chk_of (small_of ?_) ?_
    · show sumLen ys + ys.length * 0 ≤ _
      rw [hs, hl, hr]; omega
    · show Word many (joinT [] ys)
      rw [join_nil]
      have hlen : ys.flatten.length = ys.length := by
        rw [List.length_flatten]; exact hs
      refine ⟨fun c m => ?_, by rw [hlen, hl, hr]; omega, by rw [hlen, hl, hr]; omega⟩
      obtain ⟨y, my, mc⟩ := List.mem_flatten.1 m
      obtain ⟨_, _, d, e, hd⟩ := hy y my
      rw [e] at mc
      rw [List.mem_singleton.1 mc]
      exact hd

theorem okT_of {w : Tx} (h : ∀ c ∈ w, c < 1000) : okT w := by
  show (Array.all w.toArray (· < 0x110000)) = true
  rw [List.all_toArray, List.all_eq_true]
  intro c hc
  have := h c hc
  exact decide_eq_true (by omega)
theorem lett_lt {many : Int} {c : Nat} (h : Lett many c) : c < 1000 := by
  rcases h with h | h | h <;> omega
theorem word_okT {many : Int} {w : Tx} (h : Word many w) : okT w := okT_of fun c m => lett_lt (h.1 c m)
/-- the tree's leaves, while it grows -/
structure Leaf (many : Int) (l : List Tx) : Prop where
  ne : 1 ≤ l.length
  l6 : l.length ≤ 6
  ap : l.Pairwise Apart
  w : ∀ w ∈ l, (∀ c ∈ w, Lett many c) ∧ w.length ≤ 4
/-- the words so far -/
structure Ws (many : Int) (l : List Tx) : Prop where
  l6 : l.length ≤ 6
  nd : l.Nodup
  w : ∀ w ∈ l, Word many w
def kids (many : Int) (x : Tx) : List Tx := (signs (cut [97, 98, 99] none (some many))).map fun s => x ++ s
theorem kids_eq {many : Int} (hm : many = 2 ∨ many = 3) (x : Tx) : kids many x = if many = 3 then [x ++ [97], x ++ [98], x ++ [99]] else [x ++ [97], x ++ [98]] := by
  rcases hm with e | e <;> subst e <;> rfl
theorem leaf_grow {many : Int} (hm : many = 2 ∨ many = 3) {l : List Tx} (h : Leaf many l) {k : Nat} {x : Tx} (hk : l[k]? = some x) (hx : x.length < 4) (hl : l.length + many.toNat - 1 ≤ 6) : Leaf many (l.take k ++ kids many x ++ l.drop (k + 1)) := by
  obtain ⟨hlt, hg⟩ := List.getElem?_eq_some_iff.1 hk
  have e0 : l = l.take k ++ x :: l.drop (k + 1) := by
    rw [← hg, List.getElem_cons_drop, List.take_append_drop]
  have hxm : x ∈ l := by rw [← hg]; exact List.getElem_mem hlt
  have wx := h.w x hxm
  have hkid : (kids many x).length = many.toNat := by
    rw [kids_eq hm]
    rcases hm with e | e <;> subst e <;> rfl
  have kmem : ∀ y ∈ kids many x, ∃ c, Lett many c ∧ y = x ++ [c] := fun y my => by
    rw [kids_eq hm] at my
    rcases hm with e | e
    · subst e
      have : y = x ++ [97] ∨ y = x ++ [98] := by simpa using my
      rcases this with r | r
      · exact ⟨97, .inl rfl, r⟩
      · exact ⟨98, .inr (.inl rfl), r⟩
    · subst e
      have : y = x ++ [97] ∨ y = x ++ [98] ∨ y = x ++ [99] := by simpa using my
      rcases this with r | r | r
      · exact ⟨97, .inl rfl, r⟩
      · exact ⟨98, .inr (.inl rfl), r⟩
      · exact ⟨99, .inr (.inr ⟨rfl, rfl⟩), r⟩
  have kap : (kids many x).Pairwise Apart := by
    rw [kids_eq hm]
    rcases hm with e | e
    · subst e
      refine List.pairwise_cons.2 ⟨fun y my => ?_, List.pairwise_singleton _ _⟩
      rw [List.mem_singleton.1 my]
      exact apart_sibs (by decide)
    · subst e
      refine List.pairwise_cons.2 ⟨fun y my => ?_, List.pairwise_cons.2 ⟨fun y my => ?_, List.pairwise_singleton _ _⟩⟩
      · have : y = x ++ [98] ∨ y = x ++ [99] := by simpa using my
        rcases this with r | r <;> rw [r] <;> exact apart_sibs (by decide)
      · rw [List.mem_singleton.1 my]
        exact apart_sibs (by decide)
  have hlen : (l.take k ++ kids many x ++ l.drop (k + 1)).length = l.length + many.toNat - 1 := by
    rw [List.length_append, List.length_append, List.length_take, List.length_drop, hkid]
    omega
  refine ⟨by rw [hlen]; have := h.ne; rcases hm with e | e <;> subst e <;> simp <;> omega, by rw [hlen]; exact hl, pairwise_split (by rw [← e0]; exact h.ap) kap fun y my z a => ?_, fun y my => ?_⟩
  · obtain ⟨c, _, r⟩ := kmem y my
    rw [r]
    exact apart_grow a
  · rcases List.mem_append.1 my with q | q
    · rcases List.mem_append.1 q with q | q
      · exact h.w y (List.mem_of_mem_take q)
      · obtain ⟨c, hc, r⟩ := kmem y q
        subst r
        refine ⟨fun d md => ?_, by rw [List.length_append]; simp; omega⟩
        rcases List.mem_append.1 md with z | z
        · exact wx.1 d z
        · rw [List.mem_singleton.1 z]; exact hc
    · exact h.w y (List.mem_of_mem_drop q)
theorem ws_of_leaf {many : Int} {l : List Tx} (h : Leaf many l) : Ws many ((l.filter fun a => !decide (a = [])).map id) := by
  rw [List.map_id]
  refine ⟨Nat.le_trans (List.length_filter_le _ _) h.l6, (nodup_of_apart h.ap).filter _, fun w m => ?_⟩
  obtain ⟨m1, m2⟩ := List.mem_filter.1 m
  have x := h.w w m1
  refine ⟨x.1, ?_, x.2⟩
  cases w with
  | nil => simp at m2
  | cons c w => simp
theorem ws_rev {many : Int} {l : List Tx} (h : Ws many l) : Ws many (l.map List.reverse) := by
  refine ⟨by rw [List.length_map]; exact h.l6, ?_, fun w m => ?_⟩
  · exact List.Pairwise.map _ (fun a b (n : a ≠ b) => fun e => n (List.reverse_inj.1 e)) h.nd
  · obtain ⟨v, mv, rfl⟩ := List.mem_map.1 m
    have x := h.w v mv
    exact ⟨fun c mc => x.1 c (List.mem_reverse.1 mc), by rw [List.length_reverse]; exact x.2.1, by rw [List.length_reverse]; exact x.2.2⟩
theorem ws_insert {many : Int} {l : List Tx} {w : Tx} (h : Ws many l) (hw : Word many w) (hn : w ∉ l) (hl : l.length < 6) (k : Nat) : Ws many (l.take k ++ [w] ++ l.drop k) := by
  have p : (l.take k ++ [w] ++ l.drop k).Perm (w :: l) := by
    have : (l.take k ++ [w] ++ l.drop k) = l.take k ++ w :: l.drop k := by simp
    rw [this]
    have q := List.perm_middle (a := w) (l₁ := l.take k) (l₂ := l.drop k)
    rwa [List.take_append_drop] at q
  refine ⟨by rw [p.length_eq]; simp; omega, p.nodup_iff.2 (List.nodup_cons.2 ⟨hn, h.nd⟩), fun v m => ?_⟩
  rcases List.mem_cons.1 (p.mem_iff.1 m) with e | e
  · rw [e]; exact hw
  · exact h.w v e
theorem ws_erase {many : Int} {l : List Tx} (h : Ws many l) (k : Nat) : Ws many (l.eraseIdx k) := by
  have s := List.eraseIdx_sublist l k
  exact ⟨Nat.le_trans s.length_le h.l6, h.nd.sublist s, fun v m => h.w v (s.subset m)⟩

theorem wp_code {high : Int} (hh : 1 ≤ high) (hh6 : high ≤ 6) : wp (m__law_code high) (fun t => Cd t.a t.b) (fun _ => False) := by
  unfold m__law_code
  simp only [m__law_next, L, un, ok_bind, bind_bind, draw_bind, chk_bind, List.length_nil, Nat.zero_le, if_true, List.length_singleton, bind_ok']
  refine ⟨by omega, by omega, fun i0 a0 b0 => ?_⟩
  dsimp only
  obtain ⟨many, hmany⟩ : ∃ many : Int, 2 + (if decide (i0 = 0) = true then (1 : Int) else 0) = many := ⟨_, rfl⟩
  have hm : many = 2 ∨ many = 3 := by
    by_cases h : i0 = 0
    · rw [← hmany, if_pos (decide_eq_true h)]; right; rfl
    · rw [← hmany, if_neg (by simpa using h)]; left; rfl
  rw [hmany]
  refine ⟨by omega, by omega, fun i1 a1 b1 => ?_⟩
  dsimp only
  refine wp_bind.2 (wp_mono (P := Ws many) ?_ fun ws hws => ?_)
  · by_cases h1 : i1 = 0
    · rw [if_pos (decide_eq_true h1), if_pos (by decide)]
      simp only [ok_bind]
      refine ⟨by omega, by omega, fun i2 a2 b2 => ?_⟩
      refine wp_chk_of (decide_eq_true (by omega)) (wp_bind.2 (wp_mono (wp_foldP (Inv := Leaf many) ?_ fun l k mk hl => ?_) fun l hl => ?_))
      · exact ⟨by simp, by simp, List.pairwise_singleton _ _, fun w m => by rw [List.mem_singleton.1 m]; exact ⟨fun c mc => (by cases mc), by simp⟩⟩
      · -- one turn of the tree's growth
        refine ⟨by have := hl.ne; omega, by have := hl.l6; omega, fun j j0 j1 => ?_⟩
        obtain ⟨x, hx, mx, hg⟩ := getI_ex j0 j1
        dsimp only
        rw [hg]
        simp only [ok_bind]
        have wx := hl.w x mx
        refine wp_chk_of (small_of (by omega)) ?_
        by_cases hc : x.length < 4 ∧ (l.length : Int) + many - 1 ≤ 6
        · rw [if_pos (decide_eq_true (by omega)), ok_bind, if_pos (decide_eq_true hc.2)]
          refine wp_chk_of (by decide) (wp_chk_of ?_ ?_)
          · rcases hm with e | e <;> subst e <;> decide
          · have em : mapP (fun a51 => chk (small (x.length + List.length a51)) (Prog.ok (x ++ a51))) (Ty.signs (cut [97, 98, 99] none (some many))) = .ok (kids many x) := by
              refine mapP_ok (g := fun s => x ++ s) fun a ma => ?_
              have : a.length = 1 := by
                unfold Ty.signs at ma
                obtain ⟨c, _, rfl⟩ := List.mem_map.1 ma
                rfl
              rw [small_of (by omega)]
              rfl
            rw [em]
            simp only [ok_bind]
            rw [cut_to j0, cut_from (show (0 : Int) ≤ j + 1 by omega)]
            have et : (j + 1).toNat = j.toNat + 1 := by omega
            rw [et]
            have hg2 := leaf_grow hm hl hx hc.1 (by rcases hm with e | e <;> subst e <;> simp at hc ⊢ <;> omega)
            have l6 := hg2.l6
            rw [List.length_append, List.length_append] at l6
            refine wp_chk_of (small_of (by omega)) (wp_chk_of (small_of (by rw [List.length_append]; omega)) ?_)
            exact hg2
        · have : wp (if decide ((x.length : Int) < 4) = true then Prog.ok (decide ((l.length : Int) + many - 1 ≤ 6)) else Prog.ok false) (fun b => b = false) (fun _ => False) := by
            by_cases h4 : (x.length : Int) < 4
            · rw [if_pos (decide_eq_true h4)]
              exact decide_eq_false fun h6 => hc ⟨by omega, h6⟩
            · rw [if_neg (by simpa using h4)]; rfl
          refine wp_bind.2 (wp_mono this fun b hb => ?_)
          subst hb
          rw [if_neg Bool.false_ne_true]
          exact hl
      · have l6 := hl.l6
        refine wp_chk_of (small_of (by omega)) ?_
        refine wp_bind.2 (wp_eq_ok (compP_ok (p := fun a => !decide (a = [])) (g := id) (fun a _ => rfl) (fun a _ => rfl)) ?_)
        have hw := ws_of_leaf hl
        refine ⟨by omega, by omega, fun j j0 j1 => ?_⟩
        dsimp only
        by_cases hj : j = 0
        · rw [if_pos (decide_eq_true hj)]
          refine wp_chk_of (small_of (by have := hw.l6; omega)) ?_
          rw [mapP_ok (g := List.reverse) fun a ma => by rw [small_of (by have := (hw.w a ma).2.2; omega)]; rfl]
          exact ws_rev hw
        · rw [if_neg (by simpa using hj)]
          exact hw
    · rw [if_neg (by simpa using h1)]
      exact ⟨by simp, List.Pairwise.nil, fun w m => by cases m⟩
  · refine ⟨by omega, by omega, fun i2 a2 b2 => ?_⟩
    dsimp only
    refine wp_bind.2 (wp_eq_ok (eqL_tx (fun w m => word_okT (hws.w w m)) (fun w m => (by cases m))) ?_)
    obtain ⟨n, hn⟩ : ∃ n : Int, i2 + (if decide (ws = []) = true then (1 : Int) else 0) = n := ⟨_, rfl⟩
    have hn2 : 0 ≤ n ∧ n ≤ 7 ∧ (ws = [] → 1 ≤ n) := by
      by_cases h : ws = []
      · rw [if_pos (decide_eq_true h)] at hn
        exact ⟨by omega, by omega, fun _ => by omega⟩
      · rw [if_neg (by simpa using h)] at hn
        exact ⟨by omega, by omega, fun z => absurd z h⟩
    rw [hn]
    refine wp_chk_of (decide_eq_true (by omega)) ?_
    have lr : (rng 0 n).length = n.toNat := by simp [rng]
    refine wp_bind.2 (wp_mono (wp_foldP' (Inv := fun r l => Ws many l ∧ (l = [] → r ≠ [])) ⟨hws, fun z e => ?_⟩ fun l k r hl => ?_) fun l hl => ?_)
    · have := hn2.2.2 z
      rw [e] at lr
      simp at lr
      omega
    · obtain ⟨hl, _⟩ := hl
      refine ⟨by omega, by omega, fun j j0 j1 => ?_⟩
      dsimp only
      have t4 : wp (if decide (j = 0) = true then (Prog.ok (4 : Int)) else Prog.ok 3) (fun a => a = 3 ∨ a = 4) (fun _ => False) := by
        by_cases h : j = 0
        · rw [if_pos (decide_eq_true h)]; exact .inr rfl
        · rw [if_neg (by simpa using h)]; exact .inl rfl
      refine wp_bind.2 (wp_mono t4 fun a ha => wp_bind.2 (wp_mono (wp_word hm ha) fun v hv => ?_))
      by_cases hin : v ∉ l ∧ l.length < 6
      · have e1 : (!memB v l) = true := by unfold memB; simp [hin.1]
        rw [if_pos e1, ok_bind, if_pos (decide_eq_true (by omega))]
        refine ⟨by omega, by have := hl.l6; omega, fun q q0 q1 => ?_⟩
        refine wp_chk_of ?_ ⟨ws_insert hl hv hin.1 hin.2 _, fun z => by simp at z⟩
        have := hl.l6
        rw [small_of (by omega), decide_eq_true q0]
        exact decide_eq_true (by omega)
      · have : wp (if (!memB v l) = true then Prog.ok (decide ((l.length : Int) < 6)) else Prog.ok false) (fun b => b = false) (fun _ => False) := by
          by_cases h4 : v ∈ l
          · have e1 : ¬ (!memB v l) = true := by unfold memB; simp [h4]
            rw [if_neg e1]; rfl
          · have e1 : (!memB v l) = true := by unfold memB; simp [h4]
            rw [if_pos e1]
            exact decide_eq_false fun h6 => hin ⟨h4, by omega⟩
        refine wp_bind.2 (wp_mono this fun b hb => ?_)
        subst hb
        rw [if_neg Bool.false_ne_true]
        refine ⟨hl, fun z => absurd ⟨?_, ?_⟩ hin⟩
        · rw [z]; simp
        · rw [z]; simp
    · obtain ⟨hl, he⟩ := hl
      have hne : l ≠ [] := fun z => he z rfl
      have hl1 : 1 ≤ l.length := by
        cases l with
        | nil => exact absurd rfl hne
        | cons _ _ => simp
      have t2 : wp (if decide ((2 : Int) < l.length) = true then Prog.draw 2 fun a2 => Prog.ok (decide (a2 = 0)) else Prog.ok false) (fun b => b = true → 2 < l.length) (fun _ => False) := by
        by_cases h : (2 : Int) < l.length
        · rw [if_pos (decide_eq_true h)]
          exact ⟨by omega, by omega, fun i _ _ _ => by omega⟩
        · rw [if_neg (by simpa using h)]
          exact fun z => by cases z
      refine wp_bind.2 (wp_mono t2 fun b hb => wp_bind.2 (wp_mono (P := fun l' => Ws many l' ∧ 1 ≤ l'.length) ?_ fun l' hl' => ?_))
      · cases b with
        | true =>
          have h2 := hb rfl
          have l6 := hl.l6
          rw [if_pos rfl]
          refine ⟨by omega, by omega, fun q q0 q1 => wp_chk_of ?_ ⟨ws_erase hl _, ?_⟩⟩
          · rw [decide_eq_true q0, decide_eq_true q1]
            exact decide_eq_true (by omega)
          · have hq : q.toNat < l.length := by omega
            rw [List.length_eraseIdx_of_lt hq]
            omega
        | false =>
          rw [if_neg Bool.false_ne_true]
          exact ⟨hl, hl1⟩
      · exact ⟨hm, hl'.2, hl'.1.l6, hl'.1.nd, hl'.1.w⟩
end K06

namespace K06
open PySem PySem.Spec PyProof.Rows L2 Ty PL
open Enc (enc)
instance (many : Int) (c : Nat) : Decidable (Lett many c) := inferInstanceAs (Decidable (c = 97 ∨ c = 98 ∨ (c = 99 ∧ many = 3)))
/-! ### single signs in a text -/
theorem sub_one (c : Nat) (t : Tx) : subS [c] t = decide (c ∈ t) := by
  have h := PySem.StrLaws.found_one (sx t) c
  unfold subS
  have e : (sx t).cps.toList = t := by simp [sx]
  rw [e] at h
  exact h
theorem sub_lett {many : Int} (hm : many = 2 ∨ many = 3) (c : Nat) : subS [c] (cut [97, 98, 99] none (some many)) = decide (Lett many c) := by
  rw [sub_one]
  have e : ∀ {p q : Prop} [Decidable p] [Decidable q], (p ↔ q) → decide p = decide q := fun h => decide_eq_decide.2 h
  apply e
  rcases hm with h | h
  · subst h
    show c ∈ [97, 98] ↔ _
    unfold Lett
    simp
  · subst h
    show c ∈ [97, 98, 99] ↔ _
    unfold Lett
    simp
theorem all_map (many : Int) : ∀ w : Tx, ((Ty.signs w).map fun s => decide (∀ c ∈ s, Lett many c)).all id = decide (∀ c ∈ w, Lett many c)
  | [] => by simp [Ty.signs]
  | c :: w => by
    have ih := all_map many w
    unfold Ty.signs at ih ⊢
    rw [List.map_cons, List.map_cons, List.all_cons, ih]
    by_cases h : Lett many c <;> simp [h]
theorem is_string_eq {many : Int} (hm : many = 2 ∨ many = 3) {w : Tx} (hl : w.length ≤ 100000) : m_is_string many (enc w) = .ok (decide (∀ c ∈ w, Lett many c)) := by
  have e1 : isD "str" (enc (enc w : PyData)) = true := rfl
  have e2 : asTx (enc w) = .ok w := rfl
  unfold m_is_string
  simp only [ok_bind, e1, if_true, e2, bind_bind, L, un, bind_ok', chk_bind]
  have ls : (Ty.signs w).length = w.length := by simp [Ty.signs]
  rw [ls, small_of hl, chk_true]
  refine (mapP_bind_ok (g := fun s => decide (∀ c ∈ s, Lett many c)) fun a ma => ?_).trans ?_
  · unfold Ty.signs at ma
    obtain ⟨c, hc, rfl⟩ := List.mem_map.1 ma
    have e := congrArg (fun b => chk (small ([97, 98, 99] : Tx).length) (Prog.ok b)) (sub_lett hm c)
    refine Eq.trans e ?_
    show Prog.ok _ = Prog.ok _
    congr 1
    simp
  · show Prog.ok _ = Prog.ok _
    rw [all_map]
theorem is_integer_ok (n : Int) : m_is_integer (enc n) = .ok true := by
  have e1 : isD "int" (enc (enc n : PyData)) = true := by
    show (L2.kitB "int" "int").getD false = true
    decide +kernel
  have e2 : isD "bool" (enc (enc n : PyData)) = false := by
    show (L2.kitB "int" "bool").getD false = false
    decide +kernel
  unfold m_is_integer
  simp only [ok_bind, e1, e2, if_true, Bool.not_false]
theorem is_string_ok {many : Int} (hm : many = 2 ∨ many = 3) {w : Tx} (h : ∀ c ∈ w, Lett many c) (hl : w.length ≤ 100000) : m_is_string many (enc w) = .ok true := by
  rw [is_string_eq hm hl, decide_eq_true h]
theorem enum_ok {many : Int} (hm : many = 2 ∨ many = 3) {f : List Tx → Int × Tx → Prog (List Tx)} : ∀ {ps : List (Int × Tx)} {b : List Tx}, (∀ b p, p ∈ ps → (∀ x ∈ b, x ≠ p.2) → b.length ≤ 6 → f b p = .ok (b ++ [p.2])) → (b ++ ps.map (·.2)).Nodup → (b ++ ps.map (·.2)).length ≤ 6 → foldP f ps b = .ok (b ++ ps.map (·.2))
  | [], b, _, _, _ => by show Prog.ok b = _; simp
  | p :: r, b, h, nd, hl => by
    show f b p >>= _ = _
    have e : (b ++ (p :: r).map (·.2)) = (b ++ [p.2]) ++ r.map (·.2) := by simp
    have hl' := hl
    rw [List.length_append] at hl'
    rw [h b p List.mem_cons_self (fun x mx z => ?_) (by omega), ok_bind, e]
    · exact enum_ok hm (fun b q m k => h b q (List.mem_cons_of_mem _ m) k) (by rw [← e]; exact nd) (by rw [← e]; exact hl)
    · rw [List.nodup_append] at nd
      exact nd.2.2 x mx p.2 (by simp) z
theorem enumT_snd (ws : List Tx) : (enumT ws).map (·.2) = ws := by
  apply List.ext_getElem?
  intro i
  rw [List.getElem?_map, enumT_get]
  cases ws[i]? <;> rfl
theorem enumT_mem {ws : List Tx} {p : Int × Tx} (h : p ∈ enumT ws) : p.2 ∈ ws ∧ 0 ≤ p.1 ∧ p.1 < ws.length := by
  obtain ⟨i, hi⟩ := List.mem_iff_getElem?.1 h
  rw [enumT_get] at hi
  cases e : ws[i]? with
  | none => rw [e] at hi; cases hi
  | some w =>
    rw [e] at hi
    cases hi
    have := (List.getElem?_eq_some_iff.1 e).1
    exact ⟨List.mem_of_getElem? e, by simp, by simpa using this⟩
theorem look_ok {many : Int} {ws : List Tx} (h : Cd many ws) : m_look_at_words many ws = .ok () := by
  have e1 : isD "tuple" (enc ws) = true := rfl
  have l1 := h.l1
  have l6 := h.l6
  unfold m_look_at_words
  simp only [ok_bind, e1, bind_bind, L, un, bind_ok', chk_bind, Bool.not_true, Bool.false_eq_true, if_false, List.length_nil, Nat.zero_le, if_true]
  rw [if_pos (decide_eq_true (show (1 : Int) ≤ ws.length by omega)), decide_eq_true (show (ws.length : Int) ≤ 6 by omega)]
  simp only [ok_bind, Bool.not_true, Bool.false_eq_true, if_false]
  rw [enum_ok h.m (fun b p mp hn hb => ?_) (by simpa [enumT_snd] using h.nd) (by simpa [enumT_snd] using l6), ok_bind]
  have hw := h.w p.2 (enumT_mem mp).1
  have w1 := hw.2.1
  have w4 := hw.2.2
  rw [is_string_ok h.m hw.1 (by omega)]
  simp only [ok_bind, Bool.not_true, Bool.false_eq_true, if_false]
  rw [small_of (by omega), chk_true, if_pos (decide_eq_true (show (1 : Int) ≤ p.2.length by omega)), decide_eq_true (show (p.2.length : Int) ≤ 4 by omega)]
  simp only [ok_bind, Bool.not_true, Bool.false_eq_true, if_false]
  have e2 : memB p.2 b = false := memB_no fun m => hn _ m rfl
  rw [e2, small_of (by omega)]
  rfl
theorem init_ok {many : Int} {ws : List Tx} (h : Cd many ws) : m_Code___init__ many ws = .ok ⟨many, ws⟩ := by
  have hm := h.m
  unfold m_Code___init__
  simp only [ok_bind, bind_bind, is_integer_ok, Bool.not_true, Bool.false_eq_true, if_false]
  rw [if_pos (decide_eq_true (show (2 : Int) ≤ many by omega)), decide_eq_true (show many ≤ (3 : Int) by omega)]
  simp only [ok_bind, Bool.not_true, Bool.false_eq_true, if_false, look_ok h]

theorem not_int {d : PyData} (h : isD "int" (enc d) = false ∨ isD "bool" (enc d) = true) : m_is_integer d = .ok false := by
  unfold m_is_integer
  simp only [ok_bind, bind_bind]
  cases e : isD "int" (enc d) with
  | false => simp
  | true =>
    rcases h with h | h
    · rw [e] at h; cases h
    · simp [h]
end K06

namespace K06
open PySem PySem.Spec PyProof.Rows L2 Ty PL
open Enc (enc)
/-- words as the readers take them -/
structure Wr (ws : List Tx) : Prop where
  n : ws.length ≤ 7
  l : ∀ w ∈ ws, w.length ≤ 6
  ne : ∀ w ∈ ws, w ≠ []
theorem Wr.rev {ws : List Tx} (h : Wr ws) : Wr (ws.map List.reverse) := ⟨by rw [List.length_map]; exact h.n, fun w m => by
  obtain ⟨v, hv, rfl⟩ := List.mem_map.1 m
  rw [List.length_reverse]; exact h.l v hv, fun w m e => by
  obtain ⟨v, hv, rfl⟩ := List.mem_map.1 m
  exact h.ne v hv (List.reverse_eq_nil_iff.1 e)⟩
theorem wp_of {α : Type} {m : Prog α} {x : α} {P : α → Prop} {E : Exc → Prop} (h : m = .ok x) (h2 : P x) : wp m P E := by rw [h]; exact h2
theorem in_taste_ok {ws : List Tx} (h : Wr ws) (way : Tx) : m_in_taste ws way = .ok (inT ws way) := by
  unfold m_in_taste
  simp only [ok_bind, bind_bind, chk_bind]
  have hn := h.n
  have e : (decide ((ws.length : Int).natAbs < 2 ^ 61) && small (ws.length : Int).toNat) = true := by
    rw [Bool.and_eq_true]
    exact ⟨decide_eq_true (by omega), small_of (by omega)⟩
  refine chk_eq e ?_
  unfold inT
  by_cases hw : way = wList
  · rw [if_pos hw]
    exact ite_t (decide_eq_true hw) rfl
  · rw [if_neg hw]
    refine ite_f (by simpa using hw) (chk_eq (okL_iff.2 ⟨by omega, fun w m => by have := h.l w m; omega, ?_, fun k m => ?_⟩) rfl)
    · show (rng 0 (ws.length : Int)).length ≤ 1000
      rw [rng_len]; omega
    · exact rng_mem.1 m
/-- cut of a string at two places -/
theorem cut_word (s : Tx) (p n : Nat) : cut s (some (p : Int)) (some ((p : Int) + (n : Int))) = (s.drop p).take n := by
  by_cases hp : p ≤ s.length
  · exact cut_mid hp
  · unfold cut
    rw [sIx_lo _ _ (by omega), sIx_lo _ _ (by omega), Int.toNat_natCast]
    rw [List.drop_eq_nil_of_le (by omega), List.drop_eq_nil_of_le (by omega)]
    simp
def able (ws : List Tx) (way s : Tx) : List Int := (inT ws way).filter (mt ws s)
theorem comp_ok {ws : List Tx} (h : Wr ws) {way s : Tx} (hs : s.length ≤ 1000) (p : Nat) (q : Int) (hq : q = (p : Int)) {t : Int → Prog Bool}
    (ht : ∀ k w, getI ws k = .ok w → small w.length = true → small s.length = true → t k = .ok (decide (cut s (some q) (some (q + (w.length : Int))) = w))) : compP t (fun a => Prog.ok a) (inT ws way) = .ok (able ws way (s.drop p)) := by
  have := compP_ok (t := t) (f := fun a => Prog.ok a) (p := mt ws (s.drop p)) (g := fun a => a) (xs := inT ws way) (fun k m => ?_) (fun _ _ => rfl)
  · rw [this, List.map_id']
    rfl
  · obtain ⟨g, m2⟩ := gw_in (inT_mem.1 m)
    have := h.l _ m2
    rw [ht k _ g (small_of (by omega)) (small_of (by omega)), hq, cut_word]
    rfl
theorem able_len {ws : List Tx} (h : Wr ws) (way s : Tx) : (able ws way s).length ≤ 7 := by
  have h1 := List.length_filter_le (mt ws s) (inT ws way)
  rw [inT_len] at h1
  have := h.n
  unfold able
  omega
theorem read_front_ok {ws : List Tx} (h : Wr ws) (way : Tx) {s : Tx} (hs : s.length ≤ 1000) : wp (m_read_front ws s way) (fun r => r = ((RD ws way s).1, ((RD ws way s).2 : Int))) (fun _ => False) := by
  have sm : ∀ {n : Nat}, n ≤ 100000 → small n = true := fun h => small_of h
  have l7 : (inT ws way).length ≤ 7 := by rw [inT_len]; exact h.n
  unfold m_read_front
  simp only [ok_bind, bind_bind, chk_bind]
  refine wp_step (ite_t (by simp) rfl) (wp_step (in_taste_ok h way) (wp_step (chk_eq (sm (by omega)) (comp_ok h (way := way) hs 0 0 rfl fun k w g s1 s2 => bind_step g (chk_eq s1 (chk_eq s2 (bind_step g rfl))))) ?_))
  refine wp_bind.2 (wp_whileP (Inv := fun (b : List Int × Int × L Int) => ∃ p : Nat, b.2.1 = (p : Int) ∧ p ≤ s.length ∧ b.1.length ≤ p ∧ b.2.2 = able ws way (s.drop p) ∧ (RD ws way s).1 = b.1 ++ (RD ws way (s.drop p)).1 ∧ (RD ws way s).2 = p + (RD ws way (s.drop p)).2)
    (mu := fun b => s.length - b.2.1.toNat) (fun b hI => ?_) ?_ ?_)
  · obtain ⟨row, place, ab⟩ := b
    obtain ⟨p, e1, hp, hl, e2, e3, e4⟩ := hI
    dsimp only at e1 hl e2 e3 e4 ⊢
    subst e1 e2
    have hnn := neP_nil (α := Int) (by decide) (xs := able ws way (s.drop p)) fun _ _ => trivial
    refine wp_step (ite_t (by simp) rfl) (wp_of hnn ?_)
    show if (!List.isEmpty (able ws way (s.drop p))) = true then _ else _
    cases ea : able ws way (s.drop p) with
    | nil =>
      have et : tk ws way (s.drop p) = none := by show (able ws way (s.drop p)).head? = none; rw [ea]; rfl
      rw [RD_none et] at e3 e4
      rw [if_neg (by simp)]
      show (row, (p : Int)) = ((RD ws way s).1, ((RD ws way s).2 : Int))
      rw [e3, e4]
      simp
    | cons k r =>
      have et : tk ws way (s.drop p) = some k := by show (able ws way (s.drop p)).head? = some k; rw [ea]; rfl
      have hk := tk_in et
      have hlen := tk_len h.ne et
      rw [List.length_drop] at hlen
      have hg := (gw_in hk.1).1
      rw [RD_some h.ne et] at e3 e4
      rw [if_pos (by simp)]
      have g0 : getI (un ((k :: r : List Int) : L Int)) 0 = .ok k := getI_nat (by decide) rfl
      refine wp_step g0 (wp_step (ite_t (by simp; omega) rfl) (wp_step g0 (wp_step hg (wp_chk_of (sm (by omega)) ?_))))
      have ep : ((p : Int) + ((gw ws k).length : Int)) = ((p + (gw ws k).length : Nat) : Int) := by simp
      refine wp_step (chk_eq (sm (by omega)) (comp_ok h (way := way) hs (p + (gw ws k).length) _ ep fun j w g s1 s2 => bind_step g (chk_eq s1 (chk_eq s2 (bind_step g rfl))))) ?_
      rw [List.drop_drop] at e3 e4
      refine ⟨⟨p + (gw ws k).length, ep, by omega, by rw [List.length_append]; show row.length + 1 ≤ _; omega, rfl, by rw [e3, List.append_assoc]; rfl, by rw [e4]; omega⟩, ?_⟩
      show s.length - ((p : Int) + ((gw ws k).length : Int)).toNat < s.length - (p : Int).toNat
      omega
  · exact ⟨0, rfl, Nat.zero_le _, Nat.le_refl _, rfl, by simp, by simp⟩
  · show s.length - (0 : Int).toNat < 1000000
    omega
end K06

namespace K06
open PySem PySem.Spec PyProof.Rows L2 Ty PL
open Enc (enc)
def We (ws : List Tx) (e : Bool) : List Tx := if e then ws.map List.reverse else ws
def Se (s : Tx) (e : Bool) : Tx := if e then s.reverse else s
def me (ws : List Tx) (s : Tx) (e : Bool) (k : Int) : Bool := if e then decide (s.drop (s.length - (gw ws k).length) = gw ws k) else decide (s.take (gw ws k).length = gw ws k)
theorem me_eq (ws : List Tx) (s : Tx) (e : Bool) (k : Int) : mt (We ws e) (Se s e) k = me ws s e k := by
  cases e with
  | true => exact mt_rev ws s k
  | false => rfl
theorem ky_e (ws : List Tx) (way : Tx) (e : Bool) (k : Int) : ky (We ws e) way k = ky ws way k := by
  cases e with
  | true => exact ky_rev ws way k
  | false => rfl
theorem We_len (ws : List Tx) (e : Bool) : (We ws e).length = ws.length := by
  cases e with
  | true => exact List.length_map _
  | false => rfl
theorem tk_e (ws : List Tx) (way s : Tx) (e : Bool) : Pk ws.length (ky ws way) (fun k => me ws s e k = true) (tk (We ws e) way (Se s e)) := by
  have h := tk_pk (We ws e) way (Se s e)
  rw [We_len] at h
  rw [show ky (We ws e) way = ky ws way from funext fun k => ky_e ws way e k] at h
  rw [show (fun k => mt (We ws e) (Se s e) k = true) = (fun k => me ws s e k = true) from funext fun k => by rw [me_eq]] at h
  exact h
def ab (ws : List Tx) (s : Tx) (e : Bool) : List Int := (rng 0 (ws.length : Int)).filter (me ws s e)
theorem ab_asc (ws : List Tx) (s : Tx) (e : Bool) : (ab ws s e).Pairwise (· < ·) := (rng_asc _).filter _
theorem ab_mem {ws : List Tx} {s : Tx} {e : Bool} {k : Int} : k ∈ ab ws s e ↔ (0 ≤ k ∧ k < ws.length) ∧ me ws s e k = true := by
  unfold ab
  rw [List.mem_filter, rng_mem]
theorem ab_len (ws : List Tx) (s : Tx) (e : Bool) : (ab ws s e).length ≤ ws.length := by
  have h1 := List.length_filter_le (me ws s e) (rng 0 (ws.length : Int))
  rw [rng_len] at h1
  unfold ab
  omega
theorem pick {ws : List Tx} {way s : Tx} {e : Bool} {k : Int} (hk : k ∈ ab ws s e) (h : ∀ j ∈ ab ws s e, ky ws way k < ky ws way j ∨ (ky ws way k = ky ws way j ∧ k ≤ j)) : tk (We ws e) way (Se s e) = some k :=
  (tk_e ws way s e).uniq (o' := some k) ⟨(ab_mem.1 hk).1, (ab_mem.1 hk).2, fun j h0 h1 hp => h j (ab_mem.2 ⟨⟨h0, h1⟩, hp⟩)⟩
theorem maxL_ok {xs : List Int} (h : xs ≠ []) : ∃ m, maxL xs = .ok m ∧ m ∈ xs ∧ ∀ y ∈ xs, y ≤ m := by
  cases xs with
  | nil => exact absurd rfl h
  | cons a r =>
    obtain ⟨⟨h1, h2⟩, h3⟩ := foldl_max r a
    refine ⟨_, rfl, ?_, fun y m => ?_⟩
    · rcases h3 with z | z
      · rw [z]; simp
      · exact List.mem_cons_of_mem _ z
    · rcases List.mem_cons.1 m with z | z
      · rw [z]; exact h1
      · exact h2 y z
theorem minL_ok {xs : List Int} (h : xs ≠ []) : ∃ m, minL xs = .ok m ∧ m ∈ xs ∧ ∀ y ∈ xs, m ≤ y := by
  cases xs with
  | nil => exact absurd rfl h
  | cons a r =>
    obtain ⟨⟨h1, h2⟩, h3⟩ := foldl_min r a
    refine ⟨_, rfl, ?_, fun y m => ?_⟩
    · rcases h3 with z | z
      · rw [z]; simp
      · exact List.mem_cons_of_mem _ z
    · rcases List.mem_cons.1 m with z | z
      · rw [z]; exact h1
      · exact h2 y z
theorem idx_ok {xs : List Int} {m : Int} (h : m ∈ xs) : idxP (un (xs : L Int)) m = .ok ((xs.idxOf m : Nat) : Int) := if_pos h
theorem law_take_ok {many : Int} {ws : List Tx} (h : Wr ws) {way : Tx} (hw : way = wLong ∨ way = wShort ∨ way = wList) {s : Tx} (hs : s.length ≤ 1000) (e : Bool) : m__law_take ⟨many, ws⟩ s way e = .ok (tk (We ws e) way (Se s e)) := by
  have sm : ∀ {n : Nat}, n ≤ 100000 → small n = true := fun h => small_of h
  have h7 := h.n
  have al := ab_len ws s e
  unfold m__law_take
  simp only [ok_bind, bind_bind, chk_bind]
  refine bind_step (ite_t (by simp) rfl) (chk_eq (decide_eq_true (by show (ws.length : Int).natAbs < _; omega)) ?_)
  refine bind_step (x := ab ws s e) ?_ ?_
  · refine (foldP_app (β := Int) (K := 7) (n := 1) (h := fun k => if me ws s e k = true then [k] else []) (xs := rng 0 (ws.length : Int)) (b := []) (fun b k m hb => ?_) (fun k m => by split <;> simp) (by rw [rng_len]; simp; omega)).trans ?_
    rotate_left
    · rw [List.nil_append]
      have := filter_map_flat (me ws s e) (fun k : Int => k) (rng 0 (ws.length : Int))
      rw [List.map_id'] at this
      rw [this]
      rfl
    · obtain ⟨g, mw⟩ := gw_in (rng_mem.1 m)
      have lw := h.l _ mw
      refine bind_step g ?_
      have e1 : (if e = true then chk (small s.length) (chk (small (gw ws k).length) (chk (small s.length) (Prog.ok (decide (cut s (some (if 0 > (s.length : Int) - ((gw ws k).length : Int) then 0 else (s.length : Int) - ((gw ws k).length : Int))) none = gw ws k))))) else Prog.ok false) = (.ok (e && me ws s e k) : Prog Bool) := by
        cases e with
        | false => rfl
        | true =>
          refine ite_t rfl (chk_eq (sm (by omega)) (chk_eq (sm (by omega)) (chk_eq (sm (by omega)) ?_)))
          congr 1
          show _ = decide (s.drop (s.length - (gw ws k).length) = gw ws k)
          have e2 : (if 0 > (s.length : Int) - ((gw ws k).length : Int) then 0 else (s.length : Int) - ((gw ws k).length : Int)) = ((s.length - (gw ws k).length : Nat) : Int) := by split <;> omega
          rw [e2, cut_from (by omega), Int.toNat_natCast]
      refine bind_step e1 ?_
      have e3 : (if (e && me ws s e k) = true then Prog.ok true else if (!e) = true then chk (small (gw ws k).length) (chk (small s.length) (Prog.ok (decide (cut s none (some ((gw ws k).length : Int)) = gw ws k)))) else Prog.ok false) = (.ok (me ws s e k) : Prog Bool) := by
        cases e with
        | true =>
          cases hm : me ws s true k with
          | true => rfl
          | false => rfl
        | false =>
          refine ite_f (by simp) (ite_t rfl (chk_eq (sm (by omega)) (chk_eq (sm (by omega)) ?_)))
          rw [cut_to (by omega), Int.toNat_natCast]
          rfl
      refine bind_step e3 ?_
      cases hm : me ws s e k with
      | true => exact bind_step (ite_t rfl (chk_eq (sm (by omega)) rfl)) (by simp)
      | false => exact bind_step (ite_f (by simp) rfl) (by simp)
  · refine bind_step rfl (bind_step (ite_t (by simp) rfl) (bind_step (eqP_nil (α := Int) (by decide) (xs := ab ws s e) fun _ _ => trivial) ?_))
    by_cases e0 : ab ws s e = []
    · refine ite_t (by rw [e0]; rfl) ?_
      have : tk (We ws e) way (Se s e) = none := (tk_e ws way s e).uniq (o' := none) fun j h0 h1 hp => by
        have : j ∈ ab ws s e := ab_mem.2 ⟨⟨h0, h1⟩, hp⟩
        rw [e0] at this
        cases this
      rw [this]
    refine ite_f (by simpa using e0) (bind_step (x := (ab ws s e).map fun k => ((gw ws k).length : Int)) (bind_step rfl (chk_eq (sm (by omega)) (mapP_ok fun k m => ?_))) ?_)
    · obtain ⟨g, mw⟩ := gw_in (ab_mem.1 m).1
      have := h.l _ mw
      exact bind_step g (chk_eq (sm (by omega)) rfl)
    have ne2 : ((ab ws s e).map fun k => ((gw ws k).length : Int)) ≠ [] := fun z => e0 (List.map_eq_nil_iff.1 z)
    rcases hw with z | z | z
    · obtain ⟨m, e1, m1, m2⟩ := maxL_ok ne2
      obtain ⟨k, hk, mk, gk, fk⟩ := first_ix (ab_asc ws s e) m1
      refine ite_t (decide_eq_true z) (bind_step rfl (bind_step e1 (bind_step (idx_ok m1) (bind_step (getI_nat (a := k) (by omega) (by rw [Int.toNat_natCast]; exact hk)) ?_))))
      rw [pick mk fun j mj => ?_]
      have ef : ∀ j, ky ws way j = ((gw ws j).length : Int) * (-1) := fun j => by
        unfold ky keyL
        rw [if_neg (by rw [z]; decide), if_pos z]
      rw [ef, ef]
      have h1 := m2 _ (List.mem_map_of_mem mj)
      by_cases eq : ((gw ws j).length : Int) = m
      · exact .inr ⟨by omega, fk j mj eq⟩
      · exact .inl (by omega)
    · obtain ⟨m, e1, m1, m2⟩ := minL_ok ne2
      obtain ⟨k, hk, mk, gk, fk⟩ := first_ix (ab_asc ws s e) m1
      refine ite_f (by rw [z]; decide) (ite_f (by rw [z]; decide) (bind_step rfl (bind_step e1 (bind_step (idx_ok m1) (bind_step (getI_nat (a := k) (by omega) (by rw [Int.toNat_natCast]; exact hk)) ?_)))))
      rw [pick mk fun j mj => ?_]
      have ef : ∀ j, ky ws way j = ((gw ws j).length : Int) * 1 := fun j => by
        unfold ky keyL
        rw [if_neg (by rw [z]; decide), if_neg (by rw [z]; decide)]
      rw [ef, ef]
      have h1 := m2 _ (List.mem_map_of_mem mj)
      by_cases eq : ((gw ws j).length : Int) = m
      · exact .inr ⟨by omega, fk j mj eq⟩
      · exact .inl (by omega)
    · cases ea : ab ws s e with
      | nil => exact absurd ea e0
      | cons k r =>
        refine ite_f (by rw [z]; decide) (ite_t (decide_eq_true z) (bind_step rfl (bind_step (getI_nat (a := k) (by decide) rfl) ?_)))
        have asc := ab_asc ws s e
        rw [ea] at asc
        rw [pick (k := k) (by rw [ea]; simp) fun j mj => ?_]
        have ef : ∀ j, ky ws way j = 0 := fun j => by
          unfold ky
          rw [if_pos z]
        rw [ef, ef]
        refine .inr ⟨rfl, ?_⟩
        rw [ea] at mj
        rcases List.mem_cons.1 mj with y | y
        · rw [y]; exact Int.le_refl _
        · have := (List.pairwise_cons.1 asc).1 j y
          omega
end K06

namespace K06
open PySem PySem.Spec PyProof.Rows L2 Ty PL
open Enc (enc)
def Re (e : Bool) (xs : List Int) : List Int := if e then xs.reverse else xs
theorem Wr.e {ws : List Tx} (h : Wr ws) (e : Bool) : Wr (We ws e) := by
  cases e with
  | true => exact h.rev
  | false => exact h
theorem gw_e (ws : List Tx) (e : Bool) (k : Int) : (gw (We ws e) k).length = (gw ws k).length := by
  cases e with
  | true => show (gw (ws.map List.reverse) k).length = _; rw [gw_rev, List.length_reverse]
  | false => rfl
theorem Se_len (s : Tx) (e : Bool) : (Se s e).length = s.length := by
  cases e with
  | true => exact List.length_reverse
  | false => rfl
theorem law_read_ok {many : Int} {ws : List Tx} (h : Wr ws) {way : Tx} (hw : way = wLong ∨ way = wShort ∨ way = wList) {s side : Tx} (hs : s.length ≤ 1000) :
    wp (m__law_read ⟨many, ws⟩ s way side) (fun r => r = (Re (decide (side = [101, 110, 100])) (RD (We ws (decide (side = [101, 110, 100]))) way (Se s (decide (side = [101, 110, 100])))).1, ((RD (We ws (decide (side = [101, 110, 100]))) way (Se s (decide (side = [101, 110, 100])))).2 : Int))) (fun _ => False) := by
  have sm : ∀ {n : Nat}, n ≤ 100000 → small n = true := fun h => small_of h
  have h7 := h.n
  unfold m__law_read
  simp only [ok_bind, bind_bind, chk_bind]
  generalize decide (side = [101, 110, 100]) = e
  refine wp_step (ite_t (by simp) rfl) (wp_step (law_take_ok h hw hs e) ?_)
  refine wp_bind.2 (wp_whileP (Inv := fun (b : List Int × Tx × Option Int) => b.2.1.length ≤ s.length ∧ b.2.2 = tk (We ws e) way (Se b.2.1 e) ∧ b.1.length + b.2.1.length ≤ s.length ∧
      (RD (We ws e) way (Se s e)).1 = Re e b.1 ++ (RD (We ws e) way (Se b.2.1 e)).1 ∧ (RD (We ws e) way (Se s e)).2 = (s.length - b.2.1.length) + (RD (We ws e) way (Se b.2.1 e)).2)
    (mu := fun b => b.2.1.length) (fun b hI => ?_) ?_ ?_)
  · obtain ⟨row, left, kk⟩ := b
    obtain ⟨hl, ek, hr, e3, e4⟩ := hI
    dsimp only at hl ek hr e3 e4 ⊢
    subst ek
    cases et : tk (We ws e) way (Se left e) with
    | none =>
      rw [RD_none et] at e3 e4
      refine wp_of (x := false) rfl ?_
      rw [if_neg Bool.false_ne_true]
      refine wp_chk_of (sm (by omega)) (wp_chk_of (sm (by omega)) ?_)
      show (row, (s.length : Int) - (left.length : Int)) = _
      rw [e3, e4]
      refine Prod.ext ?_ ?_
      · show row = Re e (Re e row ++ [])
        rw [List.append_nil]
        cases e with
        | true => exact (List.reverse_reverse _).symm
        | false => rfl
      · show (s.length : Int) - (left.length : Int) = ((s.length - left.length + 0 : Nat) : Int)
        omega
    | some k =>
      have hk := tk_in et
      have hlen := tk_len (h.e e).ne et
      rw [gw_e, Se_len] at hlen
      rw [We_len] at hk
      have hg := (gw_in hk.1).1
      have hd : (Se left e).drop (gw (We ws e) k).length = Se (if e = true then left.take (left.length - (gw ws k).length) else left.drop (gw ws k).length) e := by
        rw [gw_e]
        cases e with
        | true =>
          show left.reverse.drop _ = (left.take _).reverse
          rw [List.drop_reverse]
        | false => rfl
      rw [RD_some (h.e e).ne et, gw_e] at e3 e4
      rw [gw_e] at hd
      rw [hd] at e3 e4
      refine wp_of (x := true) rfl ?_
      rw [if_pos rfl]
      have fs : fromSome (some k) = .ok k := rfl
      have hl2 : (if e = true then left.take (left.length - (gw ws k).length) else left.drop (gw ws k).length).length = left.length - (gw ws k).length := by
        split
        · rw [List.length_take]; omega
        · rw [List.length_drop]
      refine wp_step (x := (if e = true then k :: row else row ++ [k], if e = true then left.take (left.length - (gw ws k).length) else left.drop (gw ws k).length)) ?_ ?_
      · cases e with
        | true =>
          refine ite_t rfl (bind_step fs (bind_step (ite_t (by simp) rfl) (chk_eq (sm (by simp; omega)) (chk_eq (sm (by omega)) (bind_step fs (bind_step hg (chk_eq (sm (by omega)) (chk_eq (sm (by omega)) ?_))))))))
          have e2 : ((left.length : Int) - ((gw ws k).length : Int)) = ((left.length - (gw ws k).length : Nat) : Int) := by omega
          rw [e2, cut_to (by omega), Int.toNat_natCast]
          rfl
        | false =>
          refine ite_f (by simp) (bind_step fs (bind_step (ite_t (by simp) rfl) (chk_eq (sm (by simp; omega)) (bind_step fs (bind_step hg (chk_eq (sm (by omega)) (chk_eq (sm (by omega)) ?_)))))))
          rw [cut_from (by omega), Int.toNat_natCast]
          rfl
      · generalize hL : (if e = true then left.take (left.length - (gw ws k).length) else left.drop (gw ws k).length) = left2 at e3 e4 hl2 ⊢
        refine wp_step (law_take_ok h hw (s := left2) (by omega) e) ⟨⟨by show left2.length ≤ _; omega, rfl, ?_, ?_, ?_⟩, ?_⟩
        · show (if e = true then k :: row else row ++ [k]).length + left2.length ≤ s.length
          have : (if e = true then k :: row else row ++ [k]).length = row.length + 1 := by split <;> simp
          omega
        · show _ = Re e (if e = true then k :: row else row ++ [k]) ++ _
          rw [e3]
          cases e with
          | true => show row.reverse ++ _ = (k :: row).reverse ++ _; rw [List.reverse_cons, List.append_assoc]; rfl
          | false => show row ++ _ = (row ++ [k]) ++ _; rw [List.append_assoc]; rfl
        · show _ = s.length - left2.length + (RD (We ws e) way (Se left2 e)).2
          rw [e4]
          show s.length - left.length + ((gw ws k).length + (RD (We ws e) way (Se left2 e)).2) = _
          omega
        · show left2.length < left.length
          omega
  · refine ⟨Nat.le_refl _, rfl, by simp, ?_, by simp⟩
    show _ = Re e [] ++ _
    cases e <;> rfl
  · show s.length < 1000000
    omega
/-! the program's reader -/
theorem isD_str (w : Tx) : isD "str" (enc (enc w : PyData)) = true := rfl
theorem way_ok {way side : Tx} (hw : way = wLong ∨ way = wShort ∨ way = wList) (hd : side = [102, 114, 111, 110, 116] ∨ side = [101, 110, 100]) : m_look_at_way (enc way) (enc side) = .ok () := by
  rcases hw with rfl | rfl | rfl <;> rcases hd with rfl | rfl <;> rfl
theorem string_ok {many : Int} (hm : many = 2 ∨ many = 3) {ws : List Tx} {s : Tx} (h : ∀ c ∈ s, Lett many c) (hl : s.length ≤ 100000) : m_look_at_string ⟨many, ws⟩ (enc s) = .ok () := by
  unfold m_look_at_string
  simp only [ok_bind, bind_bind, chk_bind]
  exact bind_step (is_string_ok hm h hl) rfl
theorem turned_ok {ws : List Tx} (h : Wr ws) : m_turned_words ws = .ok (ws.map List.reverse) := by
  unfold m_turned_words
  simp only [ok_bind, bind_bind, chk_bind]
  have := h.n
  exact bind_step (chk_eq (small_of (show ws.length ≤ 100000 by omega)) (mapP_ok (g := List.reverse) fun (w : Tx) m => chk_eq (small_of (show w.length ≤ 100000 by have := h.l w m; omega)) rfl)) rfl
theorem read_ok {many : Int} (hm : many = 2 ∨ many = 3) {ws : List Tx} (h : Wr ws) {way side : Tx} (hw : way = wLong ∨ way = wShort ∨ way = wList) (hd : side = [102, 114, 111, 110, 116] ∨ side = [101, 110, 100]) {s : Tx} (hs : s.length ≤ 1000) (hc : ∀ c ∈ s, Lett many c) :
    wp (m_read ⟨many, ws⟩ s way side) (fun r => r = (Re (decide (side = [101, 110, 100])) (RD (We ws (decide (side = [101, 110, 100]))) way (Se s (decide (side = [101, 110, 100])))).1, ((RD (We ws (decide (side = [101, 110, 100]))) way (Se s (decide (side = [101, 110, 100])))).2 : Int))) (fun _ => False) := by
  unfold m_read
  simp only [ok_bind, bind_bind, chk_bind]
  refine wp_step (string_ok hm hc (by omega)) (wp_step (way_ok hw hd) ?_)
  rcases hd with rfl | rfl
  · exact wp_ite_t rfl (wp_mono (read_front_ok h way hs) fun r hr => hr)
  · refine wp_ite_f (by decide) (wp_step (turned_ok h) (wp_chk_of (small_of (by omega)) ?_))
    refine wp_bind.2 (wp_mono (read_front_ok h.rev way (s := s.reverse) (by rw [List.length_reverse]; exact hs)) fun r hr => ?_)
    subst hr
    rfl
end K06

namespace K06
open PySem PySem.Spec PyProof.Rows L2 Ty PL
open Enc (enc)
def RowOk (ws : List Tx) (row : List Int) : Prop := ∀ k ∈ row, 0 ≤ k ∧ k < ws.length
def word (ws : List Tx) (k : Int) : Tx := ws.getD k.toNat []
def txt (ws : List Tx) (row : List Int) : Tx := (row.map (word ws)).flatten
theorem word_get {ws : List Tx} {k : Int} (h : 0 ≤ k ∧ k < ws.length) : getI ws k = .ok (word ws k) ∧ word ws k ∈ ws := by
  obtain ⟨w, hw, mw, hg⟩ := getI_ex (xs := ws) (i := k) h.1 h.2
  have : word ws k = w := by unfold word; rw [List.getD_eq_getElem?_getD, hw]; rfl
  rw [this]; exact ⟨hg, mw⟩
theorem row_ok {many : Int} {ws : List Tx} (h : Cd many ws) : wp (m__law_row ⟨many, ws⟩ 5) (fun row => row.length ≤ 5 ∧ RowOk ws row) (fun _ => False) := by
  unfold m__law_row
  simp only [ok_bind, bind_bind, chk_bind, m__law_next, draw_bind]
  refine ⟨by omega, by omega, fun i i0 i1 => ?_⟩
  have hr : (rng 0 i).length = i.toNat := by simp [rng]
  refine wp_chk_of (decide_eq_true (by omega)) (wp_chk_of (small_of (by rw [hr]; omega)) ?_)
  refine wp_bind.2 (wp_mono (wp_noerr_of (wp_mapP (Q := fun _ (k : Int) => 0 ≤ k ∧ k < ws.length) fun a _ => ?_)) fun (ys : List Int) hy => ?_)
  · exact ⟨by have := h.l1; omega, by have := h.l6; omega, fun j j0 j1 => ⟨j0, j1⟩⟩
  exact ⟨by show ys.length ≤ 5; rw [hy.1, hr]; omega, fun k m => by
    obtain ⟨_, _, hk⟩ := hy.2 k m
    exact hk⟩
theorem sumLen_bound {xs : List Tx} {n : Nat} (h : ∀ x ∈ xs, x.length ≤ n) : sumLen xs ≤ xs.length * n := by
  unfold sumLen
  exact tot_le h
theorem law_text_ok {many : Int} {ws : List Tx} (h4 : ∀ w ∈ ws, w.length ≤ 4) {row : List Int} (hl : row.length ≤ 100) (hr : RowOk ws row) : m__law_text ⟨many, ws⟩ row = .ok (txt ws row) := by
  unfold m__law_text
  simp only [ok_bind, bind_bind, chk_bind]
  refine bind_step (chk_eq (small_of (by omega)) (mapP_ok (g := word ws) fun k mk => (word_get (hr k mk)).1)) (chk_eq (small_of ?_) ?_)
  · have := sumLen_bound (xs := row.map (word ws)) (n := 4) fun x mx => by
      obtain ⟨k, mk, rfl⟩ := List.mem_map.1 mx
      exact h4 _ (word_get (hr k mk)).2
    show sumLen (row.map (word ws)) + (row.map (word ws)).length * 0 ≤ _
    rw [List.length_map] at *
    omega
  · show Prog.ok (joinT [] (row.map (word ws))) = _
    rw [join_nil]
    rfl
theorem txt_len {ws : List Tx} (h4 : ∀ w ∈ ws, w.length ≤ 4) {row : List Int} (hr : RowOk ws row) : (txt ws row).length ≤ row.length * 4 := by
  unfold txt
  rw [List.length_flatten]
  have := tot_le (f := List.length) (k := 4) (xs := row.map (word ws)) fun x mx => by
    obtain ⟨k, mk, rfl⟩ := List.mem_map.1 mx
    exact h4 _ (word_get (hr k mk)).2
  rw [List.length_map] at this
  exact this
theorem txt_in {many : Int} {ws : List Tx} (h : Cd many ws) {row : List Int} (hr : RowOk ws row) : ∀ c ∈ txt ws row, Lett many c := fun c m => by
  obtain ⟨w, hw, hc⟩ := List.mem_flatten.1 m
  obtain ⟨k, mk, rfl⟩ := List.mem_map.1 hw
  exact (h.w _ (word_get (hr k mk)).2).1 c hc
theorem not_str {many : Int} {d : PyData} (h : isD "str" (enc d) = false) : m_is_string many d = .ok false := by
  unfold m_is_string
  simp only [ok_bind, bind_bind]
  rw [h]
  rfl
theorem bad_text {many : Int} (hm : many = 2 ∨ many = 3) {w : Tx} (hl : w.length ≤ 1000) {c : Nat} (hc : c ∈ w) (hn : ¬ Lett many c) : m_is_string many (enc w) = .ok false := by
  rw [is_string_eq hm (by omega)]
  exact congrArg Prog.ok (decide_eq_false fun h => hn (h c hc))

theorem next_ok {n : Int} (h0 : 0 < n) (h1 : n ≤ 1000000) {P : Int → Prop} (h : ∀ i, 0 ≤ i → i < n → P i) : wp (m__law_next n) P (fun _ => False) := ⟨h0, h1, h⟩
theorem ne_c {α β : Type} [Enc α] [Enc β] {a : α} {b : β} {r : Bool} (h : (SeqAt.shaped (enc a) && SeqAt.shaped (enc b)) = true) (h2 : (!PyData.eqv (enc a) (enc b)) = r) : neP a b = .ok r := by
  unfold neP
  rw [h, h2]
  rfl
theorem rd_pair (r : List Int × Int) : neP r r = .ok false := by
  have h := neP_dec (α := List Int × Int) (by decide) (a := r) (b := r) ⟨fun _ _ => trivial, trivial⟩ ⟨fun _ _ => trivial, trivial⟩
  rw [show (!decide (r = r)) = false by simp] at h
  exact h
theorem refused_way {many : Int} (hm : many = 2 ∨ many = 3) {ws : List Tx} {s : Tx} (h : ∀ c ∈ s, Lett many c) (hl : s.length ≤ 100000) {d1 d2 : PyData} (hb : m_look_at_way d1 d2 = .err ⟨"InvalidWay", []⟩) : m__law_refused ⟨many, ws⟩ s d1 d2 = .ok (some [119, 97, 121]) := by
  unfold m__law_refused m_read_err
  simp only [ok_bind, bind_bind, chk_bind]
  rw [string_ok hm h hl]
  simp only [ok_bind]
  rw [hb]
  rfl
theorem refused_string {many : Int} (hm : many = 2 ∨ many = 3) {ws : List Tx} {s : Tx} (hl : s.length ≤ 1000) (h : (120 : Nat) ∈ s) {d1 d2 : PyData} : m__law_refused ⟨many, ws⟩ s d1 d2 = .ok (some [115, 116, 114, 105, 110, 103]) := by
  unfold m__law_refused m_read_err m_look_at_string
  simp only [ok_bind, bind_bind, chk_bind]
  rw [bad_text hm hl h (by unfold Lett; omega)]
  rfl
theorem barred_way {many : Int} {ws : List Tx} {d1 d2 : PyData} (hb : m_look_at_way d1 d2 = .err ⟨"InvalidWay", []⟩) : m__law_barred ⟨many, ws⟩ d1 d2 = .ok true := by
  unfold m__law_barred m_misread_err
  simp only [ok_bind, bind_bind, chk_bind]
  rw [hb]
  rfl
/-- a drawn string -/
theorem string_draw {many : Int} (hm : many = 2 ∨ many = 3) {n : Int} (n0 : 0 ≤ n) (n1 : n < 15) : wp (chk (inRange n) (chk (small (rng 0 n).length) (noerr (mapP (fun _ => m__law_next many >>= fun a22 => getS [97, 98, 99] a22) (rng 0 n)) >>= fun (a25 : L Tx) => chk (small (sumLen (un a25) + (un a25).length * ([] : Tx).length)) (Prog.ok (joinT [] (un a25)))))) (fun s => (∀ c ∈ s, Lett many c) ∧ s.length ≤ 20) (fun _ => False) := by
  have hrg : (rng 0 n).length = n.toNat := by simp [rng]
  refine wp_chk_of (decide_eq_true (by omega)) (wp_chk_of (small_of (by rw [hrg]; omega)) ?_)
  refine wp_bind.2 (wp_mono (wp_noerr_of (wp_mapP (Q := fun _ (y : Tx) => ∃ c, y = [c] ∧ Lett many c) fun a _ => ?_)) fun (ys : List Tx) hy => ?_)
  · refine ⟨by omega, by omega, fun j j0 j1 => ?_⟩
    have : j = 0 ∨ j = 1 ∨ (j = 2 ∧ many = 3) := by omega
    rcases this with e | e | ⟨e, e2⟩
    · subst e; exact ⟨97, rfl, .inl rfl⟩
    · subst e; exact ⟨98, rfl, .inr (.inl rfl)⟩
    · subst e; exact ⟨99, rfl, .inr (.inr ⟨rfl, e2⟩)⟩
  · obtain ⟨hl, hy⟩ := hy
    have h1' : ∀ y ∈ ys, y.length = 1 := fun y m => by
      obtain ⟨_, _, c, e, _⟩ := hy y m
      rw [e]; rfl
    have hsl := sumLen_one h1'
    refine wp_chk_of (small_of ?_) ?_
    · show sumLen ys + ys.length * 0 ≤ _
      rw [hsl, hl, hrg]; omega
    · show (∀ c ∈ joinT [] ys, Lett many c) ∧ (joinT [] ys).length ≤ 20
      rw [join_nil]
      have hlen : ys.flatten.length = ys.length := by rw [List.length_flatten]; exact hsl
      refine ⟨fun c m => ?_, by rw [hlen, hl, hrg]; omega⟩
      obtain ⟨y, my, mc⟩ := List.mem_flatten.1 m
      obtain ⟨_, _, d, e, hd⟩ := hy y my
      rw [e] at mc
      rw [List.mem_singleton.1 mc]
      exact hd
theorem wr_of {many : Int} {ws : List Tx} (h : Cd many ws) : Wr ws := ⟨Nat.le_trans h.l6 (by decide), fun w m => Nat.le_trans (cd_4 h w m) (by decide), cd_ne h⟩
theorem law_true : wp m_law (fun b => b = true) (fun _ => False) := by
  unfold m_law
  simp only [ok_bind, bind_bind, chk_bind]
  refine wp_bind.2 (wp_mono (wp_code (by decide) (by decide)) fun t ht => ?_)
  obtain ⟨many, ws⟩ := t
  dsimp only at ht
  have hm := ht.m
  have hW := wr_of ht
  refine wp_step (x := ⟨many, ws⟩) (show m__law_built ⟨many, ws⟩ = .ok ⟨many, ws⟩ from init_ok ht) ?_
  refine wp_bind.2 (wp_mono (row_ok ht) fun row hrow => ?_)
  obtain ⟨rl, hr⟩ := hrow
  refine wp_step (law_text_ok (cd_4 ht) (by omega) hr) (wp_bind.2 (next_ok (by decide) (by decide) fun i i0 i1 => ?_))
  have tl := txt_len (cd_4 ht) hr
  refine wp_bind.2 (wp_mono (P := fun s => (∀ c ∈ s, Lett many c) ∧ s.length ≤ 20) ?_ fun s hs => ?_)
  · by_cases h0 : i = 0
    · exact wp_ite_t (decide_eq_true h0) (wp_bind.2 (next_ok (by decide) (by decide) fun n n0 n1 => string_draw hm n0 n1))
    · exact wp_ite_f (by simpa using h0) ⟨txt_in ht hr, by omega⟩
  obtain ⟨hc, hs⟩ := hs
  refine wp_step (if_pos (by decide)) ?_
  refine wp_foldN (Inv := fun (r : List Tx) _ => ∀ w ∈ r, w = wLong ∨ w = wShort ∨ w = wList) (by
    intro w m
    simpa using m) (fun b way r hI => ?_) fun _ _ => ?_
  · have hway := hI way (by simp)
    refine wp_step (if_pos (by decide)) ?_
    refine wp_foldN (Inv := fun (r : List Tx) _ => ∀ w ∈ r, w = [102, 114, 111, 110, 116] ∨ w = [101, 110, 100]) (by
      intro w m
      simpa using m) (fun b side r hJ => ?_) (fun _ _ => fun w m => hI w (by simp [m]))
    have hside := hJ side (by simp)
    refine wp_bind.2 (wp_mono (read_ok hm hW hway hside (by omega) hc) fun v hv => ?_)
    refine wp_bind.2 (wp_mono (law_read_ok hW hway (side := side) (by omega)) fun u hu => ?_)
    rw [← hv] at hu
    subst hu
    exact wp_step (rd_pair _) (wp_step (x := false) (ite_f (by simp) rfl) (wp_ite_f (by simp) fun w m => hJ w (by simp [m])))
  · refine wp_step (if_pos (by decide)) (wp_step (if_pos (by decide)) (wp_bind.2 (next_ok (by decide) (by decide) fun q q0 q1 => ?_)))
    obtain ⟨d, _, md, gd⟩ := getI_ex (xs := [PyData.none, enc ([108, 111, 110, 103] : Tx), enc ([] : Tx), enc (1 : Int), enc ([[108, 111, 110, 103, 101, 115, 116]] : List Tx), enc ([102, 114, 111, 110, 116] : Tx)]) (i := q) q0 q1
    refine wp_step gd ?_
    have hx : (120 : Nat) ∈ s ++ [120] := by simp
    obtain ⟨b, h1, h2, h3, h4, h5⟩ : ∃ b : Bool, m_look_at_way d (enc ([101, 110, 100] : Tx)) = .err ⟨"InvalidWay", []⟩ ∧ neP d ([102, 114, 111, 110, 116] : Tx) = .ok b ∧
        m_look_at_way (enc wList) (if b = true then d else enc wLong) = .err ⟨"InvalidWay", []⟩ ∧ m_look_at_way d (enc ([102, 114, 111, 110, 116] : Tx)) = .err ⟨"InvalidWay", []⟩ ∧
        m_look_at_way (enc wShort) (if b = true then d else enc ([98, 101, 103, 105, 110] : Tx)) = .err ⟨"InvalidWay", []⟩ := by
      have m' : d = PyData.none ∨ d = enc ([108, 111, 110, 103] : Tx) ∨ d = enc ([] : Tx) ∨ d = enc (1 : Int) ∨ d = enc ([[108, 111, 110, 103, 101, 115, 116]] : List Tx) ∨ d = enc ([102, 114, 111, 110, 116] : Tx) := by simpa using md
      rcases m' with z | z | z | z | z | z <;> subst z
      · exact ⟨true, rfl, (ne_c (by decide +kernel) (by decide +kernel)), rfl, rfl, rfl⟩
      · exact ⟨true, rfl, (ne_c (by decide +kernel) (by decide +kernel)), rfl, rfl, rfl⟩
      · exact ⟨true, rfl, (ne_c (by decide +kernel) (by decide +kernel)), rfl, rfl, rfl⟩
      · exact ⟨true, rfl, (ne_c (by decide +kernel) (by decide +kernel)), rfl, rfl, rfl⟩
      · exact ⟨true, rfl, (ne_c (by decide +kernel) (by decide +kernel)), rfl, rfl, rfl⟩
      · exact ⟨false, rfl, (ne_c (by decide +kernel) (by decide +kernel)), rfl, rfl, rfl⟩
    have nw : neP (some [119, 97, 121] : Option Tx) ([119, 97, 121] : Tx) = .ok false := (ne_c (by decide +kernel) (by decide +kernel))
    have ns : neP (some [115, 116, 114, 105, 110, 103] : Option Tx) ([115, 116, 114, 105, 110, 103] : Tx) = .ok false := (ne_c (by decide +kernel) (by decide +kernel))
    refine wp_step (refused_way hm hc (by omega) h1) (wp_step nw ?_)
    refine wp_step (x := false) (ite_f Bool.false_ne_true (chk_eq (small_of (by simp; omega)) (bind_step (refused_string hm (by simp; omega) hx) ns))) (wp_ite_f Bool.false_ne_true ?_)
    refine wp_step h2 (wp_step (x := if b = true then d else enc wLong) (by cases b <;> rfl) (wp_step (refused_way hm hc (by omega) h3) (wp_step nw (wp_ite_f Bool.false_ne_true ?_))))
    refine wp_step (barred_way h4) (wp_ite_t rfl (wp_step h2 (wp_step (x := if b = true then d else enc ([98, 101, 103, 105, 110] : Tx)) (by cases b <;> rfl) ?_)))
    exact wp_of (barred_way h5) rfl
end K06

namespace K06
open PySem PySem.Spec PyProof.Rows L2 Ty
open Enc (enc)
theorem all_mk {l : PySem.W.OpenLaw} {w : World} {K : PySem.W.Frag} {h : Heap} {mg : Str → Option Value} {fa : Addr} (X : K.In h) (N : h.Ns mainGlobals mg) (hfa : mg "law" = some (.ref fa)) (hm : wp m_law (fun b => b = true) (fun _ => False))
    {tC tP : Addr} {C_Code : Addr} {p_many : Addr} {p_parts : Addr} {X_InvalidString : Addr} {X_InvalidWay : Addr} {f0 : Addr} {od0 an0 : Option Addr} {sl0 : Array (Option Value)} {oc0 kV0 dc0 pm0 cd0 ct0 : Value} {f1 : Addr} {od1 an1 : Option Addr} {sl1 : Array (Option Value)} {oc1 kV1 dc1 pm1 cd1 ct1 : Value} {f2 : Addr} {od2 an2 : Option Addr} {sl2 : Array (Option Value)} {oc2 kV2 dc2 pm2 cd2 ct2 : Value} {f3 : Addr} {od3 an3 : Option Addr} {sl3 : Array (Option Value)} {oc3 kV3 dc3 pm3 cd3 ct3 : Value} {f4 : Addr} {od4 an4 : Option Addr} {sl4 : Array (Option Value)} {oc4 kV4 dc4 pm4 cd4 ct4 : Value} {f5 : Addr} {od5 an5 : Option Addr} {sl5 : Array (Option Value)} {oc5 kV5 dc5 pm5 cd5 ct5 : Value} {f6 : Addr} {od6 an6 : Option Addr} {sl6 : Array (Option Value)} {oc6 kV6 dc6 pm6 cd6 ct6 : Value} {f7 : Addr} {od7 an7 : Option Addr} {sl7 : Array (Option Value)} {oc7 kV7 dc7 pm7 cd7 ct7 : Value} {f8 : Addr} {od8 an8 : Option Addr} {sl8 : Array (Option Value)} {oc8 kV8 dc8 pm8 cd8 ct8 : Value} {f9 : Addr} {od9 an9 : Option Addr} {sl9 : Array (Option Value)} {oc9 kV9 dc9 pm9 ct9 : Value} {f10 : Addr} {od10 an10 : Option Addr} {sl10 : Array (Option Value)} {oc10 kV10 dc10 pm10 cd10 ct10 : Value} {f11 : Addr} {od11 an11 : Option Addr} {sl11 : Array (Option Value)} {oc11 kV11 dc11 pm11 cd11 ct11 : Value} {f13 : Addr} {od13 an13 : Option Addr} {sl13 : Array (Option Value)} {oc13 kV13 dc13 pm13 cd13 ct13 : Value} {f14 : Addr} {od14 an14 : Option Addr} {sl14 : Array (Option Value)} {oc14 kV14 dc14 pm14 cd14 ct14 : Value} {f15 : Addr} {od15 an15 : Option Addr} {sl15 : Array (Option Value)} {oc15 kV15 dc15 pm15 cd15 ct15 : Value} {f16 : Addr} {od16 an16 : Option Addr} {sl16 : Array (Option Value)} {oc16 kV16 dc16 pm16 cd16 ct16 : Value} {f17 : Addr} {od17 an17 : Option Addr} {sl17 : Array (Option Value)} {oc17 kV17 dc17 pm17 cd17 ct17 : Value} {f18 : Addr} {od18 an18 : Option Addr} {sl18 : Array (Option Value)} {oc18 kV18 dc18 pm18 cd18 ct18 : Value} {f19 : Addr} {od19 an19 : Option Addr} {sl19 : Array (Option Value)} {oc19 kV19 dc19 pm19 cd19 ct19 : Value} {f20 : Addr} {od20 an20 : Option Addr} {sl20 : Array (Option Value)} {oc20 kV20 dc20 pm20 cd20 ct20 : Value} {f21 : Addr} {od21 an21 : Option Addr} {sl21 : Array (Option Value)} {oc21 kV21 dc21 pm21 cd21 ct21 : Value} {f22 : Addr} {od22 an22 : Option Addr} {sl22 : Array (Option Value)} {oc22 kV22 dc22 pm22 cd22 ct22 : Value} {f23 : Addr} {od23 an23 : Option Addr} {sl23 : Array (Option Value)} {oc23 kV23 dc23 pm23 cd23 ct23 : Value} {ka_SIDES : Addr} {kd_SIDES : Option Addr} {ksl_SIDES : Array (Option Value)} {kn_SIDES : Nat} {kt_SIDES_0 : Tok} {kt_SIDES_1 : Tok} {ka_WAYS : Addr} {kd_WAYS : Option Addr} {ksl_WAYS : Array (Option Value)} {kn_WAYS : Nat} {kt_WAYS_0 : Tok} {kt_WAYS_1 : Tok} {kt_WAYS_2 : Tok} {tk_LETTERS : Tok} {tk_MOST_SIGNS : Tok} {tk_MOST_WORDS : Tok}
    (aC_Code : PySem.W.nsIn K mainGlobals "Code" = some (some (.ref C_Code)))
    (pg_Code : PySem.W.plainGet K C_Code Str.empty = true)
    (po_Code : PySem.W.plainOver K C_Code = true)
    (sa_Code : PySem.W.findIn K (.ref C_Code) "__setattr__" = some (some (.builtin "object.__setattr__")))
    (mk_Code : PySem.W.makesIn K C_Code = true)
    (kC_Code : PySem.W.keepIn K (.ref C_Code) = true)
    (ic_Code : PySem.W.isClsIn K C_Code = true)
    (at_many : PySem.W.findIn K (.ref C_Code) "many" = some (some (.ref p_many)))
    (gt_many : PySem.W.specialIn K (.ref p_many) "__get__" = some (some (.builtin "member_descriptor.__get__")))
    (tk_many : PySem.W.takesIn K (.ref p_many) = some true)
    (ty_many : PySem.W.typeIn K (.ref p_many) = some (.type "member_descriptor"))
    (ix_many : PySem.W.slotIn K p_many C_Code = some 0)
    (at_parts : PySem.W.findIn K (.ref C_Code) "parts" = some (some (.ref p_parts)))
    (gt_parts : PySem.W.specialIn K (.ref p_parts) "__get__" = some (some (.builtin "member_descriptor.__get__")))
    (tk_parts : PySem.W.takesIn K (.ref p_parts) = some true)
    (ty_parts : PySem.W.typeIn K (.ref p_parts) = some (.type "member_descriptor"))
    (ix_parts : PySem.W.slotIn K p_parts C_Code = some 1)
    (ca_Code : PySem.W.findIn K (.ref C_Code) "__class__" = some (some (.builtin "object.__class__")))
    (cn_Code : PySem.W.specialIn K (.builtin "object.__class__") "__get__" = some (some (.builtin "getset_descriptor.__get__")))
    (ct_Code : PySem.W.takesIn K (.builtin "object.__class__") = some true)
    (cm_Code : PySem.W.mroIn K C_Code (.type "object") = some true)
    (aX_InvalidString : PySem.W.nsIn K mainGlobals "InvalidString" = some (some (.ref X_InvalidString)))
    (bX_InvalidString : PySem.W.subIn K (.ref X_InvalidString) (.type "BaseException") = some true)
    (tX_InvalidString : PySem.W.typeIn K (.ref X_InvalidString) = some (.type "type"))
    (kX_InvalidString : PySem.W.keepIn K (.ref X_InvalidString) = true)
    (iX_InvalidString : PySem.W.isClsIn K X_InvalidString = true)
    (eX_InvalidString : PySem.W.excIn K X_InvalidString [.type "ValueError", .type "Exception", .type "BaseException", .type "object"] "ValueError.__new__" = true)
    (aX_InvalidWay : PySem.W.nsIn K mainGlobals "InvalidWay" = some (some (.ref X_InvalidWay)))
    (bX_InvalidWay : PySem.W.subIn K (.ref X_InvalidWay) (.type "BaseException") = some true)
    (tX_InvalidWay : PySem.W.typeIn K (.ref X_InvalidWay) = some (.type "type"))
    (kX_InvalidWay : PySem.W.keepIn K (.ref X_InvalidWay) = true)
    (iX_InvalidWay : PySem.W.isClsIn K X_InvalidWay = true)
    (eX_InvalidWay : PySem.W.excIn K X_InvalidWay [.type "ValueError", .type "Exception", .type "BaseException", .type "object"] "ValueError.__new__" = true)
    (s_InvalidString_InvalidString : PySem.W.subIn K (.ref X_InvalidString) (.ref X_InvalidString) = some true)
    (s_InvalidString_InvalidWay : PySem.W.subIn K (.ref X_InvalidString) (.ref X_InvalidWay) = some false)
    (s_InvalidWay_InvalidString : PySem.W.subIn K (.ref X_InvalidWay) (.ref X_InvalidString) = some false)
    (s_InvalidWay_InvalidWay : PySem.W.subIn K (.ref X_InvalidWay) (.ref X_InvalidWay) = some true)
    (a0 : PySem.W.nsIn K mainGlobals "_law_mix" = some (some (.ref f0)))
    (l0 : K.lookup f0 = some ⟨oc0, od0, .func (PySem.W.fnOf "_law_mix" "_law_mix" (defArgs s__law_mix) (defBody s__law_mix) (defScope s__law_mix) .none kV0 dc0 pm0 an0 cd0 ct0), sl0⟩)
    (c0 : PySem.W.codeIn K cd0 "_law_mix" = true)
    (k0 : PySem.W.keepIn K (.ref f0) = true)
    (a1 : PySem.W.nsIn K mainGlobals "_law_next" = some (some (.ref f1)))
    (l1 : K.lookup f1 = some ⟨oc1, od1, .func (PySem.W.fnOf "_law_next" "_law_next" (defArgs s__law_next) (defBody s__law_next) (defScope s__law_next) .none kV1 dc1 pm1 an1 cd1 ct1), sl1⟩)
    (c1 : PySem.W.codeIn K cd1 "_law_next" = true)
    (k1 : PySem.W.keepIn K (.ref f1) = true)
    (a2 : PySem.W.nsIn K mainGlobals "is_integer" = some (some (.ref f2)))
    (l2 : K.lookup f2 = some ⟨oc2, od2, .func (PySem.W.fnOf "is_integer" "is_integer" (defArgs s_is_integer) (defBody s_is_integer) (defScope s_is_integer) .none kV2 dc2 pm2 an2 cd2 ct2), sl2⟩)
    (c2 : PySem.W.codeIn K cd2 "is_integer" = true)
    (k2 : PySem.W.keepIn K (.ref f2) = true)
    (a3 : PySem.W.nsIn K mainGlobals "is_string" = some (some (.ref f3)))
    (l3 : K.lookup f3 = some ⟨oc3, od3, .func (PySem.W.fnOf "is_string" "is_string" (defArgs s_is_string) (defBody s_is_string) (defScope s_is_string) .none kV3 dc3 pm3 an3 cd3 ct3), sl3⟩)
    (c3 : PySem.W.codeIn K cd3 "is_string" = true)
    (k3 : PySem.W.keepIn K (.ref f3) = true)
    (a4 : PySem.W.nsIn K mainGlobals "look_at_words" = some (some (.ref f4)))
    (l4 : K.lookup f4 = some ⟨oc4, od4, .func (PySem.W.fnOf "look_at_words" "look_at_words" (defArgs s_look_at_words) (defBody s_look_at_words) (defScope s_look_at_words) .none kV4 dc4 pm4 an4 cd4 ct4), sl4⟩)
    (c4 : PySem.W.codeIn K cd4 "look_at_words" = true)
    (k4 : PySem.W.keepIn K (.ref f4) = true)
    (a5 : PySem.W.findIn K (.ref C_Code) "__init__" = some (some (.ref f5)))
    (i5 : PySem.W.isFn K (.ref f5) = true)
    (l5 : K.lookup f5 = some ⟨oc5, od5, .func (PySem.W.fnOf "__init__" "Code.__init__" (defArgs s_Code___init__) (defBody s_Code___init__) (defScope s_Code___init__) .none kV5 dc5 pm5 an5 cd5 ct5), sl5⟩)
    (c5 : PySem.W.codeIn K cd5 "Code.__init__" = true)
    (k5 : PySem.W.keepIn K (.ref f5) = true)
    (a6 : PySem.W.nsIn K mainGlobals "look_at_string" = some (some (.ref f6)))
    (l6 : K.lookup f6 = some ⟨oc6, od6, .func (PySem.W.fnOf "look_at_string" "look_at_string" (defArgs s_look_at_string) (defBody s_look_at_string) (defScope s_look_at_string) .none kV6 dc6 pm6 an6 cd6 ct6), sl6⟩)
    (c6 : PySem.W.codeIn K cd6 "look_at_string" = true)
    (k6 : PySem.W.keepIn K (.ref f6) = true)
    (a7 : PySem.W.nsIn K mainGlobals "turned_words" = some (some (.ref f7)))
    (l7 : K.lookup f7 = some ⟨oc7, od7, .func (PySem.W.fnOf "turned_words" "turned_words" (defArgs s_turned_words) (defBody s_turned_words) (defScope s_turned_words) .none kV7 dc7 pm7 an7 cd7 ct7), sl7⟩)
    (c7 : PySem.W.codeIn K cd7 "turned_words" = true)
    (k7 : PySem.W.keepIn K (.ref f7) = true)
    (a8 : PySem.W.nsIn K mainGlobals "look_at_way" = some (some (.ref f8)))
    (l8 : K.lookup f8 = some ⟨oc8, od8, .func (PySem.W.fnOf "look_at_way" "look_at_way" (defArgs s_look_at_way) (defBody s_look_at_way) (defScope s_look_at_way) .none kV8 dc8 pm8 an8 cd8 ct8), sl8⟩)
    (c8 : PySem.W.codeIn K cd8 "look_at_way" = true)
    (k8 : PySem.W.keepIn K (.ref f8) = true)
    (a9 : PySem.W.nsIn K mainGlobals "in_taste" = some (some (.ref f9)))
    (l9 : K.lookup f9 = some ⟨oc9, od9, .func (PySem.W.fnOf "in_taste" "in_taste" (defArgs s_in_taste) (defBody s_in_taste) (defScope s_in_taste) .none kV9 dc9 pm9 an9 (.ref tC) ct9), sl9⟩)
    (c9 : PySem.W.codeIn K (.ref tC) "in_taste" = true)
    (k9 : PySem.W.keepIn K (.ref f9) = true)
    (a10 : PySem.W.nsIn K mainGlobals "read_front" = some (some (.ref f10)))
    (l10 : K.lookup f10 = some ⟨oc10, od10, .func (PySem.W.fnOf "read_front" "read_front" (defArgs s_read_front) (defBody s_read_front) (defScope s_read_front) .none kV10 dc10 pm10 an10 cd10 ct10), sl10⟩)
    (c10 : PySem.W.codeIn K cd10 "read_front" = true)
    (k10 : PySem.W.keepIn K (.ref f10) = true)
    (a11 : PySem.W.nsIn K mainGlobals "read" = some (some (.ref f11)))
    (l11 : K.lookup f11 = some ⟨oc11, od11, .func (PySem.W.fnOf "read" "read" (defArgs s_read) (defBody s_read) (defScope s_read) .none kV11 dc11 pm11 an11 cd11 ct11), sl11⟩)
    (c11 : PySem.W.codeIn K cd11 "read" = true)
    (k11 : PySem.W.keepIn K (.ref f11) = true)
    (a13 : PySem.W.nsIn K mainGlobals "misread" = some (some (.ref f13)))
    (l13 : K.lookup f13 = some ⟨oc13, od13, .func (PySem.W.fnOf "misread" "misread" (defArgs s_misread) (defBody s_misread) (defScope s_misread) .none kV13 dc13 pm13 an13 cd13 ct13), sl13⟩)
    (c13 : PySem.W.codeIn K cd13 "misread" = true)
    (k13 : PySem.W.keepIn K (.ref f13) = true)
    (a14 : PySem.W.nsIn K mainGlobals "_law_word" = some (some (.ref f14)))
    (l14 : K.lookup f14 = some ⟨oc14, od14, .func (PySem.W.fnOf "_law_word" "_law_word" (defArgs s__law_word) (defBody s__law_word) (defScope s__law_word) .none kV14 dc14 pm14 an14 cd14 ct14), sl14⟩)
    (c14 : PySem.W.codeIn K cd14 "_law_word" = true)
    (k14 : PySem.W.keepIn K (.ref f14) = true)
    (a15 : PySem.W.nsIn K mainGlobals "_law_code" = some (some (.ref f15)))
    (l15 : K.lookup f15 = some ⟨oc15, od15, .func (PySem.W.fnOf "_law_code" "_law_code" (defArgs s__law_code) (defBody s__law_code) (defScope s__law_code) .none kV15 dc15 pm15 an15 cd15 ct15), sl15⟩)
    (c15 : PySem.W.codeIn K cd15 "_law_code" = true)
    (k15 : PySem.W.keepIn K (.ref f15) = true)
    (a16 : PySem.W.nsIn K mainGlobals "_law_row" = some (some (.ref f16)))
    (l16 : K.lookup f16 = some ⟨oc16, od16, .func (PySem.W.fnOf "_law_row" "_law_row" (defArgs s__law_row) (defBody s__law_row) (defScope s__law_row) .none kV16 dc16 pm16 an16 cd16 ct16), sl16⟩)
    (c16 : PySem.W.codeIn K cd16 "_law_row" = true)
    (k16 : PySem.W.keepIn K (.ref f16) = true)
    (a17 : PySem.W.nsIn K mainGlobals "_law_built" = some (some (.ref f17)))
    (l17 : K.lookup f17 = some ⟨oc17, od17, .func (PySem.W.fnOf "_law_built" "_law_built" (defArgs s__law_built) (defBody s__law_built) (defScope s__law_built) .none kV17 dc17 pm17 an17 cd17 ct17), sl17⟩)
    (c17 : PySem.W.codeIn K cd17 "_law_built" = true)
    (k17 : PySem.W.keepIn K (.ref f17) = true)
    (a18 : PySem.W.nsIn K mainGlobals "_law_text" = some (some (.ref f18)))
    (l18 : K.lookup f18 = some ⟨oc18, od18, .func (PySem.W.fnOf "_law_text" "_law_text" (defArgs s__law_text) (defBody s__law_text) (defScope s__law_text) .none kV18 dc18 pm18 an18 cd18 ct18), sl18⟩)
    (c18 : PySem.W.codeIn K cd18 "_law_text" = true)
    (k18 : PySem.W.keepIn K (.ref f18) = true)
    (a19 : PySem.W.nsIn K mainGlobals "_law_take" = some (some (.ref f19)))
    (l19 : K.lookup f19 = some ⟨oc19, od19, .func (PySem.W.fnOf "_law_take" "_law_take" (defArgs s__law_take) (defBody s__law_take) (defScope s__law_take) .none kV19 dc19 pm19 an19 cd19 ct19), sl19⟩)
    (c19 : PySem.W.codeIn K cd19 "_law_take" = true)
    (k19 : PySem.W.keepIn K (.ref f19) = true)
    (a20 : PySem.W.nsIn K mainGlobals "_law_read" = some (some (.ref f20)))
    (l20 : K.lookup f20 = some ⟨oc20, od20, .func (PySem.W.fnOf "_law_read" "_law_read" (defArgs s__law_read) (defBody s__law_read) (defScope s__law_read) .none kV20 dc20 pm20 an20 cd20 ct20), sl20⟩)
    (c20 : PySem.W.codeIn K cd20 "_law_read" = true)
    (k20 : PySem.W.keepIn K (.ref f20) = true)
    (a21 : PySem.W.nsIn K mainGlobals "_law_refused" = some (some (.ref f21)))
    (l21 : K.lookup f21 = some ⟨oc21, od21, .func (PySem.W.fnOf "_law_refused" "_law_refused" (defArgs s__law_refused) (defBody s__law_refused) (defScope s__law_refused) .none kV21 dc21 pm21 an21 cd21 ct21), sl21⟩)
    (c21 : PySem.W.codeIn K cd21 "_law_refused" = true)
    (k21 : PySem.W.keepIn K (.ref f21) = true)
    (a22 : PySem.W.nsIn K mainGlobals "_law_barred" = some (some (.ref f22)))
    (l22 : K.lookup f22 = some ⟨oc22, od22, .func (PySem.W.fnOf "_law_barred" "_law_barred" (defArgs s__law_barred) (defBody s__law_barred) (defScope s__law_barred) .none kV22 dc22 pm22 an22 cd22 ct22), sl22⟩)
    (c22 : PySem.W.codeIn K cd22 "_law_barred" = true)
    (k22 : PySem.W.keepIn K (.ref f22) = true)
    (a23 : PySem.W.nsIn K mainGlobals "law" = some (some (.ref f23)))
    (l23 : K.lookup f23 = some ⟨oc23, od23, .func (PySem.W.fnOf "law" "law" (defArgs s_law) (defBody s_law) (defScope s_law) .none kV23 dc23 pm23 an23 cd23 ct23), sl23⟩)
    (c23 : PySem.W.codeIn K cd23 "law" = true)
    (k23 : PySem.W.keepIn K (.ref f23) = true)
    (z_all : PySem.W.nsIn K mainGlobals "all" = some none)
    (z_bool : PySem.W.nsIn K mainGlobals "bool" = some none)
    (z_enumerate : PySem.W.nsIn K mainGlobals "enumerate" = some none)
    (z_int : PySem.W.nsIn K mainGlobals "int" = some none)
    (z_isinstance : PySem.W.nsIn K mainGlobals "isinstance" = some none)
    (z_len : PySem.W.nsIn K mainGlobals "len" = some none)
    (z_list : PySem.W.nsIn K mainGlobals "list" = some none)
    (z_max : PySem.W.nsIn K mainGlobals "max" = some none)
    (z_min : PySem.W.nsIn K mainGlobals "min" = some none)
    (z_range : PySem.W.nsIn K mainGlobals "range" = some none)
    (z_sorted : PySem.W.nsIn K mainGlobals "sorted" = some none)
    (z_str : PySem.W.nsIn K mainGlobals "str" = some none)
    (z_tuple : PySem.W.nsIn K mainGlobals "tuple" = some none)
    (kg_SIDES : PySem.W.nsIn K mainGlobals "SIDES" = some (some (.ref ka_SIDES)))
    (kl_SIDES : K.lookup ka_SIDES = some ⟨.type "tuple", kd_SIDES, .seq #[.str "front" kt_SIDES_0, .str "end" kt_SIDES_1] kn_SIDES, ksl_SIDES⟩)
    (kg_WAYS : PySem.W.nsIn K mainGlobals "WAYS" = some (some (.ref ka_WAYS)))
    (kl_WAYS : K.lookup ka_WAYS = some ⟨.type "tuple", kd_WAYS, .seq #[.str "longest" kt_WAYS_0, .str "shortest" kt_WAYS_1, .str "listed" kt_WAYS_2] kn_WAYS, ksl_WAYS⟩)
    (g_LETTERS : PySem.W.nsIn K mainGlobals "LETTERS" = some (some (.str "abc" tk_LETTERS)))
    (g_MOST_SIGNS : PySem.W.nsIn K mainGlobals "MOST_SIGNS" = some (some (.int 4 tk_MOST_SIGNS)))
    (g_MOST_WORDS : PySem.W.nsIn K mainGlobals "MOST_WORDS" = some (some (.int 6 tk_MOST_WORDS)))
    (o2 : K.lookup tP = none)
    (o3 : PySem.W.codeHdIn K tC tP = true)
    (o4 : h.get? tP = some (PySem.W.tabObj #[])) :
    LamX.LawAtS l w K (L2.CX l.prog w) 7 63 "_law_script" mg fa h := by
  rw [show fa = f23 from by have e := hfa.symm.trans (PySem.W.mg_of X N a23); cases e; rfl]
  exact ⟨PySem.W.fnOf "law" "law" (defArgs s_law) (defBody s_law) (defScope s_law) .none kV23 dc23 pm23 an23 cd23 ct23, [(tC, tP)], SpLawT K tP, (fun p hp => by rw [List.mem_singleton.1 hp]; exact o4), (fun p hp => by rw [List.mem_singleton.1 hp]; exact o2), (fun p hp => by rw [List.mem_singleton.1 hp]; exact PySem.W.codeHd_of_K X o3), (fun s v => .of_eq rfl), (fun H a ns hl _ hH hS => ⟨a, ns, rfl, hS, hl, hH _ (List.mem_singleton.2 rfl), fun _ => rfl⟩), fun base _ _ hB =>
    ok_law (G := ⟨K, C_Code, fun s => if s = "InvalidString" then X_InvalidString else if s = "InvalidWay" then X_InvalidWay else 0, fun _ => 0, l.prog, w⟩) (mg := mg) {
      cf := ⟨⟨pg_Code, ic_Code, po_Code, sa_Code⟩, ⟨p_many, at_many, gt_many, tk_many, ty_many, ix_many, (by decide)⟩, ⟨p_parts, at_parts, gt_parts, tk_parts, ty_parts, ix_parts, (by decide)⟩⟩,
      Code := ⟨PySem.W.mg_of X N aC_Code, ⟨ca_Code, cn_Code, ct_Code, cm_Code⟩, kit_self, first_self⟩,
      x_InvalidString := ⟨PySem.W.mg_of X N aX_InvalidString, eX_InvalidString, kX_InvalidString, bX_InvalidString, tX_InvalidString⟩,
      x_InvalidWay := ⟨PySem.W.mg_of X N aX_InvalidWay, eX_InvalidWay, kX_InvalidWay, bX_InvalidWay, tX_InvalidWay⟩,
      xm_InvalidString_InvalidString := exm_mk bX_InvalidString iX_InvalidString tX_InvalidString s_InvalidString_InvalidString,
      xm_InvalidString_InvalidWay := exm_mk bX_InvalidWay iX_InvalidWay tX_InvalidWay s_InvalidString_InvalidWay,
      xm_InvalidWay_InvalidString := exm_mk bX_InvalidString iX_InvalidString tX_InvalidString s_InvalidWay_InvalidString,
      xm_InvalidWay_InvalidWay := exm_mk bX_InvalidWay iX_InvalidWay tX_InvalidWay s_InvalidWay_InvalidWay,
      _law_mix := ⟨f0, _, (fun_mk (st := s__law_mix) l0 c0 k0), ((fun_mk (st := s__law_mix) l0 c0 k0).binds (ps := ["_law_script", "_law_seed"]) fun _ _ _ _ _ _ us hl => match us, hl with | [_, _], _ => rfl), (PySem.W.mg_of X N a0)⟩,
      _law_next := ⟨f1, _, (fun_mk (st := s__law_next) l1 c1 k1), ((fun_mk (st := s__law_next) l1 c1 k1).binds (ps := ["_law_h", "_law_bound"]) fun _ _ _ _ _ _ us hl => match us, hl with | [_, _], _ => rfl), (PySem.W.mg_of X N a1)⟩,
      is_integer := ⟨f2, _, (fun_mk (st := s_is_integer) l2 c2 k2), ((fun_mk (st := s_is_integer) l2 c2 k2).binds (ps := ["value"]) fun _ _ _ _ _ _ us hl => match us, hl with | [_], _ => rfl), (PySem.W.mg_of X N a2)⟩,
      is_string := ⟨f3, _, (fun_mk (st := s_is_string) l3 c3 k3), ((fun_mk (st := s_is_string) l3 c3 k3).binds (ps := ["many", "value"]) fun _ _ _ _ _ _ us hl => match us, hl with | [_, _], _ => rfl), (PySem.W.mg_of X N a3)⟩,
      look_at_words := ⟨f4, _, (fun_mk (st := s_look_at_words) l4 c4 k4), ((fun_mk (st := s_look_at_words) l4 c4 k4).binds (ps := ["many", "words"]) fun _ _ _ _ _ _ us hl => match us, hl with | [_, _], _ => rfl), (PySem.W.mg_of X N a4)⟩,
      Code___init__ := ⟨f5, _, (fun_mk (st := s_Code___init__) l5 c5 k5), ((fun_mk (st := s_Code___init__) l5 c5 k5).binds (ps := ["self", "signs", "words"]) fun _ _ _ _ _ _ us hl => match us, hl with | [_, _, _], _ => rfl), ⟨mk_Code, a5, i5, kC_Code⟩⟩,
      look_at_string := ⟨f6, _, (fun_mk (st := s_look_at_string) l6 c6 k6), ((fun_mk (st := s_look_at_string) l6 c6 k6).binds (ps := ["code", "value"]) fun _ _ _ _ _ _ us hl => match us, hl with | [_, _], _ => rfl), (PySem.W.mg_of X N a6)⟩,
      turned_words := ⟨f7, _, (fun_mk (st := s_turned_words) l7 c7 k7), ((fun_mk (st := s_turned_words) l7 c7 k7).binds (ps := ["words"]) fun _ _ _ _ _ _ us hl => match us, hl with | [_], _ => rfl), (PySem.W.mg_of X N a7)⟩,
      look_at_way := ⟨f8, _, (fun_mk (st := s_look_at_way) l8 c8 k8), ((fun_mk (st := s_look_at_way) l8 c8 k8).binds (ps := ["way", "side"]) fun _ _ _ _ _ _ us hl => match us, hl with | [_, _], _ => rfl), (PySem.W.mg_of X N a8)⟩,
      in_taste := ⟨f9, _, (fun_mk (st := s_in_taste) l9 c9 k9), ((fun_mk (st := s_in_taste) l9 c9 k9).binds (ps := ["words", "way"]) fun _ _ _ _ _ _ us hl => match us, hl with | [_, _], _ => rfl), (PySem.W.mg_of X N a9)⟩,
      read_front := ⟨f10, _, (fun_mk (st := s_read_front) l10 c10 k10), ((fun_mk (st := s_read_front) l10 c10 k10).binds (ps := ["words", "string", "way"]) fun _ _ _ _ _ _ us hl => match us, hl with | [_, _, _], _ => rfl), (PySem.W.mg_of X N a10)⟩,
      read := ⟨f11, _, (fun_mk (st := s_read) l11 c11 k11), ((fun_mk (st := s_read) l11 c11 k11).binds (ps := ["code", "string", "way", "side"]) fun _ _ _ _ _ _ us hl => match us, hl with | [_, _, _, _], _ => rfl), (PySem.W.mg_of X N a11)⟩,
      misread := ⟨f13, _, (fun_mk (st := s_misread) l13 c13 k13), ((fun_mk (st := s_misread) l13 c13 k13).binds (ps := ["code", "way", "side"]) fun _ _ _ _ _ _ us hl => match us, hl with | [_, _, _], _ => rfl), (PySem.W.mg_of X N a13)⟩,
      _law_word := ⟨f14, _, (fun_mk (st := s__law_word) l14 c14 k14), ((fun_mk (st := s__law_word) l14 c14 k14).binds (ps := ["_law_h", "_law_many", "_law_high"]) fun _ _ _ _ _ _ us hl => match us, hl with | [_, _, _], _ => rfl), (PySem.W.mg_of X N a14)⟩,
      _law_code := ⟨f15, _, (fun_mk (st := s__law_code) l15 c15 k15), ((fun_mk (st := s__law_code) l15 c15 k15).binds (ps := ["_law_h", "_law_high"]) fun _ _ _ _ _ _ us hl => match us, hl with | [_, _], _ => rfl), (PySem.W.mg_of X N a15)⟩,
      _law_row := ⟨f16, _, (fun_mk (st := s__law_row) l16 c16 k16), ((fun_mk (st := s__law_row) l16 c16 k16).binds (ps := ["_law_h", "_law_t", "_law_high"]) fun _ _ _ _ _ _ us hl => match us, hl with | [_, _, _], _ => rfl), (PySem.W.mg_of X N a16)⟩,
      _law_built := ⟨f17, _, (fun_mk (st := s__law_built) l17 c17 k17), ((fun_mk (st := s__law_built) l17 c17 k17).binds (ps := ["_law_t"]) fun _ _ _ _ _ _ us hl => match us, hl with | [_], _ => rfl), (PySem.W.mg_of X N a17)⟩,
      _law_text := ⟨f18, _, (fun_mk (st := s__law_text) l18 c18 k18), ((fun_mk (st := s__law_text) l18 c18 k18).binds (ps := ["_law_t", "_law_row_here"]) fun _ _ _ _ _ _ us hl => match us, hl with | [_, _], _ => rfl), (PySem.W.mg_of X N a18)⟩,
      _law_take := ⟨f19, _, (fun_mk (st := s__law_take) l19 c19 k19), ((fun_mk (st := s__law_take) l19 c19 k19).binds (ps := ["_law_t", "_law_string", "_law_way", "_law_is_end"]) fun _ _ _ _ _ _ us hl => match us, hl with | [_, _, _, _], _ => rfl), (PySem.W.mg_of X N a19)⟩,
      _law_read := ⟨f20, _, (fun_mk (st := s__law_read) l20 c20 k20), ((fun_mk (st := s__law_read) l20 c20 k20).binds (ps := ["_law_t", "_law_string", "_law_way", "_law_side"]) fun _ _ _ _ _ _ us hl => match us, hl with | [_, _, _, _], _ => rfl), (PySem.W.mg_of X N a20)⟩,
      _law_refused := ⟨f21, _, (fun_mk (st := s__law_refused) l21 c21 k21), ((fun_mk (st := s__law_refused) l21 c21 k21).binds (ps := ["_law_code_here", "_law_string", "_law_way", "_law_side"]) fun _ _ _ _ _ _ us hl => match us, hl with | [_, _, _, _], _ => rfl), (PySem.W.mg_of X N a21)⟩,
      _law_barred := ⟨f22, _, (fun_mk (st := s__law_barred) l22 c22 k22), ((fun_mk (st := s__law_barred) l22 c22 k22).binds (ps := ["_law_code_here", "_law_way", "_law_side"]) fun _ _ _ _ _ _ us hl => match us, hl with | [_, _, _], _ => rfl), (PySem.W.mg_of X N a22)⟩,
      law := ⟨f23, _, (fun_mk (st := s_law) l23 c23 k23), ((fun_mk (st := s_law) l23 c23 k23).binds (ps := ["_law_script"]) fun _ _ _ _ _ _ us hl => match us, hl with | [_], _ => rfl), (PySem.W.mg_of X N a23)⟩,
      z_all := PySem.W.mg_none_of X N z_all,
      z_bool := PySem.W.mg_none_of X N z_bool,
      z_enumerate := PySem.W.mg_none_of X N z_enumerate,
      z_int := PySem.W.mg_none_of X N z_int,
      z_isinstance := PySem.W.mg_none_of X N z_isinstance,
      z_len := PySem.W.mg_none_of X N z_len,
      z_list := PySem.W.mg_none_of X N z_list,
      z_max := PySem.W.mg_none_of X N z_max,
      z_min := PySem.W.mg_none_of X N z_min,
      z_range := PySem.W.mg_none_of X N z_range,
      z_sorted := PySem.W.mg_none_of X N z_sorted,
      z_str := PySem.W.mg_none_of X N z_str,
      z_tuple := PySem.W.mg_none_of X N z_tuple,
      a_SIDES := ka_SIDES,
      g_SIDES := PySem.W.mg_of X N kg_SIDES,
      q_SIDES := ⟨_, _, _, kl_SIDES, rfl, rfl, (by show 2 ≤ sizeLine; decide), .cons ⟨_, rfl⟩ (.cons ⟨_, rfl⟩ (.nil))⟩,
      a_WAYS := ka_WAYS,
      g_WAYS := PySem.W.mg_of X N kg_WAYS,
      q_WAYS := ⟨_, _, _, kl_WAYS, rfl, rfl, (by show 3 ≤ sizeLine; decide), .cons ⟨_, rfl⟩ (.cons ⟨_, rfl⟩ (.cons ⟨_, rfl⟩ (.nil)))⟩,
      t_LETTERS := tk_LETTERS,
      g_LETTERS := PySem.W.mg_of X N g_LETTERS,
      t_MOST_SIGNS := tk_MOST_SIGNS,
      g_MOST_SIGNS := PySem.W.mg_of X N g_MOST_SIGNS,
      t_MOST_WORDS := tk_MOST_WORDS,
      g_MOST_WORDS := PySem.W.mg_of X N g_MOST_WORDS,
      tC := tC,
      tP := tP,
      tc := rfl } (hB _ (List.mem_singleton.2 rfl)) hm⟩
end K06
open PySem PySem.W PyProof.Rows
set_option maxHeartbeats 0 in
theorem PySem.Challenge.cw_endsread_k06_whole_readers_that_take_holds : PySem.Challenge.rw_endsread_k06_whole_readers_that_take.Holds := by
  w_on; o_law; k_head; (case hw => w_witness2)
  k_fill
  refine LamX.walk_ofTs (l := PySem.Challenge.rw_endsread_k06_whole_readers_that_take) (n := 63) (k := 7) (x := "_law_script") (CX := fun w => L2.CX (PySem.Challenge.rw_endsread_k06_whole_readers_that_take).prog w) rfl (by decide) rfl ⟨rfl, by decide, by decide⟩ (fun w h Y => PySem.W.km_in_of Y) ?F (fun _ _ _ _ _ h => Ty.law_cx h)
  case F =>
    intro w mg fa h Y KX G hmg
    have hT := PySem.W.km_tabs_of Y
    refine' K06.all_mk KX G hmg K06.law_true ?aC_Code ?pg_Code ?po_Code ?sa_Code ?mk_Code ?kC_Code ?ic_Code ?at_many ?gt_many ?tk_many ?ty_many ?ix_many ?at_parts ?gt_parts ?tk_parts ?ty_parts ?ix_parts ?ca_Code ?cn_Code ?ct_Code ?cm_Code ?aX_InvalidString ?bX_InvalidString ?tX_InvalidString ?kX_InvalidString ?iX_InvalidString ?eX_InvalidString ?aX_InvalidWay ?bX_InvalidWay ?tX_InvalidWay ?kX_InvalidWay ?iX_InvalidWay ?eX_InvalidWay ?s_InvalidString_InvalidString ?s_InvalidString_InvalidWay ?s_InvalidWay_InvalidString ?s_InvalidWay_InvalidWay ?a0 ?l0 ?c0 ?k0 ?a1 ?l1 ?c1 ?k1 ?a2 ?l2 ?c2 ?k2 ?a3 ?l3 ?c3 ?k3 ?a4 ?l4 ?c4 ?k4 ?a5 ?i5 ?l5 ?c5 ?k5 ?a6 ?l6 ?c6 ?k6 ?a7 ?l7 ?c7 ?k7 ?a8 ?l8 ?c8 ?k8 ?a9 ?l9 ?c9 ?k9 ?a10 ?l10 ?c10 ?k10 ?a11 ?l11 ?c11 ?k11 ?a13 ?l13 ?c13 ?k13 ?a14 ?l14 ?c14 ?k14 ?a15 ?l15 ?c15 ?k15 ?a16 ?l16 ?c16 ?k16 ?a17 ?l17 ?c17 ?k17 ?a18 ?l18 ?c18 ?k18 ?a19 ?l19 ?c19 ?k19 ?a20 ?l20 ?c20 ?k20 ?a21 ?l21 ?c21 ?k21 ?a22 ?l22 ?c22 ?k22 ?a23 ?l23 ?c23 ?k23 ?z_all ?z_bool ?z_enumerate ?z_int ?z_isinstance ?z_len ?z_list ?z_max ?z_min ?z_range ?z_sorted ?z_str ?z_tuple ?kg_SIDES ?kl_SIDES ?kg_WAYS ?kl_WAYS ?g_LETTERS ?g_MOST_SIGNS ?g_MOST_WORDS ?o2 ?o3 ?o4
    (case o4 => exact hT _ List.mem_cons_self)
    (case aC_Code => k_is); (case pg_Code => k_is); (case po_Code => k_is); (case sa_Code => k_is); (case mk_Code => k_is); (case kC_Code => k_is); (case ic_Code => k_is); (case at_many => k_is); (case gt_many => k_is); (case tk_many => k_is); (case ty_many => k_is); (case ix_many => k_is); (case at_parts => k_is); (case gt_parts => k_is); (case tk_parts => k_is); (case ty_parts => k_is); (case ix_parts => k_is); (case ca_Code => k_is); (case cn_Code => k_is); (case ct_Code => k_is); (case cm_Code => k_is); (case aX_InvalidString => k_is); (case bX_InvalidString => k_is); (case tX_InvalidString => k_is); (case kX_InvalidString => k_is); (case iX_InvalidString => k_is); (case eX_InvalidString => k_exc); (case aX_InvalidWay => k_is); (case bX_InvalidWay => k_is); (case tX_InvalidWay => k_is); (case kX_InvalidWay => k_is); (case iX_InvalidWay => k_is); (case eX_InvalidWay => k_exc); (case s_InvalidString_InvalidString => k_is); (case s_InvalidString_InvalidWay => k_is); (case s_InvalidWay_InvalidString => k_is); (case s_InvalidWay_InvalidWay => k_is); (case a0 => k_is); (case l0 => k_is); (case c0 => k_is); (case k0 => k_is); (case a1 => k_is); (case l1 => k_is); (case c1 => k_is); (case k1 => k_is); (case a2 => k_is); (case l2 => k_is); (case c2 => k_is); (case k2 => k_is); (case a3 => k_is); (case l3 => k_is); (case c3 => k_is); (case k3 => k_is); (case a4 => k_is); (case l4 => k_is); (case c4 => k_is); (case k4 => k_is); (case a5 => k_is); (case i5 => k_is); (case l5 => k_is); (case c5 => k_is); (case k5 => k_is); (case a6 => k_is); (case l6 => k_is); (case c6 => k_is); (case k6 => k_is); (case a7 => k_is); (case l7 => k_is); (case c7 => k_is); (case k7 => k_is); (case a8 => k_is); (case l8 => k_is); (case c8 => k_is); (case k8 => k_is); (case a9 => k_is); (case l9 => k_is); (case c9 => k_is); (case k9 => k_is); (case a10 => k_is); (case l10 => k_is); (case c10 => k_is); (case k10 => k_is); (case a11 => k_is); (case l11 => k_is); (case c11 => k_is); (case k11 => k_is); (case a13 => k_is); (case l13 => k_is); (case c13 => k_is); (case k13 => k_is); (case a14 => k_is); (case l14 => k_is); (case c14 => k_is); (case k14 => k_is); (case a15 => k_is); (case l15 => k_is); (case c15 => k_is); (case k15 => k_is); (case a16 => k_is); (case l16 => k_is); (case c16 => k_is); (case k16 => k_is); (case a17 => k_is); (case l17 => k_is); (case c17 => k_is); (case k17 => k_is); (case a18 => k_is); (case l18 => k_is); (case c18 => k_is); (case k18 => k_is); (case a19 => k_is); (case l19 => k_is); (case c19 => k_is); (case k19 => k_is); (case a20 => k_is); (case l20 => k_is); (case c20 => k_is); (case k20 => k_is); (case a21 => k_is); (case l21 => k_is); (case c21 => k_is); (case k21 => k_is); (case a22 => k_is); (case l22 => k_is); (case c22 => k_is); (case k22 => k_is); (case a23 => k_is); (case l23 => k_is); (case c23 => k_is); (case k23 => k_is); (case z_all => k_is); (case z_bool => k_is); (case z_enumerate => k_is); (case z_int => k_is); (case z_isinstance => k_is); (case z_len => k_is); (case z_list => k_is); (case z_max => k_is); (case z_min => k_is); (case z_range => k_is); (case z_sorted => k_is); (case z_str => k_is); (case z_tuple => k_is); (case kg_SIDES => k_is); (case kl_SIDES => k_is); (case kg_WAYS => k_is); (case kl_WAYS => k_is); (case g_LETTERS => k_is); (case g_MOST_SIGNS => k_is); (case g_MOST_WORDS => k_is)
    (case o2 => kernel_rfl); (case o3 => kernel_rfl)

