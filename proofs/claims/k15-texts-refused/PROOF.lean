import PyProof.Rows.All
import Wide.All
import OpenK.AllK
import Wide.FinOn
import PySem.Challenge.RW_endsread_k15_whole_texts_refused
import HandS.ForMost
import HandS.Slots
import HandS.SlotsOwn
import HandS.IsInst
import HandS.Star
import HandS.Codes
import HandS.Exc
import HandS.ExcInit
import HandS.TryOnly
import HandS.WordsExc
import HandS.TupAny
import HandS.More
import HandS.Wide
import HandS.Deep
import HandS.FStr
import KE.GoesEnum
import HandS.ExcOwn
import HandS.Small
import HandS.DictTup
import HandS.TryMany
import HandS.CallSlots
import HandS.ExcField
set_option Elab.async false
set_option linter.all false
set_option maxRecDepth 100000
set_option maxHeartbeats 4000000
namespace Ty
open PySem PySem.Spec PyProof.Rows L2

/-! ### computations -/
structure Exc where
  cls : String
  args : List PyData
inductive Prog (α : Type) : Type where
  | ok (a : α)
  | err (e : Exc)
  | stuck
  | draw (n : Int) (k : Int → Prog α)
namespace Prog
variable {α β γ : Type}
def bind : Prog α → (α → Prog β) → Prog β
  | ok a, f => f a
  | err e, _ => err e
  | stuck, _ => stuck
  | draw n k, f => draw n fun i => bind (k i) f
theorem bind_ok (m : Prog α) : bind m ok = m := by
  induction m with
  | ok a => rfl
  | err e => rfl
  | stuck => rfl
  | draw n k ih => show draw n _ = draw n k; congr 1; funext i; exact ih i
theorem bind_assoc (m : Prog α) (f : α → Prog β) (g : β → Prog γ) : bind (bind m f) g = bind m fun a => bind (f a) g := by
  induction m with
  | ok a => rfl
  | err e => rfl
  | stuck => rfl
  | draw n k ih => show draw n _ = draw n _; congr 1; funext i; exact ih i
end Prog
instance : Monad Prog where
  pure := Prog.ok
  bind := Prog.bind
section
variable {α β γ : Type}
@[simp] theorem ok_bind (a : α) (f : α → Prog β) : (Prog.ok a >>= f) = f a := rfl
@[simp] theorem err_bind (e : Exc) (f : α → Prog β) : (Prog.err e >>= f) = Prog.err e := rfl
@[simp] theorem stuck_bind (f : α → Prog β) : (Prog.stuck >>= f) = Prog.stuck := rfl
@[simp] theorem draw_bind (n : Int) (k : Int → Prog α) (f : α → Prog β) : (Prog.draw n k >>= f) = Prog.draw n fun i => k i >>= f := rfl
@[simp] theorem bind_ok' (m : Prog α) : (m >>= Prog.ok) = m := Prog.bind_ok m
theorem bind_bind (m : Prog α) (f : α → Prog β) (g : β → Prog γ) : (m >>= f >>= g) = (m >>= fun a => f a >>= g) := Prog.bind_assoc m f g
theorem pure_ok (a : α) : (pure a : Prog α) = Prog.ok a := rfl
/-- all draws lead to P, or to an error that E takes -/
def wp : Prog α → (α → Prop) → (Exc → Prop) → Prop
  | .ok a, P, _ => P a
  | .err e, _, E => E e
  | .stuck, _, _ => False
  | .draw n k, P, E => 0 < n ∧ n ≤ 1000000 ∧ ∀ i, 0 ≤ i → i < n → wp (k i) P E
theorem wp_imp {m : Prog α} {P P' : α → Prop} {E E' : Exc → Prop} (h : wp m P E) (hp : ∀ a, P a → P' a) (he : ∀ e, E e → E' e) : wp m P' E' := by
  induction m with
  | ok a => exact hp a h
  | err e => exact he e h
  | stuck => exact h
  | draw n k ih => exact ⟨h.1, h.2.1, fun i h0 h1 => ih i (h.2.2 i h0 h1)⟩
theorem wp_mono {m : Prog α} {P P' : α → Prop} {E : Exc → Prop} (h : wp m P E) (hp : ∀ a, P a → P' a) : wp m P' E := wp_imp h hp fun _ x => x
theorem wp_bind {m : Prog α} {f : α → Prog β} {P : β → Prop} {E : Exc → Prop} : wp (m >>= f) P E ↔ wp m (fun a => wp (f a) P E) E := by
  induction m with
  | ok a => exact Iff.rfl
  | err e => exact Iff.rfl
  | stuck => exact Iff.rfl
  | draw n k ih => exact ⟨fun h => ⟨h.1, h.2.1, fun i h0 h1 => (ih i).1 (h.2.2 i h0 h1)⟩, fun h => ⟨h.1, h.2.1, fun i h0 h1 => (ih i).2 (h.2.2 i h0 h1)⟩⟩
end

/-! ### data by types -/
class Enc (α : Type) where
  enc : α → PyData
open Enc (enc)
abbrev Tx := List Nat
/-- a Python list as a value (a tuple of one kind is a List) -/
def L (α : Type) := List α
abbrev un {α : Type} (x : L α) : List α := x
instance : Enc PyData := ⟨id⟩
instance : Enc Int := ⟨.int⟩
instance : Enc Bool := ⟨.bool⟩
instance : Enc Unit := ⟨fun _ => .none⟩
instance (priority := high) encTx : Enc (List Nat) := ⟨fun s => .str ⟨s.toArray⟩⟩
instance encTup {α : Type} [Enc α] : Enc (List α) := ⟨fun xs => .tuple (xs.map enc)⟩
instance encL {α : Type} [Enc α] : Enc (L α) := ⟨fun xs => .list (List.map enc xs)⟩
instance encP {α β : Type} [Enc α] [Enc β] : Enc (α × β) := ⟨fun p => .tuple [enc p.1, enc p.2]⟩
instance encO {α : Type} [Enc α] : Enc (Option α) := ⟨fun o => match o with | none => .none | some a => enc a⟩
structure T3 (α β γ : Type) where
  a : α
  b : β
  c : γ
deriving DecidableEq
instance encT3 {α β γ : Type} [Enc α] [Enc β] [Enc γ] : Enc (T3 α β γ) := ⟨fun p => .tuple [enc p.a, enc p.b, enc p.c]⟩
structure T4 (α β γ δ : Type) where
  a : α
  b : β
  c : γ
  d : δ
deriving DecidableEq
instance encT4 {α β γ δ : Type} [Enc α] [Enc β] [Enc γ] [Enc δ] : Enc (T4 α β γ δ) := ⟨fun p => .tuple [enc p.a, enc p.b, enc p.c, enc p.d]⟩
/-- a list [a, b] of two kinds -/
structure L2v (α β : Type) where
  a : α
  b : β
deriving DecidableEq
instance encL2 {α β : Type} [Enc α] [Enc β] : Enc (L2v α β) := ⟨fun p => .list [enc p.a, enc p.b]⟩

/-! ### the world -/
/-- what the written part and the classes are; K, the class addresses -/
structure Glob where
  K : PySem.W.Frag
  code : Addr
  exc : String → Addr
  cls : String → Addr
structure CodeV where
  many : Int
  parts : List Tx
deriving DecidableEq

theorem same_new {H : Hp} {p : Addr} {o : HO} (h : H p = none) : Same H (upd H p o) := fun a u e => by
  rw [upd_ne (ne_of_none e h)]
  exact e
theorem same_mut {H H' : Hp} {p : Addr} {o : HO} (e : Same H H') (h : H p = none) : Same H (upd H' p o) := fun a u ha => by
  rw [upd_ne (ne_of_none ha h)]
  exact e a u ha
theorem rd_same {H H' : Hp} {a : Addr} {u : HO} (e : Same H H') (h : Rd H a u) : Rd H' a u := by
  rcases h with h | ⟨o, h⟩
  · exact Or.inl (e a _ h)
  · exact Or.inr ⟨o, e a _ h⟩
theorem sql_same {K : PySem.W.Frag} {H H' : Hp} {a : Addr} {xs : List V} (e : Same H H') (h : SqL K H a xs) : SqL K H' a xs := h.imp (rd_same e) id
theorem sqt_same {K : PySem.W.Frag} {H H' : Hp} {a : Addr} {xs : List V} (e : Same H H') (h : SqT K H a xs) : SqT K H' a xs := h.imp (rd_same e) id

mutual
inductive Dq (K : PySem.W.Frag) (H : Hp) : V → PyData → Prop
  | non : Dq K H .non .none
  | bl (b : Bool) : Dq K H (.bl b) (.bool b)
  | int (i : Int) : Dq K H (.int i) (.int i)
  | str (x : Str) : Dq K H (.str x) (.str x)
  | lst {a : Addr} {xs : List V} {ds : List PyData} : Rd H a (.lst xs) → DqAll K H xs ds → Dq K H (.ref a) (.list ds)
  | tup {a : Addr} {xs : List V} {ds : List PyData} : SqT K H a xs → DqAll K H xs ds → Dq K H (.ref a) (.tuple ds)
inductive DqAll (K : PySem.W.Frag) (H : Hp) : List V → List PyData → Prop
  | nil : DqAll K H [] []
  | cons {v : V} {vs : List V} {d : PyData} {ds : List PyData} : Dq K H v d → DqAll K H vs ds → DqAll K H (v :: vs) (d :: ds)
end
mutual
theorem dq_dp {K : PySem.W.Frag} {H : Hp} : ∀ (d : PyData) (v : V), Dq K H v d → Dp K H v d
  | .none, _, h => by cases h; exact .non
  | .bool b, _, h => by cases h; exact .bl b
  | .int i, _, h => by cases h; exact .int i
  | .str x, _, h => by cases h; exact .str x
  | .list ds, _, h => by
    cases h with
    | lst hs ha => exact .lst (.inl hs) (dqAll_dp ds _ ha)
  | .tuple ds, _, h => by
    cases h with
    | tup hs ha => exact .tup hs (dqAll_dp ds _ ha)
  | .dict _, _, h => by cases h
theorem dqAll_dp {K : PySem.W.Frag} {H : Hp} : ∀ (ds : List PyData) (vs : List V), DqAll K H vs ds → DpAll K H vs ds
  | [], _, h => by cases h; exact .nil
  | d :: ds, _, h => by
    cases h with
    | cons h1 h2 => exact .cons (dq_dp d _ h1) (dqAll_dp ds _ h2)
end
mutual
theorem dp_same {K : PySem.W.Frag} {H H' : Hp} (e : Same H H') : ∀ (d : PyData) (v : V), Dq K H v d → Dq K H' v d
  | .none, _, h => by cases h; exact .non
  | .bool b, _, h => by cases h; exact .bl b
  | .int i, _, h => by cases h; exact .int i
  | .str x, _, h => by cases h; exact .str x
  | .list ds, _, h => by
    cases h with
    | lst hs ha => exact .lst (rd_same e hs) (dpAll_same e ds _ ha)
  | .tuple ds, _, h => by
    cases h with
    | tup hs ha => exact .tup (sqt_same e hs) (dpAll_same e ds _ ha)
  | .dict _, _, h => by cases h
theorem dpAll_same {K : PySem.W.Frag} {H H' : Hp} (e : Same H H') : ∀ (ds : List PyData) (vs : List V), DqAll K H vs ds → DqAll K H' vs ds
  | [], _, h => by cases h; exact .nil
  | d :: ds, _, h => by
    cases h with
    | cons h1 h2 => exact .cons (dp_same e d _ h1) (dpAll_same e ds _ h2)
end
variable {G : Glob}
class Rp (G : Glob) (α : Type) where
  rp : α → V → Hp → Prop
  mono : ∀ {a : α} {v : V} {F F' : Hp}, Same F F' → rp a v F → rp a v F'
instance rpEnc {α : Type} [Enc α] : Rp G α := ⟨fun a v F => Dq G.K F v (enc a), fun e h => dp_same e _ _ h⟩
/-- an instance of Code -/
instance rpCode : Rp G CodeV := ⟨fun c v F => ∃ a dx x, v = .ref a ∧ SlX.Slt F a G.code dx [some (.int c.many), some x] ∧ Dq G.K F x (enc c.parts), fun {c v F F'} e h => by
  obtain ⟨a, dx, x, e1, s, d⟩ := h
  refine ⟨a, dx, x, e1, ?_, dp_same e _ _ d⟩
  rcases s with ⟨h1, h2⟩ | ⟨h1, h2⟩
  · exact .inl ⟨e _ _ h1, h2⟩
  · exact .inr ⟨e _ _ h1, e _ _ h2⟩⟩

/-- a field of an instance: its name, what it holds -/
structure Fld (G : Glob) : Type 1 where
  {α : Type}
  [i : Rp G α]
  n : Str
  a : α
def FlR (F : Hp) : List (Fld G) → List (Str × V) → Prop
  | [], [] => True
  | f :: fs, u :: us => f.n = u.1 ∧ f.i.rp f.a u.2 F ∧ FlR F fs us
  | _, _ => False
theorem flR_mono {F F' : Hp} (e : Same F F') : ∀ {fs : List (Fld G)} {us : List (Str × V)}, FlR F fs us → FlR F' fs us
  | [], [], _ => trivial
  | [], _ :: _, h => h.elim
  | _ :: _, [], h => h.elim
  | f :: fs, u :: us, h => ⟨h.1, f.i.mono e h.2.1, flR_mono e h.2.2⟩
structure NN where
  F0 : Hp
  H0 : Hp
  B : Addr → Prop
  S : Option (Addr × Addr)
  E : XK
  O : Addr → Option HO
structure SrcAt (p c : Addr) (F H : Hp) : Prop where
  fp : F p = none
  fc : F c = none
  ne : p ≠ c
  at_ : ∃ (st ix : Int) (cs : List Int), H p = some (.lst [.int st, .ref c, .int ix, .int 14]) ∧ H c = some (.lst (cs.map V.int)) ∧ cs.length ≤ 64
structure W (N : NN) (F H : Hp) : Prop where
  fh : Same F H
  f0 : Same N.F0 F
  nw : ∀ a o, F a = some o → N.F0 a = some o ∨ N.H0 a = none
  kp : ∀ a o, ¬ N.B a → N.H0 a = some o → H a = some o
  dm : ∀ a, H a = none → N.H0 a = none
  sr : ∀ p c, N.S = some (p, c) → SrcAt p c F H
  sb : ∀ p c, N.S = some (p, c) → (N.H0 p = none ∨ N.B p) ∧ (N.H0 c = none ∨ N.B c)
  os : ∀ a o, N.O a = some o → (H a = some o ∧ F a = none) ∧ ∀ p c, N.S = some (p, c) → a ≠ p ∧ a ≠ c

inductive Ent (G : Glob) : Type 1 where
  | dead
  | per {α : Type} [Rp G α] (a : α)
  | lst {α : Type} [Enc α] (xs : List α)
  | ins (C : Addr) (fs : List (Fld G)) (w : Option Addr)
  | bor {α : Type} [Enc α] (xs : List α)
  | ptr (p : Addr)
  | src
abbrev Env (G : Glob) := List (Ent G)
def Ent.own : Ent G → Bool
  | @Ent.lst _ _ _ _ => true
  | .ins _ _ _ => true
  | _ => false
/-- an address that this def may write -/
structure Mine (N : NN) (F : Hp) (p : Addr) : Prop where
  f : F p = none
  h0 : N.H0 p = none
  s : ∀ q c, N.S = some (q, c) → p ≠ q ∧ p ≠ c
structure MineI (N : NN) (F : Hp) (p : Addr) : Prop where
  f : F p = none
  h0 : N.H0 p = none ∨ N.B p
  s : ∀ q c, N.S = some (q, c) → p ≠ q ∧ p ≠ c
theorem Mine.weak {N : NN} {F : Hp} {p : Addr} (m : Mine N F p) : MineI N F p := ⟨m.f, .inl m.h0, m.s⟩
def Sl (N : NN) (F H : Hp) : Ent G → Option V → Prop
  | .dead, _ => True
  | @Ent.per _ _ i a, o => ∃ v, o = some v ∧ i.rp a v F
  | @Ent.lst _ _ _ xs, o => ∃ p vs, o = some (.ref p) ∧ Mine N F p ∧ H p = some (.lst vs) ∧ DqAll G.K F vs (xs.map enc)
  | .ins C fs w, o => ∃ p dx us, o = some (.ref p) ∧ MineI N F p ∧ H p = some (.ins C dx us) ∧ FlR F fs us ∧ ∀ q, w = some q → q = p
  | @Ent.bor _ _ _ xs, o => ∃ q vs, o = some (.ref q) ∧ N.F0 q = none ∧ N.H0 q = some (.lst vs) ∧ ¬ N.B q ∧ (∀ p c, N.S = some (p, c) → q ≠ p ∧ q ≠ c) ∧ DqAll G.K F vs (xs.map enc)
  | .ptr p, o => o = some (.ref p)
  | .src, o => ∃ p c, o = some (.ref p) ∧ N.S = some (p, c)
def Slots (N : NN) (F H : Hp) : Env G → L2.St → Prop
  | [], [] => True
  | e :: Γ, o :: σ => Sl N F H e o ∧ Slots N F H Γ σ
  | _, _ => False
def Dist (Γ : Env G) (σ : L2.St) : Prop := ∀ (i j : Nat) (e e' : Ent G) (p : Addr), Γ[i]? = some e → Γ[j]? = some e' → e.own = true → e'.own = true → σ[i]? = some (some (.ref p)) → σ[j]? = some (some (.ref p)) → i = j
structure HS (N : NN) (Γ : Env G) (σ : L2.St) (F H : Hp) : Prop where
  w : W N F H
  sl : Slots N F H Γ σ
  ds : Dist Γ σ

section
variable {N : NN} {F F' H H' : Hp} {Γ : Env G} {σ : L2.St}
theorem Slots.get : ∀ {Γ : Env G} {σ : L2.St} {i : Nat} {e : Ent G}, Slots N F H Γ σ → Γ[i]? = some e → ∃ o, σ[i]? = some o ∧ Sl N F H e o
  | [], _, _, _, _, h => by simp at h
  | e :: Γ, [], _, _, h, _ => h.elim
  | e :: Γ, o :: σ, 0, e', h, q => by
    have e1 : e = e' := Option.some.inj q
    subst e1
    exact ⟨o, rfl, h.1⟩
  | e :: Γ, o :: σ, i + 1, e', h, q => Slots.get (i := i) h.2 q
theorem Slots.set : ∀ {Γ : Env G} {σ : L2.St} (i : Nat) {e : Ent G} {o : Option V}, Slots N F H Γ σ → Sl N F H e o → Slots N F H (Γ.set i e) (σ.set i o)
  | [], [], _, _, _, _, _ => trivial
  | [], _ :: _, _, _, _, h, _ => h.elim
  | _ :: _, [], _, _, _, h, _ => h.elim
  | _ :: _, _ :: _, 0, _, _, h, q => ⟨q, h.2⟩
  | _ :: _, _ :: _, i + 1, _, _, h, q => ⟨h.1, Slots.set i h.2 q⟩
theorem Slots.imp {N' : NN} : ∀ {Γ : Env G} {σ : L2.St}, Slots N F H Γ σ → (∀ (i : Nat) e o, Γ[i]? = some e → σ[i]? = some o → Sl N F H e o → Sl N' F' H' e o) → Slots N' F' H' Γ σ
  | [], [], _, _ => trivial
  | [], _ :: _, h, _ => h.elim
  | _ :: _, [], h, _ => h.elim
  | e :: Γ, o :: σ, h, k => ⟨k 0 e o rfl rfl h.1, Slots.imp h.2 fun i e' o' a b => k (i + 1) e' o' a b⟩
theorem Slots.len : ∀ {Γ : Env G} {σ : L2.St}, Slots N F H Γ σ → Γ.length = σ.length
  | [], [], _ => rfl
  | [], _ :: _, h => h.elim
  | _ :: _, [], h => h.elim
  | _ :: _, _ :: _, h => congrArg (· + 1) (Slots.len h.2)
theorem Mine.mono (m : Mine N F p) (f : F' p = none) : Mine N F' p := ⟨f, m.h0, m.s⟩
/-- an owned object of the frame stands at q -/
def Held (Γ : Env G) (σ : L2.St) (q : Addr) : Prop := ∃ (i : Nat) (e : Ent G), Γ[i]? = some e ∧ e.own = true ∧ σ[i]? = some (some (.ref q))
theorem HS.held (h : HS N Γ σ F H) {q : Addr} (x : Held Γ σ q) : MineI N F q ∧ ∃ u, H q = some u := by
  obtain ⟨i, e, e1, e2, e3⟩ := x
  obtain ⟨o, e4, s⟩ := h.sl.get e1
  rw [e3] at e4
  cases e4
  cases e with
  | lst xs =>
    obtain ⟨p, vs, e5, m, hp, _⟩ := s
    have e6 : q = p := by cases e5; rfl
    subst e6
    exact ⟨m.weak, _, hp⟩
  | ins a fs w =>
    obtain ⟨p, dx, us, e5, m, hp, _⟩ := s
    have e6 : q = p := by cases e5; rfl
    subst e6
    exact ⟨m, _, hp⟩
  | dead => cases e2
  | per a => cases e2
  | bor xs => cases e2
  | ptr p => cases e2
  | src => cases e2
/-- more is known, all that the frame owns stands as it was -/
theorem HS.move (h : HS N Γ σ F H) (w : W N F' H') (eF : Same F F') (keep : ∀ q u, Held Γ σ q → H q = some u → H' q = some u) (fr : ∀ q, Held Γ σ q → F' q = none) : HS N Γ σ F' H' := by
  refine ⟨w, h.sl.imp fun i e o e1 e2 s => ?_, h.ds⟩
  cases e with
  | dead => trivial
  | per a =>
    obtain ⟨v, e3, r⟩ := s
    exact ⟨v, e3, Rp.mono eF r⟩
  | lst xs =>
    obtain ⟨p, vs, e3, m, hp, d⟩ := s
    have hl : Held Γ σ p := ⟨i, _, e1, rfl, by rw [e2, e3]⟩
    exact ⟨p, vs, e3, m.mono (fr p hl), keep p _ hl hp, dpAll_same eF _ _ d⟩
  | ins a fs w =>
    obtain ⟨p, dx, us, e3, m, hp, d, hw⟩ := s
    have hl : Held Γ σ p := ⟨i, _, e1, rfl, by rw [e2, e3]⟩
    exact ⟨p, dx, us, e3, ⟨fr p hl, m.h0, m.s⟩, keep p _ hl hp, flR_mono eF d, hw⟩
  | bor xs =>
    obtain ⟨q, vs, e3, h1, h2, h3, h4, d⟩ := s
    exact ⟨q, vs, e3, h1, h2, h3, h4, dpAll_same eF _ _ d⟩
  | ptr p => exact s
  | src => exact s
/-- a new object that is known from now on -/
theorem HS.laid (h : HS N Γ σ F H) {p : Addr} {o : HO} (hp : H p = none) : HS N Γ σ (upd F p o) (upd H p o) ∧ Same F (upd F p o) := by
  have fp : F p = none := Same.free h.w.fh hp
  have w : W N (upd F p o) (upd H p o) := by
    refine ⟨fun a u e => ?_, Same.trans h.w.f0 (same_new fp), fun a u e => ?_, fun a u nb e => ?_, fun a e => ?_, fun q c e => ?_, h.w.sb, fun a u e => ?_⟩
    · by_cases ha : a = p
      · subst ha; rw [upd_same] at e ⊢; exact e
      · rw [upd_ne ha] at e ⊢; exact h.w.fh a u e
    · by_cases ha : a = p
      · subst ha; exact .inr (h.w.dm _ hp)
      · rw [upd_ne ha] at e; exact h.w.nw a u e
    · have x := h.w.kp a u nb e
      rw [upd_ne (ne_of_none x hp)]; exact x
    · by_cases ha : a = p
      · subst ha; rw [upd_same] at e; cases e
      · rw [upd_ne ha] at e; exact h.w.dm a e
    · have s := h.w.sr q c e
      obtain ⟨st, ix, cs, h1, h2, r⟩ := s.at_
      have n1 : q ≠ p := ne_of_none h1 hp
      have n2 : c ≠ p := ne_of_none h2 hp
      exact ⟨by rw [upd_ne n1]; exact s.fp, by rw [upd_ne n2]; exact s.fc, s.ne, st, ix, cs, by rw [upd_ne n1]; exact h1, by rw [upd_ne n2]; exact h2, r⟩
    · have x := h.w.os a u e
      have y := ne_of_none x.1.1 hp
      exact ⟨⟨by rw [upd_ne y]; exact x.1.1, by rw [upd_ne y]; exact x.1.2⟩, x.2⟩
  refine ⟨h.move w (same_new fp) (fun q vs _ e => ?_) fun q hl => ?_, same_new fp⟩
  · rw [upd_ne (ne_of_none e hp)]; exact e
  · obtain ⟨m, vs, e⟩ := h.held hl
    rw [upd_ne (ne_of_none e hp)]; exact m.f
/-- a new list is no more to be changed -/
theorem HS.freeze (h : HS N Γ σ F H) {p : Addr} {o : HO} (hp : H p = some o) (m : Mine N F p) (h0 : N.H0 p = none) (nh : ¬ Held Γ σ p) (no : N.O p = none) : HS N Γ σ (upd F p o) H ∧ Same F (upd F p o) := by
  have w : W N (upd F p o) H := by
    refine ⟨fun a u e => ?_, Same.trans h.w.f0 (same_new m.f), fun a u e => ?_, h.w.kp, h.w.dm, fun q c e => ?_, h.w.sb, fun a u e => ?_⟩
    · by_cases ha : a = p
      · subst ha; rw [upd_same] at e; rw [hp]; exact e
      · rw [upd_ne ha] at e; exact h.w.fh a u e
    · by_cases ha : a = p
      · subst ha; exact .inr h0
      · rw [upd_ne ha] at e; exact h.w.nw a u e
    · have s := h.w.sr q c e
      have x := m.s q c e
      exact ⟨by rw [upd_ne (Ne.symm x.1)]; exact s.fp, by rw [upd_ne (Ne.symm x.2)]; exact s.fc, s.ne, s.at_⟩
    · have x := h.w.os a u e
      have y : a ≠ p := fun z => by rw [z, no] at e; cases e
      exact ⟨⟨x.1.1, by rw [upd_ne y]; exact x.1.2⟩, x.2⟩
  refine ⟨h.move w (same_new m.f) (fun q vs _ e => e) fun q hl => ?_, same_new m.f⟩
  have : q ≠ p := fun z => nh (z ▸ hl)
  rw [upd_ne this]; exact (h.held hl).1.f
end
end Ty

namespace Ty
open PySem PySem.Spec PyProof.Rows L2
open Enc (enc)
/-! ### judgements -/
def fieldsOf (cls : String) : List Str := if cls = "InvalidText" then ["word", "line"] else if cls = "InvalidWord" then ["index"] else if cls = "UnknownWord" then ["index"] else []
def ERep (G : Glob) (ex : Exc) (C : Value) (d : Option Addr) (F H : Hp) : Prop :=
  C = .ref (G.exc ex.cls) ∧ ((ex.args = [] ∧ d = none) ∨ ∃ dx vs, d = some dx ∧ F dx = some (.xd ((fieldsOf ex.cls).zip vs)) ∧ (fieldsOf ex.cls).length = vs.length ∧ DqAll G.K F vs ex.args)
variable {G : Glob}
def EP (G : Glob) (N : NN) : Exc → Prop := fun ex => ∀ F' H' C d, W N F' H' → ERep G ex C d F' H' → N.E C d H'
/-- an expression's reading; a new list's; a test's; arguments'; a walked thing's; a target's; statements' -/
def EV {α : Type} [Rp G α] (N : NN) (Γ : Env G) (te : TE) (m : Prog α) : Prop := ∀ σ F H, HS N Γ σ F H → ∀ Q : VK, wp m (fun a => ∀ v F' H', HS N Γ σ F' H' → Same F F' → Rp.rp (G := G) a v F' → Q v H') (EP G N) → te σ H Q
structure NewAt (N : NN) (Γ : Env G) (σ : L2.St) (F : Hp) (p : Addr) : Prop where
  mine : Mine N F p
  h0 : N.H0 p = none
  nh : ¬ Held Γ σ p
  no : N.O p = none
def EVN {α : Type} [Enc α] (N : NN) (Γ : Env G) (te : TE) (m : Prog (L α)) : Prop := ∀ σ F H, HS N Γ σ F H → ∀ Q : VK, wp m (fun (xs : List α) => ∀ p vs F' H', HS N Γ σ F' H' → Same F F' → NewAt N Γ σ F' p → H' p = some (.lst vs) → DqAll G.K F' vs (xs.map enc) → Q (.ref p) H') (EP G N) → te σ H Q
def TV (N : NN) (Γ : Env G) (tt : TT) (m : Prog Bool) : Prop := ∀ σ F H, HS N Γ σ F H → ∀ Q : Bool → Hp → Prop, wp m (fun b => ∀ F' H', HS N Γ σ F' H' → Same F F' → Q b H') (EP G N) → tt σ H Q
def EVA {τ : Type} (N : NN) (Γ : Env G) (ta : TA) (m : Prog τ) (ra : τ → List V → Hp → Prop) : Prop := ∀ σ F H, HS N Γ σ F H → ∀ Q : List V → Hp → Prop, wp m (fun a => ∀ vs F' H', HS N Γ σ F' H' → Same F F' → ra a vs F' → Q vs H') (EP G N) → ta σ H Q
def GV {α : Type} [Rp G α] (N : NN) (Γ : Env G) (g : TG) (a : α) (Γ' : Env G) : Prop := ∀ σ F H x, HS N Γ σ F H → Rp.rp (G := G) a x F → ∀ Q : L2.St → Hp → Prop, (∀ σ' F' H', HS N Γ' σ' F' H' → Same F F' → Q σ' H') → g x σ H Q
/-- what a block is to reach: F the data known at its start -/
structure Aim (ω : Type) where
  J : Hp → ω → Ends → Prop
  mono : ∀ {F F' : Hp} {o : ω} {D : Ends}, Same F F' → J F o D → J F' o D
def SV {ω : Type} (N : NN) (Γ : Env G) (ts : TS) (J : Aim ω) (m : Prog ω) : Prop := ∀ σ F H D, HS N Γ σ F H → wp m (fun o => J.J F o D) (EP G N) → ts D σ H
/-- the end of a block with the frame as Γ says; a return -/
def JN {β : Type} (N : NN) (Γ : β → Env G) : Aim β := ⟨fun F b D => ∀ σ' F' H', HS N (Γ b) σ' F' H' → Same F F' → D.nx σ' H', fun e h σ' F' H' hs e' => h σ' F' H' hs (Same.trans e e')⟩
def JR {ρ : Type} (G : Glob) [Rp G ρ] (N : NN) : Aim ρ := ⟨fun _ r D => ∀ v F' H', W N F' H' → Rp.rp (G := G) r v F' → D.rt v H', fun _ h => h⟩
/-- a def that hands back a new list -/
def JRN {α : Type} [Enc α] (G : Glob) (N : NN) : Aim (L α) := ⟨fun _ (xs : List α) D => ∀ p vs F' H', W N F' H' → Mine N F' p → N.H0 p = none → H' p = some (.lst vs) → DqAll G.K F' vs (xs.map enc) → D.rt (.ref p) H', fun _ h => h⟩
inductive Fl (β ρ : Type) where
  | nx (b : β)
  | rt (r : ρ)
def flJ {β ρ : Type} (JN : Hp → β → Ends → Prop) (JR : Hp → ρ → Ends → Prop) : Hp → Fl β ρ → Ends → Prop
  | F, .nx b, D => JN F b D
  | F, .rt r, D => JR F r D
def JF {β ρ : Type} (A : Aim β) (B : Aim ρ) : Aim (Fl β ρ) := ⟨flJ A.J B.J, fun {F F' o D} e h => by
  cases o with
  | nx b => exact A.mono e h
  | rt r => exact B.mono e h⟩
/-- an aim that only returns reach -/
def Aim.Ret {ω : Type} (A : Aim ω) : Prop := ∀ F r D D', D.rt = D'.rt → A.J F r D → A.J F r D'
def Aim.To {ω ρ : Type} (A : Aim ω) (ret : ρ → ω) (B : Aim ρ) : Prop := ∀ F r D D', D.rt = D'.rt → A.J F (ret r) D → B.J F r D'

section
variable {α β γ ω ρ τ : Type} [iα : Rp G α] [iβ : Rp G β] [iγ : Rp G γ] {N : NN} {Γ Γ' : Env G} {te ta tb tc : TE} {tt tu : TT} {tz ts ts' : TS}
theorem EV.of_eq {m m' : Prog α} (h : EV N Γ te m) (e : m = m') : EV N Γ te m' := e ▸ h
theorem ev_var {i : Nat} {a : α} (h : Γ[i]? = some (.per a)) : EV N Γ (tVar i) (.ok a) := fun σ F H hs Q q => by
  obtain ⟨o, e1, v, e2, r⟩ := hs.sl.get h
  subst e2
  exact ⟨v, e1, q v F H hs (Same.refl F) r⟩
theorem ev_int {i : Int} : EV N Γ (tC (.int i)) (.ok i) := fun σ F H hs Q q => q _ F H hs (Same.refl F) (.int i)
theorem ev_bl {b : Bool} : EV N Γ (tC (.bl b)) (.ok b) := fun σ F H hs Q q => q _ F H hs (Same.refl F) (.bl b)
theorem ev_str {x : Str} {s : Tx} (h : x.cps.toList = s) : EV N Γ (tC (.str x)) (.ok s) := fun σ F H hs Q q => q _ F H hs (Same.refl F) (by
  subst h
  exact .str x)
theorem ev_non {α : Type} [Enc α] : EV N Γ (tC .non) (.ok (none : Option α)) := fun σ F H hs Q q => q _ F H hs (Same.refl F) .non
theorem ev_nonD : EV N Γ (tC .non) (.ok PyData.none) := fun σ F H hs Q q => q _ F H hs (Same.refl F) .non
theorem ev_some {α : Type} [Enc α] {m : Prog α} (h : EV N Γ te m) : EV N Γ te (m >>= fun a => .ok (some a)) := fun σ F H hs Q q => h σ F H hs Q (wp_bind.1 q)
theorem ev_dat {α : Type} [Enc α] {m : Prog α} (h : EV N Γ te m) : EV N Γ te (m >>= fun a => .ok (enc a)) := fun σ F H hs Q q => h σ F H hs Q (wp_bind.1 q)
/-- a new list as a value -/
theorem ev_new {α : Type} [Enc α] {m : Prog (L α)} (h : EVN N Γ te m) : EV N Γ te m := fun σ F H hs Q q => h σ F H hs Q (wp_mono q fun xs k p vs F' H' hs' e n hp d => by
  obtain ⟨hs2, e2⟩ := hs'.freeze hp n.mine n.h0 n.nh n.no
  exact k _ _ _ hs2 (Same.trans e e2) (.lst (.inl upd_same) (dpAll_same e2 _ _ d)))
/-- two values -/
def OPV (r : R2) (g : α → β → Prog γ) : Prop := ∀ (N : NN) (Γ : Env G) (σ : L2.St) (F H : Hp) (x y : V) (a : α) (b : β), HS N Γ σ F H → iα.rp a x F → iβ.rp b y F → ∀ Q : VK,
  wp (g a b) (fun c => ∀ v F' H', HS N Γ σ F' H' → Same F F' → iγ.rp c v F' → Q v H') (EP G N) → r x y H Q
theorem ev_op {r : R2} {g : α → β → Prog γ} {m1 : Prog α} {m2 : Prog β} (h1 : EV N Γ ta m1) (h2 : EV N Γ tb m2) (ho : OPV (G := G) r g) : EV N Γ (tOp r ta tb) (m1 >>= fun a => m2 >>= fun b => g a b) := fun σ F H hs Q q =>
  h1 σ F H hs _ (wp_mono (wp_bind.1 q) fun a q1 x F1 H1 hs1 e1 r1 => h2 σ F1 H1 hs1 _ (wp_mono (wp_bind.1 q1) fun b q2 y F2 H2 hs2 e2 r2 =>
    ho N Γ σ F2 H2 x y a b hs2 (Rp.mono e2 r1) r2 Q (wp_mono q2 fun c k v F3 H3 hs3 e3 r3 => k v F3 H3 hs3 (Same.trans e1 (Same.trans e2 e3)) r3)))
/-- one value -/
def UNV (r : V → Hp → VK → Prop) (g : α → Prog γ) : Prop := ∀ (N : NN) (Γ : Env G) (σ : L2.St) (F H : Hp) (x : V) (a : α), HS N Γ σ F H → iα.rp a x F → ∀ Q : VK,
  wp (g a) (fun c => ∀ v F' H', HS N Γ σ F' H' → Same F F' → iγ.rp c v F' → Q v H') (EP G N) → r x H Q
theorem ev_un {r : V → Hp → VK → Prop} {g : α → Prog γ} {m1 : Prog α} (h1 : EV N Γ ta m1) (ho : UNV (G := G) r g) : EV N Γ (tUn r ta) (m1 >>= fun a => g a) := fun σ F H hs Q q =>
  h1 σ F H hs _ (wp_mono (wp_bind.1 q) fun a q1 x F1 H1 hs1 e1 r1 => ho N Γ σ F1 H1 x a hs1 r1 Q (wp_mono q1 fun c k v F3 H3 hs3 e3 r3 => k v F3 H3 hs3 (Same.trans e1 e3) r3))
/-! arguments -/
theorem eva_nil : EVA N Γ tNil (.ok ()) (fun _ vs _ => vs = []) := fun σ F H hs Q q => q [] F H hs (Same.refl F) rfl
theorem eva_cons {m1 : Prog α} {tr : TA} {m2 : Prog τ} {ra : τ → List V → Hp → Prop} (hra : ∀ a vs F F', Same F F' → ra a vs F → ra a vs F') (h1 : EV N Γ ta m1) (h2 : EVA N Γ tr m2 ra) :
    EVA N Γ (tCons ta tr) (m1 >>= fun a => m2 >>= fun b => .ok (a, b)) (fun p vs F => ∃ v ws, vs = v :: ws ∧ iα.rp p.1 v F ∧ ra p.2 ws F) := fun σ F H hs Q q =>
  h1 σ F H hs _ (wp_mono (wp_bind.1 q) fun a q1 x F1 H1 hs1 e1 r1 => h2 σ F1 H1 hs1 _ (wp_mono (wp_bind.1 q1) fun b q2 vs F2 H2 hs2 e2 r2 => q2 (x :: vs) F2 H2 hs2 (Same.trans e1 e2) ⟨x, vs, rfl, Rp.mono e2 r1, r2⟩))
/-- one kind of items, all told: the items of a display -/
theorem evl_nil {α : Type} [Enc α] : EVA N Γ tNil (.ok ([] : List α)) (fun xs vs F => DqAll G.K F vs (xs.map enc)) := fun σ F H hs Q q => q [] F H hs (Same.refl F) .nil
theorem evl_cons {α : Type} [Enc α] {m1 : Prog α} {tr : TA} {m2 : Prog (List α)} (h1 : EV N Γ ta m1) (h2 : EVA N Γ tr m2 (fun xs vs F => DqAll G.K F vs (xs.map enc))) :
    EVA N Γ (tCons ta tr) (m1 >>= fun a => m2 >>= fun b => .ok (a :: b)) (fun xs vs F => DqAll G.K F vs (xs.map enc)) := fun σ F H hs Q q =>
  h1 σ F H hs _ (wp_mono (wp_bind.1 q) fun a q1 x F1 H1 hs1 e1 r1 => h2 σ F1 H1 hs1 _ (wp_mono (wp_bind.1 q1) fun b q2 vs F2 H2 hs2 e2 r2 => q2 (x :: vs) F2 H2 hs2 (Same.trans e1 e2) (.cons (dp_same e2 _ _ r1) r2)))
theorem dpAll_length {K : PySem.W.Frag} {F : Hp} : ∀ {ds : List PyData} {vs : List V}, DqAll K F vs ds → vs.length = ds.length
  | [], _, h => by cases h; rfl
  | _ :: _, _, h => by
    cases h with
    | cons _ h2 => exact congrArg (· + 1) (dpAll_length h2)
/-- tuples and lists made -/
theorem ev_tupA {τ : Type} {α : Type} [Enc α] {t : TA} {m : Prog τ} {ra : τ → List V → Hp → Prop} {f : τ → α} (h : EVA N Γ t m ra) (hd : ∀ a vs F, ra a vs F → ∃ ds, enc (f a) = .tuple ds ∧ DqAll G.K F vs ds ∧ vs.length ≤ 100000) :
    EV N Γ (tTup t) (m >>= fun a => .ok (f a)) := fun σ F H hs Q q => h σ F H hs _ (wp_mono (wp_bind.1 q) fun a q1 vs F1 H1 hs1 e1 r1 => by
  obtain ⟨ds, e2, d, hl⟩ := hd a vs F1 r1
  refine ⟨Nat.le_trans hl (by decide), fun p hp => ?_⟩
  obtain ⟨hs2, e3⟩ := hs1.laid (o := .tup vs) hp
  refine q1 (.ref p) _ _ hs2 (Same.trans e1 e3) ?_
  show Dq _ _ _ (enc (f a))
  rw [e2]
  exact .tup (.inl (.inl upd_same)) (dpAll_same e3 _ _ d))
theorem ev_tup {α : Type} [Enc α] {t : TA} {m : Prog (List α)} (h : EVA N Γ t m (fun xs vs F => DqAll G.K F vs (xs.map enc))) : EV N Γ (tTup t) (m >>= fun xs => if xs.length ≤ 100000 then .ok xs else .stuck) := fun σ F H hs Q q =>
  h σ F H hs _ (wp_mono (wp_bind.1 q) fun xs q1 vs F1 H1 hs1 e1 d => by
    by_cases hl : xs.length ≤ 100000
    · rw [if_pos hl] at q1
      have e := dpAll_length d
      rw [List.length_map] at e
      refine ⟨Nat.le_trans (by omega) (by decide : 100000 ≤ sizeLine), fun p hp => ?_⟩
      obtain ⟨hs2, e3⟩ := hs1.laid (o := .tup vs) hp
      exact q1 (.ref p) _ _ hs2 (Same.trans e1 e3) (.tup (.inl (.inl upd_same)) (dpAll_same e3 _ _ d))
    · rw [if_neg hl] at q1
      exact q1.elim)
theorem hs_newlist {σ : L2.St} {F H : Hp} (hs : HS N Γ σ F H) {p : Addr} {vs : List V} (hp : H p = none) : HS N Γ σ F (upd H p (.lst vs)) ∧ NewAt N Γ σ F p := by
  have fp : F p = none := Same.free hs.w.fh hp
  have nh : ¬ Held Γ σ p := fun x => by
    obtain ⟨_, ws, e⟩ := hs.held x
    rw [hp] at e; cases e
  have ns : ∀ q c, N.S = some (q, c) → p ≠ q ∧ p ≠ c := fun q c e => by
    obtain ⟨st, ix, cs, h1, h2, _⟩ := (hs.w.sr q c e).at_
    exact ⟨(ne_of_none h1 hp).symm, (ne_of_none h2 hp).symm⟩
  have no : N.O p = none := by
    cases z : N.O p with
    | none => rfl
    | some o => exact absurd (hs.w.os p o z).1.1 (by rw [hp]; intro y; cases y)
  refine ⟨hs.move ⟨fun a u e => ?_, hs.w.f0, hs.w.nw, fun a u nb e => ?_, fun a e => ?_, fun q c e => ?_, hs.w.sb, fun a u e => ?_⟩ (Same.refl F) (fun q ws hl e => ?_) fun q hl => (hs.held hl).1.f, ⟨⟨fp, hs.w.dm _ hp, ns⟩, hs.w.dm _ hp, nh, no⟩⟩
  · rw [upd_ne (ne_of_none e fp)]; exact hs.w.fh a u e
  · have x := hs.w.kp a u nb e
    rw [upd_ne (ne_of_none x hp)]; exact x
  · by_cases ha : a = p
    · subst ha; rw [upd_same] at e; cases e
    · rw [upd_ne ha] at e; exact hs.w.dm a e
  · have s := hs.w.sr q c e
    obtain ⟨st, ix, cs, h1, h2, r⟩ := s.at_
    exact ⟨s.fp, s.fc, s.ne, st, ix, cs, by rw [upd_ne (ne_of_none h1 hp)]; exact h1, by rw [upd_ne (ne_of_none h2 hp)]; exact h2, r⟩
  · have x := hs.w.os a u e
    exact ⟨⟨by rw [upd_ne (ne_of_none x.1.1 hp)]; exact x.1.1, x.1.2⟩, x.2⟩
  · rw [upd_ne (ne_of_none e hp)]; exact e
theorem evn_lst {α : Type} [Enc α] {t : TA} {m : Prog (List α)} (h : EVA N Γ t m (fun xs vs F => DqAll G.K F vs (xs.map enc))) : EVN N Γ (tLst t) (m >>= fun xs => if xs.length ≤ 100000 then .ok (xs : L α) else .stuck) := fun σ F H hs Q q =>
  h σ F H hs _ (wp_mono (wp_bind.1 q) fun xs q1 vs F1 H1 hs1 e1 d => by
    by_cases hl : xs.length ≤ 100000
    · rw [if_pos hl] at q1
      have e := dpAll_length d
      rw [List.length_map] at e
      refine ⟨Nat.le_trans (by omega) (by decide : 100000 ≤ sizeLine), fun p hp => ?_⟩
      obtain ⟨hs2, n⟩ := hs_newlist (vs := vs) hs1 hp
      exact q1 p vs _ _ hs2 e1 n upd_same d
    · rw [if_neg hl] at q1
      exact q1.elim)
/-! ### tests -/
theorem tv_test {m : Prog Bool} (h : EV N Γ te m) : TV N Γ (tTest te) m := fun σ F H hs Q q => h σ F H hs _ (wp_mono q fun b k v F' H' hs' e r => by
  have r' : Dq G.K F' v (.bool b) := r
  cases r'
  exact ⟨b, rfl, k F' H' hs' e⟩)
theorem tv_B {m : Prog Bool} (h : EV N Γ te m) : TV N Γ (tB te) m := fun σ F H hs Q q => h σ F H hs _ (wp_mono q fun b k v F' H' hs' e r => by
  have r' : Dq G.K F' v (.bool b) := r
  cases r'
  exact ⟨b, rfl, k F' H' hs' e⟩)
theorem tv_and {m1 m2 : Prog Bool} (h1 : TV N Γ tt m1) (h2 : TV N Γ tu m2) : TV N Γ (tAnd tt tu) (m1 >>= fun a => if a then m2 else .ok false) := fun σ F H hs Q q => h1 σ F H hs _ (wp_mono (wp_bind.1 q) fun b k F' H' hs' e => by
  cases b with
  | true => exact h2 σ F' H' hs' Q (wp_mono k fun b k2 F2 H2 hs2 e2 => k2 F2 H2 hs2 (Same.trans e e2))
  | false => exact k F' H' hs' e)
theorem tv_or {m1 m2 : Prog Bool} (h1 : TV N Γ tt m1) (h2 : TV N Γ tu m2) : TV N Γ (tOr tt tu) (m1 >>= fun a => if a then .ok true else m2) := fun σ F H hs Q q => h1 σ F H hs _ (wp_mono (wp_bind.1 q) fun b k F' H' hs' e => by
  cases b with
  | false => exact h2 σ F' H' hs' Q (wp_mono k fun b k2 F2 H2 hs2 e2 => k2 F2 H2 hs2 (Same.trans e e2))
  | true => exact k F' H' hs' e)
theorem tv_not {m1 : Prog Bool} (h1 : TV N Γ tt m1) : TV N Γ (tNot tt) (m1 >>= fun a => .ok (!a)) := fun σ F H hs Q q => h1 σ F H hs _ (wp_mono (wp_bind.1 q) fun b k F' H' hs' e => k F' H' hs' e)
theorem ev_and {m1 m2 : Prog Bool} (h1 : EV N Γ ta m1) (h2 : EV N Γ tb m2) : EV N Γ (tAndV ta tb) (m1 >>= fun a => if a then m2 else .ok false) := fun σ F H hs Q q => h1 σ F H hs _ (wp_mono (wp_bind.1 q) fun b k v F' H' hs' e r => by
  have r' : Dq G.K F' v (.bool b) := r
  cases r'
  refine ⟨b, rfl, ?_⟩
  cases b with
  | true => exact h2 σ F' H' hs' Q (wp_mono k fun b k2 v F2 H2 hs2 e2 r2 => k2 v F2 H2 hs2 (Same.trans e e2) r2)
  | false => exact k _ F' H' hs' e (.bl false))
theorem ev_or {m1 m2 : Prog Bool} (h1 : EV N Γ ta m1) (h2 : EV N Γ tb m2) : EV N Γ (tOrV ta tb) (m1 >>= fun a => if a then .ok true else m2) := fun σ F H hs Q q => h1 σ F H hs _ (wp_mono (wp_bind.1 q) fun b k v F' H' hs' e r => by
  have r' : Dq G.K F' v (.bool b) := r
  cases r'
  refine ⟨b, rfl, ?_⟩
  cases b with
  | false => exact h2 σ F' H' hs' Q (wp_mono k fun b k2 v F2 H2 hs2 e2 r2 => k2 v F2 H2 hs2 (Same.trans e e2) r2)
  | true => exact k _ F' H' hs' e (.bl true))
theorem ev_not {m1 : Prog Bool} (h1 : EV N Γ ta m1) : EV N Γ (tNotV ta) (m1 >>= fun a => .ok (!a)) := fun σ F H hs Q q => h1 σ F H hs _ (wp_mono (wp_bind.1 q) fun b k v F' H' hs' e r => by
  have r' : Dq G.K F' v (.bool b) := r
  cases r'
  exact ⟨b, rfl, k _ F' H' hs' e (.bl (!b))⟩)
theorem ev_if {m0 : Prog Bool} {m1 m2 : Prog α} (h0 : TV N Γ tt m0) (h1 : EV N Γ ta m1) (h2 : EV N Γ tb m2) : EV N Γ (tIf tt ta tb) (m0 >>= fun c => if c then m1 else m2) := fun σ F H hs Q q => h0 σ F H hs _ (wp_mono (wp_bind.1 q) fun b k F' H' hs' e => by
  cases b with
  | true => exact h1 σ F' H' hs' Q (wp_mono k fun b k2 v F2 H2 hs2 e2 r2 => k2 v F2 H2 hs2 (Same.trans e e2) r2)
  | false => exact h2 σ F' H' hs' Q (wp_mono k fun b k2 v F2 H2 hs2 e2 r2 => k2 v F2 H2 hs2 (Same.trans e e2) r2))
/-! ### statements -/
theorem HS.setPer {σ : L2.St} {F H : Hp} (hs : HS N Γ σ F H) (i : Nat) {a : α} {v : V} (r : iα.rp a v F) : HS N (Γ.set i (.per a)) (σ.set i (some v)) F H := by
  refine ⟨hs.w, hs.sl.set i ⟨v, rfl, r⟩, fun j k e e' p h1 h2 o1 o2 s1 s2 => ?_⟩
  have ne : ∀ {j : Nat} {e : Ent G}, (Γ.set i (.per a))[j]? = some e → e.own = true → j ≠ i := fun {j e} h o z => by
    subst z
    rw [List.getElem?_set] at h
    split at h
    · split at h
      · cases h; cases o
      · cases h
    · exact absurd rfl ‹_›
  have n1 := ne h1 o1
  have n2 := ne h2 o2
  rw [List.getElem?_set_ne (Ne.symm n1)] at h1 s1
  rw [List.getElem?_set_ne (Ne.symm n2)] at h2 s2
  exact hs.ds j k e e' p h1 h2 o1 o2 s1 s2
theorem HS.setOwn {α : Type} [Enc α] {σ : L2.St} {F H : Hp} (hs : HS N Γ σ F H) (i : Nat) {xs : List α} {p : Addr} {vs : List V} (n : NewAt N Γ σ F p) (hp : H p = some (.lst vs)) (d : DqAll G.K F vs (xs.map enc)) : HS N (Γ.set i (.lst xs)) (σ.set i (some (.ref p))) F H := by
  refine ⟨hs.w, hs.sl.set i ⟨p, vs, rfl, n.mine, hp, d⟩, fun j k e e' q h1 h2 o1 o2 s1 s2 => ?_⟩
  have at_ : ∀ {j : Nat} {e : Ent G}, (Γ.set i (.lst xs))[j]? = some e → e.own = true → (σ.set i (some (.ref p)))[j]? = some (some (.ref q)) → (j = i ∧ q = p) ∨ (j ≠ i ∧ Γ[j]? = some e ∧ σ[j]? = some (some (.ref q)) ∧ q ≠ p) := fun {j e} h o s => by
    by_cases hj : j = i
    · subst hj
      rw [List.getElem?_set] at s
      split at s
      · split at s
        · cases s; exact .inl ⟨rfl, rfl⟩
        · cases s
      · exact absurd rfl ‹_›
    · rw [List.getElem?_set_ne (Ne.symm hj)] at h s
      exact .inr ⟨hj, h, s, fun z => n.nh ⟨j, e, h, o, z ▸ s⟩⟩
  rcases at_ h1 o1 s1 with ⟨a1, b1⟩ | ⟨a1, b1, c1, d1⟩
  · rcases at_ h2 o2 s2 with ⟨a2, b2⟩ | ⟨a2, b2, c2, d2⟩
    · rw [a1, a2]
    · exact absurd b1 d2
  · rcases at_ h2 o2 s2 with ⟨a2, b2⟩ | ⟨a2, b2, c2, d2⟩
    · exact absurd b2 d1
    · exact hs.ds j k e e' q b1 b2 o1 o2 c1 c2
theorem sv_asg {i : Nat} {m : Prog α} {J : Aim ω} {k : α → Prog ω} (h : EV N Γ te m) (hk : ∀ a, SV N (Γ.set i (.per a)) tz J (k a)) : SV N Γ (tSeq (tAsg te (gName i)) tz) J (m >>= k) := fun σ F H D hs q =>
  h σ F H hs _ (wp_mono (wp_bind.1 q) fun a q1 v F1 H1 hs1 e1 r1 => hk a _ F1 H1 D (hs1.setPer i r1) (wp_mono q1 fun o x => J.mono e1 x))
theorem sv_asgN {α : Type} [Enc α] {i : Nat} {m : Prog (L α)} {J : Aim ω} {k : L α → Prog ω} (h : EVN N Γ te m) (hk : ∀ xs : List α, SV N (Γ.set i (.lst xs)) tz J (k xs)) : SV N Γ (tSeq (tAsg te (gName i)) tz) J (m >>= k) := fun σ F H D hs q =>
  h σ F H hs _ (wp_mono (wp_bind.1 q) fun xs q1 p vs F1 H1 hs1 e1 n hp d => hk xs _ F1 H1 D (hs1.setOwn i n hp d) (wp_mono q1 fun o x => J.mono e1 x))
theorem sv_drop {m : Prog α} {J : Aim ω} {k : Prog ω} (h : EV N Γ te m) (hk : SV N Γ tz J k) : SV N Γ (tSeq (tDrop te) tz) J (m >>= fun _ => k) := fun σ F H D hs q =>
  h σ F H hs _ (wp_mono (wp_bind.1 q) fun a q1 v F1 H1 hs1 e1 r1 => hk _ F1 H1 D hs1 (wp_mono q1 fun o x => J.mono e1 x))
theorem sv_next {β : Type} {Γi : β → Env G} {b : β} (hw : ∀ σ F H, HS N Γ σ F H → HS N (Γi b) σ F H) : SV N Γ tNext (JN N Γi) (.ok b) := fun σ F H D hs q => q σ F H (hw σ F H hs) (Same.refl F)
theorem sv_nextF {β : Type} {Γi : β → Env G} {b : β} {Jr : Aim ρ} (hw : ∀ σ F H, HS N Γ σ F H → HS N (Γi b) σ F H) : SV N Γ tNext (JF (JN N Γi) Jr) (.ok (.nx b)) := fun σ F H D hs q => q σ F H (hw σ F H hs) (Same.refl F)
theorem sv_ret [iρ : Rp G ρ] {m : Prog ρ} (h : EV N Γ te m) : SV N Γ (tSeq (tRet te) tz) (JR G N) m := fun σ F H D hs q =>
  h σ F H hs _ (wp_mono q fun a k v F1 H1 hs1 e1 r1 => k v F1 H1 hs1.w r1)
theorem sv_retF [iρ : Rp G ρ] {β : Type} {m : Prog ρ} {Jn : Aim β} (h : EV N Γ te m) : SV N Γ (tSeq (tRet te) tz) (JF Jn (JR G N)) (m >>= fun r => .ok (.rt r)) := fun σ F H D hs q =>
  h σ F H hs _ (wp_mono (wp_bind.1 q) fun a k v F1 H1 hs1 e1 r1 => k v F1 H1 hs1.w r1)
theorem sv_retN {α : Type} [Enc α] {m : Prog (L α)} (h : EVN N Γ te m) : SV N Γ (tSeq (tRet te) tz) (JRN G N) m := fun σ F H D hs q =>
  h σ F H hs _ (wp_mono q fun xs k p vs F1 H1 hs1 e1 n hp d => k p vs F1 H1 hs1.w n.mine n.h0 hp d)
theorem sv_retNF {α β : Type} [Enc α] {m : Prog (L α)} {Jn : Aim β} (h : EVN N Γ te m) : SV N Γ (tSeq (tRet te) tz) (JF Jn (JRN G N)) (m >>= fun r => .ok (.rt r)) := fun σ F H D hs q =>
  h σ F H hs _ (wp_mono (wp_bind.1 q) fun xs k p vs F1 H1 hs1 e1 n hp d => k p vs F1 H1 hs1.w n.mine n.h0 hp d)
/-- no slot's word but dead ones -/
def Wk : Env G → Env G → Prop
  | [], [] => True
  | e :: Γ, e' :: Γ' => (e' = .dead ∨ e = e') ∧ Wk Γ Γ'
  | _, _ => False
theorem Wk.get : ∀ {Γ Γ' : Env G}, Wk Γ Γ' → Γ.length = Γ'.length ∧ ∀ (i : Nat) (e : Ent G), Γ'[i]? = some e → e = .dead ∨ Γ[i]? = some e
  | [], [], _ => ⟨rfl, fun i e h => by simp at h⟩
  | [], _ :: _, h => h.elim
  | _ :: _, [], h => h.elim
  | e :: Γ, e' :: Γ', h => by
    obtain ⟨a, b⟩ := Wk.get (Γ := Γ) (Γ' := Γ') h.2
    refine ⟨congrArg (· + 1) a, fun i e2 q => ?_⟩
    cases i with
    | zero =>
      have q' : e' = e2 := Option.some.inj q
      subst q'
      exact h.1.imp id fun z => by rw [z]; rfl
    | succ i => exact b i e2 q
theorem Slots.of {F H : Hp} : ∀ {Γ : Env G} {σ : L2.St}, Γ.length = σ.length → (∀ (i : Nat) e o, Γ[i]? = some e → σ[i]? = some o → Sl N F H e o) → Slots N F H Γ σ
  | [], [], _, _ => trivial
  | [], _ :: _, h, _ => by cases h
  | _ :: _, [], h, _ => by cases h
  | e :: Γ, o :: σ, h, k => ⟨k 0 e o rfl rfl, Slots.of (Nat.succ.inj h) fun i e' o' a b => k (i + 1) e' o' a b⟩
theorem wk_hs (w : Wk Γ Γ') : ∀ σ F H, HS N Γ σ F H → HS N Γ' σ F H := fun σ F H hs => by
  obtain ⟨hl, hg⟩ := w.get
  refine ⟨hs.w, Slots.of (hl.symm.trans hs.sl.len) fun i e o h1 h2 => ?_, fun i j e e' p h1 h2 o1 o2 s1 s2 => ?_⟩
  · rcases hg i e h1 with z | z
    · subst z; trivial
    · obtain ⟨o', e1, s⟩ := hs.sl.get z
      rw [h2] at e1
      cases e1
      exact s
  · rcases hg i e h1 with z | z
    · subst z; cases o1
    · rcases hg j e' h2 with z' | z'
      · subst z'; cases o2
      · exact hs.ds i j e e' p z z' o1 o2 s1 s2
theorem sv_weak {J : Aim ω} {m : Prog ω} (w : Wk Γ Γ') (h : SV N Γ' ts J m) : SV N Γ ts J m := fun σ F H D hs q => h σ F H D (wk_hs w σ F H hs) q
/-- an if whose branch leaves, then the rest -/
theorem sv_ifret {J : Aim ω} {m0 : Prog Bool} {m1 m2 : Prog ω} (hr : J.Ret) (h0 : TV N Γ tt m0) (h1 : SV N Γ ts J m1) (h2 : SV N Γ tz J m2) : SV N Γ (tSeq (tIfS tt ts tNext) tz) J (m0 >>= fun c => if c then m1 else m2) := fun σ F H D hs q =>
  h0 σ F H hs _ (wp_mono (wp_bind.1 q) fun b k F' H' hs' e => by
    cases b with
    | true => exact h1 σ F' H' { D with nx := tz D } hs' (wp_mono k fun o x => hr _ o D _ rfl (J.mono e x))
    | false => exact h2 σ F' H' D hs' (wp_mono k fun o x => J.mono e x))
theorem sv_ifretF {Jr : Aim ρ} {J : Aim ω} {ret : ρ → ω} {m0 : Prog Bool} {m1 : Prog ρ} {m2 : Prog ω} (hr : J.To ret Jr) (h0 : TV N Γ tt m0) (h1 : SV N Γ ts Jr m1) (h2 : SV N Γ tz J m2) : SV N Γ (tSeq (tIfS tt ts tNext) tz) J (m0 >>= fun c => if c then m1 >>= (fun r => .ok (ret r)) else m2) := fun σ F H D hs q =>
  h0 σ F H hs _ (wp_mono (wp_bind.1 q) fun b k F' H' hs' e => by
    cases b with
    | true => exact h1 σ F' H' { D with nx := tz D } hs' (wp_mono (wp_bind.1 k) fun o x => hr _ o D _ rfl (J.mono e x))
    | false => exact h2 σ F' H' D hs' (wp_mono k fun o x => J.mono e x))
/-- both branches leave -/
theorem sv_ifelse {J : Aim ω} {m0 : Prog Bool} {m1 m2 : Prog ω} (hr : J.Ret) (h0 : TV N Γ tt m0) (h1 : SV N Γ ts J m1) (h2 : SV N Γ ts' J m2) : SV N Γ (tSeq (tIfS tt ts ts') tz) J (m0 >>= fun c => if c then m1 else m2) := fun σ F H D hs q =>
  h0 σ F H hs _ (wp_mono (wp_bind.1 q) fun b k F' H' hs' e => by
    cases b with
    | true => exact h1 σ F' H' { D with nx := tz D } hs' (wp_mono k fun o x => hr _ o D _ rfl (J.mono e x))
    | false => exact h2 σ F' H' { D with nx := tz D } hs' (wp_mono k fun o x => hr _ o D _ rfl (J.mono e x)))
theorem jr_ret [Rp G ρ] : (JR (ρ := ρ) G N).Ret := fun F r D D' e h v F' H' w x => e ▸ h v F' H' w x
theorem jrn_ret {α : Type} [Enc α] : (JRN (α := α) G N).Ret := fun F r D D' e h p vs F' H' a b c d x => e ▸ h p vs F' H' a b c d x
theorem jr_to {β : Type} {A : Aim β} {B : Aim ρ} (h : B.Ret) : (JF A B).To .rt B := fun F r D D' e x => h F r D D' e x
theorem jr_id {B : Aim ρ} (h : B.Ret) : B.To id B := fun F r D D' e x => h F r D D' e x
/-- the two branches, what they change said by b, then the rest -/
theorem sv_if {β : Type} {Γi : β → Env G} {J : Aim ω} {m0 : Prog Bool} {m1 m2 : Prog β} {k : β → Prog ω} (h0 : TV N Γ tt m0) (h1 : SV N Γ ts (JN N Γi) m1) (h2 : SV N Γ ts' (JN N Γi) m2) (h3 : ∀ b, SV N (Γi b) tz J (k b)) :
    SV N Γ (tSeq (tIfS tt ts ts') tz) J (m0 >>= fun c => (if c then m1 else m2) >>= k) := fun σ F H D hs q =>
  h0 σ F H hs _ (wp_mono (wp_bind.1 q) fun b q1 F' H' hs' e => by
    cases b with
    | true => exact h1 σ F' H' _ hs' (wp_mono (wp_bind.1 q1) fun b q2 σ2 F2 H2 hs2 e2 => h3 b σ2 F2 H2 D hs2 (wp_mono q2 fun o x => J.mono (Same.trans e e2) x))
    | false => exact h2 σ F' H' _ hs' (wp_mono (wp_bind.1 q1) fun b q2 σ2 F2 H2 hs2 e2 => h3 b σ2 F2 H2 D hs2 (wp_mono q2 fun o x => J.mono (Same.trans e e2) x)))
/-- .. that may also return -/
def flK {β : Type} (k : β → Prog ω) (ret : ρ → ω) : Fl β ρ → Prog ω
  | .nx b => k b
  | .rt r => .ok (ret r)
theorem flK_go {β : Type} {Γi : β → Env G} {J : Aim ω} {Jr : Aim ρ} {ret : ρ → ω} {k : β → Prog ω} (hr : J.To ret Jr) (h3 : ∀ b, SV N (Γi b) tz J (k b)) {F F' : Hp} {D D' : Ends} (e : Same F F') (o : Fl β ρ) (en : D'.nx = tz D) (er : D.rt = D'.rt) (x : wp (flK k ret o) (fun o => J.J F o D) (EP G N)) : (JF (JN N Γi) Jr).J F' o D' := by
  cases o with
  | nx b =>
    intro σ2 F2 H2 hs2 e2
    rw [en]
    exact h3 b σ2 F2 H2 D hs2 (wp_mono (show wp (k b) _ _ from x) fun o x => J.mono (Same.trans e e2) x)
  | rt r => exact hr F' r D _ er (J.mono e x)
theorem sv_ifF {β : Type} {Γi : β → Env G} {J : Aim ω} {Jr : Aim ρ} {ret : ρ → ω} {m0 : Prog Bool} {m1 m2 : Prog (Fl β ρ)} {k : β → Prog ω} (hr : J.To ret Jr) (h0 : TV N Γ tt m0) (h1 : SV N Γ ts (JF (JN N Γi) Jr) m1)
    (h2 : SV N Γ ts' (JF (JN N Γi) Jr) m2) (h3 : ∀ b, SV N (Γi b) tz J (k b)) : SV N Γ (tSeq (tIfS tt ts ts') tz) J (m0 >>= fun c => (if c then m1 else m2) >>= flK k ret) := fun σ F H D hs q =>
  h0 σ F H hs _ (wp_mono (wp_bind.1 q) fun b q1 F' H' hs' e => by
    cases b with
    | true => exact h1 σ F' H' _ hs' (wp_mono (wp_bind.1 q1) fun o x => flK_go hr h3 e o rfl rfl x)
    | false => exact h2 σ F' H' _ hs' (wp_mono (wp_bind.1 q1) fun o x => flK_go hr h3 e o rfl rfl x))
/-! ### loops -/
/-- what a walked thing yields: data, the heap as it is, or one new object laid -/
structure Gen (N : NN) (Γ : Env G) (F : Hp) (J : It) (xs : List α) : Prop where
  go : ∀ (i : Nat) σ F' H', HS N Γ σ F' H' → Same F F' → i < xs.length → J.go i H'
  yld : ∀ (i : Nat) (a : α) σ F' H' x H2, HS N Γ σ F' H' → Same F F' → xs[i]? = some a → J.yld i H' x H2 → (H2 = H' ∧ iα.rp a x F') ∨ ∃ T o, H' T = none ∧ H2 = upd H' T o ∧ iα.rp a x (upd F' T o)
  stop : ∀ (i : Nat) σ F' H', HS N Γ σ F' H' → Same F F' → xs.length ≤ i → J.stop i H'
def EVI (N : NN) (Γ : Env G) (wi : TI) (m : Prog (List α)) (Γl : Env G → Prop) : Prop := ∀ σ F H, HS N Γ σ F H → ∀ R : It → Hp → Prop, wp m (fun xs => ∀ F' H' J, HS N Γ σ F' H' → Same F F' → (∀ Γ', Γl Γ' → Gen N Γ' F' J xs) → R J H') (EP G N) → wi σ H R
def foldP {β : Type} (f : β → α → Prog β) : List α → β → Prog β
  | [], b => .ok b
  | a :: r, b => f b a >>= fun b' => foldP f r b'
def foldF {β : Type} (f : β → α → Prog (Fl β ρ)) : List α → β → Prog (Fl β ρ)
  | [], b => .ok (.nx b)
  | a :: r, b => f b a >>= fun o => match o with
    | .nx b' => foldF f r b'
    | .rt x => .ok (.rt x)
/-- a for: what its turns change said by b; F1 the data known ahead -/
theorem for_core {βs : Type} {Γi : βs → Env G} {Γt : βs → α → Env G} {g : TG} {tb : TS} {D : Ends} {JJ : It} {xs : List α} {F1 : Hp} {b0 : βs} {σ : L2.St} {H1 : Hp} {Inv : Nat → βs → Prop} {bk : Ends}
    (h0 : HS N (Γi b0) σ F1 H1) (i0 : Inv 0 b0) (gen : ∀ b, Gen N (Γi b) F1 JJ xs) (hg : ∀ b a, GV N (Γi b) g a (Γt b a))
    (hb : ∀ i b a σ4 F4 H4 (N' : L2.St → Hp → Prop), xs[i]? = some a → Inv i b → HS N (Γt b a) σ4 F4 H4 → Same F1 F4 → (∀ b' σ5 F5 H5, Inv (i + 1) b' → HS N (Γi b') σ5 F5 H5 → Same F4 F5 → N' σ5 H5) → tb { D with nx := N', ct := N', bk := D.nx } σ4 H4)
    (hd : ∀ b σ2 F2 H2, Inv xs.length b → HS N (Γi b) σ2 F2 H2 → Same F1 F2 → D.nx σ2 H2) :
    ∃ W : Nat → Nat → L2.St → Hp → Prop, (∃ m, W 0 m σ H1) ∧ ∀ i m σ H, W i m σ H → (JJ.stop i H ∧ D.nx σ H) ∨ (JJ.go i H ∧ ∃ N : L2.St → Hp → Prop, (∀ σ' H', N σ' H' → ∃ m', m' < m ∧ W (i + 1) m' σ' H') ∧ ∀ x H', JJ.yld i H x H' → g x σ H' fun σ2 H2 => tb { D with nx := N, ct := N, bk := D.nx } σ2 H2) := by
  refine ⟨fun i m σ' H' => ∃ b F', HS N (Γi b) σ' F' H' ∧ Same F1 F' ∧ i ≤ xs.length ∧ m = xs.length - i ∧ Inv i b, ⟨_, b0, F1, h0, Same.refl F1, Nat.zero_le _, rfl, i0⟩, ?_⟩
  rintro i m σ2 H2 ⟨b, F2, hs2, e2, hle, rfl, q2⟩
  by_cases hi : i < xs.length
  · refine .inr ⟨(gen b).go i σ2 F2 H2 hs2 e2 hi, fun σ' H' => ∃ b F', HS N (Γi b) σ' F' H' ∧ Same F1 F' ∧ Inv (i + 1) b, ?_, fun x H3 hy => ?_⟩
    · rintro σ' H' ⟨b', F', hs', e', q'⟩
      exact ⟨xs.length - (i + 1), by omega, b', F', hs', e', hi, rfl, q'⟩
    · have ex : xs[i]? = some xs[i] := List.getElem?_eq_getElem hi
      have fin : ∀ F3, HS N (Γi b) σ2 F3 H3 → Same F1 F3 → iα.rp xs[i] x F3 → g x σ2 H3 fun σ4 H4 => tb { D with nx := fun σ' H' => ∃ b F', HS N (Γi b) σ' F' H' ∧ Same F1 F' ∧ Inv (i + 1) b, ct := fun σ' H' => ∃ b F', HS N (Γi b) σ' F' H' ∧ Same F1 F' ∧ Inv (i + 1) b, bk := D.nx } σ4 H4 := fun F3 hs3 e3 r3 =>
        hg b xs[i] σ2 F3 H3 x hs3 r3 _ fun σ4 F4 H4 hs4 e4 => hb i b xs[i] σ4 F4 H4 _ ex q2 hs4 (Same.trans e3 e4) fun b' σ5 F5 H5 q5 hs5 e5 => ⟨b', F5, hs5, Same.trans e3 (Same.trans e4 e5), q5⟩
      rcases (gen b).yld i xs[i] σ2 F2 H2 x H3 hs2 e2 ex hy with ⟨rfl, r⟩ | ⟨T, o, hT, rfl, r⟩
      · exact fin F2 hs2 e2 r
      · obtain ⟨hs3, e3⟩ := hs2.laid (o := o) hT
        exact fin _ hs3 (Same.trans e2 e3) r
  · have e : i = xs.length := by omega
    subst e
    exact .inl ⟨(gen b).stop _ σ2 F2 H2 hs2 e2 (Nat.le_refl _), hd b σ2 F2 H2 q2 hs2 e2⟩
theorem sv_for {βs : Type} {Γi : βs → Env G} {Γt : βs → α → Env G} {wi : TI} {g : TG} {tb : TS} {J : Aim ω} {mi : Prog (List α)} {body : βs → α → Prog βs} {k : βs → Prog ω} {b0 : βs} {Γl : Env G → Prop}
    (hi : EVI (α := α) N Γ wi mi Γl) (h0 : ∀ σ F H, HS N Γ σ F H → HS N (Γi b0) σ F H) (hl : ∀ b, Γl (Γi b)) (hg : ∀ b a, GV N (Γi b) g a (Γt b a)) (hb : ∀ b a, SV N (Γt b a) tb (JN N Γi) (body b a)) (hk : ∀ b, SV N (Γi b) tz J (k b)) :
    SV N Γ (tSeq (tFor wi g tb) tz) J (mi >>= fun xs => foldP body xs b0 >>= k) := fun σ F H D hs q =>
  hi σ F H hs _ (wp_mono (wp_bind.1 q) fun xs q1 F1 H1 JJ hs1 e1 gen =>
    for_core (D := { D with nx := tz D }) (Inv := fun i b => wp (foldP body (xs.drop i) b) (fun b' => wp (k b') (fun o => J.J F o D) (EP G N)) (EP G N)) (bk := D) (h0 σ F1 H1 hs1) (wp_bind.1 q1) (fun b => gen _ (hl b)) hg
      (fun i b a σ4 F4 H4 N' ex iv hs4 e4 kn => hb b a σ4 F4 H4 _ hs4 (by
        obtain ⟨hi, ex'⟩ := List.getElem?_eq_some_iff.mp ex
        rw [List.drop_eq_getElem_cons hi, ex'] at iv
        exact wp_mono (wp_bind.1 iv) fun b' x σ5 F5 H5 hs5 e5 => kn b' σ5 F5 H5 x hs5 e5))
      (fun b σ2 F2 H2 iv hs2 e2 => hk b σ2 F2 H2 D hs2 (by
        rw [List.drop_length] at iv
        exact wp_mono (show wp (k b) _ _ from iv) fun o x => J.mono (Same.trans e1 e2) x)))
/-- a for that may return -/
theorem sv_forF {βs : Type} {Γi : βs → Env G} {Γt : βs → α → Env G} {wi : TI} {g : TG} {tb : TS} {J : Aim ω} {Jr : Aim ρ} {ret : ρ → ω} {mi : Prog (List α)} {body : βs → α → Prog (Fl βs ρ)} {k : βs → Prog ω} {b0 : βs} {Γl : Env G → Prop} (hr : J.To ret Jr)
    (hi : EVI (α := α) N Γ wi mi Γl) (h0 : ∀ σ F H, HS N Γ σ F H → HS N (Γi b0) σ F H) (hl : ∀ b, Γl (Γi b)) (hg : ∀ b a, GV N (Γi b) g a (Γt b a)) (hb : ∀ b a, SV N (Γt b a) tb (JF (JN N Γi) Jr) (body b a)) (hk : ∀ b, SV N (Γi b) tz J (k b)) :
    SV N Γ (tSeq (tFor wi g tb) tz) J (mi >>= fun xs => foldF body xs b0 >>= flK k ret) := fun σ F H D hs q =>
  hi σ F H hs _ (wp_mono (wp_bind.1 q) fun xs q1 F1 H1 JJ hs1 e1 gen =>
    for_core (D := { D with nx := tz D }) (Inv := fun i b => wp (foldF body (xs.drop i) b) (fun o => wp (flK k ret o) (fun o => J.J F o D) (EP G N)) (EP G N)) (bk := D) (h0 σ F1 H1 hs1) (wp_bind.1 q1) (fun b => gen _ (hl b)) hg
      (fun i b a σ4 F4 H4 N' ex iv hs4 e4 kn => hb b a σ4 F4 H4 _ hs4 (by
        obtain ⟨hi, ex'⟩ := List.getElem?_eq_some_iff.mp ex
        rw [List.drop_eq_getElem_cons hi, ex'] at iv
        exact wp_mono (wp_bind.1 iv) fun o x => by
          cases o with
          | nx b' => exact fun σ5 F5 H5 hs5 e5 => kn b' σ5 F5 H5 x hs5 e5
          | rt r => exact hr _ r D _ rfl (J.mono (Same.trans e1 e4) x)))
      (fun b σ2 F2 H2 iv hs2 e2 => hk b σ2 F2 H2 D hs2 (by
        rw [List.drop_length] at iv
        exact wp_mono (show wp (k b) _ _ from iv) fun o x => J.mono (Same.trans e1 e2) x)))
/-- while, by fuel -/
def whileP {β : Type} (c : β → Prog Bool) (f : β → Prog β) : Nat → β → Prog β
  | 0, _ => .stuck
  | n + 1, b => c b >>= fun t => if t then f b >>= whileP c f n else .ok b
def whileF {β : Type} (c : β → Prog Bool) (f : β → Prog (Fl β ρ)) : Nat → β → Prog (Fl β ρ)
  | 0, _ => .stuck
  | n + 1, b => c b >>= fun t => if t then f b >>= (fun o => match o with
    | .nx b' => whileF c f n b'
    | .rt r => .ok (.rt r)) else .ok (.nx b)
theorem sv_while {βs : Type} {Γi : βs → Env G} {tb : TS} {J : Aim ω} {mc : βs → Prog Bool} {body : βs → Prog βs} {k : βs → Prog ω} {b0 : βs} {fuel : Nat}
    (h0 : ∀ σ F H, HS N Γ σ F H → HS N (Γi b0) σ F H) (hc : ∀ b, TV N (Γi b) tt (mc b)) (hb : ∀ b, SV N (Γi b) tb (JN N Γi) (body b)) (hk : ∀ b, SV N (Γi b) tz J (k b)) :
    SV N Γ (tSeq (tWhile tt tb) tz) J (whileP mc body fuel b0 >>= k) := fun σ F H D hs q => by
  refine ⟨fun n σ' H' => ∃ b F', HS N (Γi b) σ' F' H' ∧ Same F F' ∧ wp (whileP mc body n b) (fun b' => wp (k b') (fun o => J.J F o D) (EP G N)) (EP G N), ⟨fuel, b0, F, h0 σ F H hs, Same.refl F, wp_bind.1 q⟩, ?_⟩
  rintro n σ2 H2 ⟨b, F2, hs2, e2, q2⟩
  cases n with
  | zero => exact q2.elim
  | succ n =>
    refine hc b σ2 F2 H2 hs2 _ (wp_mono (wp_bind.1 q2) fun t q3 F3 H3 hs3 e3 => ?_)
    cases t with
    | true => exact ⟨_, fun σ' H' x => ⟨n, Nat.lt_succ_self n, x⟩, hb b σ2 F3 H3 _ hs3 (wp_mono (wp_bind.1 q3) fun b' q4 σ4 F4 H4 hs4 e4 => ⟨b', F4, hs4, Same.trans e2 (Same.trans e3 e4), q4⟩)⟩
    | false => exact hk b σ2 F3 H3 D hs3 (wp_mono (show wp (k b) _ _ from q3) fun o x => J.mono (Same.trans e2 e3) x)
theorem sv_whileF {βs : Type} {Γi : βs → Env G} {tb : TS} {J : Aim ω} {Jr : Aim ρ} {ret : ρ → ω} {mc : βs → Prog Bool} {body : βs → Prog (Fl βs ρ)} {k : βs → Prog ω} {b0 : βs} {fuel : Nat} (hr : J.To ret Jr)
    (h0 : ∀ σ F H, HS N Γ σ F H → HS N (Γi b0) σ F H) (hc : ∀ b, TV N (Γi b) tt (mc b)) (hb : ∀ b, SV N (Γi b) tb (JF (JN N Γi) Jr) (body b)) (hk : ∀ b, SV N (Γi b) tz J (k b)) :
    SV N Γ (tSeq (tWhile tt tb) tz) J (whileF mc body fuel b0 >>= flK k ret) := fun σ F H D hs q => by
  refine ⟨fun n σ' H' => ∃ b F', HS N (Γi b) σ' F' H' ∧ Same F F' ∧ wp (whileF mc body n b) (fun o => wp (flK k ret o) (fun o => J.J F o D) (EP G N)) (EP G N), ⟨fuel, b0, F, h0 σ F H hs, Same.refl F, wp_bind.1 q⟩, ?_⟩
  rintro n σ2 H2 ⟨b, F2, hs2, e2, q2⟩
  cases n with
  | zero => exact q2.elim
  | succ n =>
    refine hc b σ2 F2 H2 hs2 _ (wp_mono (wp_bind.1 q2) fun t q3 F3 H3 hs3 e3 => ?_)
    cases t with
    | true => exact ⟨_, fun σ' H' x => ⟨n, Nat.lt_succ_self n, x⟩, hb b σ2 F3 H3 _ hs3 (wp_mono (wp_bind.1 q3) fun o q4 => by
        cases o with
        | nx b' => exact fun σ4 F4 H4 hs4 e4 => ⟨b', F4, hs4, Same.trans e2 (Same.trans e3 e4), q4⟩
        | rt r => exact hr _ r D _ rfl (J.mono (Same.trans e2 e3) q4))⟩
    | false => exact hk b σ2 F3 H3 D hs3 (wp_mono (show wp (k b) _ _ from q3) fun o x => J.mono (Same.trans e2 e3) x)
end
end Ty

namespace Ty
open PySem PySem.Spec PyProof.Rows L2
open Enc (enc)
variable {G : Glob}
/-! ### calls -/
section
variable {N : NN} {Γ : Env G} {σ : L2.St} {F H F' H' : Hp}
/-- behind a call: the callee's world was N' -/
theorem HS.call {B : Addr → Prop} {S : Option (Addr × Addr)} {E : XK} (hs : HS N Γ σ F H) (hB : ∀ a, B a → ∃ p c, N.S = some (p, c) ∧ S = some (p, c) ∧ (a = p ∨ a = c)) (w : W ⟨F, H, B, S, E, fun _ => none⟩ F' H') : HS N Γ σ F' H' ∧ Same F F' := by
  have e : Same F F' := w.f0
  have fr : ∀ q o, F q = none → H q = some o → F' q = none := fun q o f h => by
    cases z : F' q with
    | none => rfl
    | some u =>
      rcases w.nw q u z with x | x
      · rw [show F q = some u from x] at f; cases f
      · rw [show H q = none from x] at h; cases h
  have kp : ∀ a o, ¬ B a → H a = some o → H' a = some o := w.kp
  refine ⟨hs.move ⟨w.fh, Same.trans hs.w.f0 e, fun a u z => ?_, fun a u nb h0 => ?_, fun a z => hs.w.dm a (w.dm a z), fun p c z => ?_, hs.w.sb, fun a u z => ?_⟩ e (fun q vs hl h => ?_) (fun q hl => ?_), e⟩
  · rcases w.nw a u z with x | x
    · exact hs.w.nw a u x
    · exact .inr (hs.w.dm a x)
  · refine kp a u (fun hb => ?_) (hs.w.kp a u nb h0)
    obtain ⟨p, c, hS, _, hac⟩ := hB a hb
    have sb := hs.w.sb p c hS
    rcases hac with r | r
    · subst r
      rcases sb.1 with x | x
      · rw [x] at h0; cases h0
      · exact nb x
    · subst r
      rcases sb.2 with x | x
      · rw [x] at h0; cases h0
      · exact nb x
  · have s := hs.w.sr p c z
    obtain ⟨st, ix, cs, h1, h2, r⟩ := s.at_
    by_cases hb : B p ∨ B c
    · have hS' : S = some (p, c) := by
        rcases hb with hb | hb
        · obtain ⟨p', c', a, b, _⟩ := hB _ hb
          rw [z] at a; cases a; exact b
        · obtain ⟨p', c', a, b, _⟩ := hB _ hb
          rw [z] at a; cases a; exact b
      exact w.sr p c hS'
    · exact ⟨fr p _ s.fp h1, fr c _ s.fc h2, s.ne, st, ix, cs, kp p _ (fun x => hb (.inl x)) h1, kp c _ (fun x => hb (.inr x)) h2, r⟩
  · obtain ⟨x, y⟩ := hs.w.os a u z
    refine ⟨⟨kp a u (fun hb => ?_) x.1, fr a u x.2 x.1⟩, y⟩
    obtain ⟨p, c, hS, _, hac⟩ := hB a hb
    rcases hac with r | r
    · exact (y p c hS).1 r
    · exact (y p c hS).2 r
  · refine kp q _ (fun hb => ?_) h
    obtain ⟨p, c, hS, _, hac⟩ := hB q hb
    have m := (hs.held hl).1.s p c hS
    rcases hac with r | r
    · exact m.1 r
    · exact m.2 r
  · obtain ⟨m, vs, h⟩ := hs.held hl
    exact fr q _ m.f h
theorem HS.newAt {E : XK} {B : Addr → Prop} {S : Option (Addr × Addr)} (hs : HS N Γ σ F H) {p : Addr} (m : Mine ⟨F, H, B, S, E, fun _ => none⟩ F' p) (h0 : H p = none) : NewAt N Γ σ F' p := by
  have no : N.O p = none := by
    cases z : N.O p with
    | none => rfl
    | some o => exact absurd (hs.w.os p o z).1.1 (by rw [h0]; intro y; cases y)
  refine ⟨⟨m.f, hs.w.dm p h0, fun q c e => ?_⟩, hs.w.dm p h0, fun hl => ?_, no⟩
  · obtain ⟨st, ix, cs, h1, h2, r⟩ := (hs.w.sr q c e).at_
    refine ⟨fun z => ?_, fun z => ?_⟩
    · rw [z, h1] at h0; cases h0
    · rw [z, h2] at h0; cases h0
  · obtain ⟨_, vs, h⟩ := hs.held hl
    rw [h0] at h; cases h
end
section
variable {α β γ ω ρ τ : Type} [iα : Rp G α] [iβ : Rp G β] [iγ : Rp G γ] [iρ : Rp G ρ]
def ra0 : Unit → List V → Hp → Prop := fun _ vs _ => vs = []
def raC (α : Type) [iα : Rp G α] (ra : τ → List V → Hp → Prop) : α × τ → List V → Hp → Prop := fun p vs F => ∃ v ws, vs = v :: ws ∧ iα.rp p.1 v F ∧ ra p.2 ws F
def NN.of (F H : Hp) (E : XK) : NN := ⟨F, H, fun _ => False, none, E, fun _ => none⟩
def NN.src (F H : Hp) (p c : Addr) (E : XK) : NN := ⟨F, H, fun a => a = p ∨ a = c, some (p, c), E, fun _ => none⟩
/-- the promise of a def: from data to data; to a new list; with the source of draws first -/
def SpF (G : Glob) {ρ τ : Type} [Rp G ρ] (ra : τ → List V → Hp → Prop) (f : τ → Prog ρ) : Sp := fun vs H Q E => ∃ F x, Same F H ∧ ra x vs F ∧
  wp (f x) (fun r => ∀ v F' H', W (.of F H E) F' H' → Rp.rp (G := G) r v F' → Q v H') (EP G (.of F H E))
def SpN (G : Glob) {α τ : Type} [Enc α] (ra : τ → List V → Hp → Prop) (f : τ → Prog (L α)) : Sp := fun vs H Q E => ∃ F x, Same F H ∧ ra x vs F ∧
  wp (f x) (fun (r : List α) => ∀ p ws F' H', W (.of F H E) F' H' → Mine (.of F H E) F' p → H p = none → H' p = some (.lst ws) → DqAll G.K F' ws (r.map enc) → Q (.ref p) H') (EP G (.of F H E))
def SpS (G : Glob) {ρ τ : Type} [Rp G ρ] (ra : τ → List V → Hp → Prop) (f : τ → Prog ρ) : Sp := fun vs H Q E => ∃ p c us F x, vs = .ref p :: us ∧ SrcAt p c F H ∧ Same F H ∧ ra x us F ∧
  wp (f x) (fun r => ∀ v F' H', W (.src F H p c E) F' H' → Rp.rp (G := G) r v F' → Q v H') (EP G (.src F H p c E))
def SpSN (G : Glob) {α τ : Type} [Enc α] (ra : τ → List V → Hp → Prop) (f : τ → Prog (L α)) : Sp := fun vs H Q E => ∃ p c us F x, vs = .ref p :: us ∧ SrcAt p c F H ∧ Same F H ∧ ra x us F ∧
  wp (f x) (fun (r : List α) => ∀ q ws F' H', W (.src F H p c E) F' H' → Mine (.src F H p c E) F' q → H q = none → H' q = some (.lst ws) → DqAll G.K F' ws (r.map enc) → Q (.ref q) H') (EP G (.src F H p c E))
variable {N : NN} {Γ Γ' : Env G} {te ta tb tc td tf : TE} {t : TA} {tt tu : TT} {tz ts ts' : TS}
theorem ep_of {F H : Hp} {σ : L2.St} {B : Addr → Prop} {S : Option (Addr × Addr)} {F1 H1 : Hp} (hs : HS N Γ σ F1 H1) (hB : ∀ a, B a → ∃ p c, N.S = some (p, c) ∧ S = some (p, c) ∧ (a = p ∨ a = c)) (e : Exc) (h : EP G N e) : EP G ⟨F1, H1, B, S, N.E, fun _ => none⟩ e :=
  fun F' H' C d w r => h F' H' C d (hs.call hB w).1.w r
theorem noB {N : NN} {S : Option (Addr × Addr)} : ∀ a : Addr, (fun _ => False : Addr → Prop) a → ∃ p c, N.S = some (p, c) ∧ S = some (p, c) ∧ (a = p ∨ a = c) := fun _ h => h.elim
theorem ev_call {ra : τ → List V → Hp → Prop} {f : τ → Prog ρ} {m : Prog τ} (h : EVA N Γ t m ra) : EV N Γ (tCall (SpF G ra f) [] N.E t) (m >>= f) := fun σ F H hs Q q =>
  h σ F H hs _ (wp_mono (wp_bind.1 q) fun x q1 vs F1 H1 hs1 e1 r1 => ⟨F1, x, hs1.w.fh, by rw [List.append_nil]; exact r1, wp_imp q1 (fun r k v F' H' w rr => by
    obtain ⟨hs2, e2⟩ := hs1.call noB w
    exact k v F' H' hs2 (Same.trans e1 e2) rr) fun e he => ep_of (F := F) (H := H) hs1 noB e he⟩)
theorem evn_call {α τ : Type} [Enc α] {ra : τ → List V → Hp → Prop} {f : τ → Prog (L α)} {m : Prog τ} (h : EVA N Γ t m ra) : EVN N Γ (tCall (SpN G ra f) [] N.E t) (m >>= f) := fun σ F H hs Q q =>
  h σ F H hs _ (wp_mono (wp_bind.1 q) fun x q1 vs F1 H1 hs1 e1 r1 => ⟨F1, x, hs1.w.fh, by rw [List.append_nil]; exact r1, wp_imp q1 (fun r k p ws F' H' w m h0 hp d => by
    obtain ⟨hs2, e2⟩ := hs1.call noB w
    exact k p ws F' H' hs2 (Same.trans e1 e2) (hs1.newAt m h0) hp d) fun e he => ep_of (F := F) (H := H) hs1 noB e he⟩)
theorem srcB {N : NN} {p c : Addr} (h : N.S = some (p, c)) : ∀ a : Addr, (fun a => a = p ∨ a = c : Addr → Prop) a → ∃ p' c', N.S = some (p', c') ∧ some (p, c) = some (p', c') ∧ (a = p' ∨ a = c') := fun a x => ⟨p, c, h, rfl, x⟩
theorem ev_callS {ra : τ → List V → Hp → Prop} {f : τ → Prog ρ} {m : Prog τ} {i : Nat} (hi : Γ[i]? = some .src) (h : EVA N Γ t m ra) : EV N Γ (tCall (SpS G ra f) [] N.E (tCons (tVar i) t)) (m >>= f) := fun σ F H hs Q q => by
  obtain ⟨o, e0, p, c, e2, hS⟩ := hs.sl.get hi
  subst e2
  refine ⟨.ref p, e0, h σ F H hs _ (wp_mono (wp_bind.1 q) fun x q1 vs F1 H1 hs1 e1 r1 => ⟨p, c, vs, F1, x, by rw [List.append_nil], hs1.w.sr p c hS, hs1.w.fh, r1, wp_imp q1 (fun r k v F' H' w rr => ?_) fun e he => ep_of (F := F) (H := H) hs1 (srcB hS) e he⟩)⟩
  obtain ⟨hs2, e2⟩ := hs1.call (srcB hS) w
  exact k v F' H' hs2 (Same.trans e1 e2) rr
theorem evn_callS {α τ : Type} [Enc α] {ra : τ → List V → Hp → Prop} {f : τ → Prog (L α)} {m : Prog τ} {i : Nat} (hi : Γ[i]? = some .src) (h : EVA N Γ t m ra) : EVN N Γ (tCall (SpSN G ra f) [] N.E (tCons (tVar i) t)) (m >>= f) := fun σ F H hs Q q => by
  obtain ⟨o, e0, p, c, e2, hS⟩ := hs.sl.get hi
  subst e2
  refine ⟨.ref p, e0, h σ F H hs _ (wp_mono (wp_bind.1 q) fun x q1 vs F1 H1 hs1 e1 r1 => ⟨p, c, vs, F1, x, by rw [List.append_nil], hs1.w.sr p c hS, hs1.w.fh, r1, wp_imp q1 (fun r k q ws F' H' w m h0 hp d => ?_) fun e he => ep_of (F := F) (H := H) hs1 (srcB hS) e he⟩)⟩
  obtain ⟨hs2, e2⟩ := hs1.call (srcB hS) w
  exact k q ws F' H' hs2 (Same.trans e1 e2) (hs1.newAt m h0) hp d
theorem raC_mono {ra : τ → List V → Hp → Prop} (h : ∀ a vs F F', Same F F' → ra a vs F → ra a vs F') : ∀ (a : α × τ) vs F F', Same F F' → raC (G := G) α ra a vs F → raC (G := G) α ra a vs F' := fun a vs F F' e ⟨v, ws, e1, r, q⟩ => ⟨v, ws, e1, Rp.mono e r, h _ _ _ _ e q⟩
theorem ra0_mono : ∀ (a : Unit) (vs : List V) (F F' : Hp), Same F F' → ra0 a vs F → ra0 a vs F' := fun _ _ _ _ _ h => h
variable {δ ε : Type} [iδ : Rp G δ] [iε : Rp G ε]
variable {m1 : Prog α} {m2 : Prog β} {m3 : Prog γ} {m4 : Prog δ} {m5 : Prog ε}
theorem eva1 (h1 : EV N Γ ta m1) : EVA N Γ (tCons ta tNil) (m1 >>= fun a => .ok (a, ())) (raC (G := G) α ra0) := eva_cons ra0_mono h1 eva_nil
theorem eva2 (h1 : EV N Γ ta m1) (h2 : EV N Γ tb m2) : EVA N Γ (tCons ta (tCons tb tNil)) (m1 >>= fun a => m2 >>= fun b => .ok (a, b, ())) (raC (G := G) α (raC (G := G) β ra0)) := by
  have h := eva_cons (raC_mono ra0_mono) h1 (eva1 h2)
  simp only [bind_bind, ok_bind] at h
  exact h
theorem eva3 (h1 : EV N Γ ta m1) (h2 : EV N Γ tb m2) (h3 : EV N Γ tc m3) : EVA N Γ (tCons ta (tCons tb (tCons tc tNil))) (m1 >>= fun a => m2 >>= fun b => m3 >>= fun c => .ok (a, b, c, ())) (raC (G := G) α (raC (G := G) β (raC (G := G) γ ra0))) := by
  have h := eva_cons (raC_mono (raC_mono ra0_mono)) h1 (eva2 h2 h3)
  simp only [bind_bind, ok_bind] at h
  exact h
theorem eva4 (h1 : EV N Γ ta m1) (h2 : EV N Γ tb m2) (h3 : EV N Γ tc m3) (h4 : EV N Γ td m4) : EVA N Γ (tCons ta (tCons tb (tCons tc (tCons td tNil)))) (m1 >>= fun a => m2 >>= fun b => m3 >>= fun c => m4 >>= fun d => .ok (a, b, c, d, ())) (raC (G := G) α (raC (G := G) β (raC (G := G) γ (raC (G := G) δ ra0)))) := by
  have h := eva_cons (raC_mono (raC_mono (raC_mono ra0_mono))) h1 (eva3 h2 h3 h4)
  simp only [bind_bind, ok_bind] at h
  exact h
abbrev SpF1 (G : Glob) (α : Type) [Rp G α] (f : α → Prog ρ) [Rp G ρ] : Sp := SpF G (raC (G := G) α ra0) (fun p => f p.1)
abbrev SpF2 (G : Glob) (α β : Type) [Rp G α] [Rp G β] (f : α → β → Prog ρ) [Rp G ρ] : Sp := SpF G (raC (G := G) α (raC (G := G) β ra0)) (fun p => f p.1 p.2.1)
abbrev SpF3 (G : Glob) (α β γ : Type) [Rp G α] [Rp G β] [Rp G γ] (f : α → β → γ → Prog ρ) [Rp G ρ] : Sp := SpF G (raC (G := G) α (raC (G := G) β (raC (G := G) γ ra0))) (fun p => f p.1 p.2.1 p.2.2.1)
abbrev SpF4 (G : Glob) (α β γ δ : Type) [Rp G α] [Rp G β] [Rp G γ] [Rp G δ] (f : α → β → γ → δ → Prog ρ) [Rp G ρ] : Sp := SpF G (raC (G := G) α (raC (G := G) β (raC (G := G) γ (raC (G := G) δ ra0)))) (fun p => f p.1 p.2.1 p.2.2.1 p.2.2.2.1)
abbrev SpN1 (G : Glob) (α : Type) [Rp G α] {ρ : Type} [Enc ρ] (f : α → Prog (L ρ)) : Sp := SpN G (raC (G := G) α ra0) (fun p => f p.1)
abbrev SpN2 (G : Glob) (α β : Type) [Rp G α] [Rp G β] {ρ : Type} [Enc ρ] (f : α → β → Prog (L ρ)) : Sp := SpN G (raC (G := G) α (raC (G := G) β ra0)) (fun p => f p.1 p.2.1)
abbrev SpN3 (G : Glob) (α β γ : Type) [Rp G α] [Rp G β] [Rp G γ] {ρ : Type} [Enc ρ] (f : α → β → γ → Prog (L ρ)) : Sp := SpN G (raC (G := G) α (raC (G := G) β (raC (G := G) γ ra0))) (fun p => f p.1 p.2.1 p.2.2.1)
abbrev SpN4 (G : Glob) (α β γ δ : Type) [Rp G α] [Rp G β] [Rp G γ] [Rp G δ] {ρ : Type} [Enc ρ] (f : α → β → γ → δ → Prog (L ρ)) : Sp := SpN G (raC (G := G) α (raC (G := G) β (raC (G := G) γ (raC (G := G) δ ra0)))) (fun p => f p.1 p.2.1 p.2.2.1 p.2.2.2.1)
abbrev SpS0 (G : Glob) (f : Prog ρ) [Rp G ρ] : Sp := SpS G ra0 (fun _ => f)
abbrev SpS1 (G : Glob) (α : Type) [Rp G α] (f : α → Prog ρ) [Rp G ρ] : Sp := SpS G (raC (G := G) α ra0) (fun p => f p.1)
abbrev SpS2 (G : Glob) (α β : Type) [Rp G α] [Rp G β] (f : α → β → Prog ρ) [Rp G ρ] : Sp := SpS G (raC (G := G) α (raC (G := G) β ra0)) (fun p => f p.1 p.2.1)
abbrev SpS3 (G : Glob) (α β γ : Type) [Rp G α] [Rp G β] [Rp G γ] (f : α → β → γ → Prog ρ) [Rp G ρ] : Sp := SpS G (raC (G := G) α (raC (G := G) β (raC (G := G) γ ra0))) (fun p => f p.1 p.2.1 p.2.2.1)
theorem ev_call1 {f : α → Prog ρ} (h1 : EV N Γ ta m1) : EV N Γ (tCall (SpF1 G α f) [] N.E (tCons ta tNil)) (m1 >>= fun a => f a) := by
  have h := ev_call (f := fun p : α × Unit => f p.1) (eva1 h1)
  simp only [bind_bind, ok_bind] at h
  exact h
theorem ev_call2 {f : α → β → Prog ρ} (h1 : EV N Γ ta m1) (h2 : EV N Γ tb m2) : EV N Γ (tCall (SpF2 G α β f) [] N.E (tCons ta (tCons tb tNil))) (m1 >>= fun a => m2 >>= fun b => f a b) := by
  have h := ev_call (f := fun p : α × β × Unit => f p.1 p.2.1) (eva2 h1 h2)
  simp only [bind_bind, ok_bind] at h
  exact h
theorem ev_call3 {f : α → β → γ → Prog ρ} (h1 : EV N Γ ta m1) (h2 : EV N Γ tb m2) (h3 : EV N Γ tc m3) : EV N Γ (tCall (SpF3 G α β γ f) [] N.E (tCons ta (tCons tb (tCons tc tNil)))) (m1 >>= fun a => m2 >>= fun b => m3 >>= fun c => f a b c) := by
  have h := ev_call (f := fun p : α × β × γ × Unit => f p.1 p.2.1 p.2.2.1) (eva3 h1 h2 h3)
  simp only [bind_bind, ok_bind] at h
  exact h
theorem ev_call4 {f : α → β → γ → δ → Prog ρ} (h1 : EV N Γ ta m1) (h2 : EV N Γ tb m2) (h3 : EV N Γ tc m3) (h4 : EV N Γ td m4) : EV N Γ (tCall (SpF4 G α β γ δ f) [] N.E (tCons ta (tCons tb (tCons tc (tCons td tNil))))) (m1 >>= fun a => m2 >>= fun b => m3 >>= fun c => m4 >>= fun d => f a b c d) := by
  have h := ev_call (f := fun p : α × β × γ × δ × Unit => f p.1 p.2.1 p.2.2.1 p.2.2.2.1) (eva4 h1 h2 h3 h4)
  simp only [bind_bind, ok_bind] at h
  exact h
theorem evn_call1 {ζ : Type} [Enc ζ] {f : α → Prog (L ζ)} (h1 : EV N Γ ta m1) : EVN N Γ (tCall (SpN1 G α f) [] N.E (tCons ta tNil)) (m1 >>= fun a => f a) := by
  have h := evn_call (f := fun p : α × Unit => f p.1) (eva1 h1)
  simp only [bind_bind, ok_bind] at h
  exact h
theorem evn_call2 {ζ : Type} [Enc ζ] {f : α → β → Prog (L ζ)} (h1 : EV N Γ ta m1) (h2 : EV N Γ tb m2) : EVN N Γ (tCall (SpN2 G α β f) [] N.E (tCons ta (tCons tb tNil))) (m1 >>= fun a => m2 >>= fun b => f a b) := by
  have h := evn_call (f := fun p : α × β × Unit => f p.1 p.2.1) (eva2 h1 h2)
  simp only [bind_bind, ok_bind] at h
  exact h
theorem evn_call3 {ζ : Type} [Enc ζ] {f : α → β → γ → Prog (L ζ)} (h1 : EV N Γ ta m1) (h2 : EV N Γ tb m2) (h3 : EV N Γ tc m3) : EVN N Γ (tCall (SpN3 G α β γ f) [] N.E (tCons ta (tCons tb (tCons tc tNil)))) (m1 >>= fun a => m2 >>= fun b => m3 >>= fun c => f a b c) := by
  have h := evn_call (f := fun p : α × β × γ × Unit => f p.1 p.2.1 p.2.2.1) (eva3 h1 h2 h3)
  simp only [bind_bind, ok_bind] at h
  exact h
theorem evn_call4 {ζ : Type} [Enc ζ] {f : α → β → γ → δ → Prog (L ζ)} (h1 : EV N Γ ta m1) (h2 : EV N Γ tb m2) (h3 : EV N Γ tc m3) (h4 : EV N Γ td m4) : EVN N Γ (tCall (SpN4 G α β γ δ f) [] N.E (tCons ta (tCons tb (tCons tc (tCons td tNil))))) (m1 >>= fun a => m2 >>= fun b => m3 >>= fun c => m4 >>= fun d => f a b c d) := by
  have h := evn_call (f := fun p : α × β × γ × δ × Unit => f p.1 p.2.1 p.2.2.1 p.2.2.2.1) (eva4 h1 h2 h3 h4)
  simp only [bind_bind, ok_bind] at h
  exact h
theorem ev_callS0 {f : Prog ρ} {i : Nat} (hi : Γ[i]? = some .src) : EV N Γ (tCall (SpS0 G f) [] N.E (tCons (tVar i) tNil)) f := ev_callS (m := .ok ()) hi eva_nil
theorem ev_callS1 {f : α → Prog ρ} {i : Nat} (hi : Γ[i]? = some .src) (h1 : EV N Γ ta m1) : EV N Γ (tCall (SpS1 G α f) [] N.E (tCons (tVar i) (tCons ta tNil))) (m1 >>= fun a => f a) := by
  have h := ev_callS (f := fun p : α × Unit => f p.1) hi (eva1 h1)
  simp only [bind_bind, ok_bind] at h
  exact h
theorem ev_callS2 {f : α → β → Prog ρ} {i : Nat} (hi : Γ[i]? = some .src) (h1 : EV N Γ ta m1) (h2 : EV N Γ tb m2) : EV N Γ (tCall (SpS2 G α β f) [] N.E (tCons (tVar i) (tCons ta (tCons tb tNil)))) (m1 >>= fun a => m2 >>= fun b => f a b) := by
  have h := ev_callS (f := fun p : α × β × Unit => f p.1 p.2.1) hi (eva2 h1 h2)
  simp only [bind_bind, ok_bind] at h
  exact h
theorem ev_callS3 {f : α → β → γ → Prog ρ} {i : Nat} (hi : Γ[i]? = some .src) (h1 : EV N Γ ta m1) (h2 : EV N Γ tb m2) (h3 : EV N Γ tc m3) : EV N Γ (tCall (SpS3 G α β γ f) [] N.E (tCons (tVar i) (tCons ta (tCons tb (tCons tc tNil))))) (m1 >>= fun a => m2 >>= fun b => m3 >>= fun c => f a b c) := by
  have h := ev_callS (f := fun p : α × β × γ × Unit => f p.1 p.2.1 p.2.2.1) hi (eva3 h1 h2 h3)
  simp only [bind_bind, ok_bind] at h
  exact h
end
/-! ### a def of the text keeps its promise -/
section
variable {P : Program} {w : World} {mg : Str → Option Value} {base : Heap} {ρ τ : Type} [iρ : Rp G ρ]
/-- falls off its end -/
def JV (N : NN) : Aim Unit := ⟨fun _ _ D => (∀ F' H', W N F' H' → D.rt .non H') ∧ ∀ σ' F' H', W N F' H' → D.nx σ' H', fun _ h => h⟩
theorem sv_end {N : NN} {Γ : Env G} : SV N Γ tNext (JV N) (.ok ()) := fun σ F H D hs q => q.2 σ F H hs.w
theorem hs_start {ra : τ → List V → Hp → Prop} {Γ0 : τ → Env G} {Ns : List Str} {F H : Hp} {vs : List V} {x : τ} {E : XK} (e : Same F H) (h : ∀ N : NN, Slots N F H (Γ0 x) (start Ns vs)) (nown : ∀ (x : τ), ∀ e ∈ Γ0 x, e.own = false) : HS (.of F H E) (Γ0 x) (start Ns vs) F H :=
  ⟨⟨e, Same.refl F, fun a o h => .inl h, fun a o _ h => h, fun a h => h, fun p c h => (nomatch h), fun p c h => (nomatch h), fun a o h => (nomatch h)⟩, h _, fun i j e e' p h1 _ o1 => by
    have := nown x e (List.mem_of_getElem? h1)
    rw [o1] at this; cases this⟩
theorem hs_startS {ra : τ → List V → Hp → Prop} {Γ0 : τ → Env G} {Ns : List Str} {F H : Hp} {vs : List V} {x : τ} {E : XK} {p c : Addr} (e : Same F H) (sr : SrcAt p c F H) (h : ∀ N : NN, N.S = some (p, c) → Slots N F H (Γ0 x) (start Ns vs)) (nown : ∀ (x : τ), ∀ e ∈ Γ0 x, e.own = false) : HS (.src F H p c E) (Γ0 x) (start Ns vs) F H :=
  ⟨⟨e, Same.refl F, fun a o h => .inl h, fun a o _ h => h, fun a h => h, fun p' c' h => by cases h; exact sr, fun p' c' h => by cases h; exact ⟨.inr (.inl rfl), .inr (.inr rfl)⟩, fun a o h => (nomatch h)⟩, h _ rfl, fun i j e e' p h1 _ o1 => by
    have := nown x e (List.mem_of_getElem? h1)
    rw [o1] at this; cases this⟩
theorem fn_ok {x qual : Str} {st : Stmt} {f : Addr} {fd : FuncData} {Ns ps : List Str} {k : Nat} {ra : τ → List V → Hp → Prop} {g : τ → Prog ρ} (Fu : Fun G.K x qual st f fd) (S : FnScope Ns ps (defScope st)) (Γ0 : τ → Env G)
    (len : ∀ a vs F, ra a vs F → vs.length = ps.length) (h0 : ∀ (a : τ) vs F H (N : NN), ra a vs F → Slots N F H (Γ0 a) (start Ns vs)) (nown : ∀ (x : τ), ∀ e ∈ Γ0 x, e.own = false)
    (hbody : ∀ (cdv : Value) (A : Around) (outer : List PySem.Env) (s : Shared) (H F : Hp) (E : XK), Room k (A.deeper (envOfC qual (defScope st) s.heap.objs.size f cdv)) →
      ∃ t, PSs (cxOf (L2.CX P w) P w G.K mg base Ns qual (defScope st) f cdv A outer s H E) (defBody st) t ∧ ∀ a : τ, SV (.of F H E) (Γ0 a) t (JR G (.of F H E)) (g a)) : FnOk P w G.K mg base (L2.CX P w) (k + 1) f fd ps (SpF G ra g) :=
  Fu.okX S (fun vs H Q E ⟨F, a, _, r, _⟩ => len a vs F r) fun cdv A outer s H vs Q E hr ⟨F, a, e, r, q⟩ => by
    obtain ⟨t, hp, hv⟩ := hbody cdv A outer s H F E hr
    exact ⟨t, hp, hv a _ F H _ (hs_start (ra := ra) e (fun N => h0 a vs F H N r) nown) (wp_mono q fun r k v F' H' w rr => k v F' H' w rr)⟩
theorem fn_okV {x qual : Str} {st : Stmt} {f : Addr} {fd : FuncData} {Ns ps : List Str} {k : Nat} {ra : τ → List V → Hp → Prop} {g : τ → Prog Unit} (Fu : Fun G.K x qual st f fd) (S : FnScope Ns ps (defScope st)) (Γ0 : τ → Env G)
    (len : ∀ a vs F, ra a vs F → vs.length = ps.length) (h0 : ∀ (a : τ) vs F H (N : NN), ra a vs F → Slots N F H (Γ0 a) (start Ns vs)) (nown : ∀ (x : τ), ∀ e ∈ Γ0 x, e.own = false)
    (hbody : ∀ (cdv : Value) (A : Around) (outer : List PySem.Env) (s : Shared) (H F : Hp) (E : XK), Room k (A.deeper (envOfC qual (defScope st) s.heap.objs.size f cdv)) →
      ∃ t, PSs (cxOf (L2.CX P w) P w G.K mg base Ns qual (defScope st) f cdv A outer s H E) (defBody st) t ∧ ∀ a : τ, SV (.of F H E) (Γ0 a) t (JV (.of F H E)) (g a)) : FnOk P w G.K mg base (L2.CX P w) (k + 1) f fd ps (SpF G ra g) :=
  Fu.okX S (fun vs H Q E ⟨F, a, _, r, _⟩ => len a vs F r) fun cdv A outer s H vs Q E hr ⟨F, a, e, r, q⟩ => by
    obtain ⟨t, hp, hv⟩ := hbody cdv A outer s H F E hr
    exact ⟨t, hp, hv a _ F H _ (hs_start (ra := ra) e (fun N => h0 a vs F H N r) nown) (wp_mono q fun r k => ⟨fun F' H' w => k .non F' H' w .non, fun σ' F' H' w => k .non F' H' w .non⟩)⟩
theorem fn_okN {α : Type} [Enc α] {x qual : Str} {st : Stmt} {f : Addr} {fd : FuncData} {Ns ps : List Str} {k : Nat} {ra : τ → List V → Hp → Prop} {g : τ → Prog (L α)} (Fu : Fun G.K x qual st f fd) (S : FnScope Ns ps (defScope st)) (Γ0 : τ → Env G)
    (len : ∀ a vs F, ra a vs F → vs.length = ps.length) (h0 : ∀ (a : τ) vs F H (N : NN), ra a vs F → Slots N F H (Γ0 a) (start Ns vs)) (nown : ∀ (x : τ), ∀ e ∈ Γ0 x, e.own = false)
    (hbody : ∀ (cdv : Value) (A : Around) (outer : List PySem.Env) (s : Shared) (H F : Hp) (E : XK), Room k (A.deeper (envOfC qual (defScope st) s.heap.objs.size f cdv)) →
      ∃ t, PSs (cxOf (L2.CX P w) P w G.K mg base Ns qual (defScope st) f cdv A outer s H E) (defBody st) t ∧ ∀ a : τ, SV (.of F H E) (Γ0 a) t (JRN G (.of F H E)) (g a)) : FnOk P w G.K mg base (L2.CX P w) (k + 1) f fd ps (SpN G ra g) :=
  Fu.okX S (fun vs H Q E ⟨F, a, _, r, _⟩ => len a vs F r) fun cdv A outer s H vs Q E hr ⟨F, a, e, r, q⟩ => by
    obtain ⟨t, hp, hv⟩ := hbody cdv A outer s H F E hr
    exact ⟨t, hp, hv a _ F H _ (hs_start (ra := ra) e (fun N => h0 a vs F H N r) nown) (wp_mono q fun r k p ws F' H' w m h0 hp d => k p ws F' H' w m h0 hp d)⟩
theorem fn_okS {x qual : Str} {st : Stmt} {f : Addr} {fd : FuncData} {Ns ps : List Str} {k : Nat} {ra : τ → List V → Hp → Prop} {g : τ → Prog ρ} (Fu : Fun G.K x qual st f fd) (S : FnScope Ns ps (defScope st)) (Γ0 : τ → Env G)
    (len : ∀ a vs F, ra a vs F → vs.length + 1 = ps.length) (h0 : ∀ (a : τ) vs F H (N : NN) p c, N.S = some (p, c) → ra a vs F → Slots N F H (Γ0 a) (start Ns (.ref p :: vs))) (nown : ∀ (x : τ), ∀ e ∈ Γ0 x, e.own = false)
    (hbody : ∀ (cdv : Value) (A : Around) (outer : List PySem.Env) (s : Shared) (H F : Hp) (p c : Addr) (E : XK), Room k (A.deeper (envOfC qual (defScope st) s.heap.objs.size f cdv)) →
      ∃ t, PSs (cxOf (L2.CX P w) P w G.K mg base Ns qual (defScope st) f cdv A outer s H E) (defBody st) t ∧ ∀ a : τ, SV (.src F H p c E) (Γ0 a) t (JR G (.src F H p c E)) (g a)) : FnOk P w G.K mg base (L2.CX P w) (k + 1) f fd ps (SpS G ra g) :=
  Fu.okX S (fun vs H Q E ⟨p, c, us, F, a, e1, _, _, r, _⟩ => by rw [e1]; exact len a us F r) fun cdv A outer s H vs Q E hr ⟨p, c, us, F, a, e1, sr, e, r, q⟩ => by
    subst e1
    obtain ⟨t, hp, hv⟩ := hbody cdv A outer s H F p c E hr
    exact ⟨t, hp, hv a _ F H _ (hs_startS (ra := ra) e sr (fun N hS => h0 a us F H N p c hS r) nown) (wp_mono q fun r k v F' H' w rr => k v F' H' w rr)⟩
theorem fn_okSN {α : Type} [Enc α] {x qual : Str} {st : Stmt} {f : Addr} {fd : FuncData} {Ns ps : List Str} {k : Nat} {ra : τ → List V → Hp → Prop} {g : τ → Prog (L α)} (Fu : Fun G.K x qual st f fd) (S : FnScope Ns ps (defScope st)) (Γ0 : τ → Env G)
    (len : ∀ a vs F, ra a vs F → vs.length + 1 = ps.length) (h0 : ∀ (a : τ) vs F H (N : NN) p c, N.S = some (p, c) → ra a vs F → Slots N F H (Γ0 a) (start Ns (.ref p :: vs))) (nown : ∀ (x : τ), ∀ e ∈ Γ0 x, e.own = false)
    (hbody : ∀ (cdv : Value) (A : Around) (outer : List PySem.Env) (s : Shared) (H F : Hp) (p c : Addr) (E : XK), Room k (A.deeper (envOfC qual (defScope st) s.heap.objs.size f cdv)) →
      ∃ t, PSs (cxOf (L2.CX P w) P w G.K mg base Ns qual (defScope st) f cdv A outer s H E) (defBody st) t ∧ ∀ a : τ, SV (.src F H p c E) (Γ0 a) t (JRN G (.src F H p c E)) (g a)) : FnOk P w G.K mg base (L2.CX P w) (k + 1) f fd ps (SpSN G ra g) :=
  Fu.okX S (fun vs H Q E ⟨p, c, us, F, a, e1, _, _, r, _⟩ => by rw [e1]; exact len a us F r) fun cdv A outer s H vs Q E hr ⟨p, c, us, F, a, e1, sr, e, r, q⟩ => by
    subst e1
    obtain ⟨t, hp, hv⟩ := hbody cdv A outer s H F p c E hr
    exact ⟨t, hp, hv a _ F H _ (hs_startS (ra := ra) e sr (fun N hS => h0 a us F H N p c hS r) nown) (wp_mono q fun r k q ws F' H' w m h0 hp d => k q ws F' H' w m h0 hp d)⟩
end
end Ty

namespace Ty
open PySem PySem.Spec PyProof.Rows L2
open Enc (enc)
variable {G : Glob}
/-! ### plain functions of the mirrors -/
def cut {α : Type} (xs : List α) (lo hi : Option Int) : List α := (xs.drop (HT.sIx xs.length 0 lo)).take (HT.sIx xs.length xs.length hi - HT.sIx xs.length 0 lo)
def getI {α : Type} (xs : List α) (i : Int) : Prog α := match atI xs i with
  | some a => .ok a
  | none => .stuck
def memB {α : Type} [DecidableEq α] (a : α) (xs : List α) : Bool := decide (a ∈ xs)
theorem memB_eq {α : Type} [DecidableEq α] (a : α) (xs : List α) : memB a xs = decide (a ∈ xs) := rfl
def small (n : Nat) : Bool := decide (n ≤ 100000)
def chk {α : Type} (b : Bool) (m : Prog α) : Prog α := if b then m else .stuck
@[simp] theorem chk_true {α : Type} (m : Prog α) : chk true m = m := rfl
theorem wp_chk {α : Type} {b : Bool} {m : Prog α} {P : α → Prop} {E : Exc → Prop} (h : wp (chk b m) P E) : b = true ∧ wp m P E := by
  cases b with
  | true => exact ⟨rfl, h⟩
  | false => exact h.elim
theorem small_le {n : Nat} (h : small n = true) : n ≤ sizeLine := Nat.le_trans (of_decide_eq_true h) (by decide)
theorem small_lt {n : Nat} (h : small n = true) : n < sizeLine := Nat.lt_of_le_of_lt (of_decide_eq_true h) (by decide)

/-! ### scalars -/
class Scl (α : Type) [Enc α] where
  tv : α → V
  dp : ∀ {K : PySem.W.Frag} {F : Hp} {v : V} {a : α}, Dq K F v (enc a) → v = tv a
  pd : ∀ {K : PySem.W.Frag} {F : Hp} (a : α), Dq K F (tv a) (enc a)
  sc : ∀ a b : α, scal (tv a) (tv b) = true
  inj : ∀ a b : α, tv a = tv b → a = b
  fl : ∀ a : α, flatV (tv a) = true
  ev : ∀ a b : α, eqV (tv a) (tv b) = true ↔ a = b
instance : Scl Int := ⟨.int, fun h => by cases h; rfl, fun a => .int a, fun _ _ => rfl, fun a b e => by cases e; rfl, fun _ => rfl, fun a b => by
  show (a == b) = true ↔ _
  exact beq_iff_eq⟩
instance : Scl Bool := ⟨.bl, fun h => by cases h; rfl, fun a => .bl a, fun _ _ => rfl, fun a b e => by cases e; rfl, fun _ => rfl, fun a b => by
  show (a == b) = true ↔ _
  exact beq_iff_eq⟩
abbrev sx (s : Tx) : Str := ⟨s.toArray⟩
theorem sx_inj {a b : Tx} (h : sx a = sx b) : a = b := by
  have e := congrArg (fun x : Str => x.cps.toList) h
  exact e
instance : Scl (List Nat) := ⟨fun s => .str (sx s), fun h => by cases h; rfl, fun a => .str _, fun _ _ => rfl, fun a b e => sx_inj (V.str.inj e), fun _ => rfl, fun a b => by
  show (sx a == sx b) = true ↔ _
  rw [beq_iff_eq]
  exact ⟨sx_inj, fun e => by rw [e]⟩⟩
section
variable {α β γ : Type}
section
variable [Enc α] [Scl α]
theorem opv_eq [DecidableEq α] : OPV (G := G) (α := α) (β := α) (γ := Bool) rEq (fun a b => .ok (decide (a = b))) := fun N Γ σ F H x y a b hs ra rb Q q => by
  have e1 : x = Scl.tv a := Scl.dp ra
  have e2 : y = Scl.tv b := Scl.dp rb
  subst e1 e2
  have e : decide (Scl.tv a = Scl.tv b) = decide (a = b) := decide_eq_decide.2 ⟨Scl.inj a b, fun e => by rw [e]⟩
  exact ⟨Scl.sc a b, e ▸ q _ F H hs (Same.refl F) (.bl (decide (a = b)))⟩
theorem opv_ne [DecidableEq α] : OPV (G := G) (α := α) (β := α) (γ := Bool) rNe (fun a b => .ok (!decide (a = b))) := fun N Γ σ F H x y a b hs ra rb Q q => by
  have e1 : x = Scl.tv a := Scl.dp ra
  have e2 : y = Scl.tv b := Scl.dp rb
  subst e1 e2
  have e : decide (Scl.tv a = Scl.tv b) = decide (a = b) := decide_eq_decide.2 ⟨Scl.inj a b, fun e => by rw [e]⟩
  exact ⟨Scl.sc a b, by rw [e]; exact q _ F H hs (Same.refl F) (.bl _)⟩
theorem dpAll_scl {K : PySem.W.Frag} {F : Hp} : ∀ {xs : List α} {vs : List V}, DqAll K F vs (xs.map enc) → vs = xs.map Scl.tv
  | [], _, h => by cases h; rfl
  | x :: xs, _, h => by
    cases h with
    | cons h1 h2 => rw [Scl.dp h1, dpAll_scl h2]; rfl
theorem inV_scl [DecidableEq α] (a : α) : ∀ xs : List α, inV (Scl.tv a) (xs.map Scl.tv) = decide (a ∈ xs)
  | [] => by simp [inV]
  | x :: xs => by
    have ih := inV_scl a xs
    unfold inV at ih ⊢
    rw [List.map_cons, List.any_cons, ih]
    by_cases e : a = x
    · subst e
      have := (Scl.ev a a).2 rfl
      simp [this]
    · have : eqV (Scl.tv x) (Scl.tv a) = false := by
        cases h : eqV (Scl.tv x) (Scl.tv a) with
        | false => rfl
        | true => exact absurd ((Scl.ev x a).1 h).symm e
      simp [this, e]
theorem all_flat (xs : List α) : (xs.map Scl.tv).all flatV = true := by
  rw [List.all_eq_true]
  intro v hv
  obtain ⟨a, _, rfl⟩ := List.mem_map.1 hv
  exact Scl.fl a
theorem dp_tup {K : PySem.W.Frag} {F : Hp} {v : V} {xs : List α} (h : Dq K F v (.tuple (xs.map enc))) : ∃ p, v = .ref p ∧ SqT K F p (xs.map Scl.tv) := by
  cases h with
  | tup hs ha => exact ⟨_, rfl, dpAll_scl ha ▸ hs⟩
theorem dp_lst {K : PySem.W.Frag} {F : Hp} {v : V} {xs : List α} (h : Dq K F v (.list (xs.map enc))) : ∃ p, v = .ref p ∧ SqL K F p (xs.map Scl.tv) := by
  cases h with
  | lst hs ha => exact ⟨_, rfl, .inl (dpAll_scl ha ▸ hs)⟩
theorem opv_inT [DecidableEq α] : OPV (G := G) (α := α) (β := List α) (γ := Bool) (rIn G.K false) (fun a xs => .ok (memB a xs)) := fun N Γ σ F H x y a xs hs ra rb Q q => by
  have e1 : x = Scl.tv a := Scl.dp ra
  subst e1
  obtain ⟨p, rfl, hq⟩ := dp_tup rb
  exact ⟨p, _, rfl, .inr (sqt_same hs.w.fh hq), Scl.fl a, all_flat xs, by rw [if_neg Bool.false_ne_true, inV_scl]; exact q _ F H hs (Same.refl F) (.bl _)⟩
theorem opv_ninT [DecidableEq α] : OPV (G := G) (α := α) (β := List α) (γ := Bool) (rIn G.K true) (fun a xs => .ok (!memB a xs)) := fun N Γ σ F H x y a xs hs ra rb Q q => by
  have e1 : x = Scl.tv a := Scl.dp ra
  subst e1
  obtain ⟨p, rfl, hq⟩ := dp_tup rb
  exact ⟨p, _, rfl, .inr (sqt_same hs.w.fh hq), Scl.fl a, all_flat xs, by rw [if_pos rfl, inV_scl]; exact q _ F H hs (Same.refl F) (.bl _)⟩
theorem opv_inL [DecidableEq α] : OPV (G := G) (α := α) (β := L α) (γ := Bool) (rIn G.K false) (fun a (xs : L α) => .ok (memB a (un xs))) := fun N Γ σ F H x y a xs hs ra rb Q q => by
  have e1 : x = Scl.tv a := Scl.dp ra
  subst e1
  obtain ⟨p, rfl, hq⟩ := dp_lst rb
  exact ⟨p, _, rfl, .inl (sql_same hs.w.fh hq), Scl.fl a, all_flat _, Eq.mpr (congrArg (fun b => Q (.bl b) H) (inV_scl a xs)) (q _ F H hs (Same.refl F) (.bl _))⟩
theorem opv_ninL [DecidableEq α] : OPV (G := G) (α := α) (β := L α) (γ := Bool) (rIn G.K true) (fun a (xs : L α) => .ok (!memB a (un xs))) := fun N Γ σ F H x y a xs hs ra rb Q q => by
  have e1 : x = Scl.tv a := Scl.dp ra
  subst e1
  obtain ⟨p, rfl, hq⟩ := dp_lst rb
  exact ⟨p, _, rfl, .inl (sql_same hs.w.fh hq), Scl.fl a, all_flat _, Eq.mpr (congrArg (fun b => Q (.bl (!b)) H) (inV_scl a xs)) (q _ F H hs (Same.refl F) (.bl _))⟩
end
/-! ints -/
theorem opv_I0 {f : Int → Int → Int} : OPV (G := G) (α := Int) (β := Int) (γ := Int) (rI0 fun i j => .int (f i j)) (fun a b => .ok (f a b)) := fun N Γ σ F H x y a b hs ra rb Q q => by
  have e1 : x = .int a := Scl.dp ra
  have e2 : y = .int b := Scl.dp rb
  exact ⟨a, b, e1, e2, q _ F H hs (Same.refl F) (.int _)⟩
theorem opv_B0 {f : Int → Int → Bool} : OPV (G := G) (α := Int) (β := Int) (γ := Bool) (rI0 fun i j => .bl (f i j)) (fun a b => .ok (f a b)) := fun N Γ σ F H x y a b hs ra rb Q q => by
  have e1 : x = .int a := Scl.dp ra
  have e2 : y = .int b := Scl.dp rb
  exact ⟨a, b, e1, e2, q _ F H hs (Same.refl F) (.bl _)⟩
theorem opv_I {C : Int → Int → Prop} {f : Int → Int → Int} (c : Int → Int → Bool) (hc : ∀ i j, c i j = true → C i j) : OPV (G := G) (α := Int) (β := Int) (γ := Int) (rI C fun i j => .int (f i j)) (fun a b => chk (c a b) (.ok (f a b))) := fun N Γ σ F H x y a b hs ra rb Q q => by
  have e1 : x = .int a := Scl.dp ra
  have e2 : y = .int b := Scl.dp rb
  obtain ⟨h, q⟩ := wp_chk q
  exact ⟨a, b, e1, e2, hc a b h, q _ F H hs (Same.refl F) (.int _)⟩
def cMul (i j : Int) : Bool := decide (i.natAbs < 2 ^ 63) || decide (j.natAbs < 2 ^ 63)
theorem cMul_ok (i j : Int) (h : cMul i j = true) : CMul i j := by
  rcases Bool.or_eq_true_iff.1 h with h | h
  · have := of_decide_eq_true h
    left; omega
  · have := of_decide_eq_true h
    right; omega
def cPos (_ j : Int) : Bool := decide (0 < j)
theorem cPos_ok (i j : Int) (h : cPos i j = true) : 0 < j := of_decide_eq_true h
def cDiv (_ j : Int) : Bool := decide (0 < j) && decide (j < 1073741824)
theorem cDiv_ok (i j : Int) (h : cDiv i j = true) : CDiv i j := by
  obtain ⟨a, b⟩ := Bool.and_eq_true_iff.1 h
  exact ⟨of_decide_eq_true a, of_decide_eq_true b⟩
def cPow (i j : Int) : Bool := decide (0 ≤ j) && decide (j ≤ 100) && decide (i.natAbs < 2 ^ 63)
theorem cPow_ok (i j : Int) (h : cPow i j = true) : CPow i j := by
  obtain ⟨a, b⟩ := Bool.and_eq_true_iff.1 h
  obtain ⟨a, c⟩ := Bool.and_eq_true_iff.1 a
  have b := of_decide_eq_true b
  have c := of_decide_eq_true c
  exact ⟨of_decide_eq_true a, by omega, by omega⟩
theorem unv_neg : UNV (G := G) (α := Int) (γ := Int) (rU fun i => .int (-i)) (fun a => .ok (-a)) := fun N Γ σ F H x a hs ra Q q => by
  have e1 : x = .int a := Scl.dp ra
  exact ⟨a, e1, q _ F H hs (Same.refl F) (.int _)⟩
/-! texts -/
theorem opv_addS : OPV (G := G) (α := Tx) (β := Tx) (γ := Tx) (fun x y H Q => ∃ i j, x = .str i ∧ y = .str j ∧ i.length + j.length ≤ sizeLine ∧ Q (.str (i ++ j)) H) (fun a b => chk (small (a.length + b.length)) (.ok (a ++ b))) := fun N Γ σ F H x y a b hs ra rb Q q => by
  have e1 : x = .str (sx a) := Scl.dp (α := Tx) ra
  have e2 : y = .str (sx b) := Scl.dp (α := Tx) rb
  obtain ⟨h, q⟩ := wp_chk q
  refine ⟨sx a, sx b, e1, e2, by have := small_le h; simpa [Str.length, sx] using this, ?_⟩
  have e : (sx a ++ sx b : Str) = sx (a ++ b) := by
    show (⟨a.toArray ++ b.toArray⟩ : Str) = _
    simp [sx]
  rw [e]
  exact q _ F H hs (Same.refl F) (.str _)
/-! == of data -/
def eqP [Enc α] [Enc β] (a : α) (b : β) : Prog Bool := chk (SeqAt.shaped (enc a) && SeqAt.shaped (enc b)) (.ok (PyData.eqv (enc a) (enc b)))
def neP [Enc α] [Enc β] (a : α) (b : β) : Prog Bool := chk (SeqAt.shaped (enc a) && SeqAt.shaped (enc b)) (.ok (!PyData.eqv (enc a) (enc b)))
theorem opv_eqD [Enc α] [Enc β] : OPV (G := G) (α := α) (β := β) (γ := Bool) (rEqD G.K) eqP := fun N Γ σ F H x y a b hs ra rb Q q => by
  obtain ⟨h, q⟩ := wp_chk q
  obtain ⟨h1, h2⟩ := Bool.and_eq_true_iff.1 h
  exact ⟨enc a, enc b, dq_dp _ _ (dp_same hs.w.fh _ _ ra), dq_dp _ _ (dp_same hs.w.fh _ _ rb), h1, h2, q _ F H hs (Same.refl F) (.bl _)⟩
theorem opv_neD [Enc α] [Enc β] : OPV (G := G) (α := α) (β := β) (γ := Bool) (rNeD G.K) neP := fun N Γ σ F H x y a b hs ra rb Q q => by
  obtain ⟨h, q⟩ := wp_chk q
  obtain ⟨h1, h2⟩ := Bool.and_eq_true_iff.1 h
  exact ⟨enc a, enc b, dq_dp _ _ (dp_same hs.w.fh _ _ ra), dq_dp _ _ (dp_same hs.w.fh _ _ rb), h1, h2, q _ F H hs (Same.refl F) (.bl _)⟩
/-! x is None -/
class Noneness (α : Type) [Enc α] where
  isN : α → Bool
  ok : ∀ {K : PySem.W.Frag} {F : Hp} {v : V} {a : α}, Dq K F v (enc a) → decide (v = .non) = isN a
instance : Noneness PyData := ⟨fun d => match d with | .none => true | _ => false, fun {K F v a} h => by
  have h' : Dq K F v a := h
  cases h' <;> rfl⟩
class NotNone (α : Type) [Enc α] : Prop where
  nn : ∀ {K : PySem.W.Frag} {F : Hp} {v : V} {a : α}, Dq K F v (enc a) → v ≠ .non
instance : NotNone Int := ⟨fun h => by cases h; intro z; cases z⟩
instance : NotNone Bool := ⟨fun h => by cases h; intro z; cases z⟩
instance : NotNone (List Nat) := ⟨fun h => by cases h; intro z; cases z⟩
instance {α : Type} [Enc α] : NotNone (List α) := ⟨fun h => by
  have h' : Dq _ _ _ (.tuple _) := h
  cases h'; intro z; cases z⟩
instance {α : Type} [Enc α] : NotNone (L α) := ⟨fun h => by
  have h' : Dq _ _ _ (.list _) := h
  cases h'; intro z; cases z⟩
instance {α β : Type} [Enc α] [Enc β] : NotNone (α × β) := ⟨fun h => by
  have h' : Dq _ _ _ (.tuple _) := h
  cases h'; intro z; cases z⟩
instance {α β γ : Type} [Enc α] [Enc β] [Enc γ] : NotNone (T3 α β γ) := ⟨fun h => by
  have h' : Dq _ _ _ (.tuple _) := h
  cases h'; intro z; cases z⟩
instance {α β γ δ : Type} [Enc α] [Enc β] [Enc γ] [Enc δ] : NotNone (T4 α β γ δ) := ⟨fun h => by
  have h' : Dq _ _ _ (.tuple _) := h
  cases h'; intro z; cases z⟩
instance {α : Type} [Enc α] [NotNone α] : Noneness (Option α) := ⟨fun o => o.isNone, fun {K F v a} h => by
  cases a with
  | none =>
    have h' : Dq K F v .none := h
    cases h'; rfl
  | some a => exact decide_eq_false (NotNone.nn (a := a) h)⟩
def rIsNone : R2 := fun x y H Q => y = .non ∧ Q (.bl (decide (x = .non))) H
def rNotNone : R2 := fun x y H Q => y = .non ∧ Q (.bl (!decide (x = .non))) H
theorem ev_isN [Enc α] [Noneness α] {N : NN} {Γ : Env G} {ta : TE} {m : Prog α} (h : EV N Γ ta m) : EV N Γ (tOp (fun x y H Q => y = .non ∧ Q (.bl (decide (x = .non))) H) ta (tC .non)) (m >>= fun a => .ok (Noneness.isN a)) := fun σ F H hs Q q =>
  h σ F H hs _ (wp_mono (wp_bind.1 q) fun a k v F1 H1 hs1 e1 r1 => ⟨rfl, by rw [Noneness.ok r1]; exact k _ F1 H1 hs1 e1 (.bl _)⟩)
theorem ev_notN [Enc α] [Noneness α] {N : NN} {Γ : Env G} {ta : TE} {m : Prog α} (h : EV N Γ ta m) : EV N Γ (tOp (fun x y H Q => y = .non ∧ Q (.bl (!decide (x = .non))) H) ta (tC .non)) (m >>= fun a => .ok (!Noneness.isN a)) := fun σ F H hs Q q =>
  h σ F H hs _ (wp_mono (wp_bind.1 q) fun a k v F1 H1 hs1 e1 r1 => ⟨rfl, by rw [Noneness.ok r1]; exact k _ F1 H1 hs1 e1 (.bl _)⟩)
end
/-! ### chains, subscripts, slices -/
section
variable {α β γ δ ω : Type} [iα : Rp G α] [iβ : Rp G β] [iγ : Rp G γ] {N : NN} {Γ Γ' : Env G} {te ta tb tc : TE} {tt tu : TT} {tz : TS}
theorem ev_chain {r r' : R2} {g : α → β → Prog Bool} {g' : β → γ → Prog Bool} {m1 : Prog α} {m2 : Prog β} {m3 : Prog γ} (h1 : EV N Γ ta m1) (h2 : EV N Γ tb m2) (h3 : EV N Γ tc m3) (ho : OPV (G := G) r g) (ho' : OPV (G := G) r' g') :
    EV N Γ (tChain r r' ta tb tc) (m1 >>= fun a => m2 >>= fun b => g a b >>= fun k => if k then m3 >>= fun c => g' b c else .ok false) := fun σ F H hs Q q =>
  h1 σ F H hs _ (wp_mono (wp_bind.1 q) fun a q1 x F1 H1 hs1 e1 r1 => h2 σ F1 H1 hs1 _ (wp_mono (wp_bind.1 q1) fun b q2 y F2 H2 hs2 e2 r2 =>
    ho N Γ σ F2 H2 x y a b hs2 (Rp.mono e2 r1) r2 _ (wp_mono (wp_bind.1 q2) fun k q3 z F3 H3 hs3 e3 r3 => by
      have e : z = .bl k := Scl.dp (α := Bool) r3
      refine ⟨k, e, ?_⟩
      cases k with
      | true => exact h3 σ F3 H3 hs3 _ (wp_mono (wp_bind.1 q3) fun c q4 z' F4 H4 hs4 e4 r4 => ho' N Γ σ F4 H4 y z' b c hs4 (Rp.mono (Same.trans e3 e4) r2) r4 Q (wp_mono q4 fun d q5 v F5 H5 hs5 e5 r5 => q5 v F5 H5 hs5 (Same.trans e1 (Same.trans e2 (Same.trans e3 (Same.trans e4 e5)))) r5))
      | false => exact q3 _ F3 H3 hs3 (Same.trans e1 (Same.trans e2 e3)) (.bl false))))
theorem dpAll_at {K : PySem.W.Frag} {F : Hp} {α : Type} [Enc α] : ∀ {xs : List α} {vs : List V} {j : Nat} {a : α}, DqAll K F vs (xs.map enc) → xs[j]? = some a → ∃ v, vs[j]? = some v ∧ Dq K F v (enc a)
  | [], _, _, _, _, h => by simp at h
  | x :: xs, _, 0, a, h, e => by
    cases h with
    | cons h1 h2 =>
      have e1 : x = a := Option.some.inj e
      subst e1
      exact ⟨_, rfl, h1⟩
  | x :: xs, _, j + 1, a, h, e => by
    cases h with
    | cons h1 h2 => exact dpAll_at (j := j) h2 e
theorem dpAll_len {K : PySem.W.Frag} {F : Hp} {α : Type} [Enc α] {xs : List α} {vs : List V} (h : DqAll K F vs (xs.map enc)) : vs.length = xs.length := by
  have e := dpAll_length h
  rw [List.length_map] at e
  exact e
theorem atI_dp {K : PySem.W.Frag} {F : Hp} {α : Type} [Enc α] {xs : List α} {vs : List V} {i : Int} {a : α} (h : DqAll K F vs (xs.map enc)) (e : atI xs i = some a) : ∃ v, atI vs i = some v ∧ Dq K F v (enc a) := by
  unfold atI at e ⊢
  rw [dpAll_len h]
  cases hj : ixN xs.length i with
  | none => rw [hj] at e; cases e
  | some j =>
    rw [hj] at e
    exact dpAll_at h e
theorem wp_getI {α : Type} {xs : List α} {i : Int} {P : α → Prop} {E : Exc → Prop} (h : wp (getI xs i) P E) : ∃ a, atI xs i = some a ∧ P a := by
  unfold getI at h
  cases e : atI xs i with
  | none => rw [e] at h; exact h.elim
  | some a => rw [e] at h; exact ⟨a, rfl, h⟩
theorem opv_ixT {α : Type} [Enc α] : OPV (G := G) (α := List α) (β := Int) (γ := α) (rIxT G.K) (fun xs i => getI xs i) := fun N Γ σ F H x y xs i hs ra rb Q q => by
  have e2 : y = .int i := Scl.dp rb
  obtain ⟨a, e, q⟩ := wp_getI q
  have h : Dq G.K F x (.tuple (xs.map enc)) := ra
  cases h with
  | tup hq ha =>
    obtain ⟨v, e3, d⟩ := atI_dp ha e
    exact ⟨_, _, i, v, rfl, e2, sqt_same hs.w.fh hq, e3, q v F H hs (Same.refl F) d⟩
theorem opv_ixL {α : Type} [Enc α] : OPV (G := G) (α := L α) (β := Int) (γ := α) (rIxL G.K) (fun (xs : List α) i => getI xs i) := fun N Γ σ F H x y xs i hs ra rb Q q => by
  have e2 : y = .int i := Scl.dp rb
  obtain ⟨a, e, q⟩ := wp_getI q
  have h : Dq G.K F x (.list (List.map enc xs)) := ra
  cases h with
  | lst hq ha =>
    obtain ⟨v, e3, d⟩ := atI_dp ha e
    exact ⟨_, _, i, v, rfl, e2, sql_same hs.w.fh (.inl hq), e3, q v F H hs (Same.refl F) d⟩
def getS (s : Tx) (i : Int) : Prog Tx := chk (small s.length) (getI s i >>= fun c => .ok [c])
theorem opv_ixS : OPV (G := G) (α := Tx) (β := Int) (γ := Tx) rIxS getS := fun N Γ σ F H x y s i hs ra rb Q q => by
  have e1 : x = .str (sx s) := Scl.dp (α := Tx) ra
  have e2 : y = .int i := Scl.dp rb
  obtain ⟨h, q⟩ := wp_chk q
  obtain ⟨c, e, q⟩ := wp_getI (wp_bind.1 q)
  exact ⟨sx s, i, c, e1, e2, by simpa [Str.length, sx] using small_le h, e, q _ F H hs (Same.refl F) (.str _)⟩
/-- a fixed place of a tuple or list of several kinds -/
theorem ev_at {τ α : Type} [Enc τ] [Enc α] {f : τ → α} {r : R2} {k : Int} {m : Prog τ} (hr : ∀ (t : τ) (x : V) F H (Q : VK), Dq G.K F x (enc t) → Same F H → (∀ v, Dq G.K F v (enc (f t)) → Q v H) → r x (.int k) H Q) (h : EV N Γ ta m) :
    EV N Γ (tOp r ta (tC (.int k))) (m >>= fun t => .ok (f t)) := fun σ F H hs Q q =>
  h σ F H hs _ (wp_mono (wp_bind.1 q) fun t q1 x F1 H1 hs1 e1 r1 => hr t x F1 H1 Q r1 hs1.w.fh fun v d => q1 v F1 H1 hs1 e1 d)
section
variable {α β γ δ : Type} [Enc α] [Enc β] [Enc γ] [Enc δ]
theorem at_tup {ds : List PyData} {d : PyData} {k : Nat} (hk : ds[k]? = some d) {x : V} {F H : Hp} {Q : VK} (h : Dq G.K F x (.tuple ds)) (e : Same F H) (q : ∀ v, Dq G.K F v d → Q v H) : rIxT G.K x (.int (k : Nat)) H Q := by
  cases h with
  | tup hq ha =>
    have go : ∀ (ds : List PyData) (vs : List V) (k : Nat), DqAll G.K F vs ds → ds[k]? = some d → ∃ v, vs[k]? = some v ∧ Dq G.K F v d := by
      intro ds
      induction ds with
      | nil => intro vs k _ h; simp at h
      | cons y ys ih =>
        intro vs k ha hk
        cases ha with
        | cons h1 h2 =>
          cases k with
          | zero => cases hk; exact ⟨_, rfl, h1⟩
          | succ k => exact ih _ k h2 hk
    obtain ⟨v, e3, dd⟩ := go _ _ _ ha hk
    exact ⟨_, _, _, v, rfl, rfl, sqt_same e hq, atI_nat e3, q v dd⟩
theorem at_lst {ds : List PyData} {d : PyData} {k : Nat} (hk : ds[k]? = some d) {x : V} {F H : Hp} {Q : VK} (h : Dq G.K F x (.list ds)) (e : Same F H) (q : ∀ v, Dq G.K F v d → Q v H) : rIxL G.K x (.int (k : Nat)) H Q := by
  cases h with
  | lst hq ha =>
    have go : ∀ (ds : List PyData) (vs : List V) (k : Nat), DqAll G.K F vs ds → ds[k]? = some d → ∃ v, vs[k]? = some v ∧ Dq G.K F v d := by
      intro ds
      induction ds with
      | nil => intro vs k _ h; simp at h
      | cons y ys ih =>
        intro vs k ha hk
        cases ha with
        | cons h1 h2 =>
          cases k with
          | zero => cases hk; exact ⟨_, rfl, h1⟩
          | succ k => exact ih _ k h2 hk
    obtain ⟨v, e3, dd⟩ := go _ _ _ ha hk
    exact ⟨_, _, _, v, rfl, rfl, sql_same e (.inl hq), atI_nat e3, q v dd⟩
theorem ev_p1 {m : Prog (α × β)} (h : EV N Γ ta m) : EV N Γ (tOp (rIxT G.K) ta (tC (.int 0))) (m >>= fun t => .ok t.1) := ev_at (fun t x F H Q d e q => at_tup (k := 0) rfl d e q) h
theorem ev_p2 {m : Prog (α × β)} (h : EV N Γ ta m) : EV N Γ (tOp (rIxT G.K) ta (tC (.int 1))) (m >>= fun t => .ok t.2) := ev_at (fun t x F H Q d e q => at_tup (k := 1) rfl d e q) h
theorem ev_t1 {m : Prog (T3 α β γ)} (h : EV N Γ ta m) : EV N Γ (tOp (rIxT G.K) ta (tC (.int 0))) (m >>= fun t => .ok t.a) := ev_at (fun t x F H Q d e q => at_tup (k := 0) rfl d e q) h
theorem ev_t2 {m : Prog (T3 α β γ)} (h : EV N Γ ta m) : EV N Γ (tOp (rIxT G.K) ta (tC (.int 1))) (m >>= fun t => .ok t.b) := ev_at (fun t x F H Q d e q => at_tup (k := 1) rfl d e q) h
theorem ev_t3 {m : Prog (T3 α β γ)} (h : EV N Γ ta m) : EV N Γ (tOp (rIxT G.K) ta (tC (.int 2))) (m >>= fun t => .ok t.c) := ev_at (fun t x F H Q d e q => at_tup (k := 2) rfl d e q) h
theorem ev_l1 {m : Prog (L2v α β)} (h : EV N Γ ta m) : EV N Γ (tOp (rIxL G.K) ta (tC (.int 0))) (m >>= fun t => .ok t.a) := ev_at (fun t x F H Q d e q => at_lst (k := 0) rfl d e q) h
theorem ev_l2 {m : Prog (L2v α β)} (h : EV N Γ ta m) : EV N Γ (tOp (rIxL G.K) ta (tC (.int 1))) (m >>= fun t => .ok t.b) := ev_at (fun t x F H Q d e q => at_lst (k := 1) rfl d e q) h
theorem ev_mkp {m1 : Prog α} {m2 : Prog β} (h1 : EV N Γ ta m1) (h2 : EV N Γ tb m2) : EV N Γ (tTup (tCons ta (tCons tb tNil))) (m1 >>= fun a => m2 >>= fun b => .ok (a, b)) := by
  have h := ev_tupA (f := fun p : α × β × Unit => (p.1, p.2.1)) (eva2 h1 h2) (fun a vs F r => by
    obtain ⟨v, ws, rfl, r1, w, us, rfl, r2, rfl⟩ := r
    exact ⟨_, rfl, .cons r1 (.cons r2 .nil), by show 2 ≤ 100000; decide⟩)
  simp only [bind_bind, ok_bind] at h
  exact h
theorem ev_mk3 {m1 : Prog α} {m2 : Prog β} {m3 : Prog γ} (h1 : EV N Γ ta m1) (h2 : EV N Γ tb m2) (h3 : EV N Γ tc m3) : EV N Γ (tTup (tCons ta (tCons tb (tCons tc tNil)))) (m1 >>= fun a => m2 >>= fun b => m3 >>= fun c => .ok (T3.mk a b c)) := by
  have h := ev_tupA (f := fun p : α × β × γ × Unit => (⟨p.1, p.2.1, p.2.2.1⟩ : T3 α β γ)) (eva3 h1 h2 h3) (fun a vs F r => by
    obtain ⟨v, ws, rfl, r1, w, us, rfl, r2, w3, us3, rfl, r3, rfl⟩ := r
    exact ⟨_, rfl, .cons r1 (.cons r2 (.cons r3 .nil)), by show 3 ≤ 100000; decide⟩)
  simp only [bind_bind, ok_bind] at h
  exact h
theorem ev_mkl {m1 : Prog α} {m2 : Prog β} (h1 : EV N Γ ta m1) (h2 : EV N Γ tb m2) : EV N Γ (tLst (tCons ta (tCons tb tNil))) (m1 >>= fun a => m2 >>= fun b => .ok (L2v.mk a b)) := fun σ F H hs Q q => by
  refine eva2 h1 h2 σ F H hs _ ?_
  rw [wp_bind] at q ⊢
  refine wp_mono q fun a q1 => ?_
  rw [wp_bind] at q1 ⊢
  refine wp_mono q1 fun b q2 vs F1 H1 hs1 e1 r => ?_
  obtain ⟨v, ws, rfl, r1, w, us, rfl, r2, rfl⟩ := r
  refine ⟨by show 2 ≤ sizeLine; decide, fun p hp => ?_⟩
  obtain ⟨hs2, e3⟩ := hs1.laid (o := .lst [v, w]) hp
  exact q2 (.ref p) _ _ hs2 (Same.trans e1 e3) (.lst (.inl upd_same) (dpAll_same e3 _ _ (.cons r1 (.cons r2 .nil))))
end
/-! slices -/
def EVO (N : NN) (Γ : Env G) (to : TO) (m : Prog (Option Int)) : Prop := ∀ σ F H, HS N Γ σ F H → ∀ Q : Option Int → Hp → Prop, wp m (fun o => ∀ F' H', HS N Γ σ F' H' → Same F F' → Q o H') (EP G N) → to σ H Q
theorem evo_none : EVO N Γ tNoPart (.ok none) := fun σ F H hs Q q => q F H hs (Same.refl F)
theorem evo_some {m : Prog Int} (h : EV N Γ te m) : EVO N Γ (tPart te) (m >>= fun i => .ok (some i)) := fun σ F H hs Q q =>
  h σ F H hs _ (wp_mono (wp_bind.1 q) fun i q1 v F1 H1 hs1 e1 r1 => ⟨i, Scl.dp r1, q1 F1 H1 hs1 e1⟩)
def SLV (r : V → Option Int → Option Int → Hp → VK → Prop) (g : α → Option Int → Option Int → Prog β) : Prop := ∀ (N : NN) (Γ : Env G) (σ : L2.St) (F H : Hp) (x : V) (a : α) (lo hi : Option Int), HS N Γ σ F H → iα.rp a x F → ∀ Q : VK,
  wp (g a lo hi) (fun c => ∀ v F' H', HS N Γ σ F' H' → Same F F' → iβ.rp c v F' → Q v H') (EP G N) → r x lo hi H Q
theorem ev_slice {r : V → Option Int → Option Int → Hp → VK → Prop} {g : α → Option Int → Option Int → Prog β} {m : Prog α} {tl th : TO} {ml mh : Prog (Option Int)} (h : EV N Γ te m) (hl : EVO N Γ tl ml) (hh : EVO N Γ th mh) (hr : SLV (G := G) r g) :
    EV N Γ (tSl r te tl th) (m >>= fun a => ml >>= fun lo => mh >>= fun hi => g a lo hi) := fun σ F H hs Q q =>
  h σ F H hs _ (wp_mono (wp_bind.1 q) fun a q1 x F1 H1 hs1 e1 r1 => hl σ F1 H1 hs1 _ (wp_mono (wp_bind.1 q1) fun lo q2 F2 H2 hs2 e2 => hh σ F2 H2 hs2 _ (wp_mono (wp_bind.1 q2) fun hi q3 F3 H3 hs3 e3 =>
    hr N Γ σ F3 H3 x a lo hi hs3 (Rp.mono (Same.trans e2 e3) r1) Q (wp_mono q3 fun c q4 v F4 H4 hs4 e4 r4 => q4 v F4 H4 hs4 (Same.trans e1 (Same.trans e2 (Same.trans e3 e4))) r4))))
theorem slv_txt : SLV (G := G) (α := Tx) (β := Tx) rSlS (fun s lo hi => chk (small s.length) (.ok (cut s lo hi))) := fun N Γ σ F H x s lo hi hs ra Q q => by
  have e1 : x = .str (sx s) := Scl.dp (α := Tx) ra
  obtain ⟨h, q⟩ := wp_chk q
  refine ⟨sx s, e1, by simpa [Str.length, sx] using small_le h, ?_⟩
  have e : cutS (sx s) lo hi = sx (cut s lo hi) := by simp [cutS, cut, sx, Str.length]
  rw [e]
  exact q _ F H hs (Same.refl F) (.str _)
theorem dpAll_drop {K : PySem.W.Frag} {F : Hp} : ∀ {ds : List PyData} {vs : List V} (n : Nat), DqAll K F vs ds → DqAll K F (vs.drop n) (ds.drop n)
  | _, _, 0, h => h
  | [], _, n + 1, h => by cases h; exact .nil
  | d :: ds, _, n + 1, h => by
    cases h with
    | cons h1 h2 => exact dpAll_drop n h2
theorem dpAll_take {K : PySem.W.Frag} {F : Hp} : ∀ {ds : List PyData} {vs : List V} (n : Nat), DqAll K F vs ds → DqAll K F (vs.take n) (ds.take n)
  | _, _, 0, h => .nil
  | [], _, n + 1, h => by cases h; exact .nil
  | d :: ds, _, n + 1, h => by
    cases h with
    | cons h1 h2 => exact .cons h1 (dpAll_take n h2)
theorem dpAll_append {K : PySem.W.Frag} {F : Hp} : ∀ {ds es : List PyData} {vs ws : List V}, DqAll K F vs ds → DqAll K F ws es → DqAll K F (vs ++ ws) (ds ++ es)
  | [], _, _, _, h, k => by cases h; exact k
  | d :: ds, _, _, _, h, k => by
    cases h with
    | cons h1 h2 => exact .cons h1 (dpAll_append h2 k)
theorem dpAll_cut {K : PySem.W.Frag} {F : Hp} {α : Type} [Enc α] {xs : List α} {vs : List V} (lo hi : Option Int) (h : DqAll K F vs (xs.map enc)) : DqAll K F (cutV vs lo hi) ((cut xs lo hi).map enc) := by
  unfold cutV cut
  rw [dpAll_len h, List.map_take, List.map_drop]
  exact dpAll_take _ (dpAll_drop _ h)
theorem slv_tup {α : Type} [Enc α] : SLV (G := G) (α := List α) (β := List α) (rSlA G.K) (fun xs lo hi => .ok (cut xs lo hi)) := fun N Γ σ F H x xs lo hi hs ra Q q => by
  have h : Dq G.K F x (.tuple (xs.map enc)) := ra
  cases h with
  | tup hq ha =>
    have hl := dpAll_len ha
    refine ⟨_, _, rfl, sqt_same hs.w.fh hq, fun hw => ?_, fun _ p hp => ?_⟩
    · have e : cut xs lo hi = xs := by
        unfold cut
        rw [← hl, hw.1, hw.2, hl]
        simp
      exact q _ F H hs (Same.refl F) (by
        show Dq G.K F _ (.tuple ((cut xs lo hi).map enc))
        rw [e]
        exact .tup hq ha)
    · obtain ⟨hs2, e2⟩ := hs.laid hp
      exact q _ _ _ hs2 e2 (.tup (.inl (.inl upd_same)) (dpAll_same e2 _ _ (dpAll_cut lo hi ha)))
theorem evn_cutL {α : Type} [Enc α] {m : Prog (L α)} {tl th : TO} {ml mh : Prog (Option Int)} (h : EV N Γ te m) (hl : EVO N Γ tl ml) (hh : EVO N Γ th mh) :
    EVN N Γ (tSl (rSlL G.K) te tl th) (m >>= fun (xs : List α) => ml >>= fun lo => mh >>= fun hi => .ok (cut xs lo hi : L α)) := fun σ F H hs Q q =>
  h σ F H hs _ (wp_mono (wp_bind.1 q) fun a q1 x F1 H1 hs1 e1 r1 => hl σ F1 H1 hs1 _ (wp_mono (wp_bind.1 q1) fun lo q2 F2 H2 hs2 e2 => hh σ F2 H2 hs2 _ (wp_mono (wp_bind.1 q2) fun hi q3 F3 H3 hs3 e3 => by
    have hd : Dq G.K F3 x (.list (List.map enc a)) := dp_same (Same.trans e2 e3) _ _ r1
    cases hd with
    | lst hq ha =>
      refine ⟨_, _, rfl, sql_same hs3.w.fh (.inl hq), fun p hp => ?_⟩
      obtain ⟨hs4, n⟩ := hs_newlist (vs := cutV _ lo hi) hs3 hp
      exact q3 p _ _ _ hs4 (Same.trans e1 (Same.trans e2 e3)) n upd_same (dpAll_cut lo hi ha))))
/-! len -/
theorem ev_lenT {α : Type} [Enc α] {m : Prog (List α)} (h : EV N Γ ta m) : EV N Γ (tCB (fun xs H Q => ∃ p ys, xs = [.ref p] ∧ (SqL G.K H p ys ∨ SqT G.K H p ys) ∧ Q (.int ys.length) H) (tCons ta tNil)) (m >>= fun xs => .ok (xs.length : Int)) := fun σ F H hs Q q =>
  h σ F H hs _ (wp_mono (wp_bind.1 q) fun xs q1 x F1 H1 hs1 e1 r1 => by
    have hd : Dq G.K F1 x (.tuple (xs.map enc)) := r1
    cases hd with
    | tup hq ha => exact ⟨_, _, rfl, .inr (sqt_same hs1.w.fh hq), by rw [dpAll_len ha]; exact q1 _ F1 H1 hs1 e1 (.int _)⟩)
theorem ev_lenL {α : Type} [Enc α] {m : Prog (L α)} (h : EV N Γ ta m) : EV N Γ (tCB (fun xs H Q => ∃ p ys, xs = [.ref p] ∧ (SqL G.K H p ys ∨ SqT G.K H p ys) ∧ Q (.int ys.length) H) (tCons ta tNil)) (m >>= fun (xs : List α) => .ok (xs.length : Int)) := fun σ F H hs Q q =>
  h σ F H hs _ (wp_mono (wp_bind.1 q) fun xs q1 x F1 H1 hs1 e1 r1 => by
    have hd : Dq G.K F1 x (.list (List.map enc xs)) := r1
    cases hd with
    | lst hq ha => exact ⟨_, _, rfl, .inl (sql_same hs1.w.fh (.inl hq)), by rw [dpAll_len ha]; exact q1 _ F1 H1 hs1 e1 (.int _)⟩)
theorem ev_lenS {m : Prog Tx} (h : EV N Γ ta m) : EV N Γ (tCB (fun xs H Q => ∃ z, xs = [.str z] ∧ z.length ≤ sizeLine ∧ Q (.int z.length) H) (tCons ta tNil)) (m >>= fun s => chk (small s.length) (.ok (s.length : Int))) := fun σ F H hs Q q =>
  h σ F H hs _ (wp_mono (wp_bind.1 q) fun s q1 x F1 H1 hs1 e1 r1 => by
    have e : x = .str (sx s) := Scl.dp (α := Tx) r1
    obtain ⟨hl, q1⟩ := wp_chk q1
    refine ⟨sx s, by rw [e], by simpa [Str.length, sx] using small_le hl, ?_⟩
    have e2 : (sx s).length = s.length := by simp [Str.length, sx]
    rw [e2]
    exact q1 _ F1 H1 hs1 e1 (.int _))
end
end Ty

namespace Ty
open PySem PySem.Spec PyProof.Rows L2
open Enc (enc)
variable {G : Glob}
section
variable {α β γ δ ω ρ : Type} [iα : Rp G α] [iβ : Rp G β] [iγ : Rp G γ] {N : NN} {Γ Γ' : Env G} {te ta tb tc : TE} {tt tu : TT} {tz ts : TS}
/-! ### what is walked -/
abbrev anyE : Env G → Prop := fun _ => True
theorem evi_tup {α : Type} [Enc α] {m : Prog (List α)} (h : EV N Γ te m) : EVI (α := α) N Γ (iTup G.K te) m anyE := fun σ F H hs R q =>
  h σ F H hs _ (wp_mono q fun xs k x F1 H1 hs1 e1 r1 => by
    have hd : Dq G.K F1 x (.tuple (xs.map enc)) := r1
    cases hd with
    | tup hq ha =>
      refine ⟨_, rfl, ⟨_, sqt_same hs1.w.fh hq⟩, k F1 H1 _ hs1 e1 fun Γ' _ => ⟨fun i σ F' H' hs' e' hi => ?_, fun i a σ F' H' x H2 hs' e' hx y => ?_, fun i σ F' H' hs' e' hi => ?_⟩⟩
      · obtain ⟨v, hv, _⟩ := dpAll_at ha (List.getElem?_eq_getElem hi)
        exact ⟨_, v, sqt_same (Same.trans e' hs'.w.fh) hq, hv⟩
      · obtain ⟨v, hv, d⟩ := dpAll_at ha hx
        obtain ⟨e2, y⟩ := y
        have e3 : x = v := Option.some.inj ((y _ (sqt_same (Same.trans e' hs'.w.fh) hq)).symm.trans hv)
        subst e3
        exact .inl ⟨e2, dp_same e' _ _ d⟩
      · exact ⟨_, sqt_same (Same.trans e' hs'.w.fh) hq, by rw [dpAll_len ha]; exact hi⟩)
theorem evi_lst {α : Type} [Enc α] {m : Prog (L α)} (h : EV N Γ te m) : EVI (α := α) N Γ (iList G.K te) m anyE := fun σ F H hs R q =>
  h σ F H hs _ (wp_mono q fun (xs : List α) k x F1 H1 hs1 e1 r1 => by
    have hd : Dq G.K F1 x (.list (xs.map enc)) := r1
    cases hd with
    | lst hq ha =>
      refine ⟨_, rfl, ⟨_, sql_same hs1.w.fh (.inl hq)⟩, k F1 H1 _ hs1 e1 fun Γ' _ => ⟨fun i σ F' H' hs' e' hi => ?_, fun i a σ F' H' x H2 hs' e' hx y => ?_, fun i σ F' H' hs' e' hi => ?_⟩⟩
      · obtain ⟨v, hv, _⟩ := dpAll_at ha (List.getElem?_eq_getElem hi)
        exact ⟨_, v, sql_same (Same.trans e' hs'.w.fh) (.inl hq), hv⟩
      · obtain ⟨v, hv, d⟩ := dpAll_at ha hx
        obtain ⟨e2, y⟩ := y
        have e3 : x = v := Option.some.inj ((y _ (sql_same (Same.trans e' hs'.w.fh) (.inl hq))).symm.trans hv)
        subst e3
        exact .inl ⟨e2, dp_same e' _ _ d⟩
      · exact ⟨_, sql_same (Same.trans e' hs'.w.fh) (.inl hq), by rw [dpAll_len ha]; exact hi⟩)
def signs (s : Tx) : List Tx := s.map fun c => [c]
theorem evi_str {m : Prog Tx} (h : EV N Γ te m) : EVI (α := Tx) N Γ (iStr te) (m >>= fun s => .ok (signs s)) anyE := fun σ F H hs R q =>
  h σ F H hs _ (wp_mono (wp_bind.1 q) fun s k x F1 H1 hs1 e1 r1 => by
    have e : x = .str (sx s) := Scl.dp (α := Tx) r1
    refine ⟨sx s, e, k F1 H1 _ hs1 e1 fun Γ' _ => ⟨fun i σ F' H' hs' e' hi => ?_, fun i a σ F' H' x H2 hs' e' hx y => ?_, fun i σ F' H' hs' e' hi => ?_⟩⟩
    · show i < (sx s).cps.size
      simpa [signs] using hi
    · obtain ⟨e2, c, hc, e3⟩ := y
      have hc' : s[i]? = some c := by simpa using hc
      have ha : a = [c] := by
        unfold signs at hx
        rw [List.getElem?_map, hc'] at hx
        exact (Option.some.inj hx).symm
      subst ha e3
      exact .inl ⟨e2, .str _⟩
    · show (sx s).cps.size ≤ i
      simpa [signs] using hi)
def rng (lo hi : Int) : List Int := (List.range (hi - lo).toNat).map fun (i : Nat) => lo + (i : Int)
def rngD (lo hi : Int) : List Int := (List.range (lo - hi).toNat).map fun (i : Nat) => lo - (i : Int)
def inRange (i : Int) : Bool := decide (i.natAbs < 2 ^ 61)
theorem inRange_ok {i : Int} (h : inRange i = true) : -(2 ^ 62) ≤ i ∧ i < 2 ^ 62 := by
  have := of_decide_eq_true h
  omega
theorem gen_itr {lo : Int} {n : Nat} {F : Hp} : Gen (G := G) (α := Int) N Γ F (Itr lo n) ((List.range n).map fun (i : Nat) => lo + (i : Int)) where
  go := fun i σ F' H' hs' e' hi => by
    show i < n
    simpa using hi
  yld := fun i a σ F' H' x H2 hs' e' hx y => by
    obtain ⟨e2, y⟩ := y
    have hi : i < n := by
      have := (List.getElem?_eq_some_iff.1 hx).1
      simpa using this
    rw [List.getElem?_map, List.getElem?_range hi] at hx
    have ha : lo + (i : Int) = a := Option.some.inj hx
    subst ha y
    exact .inl ⟨e2, .int _⟩
  stop := fun i σ F' H' hs' e' hi => by
    show n ≤ i
    simpa using hi
theorem evi_rng1 {m : Prog Int} (h : EV N Γ te m) : EVI (α := Int) N Γ (iRng1 (tCons te tNil)) (m >>= fun n => chk (inRange n) (.ok (rng 0 n))) anyE := fun σ F H hs R q =>
  h σ F H hs _ (wp_mono (wp_bind.1 q) fun n q1 x F1 H1 hs1 e1 r1 => by
    have e : x = .int n := Scl.dp r1
    obtain ⟨hr, k⟩ := wp_chk q1
    obtain ⟨a, b⟩ := inRange_ok hr
    have en : n.toNat = (n - 0).toNat := by rw [Int.sub_zero]
    exact ⟨n, by rw [e], a, b, k F1 H1 _ hs1 e1 fun Γ' _ => by rw [en]; exact gen_itr⟩)
theorem evi_rng2 {m m2 : Prog Int} (h : EV N Γ te m) (h2 : EV N Γ ta m2) : EVI (α := Int) N Γ (iRng2 (tCons te (tCons ta tNil))) (m >>= fun a => m2 >>= fun b => chk (inRange a && inRange b) (.ok (rng a b))) anyE := fun σ F H hs R q =>
  h σ F H hs _ (wp_mono (wp_bind.1 q) fun a q1 x F1 H1 hs1 e1 r1 => h2 σ F1 H1 hs1 _ (wp_mono (wp_bind.1 q1) fun b q2 y F2 H2 hs2 e2 r2 => by
    have ea : x = .int a := Scl.dp r1
    have eb : y = .int b := Scl.dp r2
    obtain ⟨hr, k⟩ := wp_chk q2
    obtain ⟨ha, hb⟩ := Bool.and_eq_true_iff.1 hr
    obtain ⟨a1, a2⟩ := inRange_ok ha
    obtain ⟨b1, b2⟩ := inRange_ok hb
    exact ⟨a, b, by rw [ea, eb], ⟨a1, a2, b1, b2⟩, k F2 H2 _ hs2 (Same.trans e1 e2) fun Γ' _ => gen_itr⟩))
theorem gen_itc {lo : Int} {n : Nat} {F : Hp} : Gen (G := G) (α := Int) N Γ F (Itc lo (-1) n) ((List.range n).map fun (i : Nat) => lo - (i : Int)) where
  go := fun i σ F' H' hs' e' hi => by
    show i < n
    simpa using hi
  yld := fun i a σ F' H' x H2 hs' e' hx y => by
    obtain ⟨e2, y⟩ := y
    have hi : i < n := by
      have := (List.getElem?_eq_some_iff.1 hx).1
      simpa using this
    rw [List.getElem?_map, List.getElem?_range hi] at hx
    have ha : lo - (i : Int) = a := Option.some.inj hx
    subst y
    refine .inl ⟨e2, ?_⟩
    have : lo + (i : Int) * (-1) = a := by omega
    rw [this]
    exact .int _
  stop := fun i σ F' H' hs' e' hi => by
    show n ≤ i
    simpa using hi
theorem evi_rngD {m m2 : Prog Int} (h : EV N Γ te m) (h2 : EV N Γ ta m2) : EVI (α := Int) N Γ (iRng3 (tCons te (tCons ta (tCons (tUn (rU fun i => .int (-i)) (tC (.int 1))) tNil)))) (m >>= fun a => m2 >>= fun b => chk (inRange a && inRange b) (.ok (rngD a b))) anyE := fun σ F H hs R q =>
  h σ F H hs _ (wp_mono (wp_bind.1 q) fun a q1 x F1 H1 hs1 e1 r1 => h2 σ F1 H1 hs1 _ (wp_mono (wp_bind.1 q1) fun b q2 y F2 H2 hs2 e2 r2 => by
    have ea : x = .int a := Scl.dp r1
    have eb : y = .int b := Scl.dp r2
    obtain ⟨hr, k⟩ := wp_chk q2
    obtain ⟨ha, hb⟩ := Bool.and_eq_true_iff.1 hr
    obtain ⟨a1, a2⟩ := inRange_ok ha
    obtain ⟨b1, b2⟩ := inRange_ok hb
    exact ⟨1, rfl, a, b, -1, (a - b).toNat, by rw [ea, eb], RgC.neg a1 a2 b1 b2, k F2 H2 _ hs2 (Same.trans e1 e2) fun Γ' _ => gen_itc⟩))
/-! ### targets -/
theorem gv_name {i : Nat} {a : α} : GV N Γ (gName i) a (Γ.set i (.per a)) := fun σ F H x hs r Q q => q _ F H (hs.setPer i r) (Same.refl F)
theorem gv_tup2 {α β : Type} [Enc α] [Enc β] {i j : Nat} {a : α × β} : GV N Γ (gTup G.K 2 (gCons (gName i) (gCons (gName j) gNil))) a ((Γ.set i (.per a.1)).set j (.per a.2)) := fun σ F H x hs r Q q => by
  have h : Dq G.K F x (.tuple [enc a.1, enc a.2]) := r
  cases h with
  | tup hq ha =>
    cases ha with
    | cons d1 h2 =>
      cases h2 with
      | cons d2 h3 =>
        cases h3
        exact ⟨_, _, rfl, sqt_same hs.w.fh hq, rfl, _, _, rfl, _, _, rfl, rfl, q _ F H ((hs.setPer (a := a.1) i d1).setPer (a := a.2) j d2) (Same.refl F)⟩
theorem gv_tup3 {α β γ : Type} [Enc α] [Enc β] [Enc γ] {i j k : Nat} {a : T3 α β γ} : GV N Γ (gTup G.K 3 (gCons (gName i) (gCons (gName j) (gCons (gName k) gNil)))) a (((Γ.set i (.per a.a)).set j (.per a.b)).set k (.per a.c)) := fun σ F H x hs r Q q => by
  have h : Dq G.K F x (.tuple [enc a.a, enc a.b, enc a.c]) := r
  cases h with
  | tup hq ha =>
    cases ha with
    | cons d1 h2 =>
      cases h2 with
      | cons d2 h3 =>
        cases h3 with
        | cons d3 h4 =>
          cases h4
          exact ⟨_, _, rfl, sqt_same hs.w.fh hq, rfl, _, _, rfl, _, _, rfl, _, _, rfl, rfl, q _ F H (((hs.setPer (a := a.a) i d1).setPer (a := a.b) j d2).setPer (a := a.c) k d3) (Same.refl F)⟩
/-- target = value, any target -/
theorem sv_asgT {g : TG} {m : Prog α} {J : Aim ω} {k : α → Prog ω} {Γt : α → Env G} (h : EV N Γ te m) (hg : ∀ a, GV N Γ g a (Γt a)) (hk : ∀ a, SV N (Γt a) tz J (k a)) : SV N Γ (tSeq (tAsg te g) tz) J (m >>= k) := fun σ F H D hs q =>
  h σ F H hs _ (wp_mono (wp_bind.1 q) fun a q1 v F1 H1 hs1 e1 r1 => hg a σ F1 H1 v hs1 r1 _ fun σ2 F2 H2 hs2 e2 => hk a σ2 F2 H2 D hs2 (wp_mono q1 fun o x => J.mono (Same.trans e1 e2) x))
/-! ### lists that the def owns -/
theorem HS.lstAt {α : Type} [Enc α] {σ : L2.St} {F H : Hp} {i : Nat} {xs : List α} (hs : HS N Γ σ F H) (hi : Γ[i]? = some (.lst xs)) : ∃ p vs, σ[i]? = some (some (.ref p)) ∧ Mine N F p ∧ H p = some (.lst vs) ∧ DqAll G.K F vs (xs.map enc) ∧ Held Γ σ p := by
  obtain ⟨o, e0, p, vs, e1, m, hp, d⟩ := hs.sl.get hi
  subst e1
  exact ⟨p, vs, e0, m, hp, d, i, _, hi, rfl, e0⟩
/-- the list in slot i is written -/
theorem HS.put {α β : Type} [Enc α] [Enc β] {σ : L2.St} {F H : Hp} {i : Nat} {xs : List α} {ys : List β} {p : Addr} {ws : List V} (hs : HS N Γ σ F H) (hO : ∀ a, N.O a = none) (hi : Γ[i]? = some (.lst xs)) (hp : σ[i]? = some (some (.ref p))) (d : DqAll G.K F ws (ys.map enc)) :
    HS N (Γ.set i (.lst ys)) σ F (upd H p (.lst ws)) := by
  obtain ⟨p', vs, e0, m, h0, _, hl⟩ := hs.lstAt hi
  rw [hp] at e0
  cases e0
  have hσ : σ.set i (some (.ref p)) = σ := by
    obtain ⟨h1, h2⟩ := List.getElem?_eq_some_iff.1 hp
    apply List.ext_getElem?
    intro k
    by_cases hk : k = i
    · subst hk; rw [List.getElem?_set_self h1, hp]
    · rw [List.getElem?_set_ne (Ne.symm hk)]
  have n1 : ∀ q o, F q = some o → q ≠ p := fun q o e => ne_of_none e m.f
  have w : W N F (upd H p (.lst ws)) := by
    refine ⟨fun a u e => ?_, hs.w.f0, hs.w.nw, fun a u nb e => ?_, fun a e => ?_, fun q c e => ?_, hs.w.sb, fun a u e => ?_⟩
    · rw [upd_ne (n1 a u e)]; exact hs.w.fh a u e
    · rw [upd_ne (ne_of_none e m.h0)]; exact hs.w.kp a u nb e
    · by_cases ha : a = p
      · subst ha; rw [upd_same] at e; cases e
      · rw [upd_ne ha] at e; exact hs.w.dm a e
    · have s := hs.w.sr q c e
      obtain ⟨st, ix, cs, h1, h2, r⟩ := s.at_
      have x := m.s q c e
      exact ⟨s.fp, s.fc, s.ne, st, ix, cs, by rw [upd_ne (Ne.symm x.1)]; exact h1, by rw [upd_ne (Ne.symm x.2)]; exact h2, r⟩
    · rw [hO] at e; cases e
  refine ⟨w, ?_, fun j k e e' q h1 h2 o1 o2 s1 s2 => ?_⟩
  · have go : ∀ {j : Nat} {e : Ent G} {o : Option V}, j ≠ i → Γ[j]? = some e → σ[j]? = some o → Sl N F H e o → Sl N F (upd H p (.lst ws)) e o := fun {j e o} hj h1 h2 s => by
      cases e with
      | dead => trivial
      | per a => exact s
      | lst zs =>
        obtain ⟨q, us, e3, mq, hq, dq⟩ := s
        refine ⟨q, us, e3, mq, ?_, dq⟩
        have : q ≠ p := fun z => by
          subst z
          exact hj (hs.ds j i _ _ q h1 hi rfl rfl (by rw [h2, e3]) hp)
        rw [upd_ne this]; exact hq
      | ins C z w =>
        obtain ⟨q, dx, us, e3, mq, hq, dq⟩ := s
        refine ⟨q, dx, us, e3, mq, ?_, dq⟩
        have : q ≠ p := fun z => by
          subst z
          exact hj (hs.ds j i _ _ q h1 hi rfl rfl (by rw [h2, e3]) hp)
        rw [upd_ne this]; exact hq
      | bor z => exact s
      | ptr z => exact s
      | src => exact s
    have sl := hs.sl
    have key : ∀ {Γ1 : Env G} {σ1 : L2.St} (P : Nat → Prop), Slots N F H Γ1 σ1 → (∀ (j : Nat) e o, Γ1[j]? = some e → σ1[j]? = some o → Sl N F H e o → Sl N F (upd H p (.lst ws)) e o) → Slots N F (upd H p (.lst ws)) Γ1 σ1 := fun {Γ1 σ1} P h k => h.imp k
    refine Slots.of ?_ fun j e o h1 h2 => ?_
    · rw [List.length_set]; exact sl.len
    · by_cases hj : j = i
      · subst hj
        have hlt : j < Γ.length := (List.getElem?_eq_some_iff.1 hi).1
        rw [List.getElem?_set_self hlt] at h1
        cases h1
        rw [hp] at h2
        cases h2
        exact ⟨p, ws, rfl, m, upd_same, d⟩
      · rw [List.getElem?_set_ne (Ne.symm hj)] at h1
        obtain ⟨o', e1, s⟩ := sl.get h1
        rw [h2] at e1
        cases e1
        exact go hj h1 h2 s
  · have at_ : ∀ {j : Nat} {e : Ent G}, (Γ.set i (.lst ys))[j]? = some e → e.own = true → ∃ e', Γ[j]? = some e' ∧ e'.own = true := fun {j e} h o => by
      by_cases hj : j = i
      · subst hj; exact ⟨_, hi, rfl⟩
      · rw [List.getElem?_set_ne (Ne.symm hj)] at h
        exact ⟨e, h, o⟩
    obtain ⟨e1, g1, p1⟩ := at_ h1 o1
    obtain ⟨e2, g2, p2⟩ := at_ h2 o2
    exact hs.ds j k e1 e2 q g1 g2 p1 p2 s1 s2
theorem sv_append {α : Type} [Enc α] {i : Nat} {xs : List α} {m : Prog α} {J : Aim ω} {k : α → Prog ω} (hO : ∀ a, N.O a = none) (hi : Γ[i]? = some (.lst xs)) (h : EV N Γ te m) (hk : ∀ a, SV N (Γ.set i (.lst (xs ++ [a]))) tz J (k a)) :
    SV N Γ (tSeq (tDrop (tBM G.K "list" rAppend (tVar i) (tCons te tNil))) tz) J (m >>= fun a => chk (small xs.length) (k a)) := fun σ F H D hs q => by
  obtain ⟨p, vs, e0, m0, hp, d, hl⟩ := hs.lstAt hi
  refine ⟨.ref p, e0, .inl ⟨rfl, vs, .inl (.inl hp)⟩, h σ F H hs _ (wp_mono (wp_bind.1 q) fun a q1 v F1 H1 hs1 e1 r1 => ?_)⟩
  obtain ⟨hz, q1⟩ := wp_chk q1
  obtain ⟨p', vs', e0', m0', hp', d', _⟩ := hs1.lstAt hi
  rw [e0] at e0'
  cases e0'
  refine ⟨p, vs', v, rfl, rfl, hp', by rw [dpAll_len d']; exact small_lt hz, ?_⟩
  exact hk a σ F1 _ D (hs1.put hO hi e0 (by rw [List.map_append]; exact dpAll_append d' (.cons r1 .nil))) (wp_mono q1 fun o x => J.mono e1 x)
/-- xs.extend(a list made there) -/
theorem sv_extend {α : Type} [Enc α] {i : Nat} {xs : List α} {m : Prog (L α)} {J : Aim ω} {k : L α → Prog ω} (hO : ∀ a, N.O a = none) (hi : Γ[i]? = some (.lst xs)) (h : EVN N Γ te m) (hk : ∀ ys : List α, SV N (Γ.set i (.lst (xs ++ ys))) tz J (k ys)) :
    SV N Γ (tSeq (tDrop (tBM G.K "list" rExtend (tVar i) (tCons te tNil))) tz) J (m >>= fun (ys : List α) => chk (small (xs.length + ys.length)) (k ys)) := fun σ F H D hs q => by
  obtain ⟨p, vs, e0, m0, hp, d, hl⟩ := hs.lstAt hi
  refine ⟨.ref p, e0, .inl ⟨rfl, vs, .inl (.inl hp)⟩, h σ F H hs _ (wp_mono (wp_bind.1 q) fun (ys : List α) q1 b us F1 H1 hs1 e1 n hb db => ?_)⟩
  obtain ⟨hz, q1⟩ := wp_chk q1
  obtain ⟨p', vs', e0', m0', hp', d', _⟩ := hs1.lstAt hi
  rw [e0] at e0'
  cases e0'
  refine ⟨p, b, vs', us, rfl, rfl, hp', hb, by rw [dpAll_len d', dpAll_len db]; exact small_le hz, ?_⟩
  exact hk ys σ F1 _ D (hs1.put hO hi e0 (by rw [List.map_append]; exact dpAll_append d' db)) (wp_mono q1 fun o x => J.mono e1 x)
/-- from here on the list is data -/
theorem HS.thaw {α : Type} [Enc α] {σ : L2.St} {F H : Hp} {i : Nat} {xs : List α} (hO : ∀ a, N.O a = none) (hs : HS N Γ σ F H) (hi : Γ[i]? = some (.lst xs)) : ∃ p vs, σ[i]? = some (some (.ref p)) ∧ H p = some (.lst vs) ∧ HS N (Γ.set i (@Ent.per G (L α) _ xs)) σ (upd F p (.lst vs)) H ∧ Same F (upd F p (.lst vs)) := by
  obtain ⟨p, vs, e0, m0, hp, d, hl⟩ := hs.lstAt hi
  have hlt : i < Γ.length := (List.getElem?_eq_some_iff.1 hi).1
  -- forget the slot, then freeze
  have hd : HS N (Γ.set i .dead) σ F H := by
    refine ⟨hs.w, Slots.of (by rw [List.length_set]; exact hs.sl.len) fun j e o h1 h2 => ?_, fun j k e e' q h1 h2 o1 o2 s1 s2 => ?_⟩
    · by_cases hj : j = i
      · subst hj
        rw [List.getElem?_set_self hlt] at h1
        cases h1; trivial
      · rw [List.getElem?_set_ne (Ne.symm hj)] at h1
        obtain ⟨o', e1, s⟩ := hs.sl.get h1
        rw [h2] at e1; cases e1; exact s
    · have at_ : ∀ {j : Nat} {e : Ent G}, (Γ.set i .dead)[j]? = some e → e.own = true → Γ[j]? = some e := fun {j e} h o => by
        by_cases hj : j = i
        · subst hj
          rw [List.getElem?_set_self hlt] at h
          cases h; cases o
        · rw [List.getElem?_set_ne (Ne.symm hj)] at h; exact h
      exact hs.ds j k e e' q (at_ h1 o1) (at_ h2 o2) o1 o2 s1 s2
  have nh : ¬ Held (Γ.set i .dead) σ p := fun ⟨j, e, h1, o1, s1⟩ => by
    by_cases hj : j = i
    · subst hj
      rw [List.getElem?_set_self hlt] at h1
      cases h1; cases o1
    · rw [List.getElem?_set_ne (Ne.symm hj)] at h1
      exact hj (hs.ds j i _ _ p h1 hi o1 rfl s1 e0)
  obtain ⟨hs2, e2⟩ := hd.freeze hp m0 m0.h0 nh (hO p)
  refine ⟨p, vs, e0, hp, ?_, e2⟩
  have h3 := hs2.setPer (α := L α) (a := xs) (v := .ref p) i (.lst (.inl upd_same) (dpAll_same e2 _ _ d))
  rw [List.set_set] at h3
  have hσ : σ.set i (some (.ref p)) = σ := by
    obtain ⟨h1, _⟩ := List.getElem?_eq_some_iff.1 e0
    apply List.ext_getElem?
    intro k
    by_cases hk : k = i
    · subst hk; rw [List.getElem?_set_self h1, e0]
    · rw [List.getElem?_set_ne (Ne.symm hk)]
  rw [hσ] at h3
  exact h3
theorem sv_freeze {α : Type} [Enc α] (i : Nat) {xs : List α} {J : Aim ω} {m : Prog ω} (hO : ∀ a, N.O a = none) (hi : Γ[i]? = some (.lst xs)) (h : SV N (Γ.set i (@Ent.per G (L α) _ xs)) ts J m) : SV N Γ ts J m := fun σ F H D hs q => by
  obtain ⟨_, _, _, _, hs', e⟩ := hs.thaw hO hi
  exact h σ _ H D hs' (wp_mono q fun o x => J.mono e x)
/-- .. for one expression whose value is plain -/
class Flat (α : Type) [Enc α] : Prop where
  fl : ∀ {K : PySem.W.Frag} {F F' : Hp} {v : V} {a : α}, Dq K F v (enc a) → Dq K F' v (enc a)
instance : Flat Int := ⟨fun h => by cases h; exact .int _⟩
instance : Flat Bool := ⟨fun h => by cases h; exact .bl _⟩
instance : Flat (List Nat) := ⟨fun h => by cases h; exact .str _⟩
instance {α : Type} [Enc α] [Flat α] : Flat (Option α) := ⟨fun {K F F' v a} h => by
  cases a with
  | none =>
    have h' : Dq K F v .none := h
    cases h'; exact .non
  | some a => exact Flat.fl (a := a) h⟩
def cutH (F : Hp) (p : Addr) : Hp := fun a => if a = p then none else F a
theorem cutH_ne {F : Hp} {p a : Addr} (h : a ≠ p) : cutH F p a = F a := if_neg h
theorem cutH_same {F : Hp} {p : Addr} : cutH F p p = none := if_pos rfl
def NN.snap (N : NN) (O : Addr → Option HO) : NN := ⟨N.F0, N.H0, N.B, N.S, N.E, O⟩
theorem W.snap {F H : Hp} {O : Addr → Option HO} (w : W N F H) (h : ∀ a o, O a = some o → (H a = some o ∧ F a = none) ∧ ∀ p c, N.S = some (p, c) → a ≠ p ∧ a ≠ c) : W (N.snap O) F H := ⟨w.fh, w.f0, w.nw, w.kp, w.dm, w.sr, w.sb, h⟩
theorem W.unsnap {F H : Hp} {O : Addr → Option HO} (w : W (N.snap O) F H) (h : ∀ a o, N.O a = some o → (H a = some o ∧ F a = none) ∧ ∀ p c, N.S = some (p, c) → a ≠ p ∧ a ≠ c) : W N F H := ⟨w.fh, w.f0, w.nw, w.kp, w.dm, w.sr, w.sb, h⟩
theorem Sl.nn {N' : NN} {F H : Hp} (h0 : N'.H0 = N.H0) (hS : N'.S = N.S) (hB : N'.B = N.B) (hF : N'.F0 = N.F0) {e : Ent G} {o : Option V} (s : Sl N F H e o) : Sl N' F H e o := by
  cases e with
  | dead => trivial
  | per a => exact s
  | lst xs =>
    obtain ⟨p, vs, e, m, hp, d⟩ := s
    exact ⟨p, vs, e, ⟨m.f, by rw [h0]; exact m.h0, fun q c z => m.s q c (by rw [← hS]; exact z)⟩, hp, d⟩
  | ins C xs w =>
    obtain ⟨p, dx, vs, e, m, hp, d⟩ := s
    exact ⟨p, dx, vs, e, ⟨m.f, by rw [h0, hB]; exact m.h0, fun q c z => m.s q c (by rw [← hS]; exact z)⟩, hp, d⟩
  | bor xs =>
    obtain ⟨q, vs, e, h1, h2, h3, h4, d⟩ := s
    exact ⟨q, vs, e, by rw [hF]; exact h1, by rw [h0]; exact h2, by rw [hB]; exact h3, fun q c z => h4 q c (by rw [← hS]; exact z), d⟩
  | ptr z => exact s
  | src =>
    obtain ⟨p, c, e, z⟩ := s
    exact ⟨p, c, e, by rw [hS]; exact z⟩
/-- a plain expression over the frame with one of its lists taken as data -/
theorem ev_borrow {α ρ : Type} [Enc α] [Enc ρ] [Flat ρ] (i : Nat) {xs : List α} {m : Prog ρ} (hO : ∀ a, N.O a = none) (hi : Γ[i]? = some (.lst xs)) (h : ∀ O, EV (N.snap O) (Γ.set i (@Ent.per G (L α) _ xs)) te m) : EV N Γ te m := fun σ F H hs Q q => by
  obtain ⟨p, vs, e0, m0, hp, d, hl⟩ := hs.lstAt hi
  have hlt : i < Γ.length := (List.getElem?_eq_some_iff.1 hi).1
  obtain ⟨p', vs', e0', hp', hs1, e1⟩ := hs.thaw hO hi
  rw [e0] at e0'; cases e0'
  rw [hp] at hp'; cases hp'
  let O : Addr → Option HO := fun a => by
    classical
    exact if Held Γ σ a ∧ a ≠ p then H a else none
  have hOs : ∀ a o, O a = some o → (Held Γ σ a ∧ a ≠ p) ∧ H a = some o := fun a o x => by
    by_cases y : Held Γ σ a ∧ a ≠ p
    · exact ⟨y, by simpa [O, y] using x⟩
    · simp only [O, if_neg y] at x
      cases x
  have hOh : ∀ a, Held Γ σ a → a ≠ p → O a = H a := fun a y z => by simp [O, y, z]
  have held' : ∀ q, Held Γ σ q → q ≠ p → Held (Γ.set i (@Ent.per G (L α) _ xs)) σ q := fun q ⟨j, en, x1, x2, x3⟩ nq => by
    have hj : j ≠ i := fun z => by
      subst z
      rw [x3] at e0; cases e0; exact nq rfl
    exact ⟨j, en, by rw [List.getElem?_set_ne (Ne.symm hj)]; exact x1, x2, x3⟩
  have hs1' : HS (N.snap O) (Γ.set i (@Ent.per G (L α) _ xs)) σ (upd F p (.lst vs)) H := ⟨hs1.w.snap fun a o x => by
    obtain ⟨y, z⟩ := hOs a o x
    exact ⟨⟨z, (hs1.held (held' a y.1 y.2)).1.f⟩, (hs.held y.1).1.s⟩, hs1.sl.imp fun j e o _ _ s => Sl.nn (N := N) (N' := N.snap O) rfl rfl rfl rfl s, hs1.ds⟩
  refine h O σ _ H hs1' Q (wp_imp q (fun a k v F2 H2 hs2 e2 r => ?_) fun e he F' H' C dd w r => he F' H' C dd (w.unsnap fun a o x => by rw [hO] at x; cases x) r)
  have hp2 : H2 p = some (.lst vs) := hs2.w.fh p _ (e2 p _ upd_same)
  have h2 : ∀ q us, Held Γ σ q → H q = some us → H2 q = some us := fun q us y z => by
    by_cases nq : q = p
    · subst nq; rw [hp] at z; cases z; exact hp2
    · exact (hs2.w.os q _ ((hOh q y nq).trans z)).1.1
  have hF : Same F (cutH F2 p) := fun a o x => by
    have ne : a ≠ p := ne_of_none x m0.f
    rw [cutH_ne ne]
    exact Same.trans e1 e2 a o x
  have w : W N (cutH F2 p) H2 := by
    refine ⟨fun a o x => ?_, Same.trans hs.w.f0 hF, fun a o x => ?_, hs2.w.kp, hs2.w.dm, fun q c z => ?_, hs.w.sb, fun a o x => by rw [hO] at x; cases x⟩
    · by_cases ha : a = p
      · subst ha; rw [cutH_same] at x; cases x
      · rw [cutH_ne ha] at x; exact hs2.w.fh a o x
    · by_cases ha : a = p
      · subst ha; rw [cutH_same] at x; cases x
      · rw [cutH_ne ha] at x; exact hs2.w.nw a o x
    · have s := hs2.w.sr q c z
      have y := m0.s q c z
      exact ⟨by rw [cutH_ne (Ne.symm y.1)]; exact s.fp, by rw [cutH_ne (Ne.symm y.2)]; exact s.fc, s.ne, s.at_⟩
  exact k v _ H2 (hs.move w hF h2 fun q y => by
    by_cases nq : q = p
    · subst nq; exact cutH_same
    · rw [cutH_ne nq]; exact (hs2.held (held' q y nq)).1.f) hF (Flat.fl (a := a) r)
theorem tv_of_ev {m : Prog Bool} (h : EV N Γ te m) : TV N Γ (tTest te) m := tv_test h
/-- .. a test -/
theorem tv_borrow {α : Type} [Enc α] (i : Nat) {xs : List α} {m : Prog Bool} (hO : ∀ a, N.O a = none) (hi : Γ[i]? = some (.lst xs)) (h : ∀ O, TV (N.snap O) (Γ.set i (@Ent.per G (L α) _ xs)) tt m) : TV N Γ tt m := fun σ F H hs Q q => by
  have := ev_borrow (ρ := Bool) (te := fun σ H Q => tt σ H fun b H' => Q (.bl b) H') i hO hi (fun O σ F H hs Q q => h O σ F H hs _ (wp_mono q fun b k F' H' hs' e => k _ F' H' hs' e (.bl b))) σ F H hs (fun v H' => ∀ b, v = .bl b → Q b H') (wp_mono q fun b k v F' H' hs' e r c hc => by
    have : v = .bl b := Scl.dp (α := Bool) r
    rw [this] at hc; cases hc
    exact k F' H' hs' e)
  exact cast (by simp) this
end
end Ty

namespace Ty
open PySem PySem.Spec PyProof.Rows L2
open Enc (enc)
variable {G : Glob}
/-! ### list comprehensions -/
section
variable {α β : Type}
def compP (t : α → Prog Bool) (f : α → Prog β) : List α → Prog (List β)
  | [] => .ok []
  | a :: r => t a >>= fun b => if b then f a >>= fun y => compP t f r >>= fun ys => .ok (y :: ys) else compP t f r
def mapP (f : α → Prog β) : List α → Prog (List β)
  | [] => .ok []
  | a :: r => f a >>= fun y => mapP f r >>= fun ys => .ok (y :: ys)
def noerr : Prog α → Prog α
  | .ok a => .ok a
  | .err _ => .stuck
  | .stuck => .stuck
  | .draw n k => .draw n fun i => noerr (k i)
@[simp] theorem noerr_ok (a : α) : noerr (.ok a) = .ok a := rfl
@[simp] theorem noerr_stuck : noerr (.stuck : Prog α) = .stuck := rfl
@[simp] theorem noerr_draw (n : Int) (k : Int → Prog α) : noerr (.draw n k) = .draw n fun i => noerr (k i) := rfl
theorem noerr_bind (m : Prog α) (f : α → Prog β) : noerr (m >>= f) = noerr m >>= fun a => noerr (f a) := by
  induction m with
  | ok a => rfl
  | err e => rfl
  | stuck => rfl
  | draw n k ih =>
    show Prog.draw n _ = Prog.draw n _
    congr 1
    funext i
    exact ih i
theorem wp_noerr {m : Prog α} {P : α → Prop} {E : Exc → Prop} (h : wp (noerr m) P E) : wp m P (fun _ => False) := by
  induction m with
  | ok a => exact h
  | err e => exact h.elim
  | stuck => exact h
  | draw n k ih => exact ⟨h.1, h.2.1, fun i a b => ih i (h.2.2 i a b)⟩
end
theorem wipe_get (σ : L2.St) : ∀ (vs : List Nat) (k : Nat), (wipe σ vs)[k]? = if k ∈ vs then (σ[k]?).map (fun _ => none) else σ[k]?
  | [], k => by simp [wipe]
  | v :: vs, k => by
    show ((wipe σ vs).set v none)[k]? = _
    rw [List.getElem?_set, wipe_length]
    by_cases e : v = k
    · subst e
      rw [if_pos rfl, if_pos List.mem_cons_self]
      by_cases h : v < σ.length
      · rw [if_pos h, List.getElem?_eq_getElem h]; rfl
      · rw [if_neg h, List.getElem?_eq_none (by omega)]; rfl
    · rw [if_neg e, wipe_get σ vs k]
      by_cases h : k ∈ vs
      · rw [if_pos h, if_pos (List.mem_cons_of_mem _ h)]
      · rw [if_neg h, if_neg (by simp only [List.mem_cons, not_or]; exact ⟨fun z => e z.symm, h⟩)]
def wipeE (Γ : Env G) : List Nat → Env G
  | [] => Γ
  | v :: vs => (wipeE Γ vs).set v .dead
theorem wipeE_len (Γ : Env G) : ∀ vs : List Nat, (wipeE Γ vs).length = Γ.length
  | [] => rfl
  | v :: vs => by unfold wipeE; rw [List.length_set, wipeE_len Γ vs]
theorem wipeE_get (Γ : Env G) : ∀ (vs : List Nat) (k : Nat), (wipeE Γ vs)[k]? = if k ∈ vs then (Γ[k]?).map (fun _ => .dead) else Γ[k]?
  | [], k => by simp [wipeE]
  | v :: vs, k => by
    show ((wipeE Γ vs).set v .dead)[k]? = _
    rw [List.getElem?_set, wipeE_len]
    by_cases e : v = k
    · subst e
      rw [if_pos rfl, if_pos List.mem_cons_self]
      by_cases h : v < Γ.length
      · rw [if_pos h, List.getElem?_eq_getElem h]; rfl
      · rw [if_neg h, List.getElem?_eq_none (by omega)]; rfl
    · rw [if_neg e, wipeE_get Γ vs k]
      by_cases h : k ∈ vs
      · rw [if_pos h, if_pos (List.mem_cons_of_mem _ h)]
      · rw [if_neg h, if_neg (by simp only [List.mem_cons, not_or]; exact ⟨fun z => e z.symm, h⟩)]
section
variable {α β γ ω : Type} [iα : Rp G α] {N : NN} {Γ Γ' : Env G} {te ta tb : TE} {tt : TT}
theorem HS.wiped {σ : L2.St} {F H : Hp} (hs : HS N Γ σ F H) (vs : List Nat) : HS N (wipeE Γ vs) (wipe σ vs) F H := by
  refine ⟨hs.w, Slots.of (by rw [wipeE_len, wipe_length]; exact hs.sl.len) fun i e o h1 h2 => ?_, fun i j e e' p h1 h2 o1 o2 s1 s2 => ?_⟩
  · rw [wipeE_get] at h1
    rw [wipe_get] at h2
    by_cases hi : i ∈ vs
    · rw [if_pos hi] at h1
      cases hg : Γ[i]? with
      | none => rw [hg] at h1; cases h1
      | some e' => rw [hg] at h1; cases h1; trivial
    · rw [if_neg hi] at h1 h2
      obtain ⟨o', e1, s⟩ := hs.sl.get h1
      rw [h2] at e1; cases e1; exact s
  · have nd : ∀ {i : Nat} {e : Ent G}, (wipeE Γ vs)[i]? = some e → e.own = true → i ∉ vs ∧ Γ[i]? = some e := fun {i e} h o => by
      rw [wipeE_get] at h
      by_cases hi : i ∈ vs
      · rw [if_pos hi] at h
        cases hg : Γ[i]? with
        | none => rw [hg] at h; cases h
        | some e' => rw [hg] at h; cases h; cases o
      · rw [if_neg hi] at h; exact ⟨hi, h⟩
    obtain ⟨a1, b1⟩ := nd h1 o1
    obtain ⟨a2, b2⟩ := nd h2 o2
    rw [wipe_get, if_neg a1] at s1
    rw [wipe_get, if_neg a2] at s2
    exact hs.ds i j e e' p b1 b2 o1 o2 s1 s2
/-- a comprehension's target -/
def GC (N : NN) (Γ : Env G) (g : TG) (a : α) (Γ' : Env G) (vs : List Nat) : Prop := ∀ σ F H x, HS N Γ σ F H → iα.rp a x F → ∀ Q : L2.St → Hp → Prop, (∀ σ' F', HS N Γ' σ' F' H → Same F F' → wipe σ' vs = wipe σ vs → Q σ' H) → g x σ H Q
theorem gc_name {i : Nat} {a : α} : GC N Γ (gName i) a (Γ.set i (.per a)) [i] := fun σ F H x hs r Q q => q _ F (hs.setPer i r) (Same.refl F) (by show (σ.set i (some x)).set i none = σ.set i none; rw [List.set_set])
theorem gc_tup2 {α β : Type} [Enc α] [Enc β] {i j : Nat} {a : α × β} (hij : i ≠ j) : GC N Γ (gTup G.K 2 (gCons (gName i) (gCons (gName j) gNil))) a ((Γ.set i (.per a.1)).set j (.per a.2)) [i, j] := fun σ F H x hs r Q q => by
  have h : Dq G.K F x (.tuple [enc a.1, enc a.2]) := r
  cases h with
  | tup hq ha =>
    cases ha with
    | cons d1 h2 =>
      cases h2 with
      | cons d2 h3 =>
        cases h3
        refine ⟨_, _, rfl, sqt_same hs.w.fh hq, rfl, _, _, rfl, _, _, rfl, rfl, q _ F ((hs.setPer (a := a.1) i d1).setPer (a := a.2) j d2) (Same.refl F) ?_⟩
        show ((((σ.set i _).set j _).set j none).set i none) = ((σ.set j none).set i none)
        rw [List.set_set, List.set_comm _ _ hij, List.set_set]
def notOwn (Γ : Env G) (vs : List Nat) : Prop := ∀ i ∈ vs, ∀ e, Γ[i]? = some e → e.own = false
/-- N with other wishes about exceptions, and a look at what must stay -/
def NN.wi (N : NN) (E : XK) (O : Addr → Option HO) : NN := ⟨N.F0, N.H0, N.B, N.S, E, O⟩
theorem HS.wi {E : XK} {O : Addr → Option HO} {σ : L2.St} {F H : Hp} (hs : HS N Γ σ F H) (h : ∀ a o, O a = some o → (H a = some o ∧ F a = none) ∧ ∀ p c, N.S = some (p, c) → a ≠ p ∧ a ≠ c) : HS (N.wi E O) Γ σ F H :=
  ⟨⟨hs.w.fh, hs.w.f0, hs.w.nw, hs.w.kp, hs.w.dm, hs.w.sr, hs.w.sb, h⟩, hs.sl.imp fun j e o _ _ s => Sl.nn (N := N) (N' := N.wi E O) rfl rfl rfl rfl s, hs.ds⟩
theorem HS.unwi {E : XK} {O : Addr → Option HO} {σ : L2.St} {F H : Hp} (hs : HS (N.wi E O) Γ σ F H) (h : ∀ a o, N.O a = some o → (H a = some o ∧ F a = none) ∧ ∀ p c, N.S = some (p, c) → a ≠ p ∧ a ≠ c) : HS N Γ σ F H :=
  ⟨⟨hs.w.fh, hs.w.f0, hs.w.nw, hs.w.kp, hs.w.dm, hs.w.sr, hs.w.sb, h⟩, hs.sl.imp fun j e o _ _ s => Sl.nn (N := N.wi E O) (N' := N) rfl rfl rfl rfl s, hs.ds⟩
/-- the new list of a comprehension grows -/
theorem HS.grow {σ : L2.St} {F H : Hp} {p : Addr} {vs : List V} (hs : HS N Γ σ F H) (fp : F p = none) (h0 : N.H0 p = none) (ns : ∀ q c, N.S = some (q, c) → p ≠ q ∧ p ≠ c) (nh : ¬ Held Γ σ p) (nO : ∀ o, N.O p ≠ some o) : HS N Γ σ F (upd H p (.lst vs)) := by
  have w : W N F (upd H p (.lst vs)) := by
    refine ⟨fun a u e => ?_, hs.w.f0, hs.w.nw, fun a u nb e => ?_, fun a e => ?_, fun q c e => ?_, hs.w.sb, fun a u e => ?_⟩
    · rw [upd_ne (ne_of_none e fp)]; exact hs.w.fh a u e
    · rw [upd_ne (ne_of_none e h0)]; exact hs.w.kp a u nb e
    · by_cases ha : a = p
      · subst ha; rw [upd_same] at e; cases e
      · rw [upd_ne ha] at e; exact hs.w.dm a e
    · have s := hs.w.sr q c e
      obtain ⟨st, ix, cs, h1, h2, r⟩ := s.at_
      have x := ns q c e
      exact ⟨s.fp, s.fc, s.ne, st, ix, cs, by rw [upd_ne (Ne.symm x.1)]; exact h1, by rw [upd_ne (Ne.symm x.2)]; exact h2, r⟩
    · have x := hs.w.os a u e
      have y : a ≠ p := fun z => nO u (z ▸ e)
      exact ⟨⟨by rw [upd_ne y]; exact x.1.1, x.1.2⟩, x.2⟩
  exact hs.move w (Same.refl F) (fun q ws hl e => by
    have ne : q ≠ p := fun z => by rw [z] at hl; exact nh hl
    rw [upd_ne ne]; exact e) fun q hl => (hs.held hl).1.f
theorem Held.wiped {σ : L2.St} {vs : List Nat} {q : Addr} (hv : notOwn Γ vs) (h : Held Γ σ q) : Held (wipeE Γ vs) (wipe σ vs) q := by
  obtain ⟨i, e, h1, o, h2⟩ := h
  have hi : i ∉ vs := fun z => by
    have := hv i z e h1
    rw [o] at this; cases this
  exact ⟨i, e, by rw [wipeE_get, if_neg hi]; exact h1, o, by rw [wipe_get, if_neg hi]; exact h2⟩
theorem Held.unwiped {σ : L2.St} {vs : List Nat} {q : Addr} (h : Held (wipeE Γ vs) (wipe σ vs) q) : Held Γ σ q := by
  obtain ⟨i, e, h1, o, h2⟩ := h
  rw [wipeE_get] at h1
  rw [wipe_get] at h2
  by_cases hi : i ∈ vs
  · rw [if_pos hi] at h1
    cases hg : Γ[i]? with
    | none => rw [hg] at h1; cases h1
    | some e' => rw [hg] at h1; cases h1; cases o
  · rw [if_neg hi] at h1 h2
    exact ⟨i, e, h1, o, h2⟩
theorem wipe_wipe (σ : L2.St) (vs : List Nat) : wipe (wipe σ vs) vs = wipe σ vs := by
  apply List.ext_getElem?
  intro k
  rw [wipe_get, wipe_get]
  by_cases h : k ∈ vs
  · rw [if_pos h, if_pos h, Option.map_map]; rfl
  · rw [if_neg h, if_neg h]
theorem comp_core {δ : Type} [Enc δ] {wi : TI} {g : TG} {vs : List Nat} {mi : Prog (List α)} {t : α → Prog Bool} {f : α → Prog δ} {Γt : α → Env G} {Γl : Env G → Prop} {Ec : XK}
    (hi : EVI (α := α) N Γ wi mi Γl) (hv : notOwn Γ vs) (hl : Γl (wipeE Γ vs)) (hΓ : ∀ a, wipeE (Γt a) vs = wipeE Γ vs) (hg : ∀ O a, GC (N.wi Ec O) (wipeE Γ vs) g a (Γt a) vs)
    (ht : ∀ O a, TV (N.wi Ec O) (Γt a) tt (t a)) (he : ∀ O a, EV (N.wi Ec O) (Γt a) te (f a)) {fin : Exc → Prop} (hE : ∀ O, (∀ a o, N.O a = some o → O a = some o) → ∀ e, fin e → EP G (N.wi Ec O) e) {M : List α → Prog (L δ)}
    (hM : ∀ xs (P : List δ → Prop), wp (M xs) P (EP G N) → small xs.length = true ∧ wp (compP t f xs) P fin) :
    EVN N Γ (tLc wi g tt te vs) (mi >>= M) := fun σ F H hs Q q =>
  hi σ F H hs _ (wp_mono (wp_bind.1 q) fun xs q1 F1 H1 JJ hs1 e1 gen D hD => by
    obtain ⟨hsm, q1⟩ := hM xs _ q1
    have hsm' := of_decide_eq_true hsm
    let O : List V → Addr → Option HO := fun us a => by
      classical
      exact if a = D then some (.lst us) else if Held Γ σ a then H1 a else N.O a
    have nheld : ¬ Held Γ σ D := fun x => by
      obtain ⟨_, vs, h⟩ := hs1.held x
      rw [hD] at h; cases h
    have fD : F1 D = none := Same.free hs1.w.fh hD
    have h0D : N.H0 D = none := hs1.w.dm D hD
    have sD : ∀ p c, N.S = some (p, c) → D ≠ p ∧ D ≠ c := fun p c e => by
      obtain ⟨st, ix, cs, h1, h2, _⟩ := (hs1.w.sr p c e).at_
      refine ⟨fun z => ?_, fun z => ?_⟩
      · rw [← z, hD] at h1; cases h1
      · rw [← z, hD] at h2; cases h2
    have nOD : N.O D = none := by
      cases z : N.O D with
      | none => rfl
      | some o => exact absurd (hs1.w.os D o z).1.1 (by rw [hD]; intro y; cases y)
    have hOD : ∀ us, O us D = some (.lst us) := fun us => by simp [O]
    have hOh : ∀ us a, Held Γ σ a → O us a = H1 a := fun us a hh => by
      have : a ≠ D := fun z => nheld (z ▸ hh)
      simp [O, this, hh]
    have hON : ∀ us a o, N.O a = some o → O us a = some o := fun us a o h => by
      have ne : a ≠ D := fun z => by rw [z, nOD] at h; cases h
      by_cases hh : Held Γ σ a
      · rw [hOh us a hh]; exact (hs1.w.os a o h).1.1
      · simp [O, ne, hh, h]
    have hOs : ∀ us a o, O us a = some o → a ≠ D → (H1 a = some o ∧ F1 a = none) ∧ ∀ p c, N.S = some (p, c) → a ≠ p ∧ a ≠ c := fun us a o h ne => by
      by_cases hh : Held Γ σ a
      · rw [hOh us a hh] at h
        exact ⟨⟨h, (hs1.held hh).1.f⟩, (hs1.held hh).1.s⟩
      · have : O us a = N.O a := by simp [O, ne, hh]
        rw [this] at h
        exact hs1.w.os a o h
    have unO : ∀ {us : List V} {Γ' : Env G} {σ' : L2.St} {F' H' : Hp}, HS (N.wi Ec (O us)) Γ' σ' F' H' → HS N Γ' σ' F' H' := fun {us Γ' σ' F' H'} h => h.unwi fun a o x => h.w.os a o (hON us a o x)
    -- the state between two turns
    let B : List δ → Hp → Hp → Prop := fun acc F' H' => ∃ us, HS (N.wi Ec (O us)) (wipeE Γ vs) (wipe σ vs) F' H' ∧ Same F1 F' ∧ DqAll G.K F' us (acc.map enc)
    have start : B [] F1 (upd H1 D (.lst [])) := by
      have w2 := (hs_newlist (vs := []) (hs1.wiped vs) hD).1
      refine ⟨[], w2.wi fun a o x => ?_, Same.refl F1, .nil⟩
      by_cases ha : a = D
      · subst ha
        rw [hOD] at x
        rw [upd_same]
        exact ⟨⟨x, fD⟩, sD⟩
      · rw [upd_ne ha]
        exact hOs [] a o x ha
    have step : ∀ {us : List V} {Γ' : Env G} {σ' : L2.St} {F' H' : Hp}, HS (N.wi Ec (O us)) Γ' σ' F' H' → wipeE Γ' vs = wipeE Γ vs → wipe σ' vs = wipe σ vs → HS (N.wi Ec (O us)) (wipeE Γ vs) (wipe σ vs) F' H' := fun {us Γ' σ' F' H'} h a b => by
      rw [← a, ← b]
      exact h.wiped vs
    have grow : ∀ {us us' : List V} {F' H' : Hp}, HS (N.wi Ec (O us)) (wipeE Γ vs) (wipe σ vs) F' H' → HS (N.wi Ec (O us')) (wipeE Γ vs) (wipe σ vs) F' (upd H' D (.lst us')) := fun {us us' F' H'} h => by
      have hf : F' D = none := (h.w.os D _ (hOD us)).1.2
      have h1 : HS N (wipeE Γ vs) (wipe σ vs) F' (upd H' D (.lst us')) := (unO h).grow hf h0D sD (fun x => nheld x.unwiped) (fun o x => by rw [nOD] at x; cases x)
      refine h1.wi fun a o x => ?_
      by_cases ha : a = D
      · subst ha
        rw [hOD] at x
        rw [upd_same]
        exact ⟨⟨x, hf⟩, sD⟩
      · rw [upd_ne ha]
        have x' : O us a = some o := by
          have : O us a = O us' a := by simp [O, ha]
          rw [this]; exact x
        exact h.w.os a o x'
    refine ⟨fun i m H' => ∃ acc F', B acc F' H' ∧ i ≤ xs.length ∧ m = xs.length - i ∧ acc.length ≤ i ∧ wp (compP t f (xs.drop i)) (fun ys => ∀ p vs F' H', HS N Γ σ F' H' → Same F1 F' → NewAt N Γ σ F' p → H' p = some (.lst vs) → DqAll G.K F' vs ((acc ++ ys).map enc) → Q (.ref p) H') fin, ⟨_, [], F1, start, Nat.zero_le _, rfl, Nat.le_refl _, wp_mono q1 fun ys k p vs F' H' a b c d e => k p vs F' H' a (Same.trans e1 b) c d e⟩, ?_⟩
    rintro i m H2 ⟨acc, F2, ⟨us, hs2, e2, d2⟩, hle, rfl, hacc, q2⟩
    have hG := gen (wipeE Γ vs) hl
    have hsN := unO hs2
    by_cases hi : i < xs.length
    · have ex : xs[i]? = some xs[i] := List.getElem?_eq_getElem hi
      rw [List.drop_eq_getElem_cons hi] at q2
      refine .inr ⟨hG.go i _ F2 H2 hsN e2 hi, fun H' => ∃ acc' F', B acc' F' H' ∧ acc'.length ≤ i + 1 ∧ wp (compP t f (xs.drop (i + 1))) (fun ys => ∀ p vs F' H', HS N Γ σ F' H' → Same F1 F' → NewAt N Γ σ F' p → H' p = some (.lst vs) → DqAll G.K F' vs ((acc' ++ ys).map enc) → Q (.ref p) H') fin, ?_, fun x H3 hy => ?_⟩
      · rintro H' ⟨acc', F', hB, hl', q'⟩
        exact ⟨xs.length - (i + 1), by omega, acc', F', hB, hi, rfl, hl', q'⟩
      · have q3 := wp_bind.1 q2
        have fin2 : ∀ F3, HS (N.wi Ec (O us)) (wipeE Γ vs) (wipe σ vs) F3 H3 → Same F2 F3 → iα.rp xs[i] x F3 → g x (wipe σ vs) H3 fun σ2 H2 => wipe σ2 vs = wipe σ vs ∧ tt σ2 H2 fun b H3 => if b = true then te σ2 H3 fun y H4 => ∃ acc, H4 D = some (.lst acc) ∧ acc.length < sizeLine ∧ ∃ acc' F', B acc' F' (upd H4 D (.lst (acc ++ [y]))) ∧ acc'.length ≤ i + 1 ∧ wp (compP t f (xs.drop (i + 1))) (fun ys => ∀ p vs F' H', HS N Γ σ F' H' → Same F1 F' → NewAt N Γ σ F' p → H' p = some (.lst vs) → DqAll G.K F' vs ((acc' ++ ys).map enc) → Q (.ref p) H') fin
              else ∃ acc' F', B acc' F' H3 ∧ acc'.length ≤ i + 1 ∧ wp (compP t f (xs.drop (i + 1))) (fun ys => ∀ p vs F' H', HS N Γ σ F' H' → Same F1 F' → NewAt N Γ σ F' p → H' p = some (.lst vs) → DqAll G.K F' vs ((acc' ++ ys).map enc) → Q (.ref p) H') fin := fun F3 hs3 e3 r3 => by
          refine hg (O us) xs[i] _ F3 H3 x hs3 r3 _ fun σ4 F4 hs4 e4 hw => ⟨hw.trans (wipe_wipe σ vs), ?_⟩
          have hw' : wipe σ4 vs = wipe σ vs := hw.trans (wipe_wipe σ vs)
          refine ht (O us) xs[i] σ4 F4 H3 hs4 _ (wp_imp q3 (fun b q4 F5 H5 hs5 e5 => ?_) (hE (O us) (hON us)))
          have e15 : Same F2 F5 := Same.trans e3 (Same.trans e4 e5)
          cases b with
          | true =>
            rw [if_pos rfl]
            refine he (O us) xs[i] σ4 F5 H5 hs5 _ (wp_imp (wp_bind.1 q4) (fun y q5 v F6 H6 hs6 e6 r6 => ?_) (hE (O us) (hON us)))
            have hD6 : H6 D = some (.lst us) := (hs6.w.os D _ (hOD us)).1.1
            have d6 := dpAll_same (Same.trans e15 e6) _ _ d2
            have l6 := dpAll_len d6
            refine ⟨us, hD6, ?_, acc ++ [y], F6, ⟨us ++ [v], grow (step hs6 (hΓ _) hw'), Same.trans e2 (Same.trans e15 e6), by rw [List.map_append]; exact dpAll_append d6 (.cons r6 .nil)⟩, by rw [List.length_append]; exact Nat.succ_le_succ hacc, ?_⟩
            · rw [l6]
              exact Nat.lt_of_le_of_lt (Nat.le_trans hacc (Nat.le_trans hle hsm')) (by decide)
            · refine wp_mono (wp_bind.1 q5) fun ys q6 => ?_
              have q6' : ∀ p vs F' H', HS N Γ σ F' H' → Same F1 F' → NewAt N Γ σ F' p → H' p = some (.lst vs) → DqAll G.K F' vs ((acc ++ (y :: ys)).map enc) → Q (.ref p) H' := q6
              rw [List.append_assoc]
              exact q6'
          | false =>
            rw [if_neg Bool.false_ne_true]
            exact ⟨acc, F5, ⟨us, step hs5 (hΓ _) hw', Same.trans e2 e15, dpAll_same e15 _ _ d2⟩, Nat.le_succ_of_le hacc, q4⟩
        rcases hG.yld i xs[i] _ F2 H2 x H3 hsN e2 ex hy with ⟨rfl, r⟩ | ⟨T, o, hT, rfl, r⟩
        · exact fin2 F2 hs2 (Same.refl F2) r
        · obtain ⟨hs3, e3⟩ := hs2.laid (o := o) hT
          exact fin2 _ hs3 e3 r
    · have e : i = xs.length := by omega
      subst e
      rw [List.drop_length] at q2
      have q2' : ∀ p vs F' H', HS N Γ σ F' H' → Same F1 F' → NewAt N Γ σ F' p → H' p = some (.lst vs) → DqAll G.K F' vs ((acc ++ []).map enc) → Q (.ref p) H' := q2
      refine .inl ⟨hG.stop _ _ F2 H2 hsN e2 (Nat.le_refl _), ?_⟩
      have hD2 := (hs2.w.os D _ (hOD us)).1
      have hs3 : HS N Γ σ F2 H2 := hs1.move hsN.w e2 (fun q ws hl h => (hs2.w.os q _ ((hOh us q hl).trans h)).1.1) (fun q hl => by
        obtain ⟨m, ws, h⟩ := hs1.held hl
        exact (hs2.w.os q _ ((hOh us q hl).trans h)).1.2)
      exact q2' D us F2 H2 hs3 e2 ⟨⟨hD2.2, h0D, sD⟩, h0D, nheld, nOD⟩ hD2.1 (by rw [List.append_nil]; exact d2))
theorem ep_wi {O : Addr → Option HO} (h : ∀ a o, N.O a = some o → O a = some o) (e : Exc) (k : EP G N e) : EP G (N.wi N.E O) e := fun F' H' C d w r => k F' H' C d ⟨w.fh, w.f0, w.nw, w.kp, w.dm, w.sr, w.sb, fun a o x => w.os a o (h a o x)⟩ r
theorem tv_yes : TV N Γ tYes (.ok true) := fun σ F H hs Q q => q F H hs (Same.refl F)
theorem compP_map {δ : Type} (f : α → Prog δ) : ∀ xs : List α, compP (fun _ => .ok true) f xs = mapP f xs
  | [] => rfl
  | a :: r => by
    show (f a >>= fun y => compP (fun _ => .ok true) f r >>= fun ys => Prog.ok (y :: ys)) = (f a >>= fun y => mapP f r >>= fun ys => Prog.ok (y :: ys))
    rw [compP_map f r]
section
variable {δ : Type} [Enc δ] {wi : TI} {g : TG} {vs : List Nat} {mi : Prog (List α)} {t : α → Prog Bool} {f : α → Prog δ} {Γt : α → Env G} {Γl : Env G → Prop}
theorem evn_lc (hi : EVI (α := α) N Γ wi mi Γl) (hv : notOwn Γ vs) (hl : Γl (wipeE Γ vs)) (hg : ∀ O a, GC (N.wi N.E O) (wipeE Γ vs) g a (Γt a) vs)
    (ht : ∀ O a, TV (N.wi N.E O) (Γt a) tt (t a)) (he : ∀ O a, EV (N.wi N.E O) (Γt a) te (f a)) (hΓ : ∀ a, wipeE (Γt a) vs = wipeE Γ vs) :
    EVN N Γ (tLc wi g tt te vs) (mi >>= fun xs => chk (small xs.length) (compP t f xs : Prog (L δ))) :=
  comp_core (Ec := N.E) (fin := EP G N) hi hv hl hΓ hg ht he (fun O h e => ep_wi h e) fun xs P h => wp_chk h
theorem evn_map (hi : EVI (α := α) N Γ wi mi Γl) (hv : notOwn Γ vs) (hl : Γl (wipeE Γ vs)) (hg : ∀ O a, GC (N.wi N.E O) (wipeE Γ vs) g a (Γt a) vs)
    (he : ∀ O a, EV (N.wi N.E O) (Γt a) te (f a)) (hΓ : ∀ a, wipeE (Γt a) vs = wipeE Γ vs) : EVN N Γ (tLc wi g tYes te vs) (mi >>= fun xs => chk (small xs.length) (mapP f xs : Prog (L δ))) :=
  comp_core (Ec := N.E) (fin := EP G N) (t := fun _ => .ok true) hi hv hl hΓ hg (fun O a => tv_yes) he (fun O h e => ep_wi h e) fun xs P h => by
    rw [compP_map]
    exact wp_chk h
/-- .. where the block calls defs: no error may leave it -/
theorem evn_lcE (hi : EVI (α := α) N Γ wi mi Γl) (hv : notOwn Γ vs) (hl : Γl (wipeE Γ vs)) (hg : ∀ O a, GC (N.wi E0 O) (wipeE Γ vs) g a (Γt a) vs)
    (ht : ∀ O a, TV (N.wi E0 O) (Γt a) tt (t a)) (he : ∀ O a, EV (N.wi E0 O) (Γt a) te (f a)) (hΓ : ∀ a, wipeE (Γt a) vs = wipeE Γ vs) :
    EVN N Γ (tLc wi g tt te vs) (mi >>= fun xs => chk (small xs.length) (noerr (compP t f xs) : Prog (L δ))) :=
  comp_core (Ec := E0) (fin := fun _ => False) hi hv hl hΓ hg ht he (fun O h e x => x.elim) fun xs P h => by
    obtain ⟨a, b⟩ := wp_chk h
    exact ⟨a, wp_noerr b⟩
theorem evn_mapE (hi : EVI (α := α) N Γ wi mi Γl) (hv : notOwn Γ vs) (hl : Γl (wipeE Γ vs)) (hg : ∀ O a, GC (N.wi E0 O) (wipeE Γ vs) g a (Γt a) vs)
    (he : ∀ O a, EV (N.wi E0 O) (Γt a) te (f a)) (hΓ : ∀ a, wipeE (Γt a) vs = wipeE Γ vs) : EVN N Γ (tLc wi g tYes te vs) (mi >>= fun xs => chk (small xs.length) (noerr (mapP f xs) : Prog (L δ))) :=
  comp_core (Ec := E0) (fin := fun _ => False) (t := fun _ => .ok true) hi hv hl hΓ hg (fun O a => tv_yes) he (fun O h e x => x.elim) fun xs P h => by
    rw [compP_map]
    obtain ⟨a, b⟩ := wp_chk h
    exact ⟨a, wp_noerr b⟩
end
end
end Ty

/-! rules for constructs that the layer has no row for -/
namespace TyL
open PySem PySem.Spec PyProof.Rows L2
section
variable {X : Cx}
/-! ### enumerate(tuple) -/
theorem meets_enumT (l : Addr) (items : Array Value) (n : Nat) (dct : Option Addr) (sl : Array (Option Value)) :
    Meets (Builtin.«enumerate.__new__» ⟨[.type "enumerate", .ref l], []⟩) (fun _ R s => s.heap.get? l = some { cls := .type "tuple", dict := dct, data := .seq items n, slots := sl } ∧
      R (.ok (.ret (.ref (s.heap.push { cls := .type "tuple_iterator", data := .fields #[.ref l, .int 0 0] }).objs.size)))
        { s with heap := (s.heap.push { cls := .type "tuple_iterator", data := .fields #[.ref l, .int 0 0] }).push { cls := .type "enumerate", data := .fields #[.none, .bool false, .ref s.heap.objs.size, rawInt 0, .none, .none] } }) :=
  .of_wp fun prog w A R s h => by
    obtain ⟨hp, g, d, tk, os⟩ := s; obtain ⟨hl, h⟩ := h
    have hsub := sub_enumerate
    have hL : Heap.IsTuple (Shared.heap ⟨hp, g, d, tk, os⟩) l items := ⟨_, hl, rfl, n, rfl⟩
    wp_walk using AutoSeq1.wpAny_loadPart' hl
    refine wpAny_stack_any fun st => wpAny_pure ?_
    split
    · rename_i c _ _ _ _ _
      cases (c == Value.type "enumerate")
      · wp_walk using AutoSeq1.wpAny_loadPart' hl, wpAny_pyIter_tuple hL
        exact ⟨_, rfl, h⟩
      · wp_walk using AutoSeq1.wpAny_loadPart' hl, wpAny_pyIter_tuple hL
        exact ⟨_, rfl, h⟩
    · wp_walk using AutoSeq1.wpAny_loadPart' hl, wpAny_pyIter_tuple hL
      exact ⟨_, rfl, h⟩
theorem call_enumT {prog : Program} {w : World} {A : Around} {E : Value → Shared → Prop} {s : Shared} {l : Addr} {items : Array Value} {Q : Value → Shared → Prop} (hL : s.heap.IsTuple l items)
    (h : ∀ h', IsEnum h' (s.heap.objs.size + 1) s.heap.objs.size 0 .none → h'.IsTupleIter s.heap.objs.size l 0 → h'.objs.size = s.heap.objs.size + 2 →
      (∀ b o, s.heap.get? b = some o → h'.get? b = some o) → Q (.ref (s.heap.objs.size + 1)) { s with heap := h' }) :
    wpAny (model prog w) A (call (.type "enumerate") [.ref l]) Q E s := by
  obtain ⟨⟨c, dct, dt, sl⟩, hl, hc, n, hd⟩ := hL
  replace hc : c = .type "tuple" := hc
  replace hd : dt = .seq items n := hd
  subst hc hd
  refine callType_new F.called_enumerate (by decide) (F.typeCall_enumerate_1 _) (F.newCall_enumerate_1 _) (fun obj => F.args_object_init_2 obj _) F.entry_enumerate_new
    (meets_enumT l items n dct sl) ⟨hl, ?_⟩
  have hz : (s.heap.push { cls := .type "tuple_iterator", data := .fields #[.ref l, .int 0 0] }).objs.size = s.heap.objs.size + 1 := Heap.size_push ..
  show _ ∧ _
  rw [hz]
  have he : IsEnum ((s.heap.push { cls := .type "tuple_iterator", data := .fields #[.ref l, .int 0 0] }).push
      { cls := .type "enumerate", data := .fields #[.none, .bool false, .ref s.heap.objs.size, rawInt 0, .none, .none] }) (s.heap.objs.size + 1) s.heap.objs.size 0 .none := by
    have := Heap.get?_push_size (s.heap.push { cls := .type "tuple_iterator", data := .fields #[.ref l, .int 0 0] })
      (o := { cls := .type "enumerate", data := .fields #[.none, .bool false, .ref s.heap.objs.size, rawInt 0, .none, .none] }) rfl
    rw [hz] at this; exact this
  refine ⟨⟨_, he, rfl⟩, h _ he ⟨_, Heap.get?_push_of_some _ (Heap.get?_push_size _ rfl), rfl, rfl⟩ (by rw [Heap.size_push, hz]) fun b o x => Heap.get?_push_of_some _ (Heap.get?_push_of_some _ x)⟩
def IteT (K : PySem.W.Frag) (a : Addr) : It :=
  ⟨fun i H => ∃ (xs : List V) (x : V), SqT K H a xs ∧ xs[i]? = some x, fun i H v H' => ∃ T x, v = .ref T ∧ H T = none ∧ H' = upd H T (.tup [.int (i : Nat), x]) ∧ ∀ xs, SqT K H a xs → xs[i]? = some x, fun i H => ∃ xs : List V, SqT K H a xs ∧ xs.length ≤ i⟩
theorem turn_enumT {P : Program} {w : World} {K : PySem.W.Frag} {elts : List Expr} {kk : Nat} {tpos : Pos} (a e it : Addr) :
    Turn P w K (.Tuple elts kk tpos) (IteT K a) [e, it] e (fun i h => (∃ old, IsEnum h e it ((i : Nat) : Int) old) ∧ h.IsTupleIter it a i ∧ e ≠ it) where
  mem := by simp
  obj := fun i h st b hb => by
    obtain ⟨⟨old, he⟩, ⟨o, ho, hc, hd⟩, _⟩ := st
    have e' : b = e ∨ b = it := by simpa using hb
    rcases e' with z | z
    · rw [z]; exact ⟨_, he, fun v q => nomatch q⟩
    · rw [z]; exact ⟨o, ho, fun v q => by rw [hd] at q; cases q⟩
  keep := fun i h h' st k => let ⟨⟨old, he⟩, hi, hne⟩ := st; ⟨⟨old, k e (by simp) _ he⟩, hi.at fun o q => k it (by simp) o q, hne⟩
  item := by
    intro X hP hw hK hc i pins s σ H E I hf st hg
    subst hP hw hK
    obtain ⟨⟨old, he⟩, hit, hne⟩ := st
    obtain ⟨xs, x, hq, hx⟩ := hg
    obtain ⟨its, rv, p, hz⟩ := I.tuple hq
    obtain ⟨u, hu, ru⟩ := rv.get hx
    have hel : e < s.heap.objs.size := Heap.lt_size he
    have hil : it < s.heap.objs.size := by obtain ⟨_, q, _⟩ := hit; exact Heap.lt_size q
    have hia : a ≠ it := fun z => by
      obtain ⟨o, q1, q2, q3⟩ := id hit
      obtain ⟨o', q4, q5, _⟩ := id p
      rw [z, q1] at q4; cases q4
      rw [q2] at q5
      injection q5 with q6
      exact absurd q6 (by decide)
    have hea : e ≠ a := fun z => by
      obtain ⟨o', q4, q5, _⟩ := id p
      rw [← z, show s.heap.get? e = some _ from he] at q4; cases q4
      injection q5 with q6
      exact absurd q6 (by decide)
    have hh : X.A.in1.handled = none := I.ok.hd hc
    have D := Draws.tuple (prog := X.prog) (w := X.w) (A := X.A.in1) hh it a hia its.toArray
    have hlen : i < its.toArray.size := by
      obtain ⟨h1, _⟩ := List.getElem?_eq_some_iff.1 hu
      simpa using h1
    refine wpAny_pyNext_enum_itemD D he ⟨hit, p⟩ hlen hne (by simp [hne, hea]) fun x2 h' tk hx2 ho hst' hT hsz hk => ?_
    have hu2 : x2 = u := by
      have : its.toArray[i]? = some x2 := hx2
      rw [List.getElem?_toArray] at this
      exact Option.some.inj (this.symm.trans hu)
    subst hu2
    refine ⟨_, rfl, wpAny_letOwnedTupleGo_enum (s := { s with heap := h', toks := tk + 1 }) ho fun h'' he' sb => ?_⟩
    have hT2 : h''.get? s.heap.objs.size = some { cls := .type "tuple", data := .seq #[.int i tk, x2] } := (sb.2 _ (Nat.ne_of_gt hel)).trans hT
    have new : ObjOk X.prog X.w (upd H s.heap.objs.size (.tup [.int (i : Nat), x])) h'' s.heap.objs.size (.tup [.int (i : Nat), x]) :=
      ⟨by show 2 ≤ sizeLine; decide, [.int i tk, x2], .cons ⟨_, rfl⟩ (.cons ru .nil), ⟨_, hT2, rfl, _, rfl⟩⟩
    have I1 : Inv X pins σ (upd H s.heap.objs.size (.tup [.int (i : Nat), x])) { s with heap := h'', toks := tk + 1 } :=
      I.turnedNew (ch := [e, it]) (fun b ob hb q => (sb.2 b (fun z => hb (by simp [z]))).trans (hk b ob (fun z => hb (by simp [z])) (fun z => hb (by simp [z])) q)) hf (Nat.le_refl _) new
    refine ⟨.ref s.heap.objs.size, _, I1, rfl, ⟨_, x, rfl, I.hok.fresh (Nat.le_refl _), rfl, fun ys hy => by rw [I.tuple_inj hy hq]; exact hx⟩, ⟨⟨x2, ?_⟩, hst'.1.at fun o q => (sb.2 it (Ne.symm hne)).trans q, hne⟩, fun b hb => ?_⟩
    · have e1 : ((i + 1 : Nat) : Int) = (i : Int) + 1 := by omega
      rw [e1]; exact he'
    · have hb' : b < s.heap.objs.size := by
        have e' : b = e ∨ b = it := by simpa using hb
        rcases e' with z | z
        · rw [z]; exact hel
        · rw [z]; exact hil
      rw [upd_ne (Nat.ne_of_lt hb')]
      exact (hf b hb).1
  done := by
    intro X hP hw hK hc i pins s σ H E I hf st hg
    subst hP hw hK
    obtain ⟨⟨old, he⟩, hit, hne⟩ := st
    obtain ⟨xs, hq, hx⟩ := hg
    obtain ⟨its, rv, p, hz⟩ := I.tuple hq
    obtain ⟨f0, f1, f2, f3, f4, f5⟩ := hf it (by simp)
    have hl := rv.length
    have hia : a ≠ it := fun z => by
      obtain ⟨o, q1, q2, q3⟩ := id hit
      obtain ⟨o', q4, q5, _⟩ := id p
      rw [z, q1] at q4; cases q4
      rw [q2] at q5
      injection q5 with q6
      exact absurd q6 (by decide)
    have hh : X.A.in1.handled = none := I.ok.hd hc
    have D : Draws X.prog X.w X.A.in1 it [it, a] i (fun i v => its.toArray[i]? = some v) (fun j h => j = i ∧ h.IsTupleIter it a i ∧ h.IsTuple a its.toArray) :=
      { live := fun _ _ st => let ⟨o, ho, _⟩ := st.2.1; ⟨o, ho⟩
        frame := fun _ _ _ st hk => ⟨st.1, st.2.1.at fun o e => hk it (by simp) o e, st.2.2.at fun o e => hk a (by simp) o e⟩
        item := fun j s Q E hj st hQ => absurd st.1 (Nat.ne_of_lt hj)
        done := fun s Q E st hE => wpAny_nextOf_tuple_end hh st.2.1 st.2.2 (by simp; omega) hE }
    exact wpAny_pyNext_enum_endD D he ⟨rfl, hit, p⟩ fun h' eb => ⟨rfl, I.turned (t' := s.toks) (fun b o hb q => eb b o hb q) f0 f1 f3 f4 f5⟩
  self := fun A i s Q E st h => let ⟨⟨_, he⟩, _⟩ := st; wpAny_pyIter_enum he h
def iEnumT (K : PySem.W.Frag) (ta : TA) : TI := fun σ H R => ta σ H fun vs H1 => ∃ a xs, vs = [.ref a] ∧ SqT K H1 a xs ∧ R (IteT K a) H1
theorem pi_enumT {e : Expr} {ta : TA} {p pos tpos : Pos} {elts : List Expr} {kk : Nat} (hg : Gl X "enumerate") (hm : X.mg "enumerate" = none) (ha : PA X [e] ta) (hs : starEach [e] X.env = [(false, eval e X.env)] := by rfl) :
    PI X (.Tuple elts kk tpos) (.Call (.Name "enumerate" p) [e] [] pos) (iEnumT X.K ta) := by
  refine ⟨fun pins s σ H R I h => ?_⟩
  refine Call_ (ld_blt I hg hm boot_enumerate (PyProof.Rows.callWith_type1 (thn (ha.run pos pins s σ H _ I h) fun us s1 ⟨vs, H1, I1, r1, q1⟩ => ?_) hs rfl))
  obtain ⟨a, xs, ex, hq, q⟩ := q1
  subst ex
  cases r1 with
  | cons r rr =>
    cases rr
    cases r
    obtain ⟨its, rv, p', hz⟩ := I1.tuple hq
    refine call_enumT p' fun h' he hit hsz hk => wpAny_pyIter_enum he ?_
    have I2 : Inv X pins σ H1 { s1 with heap := h' } := I1.kept (t' := s1.toks) hk
    refine ⟨s1.heap.objs.size + 1, [s1.heap.objs.size + 1, s1.heap.objs.size], _, _, H1, rfl, I2, turn_enumT a (s1.heap.objs.size + 1) s1.heap.objs.size, ⟨⟨.none, he⟩, hit, Nat.succ_ne_self _⟩, fun b hb => ?_, q⟩
    have e' : b = s1.heap.objs.size + 1 ∨ b = s1.heap.objs.size := by simpa using hb
    have hle : s1.heap.objs.size ≤ b := by
      rcases e' with z | z
      · rw [z]; exact Nat.le_add_right _ _
      · rw [z]; exact Nat.le_refl _
    exact I1.fpOk hle (I1.hok.fresh hle)
/-! ### list + list, of any lists known -/
theorem Inv.rdl {pins : List (Addr × Obj)} {σ : L2.St} {H : Hp} {s : Shared} {a : Addr} {xs : List V} (I : L2.Inv X pins σ H s) (h : Rd H a (.lst xs)) : xs.length ≤ sizeLine ∧ ∃ (its : List Value) (n : Nat), Vals xs its ∧ s.heap.get? a = some { cls := .type "list", data := .seq its.toArray n } := by
  obtain ⟨z, its, n, r, e⟩ := h.ok I.hok
  exact ⟨z, its, n, r, e⟩
def rCatL : R2 := fun x y H Q => ∃ l b xs zs, x = .ref l ∧ y = .ref b ∧ Rd H l (.lst xs) ∧ Rd H b (.lst zs) ∧ xs.length + zs.length ≤ sizeLine ∧ ∀ p, H p = none → Q (.ref p) (upd H p (.lst (xs ++ zs)))
theorem op_catL : OpR X (binaryOp .Add) rCatL := by
  intro pins s σ H x y v u Q I rx ry h
  obtain ⟨l, b, xs, zs, rfl, rfl, hH, hB, hz, q⟩ := h
  cases rx
  cases ry
  obtain ⟨_, its, n, r, e⟩ := Inv.rdl I hH
  obtain ⟨_, its2, n2, r2, e2⟩ := Inv.rdl I hB
  have hl := r.length
  have hl2 := r2.length
  refine PySem.P.add_list e e2 ?_ (by rw [List.size_toArray, List.size_toArray]; omega)
  have ea : its.toArray ++ its2.toArray = (its ++ its2).toArray := by simp
  rw [ea]
  exact ⟨.ref _, _, I.lnew (t' := s.toks) (r.append r2) (by rw [List.length_append]; omega), rfl, q _ I.fresh⟩
/-! ### text * int -/
def rMulS : R2 := fun x y H Q => ∃ z n, x = .str z ∧ y = .int n ∧ -(2 ^ 62) ≤ n ∧ n < 2 ^ 62 ∧ z.length * n.toNat ≤ sizeLine ∧ Q (.str ⟨(List.replicate n.toNat z.cps.toList).flatten.toArray⟩) H
theorem foldl_cat (x : Array Nat) : ∀ (k : Nat) (acc : Array Nat), (List.replicate k x).foldl (· ++ ·) acc = acc ++ (List.replicate k x.toList).flatten.toArray
  | 0, acc => by simp
  | k + 1, acc => by
    rw [List.replicate_succ, List.foldl_cons, foldl_cat x k (acc ++ x), List.replicate_succ, List.flatten_cons]
    apply Array.ext'
    simp
theorem op_mulS : OpR X (binaryOp .Mult) rMulS := by
  intro pins s σ H x y v u Q I rx ry h
  obtain ⟨z, n, rfl, rfl, h1, h2, hz, q⟩ := h
  obtain ⟨t, rfl⟩ := rx
  obtain ⟨t', rfl⟩ := ry
  refine PySem.P.mul_str (by simp; omega) (fun a b c => ?_) (fun a b => ?_) ?_
  · have : (z.length : Int) * n ≤ 16777216 := by
      have h3 : z.length * n.toNat ≤ 16777216 := hz
      have h4 : ((z.length * n.toNat : Nat) : Int) ≤ 16777216 := by omega
      rw [Int.natCast_mul] at h4
      have h5 : ((n.toNat : Nat) : Int) = n := by omega
      rw [h5] at h4
      exact h4
    have hn : 0 < n := by omega
    have h6 : (z.length : Int) ≤ (2 ^ 63 - 1) / n := by
      rw [Int.le_ediv_iff_mul_le hn]
      omega
    omega
  · show decide (z.length * n.toNat > sizeLine) = false
    exact decide_eq_false (Nat.not_lt.mpr hz)
  · have e0 : ∀ k : Nat, (List.replicate k ([] : List Nat)).flatten = [] := fun k => by
      induction k with
      | zero => rfl
      | succ k ih => rw [List.replicate_succ, List.flatten_cons, ih]; rfl
    by_cases c1 : n < 1
    · rw [if_pos c1]
      have : n.toNat = 0 := by omega
      rw [this] at q
      exact ⟨Nat.zero_le _, .str _, H, I.tok _, ⟨_, rfl⟩, q⟩
    · rw [if_neg c1]
      by_cases c2 : (n == 1 || z.length == 0) = true
      · rw [if_pos c2]
        have ez : (⟨(List.replicate n.toNat z.cps.toList).flatten.toArray⟩ : Str) = z := by
          rcases Bool.or_eq_true_iff.1 c2 with c | c
          · have : n = 1 := by simpa using c
            subst this
            simp
          · have hz0 : z.cps.toList = [] := by
              have : z.cps.size = 0 := by simpa [Str.length] using c
              exact List.eq_nil_of_length_eq_zero (by simpa using this)
            rw [hz0, e0]
            have : z.cps = #[] := Array.ext' hz0
            cases z
            simp_all
        rw [ez] at q
        exact ⟨.str z, H, I, ⟨t, rfl⟩, q⟩
      · rw [if_neg c2, foldl_cat]
        refine ⟨?_, .str _, H, I.tok _, ⟨_, rfl⟩, by simpa using q⟩
        simp [Str.length]
        have : z.length = z.cps.size := rfl
        rw [Nat.mul_comm, ← this]
        exact hz
/-! ### a text turned round -/
theorem pick_all (x : List Nat) : ∀ k : Nat, k ≤ x.length → (((List.range k).map fun i => k - 1 - i).filterMap fun i => x[i]?) = (x.take k).reverse
  | 0, _ => by simp
  | k + 1, h => by
    have ih := pick_all x k (by omega)
    have hk : x[k]? = some x[k] := List.getElem?_eq_getElem (by omega)
    rw [List.range_succ_eq_map, List.map_cons, List.map_map]
    have e1 : (List.range k).map ((fun i => k + 1 - 1 - i) ∘ Nat.succ) = (List.range k).map fun i => k - 1 - i := List.map_congr_left fun i _ => by
      show k + 1 - 1 - (i + 1) = k - 1 - i
      omega
    rw [e1]
    have e2 : k + 1 - 1 - 0 = k := by omega
    rw [e2, List.filterMap_cons_some hk, ih, List.take_add_one, hk, List.reverse_append]
    rfl
theorem rev_ix (x : Str) : ((Builtin.Str.strSliceIndices none none (-1) x.length).filterMap (x.cps[·]?)).toArray = x.cps.toList.reverse.toArray := by
  congr 1
  have e : Builtin.Str.strSliceIndices none none (-1) x.length = (List.range x.length).map fun i => x.length - 1 - i := by
    unfold Builtin.Str.strSliceIndices
    show sliceRange (((x.length : Nat) : Int) - 1) (-1) (-1) = _
    unfold sliceRange
    by_cases h0 : x.length = 0
    · rw [h0]; rfl
    · have hc : (if (-1 : Int) > 0 then (if ((x.length : Nat) : Int) - 1 < -1 then (-1 - (((x.length : Nat) : Int) - 1) + -1 - 1) / -1 else 0) else (if ((x.length : Nat) : Int) - 1 > -1 then (((x.length : Nat) : Int) - 1 - -1 - -1 - 1) / - -1 else 0)) = (x.length : Int) := by
        rw [if_neg (by decide), if_pos (by omega)]
        have : (((x.length : Nat) : Int) - 1 - -1 - -1 - 1) = (x.length : Int) := by omega
        rw [this]
        simp
      simp only [hc]
      rw [Int.toNat_natCast]
      refine List.map_congr_left fun i hi => ?_
      have := List.mem_range.1 hi
      omega
  rw [e]
  have h := pick_all x.cps.toList x.length (by simp [Str.length])
  have h2 : x.cps.toList.take x.length = x.cps.toList := by
    rw [show x.length = x.cps.toList.length by simp [Str.length], List.take_length]
  rw [h2] at h
  rw [← h]
  congr 1
  funext i
  simp
def tRevS (te : TE) : TE := fun σ H Q => te σ H fun x H1 => ∃ z, x = .str z ∧ z.length ≤ sizeLine ∧ Q (.str ⟨z.cps.toList.reverse.toArray⟩) H1
theorem pe_revS {e : Expr} {te : TE} {k : Nat} {p1 p2 p3 pos : Pos} (he : PE X e te) : PE X (.Subscript e (.Slice none none (some (.UnaryOp .USub (.Constant (.int 1) k p1) p2)) p3) pos) (tRevS te) := by
  refine ⟨fun pins s σ H Q I h => ?_⟩
  refine Subscript_ (thn (he.run pins s σ H _ I h) fun v s1 ⟨x, H1, I1, r1, q1⟩ => ?_)
  obtain ⟨z, ex, hz, q⟩ := q1
  subst ex
  obtain ⟨t, rfl⟩ := r1
  have hst : PO X (some (.UnaryOp .USub (.Constant (.int 1) k p1) p2)) (tPart (tUn (rU fun i => .int (-i)) (tC (.int 1)))) := po_some (pe_un un_neg pe_int)
  refine wpAny_Slice (thn (po_none.run pins s1 σ H1 (fun o H2 => o = none ∧ H2 = H1) I1 ⟨rfl, rfl⟩) fun vl s2 ⟨l, H2, I2, pl, el, e2⟩ => ?_)
  subst el e2
  refine thn (po_none.run pins s2 σ H2 (fun o H3 => o = none ∧ H3 = H2) I2 ⟨rfl, rfl⟩) fun vu s3 ⟨u, H3, I3, pu, eu, e3⟩ => ?_
  subst eu e3
  refine thn (hst.run pins s3 σ H3 (fun o H4 => o = some (-1) ∧ H4 = H3) I3 ⟨1, rfl, -1, rfl, rfl, rfl⟩) fun vs s4 ⟨o, H4, I4, ps, eo, e4⟩ => ?_
  subst eo e4
  have I5 : Inv X pins σ H4 { s4 with heap := s4.heap.push { cls := .type "slice", data := .fields #[vl, vu, vs] } } := I4.kept (t' := s4.toks) fun b ob q => Heap.get?_push_of_some _ q
  show wpAny (model X.prog X.w) X.A (subscriptTail e (.Slice none none (some (.UnaryOp .USub (.Constant (.int 1) k p1) p2)) p3) (.str z t) (.ref s4.heap.objs.size)) (EP X pins σ Q) X.xe { s4 with heap := s4.heap.push { cls := .type "slice", data := .fields #[vl, vu, vs] } }
  obtain ⟨l, rfl, hl⟩ := IsPart.raw pl
  obtain ⟨u, rfl, hu⟩ := IsPart.raw pu
  obtain ⟨st, rfl, hs⟩ := IsPart.raw ps
  refine tail_any (ops := [.str z t, .ref s4.heap.objs.size]) (typeIs_str _ _ _) F.slot_str_getitem.lookup ?_ (by with_unfolding_all rfl)
  have hn : (st.map (·.1)).getD 1 = -1 := by rw [hs]; rfl
  refine wpAny_getItem_str_slice (l := l) (u := u) (st := st) ⟨_, Heap.get?_push_size _ rfl, rfl, rfl⟩ (by rw [hn]; rfl) ?_
  show Made.post (if (((st.map (·.1)).getD 1 == 1 && (Builtin.Str.strSliceIndices (l.map (·.1)) (u.map (·.1)) ((st.map (·.1)).getD 1) z.length).length == z.length) = true) then Made.val (.str z t)
    else Made.str ⟨((Builtin.Str.strSliceIndices (l.map (·.1)) (u.map (·.1)) ((st.map (·.1)).getD 1) z.length).filterMap (z.cps[·]?)).toArray⟩) _ _
  rw [hn, hl, hu, if_neg (by simp)]
  rw [rev_ix]
  refine ⟨?_, .str _, H4, I5.tok _, ⟨_, rfl⟩, q⟩
  simp [Str.length]
  exact hz
end
end TyL

namespace Ty
open PySem PySem.Spec PyProof.Rows L2
open Enc (enc)
variable {G : Glob}
section
variable {α β γ δ ω : Type} [iα : Rp G α] [iβ : Rp G β] [iγ : Rp G γ] {N : NN} {Γ Γ' : Env G} {te ta tb tc : TE} {tt tu : TT} {tz : TS}
/-! ### texts -/
theorem ev_revS {m : Prog Tx} (h : EV N Γ te m) : EV N Γ (TyL.tRevS te) (m >>= fun s => chk (small s.length) (.ok s.reverse)) := fun σ F H hs Q q =>
  h σ F H hs _ (wp_mono (wp_bind.1 q) fun s q1 x F1 H1 hs1 e1 r1 => by
    have e : x = .str (sx s) := Scl.dp (α := Tx) r1
    obtain ⟨hl, q1⟩ := wp_chk q1
    exact ⟨sx s, e, by simpa [Str.length, sx] using small_le hl, q1 _ F1 H1 hs1 e1 (.str _)⟩)
def mulS (s : Tx) (n : Int) : Tx := (List.replicate n.toNat s).flatten
theorem opv_mulS : OPV (G := G) (α := Tx) (β := Int) (γ := Tx) TyL.rMulS (fun s n => chk (inRange n && small (s.length * n.toNat)) (.ok (mulS s n))) := fun N Γ σ F H x y s n hs ra rb Q q => by
  have e1 : x = .str (sx s) := Scl.dp (α := Tx) ra
  have e2 : y = .int n := Scl.dp rb
  obtain ⟨h, q⟩ := wp_chk q
  obtain ⟨h1, h2⟩ := Bool.and_eq_true_iff.1 h
  obtain ⟨a, b⟩ := inRange_ok h1
  exact ⟨sx s, n, e1, e2, a, b, by simpa [Str.length, sx] using small_le h2, q _ F H hs (Same.refl F) (.str _)⟩
/-! in, of texts -/
def subS (a b : Tx) : Bool := !(Builtin.Str.occurrences (sx b) (sx a) 0 (sx b).length 1).isEmpty
theorem opv_inS : OPV (G := G) (α := Tx) (β := Tx) (γ := Bool) (fun x y H Q => ∃ i j, x = .str i ∧ y = .str j ∧ Q (.bl (!(Builtin.Str.occurrences j i 0 j.length 1).isEmpty)) H) (fun a b => .ok (subS a b)) := fun N Γ σ F H x y a b hs ra rb Q q => by
  have e1 : x = .str (sx a) := Scl.dp (α := Tx) ra
  have e2 : y = .str (sx b) := Scl.dp (α := Tx) rb
  exact ⟨sx a, sx b, e1, e2, q _ F H hs (Same.refl F) (.bl _)⟩
/-! join, split, str, int -/
def joinT (a : Tx) (xs : List Tx) : Tx := TL.joinL a xs
theorem txt_join (a : Str) (xs : List Str) : (Txt.join a xs).cps.toList = TL.joinL a.cps.toList (xs.map fun x => x.cps.toList) := by
  rw [TL.join_eq]
  exact TL.tl_join a xs
def sumLen (xs : List Tx) : Nat := (xs.map List.length).sum
theorem ev_join {m1 : Prog Tx} {m2 : Prog (L Tx)} (h1 : EV N Γ ta m1) (h2 : EV N Γ tb m2) : EV N Γ (tM1 (fun x xs H Q => ∃ a p, ∃ ys : List Str, x = .str a ∧ xs = [.ref p] ∧ (SqL G.K H p (ys.map V.str) ∨ SqT G.K H p (ys.map V.str)) ∧
      (ys.map (·.length)).sum + ys.length * a.length ≤ 16777216 ∧ Q (.str (Txt.join a ys)) H) ta tb) (m1 >>= fun a => m2 >>= fun (xs : List Tx) => chk (small (sumLen xs + xs.length * a.length)) (.ok (joinT a xs))) := fun σ F H hs Q q =>
  h1 σ F H hs _ (wp_mono (wp_bind.1 q) fun a q1 x F1 H1 hs1 e1 r1 => by
    have ea : x = .str (sx a) := Scl.dp (α := Tx) r1
    refine ⟨⟨_, ea⟩, h2 σ F1 H1 hs1 _ (wp_mono (wp_bind.1 q1) fun (xs : List Tx) q2 y F2 H2 hs2 e2 r2 => ?_)⟩
    obtain ⟨hl, q2⟩ := wp_chk q2
    obtain ⟨p, rfl, hq⟩ := dp_lst (α := Tx) (xs := xs) r2
    have em : xs.map Scl.tv = (xs.map sx).map V.str := by rw [List.map_map]; rfl
    rw [em] at hq
    have hz : ((xs.map sx).map (·.length)).sum + (xs.map sx).length * (sx a).length ≤ 16777216 := by
      have h3 : ((xs.map sx).map (·.length)) = xs.map List.length := by
        rw [List.map_map]
        exact List.map_congr_left fun s _ => by simp [sx, Str.length]
      have h4 : (sx a).length = a.length := by simp [sx, Str.length]
      rw [h3, List.length_map, h4]
      have := of_decide_eq_true hl
      unfold sumLen at this
      omega
    refine ⟨sx a, p, xs.map sx, ea, rfl, .inl (sql_same hs2.w.fh hq), hz, ?_⟩
    have ej : Txt.join (sx a) (xs.map sx) = sx (joinT a xs) := by
      have h5 := txt_join (sx a) (xs.map sx)
      have h6 : (xs.map sx).map (fun x => x.cps.toList) = xs := by rw [List.map_map]; exact List.map_id _
      rw [h6] at h5
      show Txt.join (sx a) (xs.map sx) = ⟨(TL.joinL a xs).toArray⟩
      rw [← h5]
    rw [ej]
    exact q2 _ F2 H2 hs2 (Same.trans e1 e2) (.str _))
/-! any, all, of a list of bools -/
theorem ev_all {m : Prog (L Bool)} (h : EV N Γ ta m) : EV N Γ (tCB (rAll G.K) (tCons ta tNil)) (m >>= fun (xs : List Bool) => .ok (xs.all id)) := fun σ F H hs Q q =>
  h σ F H hs _ (wp_mono (wp_bind.1 q) fun (xs : List Bool) q1 x F1 H1 hs1 e1 r1 => by
    obtain ⟨p, rfl, hq⟩ := dp_lst (α := Bool) (xs := xs) r1
    exact ⟨p, xs, rfl, sql_same hs1.w.fh hq, q1 _ F1 H1 hs1 e1 (.bl _)⟩)
theorem ev_any {m : Prog (L Bool)} (h : EV N Γ ta m) : EV N Γ (tCB (rAny G.K) (tCons ta tNil)) (m >>= fun (xs : List Bool) => .ok (xs.any id)) := fun σ F H hs Q q =>
  h σ F H hs _ (wp_mono (wp_bind.1 q) fun (xs : List Bool) q1 x F1 H1 hs1 e1 r1 => by
    obtain ⟨p, rfl, hq⟩ := dp_lst (α := Bool) (xs := xs) r1
    exact ⟨p, xs, rfl, sql_same hs1.w.fh hq, q1 _ F1 H1 hs1 e1 (.bl _)⟩)
theorem ev_sum {m : Prog (L Int)} (h : EV N Γ ta m) : EV N Γ (tCB (rSum G.K) (tCons ta tNil)) (m >>= fun (xs : List Int) => .ok xs.sum) := fun σ F H hs Q q =>
  h σ F H hs _ (wp_mono (wp_bind.1 q) fun (xs : List Int) q1 x F1 H1 hs1 e1 r1 => by
    obtain ⟨p, rfl, hq⟩ := dp_lst (α := Int) (xs := xs) r1
    exact ⟨p, xs, rfl, sql_same hs1.w.fh hq, q1 _ F1 H1 hs1 e1 (.int _)⟩)
/-! tuple(list), list(tuple), list(list) -/
theorem ev_tupleL {α : Type} [Enc α] {m : Prog (L α)} (h : EV N Γ ta m) : EV N Γ (tCB (fun xs H Q => ∃ p ys, xs = [.ref p] ∧ ((SqL G.K H p ys ∧ ∀ l, H l = none → Q (.ref l) (upd H l (.tup ys))) ∨ (SqT G.K H p ys ∧ Q (.ref p) H))) (tCons ta tNil)) (m >>= fun (xs : List α) => .ok xs) := fun σ F H hs Q q =>
  h σ F H hs _ (wp_mono (wp_bind.1 q) fun (xs : List α) q1 x F1 H1 hs1 e1 r1 => by
    have hd : Dq G.K F1 x (.list (xs.map enc)) := r1
    cases hd with
    | lst hq ha =>
      refine ⟨_, _, rfl, .inl ⟨sql_same hs1.w.fh (.inl hq), fun p hp => ?_⟩⟩
      obtain ⟨hs2, e2⟩ := hs1.laid (o := .tup _) hp
      exact q1 (.ref p) _ _ hs2 (Same.trans e1 e2) (.tup (.inl (.inl upd_same)) (dpAll_same e2 _ _ ha)))
theorem evn_listT {α : Type} [Enc α] {m : Prog (List α)} (h : EV N Γ ta m) : EVN N Γ (tCB (fun xs H Q => ∃ p ys, xs = [.ref p] ∧ (SqL G.K H p ys ∨ SqT G.K H p ys) ∧ ∀ l, H l = none → Q (.ref l) (upd H l (.lst ys))) (tCons ta tNil)) (m >>= fun xs => .ok (xs : L α)) := fun σ F H hs Q q =>
  h σ F H hs _ (wp_mono (wp_bind.1 q) fun (xs : List α) q1 x F1 H1 hs1 e1 r1 => by
    have hd : Dq G.K F1 x (.tuple (xs.map enc)) := r1
    cases hd with
    | tup hq ha =>
      refine ⟨_, _, rfl, .inr (sqt_same hs1.w.fh hq), fun p hp => ?_⟩
      obtain ⟨hs2, n⟩ := hs_newlist (vs := _) hs1 hp
      exact q1 p _ _ _ hs2 e1 n upd_same ha)
theorem evn_listL {α : Type} [Enc α] {m : Prog (L α)} (h : EV N Γ ta m) : EVN N Γ (tCB (fun xs H Q => ∃ p ys, xs = [.ref p] ∧ (SqL G.K H p ys ∨ SqT G.K H p ys) ∧ ∀ l, H l = none → Q (.ref l) (upd H l (.lst ys))) (tCons ta tNil)) (m >>= fun xs => .ok xs) := fun σ F H hs Q q =>
  h σ F H hs _ (wp_mono (wp_bind.1 q) fun (xs : List α) q1 x F1 H1 hs1 e1 r1 => by
    have hd : Dq G.K F1 x (.list (xs.map enc)) := r1
    cases hd with
    | lst hq ha =>
      refine ⟨_, _, rfl, .inl (sql_same hs1.w.fh (.inl hq)), fun p hp => ?_⟩
      obtain ⟨hs2, n⟩ := hs_newlist (vs := _) hs1 hp
      exact q1 p _ _ _ hs2 e1 n upd_same ha)
/-! list + list, tuple + tuple, list * int -/
theorem evn_catL {α : Type} [Enc α] {m1 m2 : Prog (L α)} (h1 : EV N Γ ta m1) (h2 : EV N Γ tb m2) : EVN N Γ (tOp TyL.rCatL ta tb) (m1 >>= fun (xs : List α) => m2 >>= fun (ys : List α) => chk (small (xs.length + ys.length)) (.ok (xs ++ ys : L α))) := fun σ F H hs Q q =>
  h1 σ F H hs _ (wp_mono (wp_bind.1 q) fun (xs : List α) q1 x F1 H1 hs1 e1 r1 => h2 σ F1 H1 hs1 _ (wp_mono (wp_bind.1 q1) fun (ys : List α) q2 y F2 H2 hs2 e2 r2 => by
    obtain ⟨hl, q2⟩ := wp_chk q2
    have hd1 : Dq G.K F2 x (.list (xs.map enc)) := dp_same e2 _ _ r1
    have hd2 : Dq G.K F2 y (.list (ys.map enc)) := r2
    cases hd1 with
    | lst hq ha =>
      cases hd2 with
      | lst hq2 ha2 =>
        refine ⟨_, _, _, _, rfl, rfl, rd_same hs2.w.fh hq, rd_same hs2.w.fh hq2, by rw [dpAll_len ha, dpAll_len ha2]; exact small_le hl, fun p hp => ?_⟩
        obtain ⟨hs3, n⟩ := hs_newlist (vs := _) hs2 hp
        exact q2 p _ _ _ hs3 (Same.trans e1 e2) n upd_same (by rw [List.map_append]; exact dpAll_append ha ha2)))
theorem opv_catT {α : Type} [Enc α] : OPV (G := G) (α := List α) (β := List α) (γ := List α) (rCatA G.K) (fun xs ys => chk (small (xs.length + ys.length)) (.ok (xs ++ ys))) := fun N Γ σ F H x y xs ys hs ra rb Q q => by
  obtain ⟨hl, q⟩ := wp_chk q
  have hd1 : Dq G.K F x (.tuple (xs.map enc)) := ra
  have hd2 : Dq G.K F y (.tuple (ys.map enc)) := rb
  cases hd1 with
  | tup hq ha =>
    cases hd2 with
    | tup hq2 ha2 =>
      have l1 := dpAll_len ha
      have l2 := dpAll_len ha2
      refine ⟨_, _, _, _, rfl, rfl, sqt_same hs.w.fh hq, sqt_same hs.w.fh hq2, by rw [l1, l2]; exact small_le hl, fun e => ?_, fun n e => ?_, fun n1 n2 p hp => ?_⟩
      · have ex : xs = [] := by
          rw [e] at l1
          exact List.eq_nil_of_length_eq_zero l1.symm
        subst ex
        exact q _ F H hs (Same.refl F) (.tup hq2 ha2)
      · have ex : ys = [] := by
          rw [e] at l2
          exact List.eq_nil_of_length_eq_zero l2.symm
        subst ex
        refine q _ F H hs (Same.refl F) ?_
        show Dq G.K F _ (.tuple ((xs ++ []).map enc))
        rw [List.append_nil]
        exact .tup hq ha
      · obtain ⟨hs2, e2⟩ := hs.laid (o := .tup _) hp
        refine q _ _ _ hs2 e2 ?_
        show Dq G.K _ _ (.tuple ((xs ++ ys).map enc))
        rw [List.map_append]
        exact .tup (.inl (.inl upd_same)) (dpAll_same e2 _ _ (dpAll_append ha ha2))
def rep {α : Type} (xs : List α) (n : Int) : List α := (List.replicate n.toNat xs).flatten
theorem dpAll_rep {K : PySem.W.Frag} {F : Hp} {α : Type} [Enc α] {xs : List α} {vs : List V} (h : DqAll K F vs (xs.map enc)) : ∀ k : Nat, DqAll K F (List.replicate k vs).flatten ((List.replicate k xs).flatten.map enc)
  | 0 => .nil
  | k + 1 => by
    rw [List.replicate_succ, List.replicate_succ, List.flatten_cons, List.flatten_cons, List.map_append]
    exact dpAll_append h (dpAll_rep h k)
/-- [a] * n, the list made there -/
theorem evn_rep {α : Type} [Enc α] {m1 : Prog (L α)} {m2 : Prog Int} (h1 : EVN N Γ ta m1) (h2 : ∀ O, EV (N.wi N.E O) Γ tb m2) : EVN N Γ (tOp rRep ta tb) (m1 >>= fun (xs : List α) => m2 >>= fun n => chk (inRange n && small (xs.length * n.toNat)) (.ok (rep xs n : L α))) := fun σ F H hs Q q =>
  h1 σ F H hs _ (wp_mono (wp_bind.1 q) fun (xs : List α) q1 p vs F1 H1 hs1 e1 n1 hp d1 => by
    have hO : HS (N.wi N.E fun a => if a = p then some (.lst vs) else N.O a) Γ σ F1 H1 := hs1.wi fun a o x => by
      by_cases ha : a = p
      · subst ha
        rw [if_pos rfl] at x
        exact ⟨⟨hp.trans x, n1.mine.f⟩, n1.mine.s⟩
      · rw [if_neg ha] at x
        exact hs1.w.os a o x
    have hON : ∀ a o, N.O a = some o → (fun a => if a = p then some (HO.lst vs) else N.O a) a = some o := fun a o x => by
      have ne : a ≠ p := fun z => by rw [z, n1.no] at x; cases x
      show (if a = p then some (HO.lst vs) else N.O a) = some o
      rw [if_neg ne]
      exact x
    refine h2 _ σ F1 H1 hO _ (wp_imp (wp_bind.1 q1) (fun n q2 y F2 H2 hs2 e2 r2 => ?_) fun e h => ep_wi hON e h)
    obtain ⟨hl, q2⟩ := wp_chk q2
    obtain ⟨ha, hb⟩ := Bool.and_eq_true_iff.1 hl
    obtain ⟨b1, b2⟩ := inRange_ok ha
    have e3 : y = .int n := Scl.dp r2
    have hp2 : H2 p = some (.lst vs) := (hs2.w.os p _ (if_pos rfl)).1.1
    have hs3 : HS N Γ σ F2 H2 := hs2.unwi fun a o x => hs2.w.os a o (hON a o x)
    refine ⟨p, n, vs, rfl, e3, hp2, by omega, by omega, by rw [dpAll_len d1]; exact small_le hb, fun l hl => ?_⟩
    obtain ⟨hs4, n4⟩ := hs_newlist (vs := (List.replicate n.toNat vs).flatten) hs3 hl
    exact q2 l _ _ _ hs4 (Same.trans e1 e2) n4 upd_same (dpAll_rep (dpAll_same e2 _ _ d1) _))
/-! (*row, x) and the like: arguments with a star -/
theorem evl_star {α : Type} [Enc α] {m1 : Prog (List α)} {tr : TA} {m2 : Prog (List α)} (h1 : EV N Γ ta m1) (h2 : EVA N Γ tr m2 (fun xs vs F => DqAll G.K F vs (xs.map enc))) :
    EVA N Γ (StX.tStar G.K ta tr) (m1 >>= fun a => m2 >>= fun b => .ok (a ++ b)) (fun xs vs F => DqAll G.K F vs (xs.map enc)) := fun σ F H hs Q q =>
  h1 σ F H hs _ (wp_mono (wp_bind.1 q) fun a q1 x F1 H1 hs1 e1 r1 => by
    have hd : Dq G.K F1 x (.tuple (a.map enc)) := r1
    cases hd with
    | tup hq ha => exact ⟨_, _, rfl, .inl (sqt_same hs1.w.fh hq), h2 σ F1 H1 hs1 _ (wp_mono (wp_bind.1 q1) fun b q2 vs F2 H2 hs2 e2 r2 => q2 _ F2 H2 hs2 (Same.trans e1 e2) (by
      show DqAll G.K F2 _ ((a ++ b).map enc)
      rw [List.map_append]
      exact dpAll_append (dpAll_same e2 _ _ ha) r2))⟩)
theorem evl_starL {α : Type} [Enc α] {m1 : Prog (L α)} {tr : TA} {m2 : Prog (List α)} (h1 : EV N Γ ta m1) (h2 : EVA N Γ tr m2 (fun xs vs F => DqAll G.K F vs (xs.map enc))) :
    EVA N Γ (StX.tStar G.K ta tr) (m1 >>= fun (a : List α) => m2 >>= fun b => .ok (a ++ b)) (fun xs vs F => DqAll G.K F vs (xs.map enc)) := fun σ F H hs Q q =>
  h1 σ F H hs _ (wp_mono (wp_bind.1 q) fun (a : List α) q1 x F1 H1 hs1 e1 r1 => by
    have hd : Dq G.K F1 x (.list (a.map enc)) := r1
    cases hd with
    | lst hq ha => exact ⟨_, _, rfl, .inr (sql_same hs1.w.fh (.inl hq)), h2 σ F1 H1 hs1 _ (wp_mono (wp_bind.1 q1) fun b q2 vs F2 H2 hs2 e2 r2 => q2 _ F2 H2 hs2 (Same.trans e1 e2) (by
      show DqAll G.K F2 _ ((a ++ b).map enc)
      rw [List.map_append]
      exact dpAll_append (dpAll_same e2 _ _ ha) r2))⟩)
/-! int(..), max, min, str -/
theorem ev_intI {m : Prog Int} (h : EV N Γ ta m) : EV N Γ (tCB (fun xs H Q => (∃ i, xs = [.int i] ∧ Q (.int i) H) ∨ ∃ k, xs = [.bl k] ∧ Q (.int (if k then 1 else 0)) H) (tCons ta tNil)) m := fun σ F H hs Q q =>
  h σ F H hs _ (wp_mono q fun i q1 x F1 H1 hs1 e1 r1 => .inl ⟨i, by rw [Scl.dp (α := Int) r1]; rfl, q1 _ F1 H1 hs1 e1 (.int _)⟩)
theorem ev_intB {m : Prog Bool} (h : EV N Γ ta m) : EV N Γ (tCB (fun xs H Q => (∃ i, xs = [.int i] ∧ Q (.int i) H) ∨ ∃ k, xs = [.bl k] ∧ Q (.int (if k then 1 else 0)) H) (tCons ta tNil)) (m >>= fun b => .ok (if b then (1 : Int) else 0)) := fun σ F H hs Q q =>
  h σ F H hs _ (wp_mono (wp_bind.1 q) fun b q1 x F1 H1 hs1 e1 r1 => .inr ⟨b, by rw [Scl.dp (α := Bool) r1]; rfl, q1 _ F1 H1 hs1 e1 (.int _)⟩)
theorem ev_max2 {m1 m2 : Prog Int} (h1 : EV N Γ ta m1) (h2 : EV N Γ tb m2) : EV N Γ (tCB (fun xs H Q => ∃ i j, xs = [.int i, .int j] ∧ Q (.int (if j > i then j else i)) H) (tCons ta (tCons tb tNil))) (m1 >>= fun a => m2 >>= fun b => .ok (if b > a then b else a)) := fun σ F H hs Q q =>
  h1 σ F H hs _ (wp_mono (wp_bind.1 q) fun a q1 x F1 H1 hs1 e1 r1 => h2 σ F1 H1 hs1 _ (wp_mono (wp_bind.1 q1) fun b q2 y F2 H2 hs2 e2 r2 => ⟨a, b, by rw [Scl.dp (α := Int) r1, Scl.dp (α := Int) r2]; rfl, q2 _ F2 H2 hs2 (Same.trans e1 e2) (.int _)⟩))
theorem ev_min2 {m1 m2 : Prog Int} (h1 : EV N Γ ta m1) (h2 : EV N Γ tb m2) : EV N Γ (tCB (fun xs H Q => ∃ i j, xs = [.int i, .int j] ∧ Q (.int (if j < i then j else i)) H) (tCons ta (tCons tb tNil))) (m1 >>= fun a => m2 >>= fun b => .ok (if b < a then b else a)) := fun σ F H hs Q q =>
  h1 σ F H hs _ (wp_mono (wp_bind.1 q) fun a q1 x F1 H1 hs1 e1 r1 => h2 σ F1 H1 hs1 _ (wp_mono (wp_bind.1 q1) fun b q2 y F2 H2 hs2 e2 r2 => ⟨a, b, by rw [Scl.dp (α := Int) r1, Scl.dp (α := Int) r2]; rfl, q2 _ F2 H2 hs2 (Same.trans e1 e2) (.int _)⟩))
/-! enumerate -/
def enumT {α : Type} (xs : List α) : List (Int × α) := xs.zipIdx.map fun p => ((p.2 : Int), p.1)
theorem enumT_get {α : Type} (xs : List α) (i : Nat) : (enumT xs)[i]? = (xs[i]?).map fun a => ((i : Int), a) := by
  unfold enumT
  rw [List.getElem?_map, List.getElem?_zipIdx]
  cases xs[i]? with
  | none => rfl
  | some a => simp
theorem enumT_len {α : Type} (xs : List α) : (enumT xs).length = xs.length := by simp [enumT]
theorem evi_enumT {α : Type} [Enc α] {m : Prog (List α)} (h : EV N Γ te m) : EVI (α := Int × α) N Γ (TyL.iEnumT G.K (tCons te tNil)) (m >>= fun xs => .ok (enumT xs)) anyE := fun σ F H hs R q =>
  h σ F H hs _ (wp_mono (wp_bind.1 q) fun xs k x F1 H1 hs1 e1 r1 => by
    have hd : Dq G.K F1 x (.tuple (xs.map enc)) := r1
    cases hd with
    | tup hq ha =>
      refine ⟨_, _, rfl, sqt_same hs1.w.fh hq, k F1 H1 _ hs1 e1 fun Γ' _ => ⟨fun i σ F' H' hs' e' hi => ?_, fun i a σ F' H' x H2 hs' e' hx y => ?_, fun i σ F' H' hs' e' hi => ?_⟩⟩
      · rw [enumT_len] at hi
        obtain ⟨v, hv, _⟩ := dpAll_at ha (List.getElem?_eq_getElem hi)
        exact ⟨_, v, sqt_same (Same.trans e' hs'.w.fh) hq, hv⟩
      · rw [enumT_get] at hx
        cases hc : xs[i]? with
        | none => rw [hc] at hx; cases hx
        | some c =>
          rw [hc] at hx
          have hx' : ((i : Int), c) = a := Option.some.inj hx
          subst hx'
          obtain ⟨v, hv, d⟩ := dpAll_at ha hc
          obtain ⟨T, w, e1, e2, e3, y⟩ := y
          have e4 : w = v := Option.some.inj ((y _ (sqt_same (Same.trans e' hs'.w.fh) hq)).symm.trans hv)
          subst e1 e4
          have fT : F' T = none := Same.free hs'.w.fh e2
          exact .inr ⟨T, _, e2, e3, .tup (.inl (.inl upd_same)) (.cons (.int _) (.cons (dp_same (Same.trans e' (same_new fT)) _ _ d) .nil))⟩
      · rw [enumT_len] at hi
        exact ⟨_, sqt_same (Same.trans e' hs'.w.fh) hq, by rw [dpAll_len ha]; exact hi⟩)
/-! changes of owned lists -/
theorem sv_insert {α : Type} [Enc α] {i : Nat} {xs : List α} {m1 : Prog Int} {m2 : Prog α} {J : Aim ω} {k : Int → α → Prog ω} (hO : ∀ a, N.O a = none) (hi : Γ[i]? = some (.lst xs)) (h1 : EV N Γ ta m1) (h2 : EV N Γ tb m2) (hk : ∀ j a, SV N (Γ.set i (.lst (xs.take j.toNat ++ [a] ++ xs.drop j.toNat))) tz J (k j a)) :
    SV N Γ (tSeq (tDrop (tBM G.K "list" (fun x vs H Q => ∃ (l : Addr) (xs : List V) (i : Int) (y : V), x = .ref l ∧ vs = [.int i, y] ∧ H l = some (.lst xs) ∧ xs.length < sizeLine ∧ 0 ≤ i ∧ i < 2 ^ 63 ∧ Q .non (upd H l (.lst (xs.take i.toNat ++ [y] ++ xs.drop i.toNat)))) (tVar i) (tCons ta (tCons tb tNil)))) tz) J
      (m1 >>= fun j => m2 >>= fun a => chk (small xs.length && decide (0 ≤ j) && inRange j) (k j a)) := fun σ F H D hs q => by
  obtain ⟨p, vs, e0, m0, hp, d, hl⟩ := hs.lstAt hi
  refine ⟨.ref p, e0, .inl ⟨rfl, vs, .inl (.inl hp)⟩, h1 σ F H hs _ (wp_mono (wp_bind.1 q) fun j q1 w F1 H1 hs1 e1 r1 => h2 σ F1 H1 hs1 _ (wp_mono (wp_bind.1 q1) fun a q2 v F2 H2 hs2 e2 r2 => ?_))⟩
  obtain ⟨hz, q2⟩ := wp_chk q2
  obtain ⟨hz, hz3⟩ := Bool.and_eq_true_iff.1 hz
  obtain ⟨hz1, hz2⟩ := Bool.and_eq_true_iff.1 hz
  have hz2 := of_decide_eq_true hz2
  obtain ⟨b1, b2⟩ := inRange_ok hz3
  obtain ⟨p', vs', e0', m0', hp', d', _⟩ := hs2.lstAt hi
  rw [e0] at e0'
  cases e0'
  refine ⟨p, vs', j, v, rfl, by rw [Scl.dp (α := Int) r1]; rfl, hp', by rw [dpAll_len d']; exact small_lt hz1, hz2, by omega, ?_⟩
  refine hk j a σ F2 _ D (hs2.put hO hi e0 ?_) (wp_mono q2 fun o x => J.mono (Same.trans e1 e2) x)
  rw [List.map_append, List.map_append, List.map_take, List.map_drop]
  exact dpAll_append (dpAll_append (dpAll_take _ d') (.cons r2 .nil)) (dpAll_drop _ d')
theorem dpAll_erase {K : PySem.W.Frag} {F : Hp} : ∀ {ds : List PyData} {vs : List V} (n : Nat), DqAll K F vs ds → DqAll K F (vs.eraseIdx n) (ds.eraseIdx n)
  | [], _, n, h => by cases h; exact .nil
  | d :: ds, _, 0, h => by
    cases h with
    | cons h1 h2 => exact h2
  | d :: ds, _, n + 1, h => by
    cases h with
    | cons h1 h2 => exact .cons h1 (dpAll_erase n h2)
/-- xs.pop(i), its value dropped -/
theorem sv_popAtD {α : Type} [Enc α] {i : Nat} {xs : List α} {m1 : Prog Int} {J : Aim ω} {k : Int → Prog ω} (hO : ∀ a, N.O a = none) (hi : Γ[i]? = some (.lst xs)) (h1 : EV N Γ ta m1) (hk : ∀ j, SV N (Γ.set i (.lst (xs.eraseIdx j.toNat))) tz J (k j)) :
    SV N Γ (tSeq (tDrop (tBM G.K "list" rPopAt (tVar i) (tCons ta tNil))) tz) J (m1 >>= fun j => chk (decide (0 ≤ j) && decide (j < xs.length) && inRange j) (k j)) := fun σ F H D hs q => by
  obtain ⟨p, vs, e0, m0, hp, d, hl⟩ := hs.lstAt hi
  refine ⟨.ref p, e0, .inl ⟨rfl, vs, .inl (.inl hp)⟩, h1 σ F H hs _ (wp_mono (wp_bind.1 q) fun j q1 w F1 H1 hs1 e1 r1 => ?_)⟩
  obtain ⟨hz, q1⟩ := wp_chk q1
  obtain ⟨hz, hz3⟩ := Bool.and_eq_true_iff.1 hz
  obtain ⟨hz1, hz2⟩ := Bool.and_eq_true_iff.1 hz
  have hz1 := of_decide_eq_true hz1
  have hz2 := of_decide_eq_true hz2
  obtain ⟨b1, b2⟩ := inRange_ok hz3
  obtain ⟨p', vs', e0', m0', hp', d', _⟩ := hs1.lstAt hi
  rw [e0] at e0'
  cases e0'
  have hlt : j.toNat < vs'.length := by rw [dpAll_len d']; omega
  refine ⟨p, vs', j, j.toNat, vs'[j.toNat], rfl, by rw [Scl.dp (α := Int) r1]; rfl, hp', by omega, by omega, ?_, List.getElem?_eq_getElem hlt, ?_⟩
  · have hx : ixN vs'.length j = some j.toNat := by
      unfold ixN
      rw [if_pos hz1, if_pos (by omega)]
    exact (ixN_seq hx).1
  · refine hk j σ F1 _ D (hs1.put hO hi e0 ?_) (wp_mono q1 fun o x => J.mono e1 x)
    have e : ∀ (l : List α) (n : Nat), (l.eraseIdx n).map (enc : α → PyData) = (l.map enc).eraseIdx n := fun l => by
      induction l with
      | nil => intro n; rfl
      | cons a l ih =>
        intro n
        cases n with
        | zero => rfl
        | succ n => show enc a :: _ = enc a :: _; rw [ih n]
    rw [e]
    exact dpAll_erase _ d'
/-! x op= e -/
theorem sv_aug {i : Nat} {f : Int → Int → Int} {a : Int} {m : Prog Int} {J : Aim ω} {k : Int → Prog ω} (hi : Γ[i]? = some (@Ent.per G Int _ a)) (h : EV N Γ te m) (hk : ∀ b, SV N (Γ.set i (@Ent.per G Int _ (f a b))) tz J (k b)) :
    SV N Γ (tSeq (tAug i te (ipI f)) tz) J (m >>= k) := fun σ F H D hs q => by
  obtain ⟨o, e1, v, e2, r⟩ := hs.sl.get hi
  subst e2
  have ev : v = .int a := Scl.dp (α := Int) r
  subst ev
  refine ⟨_, e1, h σ F H hs _ (wp_mono (wp_bind.1 q) fun b q1 w F1 H1 hs1 e1 r1 => ⟨a, b, rfl, Scl.dp r1, ?_⟩)⟩
  exact hk b _ F1 H1 D (hs1.setPer (a := f a b) i (.int _)) (wp_mono q1 fun o x => J.mono e1 x)
/-- a name stored that is never asked again, or code that is not reached -/
theorem sv_never {J : Aim ω} {ts : TS} (e : ts = tNever) : SV N Γ ts J (.stuck : Prog ω) := fun σ F H D hs q => q.elim
end
end Ty

namespace Ty
open PySem PySem.Spec PyProof.Rows L2
open Enc (enc)
variable {G : Glob}
section
variable {α β γ δ ω : Type} [iα : Rp G α] {N : NN} {Γ Γ' : Env G} {te ta tb tc : TE} {tt tu : TT} {tz : TS}
/-! ### isinstance of data against a built-in class -/
def tyName : PyData → String
  | .none => "NoneType"
  | .bool _ => "bool"
  | .int _ => "int"
  | .str _ => "str"
  | .list _ => "list"
  | .tuple _ => "tuple"
  | .dict _ => "dict"
def isD (T : String) (d : PyData) : Bool := (L2.kitB (tyName d) T).getD false
/-- the class is one of those whose answers the kit knows -/
def Known (T : String) : Prop := ∀ n ∈ ["NoneType", "bool", "int", "str", "list", "tuple", "dict"], (L2.kitB n T).isSome = true
instance (T : String) : Decidable (Known T) := inferInstanceAs (Decidable (∀ n ∈ ["NoneType", "bool", "int", "str", "list", "tuple", "dict"], (L2.kitB n T).isSome = true))
theorem tyx_of {K : PySem.W.Frag} {H : Hp} {d : PyData} {v : V} (h : Dq K H v d) : L2.TyX K H v (.type (tyName d)) := by
  cases h with
  | non => exact .base .non
  | bl b => exact .base (.bl b)
  | int i => exact .base (.int i)
  | str x => exact .base (.str x)
  | lst hq ha =>
    rcases hq with hq | ⟨o, hq⟩
    · exact .base (.lst hq)
    · exact .base (.frz hq)
  | tup hq ha =>
    rcases hq with (hq | ⟨o, hq⟩) | ⟨o, its, n, hk, hc, _⟩
    · exact .base (.tup hq)
    · exact .fTuple hq
    · exact .kTuple hk hc
theorem isD_some {T : String} (k : Known T) (d : PyData) : L2.kitB (tyName d) T = some (isD T d) := by
  have h : (L2.kitB (tyName d) T).isSome = true := k _ (by cases d <;> simp [tyName])
  unfold isD
  cases e : L2.kitB (tyName d) T with
  | none => rw [e] at h; cases h
  | some b => rfl
theorem ev_isi {α : Type} [Enc α] {T : String} (k : Known T) {m : Prog α} (h : EV N Γ ta m) : EV N Γ (tCB (L2.rIsi G.K) (tCons ta (tCons (tC (.ty T)) tNil))) (m >>= fun a => .ok (isD T (enc a))) := fun σ F H hs Q q =>
  h σ F H hs _ (wp_mono (wp_bind.1 q) fun a q1 x F1 H1 hs1 e1 r1 => ⟨x, .ty T, _, _, isD T (enc a), rfl, .ty T, tyx_of (dp_same hs1.w.fh _ _ r1), L2.kit_ty (isD_some k _), q1 _ F1 H1 hs1 e1 (.bl _)⟩)
/-! ### code.many, code.parts -/
structure CodeFacts (G : Glob) : Prop where
  sc : SlX.SCls G.K G.code
  many : ∃ p, SlX.Slot1 G.K G.code "many" p 0
  parts : ∃ p, SlX.Slot1 G.K G.code "parts" p 1
theorem slt_same {F F' : Hp} {a C dx : Addr} {vs : List (Option V)} (e : Same F F') (h : SlX.Slt F a C dx vs) : SlX.Slt F' a C dx vs := by
  rcases h with ⟨h1, h2⟩ | ⟨h1, h2⟩
  · exact .inl ⟨e _ _ h1, h2⟩
  · exact .inr ⟨e _ _ h1, e _ _ h2⟩
theorem ev_many (cf : CodeFacts G) {m : Prog CodeV} (h : EV N Γ ta m) : EV N Γ (SlX.tSl G.K ta "many") (m >>= fun c => .ok c.many) := fun σ F H hs Q q =>
  h σ F H hs _ (wp_mono (wp_bind.1 q) fun c q1 x F1 H1 hs1 e1 r1 => by
    obtain ⟨a, dx, y, e, s, d⟩ := r1
    obtain ⟨p, sl⟩ := cf.many
    exact ⟨a, G.code, dx, p, _, 0, _, e, slt_same hs1.w.fh s, cf.sc, sl, rfl, q1 _ F1 H1 hs1 e1 (.int _)⟩)
theorem ev_parts (cf : CodeFacts G) {m : Prog CodeV} (h : EV N Γ ta m) : EV N Γ (SlX.tSl G.K ta "parts") (m >>= fun c => .ok c.parts) := fun σ F H hs Q q =>
  h σ F H hs _ (wp_mono (wp_bind.1 q) fun c q1 x F1 H1 hs1 e1 r1 => by
    obtain ⟨a, dx, y, e, s, d⟩ := r1
    obtain ⟨p, sl⟩ := cf.parts
    exact ⟨a, G.code, dx, p, _, 1, _, e, slt_same hs1.w.fh s, cf.sc, sl, rfl, q1 _ F1 H1 hs1 e1 d⟩)
end
section
variable {α β γ δ ω ρ : Type} [iα : Rp G α] {N : NN} {Γ Γ' : Env G} {te ta tb tc : TE} {tt tu : TT} {tz ts : TS}
theorem sv_retO {α : Type} [Enc α] {i : Nat} {xs : List α} (hi : Γ[i]? = some (.lst xs)) : SV N Γ (tSeq (tRet (tVar i)) tz) (JRN G N) (.ok (xs : L α)) := fun σ F H D hs q => by
  obtain ⟨p, vs, e0, m0, hp, d, hl⟩ := hs.lstAt hi
  exact ⟨.ref p, e0, q p vs F H hs.w m0 m0.h0 hp d⟩
theorem sv_retOF {α β : Type} [Enc α] {i : Nat} {xs : List α} {Jn : Aim β} (hi : Γ[i]? = some (.lst xs)) : SV N Γ (tSeq (tRet (tVar i)) tz) (JF Jn (JRN G N)) (.ok (.rt (xs : L α))) := fun σ F H D hs q => by
  obtain ⟨p, vs, e0, m0, hp, d, hl⟩ := hs.lstAt hi
  exact ⟨.ref p, e0, q p vs F H hs.w m0 m0.h0 hp d⟩
theorem sv_ifnever {J : Aim ω} {m0 : Prog Bool} {m2 : Prog ω} (h0 : TV N Γ tt m0) (h2 : SV N Γ tz J m2) : SV N Γ (tSeq (tIfS tt tNever tNext) tz) J (m0 >>= fun c => if c then .stuck else m2) := fun σ F H D hs q =>
  h0 σ F H hs _ (wp_mono (wp_bind.1 q) fun b k F' H' hs' e => by
    cases b with
    | true => exact k.elim
    | false => exact h2 σ F' H' D hs' (wp_mono k fun o x => J.mono e x))
theorem wk_n : Wk ([] : Env G) [] := trivial
theorem wk_s {e : Ent G} (h : Wk Γ Γ') : Wk (e :: Γ) (e :: Γ') := ⟨.inr rfl, h⟩
theorem wk_d {e : Ent G} (h : Wk Γ Γ') : Wk (e :: Γ) (.dead :: Γ') := ⟨.inl rfl, h⟩
theorem own_n : ∀ e ∈ ([] : Env G), e.own = false := fun e h => by cases h
theorem own_c {e : Ent G} (h : e.own = false) (k : ∀ e ∈ Γ, e.own = false) : ∀ e' ∈ e :: Γ, e'.own = false := fun e' x => by
  cases x with
  | head => exact h
  | tail _ y => exact k e' y
theorem no_own1 {i : Nat} {e : Ent G} (h : Γ[i]? = some e) (o : e.own = false) : notOwn Γ [i] := fun j hj e' h' => by
  cases hj with
  | head => rw [h] at h'; cases h'; exact o
  | tail _ y => cases y
theorem no_own2 {i j : Nat} {e e2 : Ent G} (h : Γ[i]? = some e) (o : e.own = false) (h2 : Γ[j]? = some e2) (o2 : e2.own = false) : notOwn Γ [i, j] := fun k hk e' h' => by
  cases hk with
  | head => rw [h] at h'; cases h'; exact o
  | tail _ y =>
    cases y with
    | head => rw [h2] at h'; cases h'; exact o2
    | tail _ z => cases z
theorem hO_of (F H : Hp) (E : XK) : ∀ a, (NN.of F H E).O a = none := fun _ => rfl
theorem hO_src (F H : Hp) (p c : Addr) (E : XK) : ∀ a, (NN.src F H p c E).O a = none := fun _ => rfl
end
/-! ### any value, taken as what it is -/
def asTx : PyData → Prog Tx
  | .str x => .ok x.cps.toList
  | _ => .stuck
def asInt : PyData → Prog Int
  | .int x => .ok x
  | _ => .stuck
def asTup : PyData → Prog (List PyData)
  | .tuple xs => .ok xs
  | _ => .stuck
section
variable {N : NN} {Γ : Env G} {te : TE}
theorem ev_asTx {m : Prog PyData} (h : EV N Γ te m) : EV N Γ te (m >>= asTx) := fun σ F H hs Q q =>
  h σ F H hs _ (wp_mono (wp_bind.1 q) fun d q1 x F1 H1 hs1 e1 r1 => by
    cases d with
    | str y => exact q1 x F1 H1 hs1 e1 r1
    | _ => exact q1.elim)
theorem ev_asInt {m : Prog PyData} (h : EV N Γ te m) : EV N Γ te (m >>= asInt) := fun σ F H hs Q q =>
  h σ F H hs _ (wp_mono (wp_bind.1 q) fun d q1 x F1 H1 hs1 e1 r1 => by
    cases d with
    | int y => exact q1 x F1 H1 hs1 e1 r1
    | _ => exact q1.elim)
theorem ev_asTup {m : Prog PyData} (h : EV N Γ te m) : EV N Γ te (m >>= asTup) := fun σ F H hs Q q =>
  h σ F H hs _ (wp_mono (wp_bind.1 q) fun d q1 x F1 H1 hs1 e1 r1 => by
    cases d with
    | tuple ys =>
      refine q1 x F1 H1 hs1 e1 ?_
      show Dq G.K F1 x (.tuple (ys.map enc))
      have e : ys.map (enc : PyData → PyData) = ys := List.map_id _
      rw [e]
      exact r1
    | _ => exact q1.elim)
end
/-! ### the text's defs, by name -/
structure Df (K : PySem.W.Frag) (mg : Str → Option Value) (x qual : Str) (st : Stmt) (ps : List Str) where
  f : Addr
  fd : FuncData
  Fu : Fun K x qual st f fd
  b : Binds K fd ps []
  g : mg x = some (.ref f)
end Ty

namespace Ty
open PySem PySem.Spec PyProof.Rows L2
open Enc (enc)
variable {G : Glob}
/-! ### instances that a def owns -/
section
variable {N : NN} {Γ : Env G} {σ : L2.St} {F H : Hp} {i : Nat} {C : Addr} {fs : List (Fld G)} {w : Option Addr}
theorem HS.insAt (hs : HS N Γ σ F H) (hi : Γ[i]? = some (.ins C fs w)) : ∃ p dx us, σ[i]? = some (some (.ref p)) ∧ MineI N F p ∧ H p = some (.ins C dx us) ∧ FlR F fs us ∧ (∀ q, w = some q → q = p) ∧ Held Γ σ p := by
  obtain ⟨o, e0, p, dx, us, e1, m, hp, d, hw⟩ := hs.sl.get hi
  subst e1
  exact ⟨p, dx, us, e0, m, hp, d, hw, i, _, hi, rfl, e0⟩
theorem HS.dead (hs : HS N Γ σ F H) (i : Nat) : HS N (Γ.set i .dead) σ F H := by
  have sub : ∀ {j : Nat} {e : Ent G}, (Γ.set i .dead)[j]? = some e → e = .dead ∨ (j ≠ i ∧ Γ[j]? = some e) := fun {j e} h => by
    by_cases hj : j = i
    · subst hj
      rw [List.getElem?_set] at h
      split at h
      · split at h
        · cases h; exact .inl rfl
        · cases h
      · exact absurd rfl ‹_›
    · rw [List.getElem?_set_ne (Ne.symm hj)] at h; exact .inr ⟨hj, h⟩
  refine ⟨hs.w, Slots.of (by rw [List.length_set]; exact hs.sl.len) fun j e o h1 h2 => ?_, fun j k e e' p h1 h2 o1 o2 s1 s2 => ?_⟩
  · rcases sub h1 with z | ⟨_, z⟩
    · subst z; trivial
    · obtain ⟨o', e1, s⟩ := hs.sl.get z
      rw [h2] at e1; cases e1; exact s
  · rcases sub h1 with z | ⟨_, z⟩
    · subst z; cases o1
    · rcases sub h2 with z' | ⟨_, z'⟩
      · subst z'; cases o2
      · exact hs.ds j k e e' p z z' o1 o2 s1 s2
theorem HS.notHeld {e : Ent G} {p : Addr} (hs : HS N Γ σ F H) (hi : Γ[i]? = some e) (he : e.own = true) (e0 : σ[i]? = some (some (.ref p))) : ¬ Held (Γ.set i .dead) σ p := fun ⟨j, e', h1, o1, s1⟩ => by
  by_cases hj : j = i
  · subst hj
    rw [List.getElem?_set_self (List.getElem?_eq_some_iff.1 hi).1] at h1
    cases h1; cases o1
  · rw [List.getElem?_set_ne (Ne.symm hj)] at h1
    exact hj (hs.ds j i _ _ p h1 hi o1 he s1 e0)
theorem HS.writeO {p : Addr} {u : HO} (hs : HS N Γ σ F H) (no : N.O p = none) (m : MineI N F p) (nh : ¬ Held Γ σ p) : HS N Γ σ F (upd H p u) := by
  refine hs.move ⟨fun a u e => ?_, hs.w.f0, hs.w.nw, fun a u nb e => ?_, fun a e => ?_, fun q c e => ?_, hs.w.sb, fun a u e => ?_⟩ (Same.refl F) (fun q u hl e => ?_) fun q hl => (hs.held hl).1.f
  · rw [upd_ne (ne_of_none e m.f)]; exact hs.w.fh a u e
  · have : a ≠ p := fun z => by
      subst z
      rcases m.h0 with x | x
      · rw [x] at e; cases e
      · exact nb x
    rw [upd_ne this]; exact hs.w.kp a u nb e
  · by_cases ha : a = p
    · subst ha; rw [upd_same] at e; cases e
    · rw [upd_ne ha] at e; exact hs.w.dm a e
  · have s := hs.w.sr q c e
    obtain ⟨st, ix, cs, h1, h2, r⟩ := s.at_
    have x := m.s q c e
    exact ⟨s.fp, s.fc, s.ne, st, ix, cs, by rw [upd_ne (Ne.symm x.1)]; exact h1, by rw [upd_ne (Ne.symm x.2)]; exact h2, r⟩
  · have x := hs.w.os a u e
    have ne : a ≠ p := fun z => by rw [z, no] at e; cases e
    exact ⟨⟨by rw [upd_ne ne]; exact x.1.1, x.1.2⟩, x.2⟩
  · have : q ≠ p := fun z => nh (z ▸ hl)
    rw [upd_ne this]; exact e
theorem HS.write {p : Addr} {u : HO} (hs : HS N Γ σ F H) (hO : ∀ a, N.O a = none) (m : MineI N F p) (nh : ¬ Held Γ σ p) : HS N Γ σ F (upd H p u) := hs.writeO (hO p) m nh
theorem HS.own {p : Addr} {e : Ent G} (hs : HS N Γ σ F H) (i : Nat) (nh : ¬ Held Γ σ p) (s : Sl N F H e (some (.ref p))) : HS N (Γ.set i e) (σ.set i (some (.ref p))) F H := by
  refine ⟨hs.w, hs.sl.set i s, fun j k e1 e2 q h1 h2 o1 o2 s1 s2 => ?_⟩
  have at_ : ∀ {j : Nat} {e1 : Ent G}, (Γ.set i e)[j]? = some e1 → e1.own = true → (σ.set i (some (.ref p)))[j]? = some (some (.ref q)) → (j = i ∧ q = p) ∨ (j ≠ i ∧ Γ[j]? = some e1 ∧ σ[j]? = some (some (.ref q)) ∧ q ≠ p) := fun {j e1} h o s => by
    by_cases hj : j = i
    · subst hj
      rw [List.getElem?_set] at s
      split at s
      · split at s
        · cases s; exact .inl ⟨rfl, rfl⟩
        · cases s
      · exact absurd rfl ‹_›
    · rw [List.getElem?_set_ne (Ne.symm hj)] at h s
      exact .inr ⟨hj, h, s, fun z => nh ⟨j, e1, h, o, z ▸ s⟩⟩
  rcases at_ h1 o1 s1 with ⟨a1, b1⟩ | ⟨a1, b1, c1, d1⟩
  · rcases at_ h2 o2 s2 with ⟨a2, b2⟩ | ⟨a2, b2, c2, d2⟩
    · rw [a1, a2]
    · exact absurd b1 d2
  · rcases at_ h2 o2 s2 with ⟨a2, b2⟩ | ⟨a2, b2, c2, d2⟩
    · exact absurd b2 d1
    · exact hs.ds j k e1 e2 q b1 b2 o1 o2 c1 c2
theorem set_id {p : Option V} (hp : σ[i]? = some p) : σ.set i p = σ := by
  obtain ⟨h1, h2⟩ := List.getElem?_eq_some_iff.1 hp
  apply List.ext_getElem?
  intro k
  by_cases hk : k = i
  · subst hk; rw [List.getElem?_set_self h1, hp]
  · rw [List.getElem?_set_ne (Ne.symm hk)]
theorem HS.putI {p : Addr} {fs' : List (Fld G)} {dx : Addr} {us : List (Str × V)} (hs : HS N Γ σ F H) (hO : ∀ a, N.O a = none) (hi : Γ[i]? = some (.ins C fs w)) (hp : σ[i]? = some (some (.ref p))) (d : FlR F fs' us) :
    HS N (Γ.set i (.ins C fs' w)) σ F (upd H p (.ins C dx us)) := by
  obtain ⟨p', dx', us', e0, m, h0, _, hw, hl⟩ := hs.insAt hi
  rw [hp] at e0
  cases e0
  have h1 := ((hs.dead i).write (u := .ins C dx us) hO m (hs.notHeld hi rfl hp)).own (e := .ins C fs' w) i (hs.notHeld hi rfl hp) ⟨p, dx, us, rfl, m, upd_same, d, hw⟩
  rw [List.set_set, set_id hp] at h1
  exact h1
end
theorem flR_get {F : Hp} {n : Str} : ∀ {fs : List (Fld G)} {us : List (Str × V)}, FlR F fs us → ∀ {f : Fld G}, fs.find? (fun f => n == f.n) = some f → ∃ v, us.lookup n = some v ∧ f.i.rp f.a v F
  | [], [], _, f, h => by simp at h
  | [], _ :: _, h, _, _ => h.elim
  | _ :: _, [], h, _, _ => h.elim
  | g :: fs, (k, v) :: us, h, f, hf => by
    obtain ⟨e1, r, h2⟩ := h
    have e1 : g.n = k := e1
    subst e1
    rw [List.find?_cons] at hf
    rw [List.lookup_cons]
    cases hb : (n == g.n) with
    | true =>
      rw [hb] at hf
      cases hf
      exact ⟨v, rfl, r⟩
    | false =>
      rw [hb] at hf
      exact flR_get h2 hf
theorem flR_none {F : Hp} {n : Str} : ∀ {fs : List (Fld G)} {us : List (Str × V)}, FlR F fs us → fs.find? (fun f => n == f.n) = none → us.lookup n = none
  | [], [], _, _ => rfl
  | [], _ :: _, h, _ => h.elim
  | _ :: _, [], h, _ => h.elim
  | g :: fs, (k, v) :: us, h, hf => by
    obtain ⟨e1, r, h2⟩ := h
    have e1 : g.n = k := e1
    subst e1
    rw [List.find?_cons] at hf
    rw [List.lookup_cons]
    cases hb : (n == g.n) with
    | true => rw [hb] at hf; cases hf
    | false =>
      rw [hb] at hf
      exact flR_none h2 hf
def putFl (f : Fld G) : List (Fld G) → List (Fld G)
  | [] => [f]
  | g :: r => if g.n = f.n then f :: r else g :: putFl f r
theorem flR_put {F : Hp} {f : Fld G} {v : V} (r : f.i.rp f.a v F) : ∀ {fs : List (Fld G)} {us : List (Str × V)}, FlR F fs us → FlR F (putFl f fs) (putF f.n v us)
  | [], [], _ => ⟨rfl, r, trivial⟩
  | [], _ :: _, h => h.elim
  | _ :: _, [], h => h.elim
  | g :: fs, (k, x) :: us, h => by
    obtain ⟨e1, r1, h2⟩ := h
    have e1 : g.n = k := e1
    subst e1
    unfold putFl putF
    by_cases hk : g.n = f.n
    · rw [if_pos hk, if_pos hk]; exact ⟨hk.symm, r, h2⟩
    · rw [if_neg hk, if_neg hk]; exact ⟨rfl, r1, flR_put r h2⟩
theorem flR_len {F : Hp} : ∀ {fs : List (Fld G)} {us : List (Str × V)}, FlR F fs us → us.length = fs.length
  | [], [], _ => rfl
  | [], _ :: _, h => h.elim
  | _ :: _, [], h => h.elim
  | _ :: _, _ :: _, h => congrArg (· + 1) (flR_len h.2.2)
section
variable {α β γ ω ρ τ : Type} [iα : Rp G α] [iβ : Rp G β] [iρ : Rp G ρ] {N : NN} {Γ Γ' : Env G} {te ta tb : TE} {t : TA} {tt tu : TT} {tz ts : TS}
variable {i : Nat} {C : Addr} {fs : List (Fld G)} {w : Option Addr} {n : Str}
theorem ev_fld {a : α} {n' : Str} (hi : Γ[i]? = some (.ins C fs w)) (hf : fs.find? (fun f => n == f.n) = some (Fld.mk (i := iα) n' a)) (c : Cls G.K C) (na : NoAttr G.K C n) : EV N Γ (tFld G.K (tVar i) n) (.ok a) := fun σ F H hs Q q => by
  obtain ⟨p, dx, us, e0, m, hp, d, _⟩ := hs.insAt hi
  obtain ⟨v, hv, r⟩ := flR_get d hf
  exact ⟨.ref p, e0, p, C, dx, us, v, rfl, hp, c, na, hv, q v F H hs (Same.refl F) r⟩
theorem sv_fld {m : Prog α} {J : Aim ω} {k : α → Prog ω} (hO : ∀ a, N.O a = none) (hi : Γ[i]? = some (.ins C fs w)) (c : Cls G.K C) (na : NoAttr G.K C n) (hz : fs.length < 1000) (h : EV N Γ te m)
    (hk : ∀ a, SV N (Γ.set i (.ins C (putFl (Fld.mk (i := iα) n a) fs) w)) tz J (k a)) : SV N Γ (tSeq (sFld G.K (tVar i) te n) tz) J (m >>= k) := fun σ F H D hs q =>
  h σ F H hs _ (wp_mono (wp_bind.1 q) fun a q1 v F1 H1 hs1 e1 r1 => by
    obtain ⟨p, dx, us, e0, m, hp, d, _⟩ := hs1.insAt hi
    refine ⟨.ref p, e0, p, C, dx, us, rfl, hp, c, na, by rw [flR_len d]; exact hz, ?_⟩
    exact hk a σ F1 _ D (hs1.putI hO hi e0 (flR_put (f := Fld.mk (i := iα) n a) r1 d)) (wp_mono q1 fun o x => J.mono e1 x))
theorem sv_fldaug {a : Int} {n' : Str} {m : Prog Int} {J : Aim ω} {k : Int → Prog ω} (hO : ∀ a, N.O a = none) (hi : Γ[i]? = some (.ins C fs w)) (hf : fs.find? (fun f => n == f.n) = some (Fld.mk (i := (rpEnc : Rp G Int)) n' a)) (c : Cls G.K C) (na : NoAttr G.K C n) (hz : fs.length < 1000) (h : EV N Γ te m)
    (hk : ∀ b, SV N (Γ.set i (.ins C (putFl (Fld.mk (i := (rpEnc : Rp G Int)) n (a + b)) fs) w)) tz J (k b)) : SV N Γ (tSeq (sFldAug G.K (tVar i) te rAdd n) tz) J (m >>= k) := fun σ F H D hs q => by
  obtain ⟨p, dx, us, e0, m0, hp, d, _⟩ := hs.insAt hi
  obtain ⟨v, hv, r⟩ := flR_get d hf
  refine ⟨.ref p, e0, p, C, dx, us, v, rfl, hp, c, na, hv, h σ F H hs _ (wp_mono (wp_bind.1 q) fun b q1 y F1 H1 hs1 e1 r1 => ?_)⟩
  obtain ⟨p', dx', us', e0', m', hp', d', _⟩ := hs1.insAt hi
  rw [e0] at e0'
  cases e0'
  refine ⟨a, b, Scl.dp (α := Int) r, Scl.dp (α := Int) r1, dx', us', hp', by rw [flR_len d']; exact hz, ?_⟩
  exact hk b σ F1 _ D (hs1.putI hO hi e0 (flR_put (f := Fld.mk (i := (rpEnc : Rp G Int)) n (a + b)) (Dq.int (a + b)) d')) (wp_mono q1 fun o x => J.mono e1 x)
/-! calls that change an owned instance -/
def NN.slf (F H : Hp) (p : Addr) (E : XK) : NN := ⟨F, H, fun a => a = p, none, E, fun _ => none⟩
def SpI (G : Glob) {ρ τ R0 R : Type} [Rp G ρ] (C : Addr) (fl0 : R0 → List (Fld G)) (fl : R → List (Fld G)) (ra : τ → List V → Hp → Prop) (f : R0 → τ → Prog (ρ × R)) : Sp := fun vs H Q E => ∃ a us F dx fs r x, vs = .ref a :: us ∧ F a = none ∧ H a = some (.ins C dx fs) ∧ FlR F (fl0 r) fs ∧ Same F H ∧ ra x us F ∧
  wp (f r x) (fun q => ∀ v F' H' dx' fs', W (.slf F H a E) F' H' → Rp.rp (G := G) q.1 v F' → F' a = none → H' a = some (.ins C dx' fs') → FlR F' (fl q.2) fs' → Q v H') (EP G (.slf F H a E))
/-- an expression that changes what the frame owns -/
def EVX {ξ : Type} (N : NN) (Γ : Env G) (te : TE) (m : Prog (α × ξ)) (Γx : ξ → Env G) : Prop := ∀ σ F H, HS N Γ σ F H → ∀ Q : VK, wp m (fun x => ∀ v F' H', HS N (Γx x.2) σ F' H' → Same F F' → iα.rp x.1 v F' → Q v H') (EP G N) → te σ H Q
theorem W.slf {σ : L2.St} {F H F' H' : Hp} {p : Addr} {E : XK} (hs : HS N Γ σ F H) (hO : ∀ a, N.O a = none) (m : MineI N F p) (w : W (.slf F H p E) F' H') : W N F' H' := by
  have kp : ∀ a o, a ≠ p → H a = some o → H' a = some o := fun a o n h => w.kp a o n h
  refine ⟨w.fh, Same.trans hs.w.f0 w.f0, fun a u z => ?_, fun a u nb h0 => ?_, fun a z => hs.w.dm a (w.dm a z), fun q c z => ?_, hs.w.sb, fun a u z => by rw [hO] at z; cases z⟩
  · rcases w.nw a u z with x | x
    · exact hs.w.nw a u x
    · exact .inr (hs.w.dm a x)
  · refine kp a u (fun z => ?_) (hs.w.kp a u nb h0)
    subst z
    rcases m.h0 with x | x
    · rw [x] at h0; cases h0
    · exact nb x
  · have s := hs.w.sr q c z
    obtain ⟨st, ix, cs, h1, h2, r⟩ := s.at_
    have x := m.s q c z
    have fr : ∀ q o, F q = none → H q = some o → F' q = none := fun q o f h => by
      cases z : F' q with
      | none => rfl
      | some u =>
        rcases w.nw q u z with x | x
        · rw [show F q = some u from x] at f; cases f
        · rw [show H q = none from x] at h; cases h
    exact ⟨fr q _ s.fp h1, fr c _ s.fc h2, s.ne, st, ix, cs, kp q _ (Ne.symm x.1) h1, kp c _ (Ne.symm x.2) h2, r⟩
/-- behind a call that changed the object at p -/
theorem HS.callI {σ : L2.St} {F H F' H' : Hp} {p : Addr} {u u' : HO} {E : XK} (hs : HS N Γ σ F H) (hO : ∀ a, N.O a = none) (m : MineI N F p) (hp : H p = some u) (nh : ¬ Held Γ σ p) (w : W (.slf F H p E) F' H') (fp : F' p = none) (hp' : H' p = some u') : HS N Γ σ F' H' ∧ Same F F' ∧ MineI N F' p := by
  have w2 : W (.of F H E) F' (upd H' p u) := by
    refine ⟨fun a o e => ?_, w.f0, w.nw, fun a o _ e => ?_, fun a e => ?_, fun q c e => (nomatch e), fun q c e => (nomatch e), fun a o e => (nomatch e)⟩
    · rw [upd_ne (ne_of_none e fp)]; exact w.fh a o e
    · by_cases ha : a = p
      · subst ha; rw [upd_same]; exact hp.symm.trans e
      · rw [upd_ne ha]; exact w.kp a o ha e
    · by_cases ha : a = p
      · subst ha; rw [upd_same] at e; cases e
      · rw [upd_ne ha] at e; exact w.dm a e
  obtain ⟨h1, e1⟩ := hs.call noB w2
  have h2 := h1.write (u := u') hO ⟨fp, m.h0, m.s⟩ nh
  have e2 : upd (upd H' p u) p u' = H' := by
    funext a
    by_cases ha : a = p
    · subst ha; rw [upd_same, hp']
    · rw [upd_ne ha, upd_ne ha]
  rw [e2] at h2
  exact ⟨h2, e1, fp, m.h0, m.s⟩
theorem ep_slf {σ : L2.St} {F1 H1 : Hp} {p : Addr} (hs : HS N Γ σ F1 H1) (hO : ∀ a, N.O a = none) (m : MineI N F1 p) (e : Exc) (h : EP G N e) : EP G (.slf F1 H1 p N.E) e := fun F' H' C d w r => h F' H' C d (W.slf hs hO m w) r
theorem evx_meth {R : Type} {fl : R → List (Fld G)} {ra : τ → List V → Hp → Prop} {f : R → τ → Prog (ρ × R)} {m : Prog τ} {r : R} {mn : Str} (hO : ∀ a, N.O a = none) (hi : Γ[i]? = some (.ins C (fl r) w)) (hm : (fl r).find? (fun f => mn == f.n) = none) (h : EVA N Γ t m ra) :
    EVX N Γ (tMeth C mn (SpI G C fl fl ra f) [] N.E (tVar i) t) (m >>= fun x => f r x) (fun r' => Γ.set i (.ins C (fl r') w)) := fun σ F H hs Q q => by
  obtain ⟨p, dx, us, e0, m0, hp, d, hw, _⟩ := hs.insAt hi
  refine ⟨.ref p, e0, p, dx, us, rfl, hp, flR_none d hm, h σ F H hs _ (wp_mono (wp_bind.1 q) fun x q1 vs F1 H1 hs1 e1 r1 => ?_)⟩
  obtain ⟨p', dx', us', e0', m1, hp1, d1, hw1, _⟩ := hs1.insAt hi
  rw [e0] at e0'
  cases e0'
  refine ⟨p, vs, F1, dx', us', r, x, by rw [List.append_nil], m1.f, hp1, d1, hs1.w.fh, r1, wp_imp q1 (fun r' k v F' H' dx2 us2 w2 rr fp hp2 d2 => ?_) fun e he => ep_slf hs1 hO m1 e he⟩
  obtain ⟨h2, e2, m2⟩ := (hs1.dead i).callI hO m1 hp1 (hs1.notHeld hi rfl e0) w2 fp hp2
  have h3 := h2.own (e := .ins C (fl r'.2) w) i (hs1.notHeld hi rfl e0) ⟨p, dx2, us2, rfl, m2, hp2, d2, hw⟩
  rw [List.set_set, set_id e0] at h3
  exact k v F' H' h3 (Same.trans e1 e2) rr
theorem sv_dropX {ξ : Type} {m : Prog (α × ξ)} {Γx : ξ → Env G} {J : Aim ω} {k : α × ξ → Prog ω} (h : EVX N Γ te m Γx) (hk : ∀ y, SV N (Γx y.2) tz J (k y)) : SV N Γ (tSeq (tDrop te) tz) J (m >>= k) := fun σ F H D hs q =>
  h σ F H hs _ (wp_mono (wp_bind.1 q) fun a q1 v F1 H1 hs1 e1 r1 => hk a _ F1 H1 D hs1 (wp_mono q1 fun o x => J.mono e1 x))
theorem sv_asgX {ξ : Type} {j : Nat} {m : Prog (α × ξ)} {Γx : ξ → Env G} {J : Aim ω} {k : α × ξ → Prog ω} (h : EVX N Γ te m Γx) (hk : ∀ y, SV N ((Γx y.2).set j (.per y.1)) tz J (k y)) : SV N Γ (tSeq (tAsg te (gName j)) tz) J (m >>= k) := fun σ F H D hs q =>
  h σ F H hs _ (wp_mono (wp_bind.1 q) fun a q1 v F1 H1 hs1 e1 r1 => hk a _ F1 H1 D (hs1.setPer j r1) (wp_mono q1 fun o x => J.mono e1 x))
/-! the defs of such a class -/
def JRI (G : Glob) {ρ R : Type} [Rp G ρ] (N : NN) (a C : Addr) (fl : R → List (Fld G)) : Aim (ρ × R) := ⟨fun _ r D => ∀ v F' H' dx us, W N F' H' → Rp.rp (G := G) r.1 v F' → F' a = none → H' a = some (.ins C dx us) → FlR F' (fl r.2) us → D.rt v H', fun _ h => h⟩
def JVI (G : Glob) {R : Type} (N : NN) (a C : Addr) (fl : R → List (Fld G)) : Aim (Unit × R) := ⟨fun _ r D => ∀ F' H' dx us, W N F' H' → F' a = none → H' a = some (.ins C dx us) → FlR F' (fl r.2) us → D.rt .non H' ∧ ∀ σ', D.nx σ' H', fun _ h => h⟩
theorem jri_ret {R : Type} {a C : Addr} {fl : R → List (Fld G)} : (JRI (ρ := ρ) G N a C fl).Ret := fun F r D D' e h v F' H' dx us x1 x2 x3 x4 x5 => e ▸ h v F' H' dx us x1 x2 x3 x4 x5
theorem sv_retI {R : Type} {a : Addr} {fl : R → List (Fld G)} {r : R} {m : Prog ρ} (hi : Γ[i]? = some (.ins C (fl r) (some a))) (h : EV N Γ te m) : SV N Γ (tSeq (tRet te) tz) (JRI G N a C fl) (m >>= fun x => .ok (x, r)) := fun σ F H D hs q =>
  h σ F H hs _ (wp_mono (wp_bind.1 q) fun x k v F1 H1 hs1 e1 r1 => by
    obtain ⟨p, dx, us, e0, m0, hp, d, hw, _⟩ := hs1.insAt hi
    have := hw a rfl
    subst this
    exact k v F1 H1 dx us hs1.w r1 m0.f hp d)
theorem sv_endI {R : Type} {a : Addr} {fl : R → List (Fld G)} {r : R} (hi : Γ[i]? = some (.ins C (fl r) (some a))) : SV N Γ tNext (JVI G N a C fl) (.ok ((), r)) := fun σ F H D hs q => by
  obtain ⟨p, dx, us, e0, m0, hp, d, hw, _⟩ := hs.insAt hi
  have := hw a rfl
  subst this
  exact (q F H dx us hs.w m0.f hp d).2 σ
theorem hs_startI {Γ0 : Env G} {Ns : List Str} {F H : Hp} {vs : List V} {E : XK} {p : Addr} (e : Same F H) (h : ∀ N : NN, MineI N F p → N.F0 = F → N.H0 = H → (∀ a, N.B a → a = p) → N.S = none → Slots N F H Γ0 (start Ns vs)) (fp : F p = none) (nown : ∀ (j : Nat) (e : Ent G), Γ0[j]? = some e → e.own = true → j = 0) : HS (.slf F H p E) Γ0 (start Ns vs) F H :=
  ⟨⟨e, Same.refl F, fun a o h => .inl h, fun a o _ h => h, fun a h => h, fun p c h => (nomatch h), fun p c h => (nomatch h), fun a o h => (nomatch h)⟩, h _ ⟨fp, .inr rfl, fun q c h => (nomatch h)⟩ rfl rfl (fun _ h => h) rfl, fun i j e e' p h1 h2 o1 o2 _ _ => by rw [nown i e h1 o1, nown j e' h2 o2]⟩
end
section
variable {P : Program} {w : World} {mg : Str → Option Value} {base : Heap} {ρ τ : Type} [iρ : Rp G ρ]
theorem fn_okI {R0 R : Type} {fl0 : R0 → List (Fld G)} {fl : R → List (Fld G)} {C : Addr} {x qual : Str} {st : Stmt} {f : Addr} {fd : FuncData} {Ns ps : List Str} {k : Nat} {ra : τ → List V → Hp → Prop} {g : R0 → τ → Prog (ρ × R)} (Fu : Fun G.K x qual st f fd) (S : FnScope Ns ps (defScope st)) (Γ0 : R0 → τ → Addr → Env G)
    (len : ∀ a vs F, ra a vs F → vs.length + 1 = ps.length) (h0 : ∀ r (a : τ) vs F H (N : NN) p dx us, MineI N F p → H p = some (.ins C dx us) → FlR F (fl0 r) us → ra a vs F → Slots N F H (Γ0 r a p) (start Ns (.ref p :: vs))) (nown : ∀ r (x : τ) p (j : Nat) e, (Γ0 r x p)[j]? = some e → e.own = true → j = 0)
    (hbody : ∀ (cdv : Value) (A : Around) (outer : List PySem.Env) (s : Shared) (H F : Hp) (p : Addr) (E : XK), Room k (A.deeper (envOfC qual (defScope st) s.heap.objs.size f cdv)) →
      ∃ t, PSs (cxOf (L2.CX P w) P w G.K mg base Ns qual (defScope st) f cdv A outer s H E) (defBody st) t ∧ ∀ r (a : τ), SV (.slf F H p E) (Γ0 r a p) t (JRI G (.slf F H p E) p C fl) (g r a)) : FnOk P w G.K mg base (L2.CX P w) (k + 1) f fd ps (SpI G C fl0 fl ra g) :=
  Fu.okX S (fun vs H Q E ⟨p, us, F, dx, fs, r, a, e1, _, _, _, _, h, _⟩ => by rw [e1]; exact len a us F h) fun cdv A outer s H vs Q E hr ⟨p, us, F, dx, fs, r, a, e1, fp, hp, d, e, h, q⟩ => by
    subst e1
    obtain ⟨t, hP, hv⟩ := hbody cdv A outer s H F p E hr
    exact ⟨t, hP, hv r a _ F H _ (hs_startI e (fun N m _ _ _ _ => h0 r a us F H N p dx fs m hp d h) fp (nown r a p)) (wp_mono q fun r k v F' H' dx' us' w1 w2 w3 w4 w5 => k v F' H' dx' us' w1 w2 w3 w4 w5)⟩
theorem fn_okIV {R0 R : Type} {fl0 : R0 → List (Fld G)} {fl : R → List (Fld G)} {C : Addr} {x qual : Str} {st : Stmt} {f : Addr} {fd : FuncData} {Ns ps : List Str} {k : Nat} {ra : τ → List V → Hp → Prop} {g : R0 → τ → Prog (Unit × R)} (Fu : Fun G.K x qual st f fd) (S : FnScope Ns ps (defScope st)) (Γ0 : R0 → τ → Addr → Env G)
    (len : ∀ a vs F, ra a vs F → vs.length + 1 = ps.length) (h0 : ∀ r (a : τ) vs F H (N : NN) p dx us, MineI N F p → H p = some (.ins C dx us) → FlR F (fl0 r) us → ra a vs F → Slots N F H (Γ0 r a p) (start Ns (.ref p :: vs))) (nown : ∀ r (x : τ) p (j : Nat) e, (Γ0 r x p)[j]? = some e → e.own = true → j = 0)
    (hbody : ∀ (cdv : Value) (A : Around) (outer : List PySem.Env) (s : Shared) (H F : Hp) (p : Addr) (E : XK), Room k (A.deeper (envOfC qual (defScope st) s.heap.objs.size f cdv)) →
      ∃ t, PSs (cxOf (L2.CX P w) P w G.K mg base Ns qual (defScope st) f cdv A outer s H E) (defBody st) t ∧ ∀ r (a : τ), SV (.slf F H p E) (Γ0 r a p) t (JVI G (.slf F H p E) p C fl) (g r a)) : FnOk P w G.K mg base (L2.CX P w) (k + 1) f fd ps (SpI G C fl0 fl ra g) :=
  Fu.okX S (fun vs H Q E ⟨p, us, F, dx, fs, r, a, e1, _, _, _, _, h, _⟩ => by rw [e1]; exact len a us F h) fun cdv A outer s H vs Q E hr ⟨p, us, F, dx, fs, r, a, e1, fp, hp, d, e, h, q⟩ => by
    subst e1
    obtain ⟨t, hP, hv⟩ := hbody cdv A outer s H F p E hr
    exact ⟨t, hP, hv r a _ F H _ (hs_startI e (fun N m _ _ _ _ => h0 r a us F H N p dx fs m hp d h) fp (nown r a p)) (wp_mono q fun r k F' H' dx' us' w1 w3 w4 w5 => ⟨k .non F' H' dx' us' w1 .non w3 w4 w5, fun _ => k .non F' H' dx' us' w1 .non w3 w4 w5⟩)⟩
end
/-! a new instance -/
section
variable {ω τ : Type} {N : NN} {Γ : Env G} {t : TA} {tz : TS}
theorem hs_newO {σ : L2.St} {F H : Hp} (hs : HS N Γ σ F H) {p : Addr} {u : HO} (hp : H p = none) : HS N Γ σ F (upd H p u) ∧ NewAt N Γ σ F p := by
  obtain ⟨_, n⟩ := hs_newlist (vs := []) hs hp
  refine ⟨hs.move ⟨fun a u e => ?_, hs.w.f0, hs.w.nw, fun a u nb e => ?_, fun a e => ?_, fun q c e => ?_, hs.w.sb, fun a u e => ?_⟩ (Same.refl F) (fun q ws hl e => ?_) fun q hl => (hs.held hl).1.f, n⟩
  · rw [upd_ne (ne_of_none e n.mine.f)]; exact hs.w.fh a u e
  · have x := hs.w.kp a u nb e
    rw [upd_ne (ne_of_none x hp)]; exact x
  · by_cases ha : a = p
    · subst ha; rw [upd_same] at e; cases e
    · rw [upd_ne ha] at e; exact hs.w.dm a e
  · have s := hs.w.sr q c e
    obtain ⟨st, ix, cs, h1, h2, r⟩ := s.at_
    exact ⟨s.fp, s.fc, s.ne, st, ix, cs, by rw [upd_ne (ne_of_none h1 hp)]; exact h1, by rw [upd_ne (ne_of_none h2 hp)]; exact h2, r⟩
  · have x := hs.w.os a u e
    exact ⟨⟨by rw [upd_ne (ne_of_none x.1.1 hp)]; exact x.1.1, x.1.2⟩, x.2⟩
  · rw [upd_ne (ne_of_none e hp)]; exact e
theorem sv_make {R : Type} {fl : R → List (Fld G)} {C : Addr} {ra : τ → List V → Hp → Prop} {f : Unit → τ → Prog (Unit × R)} {m : Prog τ} {j : Nat} {J : Aim ω} {k : Unit × R → Prog ω} (hO : ∀ a, N.O a = none) (h : EVA N Γ t m ra) (hk : ∀ r, SV N (Γ.set j (.ins C (fl r.2) none)) tz J (k r)) :
    SV N Γ (tSeq (tAsg (tMake C (SpI G C (fun _ : Unit => []) fl ra f) [] N.E t) (gName j)) tz) J (m >>= fun x => f () x >>= k) := fun σ F H D hs q =>
  h σ F H hs _ (wp_mono (wp_bind.1 q) fun x q1 vs F1 H1 hs1 e1 r1 => fun p dx hp hdx ne => by
    have hs2 := (hs_newO (u := .own p) hs1 hdx).1
    obtain ⟨hs3, n3⟩ := hs_newO (u := .ins C dx []) hs2 (p := p) (by rw [upd_ne (Ne.symm ne)]; exact hp)
    refine ⟨p, vs, F1, dx, [], (), x, by rw [List.append_nil], n3.mine.f, upd_same, trivial, hs3.w.fh, r1, wp_imp (wp_bind.1 q1) (fun r k2 v F' H' dx2 us2 w2 rr fp hp2 d2 => ?_) fun e he => ep_slf hs3 hO n3.mine.weak e he⟩
    obtain ⟨h2, e2, m2⟩ := hs3.callI hO n3.mine.weak upd_same n3.nh w2 fp hp2
    refine ⟨?_, ?_⟩
    · have rr' : Dq G.K F' v .none := rr
      cases rr'
      rfl
    · exact hk r _ F' H' D (h2.own (e := .ins C (fl r.2) none) j n3.nh ⟨p, dx2, us2, rfl, m2, hp2, d2, fun q z => by cases z⟩) (wp_mono k2 fun o x => J.mono (Same.trans e1 e2) x))
end
end Ty

namespace Ty
open PySem PySem.Spec PyProof.Rows L2
open Enc (enc)
variable {G : Glob}
section
variable {α β γ ω ρ τ : Type} [iα : Rp G α] [iβ : Rp G β] [iρ : Rp G ρ] {N : NN} {Γ Γ' : Env G} {te ta tb : TE} {t : TA} {tt tu : TT} {tz ts : TS}
variable {i l : Nat} {C : Addr} {fs : List (Fld G)} {w : Option Addr} {n : Str}
/-! texts and ints -/
def intS (s : Tx) : Prog Int := match PySem.intText? (sx s) with
  | some n => if s.length ≤ 640 then .ok n else .stuck
  | none => .stuck
theorem intS_wp {s : Tx} {P : Int → Prop} {E : Exc → Prop} (h : wp (intS s) P E) : ∃ n, PySem.intText? (sx s) = some n ∧ (sx s).length ≤ 640 ∧ P n := by
  unfold intS at h
  split at h
  · rename_i n hn
    split at h
    · exact ⟨n, hn, by simpa [Str.length, sx] using ‹s.length ≤ 640›, h⟩
    · exact h.elim
  · exact h.elim
theorem evx_intS {ξ : Type} {m : Prog (Tx × ξ)} {Γx : ξ → Env G} (h : EVX N Γ te m Γx) : EVX N Γ (tCB (fun xs H Q => ∃ a n, xs = [.str a] ∧ PySem.intText? a = some n ∧ a.length ≤ 640 ∧ Q (.int n) H) (tCons te tNil)) (m >>= fun x => intS x.1 >>= fun n => .ok (n, x.2)) Γx := fun σ F H hs Q q =>
  h σ F H hs _ (wp_mono (wp_bind.1 q) fun x q1 v F1 H1 hs1 e1 r1 => by
    obtain ⟨n, h1, h2, q2⟩ := intS_wp (wp_bind.1 q1)
    exact ⟨sx x.1, n, by rw [Scl.dp (α := Tx) r1]; rfl, h1, h2, q2 _ F1 H1 hs1 e1 (Dq.int n)⟩)
theorem ev_intS {m : Prog Tx} (h : EV N Γ te m) : EV N Γ (tCB (fun xs H Q => ∃ a n, xs = [.str a] ∧ PySem.intText? a = some n ∧ a.length ≤ 640 ∧ Q (.int n) H) (tCons te tNil)) (m >>= intS) := fun σ F H hs Q q =>
  h σ F H hs _ (wp_mono (wp_bind.1 q) fun x q1 v F1 H1 hs1 e1 r1 => by
    obtain ⟨n, h1, h2, q2⟩ := intS_wp q1
    exact ⟨sx x, n, by rw [Scl.dp (α := Tx) r1]; rfl, h1, h2, q2 _ F1 H1 hs1 e1 (Dq.int n)⟩)
def strI (i : Int) : Prog Tx := if i.natAbs.log2 < 1920 then .ok ((toString i : Str).cps.toList) else .stuck
theorem strI_wp {i : Int} {P : Tx → Prop} {E : Exc → Prop} (h : wp (strI i) P E) : i.natAbs.log2 < 1920 ∧ P ((toString i : Str).cps.toList) := by
  unfold strI at h
  split at h
  · exact ⟨‹_›, h⟩
  · exact h.elim
theorem ev_strI {m : Prog Int} (h : EV N Γ te m) : EV N Γ (tCB (fun xs H Q => ∃ i, xs = [.int i] ∧ i.natAbs.log2 < 1920 ∧ Q (.str (toString i)) H) (tCons te tNil)) (m >>= strI) := fun σ F H hs Q q =>
  h σ F H hs _ (wp_mono (wp_bind.1 q) fun x q1 v F1 H1 hs1 e1 r1 => by
    obtain ⟨h1, q2⟩ := strI_wp q1
    exact ⟨x, by rw [Scl.dp (α := Int) r1]; rfl, h1, q2 _ F1 H1 hs1 e1 (.str _)⟩)
theorem ev_fmtI {m : Prog Int} (h : EV N Γ te m) : EV N Γ (tFmt te) (m >>= strI) := fun σ F H hs Q q =>
  h σ F H hs _ (wp_mono (wp_bind.1 q) fun x q1 v F1 H1 hs1 e1 r1 => by
    obtain ⟨h1, q2⟩ := strI_wp q1
    exact .inr ⟨x, Scl.dp (α := Int) r1, h1, q2 _ F1 H1 hs1 e1 (.str _)⟩)
theorem sx_app (a b : Tx) : (sx a ++ sx b : Str) = sx (a ++ b) := by
  show (⟨a.toArray ++ b.toArray⟩ : Str) = _
  simp [sx]
theorem ev_fstr2 {m1 m2 : Prog Tx} (h1 : EV N Γ ta m1) (h2 : EV N Γ tb m2) : EV N Γ (fun σ H Q => tJs [ta, tb] Str.empty σ H fun out H1 => Q (.str out) H1) (m1 >>= fun a => chk (small a.length) (m2 >>= fun b => chk (small (a.length + b.length)) (.ok (a ++ b)))) := fun σ F H hs Q q =>
  h1 σ F H hs _ (wp_mono (wp_bind.1 q) fun a q1 v F1 H1 hs1 e1 r1 => by
    obtain ⟨ha, q1⟩ := wp_chk q1
    refine ⟨sx a, Scl.dp (α := Tx) r1, ?_, h2 σ F1 H1 hs1 _ (wp_mono (wp_bind.1 q1) fun b q2 u F2 H2 hs2 e2 r2 => ?_)⟩
    · have : (Str.empty ++ sx a : Str) = sx ([] ++ a) := sx_app [] a
      rw [this]
      have h3 : (sx ([] ++ a)).length = a.length := by simp [Str.length, sx]
      rw [h3]; exact small_le ha
    · obtain ⟨hl, q2⟩ := wp_chk q2
      have e0 : (Str.empty ++ sx a : Str) = sx a := sx_app [] a
      refine ⟨sx b, Scl.dp (α := Tx) r2, ?_, ?_⟩
      · rw [e0, sx_app]
        have h3 : (sx (a ++ b)).length = a.length + b.length := by simp [Str.length, sx]
        rw [h3]; exact small_le hl
      · show Q (.str (Str.empty ++ sx a ++ sx b)) H2
        rw [e0, sx_app]
        exact q2 _ F2 H2 hs2 (Same.trans e1 e2) (.str _))
/-! split -/
theorem sx_cps (x : Str) : sx x.cps.toList = x := by
  cases x; simp [sx]
theorem dq_strs {K : PySem.W.Frag} {F : Hp} : ∀ ys : List Str, DqAll K F (ys.map V.str) ((ys.map fun x => x.cps.toList).map (enc : Tx → PyData))
  | [] => .nil
  | y :: ys => .cons (by
      have e : (enc (y.cps.toList) : PyData) = .str y := congrArg PyData.str (sx_cps y)
      show Dq K F (.str y) (enc (y.cps.toList))
      rw [e]
      exact .str y) (dq_strs ys)
def splitT (s b : Tx) : List Tx := (Txt.split (sx s) (sx b)).map fun x => x.cps.toList
theorem evn_split {m1 m2 : Prog Tx} (h1 : EV N Γ ta m1) (h2 : EV N Γ tb m2) : EVN N Γ (tM1 (fun x xs H Q => ∃ a b, x = .str a ∧ xs = [.str b] ∧ (b.length == 0) = false ∧ a.length + 2 ≤ sizeLine ∧ rNewStrs (Txt.split a b) H Q) ta tb)
    (m1 >>= fun a => m2 >>= fun b => chk (small (a.length + 2) && !b.isEmpty) (.ok (splitT a b : L Tx))) := fun σ F H hs Q q =>
  h1 σ F H hs _ (wp_mono (wp_bind.1 q) fun a q1 v F1 H1 hs1 e1 r1 => by
    have ea : v = .str (sx a) := Scl.dp (α := Tx) r1
    refine ⟨⟨_, ea⟩, h2 σ F1 H1 hs1 _ (wp_mono (wp_bind.1 q1) fun b q2 u F2 H2 hs2 e2 r2 => ?_)⟩
    obtain ⟨hl, q2⟩ := wp_chk q2
    obtain ⟨hl1, hl2⟩ := Bool.and_eq_true_iff.1 hl
    have eb : u = .str (sx b) := Scl.dp (α := Tx) r2
    refine ⟨sx a, sx b, ea, by rw [eb], ?_, ?_, fun p hp => ?_⟩
    · cases b with
      | nil => simp at hl2
      | cons c b => simp [Str.length, sx]
    · have := small_le hl1
      simpa [Str.length, sx] using this
    · obtain ⟨hs3, n⟩ := hs_newlist (vs := (Txt.split (sx a) (sx b)).map V.str) hs2 hp
      exact q2 p _ _ _ hs3 (Same.trans e1 e2) n upd_same (dq_strs _))
/-! enumerate(list) -/
theorem evi_enumL {α : Type} [Enc α] {m : Prog (L α)} (h : EV N Γ te m) : EVI (α := Int × α) N Γ (iEnum G.K (tCons te tNil)) (m >>= fun xs => .ok (enumT (un xs))) anyE := fun σ F H hs R q =>
  h σ F H hs _ (wp_mono (wp_bind.1 q) fun (xs : List α) k x F1 H1 hs1 e1 r1 => by
    have hd : Dq G.K F1 x (.list (xs.map enc)) := r1
    cases hd with
    | lst hq ha =>
      refine ⟨_, _, rfl, sql_same hs1.w.fh (.inl hq), k F1 H1 _ hs1 e1 fun Γ' _ => ⟨fun i σ F' H' hs' e' hi => ?_, fun i a σ F' H' x H2 hs' e' hx y => ?_, fun i σ F' H' hs' e' hi => ?_⟩⟩
      · rw [enumT_len] at hi
        obtain ⟨v, hv, _⟩ := dpAll_at ha (List.getElem?_eq_getElem hi)
        exact ⟨_, v, sql_same (Same.trans e' hs'.w.fh) (.inl hq), hv⟩
      · rw [enumT_get] at hx
        cases hc : (un xs)[i]? with
        | none => rw [hc] at hx; cases hx
        | some c =>
          rw [hc] at hx
          have hx' : ((i : Int), c) = a := Option.some.inj hx
          subst hx'
          obtain ⟨v, hv, d⟩ := dpAll_at ha hc
          obtain ⟨T, w, e1, e2, e3, y⟩ := y
          have e4 : w = v := Option.some.inj ((y _ (sql_same (Same.trans e' hs'.w.fh) (.inl hq))).symm.trans hv)
          subst e1 e4
          have fT : F' T = none := Same.free hs'.w.fh e2
          exact .inr ⟨T, _, e2, e3, .tup (.inl (.inl upd_same)) (.cons (.int _) (.cons (dp_same (Same.trans e' (same_new fT)) _ _ d) .nil))⟩
      · rw [enumT_len] at hi
        exact ⟨_, sql_same (Same.trans e' hs'.w.fh) (.inl hq), by rw [dpAll_len ha]; exact hi⟩)
/-! an append of what a changing call yields -/
theorem sv_appendX {α ξ : Type} [Enc α] {i : Nat} {xs : List α} {m : Prog (α × ξ)} {Γx : ξ → Env G} {J : Aim ω} {k : α × ξ → Prog ω} (hO : ∀ a, N.O a = none) (hi : Γ[i]? = some (.lst xs)) (hx : ∀ x, (Γx x)[i]? = some (.lst xs)) (h : EVX N Γ te m Γx)
    (hk : ∀ y, SV N ((Γx y.2).set i (.lst (xs ++ [y.1]))) tz J (k y)) :
    SV N Γ (tSeq (tDrop (tBM G.K "list" rAppend (tVar i) (tCons te tNil))) tz) J (m >>= fun x => chk (small xs.length) (k x)) := fun σ F H D hs q => by
  obtain ⟨p, vs, e0, m0, hp, d, hl⟩ := hs.lstAt hi
  refine ⟨.ref p, e0, .inl ⟨rfl, vs, .inl (.inl hp)⟩, h σ F H hs _ (wp_mono (wp_bind.1 q) fun a q1 v F1 H1 hs1 e1 r1 => ?_)⟩
  obtain ⟨hz, q1⟩ := wp_chk q1
  obtain ⟨p', vs', e0', m0', hp', d', _⟩ := hs1.lstAt (hx a.2)
  rw [e0] at e0'
  cases e0'
  refine ⟨p, vs', v, rfl, rfl, hp', by rw [dpAll_len d']; exact small_lt hz, ?_⟩
  exact hk a σ F1 _ D (hs1.put hO (hx a.2) e0 (by rw [List.map_append]; exact dpAll_append d' (.cons r1 .nil))) (wp_mono q1 fun o x => J.mono e1 x)
/-! a list of the caller, only read -/
theorem HS.borAt {β : Type} [Enc β] {σ : L2.St} {F H : Hp} {xs : List β} (hs : HS N Γ σ F H) (hi : Γ[i]? = some (.bor xs)) : ∃ q vs, σ[i]? = some (some (.ref q)) ∧ H q = some (.lst vs) ∧ DqAll G.K F vs (xs.map enc) := by
  obtain ⟨o, e0, q, vs, e1, h1, h2, h3, h4, d⟩ := hs.sl.get hi
  subst e1
  exact ⟨q, vs, e0, hs.w.kp q _ h3 h2, d⟩
theorem ev_inB {β : Type} [Enc β] [Scl β] [DecidableEq β] {xs : List β} {m : Prog β} (hi : Γ[i]? = some (.bor xs)) (h : EV N Γ te m) : EV N Γ (tOp (rIn G.K false) te (tVar i)) (m >>= fun a => .ok (memB a xs)) := fun σ F H hs Q q =>
  h σ F H hs _ (wp_mono (wp_bind.1 q) fun a q1 v F1 H1 hs1 e1 r1 => by
    obtain ⟨p, vs, e0, hp, d⟩ := hs1.borAt hi
    have e2 : v = Scl.tv a := Scl.dp r1
    have e3 := dpAll_scl d
    subst e2 e3
    exact ⟨.ref p, e0, p, _, rfl, .inl (.inl (.inl hp)), Scl.fl a, all_flat xs, Eq.mpr (congrArg (fun b => Q (.bl b) H1) (inV_scl a xs)) (q1 _ F1 H1 hs1 e1 (.bl _))⟩)
def SpIB (G : Glob) {ρ R β : Type} (α : Type) [Rp G ρ] [Rp G α] [Enc β] (C : Addr) (fl : R → List (Fld G)) (f : R → α → List β → Prog (ρ × R)) : Sp := fun vs H Q E => ∃ a v q ws F dx fs r x xs, vs = [.ref a, v, .ref q] ∧ F a = none ∧ H a = some (.ins C dx fs) ∧ FlR F (fl r) fs ∧ Same F H ∧ Rp.rp (G := G) x v F ∧
  F q = none ∧ H q = some (.lst ws) ∧ q ≠ a ∧ DqAll G.K F ws (xs.map enc) ∧
  wp (f r x xs) (fun q => ∀ v F' H' dx' fs', W (.slf F H a E) F' H' → Rp.rp (G := G) q.1 v F' → F' a = none → H' a = some (.ins C dx' fs') → FlR F' (fl q.2) fs' → Q v H') (EP G (.slf F H a E))
theorem evx_methB {R β : Type} [Enc β] {fl : R → List (Fld G)} {f : R → α → List β → Prog (ρ × R)} {m : Prog α} {r : R} {mn : Str} {xs : List β} (hO : ∀ a, N.O a = none) (hi : Γ[i]? = some (.ins C (fl r) w)) (hl : Γ[l]? = some (.lst xs)) (hm : (fl r).find? (fun f => mn == f.n) = none) (h : EV N Γ te m) :
    EVX N Γ (tMeth C mn (SpIB G α C fl f) [] N.E (tVar i) (tCons te (tCons (tVar l) tNil))) (m >>= fun x => f r x xs) (fun r' => Γ.set i (.ins C (fl r') w)) := fun σ F H hs Q q => by
  obtain ⟨p, dx, us, e0, m0, hp, d, hw, _⟩ := hs.insAt hi
  refine ⟨.ref p, e0, p, dx, us, rfl, hp, flR_none d hm, h σ F H hs _ (wp_mono (wp_bind.1 q) fun x q1 v F1 H1 hs1 e1 r1 => ?_)⟩
  obtain ⟨p', dx', us', e0', m1, hp1, d1, hw1, _⟩ := hs1.insAt hi
  rw [e0] at e0'
  cases e0'
  obtain ⟨b, ws, eb, mb, hb, db, _⟩ := hs1.lstAt hl
  have ne : b ≠ p := fun z => by
    subst z
    have := hs1.ds l i _ _ b hl hi rfl rfl eb e0
    subst this
    rw [hi] at hl
    cases hl
  refine ⟨.ref b, eb, p, v, b, ws, F1, dx', us', r, x, xs, rfl, m1.f, hp1, d1, hs1.w.fh, r1, mb.f, hb, ne, db, wp_imp q1 (fun r' k v F' H' dx2 us2 w2 rr fp hp2 d2 => ?_) fun e he => ep_slf hs1 hO m1 e he⟩
  obtain ⟨h2, e2, m2⟩ := (hs1.dead i).callI hO m1 hp1 (hs1.notHeld hi rfl e0) w2 fp hp2
  have h3 := h2.own (e := .ins C (fl r'.2) w) i (hs1.notHeld hi rfl e0) ⟨p, dx2, us2, rfl, m2, hp2, d2, hw⟩
  rw [List.set_set, set_id e0] at h3
  exact k v F' H' h3 (Same.trans e1 e2) rr
end
section
variable {P : Program} {w : World} {mg : Str → Option Value} {base : Heap} {ρ α β : Type} [iρ : Rp G ρ] [iα : Rp G α] [iβ : Enc β]
theorem fn_okIB {R : Type} {fl : R → List (Fld G)} {C : Addr} {x qual : Str} {st : Stmt} {f : Addr} {fd : FuncData} {Ns ps : List Str} {k : Nat} {g : R → α → List β → Prog (ρ × R)} (Fu : Fun G.K x qual st f fd) (S : FnScope Ns ps (defScope st)) (Γ0 : R → α → List β → Addr → Env G)
    (len : ps.length = 3) (h0 : ∀ r (a : α) (xs : List β) v F H (N : NN) p q ws dx us, MineI N F p → H p = some (.ins C dx us) → FlR F (fl r) us → Rp.rp (G := G) a v F → N.F0 q = none → N.H0 q = some (.lst ws) → ¬ N.B q → N.S = none → DqAll G.K F ws (xs.map enc) → Slots N F H (Γ0 r a xs p) (start Ns [.ref p, v, .ref q])) (nown : ∀ r (x : α) (xs : List β) p (j : Nat) e, (Γ0 r x xs p)[j]? = some e → e.own = true → j = 0)
    (hbody : ∀ (cdv : Value) (A : Around) (outer : List PySem.Env) (s : Shared) (H F : Hp) (p : Addr) (E : XK), Room k (A.deeper (envOfC qual (defScope st) s.heap.objs.size f cdv)) →
      ∃ t, PSs (cxOf (L2.CX P w) P w G.K mg base Ns qual (defScope st) f cdv A outer s H E) (defBody st) t ∧ ∀ r (a : α) (xs : List β), SV (.slf F H p E) (Γ0 r a xs p) t (JRI G (.slf F H p E) p C fl) (g r a xs)) : FnOk P w G.K mg base (L2.CX P w) (k + 1) f fd ps (SpIB G α C fl g) :=
  Fu.okX S (fun vs H Q E ⟨p, v, q, ws, F, dx, fs, r, a, xs, e1, _⟩ => by rw [e1, len]; rfl) fun cdv A outer s H vs Q E hr ⟨p, v, b, ws, F, dx, fs, r, a, xs, e1, fp, hp, d, e, h, fb, hb, ne, db, q⟩ => by
    subst e1
    obtain ⟨t, hP, hv⟩ := hbody cdv A outer s H F p E hr
    exact ⟨t, hP, hv r a xs _ F H _ (hs_startI e (fun N m e1 e2 e3 e4 => h0 r a xs v F H N p b ws dx fs m hp d h (by rw [e1]; exact fb) (by rw [e2]; exact hb) (fun z => ne (e3 b z)) e4 db) fp (nown r a xs p)) (wp_mono q fun r k v F' H' dx' us' w1 w2 w3 w4 w5 => k v F' H' dx' us' w1 w2 w3 w4 w5)⟩
end
abbrev SpI0 (G : Glob) {ρ R : Type} [Rp G ρ] (C : Addr) (fl : R → List (Fld G)) (f : R → Prog (ρ × R)) : Sp := SpI G C fl fl ra0 (fun r _ => f r)
abbrev SpI1 (G : Glob) {ρ R : Type} (α : Type) [Rp G ρ] [Rp G α] (C : Addr) (fl : R → List (Fld G)) (f : R → α → Prog (ρ × R)) : Sp := SpI G C fl fl (raC (G := G) α ra0) (fun r p => f r p.1)
abbrev SpI2 (G : Glob) {ρ R : Type} (α β : Type) [Rp G ρ] [Rp G α] [Rp G β] (C : Addr) (fl : R → List (Fld G)) (f : R → α → β → Prog (ρ × R)) : Sp := SpI G C fl fl (raC (G := G) α (raC (G := G) β ra0)) (fun r p => f r p.1 p.2.1)
abbrev SpM1 (G : Glob) {R : Type} (α : Type) [Rp G α] (C : Addr) (fl : R → List (Fld G)) (f : α → Prog (Unit × R)) : Sp := SpI G C (fun _ : Unit => []) fl (raC (G := G) α ra0) (fun _ p => f p.1)
abbrev SpM2 (G : Glob) {R : Type} (α β : Type) [Rp G α] [Rp G β] (C : Addr) (fl : R → List (Fld G)) (f : α → β → Prog (Unit × R)) : Sp := SpI G C (fun _ : Unit => []) fl (raC (G := G) α (raC (G := G) β ra0)) (fun _ p => f p.1 p.2.1)
section
variable {α β ω ρ R : Type} [iα : Rp G α] [iβ : Rp G β] [iρ : Rp G ρ] {N : NN} {Γ : Env G} {ta tb : TE} {tz : TS} {i j : Nat} {C : Addr} {w : Option Addr} {mn : Str} {fl : R → List (Fld G)} {r : R} {m1 : Prog α} {m2 : Prog β}
theorem evx_meth0 {f : R → Prog (ρ × R)} (hO : ∀ a, N.O a = none) (hi : Γ[i]? = some (.ins C (fl r) w)) (hm : (fl r).find? (fun f => mn == f.n) = none) :
    EVX N Γ (tMeth C mn (SpI0 G C fl f) [] N.E (tVar i) tNil) (f r) (fun r' => Γ.set i (.ins C (fl r') w)) := evx_meth (f := fun r _ => f r) (m := .ok ()) hO hi hm eva_nil
theorem evx_meth1 {f : R → α → Prog (ρ × R)} (hO : ∀ a, N.O a = none) (hi : Γ[i]? = some (.ins C (fl r) w)) (hm : (fl r).find? (fun f => mn == f.n) = none) (h1 : EV N Γ ta m1) :
    EVX N Γ (tMeth C mn (SpI1 G α C fl f) [] N.E (tVar i) (tCons ta tNil)) (m1 >>= fun a => f r a) (fun r' => Γ.set i (.ins C (fl r') w)) := by
  have h := evx_meth (f := fun r (p : α × Unit) => f r p.1) hO hi hm (eva1 h1)
  simp only [bind_bind, ok_bind] at h
  exact h
theorem evx_meth2 {f : R → α → β → Prog (ρ × R)} (hO : ∀ a, N.O a = none) (hi : Γ[i]? = some (.ins C (fl r) w)) (hm : (fl r).find? (fun f => mn == f.n) = none) (h1 : EV N Γ ta m1) (h2 : EV N Γ tb m2) :
    EVX N Γ (tMeth C mn (SpI2 G α β C fl f) [] N.E (tVar i) (tCons ta (tCons tb tNil))) (m1 >>= fun a => m2 >>= fun b => f r a b) (fun r' => Γ.set i (.ins C (fl r') w)) := by
  have h := evx_meth (f := fun r (p : α × β × Unit) => f r p.1 p.2.1) hO hi hm (eva2 h1 h2)
  simp only [bind_bind, ok_bind] at h
  exact h
theorem sv_make1 {f : α → Prog (Unit × R)} {J : Aim ω} {k : Unit × R → Prog ω} (hO : ∀ a, N.O a = none) (h1 : EV N Γ ta m1) (hk : ∀ r, SV N (Γ.set j (.ins C (fl r.2) none)) tz J (k r)) :
    SV N Γ (tSeq (tAsg (tMake C (SpM1 G α C fl f) [] N.E (tCons ta tNil)) (gName j)) tz) J (m1 >>= fun a => f a >>= k) := by
  have h := sv_make (f := fun _ (p : α × Unit) => f p.1) (J := J) (k := k) hO (eva1 h1) hk
  simp only [bind_bind, ok_bind] at h
  exact h
theorem sv_make2 {f : α → β → Prog (Unit × R)} {J : Aim ω} {k : Unit × R → Prog ω} (hO : ∀ a, N.O a = none) (h1 : EV N Γ ta m1) (h2 : EV N Γ tb m2) (hk : ∀ r, SV N (Γ.set j (.ins C (fl r.2) none)) tz J (k r)) :
    SV N Γ (tSeq (tAsg (tMake C (SpM2 G α β C fl f) [] N.E (tCons ta (tCons tb tNil))) (gName j)) tz) J (m1 >>= fun a => m2 >>= fun b => f a b >>= k) := by
  have h := sv_make (f := fun _ (p : α × β × Unit) => f p.1 p.2.1) (J := J) (k := k) hO (eva2 h1 h2) hk
  simp only [bind_bind, ok_bind] at h
  exact h
end
theorem hO_slf (F H : Hp) (p : Addr) (E : XK) : ∀ a, (NN.slf F H p E).O a = none := fun _ => rfl
theorem own_i {e : Ent G} {Γ : Env G} (k : ∀ e ∈ Γ, e.own = false) : ∀ (j : Nat) (e' : Ent G), (e :: Γ)[j]? = some e' → e'.own = true → j = 0 := fun j e' h o => by
  cases j with
  | zero => rfl
  | succ j =>
    have := k e' (List.mem_of_getElem? h)
    rw [o] at this; cases this
/-- what the proof needs of a class, of a method -/
structure Dc (G : Glob) (mg : Str → Option Value) (C : Addr) (nm : Str) : Prop where
  c : Cls G.K C
  g : mg nm = some (.ref C)
structure Dm (K : PySem.W.Frag) (C : Addr) (x qual : Str) (st : Stmt) (ps : List Str) where
  f : Addr
  fd : FuncData
  Fu : Fun K x qual st f fd
  b : Binds K fd ps []
  me : Meth K C x f
structure Di (K : PySem.W.Frag) (C : Addr) (x qual : Str) (st : Stmt) (ps : List Str) where
  f : Addr
  fd : FuncData
  Fu : Fun K x qual st f fd
  b : Binds K fd ps []
  mki : Mk K C f
end Ty

namespace Ty
open PySem PySem.Spec PyProof.Rows L2
open Enc (enc)
variable {G : Glob}
/-! ### a Code is made -/
section
variable {α β γ ω ρ τ : Type} [iα : Rp G α] [iβ : Rp G β] {N : NN} {Γ Γ' : Env G} {te ta tb : TE} {t : TA} {tt tu : TT} {tz ts : TS}
def JC (G : Glob) (N : NN) (x dx : Addr) : Aim CodeV := ⟨fun _ c D => ∀ y F' H' σ', W N F' H' → Dq G.K F' y (enc c.parts) → D.nx σ' (SlX.slH H' x G.code dx [some (.int c.many), some y]), fun _ h => h⟩
theorem sv_setCode (cf : CodeFacts G) {x dx : Addr} {many : Int} {parts : List Tx} (h0 : Γ[0]? = some (.ptr x)) (h1 : Γ[1]? = some (@Ent.per G Int _ many)) (h2 : Γ[2]? = some (@Ent.per G (List Tx) _ parts)) (hx : N.H0 x = some (.ins G.code dx [])) (nb : ¬ N.B x) (ne : dx ≠ x) :
    SV N Γ (tSeq (SlX.sSl G.K (tVar 0) (tVar 1) "many") (tSeq (SlX.sSl G.K (tVar 0) (tVar 2) "parts") tNext)) (JC G N x dx) (.ok ⟨many, parts⟩) := fun σ F H D hs q => by
  obtain ⟨o0, e0, z0⟩ := hs.sl.get h0
  have z0 : o0 = some (.ref x) := z0
  subst z0
  obtain ⟨o1, e1, v1, z1, r1⟩ := hs.sl.get h1
  subst z1
  obtain ⟨o2, e2, v2, z2, r2⟩ := hs.sl.get h2
  subst z2
  obtain ⟨p1, s1⟩ := cf.many
  obtain ⟨p2, s2⟩ := cf.parts
  have hx1 : H x = some (.ins G.code dx []) := hs.w.kp x _ nb hx
  have ev : v1 = .int many := Scl.dp (α := Int) r1
  subst ev
  refine ⟨_, e1, .ref x, e0, x, G.code, dx, p1, [], 0, rfl, .inl ⟨hx1, rfl⟩, cf.sc, s1, ?_⟩
  refine ⟨_, e2, .ref x, e0, x, G.code, dx, p2, _, 1, rfl, SlX.slH_slt ne, cf.sc, s2, ?_⟩
  show D.nx σ _
  rw [SlX.slH_twice ne]
  exact q v2 F H σ hs.w r2
def SpC (G : Glob) (f : Int → List Tx → Prog CodeV) : Sp := fun vs H Q E => ∃ x dx us F a, vs = .ref x :: us ∧ F x = none ∧ H x = some (.ins G.code dx []) ∧ dx ≠ x ∧ Same F H ∧ raC (G := G) Int (raC (G := G) (List Tx) ra0) a us F ∧
  wp (f a.1 a.2.1) (fun c => ∀ y F1 H1, W (.of F H E) F1 H1 → Dq G.K F1 y (enc c.parts) → Q .non (SlX.slH H1 x G.code dx [some (.int c.many), some y])) (EP G (.of F H E))
theorem ev_make {f : Int → List Tx → Prog CodeV} {m1 : Prog Int} {m2 : Prog (List Tx)} (h1 : EV N Γ ta m1) (h2 : EV N Γ tb m2) : EV N Γ (tMake G.code (SpC G f) [] N.E (tCons ta (tCons tb tNil))) (m1 >>= fun a => m2 >>= fun b => f a b) := fun σ F H hs Q q => by
  have h := eva2 (G := G) h1 h2
  refine h σ F H hs _ ?_
  refine wp_bind.2 (wp_mono (wp_bind.1 q) fun a q1 => wp_bind.2 (wp_mono (wp_bind.1 q1) fun b q2 => ?_))
  intro vs F1 H1 hs1 e1 r1 x dx hx hdx ne
  obtain ⟨hs2, n2⟩ := hs_newO (u := .own x) hs1 hdx
  obtain ⟨hs3, n3⟩ := hs_newO (u := .ins G.code dx []) hs2 (p := x) (by rw [upd_ne (Ne.symm ne)]; exact hx)
  refine ⟨x, dx, vs, F1, (a, b, ()), by rw [List.append_nil], n3.mine.f, upd_same, ne, hs3.w.fh, r1, wp_imp q2 (fun c k y F2 H2 w2 d2 => ?_) fun e he => ep_of (F := F) (H := H) hs3 noB e he⟩
  obtain ⟨hs4, e2⟩ := hs3.call noB w2
  have fr : ∀ q o, F1 q = none → upd (upd H1 dx (.own x)) x (.ins G.code dx []) q = some o → F2 q = none := fun q o f h => by
    cases z : F2 q with
    | none => rfl
    | some u =>
      rcases w2.nw q u z with y | y
      · rw [show F1 q = some u from y] at f; cases f
      · rw [show upd (upd H1 dx (.own x)) x (.ins G.code dx []) q = none from y] at h; cases h
  have fx : F2 x = none := fr x _ n3.mine.f upd_same
  have fdx : F2 dx = none := fr dx _ n2.mine.f (by rw [upd_ne ne]; exact upd_same)
  have mdx : Mine N F2 dx := n2.mine.mono fdx
  have mx : Mine N F2 x := n3.mine.mono fx
  -- the dict, then the object
  have hs5 := hs4.writeO (u := .xd []) n2.no mdx.weak n2.nh
  obtain ⟨hs6, e6⟩ := hs5.freeze upd_same mdx n2.h0 n2.nh n2.no
  have fx6 : upd F2 dx (.xd []) x = none := by rw [upd_ne (Ne.symm ne)]; exact fx
  have hs7 := hs6.writeO (u := SlX.SlO x G.code dx [some (.int c.many), some y]) n3.no (mx.mono fx6).weak n3.nh
  obtain ⟨hs8, e8⟩ := hs7.freeze upd_same (mx.mono fx6) n3.h0 n3.nh n3.no
  refine ⟨rfl, k (.ref x) _ _ hs8 (Same.trans e1 (Same.trans e2 (Same.trans e6 e8))) ⟨x, dx, y, rfl, .inr ⟨upd_same, by rw [upd_ne ne]; exact upd_same⟩, dp_same (Same.trans e6 e8) _ _ d2⟩⟩
theorem hs_startC {Γ0 : Env G} {Ns : List Str} {F H : Hp} {vs : List V} {E : XK} (e : Same F H) (h : ∀ N : NN, Slots N F H Γ0 (start Ns vs)) (nown : ∀ e ∈ Γ0, e.own = false) : HS (.of F H E) Γ0 (start Ns vs) F H :=
  ⟨⟨e, Same.refl F, fun a o h => .inl h, fun a o _ h => h, fun a h => h, fun p c h => (nomatch h), fun p c h => (nomatch h), fun a o h => (nomatch h)⟩, h _, fun i j e e' p h1 _ o1 => by
    have := nown e (List.mem_of_getElem? h1)
    rw [o1] at this; cases this⟩
theorem fn_okC {P : Program} {w : World} {mg : Str → Option Value} {base : Heap} {x qual : Str} {st : Stmt} {f : Addr} {fd : FuncData} {Ns ps : List Str} {k : Nat} {g : Int → List Tx → Prog CodeV} (Fu : Fun G.K x qual st f fd) (S : FnScope Ns ps (defScope st)) (hNs : Ns.length = 3) (hps : ps.length = 3)
    (hbody : ∀ (cdv : Value) (A : Around) (outer : List PySem.Env) (s : Shared) (H F : Hp) (E : XK), Room k (A.deeper (envOfC qual (defScope st) s.heap.objs.size f cdv)) →
      ∃ t, PSs (cxOf (L2.CX P w) P w G.K mg base Ns qual (defScope st) f cdv A outer s H E) (defBody st) t ∧ ∀ x dx many parts, H x = some (.ins G.code dx []) → dx ≠ x → SV (.of F H E) [.ptr x, @Ent.per G Int _ many, @Ent.per G (List Tx) _ parts] t (JC G (.of F H E) x dx) (g many parts)) : FnOk P w G.K mg base (L2.CX P w) (k + 1) f fd ps (SpC G g) :=
  Fu.okX S (fun vs H Q E ⟨x, dx, us, F, a, e1, _, _, _, _, ⟨v1, _, e2, _, v2, _, e3, _, e4⟩, _⟩ => by rw [e1, e2, e3, e4, hps]; rfl) fun cdv A outer s H vs Q E hr ⟨x, dx, us, F, a, e1, fx, hx, ne, e, ⟨v1, us2, e2, r1, v2, us3, e3, r2, e4⟩, q⟩ => by
    subst e1 e2 e3
    have e4 : us3 = [] := e4
    subst e4
    obtain ⟨t, hP, hv⟩ := hbody cdv A outer s H F E hr
    refine ⟨t, hP, hv x dx a.1 a.2.1 hx ne _ F H _ (hs_startC e (fun N => ?_) (by simp [Ent.own])) (wp_mono q fun c k y F' H' σ' w' d => k y F' H' w' d)⟩
    match Ns, hNs with
    | [n1, n2, n3], _ => exact ⟨rfl, ⟨v1, rfl, r1⟩, ⟨v2, rfl, r2⟩, trivial⟩
/-! ### c == d -/
theorem ev_eqCode {f : CodeV → CodeV → Prog Bool} {m1 m2 : Prog CodeV} (nf : PySem.W.notFirst G.K G.code (.ref G.code) = true) (h1 : EV N Γ ta m1) (h2 : EV N Γ tb m2) : EV N Γ (tOp (SlX.rOwn G.K G.code (SpF2 G CodeV CodeV f) N.E) ta tb) (m1 >>= fun a => m2 >>= fun b => f a b) := fun σ F H hs Q q =>
  h1 σ F H hs _ (wp_mono (wp_bind.1 q) fun a q1 x F1 H1 hs1 e1 r1 => h2 σ F1 H1 hs1 _ (wp_mono (wp_bind.1 q1) fun b q2 y F2 H2 hs2 e2 r2 => by
    have r1' := Rp.mono (G := G) e2 r1
    obtain ⟨p1, d1, z1, g1, s1, k1⟩ := id r1'
    obtain ⟨p2, d2, z2, g2, s2, k2⟩ := id r2
    refine ⟨p1, d1, _, p2, G.code, d2, _, g1, g2, slt_same hs2.w.fh s1, slt_same hs2.w.fh s2, nf, F2, (a, b, ()), hs2.w.fh, ⟨x, _, rfl, r1', y, _, rfl, r2, rfl⟩, wp_imp q2 (fun r k v F' H' w rr => ?_) fun e he => ep_of (F := F) (H := H) hs2 noB e he⟩
    obtain ⟨hs3, e3⟩ := hs2.call noB w
    exact k v F' H' hs3 (Same.trans e1 (Same.trans e2 e3)) rr))
theorem ev_isCode (cf : CodeFacts G) (si : SlX.SIsi G.K G.code) (kc : PySem.W.kitOne G.K (.ref G.code) (.ref G.code) = some true) {m : Prog CodeV} (h : EV N Γ ta m) : EV N Γ (tCB (SlX.rIsiSl G.K (.ref G.code)) (tCons ta (tCons (tC (.ref G.code)) tNil))) (m >>= fun _ => .ok true) := fun σ F H hs Q q =>
  h σ F H hs _ (wp_mono (wp_bind.1 q) fun a q1 x F1 H1 hs1 e1 r1 => by
    obtain ⟨p, dx, z, e, s, d⟩ := r1
    exact ⟨p, G.code, dx, _, .ref G.code, true, by rw [e], rfl, fun w h => h, slt_same hs1.w.fh s, cf.sc, si, kc, q1 _ F1 H1 hs1 e1 (.bl true)⟩)
end
theorem fnr {P : Program} {w : World} {K : PySem.W.Frag} {mg : Str → Option Value} {base : Heap} {CX : CXT} {k : Nat} {f : Addr} {fd : FuncData} {ps : List Str} {sp : Sp} (F : FnOk P w K mg base CX k f fd ps sp) (hb : Binds K fd ps []) : FnR P w K mg base CX k f sp :=
  (F.raw hb .nil).imp fun vs H Q E h => by rw [List.append_nil]; exact h
structure CodeEq (G : Glob) (f : Addr) : Prop where
  at_ : PySem.W.findIn G.K (.ref G.code) (cmpInfo .Eq).2.1 = some (some (.ref f))
  fn : PySem.W.isFn G.K (.ref f) = true
structure CodeCls (G : Glob) (mg : Str → Option Value) : Prop where
  g : mg "Code" = some (.ref G.code)
  si : SlX.SIsi G.K G.code
  kc : PySem.W.kitOne G.K (.ref G.code) (.ref G.code) = some true
  nf : PySem.W.notFirst G.K G.code (.ref G.code) = true
structure De (G : Glob) (x qual : Str) (st : Stmt) (ps : List Str) where
  f : Addr
  fd : FuncData
  Fu : Fun G.K x qual st f fd
  b : Binds G.K fd ps []
  eq : CodeEq G f
end Ty

namespace Ty
open PySem PySem.Spec PyProof.Rows L2
open Enc (enc)
section
variable {G : Glob} {P : Program} {w : World} {mg : Str → Option Value} {base : Heap}
theorem src_set {N : NN} {Γ : Env G} {σ : L2.St} {F H : Hp} {p c : Addr} (hs : HS N Γ σ F H) (hS : N.S = some (p, c)) (hO : ∀ a, N.O a = none) {st ix : Int} {cs : List Int} {H' : Hp} (hp : H' p = some (.lst [.int st, .ref c, .int ix, .int 14])) (hc : H' c = some (.lst (cs.map V.int))) (hl : cs.length ≤ 64) (k : ∀ a, a ≠ p → a ≠ c → H' a = H a) : HS N Γ σ F H' := by
  have s := hs.w.sr p c hS
  have sb := hs.w.sb p c hS
  obtain ⟨st0, ix0, cs0, h1, h2, _⟩ := s.at_
  have ne : ∀ a o, F a = some o → a ≠ p ∧ a ≠ c := fun a o e => ⟨ne_of_none e s.fp, ne_of_none e s.fc⟩
  refine hs.move ⟨fun a u e => ?_, hs.w.f0, hs.w.nw, fun a u nb e => ?_, fun a e => ?_, fun q d e => ?_, hs.w.sb, fun a o x => by rw [hO] at x; cases x⟩ (Same.refl F) (fun q vs hl e => ?_) fun q hl => (hs.held hl).1.f
  · rw [k a (ne a u e).1 (ne a u e).2]; exact hs.w.fh a u e
  · have n1 : a ≠ p := fun z => by
      subst z
      rcases sb.1 with x | x
      · rw [x] at e; cases e
      · exact nb x
    have n2 : a ≠ c := fun z => by
      subst z
      rcases sb.2 with x | x
      · rw [x] at e; cases e
      · exact nb x
    rw [k a n1 n2]; exact hs.w.kp a u nb e
  · by_cases n1 : a = p
    · subst n1; rw [hp] at e; cases e
    · by_cases n2 : a = c
      · subst n2; rw [hc] at e; cases e
      · rw [k a n1 n2] at e; exact hs.w.dm a e
  · rw [hS] at e; cases e
    exact ⟨s.fp, s.fc, s.ne, st, ix, cs, hp, hc, hl⟩
  · have m := (hs.held hl).1.s p c hS
    rw [k q m.1 m.2]; exact e
theorem mod_lt_len {ix : Int} {cs : List Int} : ∃ x, atI (cs.map V.int ++ [.int 0]) (ix % (if (cs.length : Int) > 1 then (cs.length : Int) else 1)) = some (.int x) := by
  have h1 : 0 ≤ ix % (if (cs.length : Int) > 1 then (cs.length : Int) else 1) := Int.emod_nonneg _ (by split <;> omega)
  have h2 : ix % (if (cs.length : Int) > 1 then (cs.length : Int) else 1) < (if (cs.length : Int) > 1 then (cs.length : Int) else 1) := Int.emod_lt_of_pos _ (by split <;> omega)
  generalize hk : ix % (if (cs.length : Int) > 1 then (cs.length : Int) else 1) = k at h1 h2
  have h3 : k.toNat < ((cs ++ [0]).map V.int).length := by
    rw [List.length_map, List.length_append]
    simp
    split at h2 <;> omega
  have e : cs.map V.int ++ [.int 0] = (cs ++ [0]).map V.int := by simp
  have h4 : (k.toNat : Int) = k := by omega
  rw [e, ← h4]
  refine ⟨(cs ++ [0])[k.toNat]'(by simpa using h3), atI_nat ?_⟩
  rw [List.getElem?_eq_getElem h3, List.getElem_map]
def SpMix (K : PySem.W.Frag) : Sp := fun vs H Q _ => ∃ (a : Addr) (ns : List Int) (seed : Int), vs = [.ref a, .int seed] ∧ SqL K H a (ns.map V.int) ∧ ns.length ≤ 64 ∧
  ∀ H' p c st, Same H H' → (∀ b, H' b = none → H b = none) → H p = none → H c = none → p ≠ c → H' p = some (.lst [.int st, .ref c, .int 0, .int 14]) → H' c = some (.lst (ns.map V.int)) → Q (.ref p) H'

def SpLaw (K : PySem.W.Frag) : Sp := fun vs H Q _ => ∃ (a : Addr) (ns : List Int), vs = [.ref a] ∧ SqL K H a (ns.map V.int) ∧ ns.length ≤ 63 ∧ ∀ H', Q (.bl true) H'
theorem hs_law {Γ : Env G} {σ : L2.St} {H' : Hp} {p c : Addr} {E : XK} {st : Int} {ns : List Int} (e1 : H' p = some (.lst [.int st, .ref c, .int 0, .int 14])) (e2 : H' c = some (.lst (ns.map V.int))) (ne : p ≠ c) (hl : ns.length ≤ 64) (sl : ∀ N : NN, N.S = some (p, c) → Slots N (fun _ => none) H' Γ σ) (nown : ∀ e ∈ Γ, e.own = false) : HS (.src (fun _ => none) H' p c E) Γ σ (fun _ => none) H' :=
  ⟨⟨fun a u z => (nomatch z), Same.refl _, fun a o z => (nomatch z), fun a o _ z => z, fun a z => z, fun p' c' z => by cases z; exact ⟨rfl, rfl, ne, st, 0, ns, e1, e2, hl⟩, fun p' c' z => by cases z; exact ⟨.inr (.inl rfl), .inr (.inr rfl)⟩, fun a o z => (nomatch z)⟩, sl _ rfl, fun i j e e' q h1 _ o1 => by
    have := nown e (List.mem_of_getElem? h1)
    rw [o1] at this; cases this⟩
theorem law_cx {H : Hp} {s : Shared} {e : Value} {s' : Shared} (h : L2.CX P w [] H s (fun _ _ _ => False) e s') : False := by
  obtain ⟨_, _, _, _, _, _, _, _, _, _, _, _, z⟩ := h
  exact z
theorem kit_self {K : PySem.W.Frag} {a : Addr} : PySem.W.kitOne K (.ref a) (.ref a) = some true := by
  unfold PySem.W.kitOne
  rw [if_pos]
  simp
theorem first_self {K : PySem.W.Frag} {a : Addr} : PySem.W.notFirst K a (.ref a) = true := by
  unfold PySem.W.notFirst
  simp
end
end Ty

/-! the plain law: what the mirrors compute -/
namespace Ty
open PySem PySem.Spec PyProof.Rows L2
open Enc (enc)
section
variable {α β γ : Type} {E : Exc → Prop}
@[simp] theorem chk_bind (b : Bool) (m : Prog α) (f : α → Prog β) : chk b m >>= f = chk b (m >>= f) := by cases b <;> rfl
theorem ite_bind (b : Bool) (m m' : Prog α) (f : α → Prog β) : (if b then m else m') >>= f = if b then m >>= f else m' >>= f := by cases b <;> rfl
theorem wp_chk_of {b : Bool} {m : Prog α} {P : α → Prop} (hb : b = true) (h : wp m P E) : wp (chk b m) P E := by subst hb; exact h
theorem wp_foldP {f : β → α → Prog β} {Inv : β → Prop} : ∀ {xs : List α} {b : β}, Inv b → (∀ b a, a ∈ xs → Inv b → wp (f b a) Inv E) → wp (foldP f xs b) Inv E
  | [], b, h, _ => h
  | a :: r, b, h, k => wp_bind.2 (wp_mono (k b a List.mem_cons_self h) fun b' h' => wp_foldP h' fun b a m i => k b a (List.mem_cons_of_mem _ m) i)
/-- with what is left -/
theorem wp_foldP' {f : β → α → Prog β} {Inv : List α → β → Prop} : ∀ {xs : List α} {b : β}, Inv xs b → (∀ b a r, Inv (a :: r) b → wp (f b a) (Inv r) E) → wp (foldP f xs b) (Inv []) E
  | [], b, h, _ => h
  | a :: r, b, h, k => wp_bind.2 (wp_mono (k b a r h) fun b' h' => wp_foldP' h' k)
theorem wp_mapP {f : α → Prog β} {Q : α → β → Prop} : ∀ {xs : List α}, (∀ a, a ∈ xs → wp (f a) (Q a) E) → wp (mapP f xs) (fun ys => ys.length = xs.length ∧ (∀ y ∈ ys, ∃ a ∈ xs, Q a y)) E
  | [], _ => ⟨rfl, fun y h => by cases h⟩
  | a :: r, k => wp_bind.2 (wp_mono (k a List.mem_cons_self) fun y hy => wp_bind.2 (wp_mono (wp_mapP fun b m => k b (List.mem_cons_of_mem _ m)) fun ys h => ⟨by simp [h.1], fun z hz => by
      rcases List.mem_cons.1 hz with e | e
      · exact ⟨a, List.mem_cons_self, e ▸ hy⟩
      · obtain ⟨b, m, q⟩ := h.2 z e
        exact ⟨b, List.mem_cons_of_mem _ m, q⟩⟩))
/-- item by item -/
def All2 (Q : α → β → Prop) : List α → List β → Prop
  | [], [] => True
  | a :: r, b :: q => Q a b ∧ All2 Q r q
  | _, _ => False
theorem wp_mapP2 {f : α → Prog β} {Q : α → β → Prop} : ∀ {xs : List α}, (∀ a, a ∈ xs → wp (f a) (Q a) E) → wp (mapP f xs) (All2 Q xs) E
  | [], _ => trivial
  | a :: r, k => wp_bind.2 (wp_mono (k a List.mem_cons_self) fun y hy => wp_bind.2 (wp_mono (wp_mapP2 fun b m => k b (List.mem_cons_of_mem _ m)) fun ys h => ⟨hy, h⟩))
theorem mapP_ok {f : α → Prog β} {g : α → β} : ∀ {xs : List α}, (∀ a ∈ xs, f a = .ok (g a)) → mapP f xs = .ok (xs.map g)
  | [], _ => rfl
  | a :: r, k => by
    show f a >>= _ = _
    rw [k a List.mem_cons_self, ok_bind, mapP_ok fun b m => k b (List.mem_cons_of_mem _ m), ok_bind]
    rfl
theorem compP_ok {t : α → Prog Bool} {f : α → Prog β} {p : α → Bool} {g : α → β} : ∀ {xs : List α}, (∀ a ∈ xs, t a = .ok (p a)) → (∀ a ∈ xs, f a = .ok (g a)) → compP t f xs = .ok ((xs.filter p).map g)
  | [], _, _ => rfl
  | a :: r, k1, k2 => by
    show t a >>= _ = _
    rw [k1 a List.mem_cons_self, ok_bind, List.filter_cons]
    have ih := compP_ok (fun b m => k1 b (List.mem_cons_of_mem _ m)) fun b m => k2 b (List.mem_cons_of_mem _ m)
    cases hp : p a with
    | true => rw [if_pos rfl, if_pos rfl, k2 a List.mem_cons_self, ok_bind, ih, ok_bind]; rfl
    | false => rw [if_neg Bool.false_ne_true, if_neg Bool.false_ne_true, ih]
theorem wp_noerr_of {m : Prog α} {P : α → Prop} (h : wp m P (fun _ => False)) : wp (noerr m) P E := by
  induction m with
  | ok a => exact h
  | err e => exact h.elim
  | stuck => exact h
  | draw n k ih => exact ⟨h.1, h.2.1, fun i a b => ih i (h.2.2 i a b)⟩
theorem small_of {n : Nat} (h : n ≤ 100000) : small n = true := decide_eq_true h
theorem getI_nat {xs : List α} {i : Int} {a : α} (h0 : 0 ≤ i) (h : xs[i.toNat]? = some a) : getI xs i = .ok a := by
  have e : atI xs i = some a := by
    have := atI_nat (xs := xs) h
    rwa [Int.toNat_of_nonneg h0] at this
  unfold getI
  rw [e]
theorem getI_ex {xs : List α} {i : Int} (h0 : 0 ≤ i) (h1 : i < xs.length) : ∃ a, xs[i.toNat]? = some a ∧ a ∈ xs ∧ getI xs i = .ok a := by
  have hlt : i.toNat < xs.length := by omega
  exact ⟨xs[i.toNat], List.getElem?_eq_getElem hlt, List.getElem_mem hlt, getI_nat h0 (List.getElem?_eq_getElem hlt)⟩
theorem sIx_lo (n : Nat) (d : Nat) {i : Int} (h : 0 ≤ i) : HT.sIx n d (some i) = min i.toNat n := by
  have := HT.sIx_nat n d i.toNat
  rwa [Int.toNat_of_nonneg h] at this
theorem cut_to {xs : List α} {i : Int} (h : 0 ≤ i) : cut xs none (some i) = xs.take i.toNat := by
  unfold cut
  rw [HT.sIx_none, sIx_lo _ _ h]
  simp
theorem cut_from {xs : List α} {i : Int} (h : 0 ≤ i) : cut xs (some i) none = xs.drop i.toNat := by
  unfold cut
  rw [HT.sIx_none, sIx_lo _ _ h]
  by_cases hi : i.toNat ≤ xs.length
  · rw [Nat.min_eq_left hi, List.take_of_length_le (by rw [List.length_drop]; omega)]
  · rw [Nat.min_eq_right (by omega), List.drop_of_length_le (by omega), List.drop_of_length_le (by omega)]
    simp
end
/-! ### codes -/
def Lett (many : Int) (c : Nat) : Prop := c = 97 ∨ c = 98 ∨ (c = 99 ∧ many = 3)
def Word (many : Int) (w : Tx) : Prop := (∀ c ∈ w, Lett many c) ∧ 1 ≤ w.length ∧ w.length ≤ 4
structure Cd (many : Int) (ws : List Tx) : Prop where
  m : many = 2 ∨ many = 3
  l1 : 1 ≤ ws.length
  l6 : ws.length ≤ 6
  nd : ws.Nodup
  w : ∀ w ∈ ws, Word many w
/-- leaves of a tree -/
def Apart (x y : Tx) : Prop := ¬ x <+: y ∧ ¬ y <+: x
theorem apart_grow {x y : Tx} {c : Nat} (h : Apart x y) : Apart (x ++ [c]) y := by
  refine ⟨fun p => h.1 ((List.prefix_append x [c]).trans p), fun p => ?_⟩
  rw [List.prefix_concat_iff] at p
  rcases p with e | p
  · exact h.1 (e ▸ List.prefix_append x [c])
  · exact h.2 p
theorem Apart.symm {x y : Tx} (h : Apart x y) : Apart y x := ⟨h.2, h.1⟩
theorem apart_sibs {x : Tx} {c d : Nat} (h : c ≠ d) : Apart (x ++ [c]) (x ++ [d]) := by
  have k : ∀ {c d : Nat}, c ≠ d → ¬ (x ++ [c]) <+: (x ++ [d]) := fun {c d} h p => by
    have e := p.eq_of_length (by simp)
    have := List.append_cancel_left e
    cases this
    exact h rfl
  exact ⟨k h, k (Ne.symm h)⟩
theorem pairwise_split {l r m : List Tx} {x : Tx} (h : (l ++ x :: r).Pairwise Apart) (hm : m.Pairwise Apart) (hx : ∀ y ∈ m, ∀ z, Apart x z → Apart y z) : (l ++ m ++ r).Pairwise Apart := by
  rw [List.pairwise_append] at h
  obtain ⟨h1, h2, h3⟩ := h
  rw [List.pairwise_cons] at h2
  rw [List.append_assoc, List.pairwise_append, List.pairwise_append]
  refine ⟨h1, ⟨hm, h2.2, fun a ha b hb => hx a ha b (h2.1 b hb)⟩, fun a ha b hb => ?_⟩
  rcases List.mem_append.1 hb with q | q
  · exact (hx b q a (h3 a ha x List.mem_cons_self).symm).symm
  · exact h3 a ha b (List.mem_cons_of_mem _ q)
theorem nodup_of_apart {l : List Tx} (h : l.Pairwise Apart) : l.Nodup := h.imp fun {a b} k => fun e => k.1 (by rw [e]; exact List.prefix_refl b)
end Ty

/-! equality of data by types -/
namespace Ty
open PySem PySem.Spec PyProof.Rows L2
open Enc (enc)
class Shp (α : Type) [Enc α] [DecidableEq α] where
  dep : Nat
  ok : α → Prop
  lay : ∀ a : α, ok a → PyData.canLay0 (enc a) = true
  dle : ∀ a : α, PyData.depth (enc a) ≤ dep
  eqv : ∀ a b : α, PyData.eqv (enc a) (enc b) = decide (a = b)
instance : Shp Int := ⟨0, fun _ => True, fun a _ => by simp [Enc.enc, PyData.canLay0], fun a => by simp [Enc.enc, PyData.depth], fun a b => by
  by_cases h : a = b <;> simp [Enc.enc, PyData.eqv, h]⟩
instance : Shp Bool := ⟨0, fun _ => True, fun a _ => by simp [Enc.enc, PyData.canLay0], fun a => by simp [Enc.enc, PyData.depth], fun a b => by
  cases a <;> cases b <;> simp [Enc.enc, PyData.eqv]⟩
def okT (a : Tx) : Prop := PyData.strOk (sx a) = true
instance : Shp (List Nat) := ⟨0, okT, fun a h => by
  show PyData.canLay0 (.str (sx a)) = true
  simp only [PyData.canLay0]
  exact h, fun a => by simp [Enc.enc, PyData.depth], fun a b => by
  by_cases h : a = b
  · subst h; simp [Enc.enc, PyData.eqv]
  · have : ¬ (⟨a.toArray⟩ : Str) = ⟨b.toArray⟩ := fun e => h (by simpa using e)
    simp [Enc.enc, PyData.eqv, h, this]⟩
section
variable {α β : Type} [Enc α] [Enc β] [DecidableEq α] [DecidableEq β] [Shp α] [Shp β]
theorem shp_layAll : ∀ xs : List α, (∀ x ∈ xs, Shp.ok x) → PyData.canLayAll0 (xs.map enc) = true
  | [], _ => by simp [PyData.canLayAll0]
  | x :: xs, h => by
    have h1 := Shp.lay x (h x List.mem_cons_self)
    have h2 := shp_layAll xs fun y m => h y (List.mem_cons_of_mem _ m)
    simp [PyData.canLayAll0, h1, h2]
theorem shp_depAll : ∀ xs : List α, PyData.depthAll (xs.map enc) ≤ Shp.dep α
  | [] => by simp [PyData.depthAll]
  | x :: xs => by
    have h1 := Shp.dle x
    have h2 := shp_depAll xs
    simp [PyData.depthAll]
    omega
theorem shp_eqvAll : ∀ xs ys : List α, PyData.eqvAll (xs.map enc) (ys.map enc) = decide (xs = ys)
  | [], [] => by simp [PyData.eqvAll]
  | [], _ :: _ => by simp [PyData.eqvAll]
  | _ :: _, [] => by simp [PyData.eqvAll]
  | x :: xs, y :: ys => by
    simp only [List.map_cons, PyData.eqvAll, Shp.eqv, shp_eqvAll xs ys]
    by_cases h : x = y <;> by_cases h' : xs = ys <;> simp [h, h']
instance shpT : Shp (List α) := ⟨Shp.dep α + 1, fun a => ∀ x ∈ a, Shp.ok x, fun a h => by
    show PyData.canLay0 (.tuple (a.map enc)) = true
    simp only [PyData.canLay0]
    exact shp_layAll a h, fun a => by
    have := shp_depAll a
    show PyData.depth (.tuple (a.map enc)) ≤ _
    simp [PyData.depth]; omega, fun a b => by
    show PyData.eqv (.tuple (a.map enc)) (.tuple (b.map enc)) = _
    rw [PyData.eqv]; exact shp_eqvAll a b⟩
instance : DecidableEq (L α) := inferInstanceAs (DecidableEq (List α))
instance shpL : Shp (L α) := ⟨Shp.dep α + 1, fun (a : List α) => ∀ x ∈ a, Shp.ok x, fun (a : List α) h => by
    show PyData.canLay0 (.list (List.map enc a)) = true
    simp only [PyData.canLay0]
    exact shp_layAll a h, fun (a : List α) => by
    have := shp_depAll a
    show PyData.depth (.list (a.map enc)) ≤ _
    simp [PyData.depth]; omega, fun a b => by
    show PyData.eqv (.list (List.map enc a)) (.list (List.map enc b)) = _
    rw [PyData.eqv]; exact shp_eqvAll a b⟩
instance shpP : Shp (α × β) := ⟨max (Shp.dep α) (Shp.dep β) + 1, fun a => Shp.ok a.1 ∧ Shp.ok a.2, fun a h => by
    have h1 := Shp.lay a.1 h.1
    have h2 := Shp.lay a.2 h.2
    show PyData.canLay0 (.tuple [enc a.1, enc a.2]) = true
    simp [PyData.canLay0, PyData.canLayAll0, h1, h2], fun a => by
    have h1 := Shp.dle a.1
    have h2 := Shp.dle a.2
    show PyData.depth (.tuple [enc a.1, enc a.2]) ≤ _
    simp [PyData.depth, PyData.depthAll]; omega, fun a b => by
    show PyData.eqv (.tuple [enc a.1, enc a.2]) (.tuple [enc b.1, enc b.2]) = _
    simp only [PyData.eqv, PyData.eqvAll, Shp.eqv]
    rcases a with ⟨a1, a2⟩
    rcases b with ⟨b1, b2⟩
    by_cases h : a1 = b1 <;> by_cases h' : a2 = b2 <;> simp [h, h']⟩
theorem eqP_dec (h : Shp.dep α ≤ 64) {a b : α} (ha : Shp.ok a) (hb : Shp.ok b) : eqP a b = .ok (decide (a = b)) := by
  have k : ∀ a : α, Shp.ok a → SeqAt.shaped (enc a) = true := fun a h' => by
    simp [SeqAt.shaped, Shp.lay a h', Nat.le_trans (Shp.dle a) h]
  unfold eqP
  rw [k a ha, k b hb, Shp.eqv]
  rfl
theorem neP_dec (h : Shp.dep α ≤ 64) {a b : α} (ha : Shp.ok a) (hb : Shp.ok b) : neP a b = .ok (!decide (a = b)) := by
  have k : ∀ a : α, Shp.ok a → SeqAt.shaped (enc a) = true := fun a h' => by
    simp [SeqAt.shaped, Shp.lay a h', Nat.le_trans (Shp.dle a) h]
  unfold neP
  rw [k a ha, k b hb, Shp.eqv]
  rfl
end
theorem eqL_tx {xs ys : List Tx} (hx : ∀ x ∈ xs, okT x) (hy : ∀ x ∈ ys, okT x) : eqP (α := L Tx) (β := L Tx) xs ys = .ok (decide (@Eq (List Tx) xs ys)) := eqP_dec (α := L Tx) (by decide) hx hy
theorem eqT_tx {xs ys : List Tx} (hx : ∀ x ∈ xs, okT x) (hy : ∀ x ∈ ys, okT x) : eqP xs ys = .ok (decide (@Eq (List Tx) xs ys)) := eqP_dec (by decide) hx hy
theorem wp_eq_ok {α : Type} {m : Prog α} {x : α} {P : α → Prop} {E : Exc → Prop} (h : m = .ok x) (hp : P x) : wp m P E := by rw [h]; exact hp
theorem mapP_bind_ok {α β γ : Type} {f : α → Prog β} {g : α → β} {xs : List α} {k : List β → Prog γ} (h : ∀ a ∈ xs, f a = .ok (g a)) : (mapP f xs >>= k) = k (xs.map g) := by rw [mapP_ok h, ok_bind]
theorem memB_no {α : Type} [DecidableEq α] {xs : List α} {a : α} (h : a ∉ xs) : memB a xs = false := by simp [memB, h]
theorem memB_yes {α : Type} [DecidableEq α] {xs : List α} {a : α} (h : a ∈ xs) : memB a xs = true := by simp [memB, h]
theorem bind_step {α β : Type} {m : Prog α} {x : α} {k : α → Prog β} {r : Prog β} (h : m = .ok x) (h2 : k x = r) : (m >>= k) = r := by rw [h, ok_bind]; exact h2
end Ty

/-! split by one sign, join -/
namespace Ty
open PySem PySem.Spec PyProof.Rows L2
open Enc (enc)
theorem splitT_eq {c : Nat} (hc : c < 256) (s : Tx) : splitT s [c] = TL.spl [c] 0 [] s := by
  have h := TL.split_spl (sx s) (sx [c]) (by simp [sx, TL.tl]) (TL.kind_ok (by simp [sx, hc]))
  have e1 : TL.tl (sx s) = s := by simp [sx, TL.tl]
  have e2 : TL.tl (sx [c]) = [c] := by simp [sx, TL.tl]
  rw [e1, e2] at h
  exact h
theorem split_join {c : Nat} (hc : c < 256) {ps : List Tx} (hne : ps ≠ []) (h : ∀ p ∈ ps, c ∉ p) : splitT (joinT [c] ps) [c] = ps := by
  rw [splitT_eq hc]
  exact TL.spl_join hne h
theorem split_one {c : Nat} (hc : c < 256) {p : Tx} (h : c ∉ p) : splitT p [c] = [p] := by
  rw [splitT_eq hc]
  exact TL.spl_last1 h
theorem split_part {c : Nat} (hc : c < 256) {p s : Tx} (h : c ∉ p) : splitT (p ++ c :: s) [c] = p :: splitT s [c] := by
  rw [splitT_eq hc, splitT_eq hc]
  exact TL.spl_part1 h
theorem split_two {c : Nat} (hc : c < 256) {p q : Tx} (hp : c ∉ p) (hq : c ∉ q) : splitT (p ++ c :: q) [c] = [p, q] := by rw [split_part hc hp, split_one hc hq]
theorem joinL_length (c : Nat) : ∀ ps : List Tx, (TL.joinL [c] ps).length ≤ sumLen ps + ps.length
  | [] => by simp [TL.joinL, sumLen]
  | [p] => by simp [TL.joinL, sumLen]
  | p :: q :: r => by
    have ih := joinL_length c (q :: r)
    unfold sumLen at ih ⊢
    simp only [TL.joinL, List.length_append, List.map_cons, List.sum_cons, List.length_cons, List.length_nil] at ih ⊢
    omega
theorem joinT_length (c : Nat) (ps : List Tx) : (joinT [c] ps).length ≤ sumLen ps + ps.length := joinL_length c ps
theorem sumLen_le {n : Nat} : ∀ {ps : List Tx}, (∀ p ∈ ps, p.length ≤ n) → sumLen ps ≤ ps.length * n
  | [], _ => by simp [sumLen]
  | p :: r, h => by
    have ih := sumLen_le fun q m => h q (List.mem_cons_of_mem _ m)
    have h1 := h p List.mem_cons_self
    unfold sumLen at ih ⊢
    rw [List.map_cons, List.sum_cons, List.length_cons, Nat.add_mul]
    omega
/-- what stands between blanks -/
def flds (s : Tx) : List Tx := (splitT s [32]).filter fun p => !decide (p = [])
theorem flds_nil : flds [] = [] := by
  unfold flds
  rw [split_one (by decide) (by simp)]
  rfl
theorem flds_blank (s : Tx) : flds (32 :: s) = flds s := by
  have h : splitT (32 :: s) [32] = [] :: splitT s [32] := split_part (p := []) (by decide) (by simp)
  unfold flds
  rw [h, List.filter_cons]
  simp
theorem flds_blanks (k : Nat) (s : Tx) : flds (List.replicate k 32 ++ s) = flds s := by
  induction k with
  | zero => rfl
  | succ k ih => rw [List.replicate_succ, List.cons_append, flds_blank, ih]
theorem flds_part {p s : Tx} (hp : 32 ∉ p) (ne : p ≠ []) : flds (p ++ 32 :: s) = p :: flds s := by
  unfold flds
  rw [split_part (by decide) hp, List.filter_cons]
  simp [ne]
theorem flds_one {p : Tx} (hp : 32 ∉ p) (ne : p ≠ []) : flds p = [p] := by
  unfold flds
  rw [split_one (by decide) hp, List.filter_cons]
  simp [ne]
theorem mulS_blank (n : Int) : mulS [32] n = List.replicate n.toNat 32 := by
  unfold mulS
  induction n.toNat with
  | zero => rfl
  | succ k ih => rw [List.replicate_succ, List.flatten_cons, ih]; rfl
theorem split_length {c : Nat} (hc : c < 256) : ∀ (s : Tx) (acc : Tx), (TL.spl [c] 0 acc s).length ≤ s.length + 1
  | [], acc => by rw [TL.spl_nil]; simp
  | x :: s, acc => by
    by_cases h : TL.pre [c] (x :: s) = true
    · rw [TL.spl_hit h]
      have := split_length hc s []
      simp at this ⊢
      omega
    · rw [TL.spl_miss (by simpa using h)]
      have := split_length hc s (acc ++ [x])
      simp at this ⊢
      omega
theorem splitT_length {c : Nat} (hc : c < 256) (s : Tx) : (splitT s [c]).length ≤ s.length + 1 := by
  rw [splitT_eq hc]
  exact split_length hc s []
end Ty

namespace TyL
open PySem PySem.Spec PyProof.Rows L2
/-- X(), X an own exception class without own __init__ -/
theorem pmk_own0 {X : Cx} {C : Addr} {bmB : List Value} {B newId initId : String} {x : Str} {p pos : Pos} (F : ExcBaseFacts B newId initId bmB) (q : PySem.W.excIn X.K C bmB newId = true) (gC : X.mg x = some (.ref C))
    (kC : PySem.W.keepIn X.K (.ref C) = true) (r : Raises X (.ref C)) (hg : Gl X x) (hdb : (x == ("__debug__" : Str)) = false := by decide) :
    PMk X (.Call (.Name x p) [] [] pos) (fun _ H Q => Q (.ref C) none H) := by
  intro pins s σ H Q I h
  refine wpAny_Call_Name_kw (ld_glob I hg gC ?_ hdb)
  refine PySem.W.callWith_K0 I.kIn kC ?_
  show wpAny _ _ (call (.ref C) []) _ _ _
  obtain ⟨bm, N, nm, qn, bs, hdct, sn, sub, ab, col, dd, k0, k1, k2, k3, k5, mN, hC, hN, hni, T⟩ := exc_obj I.kIn q
  refine wpAny_call_exc_subT F T hC hN hni (fun h' e hm => ?_) (by decide)
  exact mk_of I hm r h (I.hok.gone hm.new)
end TyL
namespace Ty
open PySem PySem.Spec PyProof.Rows L2
open Enc (enc)
variable {G : Glob}
/-- an own exception class without __init__ -/
structure Xc (G : Glob) (mg : Str → Option Value) (nm : Str) (x : String) : Prop where
  g : mg nm = some (.ref (G.exc x))
  ex : PySem.W.excIn G.K (G.exc x) [.type "ValueError", .type "Exception", .type "BaseException", .type "object"] "ValueError.__new__" = true
  kp : PySem.W.keepIn G.K (.ref (G.exc x)) = true
  b : PySem.W.subIn G.K (.ref (G.exc x)) (.type "BaseException") = some true
  t : PySem.W.typeIn G.K (.ref (G.exc x)) = some (.type "type")
section
variable {α β ω ρ τ : Type} [iα : Rp G α] {N : NN} {Γ Γ' : Env G} {te ta tb : TE} {tt : TT} {tz ts : TS}
/-- a block that only raises: what -/
def raiseP {ω : Type} (r : Prog Exc) : Prog ω := r >>= Prog.err
theorem wp_raise {r : Prog Exc} {P : ω → Prop} {E : Exc → Prop} : wp (raiseP r : Prog ω) P E ↔ wp r E E := by
  unfold raiseP
  rw [wp_bind]
  exact Iff.rfl
def SX (N : NN) (Γ : Env G) (ts : TS) (r : Prog Exc) : Prop := ∀ σ F H D, HS N Γ σ F H → wp r (EP G N) (EP G N) → ts D σ H
theorem sx_raise0 (x : String) : SX N Γ (tSeq (fun _ σ H => N.E (.ref (G.exc x)) none H) tz) (.ok ⟨x, []⟩) := fun σ F H D hs q => q F H _ none hs.w ⟨rfl, .inl ⟨rfl, rfl⟩⟩
theorem sv_raise {J : Aim ω} {r : Prog Exc} (h : SX N Γ ts r) : SV N Γ ts J (raiseP r) := fun σ F H D hs q => h σ F H D hs (wp_raise.1 q)
theorem sv_ifraise {J : Aim ω} {m0 : Prog Bool} {r : Prog Exc} {m2 : Prog ω} (h0 : TV N Γ tt m0) (h1 : SX N Γ ts r) (h2 : SV N Γ tz J m2) : SV N Γ (tSeq (tIfS tt ts tNext) tz) J (m0 >>= fun c => if c then raiseP r else m2) := fun σ F H D hs q =>
  h0 σ F H hs _ (wp_mono (wp_bind.1 q) fun b k F' H' hs' e => by
    cases b with
    | true => exact h1 σ F' H' _ hs' (wp_raise.1 k)
    | false => exact h2 σ F' H' D hs' (wp_mono k fun o x => J.mono e x))
/-! try -/
def catchP (h : Exc → Option (Prog β)) : Prog β → Prog β
  | .ok a => .ok a
  | .err e => match h e with
    | some p => p
    | none => .err e
  | .stuck => .stuck
  | .draw n k => .draw n fun i => catchP h (k i)
theorem wp_catch {h : Exc → Option (Prog β)} {m : Prog β} {P : β → Prop} {E : Exc → Prop} : wp (catchP h m) P E ↔ wp m P (fun e => match h e with
    | some p => wp p P E
    | none => E e) := by
  induction m with
  | ok a => exact Iff.rfl
  | err e =>
    show wp (match h e with | some p => p | none => .err e) P E ↔ _
    show _ ↔ (match h e with | some p => wp p P E | none => E e)
    cases h e <;> exact Iff.rfl
  | stuck => exact Iff.rfl
  | draw n k ih => exact ⟨fun x => ⟨x.1, x.2.1, fun i a b => (ih i).1 (x.2.2 i a b)⟩, fun x => ⟨x.1, x.2.1, fun i a b => (ih i).2 (x.2.2 i a b)⟩⟩
structure Hd (β : Type) where
  c : String
  p : Prog β
  ts : Addr → Value → Option Addr → TS
def hsel (known : List String) (e : Exc) : List (String × Prog β) → Option (Prog β)
  | [] => none
  | (c, p) :: r => if e.cls = c then some p else if e.cls ∈ known then hsel known e r else some .stuck
def Plain : Env G → Prop
  | [] => True
  | e :: Γ => (match e with
    | .dead => True
    | @Ent.per _ _ _ _ => True
    | .src => True
    | _ => False) ∧ Plain Γ
theorem Plain.at : ∀ {Γ : Env G}, Plain Γ → ∀ {i : Nat} {e : Ent G}, Γ[i]? = some e → (match e with
    | .dead => True
    | @Ent.per _ _ _ _ => True
    | .src => True
    | _ => False)
  | [], _, i, e, h => by simp at h
  | e :: Γ, h, 0, e', q => by cases q; exact h.1
  | e :: Γ, h, i + 1, e', q => Plain.at h.2 (i := i) q
/-- the frame as it stands now, taken as a start -/
def NN.now (N : NN) (F H : Hp) (E : XK) : NN := ⟨F, H, fun a => ∃ p c, N.S = some (p, c) ∧ (a = p ∨ a = c), N.S, E, fun _ => none⟩
theorem HS.now {σ : L2.St} {F H : Hp} {E : XK} (hs : HS N Γ σ F H) (hp : Plain Γ) : HS (N.now F H E) Γ σ F H := by
  refine ⟨⟨hs.w.fh, Same.refl F, fun a o z => .inl z, fun a o _ z => z, fun a z => z, hs.w.sr, fun p c z => ⟨.inr ⟨p, c, z, .inl rfl⟩, .inr ⟨p, c, z, .inr rfl⟩⟩, fun a o z => (nomatch z)⟩, hs.sl.imp fun i e o h1 h2 s => ?_, hs.ds⟩
  have := hp.at h1
  cases e with
  | dead => trivial
  | per a => exact s
  | src => exact s
  | lst xs => exact this.elim
  | ins C fs w => exact this.elim
  | bor xs => exact this.elim
  | ptr p => exact this.elim
theorem nowB {N : NN} : ∀ a : Addr, (fun a => ∃ p c, N.S = some (p, c) ∧ (a = p ∨ a = c) : Addr → Prop) a → ∃ p c, N.S = some (p, c) ∧ N.S = some (p, c) ∧ (a = p ∨ a = c) := fun a ⟨p, c, x, y⟩ => ⟨p, c, x, x, y⟩
def hV (G : Glob) {β : Type} (l : List (Hd β)) : List (Value × (Addr → Value → Option Addr → TS)) := l.map fun h => (.ref (G.exc h.c), h.ts)
theorem many_ok {Γi : β → Env G} {known : List String} {σ : L2.St} {F H : Hp} {D : Ends} {Wout : WX} {e : Exc} {C : Value} {d : Option Addr} (hs : HS N Γ σ F H) (er : ERep G e C d F H) : ∀ (l : List (Hd β)),
    (∀ h ∈ l, ∀ a cls d, SV N Γ (h.ts a cls d) (JN N Γi) h.p) → (∀ y, ∀ h ∈ l, (y = h.c ∨ y ∈ known) → PySem.W.exmOne G.K (.ref (G.exc y)) (.ref (G.exc h.c)) = some (decide (y = h.c))) →
    (match hsel known e (l.map fun h => (h.c, h.p)) with
    | some p => wp p (fun b => (JN N Γi).J F b D) (EP G N)
    | none => Wout C d σ H) → wMany G.K Wout D (hV G l) C d σ H
  | [], _, _, q => q
  | h :: l, hsv, hx, q => by
    have eC : C = .ref (G.exc e.cls) := er.1
    unfold hV
    rw [List.map_cons]
    show ∃ b, PySem.W.exmOne G.K C (.ref (G.exc h.c)) = some b ∧ (b = true → ∀ a, H a = none → h.ts a C d D σ H) ∧ (b = false → wMany G.K Wout D (hV G l) C d σ H)
    rw [List.map_cons] at q
    unfold hsel at q
    by_cases h1 : e.cls = h.c
    · rw [if_pos h1] at q
      refine ⟨true, ?_, fun _ a _ => hsv h List.mem_cons_self a C d σ F H D hs q, fun z => (nomatch z)⟩
      rw [eC, hx e.cls h List.mem_cons_self (.inl h1), decide_eq_true h1]
    · rw [if_neg h1] at q
      by_cases h2 : e.cls ∈ known
      · rw [if_pos h2] at q
        refine ⟨false, ?_, fun z => (nomatch z), fun _ => many_ok hs er l (fun h m => hsv h (List.mem_cons_of_mem _ m)) (fun y h m => hx y h (List.mem_cons_of_mem _ m)) q⟩
        rw [eC, hx e.cls h List.mem_cons_self (.inr h2), decide_eq_false h1]
      · rw [if_neg h2] at q
        exact q.elim
theorem sv_try {Γi : β → Env G} {te : XK → TE} {m : Prog α} {b0 : β} {known : List String} {l : List (Hd β)} {J : Aim ω} {k : β → Prog ω} (hp : Plain Γ)
    (h : ∀ N' : NN, N'.S = N.S → EV N' Γ (te N'.E) m) (hw0 : ∀ σ F H, HS N Γ σ F H → HS N (Γi b0) σ F H)
    (hsv : ∀ h ∈ l, ∀ a cls d, SV N Γ (h.ts a cls d) (JN N Γi) h.p) (hx : ∀ y, ∀ h ∈ l, (y = h.c ∨ y ∈ known) → PySem.W.exmOne G.K (.ref (G.exc y)) (.ref (G.exc h.c)) = some (decide (y = h.c)))
    (hk : ∀ b, SV N (Γi b) tz J (k b)) :
    SV N Γ (tSeq (fun D σ H => tSeq (tDrop (fun σ H Q => te (fun c d H => wMany G.K (fun c d _ H => N.E c d H) D (hV G l) c d σ H) σ H Q)) tNext D σ H) tz) J (catchP (fun e => hsel known e (l.map fun h => (h.c, h.p))) (m >>= fun _ => .ok b0) >>= k) := fun σ F H D hs q => by
  have q1 := wp_catch.1 (wp_bind.1 q)
  have q2 := wp_bind.1 q1
  let E' : XK := fun c d H => wMany G.K (fun c d _ H => N.E c d H) { D with nx := tz D } (hV G l) c d σ H
  have hn : HS (N.now F H E') Γ σ F H := hs.now hp
  refine h (N.now F H E') rfl σ F H hn _ (wp_imp q2 (fun a kk v F' H' hs' e r => ?_) fun e he F' H' C d w r => ?_)
  · obtain ⟨h2, e2⟩ := hs.call nowB hs'.w
    exact hk b0 σ F' H' D (hw0 _ _ _ h2) (wp_mono kk fun o x => J.mono e2 x)
  · obtain ⟨h2, e2⟩ := hs.call nowB w
    refine many_ok (Γi := Γi) (known := known) h2 r l hsv hx ?_
    revert he
    cases hsel known e (l.map fun h => (h.c, h.p)) with
    | some p => exact fun he => wp_mono he fun b kk σ2 F2 H2 hs2 e3 => hk b σ2 F2 H2 D hs2 (wp_mono kk fun o x => J.mono (Same.trans e2 e3) x)
    | none => exact fun he => he F' H' C d h2.w r
end
end Ty

namespace Ty
open PySem PySem.Spec PyProof.Rows L2
open Enc (enc)
variable {G : Glob}
/-! an own exception with two fields -/
def SpXi2 (C : Addr) (f1 f2 : Str) : Sp := fun vs H Q _ => ∃ a v1 v2, vs = [.ref a, v1, v2] ∧ H a = some (exo a C none) ∧ ∀ dx, H dx = none → dx ≠ a → Q .non (upd (upd (upd H dx (exd dx [(f1, v1)])) a (exo a C (some dx))) dx (exd dx [(f2, v2), (f1, v1)]))
structure Xi2 (G : Glob) (mg : Str → Option Value) (nm : Str) (x : String) (f1 f2 : Str) (qual : Str) (st : Stmt) (ps : List Str) where
  f : Addr
  fd : FuncData
  Fu : Fun G.K "__init__" qual st f fd
  b : Binds G.K fd ps []
  g : mg nm = some (.ref (G.exc x))
  T : OexC G.K (G.exc x)
  iC : PySem.W.findIn G.K (.ref (G.exc x)) "__init__" = some (some (.ref f))
  tI : PySem.W.typeIn G.K (.ref f) = some (.type "function")
  n1 : PySem.W.findIn G.K (.ref (G.exc x)) f1 = some none
  n2 : PySem.W.findIn G.K (.ref (G.exc x)) f2 = some none
  xf : XfC G.K (G.exc x)
theorem fn_xi2 {P : Program} {w : World} {mg : Str → Option Value} {base : Heap} {nm f1 f2 qual : Str} {x : String} {st : Stmt} {ps Ns : List Str} (I : Xi2 G mg nm x f1 f2 qual st ps) (S : FnScope Ns ps (defScope st)) (hNs : Ns.length = 3) (hps : ps.length = 3)
    (hb : ∀ (cdv : Value) (A : Around) (outer : List PySem.Env) (s : Shared) (H : Hp) (E : XK), PSs (cxOf (L2.CX P w) P w G.K mg base Ns qual (defScope st) I.f cdv A outer s H E) (defBody st) (tSeq (tOst G.K f1 (tVar 0) (tVar 1)) (tSeq (tOst G.K f2 (tVar 0) (tVar 2)) tNext))) :
    FnOk P w G.K mg base (L2.CX P w) 1 I.f I.fd ps (SpXi2 (G.exc x) f1 f2) :=
  I.Fu.okX S (fun vs H Q E ⟨a, v1, v2, e, _⟩ => by rw [e, hps]; rfl) fun cdv A outer s H vs Q E hr ⟨a, v1, v2, e, ha, q⟩ => by
    subst e
    refine ⟨_, hb cdv A outer s H E, ?_⟩
    match Ns, hNs with
    | [m1, m2, m3], _ =>
      refine ⟨v1, rfl, .ref a, rfl, a, G.exc x, rfl, I.T, I.n1, .inl ⟨ha, fun dx hdx ne => ?_⟩⟩
      refine ⟨v2, rfl, .ref a, rfl, a, G.exc x, rfl, I.T, I.n2, .inr ⟨dx, [(f1, v1)], upd_same, ?_, by show 1 ≤ 900; decide, ?_⟩⟩
      · rw [upd_ne ne]; exact upd_same
      · exact q dx hdx ne
section
variable {α β ω : Type} [iα : Enc α] [iβ : Enc β] {N : NN} {Γ : Env G} {ta tb : TE} {tz : TS} {m1 : Prog α} {m2 : Prog β}
theorem sx_raise2 {x : String} {f1 f2 : Str} (hf : fieldsOf x = [f2, f1]) (h1 : EV N Γ ta m1) (h2 : EV N Γ tb m2) :
    SX N Γ (tSeq (fun _ σ H => tMkO (G.exc x) (SpXi2 (G.exc x) f1 f2) [] (tCons ta (tCons tb tNil)) σ H fun cls d H' => N.E cls d H') tz) (m1 >>= fun a => m2 >>= fun b => .ok ⟨x, [enc b, enc a]⟩) := fun σ F H D hs q =>
  h1 σ F H hs _ (wp_mono (wp_bind.1 q) fun a q1 v1 F1 H1 hs1 e1 r1 => h2 σ F1 H1 hs1 _ (wp_mono (wp_bind.1 q1) fun b q2 v2 F2 H2 hs2 e2 r2 => by
    refine ⟨by show 2 ≤ 1000; decide, fun e he => ⟨e, v1, v2, rfl, upd_same, fun dx hdx ne => ⟨rfl, dx, [(f2, v2), (f1, v1)], ?_, upd_same, ?_, ?_⟩⟩⟩
    · rw [upd_ne (Ne.symm ne)]; exact upd_same
    · rw [upd_ne ne] at hdx; exact hdx
    · have hd2 : H2 dx = none := by rw [upd_ne ne] at hdx; exact hdx
      obtain ⟨hs3, e3⟩ := hs2.laid (o := .xd [(f2, v2), (f1, v1)]) hd2
      have eh : upd (del (upd (upd (upd (upd H2 e (exo e (G.exc x) none)) dx (exd dx [(f1, v1)])) e (exo e (G.exc x) (some dx))) dx (exd dx [(f2, v2), (f1, v1)])) e) dx (.xd [(f2, v2), (f1, v1)]) = upd H2 dx (.xd [(f2, v2), (f1, v1)]) := by
        funext b
        by_cases hb : b = dx
        · subst hb; rw [upd_same, upd_same]
        · rw [upd_ne hb, upd_ne hb]
          by_cases hbe : b = e
          · subst hbe; rw [del_same, he]
          · rw [del_ne hbe, upd_ne hb, upd_ne hbe, upd_ne hb, upd_ne hbe]
      show N.E _ _ _
      rw [eh]
      refine q2 _ _ _ (some dx) hs3.w ⟨rfl, .inr ⟨dx, [v2, v1], rfl, ?_, by rw [hf]; rfl, .cons (dp_same e3 _ _ r2) (.cons (dp_same (Same.trans e2 e3) _ _ r1) .nil)⟩⟩
      rw [upd_same, hf]
      rfl))
/-- a block that calls what never comes back -/
def outP {ω : Type} (n : Prog α) : Prog ω := n >>= fun _ => .stuck
theorem wp_out {α ω : Type} {n : Prog α} {P : ω → Prop} {E : Exc → Prop} : wp (outP n : Prog ω) P E ↔ wp n (fun _ => False) E := by
  unfold outP
  rw [wp_bind]
  exact Iff.rfl
theorem sv_ifout {ρ ξ : Type} [Rp G ρ] {tt : TT} {J : Aim ω} {m0 : Prog Bool} {n : Prog (ρ × ξ)} {Γx : ξ → Env G} {m2 : Prog ω} (h0 : TV N Γ tt m0) (h1 : EVX N Γ ta n Γx) (h2 : SV N Γ tz J m2) : SV N Γ (tSeq (tIfS tt (tSeq (tDrop ta) tNext) tNext) tz) J (m0 >>= fun c => if c then outP n else m2) := fun σ F H D hs q =>
  h0 σ F H hs _ (wp_mono (wp_bind.1 q) fun b k F' H' hs' e => by
    cases b with
    | true => exact h1 σ F' H' hs' _ (wp_mono (wp_out.1 k) fun _ z => z.elim)
    | false => exact h2 σ F' H' D hs' (wp_mono k fun o x => J.mono e x))
end
/-! except X as e, of a class with fields -/
structure XObj where
  a : Addr
  dd : Addr
  cls : String
  args : List PyData
instance rpX : Rp G XObj := ⟨fun x v F => v = .ref x.a ∧ ∃ vs, F x.dd = some (.xd ((fieldsOf x.cls).zip vs)) ∧ (fieldsOf x.cls).length = vs.length ∧ DqAll G.K F vs x.args, fun e ⟨h1, vs, h2, h3, h4⟩ => ⟨h1, vs, e _ _ h2, h3, dpAll_same e _ _ h4⟩⟩
def argX (args : List PyData) (j : Nat) : Prog PyData := match args[j]? with
  | some d => .ok d
  | none => .stuck
theorem zip_lookup {n : Str} {v : V} : ∀ {ns : List Str} {vs : List V} {j : Nat}, ns.idxOf n = j → ns[j]? = some n → vs[j]? = some v → (ns.zip vs).lookup n = some v
  | [], _, j, _, h, _ => by simp at h
  | m :: ns, [], j, _, _, h => by simp at h
  | m :: ns, u :: vs, j, hi, hn, hv => by
    rw [List.zip_cons_cons, List.lookup_cons]
    rw [List.idxOf_cons] at hi
    by_cases e : m = n
    · subst e
      have hj : j = 0 := by rw [← hi]; simp
      subst hj
      have : u = v := Option.some.inj hv
      subst this
      simp
    · have e1 : (n == m) = false := beq_eq_false_iff_ne.2 fun z => e z.symm
      have e2 : (m == n) = false := beq_eq_false_iff_ne.2 e
      rw [e2] at hi
      simp at hi
      rw [e1]
      cases j with
      | zero => omega
      | succ j =>
        have hj : ns.idxOf n = j := by omega
        exact zip_lookup hj hn hv
section
variable {β ω α : Type} [iα : Rp G α] {N : NN} {Γ : Env G} {tz : TS} {i : Nat}
theorem ev_xf {x : XObj} {C : Addr} {n : Str} (j : Nat) (hi : Γ[i]? = some (.per x)) (hk : (fieldsOf x.cls).idxOf n = j) (hn : (fieldsOf x.cls)[j]? = some n) : EV N Γ (tXf x.a (.ref C) (some x.dd) C n (tVar i)) (argX x.args j) := fun σ F H hs Q q => by
  obtain ⟨o, e0, v, e1, h1, vs, h2, h3, h4⟩ := hs.sl.get hi
  subst e1 h1
  refine ⟨_, e0, rfl, rfl, x.dd, (fieldsOf x.cls).zip vs, ?_⟩
  unfold argX at q
  cases hc : x.args[j]? with
  | none => rw [hc] at q; exact q.elim
  | some d =>
    rw [hc] at q
    obtain ⟨v, hv, dv⟩ := dpAll_at (α := PyData) (xs := x.args) (F := F) (K := G.K) (vs := vs) (by rw [show x.args.map (enc : PyData → PyData) = x.args from List.map_id _]; exact h4) hc
    exact ⟨v, rfl, hs.w.fh _ _ h2, zip_lookup hk hn hv, q v F H hs (Same.refl F) dv⟩
theorem HS.drop {σ : L2.St} {F H : Hp} (hs : HS N Γ σ F H) (hi : Γ[i]? = some .dead ∨ Γ[i]? = none) (o : Option V) : HS N Γ (σ.set i o) F H := by
  refine ⟨hs.w, Slots.of (by rw [List.length_set]; exact hs.sl.len) fun j e u h1 h2 => ?_, fun j k e e' p h1 h2 o1 o2 s1 s2 => ?_⟩
  · by_cases hj : j = i
    · subst hj
      rcases hi with z | z
      · rw [z] at h1; cases h1; trivial
      · rw [z] at h1; cases h1
    · rw [List.getElem?_set_ne (Ne.symm hj)] at h2
      obtain ⟨o', e1, s⟩ := hs.sl.get h1
      rw [h2] at e1; cases e1; exact s
  · have ne : ∀ {j : Nat} {e : Ent G}, Γ[j]? = some e → e.own = true → j ≠ i := fun {j e} h o z => by
      subst z
      rcases hi with z | z
      · rw [z] at h; cases h; cases o
      · rw [z] at h; cases h
    rw [List.getElem?_set_ne (Ne.symm (ne h1 o1))] at s1
    rw [List.getElem?_set_ne (Ne.symm (ne h2 o2))] at s2
    exact hs.ds j k e e' p h1 h2 o1 o2 s1 s2
theorem sv_tryas {Γi : β → Env G} {te : XK → TE} {m : Prog α} {b0 : β} {known : List String} {c : String} {p : Exc → Prog β} {ts : Addr → Value → Option Addr → TS} {J : Aim ω} {k : β → Prog ω} (hp : Plain Γ) (hfc : fieldsOf c ≠ [])
    (h : ∀ N' : NN, N'.S = N.S → EV N' Γ (te N'.E) m) (hw0 : ∀ σ F H, HS N Γ σ F H → HS N (Γi b0) σ F H)
    (hdead : ∀ b, (Γi b)[i]? = some .dead) (harg : ∀ e : Exc, e.cls = c → e.args = [] → p e = .stuck)
    (hsv : ∀ a dd (e : Exc), e.cls = c → SV N (Γ.set i (.per (XObj.mk a dd c e.args))) (ts a (.ref (G.exc c)) (some dd)) (JN N Γi) (p e))
    (hx : ∀ y, (y = c ∨ y ∈ known) → PySem.W.exmOne G.K (.ref (G.exc y)) (.ref (G.exc c)) = some (decide (y = c)))
    (hk : ∀ b, SV N (Γi b) tz J (k b)) :
    SV N Γ (tSeq (fun D σ H => tSeq (tDrop (fun σ H Q => te (fun cl d H => wAs G.K (.ref (G.exc c)) i ts (fun cl d _ H => N.E cl d H) D cl d σ H) σ H Q)) tNext D σ H) tz) J (catchP (fun e => if e.cls = c then some (p e) else if e.cls ∈ known then none else some .stuck) (m >>= fun _ => .ok b0) >>= k) := fun σ F H D hs q => by
  have q1 := wp_catch.1 (wp_bind.1 q)
  have q2 := wp_bind.1 q1
  let E' : XK := fun cl d H => wAs G.K (.ref (G.exc c)) i ts (fun cl d _ H => N.E cl d H) { D with nx := tz D } cl d σ H
  have hn : HS (N.now F H E') Γ σ F H := hs.now hp
  refine h (N.now F H E') rfl σ F H hn _ (wp_imp q2 (fun a kk v F' H' hs' e r => ?_) fun e he F' H' C d w r => ?_)
  · obtain ⟨h2, e2⟩ := hs.call nowB hs'.w
    exact hk b0 σ F' H' D (hw0 _ _ _ h2) (wp_mono kk fun o x => J.mono e2 x)
  · obtain ⟨h2, e2⟩ := hs.call nowB w
    have eC : C = .ref (G.exc e.cls) := r.1
    show ∃ b, PySem.W.exmOne G.K C (.ref (G.exc c)) = some b ∧ _
    by_cases h1 : e.cls = c
    · rw [if_pos h1] at he
      refine ⟨true, by rw [eC, hx e.cls (.inl h1), decide_eq_true h1], fun _ a _ => ?_, fun z => (nomatch z)⟩
      rcases r.2 with ⟨ea, ed⟩ | ⟨dx, vs, ed, hF, hl, da⟩
      · have he : wp (p e) _ _ := he
        rw [harg e h1 ea] at he
        exact he.elim
      · subst ed
        rw [eC, h1]
        have rx : Rp.rp (G := G) (XObj.mk a dx c e.args) (.ref a) F' := ⟨rfl, vs, by rw [← h1]; exact hF, by rw [← h1]; exact hl, da⟩
        refine hsv a dx e h1 _ F' H' _ (h2.setPer i rx) (wp_mono he fun b kk σ2 F2 H2 hs2 e3 => ?_)
        exact hk b _ F2 H2 D (hs2.drop (.inl (hdead b)) none) (wp_mono kk fun o x => J.mono (Same.trans e2 e3) x)
    · rw [if_neg h1] at he
      by_cases h3 : e.cls ∈ known
      · rw [if_pos h3] at he
        exact ⟨false, by rw [eC, hx e.cls (.inr h3), decide_eq_false h1], fun z => (nomatch z), fun _ => he F' H' C d h2.w r⟩
      · rw [if_neg h3] at he
        exact he.elim
end
theorem exm_mk {K : PySem.W.Frag} {Y X : Addr} {v : Bool} (b : PySem.W.subIn K (.ref X) (.type "BaseException") = some true) (i : PySem.W.isClsIn K X = true) (t : PySem.W.typeIn K (.ref X) = some (.type "type")) (s : PySem.W.subIn K (.ref Y) (.ref X) = some v) : PySem.W.exmOne K (.ref Y) (.ref X) = some v := by
  unfold PySem.W.exmOne
  rw [if_pos (by rw [b]; rfl)]
  unfold PySem.W.kitCls
  have i' : (PySem.W.clsIn K X).isSome = true := i
  show (if ((PySem.W.clsIn K X).isSome && PySem.W.typeIn K (.ref X) == some (.type "type")) = true then PySem.W.subIn K (.ref Y) (.ref X) else none) = some v
  rw [if_pos (by rw [i', t]; simp)]
  exact s
theorem opv_ninS : OPV (G := G) (α := Tx) (β := Tx) (γ := Bool) (fun x y H Q => ∃ i j, x = .str i ∧ y = .str j ∧ Q (.bl (!(!(Builtin.Str.occurrences j i 0 j.length 1).isEmpty))) H) (fun a b => .ok (!subS a b)) := fun N Γ σ F H x y a b hs ra rb Q q => by
  have e1 : x = .str (sx a) := Scl.dp (α := Tx) ra
  have e2 : y = .str (sx b) := Scl.dp (α := Tx) rb
  exact ⟨sx a, sx b, e1, e2, q _ F H hs (Same.refl F) (.bl _)⟩
end Ty

namespace TyL
open PySem PySem.Spec PyProof.Rows L2
section
variable {X : Cx}
def rInDT (K : PySem.W.Frag) (neg : Bool) : R2 := fun x y H Q => ∃ d ds, Dp K H x d ∧ Dp K H y (.tuple ds) ∧ SeqAt.shaped d = true ∧ SeqAt.shaped (.tuple ds) = true ∧ Q (.bl (if neg then !ds.any fun z => PyData.eqv z d else ds.any fun z => PyData.eqv z d)) H
theorem op_inDT (hu : X.A.units + 65 < cLine) : OpR X (compareOp .In) (rInDT X.K false) := by
  intro pins s σ H x y v u Q I rx ry h
  obtain ⟨d, ds, hd, he, sd, se, q⟩ := h
  obtain ⟨as, r1⟩ := Dp.reads I d x v hd rx
  obtain ⟨bs, r2⟩ := Dp.reads I (.tuple ds) y u he ry
  exact SeqAt.in_tuple_reads r2 r1 (SeqAt.canLay_of_shaped se) (SeqAt.canLay_of_shaped sd) (room_in_shaped sd hu) ⟨.bl _, H, I, rfl, q⟩
theorem op_notInDT (hu : X.A.units + 65 < cLine) : OpR X (compareOp .NotIn) (rInDT X.K true) := by
  intro pins s σ H x y v u Q I rx ry h
  obtain ⟨d, ds, hd, he, sd, se, q⟩ := h
  obtain ⟨as, r1⟩ := Dp.reads I d x v hd rx
  obtain ⟨bs, r2⟩ := Dp.reads I (.tuple ds) y u he ry
  exact SeqAt.notIn_tuple_reads r2 r1 (SeqAt.canLay_of_shaped se) (SeqAt.canLay_of_shaped sd) (room_in_shaped sd hu) ⟨.bl _, H, I, rfl, q⟩
end
theorem room65 {k : Nat} {A : Around} (h : Room k A) : A.units + 65 < cLine := by
  have := h.un
  omega
end TyL
namespace Ty
open PySem PySem.Spec PyProof.Rows L2
open Enc (enc)
variable {G : Glob}
section
variable {α : Type} [iα : Enc α]
def inDT (a : α) (xs : List α) : Prog Bool := chk (SeqAt.shaped (enc a) && SeqAt.shaped (.tuple (xs.map enc))) (.ok ((xs.map enc).any fun z => PyData.eqv z (enc a)))
def inDL (a : α) (xs : List α) : Prog Bool := chk (SeqAt.shaped (enc a) && SeqAt.shaped (.list (xs.map enc))) (.ok ((xs.map enc).any fun z => PyData.eqv z (enc a)))
theorem opv_inDT : OPV (G := G) (α := α) (β := List α) (γ := Bool) (TyL.rInDT G.K false) inDT := fun N Γ σ F H x y a b hs ra rb Q q => by
  obtain ⟨h, q⟩ := wp_chk q
  obtain ⟨h1, h2⟩ := Bool.and_eq_true_iff.1 h
  exact ⟨enc a, b.map enc, dq_dp _ _ (dp_same hs.w.fh _ _ ra), dq_dp _ _ (dp_same hs.w.fh _ _ rb), h1, h2, q _ F H hs (Same.refl F) (.bl _)⟩
theorem opv_ninDT : OPV (G := G) (α := α) (β := List α) (γ := Bool) (TyL.rInDT G.K true) (fun a xs => inDT a xs >>= fun b => .ok (!b)) := fun N Γ σ F H x y a b hs ra rb Q q => by
  obtain ⟨h, q⟩ := wp_chk (wp_bind.1 q)
  obtain ⟨h1, h2⟩ := Bool.and_eq_true_iff.1 h
  exact ⟨enc a, b.map enc, dq_dp _ _ (dp_same hs.w.fh _ _ ra), dq_dp _ _ (dp_same hs.w.fh _ _ rb), h1, h2, q _ F H hs (Same.refl F) (.bl _)⟩
theorem opv_inDL : OPV (G := G) (α := α) (β := L α) (γ := Bool) (rInD G.K) (fun a xs => inDL a (un xs)) := fun N Γ σ F H x y a (b : List α) hs ra rb Q q => by
  obtain ⟨h, q⟩ := wp_chk q
  obtain ⟨h1, h2⟩ := Bool.and_eq_true_iff.1 h
  exact ⟨enc a, b.map enc, dq_dp _ _ (dp_same hs.w.fh _ _ ra), dq_dp _ _ (dp_same hs.w.fh _ _ rb), h1, h2, q _ F H hs (Same.refl F) (.bl _)⟩
theorem opv_ninDL : OPV (G := G) (α := α) (β := L α) (γ := Bool) (rNotInD G.K) (fun a xs => inDL a (un xs) >>= fun b => .ok (!b)) := fun N Γ σ F H x y a (b : List α) hs ra rb Q q => by
  obtain ⟨h, q⟩ := wp_chk (wp_bind.1 q)
  obtain ⟨h1, h2⟩ := Bool.and_eq_true_iff.1 h
  exact ⟨enc a, b.map enc, dq_dp _ _ (dp_same hs.w.fh _ _ ra), dq_dp _ _ (dp_same hs.w.fh _ _ rb), h1, h2, q _ F H hs (Same.refl F) (.bl _)⟩
end
section
variable {α : Type} [Enc α] [DecidableEq α] [Shp α]
theorem any_eqv (a : α) : ∀ xs : List α, ((xs.map enc).any fun z => PyData.eqv z (enc a)) = decide (a ∈ xs)
  | [] => by simp
  | x :: xs => by
    rw [List.map_cons, List.any_cons, any_eqv a xs, Shp.eqv]
    by_cases h : x = a
    · simp [h]
    · simp [h, Ne.symm h]
theorem inDT_dec (h : Shp.dep α ≤ 63) {a : α} {xs : List α} (ha : Shp.ok a) (hx : ∀ x ∈ xs, Shp.ok x) : inDT a xs = .ok (decide (a ∈ xs)) := by
  have k : ∀ {β : Type} [Enc β] [DecidableEq β] [Shp β], Shp.dep β ≤ 64 → ∀ a : β, Shp.ok a → SeqAt.shaped (enc a) = true := fun hd a h' => by
    simp [SeqAt.shaped, Shp.lay a h', Nat.le_trans (Shp.dle a) hd]
  have k2 : SeqAt.shaped (.tuple (xs.map enc)) = true := k (β := List α) (show Shp.dep α + 1 ≤ 64 by omega) xs hx
  unfold inDT
  rw [k (by omega) a ha, k2, any_eqv]
  rfl
theorem inDL_dec (h : Shp.dep α ≤ 63) {a : α} {xs : List α} (ha : Shp.ok a) (hx : ∀ x ∈ xs, Shp.ok x) : inDL a xs = .ok (decide (a ∈ xs)) := by
  have k : ∀ {β : Type} [Enc β] [DecidableEq β] [Shp β], Shp.dep β ≤ 64 → ∀ a : β, Shp.ok a → SeqAt.shaped (enc a) = true := fun hd a h' => by
    simp [SeqAt.shaped, Shp.lay a h', Nat.le_trans (Shp.dle a) hd]
  have k2 : SeqAt.shaped (.list (xs.map enc)) = true := k (β := L α) (show Shp.dep α + 1 ≤ 64 by omega) xs hx
  unfold inDL
  rw [k (by omega) a ha, k2, any_eqv]
  rfl
end
/-! a name that may be unset -/
def mb {α : Type} [Rp G α] (o : Option α) : Ent G := match o with
  | none => .dead
  | some a => .per a
def fromSome {α : Type} (o : Option α) : Prog α := match o with
  | some a => .ok a
  | none => .stuck
theorem ev_mb {α : Type} [iα : Rp G α] {N : NN} {Γ : Env G} {i : Nat} {o : Option α} (h : Γ[i]? = some (mb o)) : EV N Γ (tVar i) (fromSome o) := by
  cases o with
  | none => exact fun σ F H hs Q q => q.elim
  | some a => exact ev_var h
theorem ev_some_of {α : Type} [Enc α] {N : NN} {Γ : Env G} {te : TE} {m : Prog (Option α)} (h : EV N Γ te m) : EV N Γ te (m >>= fromSome) := fun σ F H hs Q q =>
  h σ F H hs Q (wp_mono (wp_bind.1 q) fun o k v F' H' hs' e r => by
    cases o with
    | none => exact k.elim
    | some a => exact k v F' H' hs' e r)
end Ty

namespace Ty
open PySem PySem.Spec PyProof.Rows L2
/-! more of split and join -/
theorem spl_sum {c : Nat} (hc : c < 256) : ∀ (s acc : Tx), sumLen (TL.spl [c] 0 acc s) + (TL.spl [c] 0 acc s).length = acc.length + s.length + 1
  | [], acc => by rw [TL.spl_nil]; simp [sumLen]
  | x :: s, acc => by
    by_cases h : TL.pre [c] (x :: s) = true
    · rw [TL.spl_hit h]
      have := spl_sum hc s []
      simp [sumLen] at this ⊢
      omega
    · rw [TL.spl_miss (by simpa using h)]
      have := spl_sum hc s (acc ++ [x])
      simp at this ⊢
      omega
theorem splitT_sum {c : Nat} (hc : c < 256) (s : Tx) : sumLen (splitT s [c]) + (splitT s [c]).length = s.length + 1 := by
  rw [splitT_eq hc, spl_sum hc]
  simp
theorem spl_mem {c : Nat} (hc : c < 256) : ∀ (s acc p : Tx), p ∈ TL.spl [c] 0 acc s → ∀ x ∈ p, x ∈ acc ∨ x ∈ s
  | [], acc, p, m, x, mx => by
    rw [TL.spl_nil] at m
    rw [List.mem_singleton.1 m] at mx
    exact .inl mx
  | y :: s, acc, p, m, x, mx => by
    by_cases h : TL.pre [c] (y :: s) = true
    · rw [TL.spl_hit h] at m
      rcases List.mem_cons.1 m with e | m
      · rw [e] at mx; exact .inl mx
      · rcases spl_mem hc s [] p m x mx with z | z
        · cases z
        · exact .inr (List.mem_cons_of_mem _ z)
    · rw [TL.spl_miss (by simpa using h)] at m
      rcases spl_mem hc s (acc ++ [y]) p m x mx with z | z
      · rcases List.mem_append.1 z with z | z
        · exact .inl z
        · rw [List.mem_singleton.1 z]; exact .inr List.mem_cons_self
      · exact .inr (List.mem_cons_of_mem _ z)
theorem splitT_mem {c : Nat} (hc : c < 256) {s p : Tx} (m : p ∈ splitT s [c]) : ∀ x ∈ p, x ∈ s := fun x mx => by
  rw [splitT_eq hc] at m
  rcases spl_mem hc s [] p m x mx with z | z
  · cases z
  · exact z
theorem sumLen_mem : ∀ {ps : List Tx} {p : Tx}, p ∈ ps → p.length ≤ sumLen ps
  | q :: ps, p, m => by
    unfold sumLen
    rw [List.map_cons, List.sum_cons]
    rcases List.mem_cons.1 m with e | m
    · rw [e]; omega
    · have := sumLen_mem m
      unfold sumLen at this
      omega
theorem splitT_part {c : Nat} (hc : c < 256) {s p : Tx} (m : p ∈ splitT s [c]) : p.length ≤ s.length := by
  have h1 := splitT_sum hc s
  have h2 := sumLen_mem m
  have h3 : 1 ≤ (splitT s [c]).length := List.length_pos_of_mem m
  omega
theorem flds_part_le {s p : Tx} (m : p ∈ flds s) : p.length ≤ s.length := splitT_part (by decide) (List.mem_filter.1 m).1
theorem flds_mem {s p : Tx} (m : p ∈ flds s) : ∀ x ∈ p, x ∈ s := splitT_mem (by decide) (List.mem_filter.1 m).1
theorem joinL_mem {a : Tx} : ∀ {ps : List Tx} {x : Nat}, x ∈ TL.joinL a ps → x ∈ a ∨ ∃ p ∈ ps, x ∈ p
  | [], x, h => by cases h
  | [p], x, h => by
    have h' : x ∈ p := by simpa [TL.joinL] using h
    exact .inr ⟨p, List.mem_cons_self, h'⟩
  | p :: q :: r, x, h => by
    simp only [TL.joinL] at h
    rcases List.mem_append.1 h with h | h
    · exact .inr ⟨p, List.mem_cons_self, h⟩
    · rcases List.mem_append.1 h with h | h
      · exact .inl h
      rcases joinL_mem (ps := q :: r) h with z | ⟨u, m, z⟩
      · exact .inl z
      · exact .inr ⟨u, List.mem_cons_of_mem _ m, z⟩
theorem sumLen_app (a b : List Tx) : sumLen (a ++ b) = sumLen a + sumLen b := by simp [sumLen]
theorem sumLen_take (ps : List Tx) (k : Nat) : sumLen (ps.take k) ≤ sumLen ps := by
  have e : sumLen (ps.take k) + sumLen (ps.drop k) = sumLen ps := by rw [← sumLen_app, List.take_append_drop]
  omega
theorem sumLen_td (ps : List Tx) (k j : Nat) (h : k ≤ j) : sumLen (ps.take k) + sumLen (ps.drop j) ≤ sumLen ps := by
  have e : sumLen (ps.take k) + sumLen (ps.drop k) = sumLen ps := by rw [← sumLen_app, List.take_append_drop]
  have e2 : ps.drop j = (ps.drop k).drop (j - k) := by rw [List.drop_drop]; congr 1; omega
  have e3 : sumLen ((ps.drop k).take (j - k)) + sumLen ((ps.drop k).drop (j - k)) = sumLen (ps.drop k) := by rw [← sumLen_app, List.take_append_drop]
  rw [e2]
  omega
end Ty

namespace K15
open PySem PySem.Spec PyProof.Rows L2 Ty
open Enc (enc)
def topS (i : Nat) : Stmt := PySem.Challenge.pw_endsread_k15_whole_texts_refused.main.body.getD i (.Pass ⟨0, 0, 0, 0⟩)
structure LineV where
  number : Int
  parts : (L Tx)
  place : Int
abbrev fl_Line {G : Glob} (r : LineV) : List (Fld G) := [Fld.mk "number" r.number, Fld.mk "parts" r.parts, Fld.mk "place" r.place]
abbrev s_is_integer : Stmt := topS 10
abbrev Ns_is_integer : List Str := ["value"]
theorem sc_is_integer : FnScope Ns_is_integer ["value"] (defScope s_is_integer) := ⟨rfl, rfl, rfl, by decide +kernel, rfl, by decide +kernel, by decide +kernel⟩
abbrev s_is_string : Stmt := topS 11
abbrev Ns_is_string : List Str := ["many", "value", "sign"]
theorem sc_is_string : FnScope Ns_is_string ["many", "value"] (defScope s_is_string) := ⟨rfl, rfl, rfl, by decide +kernel, rfl, by decide +kernel, by decide +kernel⟩
abbrev s_look_at_words : Stmt := topS 12
abbrev Ns_look_at_words : List Str := ["many", "words", "known", "index", "word"]
theorem sc_look_at_words : FnScope Ns_look_at_words ["many", "words"] (defScope s_look_at_words) := ⟨rfl, rfl, rfl, by decide +kernel, rfl, by decide +kernel, by decide +kernel⟩
abbrev s_Code___init__ : Stmt := inClass (topS 13) 1
abbrev Ns_Code___init__ : List Str := ["self", "signs", "words"]
theorem sc_Code___init__ : FnScope Ns_Code___init__ ["self", "signs", "words"] (defScope s_Code___init__) := ⟨rfl, rfl, rfl, by decide +kernel, rfl, by decide +kernel, by decide +kernel⟩
abbrev s_write_code : Stmt := topS 15
abbrev Ns_write_code : List Str := ["code"]
theorem sc_write_code : FnScope Ns_write_code ["code"] (defScope s_write_code) := ⟨rfl, rfl, rfl, by decide +kernel, rfl, by decide +kernel, by decide +kernel⟩
abbrev s_Line___init__ : Stmt := inClass (topS 16) 0
abbrev Ns_Line___init__ : List Str := ["self", "text", "number", "word"]
theorem sc_Line___init__ : FnScope Ns_Line___init__ ["self", "text", "number"] (defScope s_Line___init__) := ⟨rfl, rfl, rfl, by decide +kernel, rfl, by decide +kernel, by decide +kernel⟩
abbrev s_Line_refuse : Stmt := inClass (topS 16) 1
abbrev Ns_Line_refuse : List Str := ["self"]
theorem sc_Line_refuse : FnScope Ns_Line_refuse ["self"] (defScope s_Line_refuse) := ⟨rfl, rfl, rfl, by decide +kernel, rfl, by decide +kernel, by decide +kernel⟩
abbrev s_Line_take_one : Stmt := inClass (topS 16) 2
abbrev Ns_Line_take_one : List Str := ["self", "words"]
theorem sc_Line_take_one : FnScope Ns_Line_take_one ["self", "words"] (defScope s_Line_take_one) := ⟨rfl, rfl, rfl, by decide +kernel, rfl, by decide +kernel, by decide +kernel⟩
abbrev s_Line_take_word : Stmt := inClass (topS 16) 3
abbrev Ns_Line_take_word : List Str := ["self", "many", "known", "word"]
theorem sc_Line_take_word : FnScope Ns_Line_take_word ["self", "many", "known"] (defScope s_Line_take_word) := ⟨rfl, rfl, rfl, by decide +kernel, rfl, by decide +kernel, by decide +kernel⟩
abbrev s_Line_finish : Stmt := inClass (topS 16) 4
abbrev Ns_Line_finish : List Str := ["self"]
theorem sc_Line_finish : FnScope Ns_Line_finish ["self"] (defScope s_Line_finish) := ⟨rfl, rfl, rfl, by decide +kernel, rfl, by decide +kernel, by decide +kernel⟩
abbrev s_read_code : Stmt := topS 17
abbrev Ns_read_code : List Str := ["text", "rows", "line", "many", "words", "index", "row"]
theorem sc_read_code : FnScope Ns_read_code ["text"] (defScope s_read_code) := ⟨rfl, rfl, rfl, by decide +kernel, rfl, by decide +kernel, by decide +kernel⟩
abbrev s__law_word : Stmt := topS 21
abbrev Ns__law_word : List Str := ["_law_h", "_law_many", "_law_high", "_law_k"]
theorem sc__law_word : FnScope Ns__law_word ["_law_h", "_law_many", "_law_high"] (defScope s__law_word) := ⟨rfl, rfl, rfl, by decide +kernel, rfl, by decide +kernel, by decide +kernel⟩
abbrev s__law_code : Stmt := topS 22
abbrev Ns__law_code : List Str := ["_law_h", "_law_high", "_law_many", "_law_words", "_law_left", "_law_k", "_law_at", "_law_word_here", "_law_sign"]
theorem sc__law_code : FnScope Ns__law_code ["_law_h", "_law_high"] (defScope s__law_code) := ⟨rfl, rfl, rfl, by decide +kernel, rfl, by decide +kernel, by decide +kernel⟩
abbrev s__law_built : Stmt := topS 24
abbrev Ns__law_built : List Str := ["_law_t"]
theorem sc__law_built : FnScope Ns__law_built ["_law_t"] (defScope s__law_built) := ⟨rfl, rfl, rfl, by decide +kernel, rfl, by decide +kernel, by decide +kernel⟩
abbrev s__law_is_word : Stmt := topS 25
abbrev Ns__law_is_word : List Str := ["_law_word_here", "_law_many", "_law_sign"]
theorem sc__law_is_word : FnScope Ns__law_is_word ["_law_word_here", "_law_many"] (defScope s__law_is_word) := ⟨rfl, rfl, rfl, by decide +kernel, rfl, by decide +kernel, by decide +kernel⟩
abbrev s__law_due : Stmt := topS 26
abbrev Ns__law_due : List Str := ["_law_string", "_law_lines", "_law_known", "_law_k", "_law_words", "_law_many", "_law_word_here"]
theorem sc__law_due : FnScope Ns__law_due ["_law_string"] (defScope s__law_due) := ⟨rfl, rfl, rfl, by decide +kernel, rfl, by decide +kernel, by decide +kernel⟩
abbrev s__law_spoil : Stmt := topS 27
abbrev Ns__law_spoil : List Str := ["_law_h", "_law_lines", "_law_k", "_law_pick", "_law_words", "_law_at", "_law_more", "_law_new"]
theorem sc__law_spoil : FnScope Ns__law_spoil ["_law_h", "_law_lines"] (defScope s__law_spoil) := ⟨rfl, rfl, rfl, by decide +kernel, rfl, by decide +kernel, by decide +kernel⟩
abbrev s__law_told : Stmt := topS 28
abbrev Ns__law_told : List Str := ["_law_string", "_law_told_here", "e"]
theorem sc__law_told : FnScope Ns__law_told ["_law_string"] (defScope s__law_told) := ⟨rfl, rfl, rfl, by decide +kernel, rfl, by decide +kernel, by decide +kernel⟩
abbrev s_law : Stmt := topS 29
abbrev Ns_law : List Str := ["_law_script", "_law_h", "_law_t", "_law_lines", "_law_turn", "_law_string"]
theorem sc_law : FnScope Ns_law ["_law_script"] (defScope s_law) := ⟨rfl, rfl, rfl, by decide +kernel, rfl, by decide +kernel, by decide +kernel⟩
abbrev s_InvalidText___init__ : Stmt := inClass (topS 5) 0
abbrev Ns_InvalidText___init__ : List Str := ["self", "line", "word"]
theorem sc_InvalidText___init__ : FnScope Ns_InvalidText___init__ ["self", "line", "word"] (defScope s_InvalidText___init__) := ⟨rfl, rfl, rfl, by decide +kernel, rfl, by decide +kernel, by decide +kernel⟩
abbrev s__law_mix : Stmt := topS 19
abbrev s__law_next : Stmt := topS 20
abbrev Ns__law_mix : List Str := ["_law_script", "_law_seed", "_law_state", "_law_cell"]
theorem sc__law_mix : FnScope Ns__law_mix ["_law_script", "_law_seed"] (defScope s__law_mix) := ⟨rfl, rfl, rfl, by decide +kernel, rfl, by decide +kernel, by decide +kernel⟩
abbrev Ns__law_next : List Str := ["_law_h", "_law_bound", "_law_cell"]
theorem sc__law_next : FnScope Ns__law_next ["_law_h", "_law_bound"] (defScope s__law_next) := ⟨rfl, rfl, rfl, by decide +kernel, rfl, by decide +kernel, by decide +kernel⟩
theorem st_0 : ("abc" : Str).cps.toList = ([97, 98, 99] : Tx) := by decide +kernel
theorem st_1 : ("\n" : Str).cps.toList = ([10] : Tx) := by decide +kernel
theorem st_2 : ("signs " : Str).cps.toList = ([115, 105, 103, 110, 115, 32] : Tx) := by decide +kernel
theorem st_3 : (" " : Str).cps.toList = ([32] : Tx) := by decide +kernel
theorem st_4 : ("" : Str).cps.toList = ([] : Tx) := by decide +kernel
theorem st_5 : ("signs" : Str).cps.toList = ([115, 105, 103, 110, 115] : Tx) := by decide +kernel
theorem st_6 : ("3" : Str).cps.toList = ([51] : Tx) := by decide +kernel
theorem st_7 : ("2" : Str).cps.toList = ([50] : Tx) := by decide +kernel
theorem st_8 : ("a" : Str).cps.toList = ([97] : Tx) := by decide +kernel
theorem st_9 : ("?" : Str).cps.toList = ([63] : Tx) := by decide +kernel
theorem st_10 : ("02" : Str).cps.toList = ([48, 50] : Tx) := by decide +kernel
theorem st_11 : ("4" : Str).cps.toList = ([52] : Tx) := by decide +kernel
theorem st_12 : ("A" : Str).cps.toList = ([65] : Tx) := by decide +kernel
theorem st_13 : ("ababa" : Str).cps.toList = ([97, 98, 97, 98, 97] : Tx) := by decide +kernel
theorem st_14 : ("abab" : Str).cps.toList = ([97, 98, 97, 98] : Tx) := by decide +kernel
theorem st_15 : ("ab" : Str).cps.toList = ([97, 98] : Tx) := by decide +kernel
theorem st_16 : ("c" : Str).cps.toList = ([99] : Tx) := by decide +kernel
theorem st_17 : ("b" : Str).cps.toList = ([98] : Tx) := by decide +kernel
theorem st_18 : ("signs 2\na\nb\naa\nab\nba\nbb\nabab" : Str).cps.toList = ([115, 105, 103, 110, 115, 32, 50, 10, 97, 10, 98, 10, 97, 97, 10, 97, 98, 10, 98, 97, 10, 98, 98, 10, 97, 98, 97, 98] : Tx) := by decide +kernel
theorem st_19 : ("signs 3" : Str).cps.toList = ([115, 105, 103, 110, 115, 32, 51] : Tx) := by decide +kernel
theorem bb_all : bootBuiltins "all" = some (.builtin "all") := by decide +kernel
theorem bb_isinstance : bootBuiltins "isinstance" = some (.builtin "isinstance") := by decide +kernel
theorem bt_bool : bootBuiltins "bool" = some (.type "bool") := by decide +kernel
theorem bt_int : bootBuiltins "int" = some (.type "int") := by decide +kernel
theorem bt_str : bootBuiltins "str" = some (.type "str") := by decide +kernel
theorem bt_tuple : bootBuiltins "tuple" = some (.type "tuple") := by decide +kernel
theorem kn_bool : Known "bool" := by decide +kernel
theorem kn_int : Known "int" := by decide +kernel
theorem kn_str : Known "str" := by decide +kernel
theorem kn_tuple : Known "tuple" := by decide +kernel
theorem bt_list : bootBuiltins "list" = some (.type "list") := by decide +kernel
theorem bb_max : bootBuiltins "max" = some (.builtin "max") := by decide +kernel
structure Txt (G : Glob) (mg : Str → Option Value) where
  cf : CodeFacts G
  Code : CodeCls G mg
  Line : Dc G mg (G.cls "Line") "Line"
  x_InvalidText : Xi2 G mg "InvalidText" "InvalidText" "line" "word" "InvalidText.__init__" s_InvalidText___init__ ["self", "line", "word"]
  xm_InvalidText_InvalidText : PySem.W.exmOne G.K (.ref (G.exc "InvalidText")) (.ref (G.exc "InvalidText")) = some (decide ("InvalidText" = "InvalidText"))
  n_Line_number : NoAttr G.K (G.cls "Line") "number"
  n_Line_parts : NoAttr G.K (G.cls "Line") "parts"
  n_Line_place : NoAttr G.K (G.cls "Line") "place"
  _law_mix : Df G.K mg "_law_mix" "_law_mix" s__law_mix ["_law_script", "_law_seed"]
  _law_next : Df G.K mg "_law_next" "_law_next" s__law_next ["_law_h", "_law_bound"]
  is_integer : Df G.K mg "is_integer" "is_integer" s_is_integer ["value"]
  is_string : Df G.K mg "is_string" "is_string" s_is_string ["many", "value"]
  look_at_words : Df G.K mg "look_at_words" "look_at_words" s_look_at_words ["many", "words"]
  Code___init__ : Di G.K G.code "__init__" "Code.__init__" s_Code___init__ ["self", "signs", "words"]
  write_code : Df G.K mg "write_code" "write_code" s_write_code ["code"]
  Line___init__ : Di G.K (G.cls "Line") "__init__" "Line.__init__" s_Line___init__ ["self", "text", "number"]
  Line_refuse : Dm G.K (G.cls "Line") "refuse" "Line.refuse" s_Line_refuse ["self"]
  Line_take_one : Dm G.K (G.cls "Line") "take_one" "Line.take_one" s_Line_take_one ["self", "words"]
  Line_take_word : Dm G.K (G.cls "Line") "take_word" "Line.take_word" s_Line_take_word ["self", "many", "known"]
  Line_finish : Dm G.K (G.cls "Line") "finish" "Line.finish" s_Line_finish ["self"]
  read_code : Df G.K mg "read_code" "read_code" s_read_code ["text"]
  _law_word : Df G.K mg "_law_word" "_law_word" s__law_word ["_law_h", "_law_many", "_law_high"]
  _law_code : Df G.K mg "_law_code" "_law_code" s__law_code ["_law_h", "_law_high"]
  _law_built : Df G.K mg "_law_built" "_law_built" s__law_built ["_law_t"]
  _law_is_word : Df G.K mg "_law_is_word" "_law_is_word" s__law_is_word ["_law_word_here", "_law_many"]
  _law_due : Df G.K mg "_law_due" "_law_due" s__law_due ["_law_string"]
  _law_spoil : Df G.K mg "_law_spoil" "_law_spoil" s__law_spoil ["_law_h", "_law_lines"]
  _law_told : Df G.K mg "_law_told" "_law_told" s__law_told ["_law_string"]
  law : Df G.K mg "law" "law" s_law ["_law_script"]
  z_all : mg "all" = none
  z_bool : mg "bool" = none
  z_enumerate : mg "enumerate" = none
  z_int : mg "int" = none
  z_isinstance : mg "isinstance" = none
  z_len : mg "len" = none
  z_list : mg "list" = none
  z_max : mg "max" = none
  z_range : mg "range" = none
  z_str : mg "str" = none
  z_tuple : mg "tuple" = none
  t_LETTERS : Tok
  g_LETTERS : mg "LETTERS" = some (.str "abc" t_LETTERS)
  t_MOST_SIGNS : Tok
  g_MOST_SIGNS : mg "MOST_SIGNS" = some (.int 4 t_MOST_SIGNS)
  t_MOST_WORDS : Tok
  g_MOST_WORDS : mg "MOST_WORDS" = some (.int 6 t_MOST_WORDS)
def m__law_next (n : Int) : Prog Int := .draw n .ok
def m_is_integer (x_value : PyData) : Prog Bool :=
  (((Prog.ok x_value : Prog PyData) >>= fun (a1 : PyData) => Prog.ok (isD "int" (enc a1))) >>= fun (b4 : Bool) => if b4 then (((Prog.ok x_value : Prog PyData) >>= fun (a2 : PyData) => Prog.ok (isD "bool" (enc a2))) >>= fun (a3 : Bool) => Prog.ok (!a3)) else Prog.ok false)
def m_is_string (x_many : Int) (x_value : PyData) : Prog Bool :=
  (((Prog.ok x_value : Prog PyData) >>= fun (a1 : PyData) => Prog.ok (isD "str" (enc a1))) >>= fun (b12 : Bool) => if b12 then (((((Prog.ok x_value : Prog PyData) >>= asTx) >>= fun (a2 : Tx) => Prog.ok (signs a2)) >>= fun (xs10 : List Tx) => chk (small xs10.length) (mapP (fun (a3 : Tx) => ((Prog.ok a3 : Prog Tx) >>= fun (a8 : Tx) => ((Prog.ok ([97, 98, 99] : Tx)) >>= fun (a4 : Tx) => (Prog.ok (none : Option Int)) >>= fun (p6 : Option Int) => ((Prog.ok x_many : Prog Int) >>= fun (a5 : Int) => Prog.ok (some a5)) >>= fun (p7 : Option Int) => chk (small a4.length) (Prog.ok (cut a4 p6 p7))) >>= fun (a9 : Tx) => Prog.ok (subS a8 a9))) xs10 : Prog (L Bool))) >>= fun (a11 : L Bool) => Prog.ok ((un a11).all id)) else Prog.ok false)
def m_look_at_words (x_many : Int) (x_words : (List Tx)) : Prog Unit :=
  (((((Prog.ok x_words : Prog (List Tx)) >>= fun (a1 : (List Tx)) => Prog.ok (isD "tuple" (enc a1))) >>= fun (b2 : Bool) => Prog.ok (!b2)) >>= fun (b9 : Bool) => if b9 then Prog.ok true else (((Prog.ok (1 : Int)) >>= fun (a4 : Int) => ((Prog.ok x_words : Prog (List Tx)) >>= fun (a3 : (List Tx)) => Prog.ok (a3.length : Int)) >>= fun (a5 : Int) => (Prog.ok (decide (a4 ≤ a5))) >>= fun (k7 : Bool) => if k7 then (Prog.ok (6 : Int)) >>= fun (a6 : Int) => Prog.ok (decide (a5 ≤ a6)) else Prog.ok false) >>= fun (b8 : Bool) => Prog.ok (!b8))) >>= fun (c10 : Bool) => if c10 then Prog.stuck else (((Prog.ok ([] : List Tx)) >>= fun (a11 : List Tx) => if a11.length ≤ 100000 then (Prog.ok a11 : Prog (L Tx)) else Prog.stuck) >>= fun (v12 : L Tx) => (((Prog.ok x_words : Prog (List Tx)) >>= fun (a13 : (List Tx)) => Prog.ok (enumT a13)) >>= fun (xs31 : List (Int × Tx)) => foldP (fun (b14 : ((List Tx))) (a15 : (Int × Tx)) => (((((Prog.ok x_many : Prog Int) >>= fun (a16 : Int) => ((Prog.ok a15.2 : Prog Tx) >>= fun a => Prog.ok (enc a)) >>= fun (a17 : PyData) => m_is_string a16 a17) >>= fun (b18 : Bool) => Prog.ok (!b18)) >>= fun (b28 : Bool) => if b28 then Prog.ok true else ((((Prog.ok (1 : Int)) >>= fun (a20 : Int) => ((Prog.ok a15.2 : Prog Tx) >>= fun (a19 : Tx) => chk (small a19.length) (Prog.ok (a19.length : Int))) >>= fun (a21 : Int) => (Prog.ok (decide (a20 ≤ a21))) >>= fun (k23 : Bool) => if k23 then (Prog.ok (4 : Int)) >>= fun (a22 : Int) => Prog.ok (decide (a21 ≤ a22)) else Prog.ok false) >>= fun (b24 : Bool) => Prog.ok (!b24)) >>= fun (b27 : Bool) => if b27 then Prog.ok true else ((Prog.ok a15.2 : Prog Tx) >>= fun (a25 : Tx) => (Prog.ok b14 : Prog (L Tx)) >>= fun (a26 : (L Tx)) => Prog.ok (memB a25 (un a26))))) >>= fun (c29 : Bool) => if c29 then Prog.stuck else ((Prog.ok a15.2 : Prog Tx) >>= fun (v30 : Tx) => chk (small (b14).length) (Prog.ok (b14 ++ [v30]) : Prog ((List Tx)))))) xs31 (un v12) >>= fun (b14 : ((List Tx))) => (Prog.ok ()))))
def m_Code___init__ (x_signs : Int) (x_words : (List Tx)) : Prog CodeV :=
  ((((((Prog.ok x_signs : Prog Int) >>= fun a => Prog.ok (enc a)) >>= fun (a1 : PyData) => m_is_integer a1) >>= fun (b2 : Bool) => Prog.ok (!b2)) >>= fun (b8 : Bool) => if b8 then Prog.ok true else (((Prog.ok (2 : Int)) >>= fun (a3 : Int) => (Prog.ok x_signs : Prog Int) >>= fun (a4 : Int) => (Prog.ok (decide (a3 ≤ a4))) >>= fun (k6 : Bool) => if k6 then (Prog.ok (3 : Int)) >>= fun (a5 : Int) => Prog.ok (decide (a4 ≤ a5)) else Prog.ok false) >>= fun (b7 : Bool) => Prog.ok (!b7))) >>= fun (c9 : Bool) => if c9 then Prog.stuck else (((Prog.ok x_signs : Prog Int) >>= fun (a10 : Int) => (Prog.ok x_words : Prog (List Tx)) >>= fun (a11 : (List Tx)) => m_look_at_words a10 a11) >>= fun (_ : Unit) => (Prog.ok (CodeV.mk x_signs x_words))))
def m_write_code (x_code : CodeV) : Prog Tx :=
  ((Prog.ok ([10] : Tx)) >>= fun (a10 : Tx) => ((((Prog.ok ([115, 105, 103, 110, 115, 32] : Tx)) >>= fun (a5 : Tx) => chk (small a5.length) ((((Prog.ok x_code : Prog CodeV) >>= fun (c4 : CodeV) => Prog.ok c4.many) >>= strI) >>= fun (a6 : Tx) => chk (small (a5.length + a6.length)) (Prog.ok (a5 ++ a6)))) >>= fun (a7 : Tx) => (((Prog.ok x_code : Prog CodeV) >>= fun (c1 : CodeV) => Prog.ok c1.parts) >>= fun (a2 : (List Tx)) => (Prog.ok ([] : List Tx)) >>= fun (a3 : List Tx) => Prog.ok (a2 ++ a3)) >>= fun (a8 : List Tx) => Prog.ok (a7 :: a8)) >>= fun (a9 : List Tx) => if a9.length ≤ 100000 then (Prog.ok a9 : Prog (L Tx)) else Prog.stuck) >>= fun (a11 : L Tx) => chk (small (sumLen (un a11) + (un a11).length * a10.length)) (Prog.ok (joinT a10 (un a11))))
def m_Line___init__ (x_text : Tx) (x_number : Int) : Prog (Unit × LineV) :=
  ((Prog.ok x_number : Prog Int) >>= fun (v1 : Int) => (((((Prog.ok x_text : Prog Tx) >>= fun (a2 : Tx) => (Prog.ok ([32] : Tx)) >>= fun (a3 : Tx) => chk (small (a2.length + 2) && !a3.isEmpty) (Prog.ok (splitT a2 a3) : Prog (L Tx))) : Prog (List Tx)) >>= fun (xs7 : List Tx) => chk (small xs7.length) (compP (fun (a4 : Tx) => ((Prog.ok a4 : Prog Tx) >>= fun (a5 : Tx) => (Prog.ok ([] : Tx)) >>= fun (a6 : Tx) => Prog.ok (!decide (a5 = a6)))) (fun (a4 : Tx) => (Prog.ok a4 : Prog Tx)) xs7 : Prog (L Tx))) >>= fun (v8 : (L Tx)) => ((Prog.ok (0 : Int)) >>= fun (v9 : Int) => (Prog.ok ((), (LineV.mk (v1) (v8) (v9)))))))
def m_Line_refuse (r : LineV)  : Prog (Unit × LineV) :=
  (raiseP ((Prog.ok r.number : Prog Int) >>= fun (a3 : Int) => ((Prog.ok r.place : Prog Int) >>= fun (a1 : Int) => (Prog.ok (1 : Int)) >>= fun (a2 : Int) => Prog.ok (a1 + a2)) >>= fun (a4 : Int) => Prog.ok (⟨"InvalidText", [enc a4, enc a3]⟩ : Exc)))
def m_Line_take_one (r : LineV) (x_words : (List Tx)) : Prog (Tx × LineV) :=
  ((((Prog.ok r.place : Prog Int) >>= fun (a2 : Int) => ((Prog.ok r.parts : Prog (L Tx)) >>= fun (a1 : (L Tx)) => Prog.ok ((un a1).length : Int)) >>= fun (a3 : Int) => Prog.ok (decide (a2 = a3))) >>= fun (b9 : Bool) => if b9 then Prog.ok true else (((Prog.ok r.parts : Prog (L Tx)) >>= fun (a5 : (L Tx)) => (Prog.ok r.place : Prog Int) >>= fun (a6 : Int) => getI (un a5) a6) >>= fun (a7 : Tx) => (Prog.ok x_words : Prog (List Tx)) >>= fun (a8 : (List Tx)) => Prog.ok (!memB a7 a8))) >>= fun (c10 : Bool) => if c10 then outP (m_Line_refuse (LineV.mk (r.number) (r.parts) (r.place))) else ((Prog.ok (1 : Int)) >>= fun (v11 : Int) => (((Prog.ok r.parts : Prog (L Tx)) >>= fun (a15 : (L Tx)) => ((Prog.ok (r.place + v11) : Prog Int) >>= fun (a13 : Int) => (Prog.ok (1 : Int)) >>= fun (a14 : Int) => Prog.ok (a13 - a14)) >>= fun (a16 : Int) => getI (un a15) a16) >>= fun (r17 : Tx) => Prog.ok (r17, (LineV.mk (r.number) (r.parts) ((r.place + v11)))))))
def m_Line_take_word (r : LineV) (x_many : Int) (x_known : (List Tx)) : Prog (Tx × LineV) :=
  ((((Prog.ok r.place : Prog Int) >>= fun (a2 : Int) => ((Prog.ok r.parts : Prog (L Tx)) >>= fun (a1 : (L Tx)) => Prog.ok ((un a1).length : Int)) >>= fun (a3 : Int) => Prog.ok (decide (a2 = a3))) >>= fun (b10 : Bool) => if b10 then Prog.ok true else (((Prog.ok x_many : Prog Int) >>= fun (a7 : Int) => (((Prog.ok r.parts : Prog (L Tx)) >>= fun (a5 : (L Tx)) => (Prog.ok r.place : Prog Int) >>= fun (a6 : Int) => getI (un a5) a6) >>= fun a => Prog.ok (enc a)) >>= fun (a8 : PyData) => m_is_string a7 a8) >>= fun (b9 : Bool) => Prog.ok (!b9))) >>= fun (c11 : Bool) => if c11 then outP (m_Line_refuse (LineV.mk (r.number) (r.parts) (r.place))) else (((Prog.ok r.parts : Prog (L Tx)) >>= fun (a13 : (L Tx)) => (Prog.ok r.place : Prog Int) >>= fun (a14 : Int) => getI (un a13) a14) >>= fun (v15 : Tx) => (((((Prog.ok v15 : Prog Tx) >>= fun (a16 : Tx) => chk (small a16.length) (Prog.ok (a16.length : Int))) >>= fun (a17 : Int) => (Prog.ok (4 : Int)) >>= fun (a18 : Int) => Prog.ok (decide (a18 < a17))) >>= fun (b20 : Bool) => if b20 then Prog.ok true else ((Prog.ok v15 : Prog Tx) >>= fun (a19 : Tx) => Prog.ok (memB a19 x_known))) >>= fun (c21 : Bool) => if c21 then outP (m_Line_refuse (LineV.mk (r.number) (r.parts) (r.place))) else ((Prog.ok (1 : Int)) >>= fun (v22 : Int) => ((Prog.ok v15 : Prog Tx) >>= fun (r23 : Tx) => Prog.ok (r23, (LineV.mk (r.number) (r.parts) ((r.place + v22)))))))))
def m_Line_finish (r : LineV)  : Prog (Unit × LineV) :=
  (((Prog.ok r.place : Prog Int) >>= fun (a2 : Int) => ((Prog.ok r.parts : Prog (L Tx)) >>= fun (a1 : (L Tx)) => Prog.ok ((un a1).length : Int)) >>= fun (a3 : Int) => Prog.ok (decide (a2 < a3))) >>= fun (c4 : Bool) => if c4 then outP (m_Line_refuse (LineV.mk (r.number) (r.parts) (r.place))) else (Prog.ok ((), (LineV.mk (r.number) (r.parts) (r.place)))))
def m_read_code (x_text : Tx) : Prog CodeV :=
  (((Prog.ok x_text : Prog Tx) >>= fun (a1 : Tx) => (Prog.ok ([10] : Tx)) >>= fun (a2 : Tx) => chk (small (a1.length + 2) && !a2.isEmpty) (Prog.ok (splitT a1 a2) : Prog (L Tx))) >>= fun (v3 : (L Tx)) => (((Prog.ok v3 : Prog (L Tx)) >>= fun (a5 : (L Tx)) => (Prog.ok (0 : Int)) >>= fun (a6 : Int) => getI (un a5) a6) >>= fun (a7 : Tx) => (Prog.ok (1 : Int)) >>= fun (a8 : Int) => m_Line___init__ a7 a8 >>= fun (r9 : Unit × LineV) => (((((Prog.ok ([115, 105, 103, 110, 115] : Tx)) >>= fun (a10 : Tx) => (Prog.ok ([] : List Tx)) >>= fun (a11 : List Tx) => Prog.ok (a10 :: a11)) >>= fun (a12 : List Tx) => if a12.length ≤ 100000 then Prog.ok a12 else Prog.stuck) >>= fun (a13 : (List Tx)) => m_Line_take_one (LineV.mk (r9.2.number) (r9.2.parts) (r9.2.place)) a13) >>= fun (y14 : (Tx × LineV)) => ((((((Prog.ok ([50] : Tx)) >>= fun (a17 : Tx) => ((Prog.ok ([51] : Tx)) >>= fun (a15 : Tx) => (Prog.ok ([] : List Tx)) >>= fun (a16 : List Tx) => Prog.ok (a15 :: a16)) >>= fun (a18 : List Tx) => Prog.ok (a17 :: a18)) >>= fun (a19 : List Tx) => if a19.length ≤ 100000 then Prog.ok a19 else Prog.stuck) >>= fun (a20 : (List Tx)) => m_Line_take_one (LineV.mk (y14.2.number) (y14.2.parts) (y14.2.place)) a20) >>= fun (x21 : (Tx × LineV)) => intS x21.1 >>= fun (n22 : Int) => Prog.ok (n22, x21.2)) >>= fun (y23 : Int × LineV) => ((m_Line_finish (LineV.mk (y23.2.number) (y23.2.parts) (y23.2.place))) >>= fun (y24 : (Unit × LineV)) => (((Prog.ok ([] : List Tx)) >>= fun (a25 : List Tx) => if a25.length ≤ 100000 then (Prog.ok a25 : Prog (L Tx)) else Prog.stuck) >>= fun (v26 : L Tx) => ((((Prog.ok v3 : Prog (L Tx)) >>= fun (a27 : (L Tx)) => ((Prog.ok (1 : Int)) >>= fun (a28 : Int) => Prog.ok (some a28)) >>= fun (p29 : Option Int) => (Prog.ok (none : Option Int)) >>= fun (p30 : Option Int) => (Prog.ok (cut (un a27) p29 p30) : Prog (L Tx))) >>= fun (a31 : (L Tx)) => Prog.ok (enumT (un a31))) >>= fun (xs61 : List (Int × Tx)) => foldP (fun (b32 : ((List Tx))) (a33 : (Int × Tx)) => (((Prog.ok a33.1 : Prog Int) >>= fun (a34 : Int) => (Prog.ok (6 : Int)) >>= fun (a35 : Int) => Prog.ok (decide (a34 = a35))) >>= fun (c36 : Bool) => if c36 then raiseP (((Prog.ok a33.1 : Prog Int) >>= fun (a37 : Int) => (Prog.ok (2 : Int)) >>= fun (a38 : Int) => Prog.ok (a37 + a38)) >>= fun (a39 : Int) => (Prog.ok (1 : Int)) >>= fun (a40 : Int) => Prog.ok (⟨"InvalidText", [enc a40, enc a39]⟩ : Exc)) else ((Prog.ok a33.2 : Prog Tx) >>= fun (a43 : Tx) => ((Prog.ok a33.1 : Prog Int) >>= fun (a41 : Int) => (Prog.ok (2 : Int)) >>= fun (a42 : Int) => Prog.ok (a41 + a42)) >>= fun (a44 : Int) => m_Line___init__ a43 a44 >>= fun (r45 : Unit × LineV) => (((Prog.ok y23.1 : Prog Int) >>= fun (a46 : Int) => m_Line_take_word (LineV.mk (r45.2.number) (r45.2.parts) (r45.2.place)) a46 (b32)) >>= fun (y47 : (Tx × LineV)) => chk (small (b32).length) ((m_Line_finish (LineV.mk (y47.2.number) (y47.2.parts) (y47.2.place))) >>= fun (y48 : (Unit × LineV)) => (Prog.ok (b32 ++ [y47.1]) : Prog ((List Tx)))))))) xs61 (un v26) >>= fun (b32 : ((List Tx))) => (((Prog.ok b32 : Prog (L Tx)) >>= fun (a50 : (L Tx)) => ((Prog.ok ([] : List Tx)) >>= fun (a49 : List Tx) => if a49.length ≤ 100000 then (Prog.ok a49 : Prog (L Tx)) else Prog.stuck) >>= fun (a51 : (L Tx)) => eqP a50 a51) >>= fun (c52 : Bool) => if c52 then raiseP ((((Prog.ok v3 : Prog (L Tx)) >>= fun (a53 : (L Tx)) => Prog.ok ((un a53).length : Int)) >>= fun (a54 : Int) => (Prog.ok (1 : Int)) >>= fun (a55 : Int) => Prog.ok (a54 + a55)) >>= fun (a56 : Int) => (Prog.ok (1 : Int)) >>= fun (a57 : Int) => Prog.ok (⟨"InvalidText", [enc a57, enc a56]⟩ : Exc)) else ((Prog.ok y23.1 : Prog Int) >>= fun (a59 : Int) => ((Prog.ok b32 : Prog (L Tx)) >>= fun (a58 : (L Tx)) => Prog.ok (un a58)) >>= fun (a60 : (List Tx)) => m_Code___init__ a59 a60)))))))))
def m__law_word (x_law_many : Int) (x_law_high : Int) : Prog Tx :=
  ((Prog.ok ([] : Tx)) >>= fun (a11 : Tx) => ((((Prog.ok (1 : Int)) >>= fun (a2 : Int) => ((Prog.ok x_law_high : Prog Int) >>= fun (a1 : Int) => m__law_next a1) >>= fun (a3 : Int) => Prog.ok (a2 + a3)) >>= fun (n4 : Int) => chk (inRange n4) (Prog.ok (rng 0 n4))) >>= fun (xs10 : List Int) => chk (small xs10.length) (noerr (mapP (fun (a5 : Int) => ((Prog.ok ([97, 98, 99] : Tx)) >>= fun (a8 : Tx) => ((Prog.ok x_law_many : Prog Int) >>= fun (a7 : Int) => m__law_next a7) >>= fun (a9 : Int) => getS a8 a9)) xs10) : Prog (L Tx))) >>= fun (a12 : L Tx) => chk (small (sumLen (un a12) + (un a12).length * a11.length)) (Prog.ok (joinT a11 (un a12))))
def m__law_code (x_law_high : Int) : Prog (L2v Int (List Tx)) :=
  (((Prog.ok (2 : Int)) >>= fun (a5 : Int) => ((((Prog.ok (4 : Int)) >>= fun (a1 : Int) => m__law_next a1) >>= fun (a2 : Int) => (Prog.ok (0 : Int)) >>= fun (a3 : Int) => Prog.ok (decide (a2 = a3))) >>= fun (b4 : Bool) => Prog.ok (if b4 then (1 : Int) else 0)) >>= fun (a6 : Int) => Prog.ok (a5 + a6)) >>= fun (v7 : Int) => (((Prog.ok ([] : List Tx)) >>= fun (a8 : List Tx) => if a8.length ≤ 100000 then (Prog.ok a8 : Prog (L Tx)) else Prog.stuck) >>= fun (v9 : L Tx) => ((((Prog.ok (3 : Int)) >>= fun (a10 : Int) => m__law_next a10) >>= fun (a11 : Int) => (Prog.ok (0 : Int)) >>= fun (a12 : Int) => Prog.ok (decide (a11 = a12))) >>= fun (c13 : Bool) => (if c13 then ((((Prog.ok ([] : Tx)) >>= fun (a15 : Tx) => (Prog.ok ([] : List Tx)) >>= fun (a16 : List Tx) => Prog.ok (a15 :: a16)) >>= fun (a17 : List Tx) => if a17.length ≤ 100000 then (Prog.ok a17 : Prog (L Tx)) else Prog.stuck) >>= fun (v18 : (L Tx)) => ((((Prog.ok x_law_high : Prog Int) >>= fun (a19 : Int) => m__law_next a19) >>= fun (n20 : Int) => chk (inRange n20) (Prog.ok (rng 0 n20))) >>= fun (xs83 : List Int) => foldP (fun (b21 : ((L Tx))) (a22 : Int) => ((((Prog.ok b21 : Prog (L Tx)) >>= fun (a23 : (L Tx)) => Prog.ok ((un a23).length : Int)) >>= fun (a24 : Int) => m__law_next a24) >>= fun (v25 : Int) => ((((((Prog.ok b21 : Prog (L Tx)) >>= fun (a27 : (L Tx)) => (Prog.ok v25 : Prog Int) >>= fun (a28 : Int) => getI (un a27) a28) >>= fun (a29 : Tx) => chk (small a29.length) (Prog.ok (a29.length : Int))) >>= fun (a30 : Int) => (Prog.ok (4 : Int)) >>= fun (a31 : Int) => Prog.ok (decide (a30 < a31))) >>= fun (b39 : Bool) => if b39 then (((((Prog.ok b21 : Prog (L Tx)) >>= fun (a32 : (L Tx)) => Prog.ok ((un a32).length : Int)) >>= fun (a33 : Int) => (Prog.ok v7 : Prog Int) >>= fun (a34 : Int) => Prog.ok (a33 + a34)) >>= fun (a35 : Int) => (Prog.ok (1 : Int)) >>= fun (a36 : Int) => Prog.ok (a35 - a36)) >>= fun (a37 : Int) => (Prog.ok (6 : Int)) >>= fun (a38 : Int) => Prog.ok (decide (a37 ≤ a38))) else Prog.ok false) >>= fun (c40 : Bool) => (if c40 then (((((Prog.ok b21 : Prog (L Tx)) >>= fun (a42 : (L Tx)) => (Prog.ok (none : Option Int)) >>= fun (p44 : Option Int) => ((Prog.ok v25 : Prog Int) >>= fun (a43 : Int) => Prog.ok (some a43)) >>= fun (p45 : Option Int) => (Prog.ok (cut (un a42) p44 p45) : Prog (L Tx))) >>= fun (a58 : L Tx) => ((((Prog.ok ([97, 98, 99] : Tx)) >>= fun (a46 : Tx) => (Prog.ok (none : Option Int)) >>= fun (p48 : Option Int) => ((Prog.ok v7 : Prog Int) >>= fun (a47 : Int) => Prog.ok (some a47)) >>= fun (p49 : Option Int) => chk (small a46.length) (Prog.ok (cut a46 p48 p49))) >>= fun (a50 : Tx) => Prog.ok (signs a50)) >>= fun (xs57 : List Tx) => chk (small xs57.length) (mapP (fun (a51 : Tx) => (((Prog.ok b21 : Prog (L Tx)) >>= fun (a53 : (L Tx)) => (Prog.ok v25 : Prog Int) >>= fun (a54 : Int) => getI (un a53) a54) >>= fun (a55 : Tx) => (Prog.ok a51 : Prog Tx) >>= fun (a56 : Tx) => chk (small (a55.length + a56.length)) (Prog.ok (a55 ++ a56)))) xs57 : Prog (L Tx))) >>= fun (a59 : L Tx) => chk (small ((un a58).length + (un a59).length)) (Prog.ok (un a58 ++ un a59) : Prog (L Tx))) >>= fun (a66 : L Tx) => ((Prog.ok b21 : Prog (L Tx)) >>= fun (a60 : (L Tx)) => (((Prog.ok v25 : Prog Int) >>= fun (a61 : Int) => (Prog.ok (1 : Int)) >>= fun (a62 : Int) => Prog.ok (a61 + a62)) >>= fun (a63 : Int) => Prog.ok (some a63)) >>= fun (p64 : Option Int) => (Prog.ok (none : Option Int)) >>= fun (p65 : Option Int) => (Prog.ok (cut (un a60) p64 p65) : Prog (L Tx))) >>= fun (a67 : L Tx) => chk (small ((un a66).length + (un a67).length)) (Prog.ok (un a66 ++ un a67) : Prog (L Tx))) >>= fun (v68 : (L Tx)) => (Prog.ok v68 : Prog ((L Tx)))) else (Prog.ok b21 : Prog ((L Tx)))) >>= fun (b41 : ((L Tx))) => (Prog.ok b41 : Prog ((L Tx)))))) xs83 v18 >>= fun (b21 : ((L Tx))) => ((((Prog.ok b21 : Prog (L Tx)) : Prog (List Tx)) >>= fun (xs72 : List Tx) => chk (small xs72.length) (compP (fun (a69 : Tx) => ((Prog.ok a69 : Prog Tx) >>= fun (a70 : Tx) => (Prog.ok ([] : Tx)) >>= fun (a71 : Tx) => Prog.ok (!decide (a70 = a71)))) (fun (a69 : Tx) => (Prog.ok a69 : Prog Tx)) xs72 : Prog (L Tx))) >>= fun (v73 : L Tx) => ((((Prog.ok (2 : Int)) >>= fun (a74 : Int) => m__law_next a74) >>= fun (a75 : Int) => (Prog.ok (0 : Int)) >>= fun (a76 : Int) => Prog.ok (decide (a75 = a76))) >>= fun (c77 : Bool) => (if c77 then ((((Prog.ok (un v73) : Prog (L Tx)) : Prog (List Tx)) >>= fun (xs81 : List Tx) => chk (small xs81.length) (mapP (fun (a79 : Tx) => ((Prog.ok a79 : Prog Tx) >>= fun (a80 : Tx) => chk (small a80.length) (Prog.ok a80.reverse))) xs81 : Prog (L Tx))) >>= fun (v82 : L Tx) => (Prog.ok (un v82) : Prog ((List Tx)))) else (Prog.ok (un v73) : Prog ((List Tx)))) >>= fun (b78 : ((List Tx))) => (Prog.ok b78 : Prog ((List Tx))))))) else (Prog.ok (un v9) : Prog ((List Tx)))) >>= fun (b14 : ((List Tx))) => (((((Prog.ok x_law_high : Prog Int) >>= fun (a84 : Int) => m__law_next a84) >>= fun (a89 : Int) => (((Prog.ok b14 : Prog (L Tx)) >>= fun (a86 : (L Tx)) => ((Prog.ok ([] : List Tx)) >>= fun (a85 : List Tx) => if a85.length ≤ 100000 then (Prog.ok a85 : Prog (L Tx)) else Prog.stuck) >>= fun (a87 : (L Tx)) => eqP a86 a87) >>= fun (b88 : Bool) => Prog.ok (if b88 then (1 : Int) else 0)) >>= fun (a90 : Int) => Prog.ok (a89 + a90)) >>= fun (n91 : Int) => chk (inRange n91) (Prog.ok (rng 0 n91))) >>= fun (xs130 : List Int) => foldP (fun (b92 : ((List Tx))) (a93 : Int) => (((Prog.ok v7 : Prog Int) >>= fun (a98 : Int) => ((((Prog.ok (3 : Int)) >>= fun (a94 : Int) => m__law_next a94) >>= fun (a95 : Int) => (Prog.ok (0 : Int)) >>= fun (a96 : Int) => Prog.ok (decide (a95 = a96))) >>= fun (b97 : Bool) => if b97 then (Prog.ok (4 : Int)) else (Prog.ok (3 : Int))) >>= fun (a99 : Int) => m__law_word a98 a99) >>= fun (v100 : Tx) => ((((Prog.ok v100 : Prog Tx) >>= fun (a101 : Tx) => (Prog.ok b92 : Prog (L Tx)) >>= fun (a102 : (L Tx)) => Prog.ok (!memB a101 (un a102))) >>= fun (b106 : Bool) => if b106 then (((Prog.ok b92 : Prog (L Tx)) >>= fun (a103 : (L Tx)) => Prog.ok ((un a103).length : Int)) >>= fun (a104 : Int) => (Prog.ok (6 : Int)) >>= fun (a105 : Int) => Prog.ok (decide (a104 < a105))) else Prog.ok false) >>= fun (c107 : Bool) => (if c107 then (((((Prog.ok b92 : Prog (L Tx)) >>= fun (a109 : (L Tx)) => Prog.ok ((un a109).length : Int)) >>= fun (a110 : Int) => (Prog.ok (1 : Int)) >>= fun (a111 : Int) => Prog.ok (a110 + a111)) >>= fun (a112 : Int) => m__law_next a112) >>= fun (j113 : Int) => (Prog.ok v100 : Prog Tx) >>= fun (v114 : Tx) => chk (small (b92).length && decide (0 ≤ j113) && inRange j113) (Prog.ok (b92.take j113.toNat ++ [v114] ++ b92.drop j113.toNat) : Prog ((List Tx)))) else (Prog.ok b92 : Prog ((List Tx)))) >>= fun (b108 : ((List Tx))) => (Prog.ok b108 : Prog ((List Tx)))))) xs130 b14 >>= fun (b92 : ((List Tx))) => (((((Prog.ok b92 : Prog (L Tx)) >>= fun (a115 : (L Tx)) => Prog.ok ((un a115).length : Int)) >>= fun (a116 : Int) => (Prog.ok (2 : Int)) >>= fun (a117 : Int) => Prog.ok (decide (a117 < a116))) >>= fun (b121 : Bool) => if b121 then (((Prog.ok (2 : Int)) >>= fun (a118 : Int) => m__law_next a118) >>= fun (a119 : Int) => (Prog.ok (0 : Int)) >>= fun (a120 : Int) => Prog.ok (decide (a119 = a120))) else Prog.ok false) >>= fun (c122 : Bool) => (if c122 then ((((Prog.ok b92 : Prog (L Tx)) >>= fun (a124 : (L Tx)) => Prog.ok ((un a124).length : Int)) >>= fun (a125 : Int) => m__law_next a125) >>= fun (j126 : Int) => chk (decide (0 ≤ j126) && decide (j126 < (b92).length) && inRange j126) (Prog.ok (b92.eraseIdx j126.toNat) : Prog ((List Tx)))) else (Prog.ok b92 : Prog ((List Tx)))) >>= fun (b123 : ((List Tx))) => ((Prog.ok v7 : Prog Int) >>= fun (a128 : Int) => ((Prog.ok b123 : Prog (L Tx)) >>= fun (a127 : (L Tx)) => Prog.ok (un a127)) >>= fun (a129 : (List Tx)) => Prog.ok (L2v.mk a128 a129)))))))
def m__law_built (x_law_t : (L2v Int (List Tx))) : Prog CodeV :=
  (((Prog.ok x_law_t : Prog (L2v Int (List Tx))) >>= fun (a1 : (L2v Int (List Tx))) => Prog.ok a1.a) >>= fun (a3 : Int) => ((Prog.ok x_law_t : Prog (L2v Int (List Tx))) >>= fun (a2 : (L2v Int (List Tx))) => Prog.ok a2.b) >>= fun (a4 : (List Tx)) => m_Code___init__ a3 a4)
def m__law_is_word (x_law_word_here : Tx) (x_law_many : Int) : Prog Bool :=
  (((Prog.ok (1 : Int)) >>= fun (a2 : Int) => ((Prog.ok x_law_word_here : Prog Tx) >>= fun (a1 : Tx) => chk (small a1.length) (Prog.ok (a1.length : Int))) >>= fun (a3 : Int) => (Prog.ok (decide (a2 ≤ a3))) >>= fun (k5 : Bool) => if k5 then (Prog.ok (4 : Int)) >>= fun (a4 : Int) => Prog.ok (decide (a3 ≤ a4)) else Prog.ok false) >>= fun (b18 : Bool) => if b18 then ((((Prog.ok x_law_word_here : Prog Tx) >>= fun (a6 : Tx) => Prog.ok (signs a6)) >>= fun (xs14 : List Tx) => chk (small xs14.length) (compP (fun (a7 : Tx) => ((Prog.ok a7 : Prog Tx) >>= fun (a12 : Tx) => ((Prog.ok ([97, 98, 99] : Tx)) >>= fun (a8 : Tx) => (Prog.ok (none : Option Int)) >>= fun (p10 : Option Int) => ((Prog.ok x_law_many : Prog Int) >>= fun (a9 : Int) => Prog.ok (some a9)) >>= fun (p11 : Option Int) => chk (small a8.length) (Prog.ok (cut a8 p10 p11))) >>= fun (a13 : Tx) => Prog.ok (!subS a12 a13))) (fun (a7 : Tx) => (Prog.ok a7 : Prog Tx)) xs14 : Prog (L Tx))) >>= fun (a16 : (L Tx)) => ((Prog.ok ([] : List Tx)) >>= fun (a15 : List Tx) => if a15.length ≤ 100000 then (Prog.ok a15 : Prog (L Tx)) else Prog.stuck) >>= fun (a17 : (L Tx)) => eqP a16 a17) else Prog.ok false)
def m__law_due (x_law_string : Tx) : Prog (Option (Int × Int)) :=
  (((Prog.ok x_law_string : Prog Tx) >>= fun (a1 : Tx) => (Prog.ok ([10] : Tx)) >>= fun (a2 : Tx) => chk (small (a1.length + 2) && !a2.isEmpty) (Prog.ok (splitT a1 a2) : Prog (L Tx))) >>= fun (v3 : (L Tx)) => (((Prog.ok ([] : List Tx)) >>= fun (a4 : List Tx) => if a4.length ≤ 100000 then (Prog.ok a4 : Prog (L Tx)) else Prog.stuck) >>= fun (v5 : L Tx) => ((((Prog.ok v3 : Prog (L Tx)) >>= fun (a6 : (L Tx)) => Prog.ok ((un a6).length : Int)) >>= fun (n7 : Int) => chk (inRange n7) (Prog.ok (rng 0 n7))) >>= fun (xs117 : List Int) => foldF (fun (b8 : ((Option Int) × (List Tx))) (a9 : Int) => ((((((Prog.ok v3 : Prog (L Tx)) >>= fun (a11 : (L Tx)) => (Prog.ok a9 : Prog Int) >>= fun (a12 : Int) => getI (un a11) a12) >>= fun (a13 : Tx) => (Prog.ok ([32] : Tx)) >>= fun (a14 : Tx) => chk (small (a13.length + 2) && !a14.isEmpty) (Prog.ok (splitT a13 a14) : Prog (L Tx))) : Prog (List Tx)) >>= fun (xs18 : List Tx) => chk (small xs18.length) (compP (fun (a15 : Tx) => ((Prog.ok a15 : Prog Tx) >>= fun (a16 : Tx) => (Prog.ok ([] : Tx)) >>= fun (a17 : Tx) => Prog.ok (!decide (a16 = a17)))) (fun (a15 : Tx) => (Prog.ok a15 : Prog Tx)) xs18 : Prog (L Tx))) >>= fun (v19 : (L Tx)) => (((Prog.ok a9 : Prog Int) >>= fun (a20 : Int) => (Prog.ok (0 : Int)) >>= fun (a21 : Int) => Prog.ok (decide (a20 = a21))) >>= fun (c22 : Bool) => (if c22 then ((((Prog.ok v19 : Prog (L Tx)) >>= fun (a24 : (L Tx)) => (Prog.ok (none : Option Int)) >>= fun (p26 : Option Int) => ((Prog.ok (1 : Int)) >>= fun (a25 : Int) => Prog.ok (some a25)) >>= fun (p27 : Option Int) => (Prog.ok (cut (un a24) p26 p27) : Prog (L Tx))) >>= fun (a31 : (L Tx)) => (((Prog.ok ([115, 105, 103, 110, 115] : Tx)) >>= fun (a28 : Tx) => (Prog.ok ([] : List Tx)) >>= fun (a29 : List Tx) => Prog.ok (a28 :: a29)) >>= fun (a30 : List Tx) => if a30.length ≤ 100000 then (Prog.ok a30 : Prog (L Tx)) else Prog.stuck) >>= fun (a32 : (L Tx)) => neP a31 a32) >>= fun (c33 : Bool) => if c33 then (((Prog.ok (1 : Int)) >>= fun (a34 : Int) => (Prog.ok (1 : Int)) >>= fun (a35 : Int) => Prog.ok (a34, a35)) >>= fun a => Prog.ok (some a)) >>= (fun (r69 : (Option (Int × Int))) => (Prog.ok (.rt r69) : Prog (Fl ((Option Int) × (List Tx)) (Option (Int × Int))))) else ((((Prog.ok v19 : Prog (L Tx)) >>= fun (a36 : (L Tx)) => ((Prog.ok (1 : Int)) >>= fun (a37 : Int) => Prog.ok (some a37)) >>= fun (p39 : Option Int) => ((Prog.ok (2 : Int)) >>= fun (a38 : Int) => Prog.ok (some a38)) >>= fun (p40 : Option Int) => (Prog.ok (cut (un a36) p39 p40) : Prog (L Tx))) >>= fun (a52 : (L Tx)) => (((((Prog.ok ([50] : Tx)) >>= fun (a46 : Tx) => (Prog.ok ([] : List Tx)) >>= fun (a47 : List Tx) => Prog.ok (a46 :: a47)) >>= fun (a48 : List Tx) => if a48.length ≤ 100000 then (Prog.ok a48 : Prog (L Tx)) else Prog.stuck) >>= fun (a49 : (L Tx)) => ((((Prog.ok ([51] : Tx)) >>= fun (a41 : Tx) => (Prog.ok ([] : List Tx)) >>= fun (a42 : List Tx) => Prog.ok (a41 :: a42)) >>= fun (a43 : List Tx) => if a43.length ≤ 100000 then (Prog.ok a43 : Prog (L Tx)) else Prog.stuck) >>= fun (a44 : (L Tx)) => (Prog.ok ([] : List (L Tx))) >>= fun (a45 : List (L Tx)) => Prog.ok (a44 :: a45)) >>= fun (a50 : List (L Tx)) => Prog.ok (a49 :: a50)) >>= fun (a51 : List (L Tx)) => if a51.length ≤ 100000 then Prog.ok a51 else Prog.stuck) >>= fun (a53 : (List (L Tx))) => (inDT a52 a53 >>= fun b => Prog.ok (!b))) >>= fun (c54 : Bool) => if c54 then (((Prog.ok (1 : Int)) >>= fun (a55 : Int) => (Prog.ok (2 : Int)) >>= fun (a56 : Int) => Prog.ok (a55, a56)) >>= fun a => Prog.ok (some a)) >>= (fun (r68 : (Option (Int × Int))) => (Prog.ok (.rt r68) : Prog (Fl ((Option Int) × (List Tx)) (Option (Int × Int))))) else ((((Prog.ok v19 : Prog (L Tx)) >>= fun (a57 : (L Tx)) => Prog.ok ((un a57).length : Int)) >>= fun (a58 : Int) => (Prog.ok (2 : Int)) >>= fun (a59 : Int) => Prog.ok (decide (a59 < a58))) >>= fun (c60 : Bool) => if c60 then (((Prog.ok (1 : Int)) >>= fun (a61 : Int) => (Prog.ok (3 : Int)) >>= fun (a62 : Int) => Prog.ok (a61, a62)) >>= fun a => Prog.ok (some a)) >>= (fun (r67 : (Option (Int × Int))) => (Prog.ok (.rt r67) : Prog (Fl ((Option Int) × (List Tx)) (Option (Int × Int))))) else ((((Prog.ok v19 : Prog (L Tx)) >>= fun (a64 : (L Tx)) => (Prog.ok (1 : Int)) >>= fun (a65 : Int) => getI (un a64) a65) >>= intS) >>= fun (v66 : Int) => (Prog.ok (.nx ((some v66), b8.2)) : Prog (Fl ((Option Int) × (List Tx)) (Option (Int × Int)))))))) else ((((Prog.ok a9 : Prog Int) >>= fun (a70 : Int) => (Prog.ok (6 : Int)) >>= fun (a71 : Int) => Prog.ok (decide (a71 < a70))) >>= fun (b88 : Bool) => if b88 then Prog.ok true else (((Prog.ok v19 : Prog (L Tx)) >>= fun (a73 : (L Tx)) => ((Prog.ok ([] : List Tx)) >>= fun (a72 : List Tx) => if a72.length ≤ 100000 then (Prog.ok a72 : Prog (L Tx)) else Prog.stuck) >>= fun (a74 : (L Tx)) => eqP a73 a74) >>= fun (b87 : Bool) => if b87 then Prog.ok true else (((((Prog.ok v19 : Prog (L Tx)) >>= fun (a76 : (L Tx)) => (Prog.ok (0 : Int)) >>= fun (a77 : Int) => getI (un a76) a77) >>= fun (a78 : Tx) => (fromSome b8.1 : Prog Int) >>= fun (a79 : Int) => m__law_is_word a78 a79) >>= fun (b80 : Bool) => Prog.ok (!b80)) >>= fun (b86 : Bool) => if b86 then Prog.ok true else (((Prog.ok v19 : Prog (L Tx)) >>= fun (a82 : (L Tx)) => (Prog.ok (0 : Int)) >>= fun (a83 : Int) => getI (un a82) a83) >>= fun (a84 : Tx) => (Prog.ok b8.2 : Prog (L Tx)) >>= fun (a85 : (L Tx)) => Prog.ok (memB a84 (un a85)))))) >>= fun (c89 : Bool) => if c89 then ((((Prog.ok a9 : Prog Int) >>= fun (a90 : Int) => (Prog.ok (1 : Int)) >>= fun (a91 : Int) => Prog.ok (a90 + a91)) >>= fun (a92 : Int) => (Prog.ok (1 : Int)) >>= fun (a93 : Int) => Prog.ok (a92, a93)) >>= fun a => Prog.ok (some a)) >>= (fun (r107 : (Option (Int × Int))) => (Prog.ok (.rt r107) : Prog (Fl ((Option Int) × (List Tx)) (Option (Int × Int))))) else ((((Prog.ok v19 : Prog (L Tx)) >>= fun (a94 : (L Tx)) => Prog.ok ((un a94).length : Int)) >>= fun (a95 : Int) => (Prog.ok (1 : Int)) >>= fun (a96 : Int) => Prog.ok (decide (a96 < a95))) >>= fun (c97 : Bool) => if c97 then ((((Prog.ok a9 : Prog Int) >>= fun (a98 : Int) => (Prog.ok (1 : Int)) >>= fun (a99 : Int) => Prog.ok (a98 + a99)) >>= fun (a100 : Int) => (Prog.ok (2 : Int)) >>= fun (a101 : Int) => Prog.ok (a100, a101)) >>= fun a => Prog.ok (some a)) >>= (fun (r106 : (Option (Int × Int))) => (Prog.ok (.rt r106) : Prog (Fl ((Option Int) × (List Tx)) (Option (Int × Int))))) else (((Prog.ok v19 : Prog (L Tx)) >>= fun (a103 : (L Tx)) => (Prog.ok (0 : Int)) >>= fun (a104 : Int) => getI (un a103) a104) >>= fun (v105 : Tx) => chk (small (b8.2).length) (Prog.ok (.nx (b8.1, (b8.2 ++ [v105]))) : Prog (Fl ((Option Int) × (List Tx)) (Option (Int × Int)))))))) >>= flK (fun (b23 : ((Option Int) × (List Tx))) => (Prog.ok (.nx (b23.1, b23.2)) : Prog (Fl ((Option Int) × (List Tx)) (Option (Int × Int))))) Fl.rt))) xs117 (none, (un v5)) >>= flK (fun (b8 : ((Option Int) × (List Tx))) => (((Prog.ok b8.2 : Prog (L Tx)) >>= fun (a109 : (L Tx)) => ((Prog.ok ([] : List Tx)) >>= fun (a108 : List Tx) => if a108.length ≤ 100000 then (Prog.ok a108 : Prog (L Tx)) else Prog.stuck) >>= fun (a110 : (L Tx)) => eqP a109 a110) >>= fun (b116 : Bool) => if b116 then (((((Prog.ok v3 : Prog (L Tx)) >>= fun (a111 : (L Tx)) => Prog.ok ((un a111).length : Int)) >>= fun (a112 : Int) => (Prog.ok (1 : Int)) >>= fun (a113 : Int) => Prog.ok (a112 + a113)) >>= fun (a114 : Int) => (Prog.ok (1 : Int)) >>= fun (a115 : Int) => Prog.ok (a114, a115)) >>= fun a => Prog.ok (some a)) else (Prog.ok (none : (Option (Int × Int)))))) id)))
def m__law_spoil (x_law_lines : (L Tx)) : Prog (L Tx) :=
  ((((Prog.ok x_law_lines : Prog (L Tx)) >>= fun (a1 : (L Tx)) => Prog.ok ((un a1).length : Int)) >>= fun (a2 : Int) => m__law_next a2) >>= fun (v3 : Int) => (((Prog.ok (7 : Int)) >>= fun (a4 : Int) => m__law_next a4) >>= fun (v5 : Int) => (((Prog.ok v5 : Prog Int) >>= fun (a6 : Int) => (Prog.ok (0 : Int)) >>= fun (a7 : Int) => Prog.ok (decide (a6 = a7))) >>= fun (c8 : Bool) => if c8 then ((((Prog.ok x_law_lines : Prog (L Tx)) >>= fun (a9 : (L Tx)) => Prog.ok ((un a9).length : Int)) >>= fun (a10 : Int) => (Prog.ok (1 : Int)) >>= fun (a11 : Int) => Prog.ok (decide (a11 < a10))) >>= fun (b24 : Bool) => if b24 then (((Prog.ok x_law_lines : Prog (L Tx)) >>= fun (a12 : (L Tx)) => (Prog.ok (none : Option Int)) >>= fun (p14 : Option Int) => ((Prog.ok v3 : Prog Int) >>= fun (a13 : Int) => Prog.ok (some a13)) >>= fun (p15 : Option Int) => (Prog.ok (cut (un a12) p14 p15) : Prog (L Tx))) >>= fun (a22 : L Tx) => ((Prog.ok x_law_lines : Prog (L Tx)) >>= fun (a16 : (L Tx)) => (((Prog.ok v3 : Prog Int) >>= fun (a17 : Int) => (Prog.ok (1 : Int)) >>= fun (a18 : Int) => Prog.ok (a17 + a18)) >>= fun (a19 : Int) => Prog.ok (some a19)) >>= fun (p20 : Option Int) => (Prog.ok (none : Option Int)) >>= fun (p21 : Option Int) => (Prog.ok (cut (un a16) p20 p21) : Prog (L Tx))) >>= fun (a23 : L Tx) => chk (small ((un a22).length + (un a23).length)) (Prog.ok (un a22 ++ un a23) : Prog (L Tx))) else (Prog.ok x_law_lines : Prog (L Tx))) else (((Prog.ok v5 : Prog Int) >>= fun (a25 : Int) => (Prog.ok (1 : Int)) >>= fun (a26 : Int) => Prog.ok (decide (a25 = a26))) >>= fun (c27 : Bool) => if c27 then ((((Prog.ok x_law_lines : Prog (L Tx)) >>= fun (a28 : (L Tx)) => (Prog.ok (none : Option Int)) >>= fun (p30 : Option Int) => ((Prog.ok v3 : Prog Int) >>= fun (a29 : Int) => Prog.ok (some a29)) >>= fun (p31 : Option Int) => (Prog.ok (cut (un a28) p30 p31) : Prog (L Tx))) >>= fun (a39 : L Tx) => ((Prog.ok x_law_lines : Prog (L Tx)) >>= fun (a32 : (L Tx)) => ((Prog.ok v3 : Prog Int) >>= fun (a33 : Int) => Prog.ok (some a33)) >>= fun (p37 : Option Int) => (((Prog.ok v3 : Prog Int) >>= fun (a34 : Int) => (Prog.ok (1 : Int)) >>= fun (a35 : Int) => Prog.ok (a34 + a35)) >>= fun (a36 : Int) => Prog.ok (some a36)) >>= fun (p38 : Option Int) => (Prog.ok (cut (un a32) p37 p38) : Prog (L Tx))) >>= fun (a40 : L Tx) => chk (small ((un a39).length + (un a40).length)) (Prog.ok (un a39 ++ un a40) : Prog (L Tx))) >>= fun (a45 : L Tx) => ((Prog.ok x_law_lines : Prog (L Tx)) >>= fun (a41 : (L Tx)) => ((Prog.ok v3 : Prog Int) >>= fun (a42 : Int) => Prog.ok (some a42)) >>= fun (p43 : Option Int) => (Prog.ok (none : Option Int)) >>= fun (p44 : Option Int) => (Prog.ok (cut (un a41) p43 p44) : Prog (L Tx))) >>= fun (a46 : L Tx) => chk (small ((un a45).length + (un a46).length)) (Prog.ok (un a45 ++ un a46) : Prog (L Tx))) else (((Prog.ok v5 : Prog Int) >>= fun (a47 : Int) => (Prog.ok (2 : Int)) >>= fun (a48 : Int) => Prog.ok (decide (a47 = a48))) >>= fun (c49 : Bool) => if c49 then (((Prog.ok x_law_lines : Prog (L Tx)) >>= fun (a50 : (L Tx)) => ((Prog.ok v3 : Prog Int) >>= fun (a51 : Int) => Prog.ok (some a51)) >>= fun (p52 : Option Int) => (Prog.ok (none : Option Int)) >>= fun (p53 : Option Int) => (Prog.ok (cut (un a50) p52 p53) : Prog (L Tx))) >>= fun (a58 : L Tx) => ((Prog.ok x_law_lines : Prog (L Tx)) >>= fun (a54 : (L Tx)) => (Prog.ok (none : Option Int)) >>= fun (p56 : Option Int) => ((Prog.ok v3 : Prog Int) >>= fun (a55 : Int) => Prog.ok (some a55)) >>= fun (p57 : Option Int) => (Prog.ok (cut (un a54) p56 p57) : Prog (L Tx))) >>= fun (a59 : L Tx) => chk (small ((un a58).length + (un a59).length)) (Prog.ok (un a58 ++ un a59) : Prog (L Tx))) else ((((Prog.ok x_law_lines : Prog (L Tx)) >>= fun (a61 : (L Tx)) => (Prog.ok v3 : Prog Int) >>= fun (a62 : Int) => getI (un a61) a62) >>= fun (a63 : Tx) => (Prog.ok ([32] : Tx)) >>= fun (a64 : Tx) => chk (small (a63.length + 2) && !a64.isEmpty) (Prog.ok (splitT a63 a64) : Prog (L Tx))) >>= fun (v65 : (L Tx)) => (((((Prog.ok v65 : Prog (L Tx)) >>= fun (a66 : (L Tx)) => Prog.ok ((un a66).length : Int)) >>= fun (a67 : Int) => (Prog.ok (1 : Int)) >>= fun (a68 : Int) => Prog.ok (a67 + a68)) >>= fun (a69 : Int) => m__law_next a69) >>= fun (v70 : Int) => (((Prog.ok v5 : Prog Int) >>= fun (a71 : Int) => (Prog.ok (3 : Int)) >>= fun (a72 : Int) => Prog.ok (decide (a71 = a72))) >>= fun (c73 : Bool) => if c73 then ((((Prog.ok x_law_lines : Prog (L Tx)) >>= fun (a74 : (L Tx)) => (Prog.ok (none : Option Int)) >>= fun (p76 : Option Int) => ((Prog.ok v3 : Prog Int) >>= fun (a75 : Int) => Prog.ok (some a75)) >>= fun (p77 : Option Int) => (Prog.ok (cut (un a74) p76 p77) : Prog (L Tx))) >>= fun (a87 : L Tx) => ((((Prog.ok ([32] : Tx)) >>= fun (a82 : Tx) => ((Prog.ok v65 : Prog (L Tx)) >>= fun (a78 : (L Tx)) => (Prog.ok (none : Option Int)) >>= fun (p80 : Option Int) => ((Prog.ok v70 : Prog Int) >>= fun (a79 : Int) => Prog.ok (some a79)) >>= fun (p81 : Option Int) => (Prog.ok (cut (un a78) p80 p81) : Prog (L Tx))) >>= fun (a83 : L Tx) => chk (small (sumLen (un a83) + (un a83).length * a82.length)) (Prog.ok (joinT a82 (un a83)))) >>= fun (a84 : Tx) => (Prog.ok ([] : List Tx)) >>= fun (a85 : List Tx) => Prog.ok (a84 :: a85)) >>= fun (a86 : List Tx) => if a86.length ≤ 100000 then (Prog.ok a86 : Prog (L Tx)) else Prog.stuck) >>= fun (a88 : L Tx) => chk (small ((un a87).length + (un a88).length)) (Prog.ok (un a87 ++ un a88) : Prog (L Tx))) >>= fun (a95 : L Tx) => ((Prog.ok x_law_lines : Prog (L Tx)) >>= fun (a89 : (L Tx)) => (((Prog.ok v3 : Prog Int) >>= fun (a90 : Int) => (Prog.ok (1 : Int)) >>= fun (a91 : Int) => Prog.ok (a90 + a91)) >>= fun (a92 : Int) => Prog.ok (some a92)) >>= fun (p93 : Option Int) => (Prog.ok (none : Option Int)) >>= fun (p94 : Option Int) => (Prog.ok (cut (un a89) p93 p94) : Prog (L Tx))) >>= fun (a96 : L Tx) => chk (small ((un a95).length + (un a96).length)) (Prog.ok (un a95 ++ un a96) : Prog (L Tx))) else ((((Prog.ok ([97] : Tx)) >>= fun (a121 : Tx) => ((Prog.ok ([98] : Tx)) >>= fun (a119 : Tx) => ((Prog.ok ([99] : Tx)) >>= fun (a117 : Tx) => ((Prog.ok ([97, 98] : Tx)) >>= fun (a115 : Tx) => ((Prog.ok ([97, 98, 97, 98] : Tx)) >>= fun (a113 : Tx) => ((Prog.ok ([97, 98, 97, 98, 97] : Tx)) >>= fun (a111 : Tx) => ((Prog.ok ([65] : Tx)) >>= fun (a109 : Tx) => ((Prog.ok ([50] : Tx)) >>= fun (a107 : Tx) => ((Prog.ok ([51] : Tx)) >>= fun (a105 : Tx) => ((Prog.ok ([52] : Tx)) >>= fun (a103 : Tx) => ((Prog.ok ([115, 105, 103, 110, 115] : Tx)) >>= fun (a101 : Tx) => ((Prog.ok ([48, 50] : Tx)) >>= fun (a99 : Tx) => ((Prog.ok ([63] : Tx)) >>= fun (a97 : Tx) => (Prog.ok ([] : List Tx)) >>= fun (a98 : List Tx) => Prog.ok (a97 :: a98)) >>= fun (a100 : List Tx) => Prog.ok (a99 :: a100)) >>= fun (a102 : List Tx) => Prog.ok (a101 :: a102)) >>= fun (a104 : List Tx) => Prog.ok (a103 :: a104)) >>= fun (a106 : List Tx) => Prog.ok (a105 :: a106)) >>= fun (a108 : List Tx) => Prog.ok (a107 :: a108)) >>= fun (a110 : List Tx) => Prog.ok (a109 :: a110)) >>= fun (a112 : List Tx) => Prog.ok (a111 :: a112)) >>= fun (a114 : List Tx) => Prog.ok (a113 :: a114)) >>= fun (a116 : List Tx) => Prog.ok (a115 :: a116)) >>= fun (a118 : List Tx) => Prog.ok (a117 :: a118)) >>= fun (a120 : List Tx) => Prog.ok (a119 :: a120)) >>= fun (a122 : List Tx) => Prog.ok (a121 :: a122)) >>= fun (a123 : List Tx) => if a123.length ≤ 100000 then (Prog.ok a123 : Prog (L Tx)) else Prog.stuck) >>= fun (v124 : (L Tx)) => (((((Prog.ok v65 : Prog (L Tx)) >>= fun (a125 : (L Tx)) => (Prog.ok (none : Option Int)) >>= fun (p127 : Option Int) => ((Prog.ok v70 : Prog Int) >>= fun (a126 : Int) => Prog.ok (some a126)) >>= fun (p128 : Option Int) => (Prog.ok (cut (un a125) p127 p128) : Prog (L Tx))) >>= fun (a137 : L Tx) => ((((Prog.ok v124 : Prog (L Tx)) >>= fun (a132 : (L Tx)) => (((Prog.ok v124 : Prog (L Tx)) >>= fun (a130 : (L Tx)) => Prog.ok ((un a130).length : Int)) >>= fun (a131 : Int) => m__law_next a131) >>= fun (a133 : Int) => getI (un a132) a133) >>= fun (a134 : Tx) => (Prog.ok ([] : List Tx)) >>= fun (a135 : List Tx) => Prog.ok (a134 :: a135)) >>= fun (a136 : List Tx) => if a136.length ≤ 100000 then (Prog.ok a136 : Prog (L Tx)) else Prog.stuck) >>= fun (a138 : L Tx) => chk (small ((un a137).length + (un a138).length)) (Prog.ok (un a137 ++ un a138) : Prog (L Tx))) >>= fun (a148 : L Tx) => ((Prog.ok v65 : Prog (L Tx)) >>= fun (a139 : (L Tx)) => (((Prog.ok v70 : Prog Int) >>= fun (a143 : Int) => (((Prog.ok v5 : Prog Int) >>= fun (a140 : Int) => (Prog.ok (4 : Int)) >>= fun (a141 : Int) => Prog.ok (decide (a141 < a140))) >>= fun (b142 : Bool) => Prog.ok (if b142 then (1 : Int) else 0)) >>= fun (a144 : Int) => Prog.ok (a143 + a144)) >>= fun (a145 : Int) => Prog.ok (some a145)) >>= fun (p146 : Option Int) => (Prog.ok (none : Option Int)) >>= fun (p147 : Option Int) => (Prog.ok (cut (un a139) p146 p147) : Prog (L Tx))) >>= fun (a149 : L Tx) => chk (small ((un a148).length + (un a149).length)) (Prog.ok (un a148 ++ un a149) : Prog (L Tx))) >>= fun (v150 : (L Tx)) => ((((Prog.ok x_law_lines : Prog (L Tx)) >>= fun (a151 : (L Tx)) => (Prog.ok (none : Option Int)) >>= fun (p153 : Option Int) => ((Prog.ok v3 : Prog Int) >>= fun (a152 : Int) => Prog.ok (some a152)) >>= fun (p154 : Option Int) => (Prog.ok (cut (un a151) p153 p154) : Prog (L Tx))) >>= fun (a160 : L Tx) => ((((Prog.ok ([32] : Tx)) >>= fun (a155 : Tx) => (Prog.ok v150 : Prog (L Tx)) >>= fun (a156 : L Tx) => chk (small (sumLen (un a156) + (un a156).length * a155.length)) (Prog.ok (joinT a155 (un a156)))) >>= fun (a157 : Tx) => (Prog.ok ([] : List Tx)) >>= fun (a158 : List Tx) => Prog.ok (a157 :: a158)) >>= fun (a159 : List Tx) => if a159.length ≤ 100000 then (Prog.ok a159 : Prog (L Tx)) else Prog.stuck) >>= fun (a161 : L Tx) => chk (small ((un a160).length + (un a161).length)) (Prog.ok (un a160 ++ un a161) : Prog (L Tx))) >>= fun (a168 : L Tx) => ((Prog.ok x_law_lines : Prog (L Tx)) >>= fun (a162 : (L Tx)) => (((Prog.ok v3 : Prog Int) >>= fun (a163 : Int) => (Prog.ok (1 : Int)) >>= fun (a164 : Int) => Prog.ok (a163 + a164)) >>= fun (a165 : Int) => Prog.ok (some a165)) >>= fun (p166 : Option Int) => (Prog.ok (none : Option Int)) >>= fun (p167 : Option Int) => (Prog.ok (cut (un a162) p166 p167) : Prog (L Tx))) >>= fun (a169 : L Tx) => chk (small ((un a168).length + (un a169).length)) (Prog.ok (un a168 ++ un a169) : Prog (L Tx)))))))))))))
def m__law_told (x_law_string : Tx) : Prog PyData :=
  ((Prog.ok PyData.none) >>= fun (v1 : PyData) => (catchP (fun (e4 : Exc) => if e4.cls = "InvalidText" then some ((((argX e4.args 1) >>= fun (a5 : PyData) => (argX e4.args 0) >>= fun (a6 : PyData) => Prog.ok (a5, a6)) >>= fun a => Prog.ok (enc a)) >>= fun (v7 : PyData) => (Prog.ok v7 : Prog (PyData))) else if e4.cls ∈ (["InvalidText"] : List String) then none else some Prog.stuck) (((Prog.ok x_law_string : Prog Tx) >>= fun (a3 : Tx) => m_read_code a3) >>= fun _ => (Prog.ok v1 : Prog (PyData))) >>= fun (b2 : (PyData)) => (Prog.ok b2 : Prog PyData)))
def m_law  : Prog Bool :=
  (((Prog.ok (6 : Int)) >>= fun (a1 : Int) => m__law_code a1) >>= fun (v2 : (L2v Int (List Tx))) => (((((Prog.ok v2 : Prog (L2v Int (List Tx))) >>= fun (a3 : (L2v Int (List Tx))) => m__law_built a3) >>= fun (a4 : CodeV) => m_write_code a4) >>= fun (a5 : Tx) => (Prog.ok ([10] : Tx)) >>= fun (a6 : Tx) => chk (small (a5.length + 2) && !a6.isEmpty) (Prog.ok (splitT a5 a6) : Prog (L Tx))) >>= fun (v7 : (L Tx)) => ((((Prog.ok (3 : Int)) >>= fun (a8 : Int) => m__law_next a8) >>= fun (n9 : Int) => chk (inRange n9) (Prog.ok (rng 0 n9))) >>= fun (xs39 : List Int) => foldP (fun (b10 : ((L Tx))) (a11 : Int) => (((Prog.ok b10 : Prog (L Tx)) >>= fun (a12 : (L Tx)) => m__law_spoil a12) >>= fun (v13 : (L Tx)) => (Prog.ok v13 : Prog ((L Tx))))) xs39 v7 >>= fun (b10 : ((L Tx))) => (((Prog.ok ([10] : Tx)) >>= fun (a14 : Tx) => (Prog.ok b10 : Prog (L Tx)) >>= fun (a15 : L Tx) => chk (small (sumLen (un a15) + (un a15).length * a14.length)) (Prog.ok (joinT a14 (un a15)))) >>= fun (v16 : Tx) => ((((Prog.ok v16 : Prog Tx) >>= fun (a17 : Tx) => m__law_told a17) >>= fun (a19 : PyData) => ((Prog.ok v16 : Prog Tx) >>= fun (a18 : Tx) => m__law_due a18) >>= fun (a20 : (Option (Int × Int))) => neP a19 a20) >>= fun (c21 : Bool) => if c21 then (Prog.ok false) else ((((Prog.ok ([115, 105, 103, 110, 115, 32, 50, 10, 97, 10, 98, 10, 97, 97, 10, 97, 98, 10, 98, 97, 10, 98, 98, 10, 97, 98, 97, 98] : Tx)) >>= fun (a22 : Tx) => m__law_told a22) >>= fun (a25 : PyData) => ((Prog.ok (8 : Int)) >>= fun (a23 : Int) => (Prog.ok (1 : Int)) >>= fun (a24 : Int) => Prog.ok (a23, a24)) >>= fun (a26 : (Int × Int)) => neP a25 a26) >>= fun (c27 : Bool) => if c27 then (Prog.ok false) else ((((Prog.ok ([] : Tx)) >>= fun (a28 : Tx) => m__law_told a28) >>= fun (a31 : PyData) => ((Prog.ok (1 : Int)) >>= fun (a29 : Int) => (Prog.ok (1 : Int)) >>= fun (a30 : Int) => Prog.ok (a29, a30)) >>= fun (a32 : (Int × Int)) => eqP a31 a32) >>= fun (b38 : Bool) => if b38 then (((Prog.ok ([115, 105, 103, 110, 115, 32, 51] : Tx)) >>= fun (a33 : Tx) => m__law_told a33) >>= fun (a36 : PyData) => ((Prog.ok (2 : Int)) >>= fun (a34 : Int) => (Prog.ok (1 : Int)) >>= fun (a35 : Int) => Prog.ok (a34, a35)) >>= fun (a37 : (Int × Int)) => eqP a36 a37) else Prog.ok false)))))))
section
variable {G : Glob} {P : Program} {w : World} {mg : Str → Option Value} {base : Heap}
theorem ok__law_next (T : Txt G mg) : FnOk P w G.K mg base (L2.CX P w) 1 T._law_next.f T._law_next.fd ["_law_h", "_law_bound"] (SpS1 G Int m__law_next) :=
  fn_okS T._law_next.Fu sc__law_next (fun x => [.src, .per x.1, .dead]) (fun a vs F ⟨v0, _, e0, r0, ee⟩ => by rw [e0, ee]; rfl) (fun a vs F H N p c hS ⟨v0, _, e0, r0, ee⟩ => by rw [e0, ee]; exact ⟨⟨p, c, rfl, hS⟩, ⟨v0, rfl, r0⟩, trivial, trivial⟩) (fun x => (own_c rfl (own_c rfl (own_c rfl own_n)))) fun cdv A outer s H F p c E hr =>
  ⟨_, pss_cons (ps_set (i := 2) sc__law_next.nd rfl (Or.inl rfl) (pe_ix ix_list (pe_op op_cat (pe_ix ix_list (pv 0) pe_int (fun _ _ => rfl)) (pe_lst (pa_cons pe_int pa_nil)))
      (pe_op op_mod (pe_callTy call_int1 (by rfl) T.z_int bt_int (pa_cons (pe_ix ix_list (pv 0) pe_int (fun _ _ => rfl)) pa_nil)) (pe_callB (call_max2 rfl) (by rfl) T.z_max bb_max (pa_cons pe_int (pa_cons (pe_callB call_len_seq (by rfl) T.z_len PySem.boot_len (pa_cons (pe_ix ix_list (pv 0) pe_int (fun _ _ => rfl)) pa_nil)) pa_nil)))) (fun _ _ => rfl)))
    (pss_cons (ps_if (pt_cmpR op_ge (pv 2) (pe_op op_pow pe_int pe_int) (nomark _))
      (pss_cons (ps_asg (pe_op op_fdiv (pv 2) (pv 1)) (pg_sub (pe_ix ix_list (pv 0) pe_int (fun _ _ => rfl)) (pe_op op_mod (pe_callTy call_int1 (by rfl) T.z_int bt_int (pa_cons (pe_ix ix_list (pv 0) pe_int (fun _ _ => rfl)) pa_nil)) (pe_callB call_len_seq (by rfl) T.z_len PySem.boot_len (pa_cons (pe_ix ix_list (pv 0) pe_int (fun _ _ => rfl)) pa_nil))) set_list))
        (pss_one (ps_ret (pe_op op_mod (pe_callTy call_int1 (by rfl) T.z_int bt_int (pa_cons (pv 2) pa_nil)) (pv 1))))) pss_nil)
    (pss_cons (ps_asg (pe_op op_mod (pe_callTy call_int1 (by rfl) T.z_int bt_int (pa_cons (pe_op op_add (pe_op op_add (pe_op op_mul (pe_ix ix_list (pv 0) pe_int (fun _ _ => rfl)) pe_int) (pe_op op_mul (pv 2) pe_int)) pe_int) pa_nil)) pe_int) (pg_sub (pv 0) pe_int set_list))
    (pss_cons (ps_asg (pe_op op_add (pe_ix ix_list (pv 0) pe_int (fun _ _ => rfl)) pe_int) (pg_sub (pv 0) pe_int set_list))
    (pss_one (ps_ret (pe_op op_mod (pe_callTy call_int1 (by rfl) T.z_int bt_int (pa_cons (pe_op op_fdiv (pe_ix ix_list (pv 0) pe_int (fun _ _ => rfl)) pe_int) pa_nil)) (pv 1))))))), fun x => by
    intro σ F1 H1 D hs q
    obtain ⟨hb, hb2, q⟩ := q
    obtain ⟨o0, o1, o2, rfl⟩ : ∃ o0 o1 o2, σ = [o0, o1, o2] := by
      have hlen := hs.sl.len
      match σ, hlen with
      | [a, b, c], _ => exact ⟨a, b, c, rfl⟩
    obtain ⟨⟨p', c', rfl, hS⟩, ⟨v, rfl, r1⟩, _⟩ := hs.sl
    cases hS
    have ev : v = .int x.1 := Scl.dp (α := Int) r1
    subst ev
    have s := hs.w.sr p c rfl
    obtain ⟨st, ix, cs, hp, hc, hl⟩ := s.at_
    have hne := s.ne
    have fin : ∀ (r : Int) (H' : Hp), 0 ≤ r → r < x.1 → W (NN.src F H p c E) F1 H' → D.rt (.int r) H' := fun r H' a b w => q r a b (.int r) F1 H' w (.int r)
    -- the cell
    refine ⟨.ref p, rfl, p, _, 1, .ref c, rfl, rfl, .inl (.inl hp), rfl, ?_⟩
    refine ⟨by show 1 ≤ sizeLine; decide, fun l hl0 => ?_⟩
    have hs1 := (hs_newlist (vs := [.int 0]) hs hl0).1
    have lp : p ≠ l := ne_of_none hp hl0
    have lc : c ≠ l := ne_of_none hc hl0
    refine ⟨c, l, _, [.int 0], rfl, rfl, by rw [upd_ne lc]; exact hc, upd_same, by rw [List.length_map]; show cs.length + 1 ≤ sizeLine; rw [sizeLine_eq]; omega, fun l2 hl2 => ?_⟩
    have hs2 := (hs_newlist (vs := cs.map V.int ++ [.int 0]) hs1 hl2).1
    have hp1 : upd H1 l (.lst [.int 0]) p = some (.lst [.int st, .ref c, .int ix, .int 14]) := by rw [upd_ne lp]; exact hp
    have hc1 : upd H1 l (.lst [.int 0]) c = some (.lst (cs.map V.int)) := by rw [upd_ne lc]; exact hc
    have l2p : p ≠ l2 := ne_of_none hp1 hl2
    have l2c : c ≠ l2 := ne_of_none hc1 hl2
    generalize hH2 : upd (upd H1 l (.lst [.int 0])) l2 (.lst (cs.map V.int ++ [.int 0])) = H2 at hs2 ⊢
    have hp2 : H2 p = some (.lst [.int st, .ref c, .int ix, .int 14]) := by rw [← hH2, upd_ne l2p]; exact hp1
    have hc2 : H2 c = some (.lst (cs.map V.int)) := by rw [← hH2, upd_ne l2c]; exact hc1
    have h22 : H2 l2 = some (.lst (cs.map V.int ++ [.int 0])) := by rw [← hH2, upd_same]
    obtain ⟨cell, hcell⟩ := mod_lt_len (ix := ix) (cs := cs)
    refine ⟨.ref p, rfl, p, _, 2, .int ix, rfl, rfl, .inl (.inl hp2), rfl, .inl ⟨ix, rfl, ?_⟩⟩
    refine ⟨.ref p, rfl, p, _, 1, .ref c, rfl, rfl, .inl (.inl hp2), rfl, c, _, rfl, .inl (.inl (.inl hc2)), 1, ((cs.map V.int).length : Int), rfl, ?_⟩
    rw [List.length_map]
    refine ⟨ix, _, rfl, rfl, by split <;> omega, l2, _, _, .int cell, rfl, rfl, .inl (.inl h22), hcell, ?_⟩
    -- if cell >= 10 ** 18
    refine ⟨.int cell, rfl, 10, 18, rfl, rfl, ⟨by decide, by decide, by decide⟩, cell, _, rfl, rfl, _, rfl, ite2 (fun hge => ?_) (fun _ => ?_)⟩
    · -- the cell is cut, its place written
      have hge' : (10 : Int) ^ (18 : Int).toNat ≤ cell := of_decide_eq_true hge
      have hpos : 0 < cs.length := by
        rcases Nat.eq_zero_or_pos cs.length with z | z
        · have : cs = [] := List.eq_nil_of_length_eq_zero z
          subst this
          have h0 : ix % (1 : Int) = 0 := Int.emod_one ix
          have : atI ([] ++ [V.int 0]) (ix % 1) = some (V.int cell) := hcell
          rw [h0] at this
          have : V.int 0 = V.int cell := Option.some.inj this
          have : (0 : Int) = cell := V.int.inj this
          rw [← this] at hge'
          exact absurd hge' (by decide)
        · exact z
      refine ⟨.int cell, rfl, .int x.1, rfl, cell, x.1, rfl, rfl, ⟨hb, by omega⟩, ?_⟩
      refine ⟨.ref p, rfl, p, _, 1, .ref c, rfl, rfl, .inl (.inl hp2), rfl, ?_⟩
      refine ⟨.ref p, rfl, p, _, 2, .int ix, rfl, rfl, .inl (.inl hp2), rfl, .inl ⟨ix, rfl, ?_⟩⟩
      refine ⟨.ref p, rfl, p, _, 1, .ref c, rfl, rfl, .inl (.inl hp2), rfl, c, _, rfl, .inl (.inl (.inl hc2)), ?_⟩
      rw [List.length_map]
      refine ⟨ix, (cs.length : Int), rfl, rfl, by omega, ?_⟩
      have k0 : 0 ≤ ix % (cs.length : Int) := Int.emod_nonneg _ (by omega)
      have k1 : ix % (cs.length : Int) < (cs.length : Int) := Int.emod_lt_of_pos _ (by omega)
      refine ⟨c, _, ix % (cs.length : Int), (ix % (cs.length : Int)).toNat, rfl, rfl, hc2, ?_, ?_⟩
      · unfold ixN
        rw [List.length_map, if_pos k0, if_pos k1]
      · have e2 : (cs.map V.int).set (ix % (cs.length : Int)).toNat (.int (cell / x.1)) = (cs.set (ix % (cs.length : Int)).toNat (cell / x.1)).map V.int := by rw [List.map_set]
        rw [e2]
        have hs3 : HS (NN.src F H p c E) _ _ F1 (upd H2 c (.lst ((cs.set (ix % (cs.length : Int)).toNat (cell / x.1)).map V.int))) := src_set hs2 rfl (hO_src F H p c E) (st := st) (ix := ix) (by rw [upd_ne hne]; exact hp2) upd_same (by rw [List.length_set]; exact hl) fun a _ n2 => by rw [upd_ne n2]
        refine ⟨.int cell, rfl, .inl ⟨cell, rfl, .int x.1, rfl, cell, x.1, rfl, rfl, hb, ?_⟩⟩
        exact fin _ _ (Int.emod_nonneg _ (by omega)) (Int.emod_lt_of_pos _ hb) hs3.w
    · refine ⟨.ref p, rfl, p, _, 0, .int st, rfl, rfl, .inl (.inl hp2), rfl, st, 48271, rfl, rfl, .inr ⟨by decide, by decide⟩, .int cell, rfl, cell, 69621, rfl, rfl, .inr ⟨by decide, by decide⟩, _, _, rfl, rfl, _, 11, rfl, rfl, .inl ⟨_, rfl, ?_⟩⟩
      refine ⟨_, 2147483647, rfl, rfl, by show (0:Int) < 2147483647; decide, ?_⟩
      refine ⟨.ref p, rfl, p, _, 0, 0, rfl, rfl, hp2, rfl, ?_⟩
      have hp3 : upd H2 p (.lst [.int ((st * 48271 + cell * 69621 + 11) % 2147483647), .ref c, .int ix, .int 14]) p = some (.lst [.int ((st * 48271 + cell * 69621 + 11) % 2147483647), .ref c, .int ix, .int 14]) := upd_same
      have hs3 : HS (NN.src F H p c E) _ _ F1 (upd H2 p (.lst [.int ((st * 48271 + cell * 69621 + 11) % 2147483647), .ref c, .int ix, .int 14])) := src_set hs2 rfl (hO_src F H p c E) (st := ((st * 48271 + cell * 69621 + 11) % 2147483647)) (ix := ix) upd_same (by rw [upd_ne (Ne.symm hne)]; exact hc2) hl fun a n1 _ => by rw [upd_ne n1]
      refine ⟨.ref p, rfl, p, _, 2, .int ix, rfl, rfl, .inl (.inl hp3), rfl, ix, 1, rfl, rfl, ?_⟩
      refine ⟨.ref p, rfl, p, _, 2, 2, rfl, rfl, hp3, rfl, ?_⟩
      have hp4 : upd (upd H2 p (.lst [.int ((st * 48271 + cell * 69621 + 11) % 2147483647), .ref c, .int ix, .int 14])) p (.lst [.int ((st * 48271 + cell * 69621 + 11) % 2147483647), .ref c, .int (ix + 1), .int 14]) p = some (.lst [.int ((st * 48271 + cell * 69621 + 11) % 2147483647), .ref c, .int (ix + 1), .int 14]) := upd_same
      have hs4 : HS (NN.src F H p c E) _ _ F1 (upd (upd H2 p (.lst [.int ((st * 48271 + cell * 69621 + 11) % 2147483647), .ref c, .int ix, .int 14])) p (.lst [.int ((st * 48271 + cell * 69621 + 11) % 2147483647), .ref c, .int (ix + 1), .int 14])) := src_set hs3 rfl (hO_src F H p c E) (st := ((st * 48271 + cell * 69621 + 11) % 2147483647)) (ix := ix + 1) upd_same (by rw [upd_ne (Ne.symm hne), upd_ne (Ne.symm hne)]; exact hc2) hl fun a n1 _ => by rw [upd_ne n1]
      refine ⟨.ref p, rfl, p, _, 0, .int ((st * 48271 + cell * 69621 + 11) % 2147483647), rfl, rfl, .inl (.inl hp4), rfl, ((st * 48271 + cell * 69621 + 11) % 2147483647), 7, rfl, rfl, ⟨by decide, by decide⟩, .inl ⟨_, rfl, .int x.1, rfl, _, x.1, rfl, rfl, hb, ?_⟩⟩
      exact fin _ _ (Int.emod_nonneg _ (by omega)) (Int.emod_lt_of_pos _ hb) hs4.w⟩
theorem ok__law_mix (T : Txt G mg) : FnOk P w G.K mg base (L2.CX P w) 1 T._law_mix.f T._law_mix.fd ["_law_script", "_law_seed"] (SpMix G.K) :=
  T._law_mix.Fu.okX sc__law_mix (fun vs H Q E ⟨a, ns, seed, e, _⟩ => by rw [e]; rfl) fun cdv A outer s H vs Q E hr ⟨a, ns, seed, e, hS, hlen, q⟩ => by
    subst e
    refine ⟨_, pss_cons (ps_set (i := 2) sc__law_mix.nd rfl (Or.inl rfl) (pv 1))
      (pss_cons (ps_for (passes_of rfl) rfl (pi_list (pv 0)) (pg_name (i := 3) sc__law_mix.nd rfl (Or.inl rfl))
        (pss_one (ps_set (i := 2) sc__law_mix.nd rfl (Or.inl rfl) (pe_op op_mod (pe_callTy call_int1 (by rfl) T.z_int bt_int (pa_cons (pe_op op_add (pe_op op_add (pe_op op_mul (pv 2) pe_int) (pe_op op_mod (pe_callTy call_int1 (by rfl) T.z_int bt_int (pa_cons (pv 3) pa_nil)) pe_int)) pe_int) pa_nil)) pe_int))))
      (pss_one (ps_ret (pe_lst (pa_cons (pv 2) (pa_cons (pe_callTy call_list_of (by rfl) T.z_list bt_list (pa_cons (pv 0) pa_nil)) (pa_cons pe_int (pa_cons pe_int pa_nil)))))))), ?_⟩
    refine ⟨.int seed, rfl, .ref a, rfl, a, rfl, ⟨_, hS⟩, fun i m σ H3 => ∃ st y3, σ = [some (.ref a), some (.int seed), some (.int st), y3] ∧ i + m = ns.length ∧ H3 = H, ⟨ns.length, seed, none, rfl, by omega, rfl⟩, fun i m σ H3 hW => ?_⟩
    obtain ⟨st, y3, rfl, em, rfl⟩ := hW
    by_cases hi : i < ns.length
    · have g : (ns.map V.int)[i]? = some (.int ns[i]) := by
        rw [List.getElem?_map, List.getElem?_eq_getElem hi]
        rfl
      refine .inr ⟨⟨_, _, hS, g⟩, fun σ' H' => ∃ st y3, σ' = [some (.ref a), some (.int seed), some (.int st), y3] ∧ H' = H3, fun σ' H' hN => ?_, fun v H' hy => ?_⟩
      · obtain ⟨st', z3, e1, e2⟩ := hN
        exact ⟨m - 1, by omega, st', z3, e1, by omega, e2⟩
      · obtain ⟨rfl, fv⟩ := hy
        have ev : v = .int ns[i] := Option.some.inj ((fv _ hS).symm.trans g)
        subst ev
        refine ⟨.int st, rfl, st, 48271, rfl, rfl, .inr ⟨by decide, by decide⟩, .int ns[i], rfl, .inl ⟨ns[i], rfl, ?_⟩⟩
        refine ⟨ns[i], 2147483629, rfl, rfl, by show (0:Int) < 2147483629; decide, ?_⟩
        refine ⟨_, _, rfl, rfl, _, 1, rfl, rfl, .inl ⟨_, rfl, ?_⟩⟩
        refine ⟨_, 2147483647, rfl, rfl, by show (0:Int) < 2147483647; decide, ?_⟩
        exact ⟨_, _, rfl, rfl⟩
    · refine .inl ⟨⟨_, hS, by rw [List.length_map]; omega⟩, ?_⟩
      refine ⟨.int st, rfl, .ref a, rfl, a, _, rfl, .inl hS, fun c hc => ?_⟩
      refine ⟨by show 4 ≤ sizeLine; decide, fun p hp => ?_⟩
      have pc : c ≠ p := fun z => by
        subst z
        rw [upd_same] at hp; cases hp
      have hp0 : H3 p = none := by
        rw [upd_ne (Ne.symm pc)] at hp; exact hp
      refine q _ p c st (fun b o e => ?_) (fun b e => ?_) hp0 hc (Ne.symm pc) upd_same (by rw [upd_ne pc]; exact upd_same)
      · rw [upd_ne (ne_of_none e hp0), upd_ne (ne_of_none e hc)]; exact e
      · by_cases hb : b = p
        · subst hb; exact hp0
        · rw [upd_ne hb] at e
          by_cases hc2 : b = c
          · subst hc2; exact hc
          · rw [upd_ne hc2] at e; exact e

theorem ok_InvalidText___init__ (T : Txt G mg) : FnOk P w G.K mg base (L2.CX P w) 1 T.x_InvalidText.f T.x_InvalidText.fd ["self", "line", "word"] (SpXi2 (G.exc "InvalidText") "line" "word") :=
  fn_xi2 T.x_InvalidText sc_InvalidText___init__ rfl rfl fun cdv A outer s H E => (pss_cons (ps_ost (pv 0) (pv 1)) (pss_cons (ps_ost (pv 0) (pv 2)) pss_nil))
theorem ok_is_integer (T : Txt G mg) : FnOk P w G.K mg base (L2.CX P w) 1 T.is_integer.f T.is_integer.fd ["value"] (SpF1 G PyData m_is_integer) :=
  fn_ok T.is_integer.Fu sc_is_integer (fun x => [.per x.1]) (fun a vs F ⟨v0, _, e0, r0, ee⟩ => by rw [e0, ee]; rfl) (fun a vs F H N ⟨v0, _, e0, r0, ee⟩ => by rw [e0, ee]; exact ⟨⟨v0, rfl, r0⟩, trivial⟩) (fun x => (own_c rfl own_n)) fun cdv A outer s H F E hr =>
  ⟨_, (pss_cons (ps_ret (pe_and (pe_callB L2.call_isi (by rfl) T.z_isinstance bb_isinstance (pa_cons (pv 0) (pa_cons (pe_bltn (v := .ty "int") (u := .type "int") (by rfl) T.z_int bt_int rfl) pa_nil))) (pe_one (pe_not (pe_callB L2.call_isi (by rfl) T.z_isinstance bb_isinstance (pa_cons (pv 0) (pa_cons (pe_bltn (v := .ty "bool") (u := .type "bool") (by rfl) T.z_bool bt_bool rfl) pa_nil))))))) pss_nil),
  fun x => (sv_ret (ev_and (ev_isi kn_int (ev_var rfl)) (ev_not (ev_isi kn_bool (ev_var rfl)))))⟩
theorem ok_is_string (T : Txt G mg) : FnOk P w G.K mg base (L2.CX P w) 1 T.is_string.f T.is_string.fd ["many", "value"] (SpF2 G Int PyData m_is_string) :=
  fn_ok T.is_string.Fu sc_is_string (fun x => [.per x.1, .per x.2.1, .dead]) (fun a vs F ⟨v0, _, e0, r0, ⟨v1, _, e1, r1, ee⟩⟩ => by rw [e0, e1, ee]; rfl) (fun a vs F H N ⟨v0, _, e0, r0, ⟨v1, _, e1, r1, ee⟩⟩ => by rw [e0, e1, ee]; exact ⟨⟨v0, rfl, r0⟩, ⟨v1, rfl, r1⟩, trivial, trivial⟩) (fun x => (own_c rfl (own_c rfl (own_c rfl own_n)))) fun cdv A outer s H F E hr =>
  ⟨_, (pss_cons (ps_ret (pe_and (pe_callB L2.call_isi (by rfl) T.z_isinstance bb_isinstance (pa_cons (pv 1) (pa_cons (pe_bltn (v := .ty "str") (u := .type "str") (by rfl) T.z_str bt_str rfl) pa_nil))) (pe_one (pe_callB (cr_all rfl) (by rfl) T.z_all bb_all (pa_cons (pe_lc (own := [("sign", 2)]) (g := (gName 2)) (tt := tYes) (te := (tOp (fun x y H Q => ∃ i j, x = .str i ∧ y = .str j ∧ Q (.bl (!(Builtin.Str.occurrences j i 0 j.length 1).isEmpty)) H) (tVar 2) (tSl rSlS (tC (.str "abc")) tNoPart (tPart (tVar 0))))) rfl sc_is_string.nd (pi_str (pv 1)) (blkOk_by (N := Ns_is_string) (sc := defScope s_is_string) (by decide +kernel)) (fun _ _ _ _ _ => (pg_name (i := 2) sc_is_string.nd rfl (Or.inl rfl))) (fun _ _ _ _ _ => pts_nil) (fun _ _ _ _ _ => (pe_cmpR op_in_str (pv 2) (pe_slice sl_str (pe_glob (v := .str "abc") (by rfl) T.g_LETTERS ⟨_, rfl⟩) po_none (po_some (pv 0))) (by rfl)))) pa_nil))))) pss_nil),
  fun x => (sv_ret (ev_and (ev_isi kn_str (ev_var rfl)) (ev_all (ev_new (evn_map (evi_str (ev_asTx (ev_var rfl))) (no_own1 rfl rfl) trivial (fun O a3 => gc_name) (fun O a3 => (ev_op (α := Tx) (β := Tx) (ev_var rfl) (ev_slice (ev_str st_0) evo_none (evo_some (ev_var rfl)) slv_txt) opv_inS)) (fun _ => rfl))))))⟩
theorem ok_look_at_words (T : Txt G mg) : FnOk P w G.K mg base (L2.CX P w) 3 T.look_at_words.f T.look_at_words.fd ["many", "words"] (SpF2 G Int (List Tx) m_look_at_words) :=
  fn_okV T.look_at_words.Fu sc_look_at_words (fun x => [.per x.1, .per x.2.1, .dead, .dead, .dead]) (fun a vs F ⟨v0, _, e0, r0, ⟨v1, _, e1, r1, ee⟩⟩ => by rw [e0, e1, ee]; rfl) (fun a vs F H N ⟨v0, _, e0, r0, ⟨v1, _, e1, r1, ee⟩⟩ => by rw [e0, e1, ee]; exact ⟨⟨v0, rfl, r0⟩, ⟨v1, rfl, r1⟩, trivial, trivial, trivial, trivial⟩) (fun x => (own_c rfl (own_c rfl (own_c rfl (own_c rfl (own_c rfl own_n)))))) fun cdv A outer s H F E hr =>
  ⟨_, (pss_cons (ps_if ((pw_or (pt_not (pt_val (pe_callB L2.call_isi (by rfl) T.z_isinstance bb_isinstance (pa_cons (pv 1) (pa_cons (pe_bltn (v := .ty "tuple") (u := .type "tuple") (by rfl) T.z_tuple bt_tuple rfl) pa_nil))))) (pw_or1 (pt_not (pt_chain op_le op_le pe_int (pe_callB call_len_seq (by rfl) T.z_len PySem.boot_len (pa_cons (pv 1) pa_nil)) (pe_glob (v := .int 6) (by rfl) T.g_MOST_WORDS ⟨_, rfl⟩)))))).pt pss_never pss_nil) (pss_cons (ps_set (i := 2) sc_look_at_words.nd rfl (Or.inl rfl) (pe_lst pa_nil)) (pss_cons (ps_for (passes_of rfl) rfl (TyL.pi_enumT (by rfl) T.z_enumerate (pa_cons (pv 1) pa_nil)) (pg_tup rfl (pgs_cons (pg_name (i := 3) sc_look_at_words.nd rfl (Or.inl rfl)) (pgs_cons (pg_name (i := 4) sc_look_at_words.nd rfl (Or.inl rfl)) pgs_nil))) (pss_cons (ps_if ((pw_or (pt_not (pt_val (pe_call (ok_is_string T) (hr.mono (by decide)) (by rfl) T.is_string.g T.is_string.Fu.kp T.is_string.b .nil (passes_call (takes_of rfl rfl rfl rfl) (fun _ _ _ _ h => h)) (pa_cons (pv 0) (pa_cons (pv 4) pa_nil))))) (pw_or (pt_not (pt_chain op_le op_le pe_int (pe_callB call_len_str (by rfl) T.z_len PySem.boot_len (pa_cons (pv 4) pa_nil)) (pe_glob (v := .int 4) (by rfl) T.g_MOST_SIGNS ⟨_, rfl⟩))) (pw_or1 (pt_cmpR op_in_seq (pv 4) (pv 2) (by rfl)))))).pt pss_never pss_nil) (pss_cons (ps_expr (pe_bm PySem.F.plainAttrs_list PySem.F.slot_list_append PySem.F.type_list_append mt_append (pv 2) (pa_cons (pv 4) pa_nil))) pss_nil))) pss_nil))),
  fun x => (sv_ifnever (tv_or (tv_not (tv_B (ev_isi kn_tuple (ev_var rfl)))) (tv_not (tv_test (ev_chain ev_int (ev_lenT (ev_var rfl)) ev_int opv_B0 opv_B0)))) (sv_asgN (evn_lst evl_nil) fun v12 => (sv_for (Γi := fun (b14 : ((List Tx))) => [@Ent.per G Int _ x.1, @Ent.per G (List Tx) _ x.2.1, @Ent.lst G Tx _ b14, .dead, .dead]) (b0 := (un v12)) (evi_enumT (ev_var rfl)) (wk_hs (wk_s (wk_s (wk_s (wk_d (wk_d wk_n)))))) (fun _ => trivial) (fun b14 a15 => gv_tup2) (fun b14 a15 => (sv_ifnever (tv_or (tv_not (tv_B (ev_call2 (ev_var rfl) (ev_dat (ev_var rfl))))) (tv_or (tv_not (tv_test (ev_chain ev_int (ev_lenS (ev_var rfl)) ev_int opv_B0 opv_B0))) (tv_borrow 2 (hO_of _ _ _) rfl fun O => (tv_test (ev_op (α := Tx) (β := (L Tx)) (ev_var rfl) (ev_var rfl) opv_inL))))) (sv_append (hO_of _ _ _) rfl (ev_var rfl) fun v30 => (sv_next (wk_hs (wk_s (wk_s (wk_s (wk_d (wk_d wk_n)))))))))) (fun b14 => sv_end))))⟩
theorem ok_Code___init__ (T : Txt G mg) : FnOk P w G.K mg base (L2.CX P w) 4 T.Code___init__.f T.Code___init__.fd ["self", "signs", "words"] (SpC G m_Code___init__) :=
  fn_okC T.Code___init__.Fu sc_Code___init__ rfl rfl fun cdv A outer s H F E hr =>
  ⟨_, (pss_cons (ps_if ((pw_or (pt_not (pt_val (pe_call (ok_is_integer T) (hr.mono (by decide)) (by rfl) T.is_integer.g T.is_integer.Fu.kp T.is_integer.b .nil (passes_call (takes_of rfl rfl rfl rfl) (fun _ _ _ _ h => h)) (pa_cons (pv 1) pa_nil)))) (pw_or1 (pt_not (pt_chain op_le op_le pe_int (pv 1) pe_int))))).pt pss_never pss_nil) (pss_cons (ps_expr (pe_call (ok_look_at_words T) (hr.mono (by decide)) (by rfl) T.look_at_words.g T.look_at_words.Fu.kp T.look_at_words.b .nil (passes_call (takes_of rfl rfl rfl rfl) (fun _ _ _ _ h => h)) (pa_cons (pv 1) (pa_cons (pv 2) pa_nil)))) (pss_cons (SlX.ps_sl (pv 0) (pv 1)) (pss_cons (SlX.ps_sl (pv 0) (pv 2)) pss_nil)))),
  fun x dx many parts hx ne => (sv_ifnever (tv_or (tv_not (tv_B (ev_call1 (ev_dat (ev_var rfl))))) (tv_not (tv_test (ev_chain ev_int (ev_var rfl) ev_int opv_B0 opv_B0)))) (sv_drop (ev_call2 (ev_var rfl) (ev_var rfl)) (sv_setCode T.cf rfl rfl rfl hx (fun z => z) ne)))⟩
theorem ok_write_code (T : Txt G mg) : FnOk P w G.K mg base (L2.CX P w) 1 T.write_code.f T.write_code.fd ["code"] (SpF1 G CodeV m_write_code) :=
  fn_ok T.write_code.Fu sc_write_code (fun x => [.per x.1]) (fun a vs F ⟨v0, _, e0, r0, ee⟩ => by rw [e0, ee]; rfl) (fun a vs F H N ⟨v0, _, e0, r0, ee⟩ => by rw [e0, ee]; exact ⟨⟨v0, rfl, r0⟩, trivial⟩) (fun x => (own_c rfl own_n)) fun cdv A outer s H F E hr =>
  ⟨_, (pss_cons (ps_ret (pe_join pe_str (pe_lst (pa_cons (pe_joined (.cons pe_str (.cons (pe_fmt (SlX.pe_sl (pv 0))) .nil))) (StX.pa_star (SlX.pe_sl (pv 0)) pa_nil))))) pss_nil),
  fun x => (sv_ret (ev_join (ev_str st_1) (ev_new (evn_lst (evl_cons (ev_fstr2 (ev_str st_2) (ev_fmtI (ev_many T.cf (ev_var rfl)))) (evl_star (ev_parts T.cf (ev_var rfl)) evl_nil))))))⟩
theorem ok_Line___init__ (T : Txt G mg) : FnOk P w G.K mg base (L2.CX P w) 1 T.Line___init__.f T.Line___init__.fd ["self", "text", "number"] (SpM2 G Tx Int (G.cls "Line") fl_Line m_Line___init__) :=
  fn_okIV T.Line___init__.Fu sc_Line___init__ (fun r x p => [.ins (G.cls "Line") [] (some p), .per x.1, .per x.2.1, .dead]) (fun a vs F ⟨v0, _, e0, r0, ⟨v1, _, e1, r1, ee⟩⟩ => by rw [e0, e1, ee]; rfl) (fun r a vs F H N p dx us hm hp hd ⟨v0, _, e0, r0, ⟨v1, _, e1, r1, ee⟩⟩ => by rw [e0, e1, ee]; exact ⟨⟨p, dx, us, rfl, hm, hp, hd, fun q z => (Option.some.inj z).symm⟩, ⟨v0, rfl, r0⟩, ⟨v1, rfl, r1⟩, trivial, trivial⟩) (fun r x p => own_i (own_c rfl (own_c rfl (own_c rfl own_n)))) fun cdv A outer s H F p E hr =>
  ⟨_, (pss_cons (ps_fld (pv 0) (pv 2) rfl) (pss_cons (ps_fld (pv 0) (pe_lc (own := [("word", 3)]) (g := (gName 3)) (tt := (tTest (tOp rNe (tVar 3) (tC (.str ""))))) (te := (tVar 3)) rfl sc_Line___init__.nd (pi_list (pe_split (pv 1) pe_str)) (blkOk_by (N := Ns_Line___init__) (sc := defScope s_Line___init__) (by decide +kernel)) (fun _ _ _ _ _ => (pg_name (i := 3) sc_Line___init__.nd rfl (Or.inl rfl))) (fun _ _ _ _ _ => pts_one (pt_cmpR op_ne (pv 3) pe_str (nomark _))) (fun _ _ _ _ _ => (pv 3))) rfl) (pss_cons (ps_fld (pv 0) pe_int rfl) pss_nil))),
  fun r x => (sv_fld (α := Int) (n := "number") (hO_slf _ _ _ _) rfl T.Line.c T.n_Line_number (of_decide_eq_true rfl) (ev_var rfl) fun v1 => (sv_fld (α := (L Tx)) (n := "parts") (hO_slf _ _ _ _) rfl T.Line.c T.n_Line_parts (of_decide_eq_true rfl) (ev_new (evn_lc (evi_lst (ev_new (evn_split (ev_var rfl) (ev_str st_3)))) (no_own1 rfl rfl) trivial (fun O a4 => gc_name) (fun O a4 => (tv_test (ev_op (α := Tx) (β := Tx) (ev_var rfl) (ev_str st_4) opv_ne))) (fun O a4 => (ev_var rfl)) (fun _ => rfl))) fun v8 => (sv_fld (α := Int) (n := "place") (hO_slf _ _ _ _) rfl T.Line.c T.n_Line_place (of_decide_eq_true rfl) ev_int fun v9 => (sv_endI (i := 0) (fl := fl_Line) (r := (LineV.mk (v1) (v8) (v9))) rfl))))⟩
theorem ok_Line_refuse (T : Txt G mg) : FnOk P w G.K mg base (L2.CX P w) 3 T.Line_refuse.f T.Line_refuse.fd ["self"] (SpI0 G  (G.cls "Line") fl_Line m_Line_refuse) :=
  fn_okIV T.Line_refuse.Fu sc_Line_refuse (fun r x p => [.ins (G.cls "Line") (fl_Line r) (some p)]) (fun a vs F ee => by rw [ee]; rfl) (fun r a vs F H N p dx us hm hp hd ee => by rw [ee]; exact ⟨⟨p, dx, us, rfl, hm, hp, hd, fun q z => (Option.some.inj z).symm⟩, trivial⟩) (fun r x p => own_i own_n) fun cdv A outer s H F p E hr =>
  ⟨_, (pss_cons (ps_raise rfl (takes_of rfl rfl rfl rfl) (pmk_oex T.x_InvalidText.T T.x_InvalidText.iC T.x_InvalidText.tI (ok_InvalidText___init__ T) (hr.mono (by decide)) T.x_InvalidText.b .nil passL rfl T.x_InvalidText.g (pa_cons (pe_fld (pv 0) rfl) (pa_cons (pe_op op_add (pe_fld (pv 0) rfl) pe_int) pa_nil)))) pss_nil),
  fun r x => (sv_raise (sx_raise2 (by decide) (ev_fld (a := (r.number : Int)) rfl rfl T.Line.c T.n_Line_number) (ev_op (α := Int) (β := Int) (ev_fld (a := (r.place : Int)) rfl rfl T.Line.c T.n_Line_place) ev_int opv_I0)))⟩
theorem ok_Line_take_one (T : Txt G mg) : FnOk P w G.K mg base (L2.CX P w) 4 T.Line_take_one.f T.Line_take_one.fd ["self", "words"] (SpI1 G (List Tx) (G.cls "Line") fl_Line m_Line_take_one) :=
  fn_okI T.Line_take_one.Fu sc_Line_take_one (fun r x p => [.ins (G.cls "Line") (fl_Line r) (some p), .per x.1]) (fun a vs F ⟨v0, _, e0, r0, ee⟩ => by rw [e0, ee]; rfl) (fun r a vs F H N p dx us hm hp hd ⟨v0, _, e0, r0, ee⟩ => by rw [e0, ee]; exact ⟨⟨p, dx, us, rfl, hm, hp, hd, fun q z => (Option.some.inj z).symm⟩, ⟨v0, rfl, r0⟩, trivial⟩) (fun r x p => own_i (own_c rfl own_n)) fun cdv A outer s H F p E hr =>
  ⟨_, (pss_cons (ps_if ((pw_or (pt_cmpR op_eq (pe_fld (pv 0) rfl) (pe_callB call_len_seq (by rfl) T.z_len PySem.boot_len (pa_cons (pe_fld (pv 0) rfl) pa_nil)) (nomark _)) (pw_or1 (pt_cmpR op_notIn_seq (pe_ix ix_list (pe_fld (pv 0) rfl) (pe_fld (pv 0) rfl) (fun _ _ => rfl)) (pv 1) (by rfl))))).pt (pss_cons (ps_expr (pe_meth0 (pv 0) T.Line.c T.Line_refuse.me (ok_Line_refuse T) (hr.mono (by decide)) T.Line_refuse.b .nil (passes_call (takes_of rfl rfl rfl rfl) (fun _ _ _ _ h => h)))) pss_nil) pss_nil) (pss_cons (ps_fldaug (pv 0) pe_int in_add) (pss_cons (ps_ret (pe_ix ix_list (pe_fld (pv 0) rfl) (pe_op op_sub (pe_fld (pv 0) rfl) pe_int) (fun _ _ => rfl))) pss_nil))),
  fun r x => (sv_ifout (tv_or (tv_test (ev_op (α := Int) (β := Int) (ev_fld (a := (r.place : Int)) rfl rfl T.Line.c T.n_Line_place) (ev_lenL (ev_fld (a := (r.parts : (L Tx))) rfl rfl T.Line.c T.n_Line_parts)) opv_eq)) (tv_test (ev_op (α := Tx) (β := (List Tx)) (ev_op (α := (L Tx)) (β := Int) (ev_fld (a := (r.parts : (L Tx))) rfl rfl T.Line.c T.n_Line_parts) (ev_fld (a := (r.place : Int)) rfl rfl T.Line.c T.n_Line_place) opv_ixL) (ev_var rfl) opv_ninT))) (evx_meth0 (fl := fl_Line) (r := (LineV.mk (r.number) (r.parts) (r.place))) (hO_slf _ _ _ _) rfl rfl ) (sv_fldaug (n := "place") (a := (r.place : Int)) (hO_slf _ _ _ _) rfl rfl T.Line.c T.n_Line_place (of_decide_eq_true rfl) ev_int fun v11 => (sv_retI (i := 0) (fl := fl_Line) (r := (LineV.mk (r.number) (r.parts) ((r.place + v11)))) rfl (ev_op (α := (L Tx)) (β := Int) (ev_fld (a := (r.parts : (L Tx))) rfl rfl T.Line.c T.n_Line_parts) (ev_op (α := Int) (β := Int) (ev_fld (a := ((r.place + v11) : Int)) rfl rfl T.Line.c T.n_Line_place) ev_int opv_I0) opv_ixL))))⟩
theorem ok_Line_take_word (T : Txt G mg) : FnOk P w G.K mg base (L2.CX P w) 4 T.Line_take_word.f T.Line_take_word.fd ["self", "many", "known"] (SpIB G Int (G.cls "Line") fl_Line m_Line_take_word) :=
  fn_okIB T.Line_take_word.Fu sc_Line_take_word (fun r x xs p => [.ins (G.cls "Line") (fl_Line r) (some p), .per x, .bor xs, .dead]) rfl (fun r a xs v0 F H N p q ws dx us hm hp hd r0 hf hh hb hS hw => ⟨⟨p, dx, us, rfl, hm, hp, hd, fun q z => (Option.some.inj z).symm⟩, ⟨v0, rfl, r0⟩, ⟨q, ws, rfl, hf, hh, hb, (fun a b z => by rw [hS] at z; cases z), hw⟩, trivial, trivial⟩) (fun r x xs p => own_i (own_c rfl (own_c rfl (own_c rfl own_n)))) fun cdv A outer s H F p E hr =>
  ⟨_, (pss_cons (ps_if ((pw_or (pt_cmpR op_eq (pe_fld (pv 0) rfl) (pe_callB call_len_seq (by rfl) T.z_len PySem.boot_len (pa_cons (pe_fld (pv 0) rfl) pa_nil)) (nomark _)) (pw_or1 (pt_not (pt_val (pe_call (ok_is_string T) (hr.mono (by decide)) (by rfl) T.is_string.g T.is_string.Fu.kp T.is_string.b .nil (passes_call (takes_of rfl rfl rfl rfl) (fun _ _ _ _ h => h)) (pa_cons (pv 1) (pa_cons (pe_ix ix_list (pe_fld (pv 0) rfl) (pe_fld (pv 0) rfl) (fun _ _ => rfl)) pa_nil)))))))).pt (pss_cons (ps_expr (pe_meth0 (pv 0) T.Line.c T.Line_refuse.me (ok_Line_refuse T) (hr.mono (by decide)) T.Line_refuse.b .nil (passes_call (takes_of rfl rfl rfl rfl) (fun _ _ _ _ h => h)))) pss_nil) pss_nil) (pss_cons (ps_set (i := 3) sc_Line_take_word.nd rfl (Or.inl rfl) (pe_ix ix_list (pe_fld (pv 0) rfl) (pe_fld (pv 0) rfl) (fun _ _ => rfl))) (pss_cons (ps_if ((pw_or (pt_cmpR op_gt (pe_callB call_len_str (by rfl) T.z_len PySem.boot_len (pa_cons (pv 3) pa_nil)) (pe_glob (v := .int 4) (by rfl) T.g_MOST_SIGNS ⟨_, rfl⟩) (nomark _)) (pw_or1 (pt_cmpR op_in_seq (pv 3) (pv 2) (by rfl))))).pt (pss_cons (ps_expr (pe_meth0 (pv 0) T.Line.c T.Line_refuse.me (ok_Line_refuse T) (hr.mono (by decide)) T.Line_refuse.b .nil (passes_call (takes_of rfl rfl rfl rfl) (fun _ _ _ _ h => h)))) pss_nil) pss_nil) (pss_cons (ps_fldaug (pv 0) pe_int in_add) (pss_cons (ps_ret (pv 3)) pss_nil))))),
  fun r x xs => (sv_ifout (tv_or (tv_test (ev_op (α := Int) (β := Int) (ev_fld (a := (r.place : Int)) rfl rfl T.Line.c T.n_Line_place) (ev_lenL (ev_fld (a := (r.parts : (L Tx))) rfl rfl T.Line.c T.n_Line_parts)) opv_eq)) (tv_not (tv_B (ev_call2 (ev_var rfl) (ev_dat (ev_op (α := (L Tx)) (β := Int) (ev_fld (a := (r.parts : (L Tx))) rfl rfl T.Line.c T.n_Line_parts) (ev_fld (a := (r.place : Int)) rfl rfl T.Line.c T.n_Line_place) opv_ixL)))))) (evx_meth0 (fl := fl_Line) (r := (LineV.mk (r.number) (r.parts) (r.place))) (hO_slf _ _ _ _) rfl rfl ) (sv_asg (α := Tx) (ev_op (α := (L Tx)) (β := Int) (ev_fld (a := (r.parts : (L Tx))) rfl rfl T.Line.c T.n_Line_parts) (ev_fld (a := (r.place : Int)) rfl rfl T.Line.c T.n_Line_place) opv_ixL) fun v15 => (sv_ifout (tv_or (tv_test (ev_op (α := Int) (β := Int) (ev_lenS (ev_var rfl)) ev_int opv_B0)) (tv_test (ev_inB rfl (ev_var rfl)))) (evx_meth0 (fl := fl_Line) (r := (LineV.mk (r.number) (r.parts) (r.place))) (hO_slf _ _ _ _) rfl rfl ) (sv_fldaug (n := "place") (a := (r.place : Int)) (hO_slf _ _ _ _) rfl rfl T.Line.c T.n_Line_place (of_decide_eq_true rfl) ev_int fun v22 => (sv_retI (i := 0) (fl := fl_Line) (r := (LineV.mk (r.number) (r.parts) ((r.place + v22)))) rfl (ev_var rfl))))))⟩
theorem ok_Line_finish (T : Txt G mg) : FnOk P w G.K mg base (L2.CX P w) 4 T.Line_finish.f T.Line_finish.fd ["self"] (SpI0 G  (G.cls "Line") fl_Line m_Line_finish) :=
  fn_okIV T.Line_finish.Fu sc_Line_finish (fun r x p => [.ins (G.cls "Line") (fl_Line r) (some p)]) (fun a vs F ee => by rw [ee]; rfl) (fun r a vs F H N p dx us hm hp hd ee => by rw [ee]; exact ⟨⟨p, dx, us, rfl, hm, hp, hd, fun q z => (Option.some.inj z).symm⟩, trivial⟩) (fun r x p => own_i own_n) fun cdv A outer s H F p E hr =>
  ⟨_, (pss_cons (ps_if (pt_cmpR op_lt (pe_fld (pv 0) rfl) (pe_callB call_len_seq (by rfl) T.z_len PySem.boot_len (pa_cons (pe_fld (pv 0) rfl) pa_nil)) (nomark _)) (pss_cons (ps_expr (pe_meth0 (pv 0) T.Line.c T.Line_refuse.me (ok_Line_refuse T) (hr.mono (by decide)) T.Line_refuse.b .nil (passes_call (takes_of rfl rfl rfl rfl) (fun _ _ _ _ h => h)))) pss_nil) pss_nil) pss_nil),
  fun r x => (sv_ifout (tv_test (ev_op (α := Int) (β := Int) (ev_fld (a := (r.place : Int)) rfl rfl T.Line.c T.n_Line_place) (ev_lenL (ev_fld (a := (r.parts : (L Tx))) rfl rfl T.Line.c T.n_Line_parts)) opv_B0)) (evx_meth0 (fl := fl_Line) (r := (LineV.mk (r.number) (r.parts) (r.place))) (hO_slf _ _ _ _) rfl rfl ) (sv_endI (i := 0) (fl := fl_Line) (r := (LineV.mk (r.number) (r.parts) (r.place))) rfl))⟩
theorem ok_read_code (T : Txt G mg) : FnOk P w G.K mg base (L2.CX P w) 6 T.read_code.f T.read_code.fd ["text"] (SpF1 G Tx m_read_code) :=
  fn_ok T.read_code.Fu sc_read_code (fun x => [.per x.1, .dead, .dead, .dead, .dead, .dead, .dead]) (fun a vs F ⟨v0, _, e0, r0, ee⟩ => by rw [e0, ee]; rfl) (fun a vs F H N ⟨v0, _, e0, r0, ee⟩ => by rw [e0, ee]; exact ⟨⟨v0, rfl, r0⟩, trivial, trivial, trivial, trivial, trivial, trivial, trivial⟩) (fun x => (own_c rfl (own_c rfl (own_c rfl (own_c rfl (own_c rfl (own_c rfl (own_c rfl own_n)))))))) fun cdv A outer s H F E hr =>
  ⟨_, (pss_cons (ps_set (i := 1) sc_read_code.nd rfl (Or.inl rfl) (pe_split (pv 0) pe_str)) (pss_cons (ps_set (i := 2) sc_read_code.nd rfl (Or.inl rfl) (pe_make T.Line___init__.mki (ok_Line___init__ T) (hr.mono (by decide)) (by rfl) T.Line.g T.Line___init__.b .nil (passes_call (takes_of rfl rfl rfl rfl) (fun _ _ _ _ h => h)) (pa_cons (pe_ix ix_list (pv 1) pe_int (fun _ _ => rfl)) (pa_cons pe_int pa_nil)))) (pss_cons (ps_expr (pe_meth (pv 2) T.Line.c T.Line_take_one.me (ok_Line_take_one T) (hr.mono (by decide)) T.Line_take_one.b .nil (passes_call (takes_of rfl rfl rfl rfl) (fun _ _ _ _ h => h)) (pa_cons (pe_tup (pa_cons pe_str pa_nil)) pa_nil))) (pss_cons (ps_set (i := 3) sc_read_code.nd rfl (Or.inl rfl) (pe_callTy call_int_str (by rfl) T.z_int bt_int (pa_cons (pe_meth (pv 2) T.Line.c T.Line_take_one.me (ok_Line_take_one T) (hr.mono (by decide)) T.Line_take_one.b .nil (passes_call (takes_of rfl rfl rfl rfl) (fun _ _ _ _ h => h)) (pa_cons (pe_tup (pa_cons pe_str (pa_cons pe_str pa_nil))) pa_nil)) pa_nil))) (pss_cons (ps_expr (pe_meth0 (pv 2) T.Line.c T.Line_finish.me (ok_Line_finish T) (hr.mono (by decide)) T.Line_finish.b .nil (passes_call (takes_of rfl rfl rfl rfl) (fun _ _ _ _ h => h)))) (pss_cons (ps_set (i := 4) sc_read_code.nd rfl (Or.inl rfl) (pe_lst pa_nil)) (pss_cons (ps_for (passes_of rfl) rfl (pi_enum (by rfl) T.z_enumerate (pa_cons (pe_slice sl_list (pv 1) (po_some pe_int) po_none) pa_nil)) (pg_tup rfl (pgs_cons (pg_name (i := 5) sc_read_code.nd rfl (Or.inl rfl)) (pgs_cons (pg_name (i := 6) sc_read_code.nd rfl (Or.inl rfl)) pgs_nil))) (pss_cons (ps_if (pt_cmpR op_eq (pv 5) (pe_glob (v := .int 6) (by rfl) T.g_MOST_WORDS ⟨_, rfl⟩) (nomark _)) (pss_cons (ps_raise rfl (takes_of rfl rfl rfl rfl) (pmk_oex T.x_InvalidText.T T.x_InvalidText.iC T.x_InvalidText.tI (ok_InvalidText___init__ T) (hr.mono (by decide)) T.x_InvalidText.b .nil passL rfl T.x_InvalidText.g (pa_cons (pe_op op_add (pv 5) pe_int) (pa_cons pe_int pa_nil)))) pss_nil) pss_nil) (pss_cons (ps_set (i := 2) sc_read_code.nd rfl (Or.inl rfl) (pe_make T.Line___init__.mki (ok_Line___init__ T) (hr.mono (by decide)) (by rfl) T.Line.g T.Line___init__.b .nil (passes_call (takes_of rfl rfl rfl rfl) (fun _ _ _ _ h => h)) (pa_cons (pv 6) (pa_cons (pe_op op_add (pv 5) pe_int) pa_nil)))) (pss_cons (ps_expr (pe_bm PySem.F.plainAttrs_list PySem.F.slot_list_append PySem.F.type_list_append mt_append (pv 4) (pa_cons (pe_meth (pv 2) T.Line.c T.Line_take_word.me (ok_Line_take_word T) (hr.mono (by decide)) T.Line_take_word.b .nil (passes_call (takes_of rfl rfl rfl rfl) (fun _ _ _ _ h => h)) (pa_cons (pv 3) (pa_cons (pv 4) pa_nil))) pa_nil))) (pss_cons (ps_expr (pe_meth0 (pv 2) T.Line.c T.Line_finish.me (ok_Line_finish T) (hr.mono (by decide)) T.Line_finish.b .nil (passes_call (takes_of rfl rfl rfl rfl) (fun _ _ _ _ h => h)))) pss_nil))))) (pss_cons (ps_if (pt_cmpR (op_eqD hr.units) (pv 4) (pe_lst pa_nil) (nomark _)) (pss_cons (ps_raise rfl (takes_of rfl rfl rfl rfl) (pmk_oex T.x_InvalidText.T T.x_InvalidText.iC T.x_InvalidText.tI (ok_InvalidText___init__ T) (hr.mono (by decide)) T.x_InvalidText.b .nil passL rfl T.x_InvalidText.g (pa_cons (pe_op op_add (pe_callB call_len_seq (by rfl) T.z_len PySem.boot_len (pa_cons (pv 1) pa_nil)) pe_int) (pa_cons pe_int pa_nil)))) pss_nil) pss_nil) (pss_cons (ps_ret (pe_make T.Code___init__.mki (ok_Code___init__ T) (hr.mono (by decide)) (by rfl) T.Code.g T.Code___init__.b .nil (passes_call (takes_of rfl rfl rfl rfl) (fun _ _ _ _ h => h)) (pa_cons (pv 3) (pa_cons (pe_callTy call_tuple_of (by rfl) T.z_tuple bt_tuple (pa_cons (pv 4) pa_nil)) pa_nil)))) pss_nil))))))))),
  fun x => (sv_asg (α := (L Tx)) (ev_new (evn_split (ev_var rfl) (ev_str st_1))) fun v3 => (sv_make2 (fl := fl_Line) (hO_of _ _ _) (ev_op (α := (L Tx)) (β := Int) (ev_var rfl) ev_int opv_ixL) ev_int fun r9 => (sv_dropX (evx_meth1 (fl := fl_Line) (r := (LineV.mk (r9.2.number) (r9.2.parts) (r9.2.place))) (hO_of _ _ _) rfl rfl (ev_tup (evl_cons (ev_str st_5) evl_nil))) fun y14 => (sv_asgX (evx_intS (evx_meth1 (fl := fl_Line) (r := (LineV.mk (y14.2.number) (y14.2.parts) (y14.2.place))) (hO_of _ _ _) rfl rfl (ev_tup (evl_cons (ev_str st_7) (evl_cons (ev_str st_6) evl_nil))))) fun y23 => (sv_dropX (evx_meth0 (fl := fl_Line) (r := (LineV.mk (y23.2.number) (y23.2.parts) (y23.2.place))) (hO_of _ _ _) rfl rfl ) fun y24 => (sv_asgN (evn_lst evl_nil) fun v26 => (sv_for (Γi := fun (b32 : ((List Tx))) => [@Ent.per G Tx _ x.1, @Ent.per G (L Tx) _ v3, .dead, @Ent.per G Int _ y23.1, @Ent.lst G Tx _ b32, .dead, .dead]) (b0 := (un v26)) (evi_enumL (ev_new (evn_cutL (ev_var rfl) (evo_some ev_int) evo_none))) (wk_hs (wk_s (wk_s (wk_d (wk_s (wk_s (wk_d (wk_d wk_n)))))))) (fun _ => trivial) (fun b32 a33 => gv_tup2) (fun b32 a33 => (sv_ifraise (tv_test (ev_op (α := Int) (β := Int) (ev_var rfl) ev_int opv_eq)) (sx_raise2 (by decide) (ev_op (α := Int) (β := Int) (ev_var rfl) ev_int opv_I0) ev_int) (sv_make2 (fl := fl_Line) (hO_of _ _ _) (ev_var rfl) (ev_op (α := Int) (β := Int) (ev_var rfl) ev_int opv_I0) fun r45 => (sv_appendX (hO_of _ _ _) rfl (fun _ => rfl) (evx_methB (fl := fl_Line) (r := (LineV.mk (r45.2.number) (r45.2.parts) (r45.2.place))) (hO_of _ _ _) rfl rfl rfl (ev_var rfl)) fun y47 => (sv_dropX (evx_meth0 (fl := fl_Line) (r := (LineV.mk (y47.2.number) (y47.2.parts) (y47.2.place))) (hO_of _ _ _) rfl rfl ) fun y48 => (sv_next (wk_hs (wk_s (wk_s (wk_d (wk_s (wk_s (wk_d (wk_d wk_n)))))))))))))) (fun b32 => (sv_ifraise (tv_borrow 4 (hO_of _ _ _) rfl fun O => (tv_test (ev_op (α := (L Tx)) (β := (L Tx)) (ev_var rfl) (ev_new (evn_lst evl_nil)) (opv_eqD (α := (L Tx)) (β := (L Tx)))))) (sx_raise2 (by decide) (ev_op (α := Int) (β := Int) (ev_lenL (ev_var rfl)) ev_int opv_I0) ev_int) (sv_freeze 4 (hO_of _ _ _) rfl (sv_ret (ev_make (ev_var rfl) (ev_tupleL (ev_var rfl))))))))))))))⟩
theorem ok__law_word (T : Txt G mg) : FnOk P w G.K mg base (L2.CX P w) 2 T._law_word.f T._law_word.fd ["_law_h", "_law_many", "_law_high"] (SpS2 G Int Int m__law_word) :=
  fn_okS T._law_word.Fu sc__law_word (fun x => [.src, .per x.1, .per x.2.1, .dead]) (fun a vs F ⟨v0, _, e0, r0, ⟨v1, _, e1, r1, ee⟩⟩ => by rw [e0, e1, ee]; rfl) (fun a vs F H N p c hS ⟨v0, _, e0, r0, ⟨v1, _, e1, r1, ee⟩⟩ => by rw [e0, e1, ee]; exact ⟨⟨p, c, rfl, hS⟩, ⟨v0, rfl, r0⟩, ⟨v1, rfl, r1⟩, trivial, trivial⟩) (fun x => (own_c rfl (own_c rfl (own_c rfl (own_c rfl own_n))))) fun cdv A outer s H F p c E hr =>
  ⟨_, (pss_cons (ps_ret (pe_join pe_str (pe_lc (own := [("_law_k", 3)]) (g := (gName 3)) (tt := tYes) (te := (tOp rIxS (tC (.str "abc")) (tCall (SpS1 G Int m__law_next) [] E0 (tCons (tVar 0) (tCons (tVar 1) tNil))))) rfl sc__law_word.nd (pi_range1 (by rfl) T.z_range (pa_cons (pe_op op_add pe_int (pe_call (ok__law_next T) (hr.mono (by decide)) (by rfl) T._law_next.g T._law_next.Fu.kp T._law_next.b .nil (passes_call (takes_of rfl rfl rfl rfl) (fun _ _ _ _ h => h)) (pa_cons (pv 0) (pa_cons (pv 2) pa_nil)))) pa_nil)) (blkOk_by (N := Ns__law_word) (sc := defScope s__law_word) (by decide +kernel)) (fun _ _ _ _ _ => (pg_name (i := 3) sc__law_word.nd rfl (Or.inl rfl))) (fun _ _ _ _ _ => pts_nil) (fun _ _ _ _ _ => (pe_ix ix_str pe_str (pe_call (ok__law_next T) (hr.mono (by decide)) (by rfl) T._law_next.g T._law_next.Fu.kp T._law_next.b .nil passL (pa_cons (pv 0) (pa_cons (pv 1) pa_nil))) (fun _ _ => rfl)))))) pss_nil),
  fun x => (sv_ret (ev_join (ev_str st_4) (ev_new (evn_mapE (evi_rng1 (ev_op (α := Int) (β := Int) ev_int (ev_callS1 rfl (ev_var rfl)) opv_I0)) (no_own1 rfl rfl) trivial (fun O a5 => gc_name) (fun O a5 => (ev_op (α := Tx) (β := Int) (ev_str st_0) (ev_callS1 rfl (ev_var rfl)) opv_ixS)) (fun _ => rfl)))))⟩
theorem ok__law_code (T : Txt G mg) : FnOk P w G.K mg base (L2.CX P w) 3 T._law_code.f T._law_code.fd ["_law_h", "_law_high"] (SpS1 G Int m__law_code) :=
  fn_okS T._law_code.Fu sc__law_code (fun x => [.src, .per x.1, .dead, .dead, .dead, .dead, .dead, .dead, .dead]) (fun a vs F ⟨v0, _, e0, r0, ee⟩ => by rw [e0, ee]; rfl) (fun a vs F H N p c hS ⟨v0, _, e0, r0, ee⟩ => by rw [e0, ee]; exact ⟨⟨p, c, rfl, hS⟩, ⟨v0, rfl, r0⟩, trivial, trivial, trivial, trivial, trivial, trivial, trivial, trivial⟩) (fun x => (own_c rfl (own_c rfl (own_c rfl (own_c rfl (own_c rfl (own_c rfl (own_c rfl (own_c rfl (own_c rfl own_n)))))))))) fun cdv A outer s H F p c E hr =>
  ⟨_, (pss_cons (ps_set (i := 2) sc__law_code.nd rfl (Or.inl rfl) (pe_op op_add pe_int (pe_callTy call_int1 (by rfl) T.z_int bt_int (pa_cons (pe_cmpR op_eq (pe_call (ok__law_next T) (hr.mono (by decide)) (by rfl) T._law_next.g T._law_next.Fu.kp T._law_next.b .nil (passes_call (takes_of rfl rfl rfl rfl) (fun _ _ _ _ h => h)) (pa_cons (pv 0) (pa_cons pe_int pa_nil))) pe_int (nomark _)) pa_nil)))) (pss_cons (ps_set (i := 3) sc__law_code.nd rfl (Or.inl rfl) (pe_lst pa_nil)) (pss_cons (ps_if (pt_cmpR op_eq (pe_call (ok__law_next T) (hr.mono (by decide)) (by rfl) T._law_next.g T._law_next.Fu.kp T._law_next.b .nil (passes_call (takes_of rfl rfl rfl rfl) (fun _ _ _ _ h => h)) (pa_cons (pv 0) (pa_cons pe_int pa_nil))) pe_int (nomark _)) (pss_cons (ps_set (i := 4) sc__law_code.nd rfl (Or.inr rfl) (pe_lst (pa_cons pe_str pa_nil))) (pss_cons (ps_for (passes_of rfl) rfl (pi_range1 (by rfl) T.z_range (pa_cons (pe_call (ok__law_next T) (hr.mono (by decide)) (by rfl) T._law_next.g T._law_next.Fu.kp T._law_next.b .nil (passes_call (takes_of rfl rfl rfl rfl) (fun _ _ _ _ h => h)) (pa_cons (pv 0) (pa_cons (pv 1) pa_nil))) pa_nil)) (pg_name (i := 5) sc__law_code.nd rfl (Or.inl rfl)) (pss_cons (ps_set (i := 6) sc__law_code.nd rfl (Or.inr rfl) (pe_call (ok__law_next T) (hr.mono (by decide)) (by rfl) T._law_next.g T._law_next.Fu.kp T._law_next.b .nil (passes_call (takes_of rfl rfl rfl rfl) (fun _ _ _ _ h => h)) (pa_cons (pv 0) (pa_cons (pe_callB call_len_seq (by rfl) T.z_len PySem.boot_len (pa_cons (pv 4) pa_nil)) pa_nil)))) (pss_cons (ps_if ((pw_and (pt_cmpR op_lt (pe_callB call_len_str (by rfl) T.z_len PySem.boot_len (pa_cons (pe_ix ix_list (pv 4) (pv 6) (fun _ _ => rfl)) pa_nil)) pe_int (nomark _)) (pw_and1 (pt_cmpR op_le (pe_op op_sub (pe_op op_add (pe_callB call_len_seq (by rfl) T.z_len PySem.boot_len (pa_cons (pv 4) pa_nil)) (pv 2)) pe_int) pe_int (nomark _))))).pt (pss_cons (ps_set (i := 4) sc__law_code.nd rfl (Or.inr rfl) (pe_op TyL.op_catL (pe_op TyL.op_catL (pe_slice sl_list (pv 4) po_none (po_some (pv 6))) (pe_lc (own := [("_law_sign", 8)]) (g := (gName 8)) (tt := tYes) (te := (tOp (fun x y H Q => ∃ i j, x = .str i ∧ y = .str j ∧ i.length + j.length ≤ sizeLine ∧ Q (.str (i ++ j)) H) (tOp (rIxL G.K) (tVar 4) (tVar 6)) (tVar 8))) rfl sc__law_code.nd (pi_str (pe_slice sl_str pe_str po_none (po_some (pv 2)))) (blkOk_by (N := Ns__law_code) (sc := defScope s__law_code) (by decide +kernel)) (fun _ _ _ _ _ => (pg_name (i := 8) sc__law_code.nd rfl (Or.inl rfl))) (fun _ _ _ _ _ => pts_nil) (fun _ _ _ _ _ => (pe_op op_add_str (pe_ix ix_list (pv 4) (pv 6) (fun _ _ => rfl)) (pv 8))))) (pe_slice sl_list (pv 4) (po_some (pe_op op_add (pv 6) pe_int)) po_none))) pss_nil) pss_nil) pss_nil))) (pss_cons (ps_setLc (i := 3) (own := [("_law_word_here", 7)]) (g := (gName 7)) (tt := (tTest (tOp rNe (tVar 7) (tC (.str ""))))) (te := (tVar 7)) rfl sc__law_code.nd rfl rfl (sw_true rfl rfl rfl (by decide +kernel)) (pi_list (pv 4)) (blkOk_by (N := Ns__law_code) (sc := defScope s__law_code) (by decide +kernel)) (fun _ _ _ _ _ => (pg_name (i := 7) sc__law_code.nd rfl (Or.inl rfl))) (fun _ _ _ _ _ => pts_one (pt_cmpR op_ne (pv 7) pe_str (nomark _))) (fun _ _ _ _ _ => (pv 7))) (pss_cons (ps_if (pt_cmpR op_eq (pe_call (ok__law_next T) (hr.mono (by decide)) (by rfl) T._law_next.g T._law_next.Fu.kp T._law_next.b .nil (passes_call (takes_of rfl rfl rfl rfl) (fun _ _ _ _ h => h)) (pa_cons (pv 0) (pa_cons pe_int pa_nil))) pe_int (nomark _)) (pss_cons (ps_setLc (i := 3) (own := [("_law_word_here", 7)]) (g := (gName 7)) (tt := tYes) (te := (TyL.tRevS (tVar 7))) rfl sc__law_code.nd rfl rfl (sw_true rfl rfl rfl (by decide +kernel)) (pi_list (pv 3)) (blkOk_by (N := Ns__law_code) (sc := defScope s__law_code) (by decide +kernel)) (fun _ _ _ _ _ => (pg_name (i := 7) sc__law_code.nd rfl (Or.inl rfl))) (fun _ _ _ _ _ => pts_nil) (fun _ _ _ _ _ => (TyL.pe_revS (pv 7)))) pss_nil) pss_nil) pss_nil)))) pss_nil) (pss_cons (ps_for (passes_of rfl) rfl (pi_range1 (by rfl) T.z_range (pa_cons (pe_op op_add (pe_call (ok__law_next T) (hr.mono (by decide)) (by rfl) T._law_next.g T._law_next.Fu.kp T._law_next.b .nil (passes_call (takes_of rfl rfl rfl rfl) (fun _ _ _ _ h => h)) (pa_cons (pv 0) (pa_cons (pv 1) pa_nil))) (pe_callTy call_int1 (by rfl) T.z_int bt_int (pa_cons (pe_cmpR (op_eqD hr.units) (pv 3) (pe_lst pa_nil) (nomark _)) pa_nil))) pa_nil)) (pg_name (i := 5) sc__law_code.nd rfl (Or.inl rfl)) (pss_cons (ps_set (i := 7) sc__law_code.nd rfl (Or.inl rfl) (pe_call (ok__law_word T) (hr.mono (by decide)) (by rfl) T._law_word.g T._law_word.Fu.kp T._law_word.b .nil (passes_call (takes_of rfl rfl rfl rfl) (fun _ _ _ _ h => h)) (pa_cons (pv 0) (pa_cons (pv 2) (pa_cons (pe_ifExp (pt_cmpR op_eq (pe_call (ok__law_next T) (hr.mono (by decide)) (by rfl) T._law_next.g T._law_next.Fu.kp T._law_next.b .nil (passes_call (takes_of rfl rfl rfl rfl) (fun _ _ _ _ h => h)) (pa_cons (pv 0) (pa_cons pe_int pa_nil))) pe_int (nomark _)) pe_int pe_int) pa_nil))))) (pss_cons (ps_if ((pw_and (pt_cmpR op_notIn_seq (pv 7) (pv 3) (by rfl)) (pw_and1 (pt_cmpR op_lt (pe_callB call_len_seq (by rfl) T.z_len PySem.boot_len (pa_cons (pv 3) pa_nil)) pe_int (nomark _))))).pt (pss_cons (ps_expr (pe_bm PySem.F.plainAttrs_list PySem.F.slot_list_insert PySem.F.type_list_insert mt_insert (pv 3) (pa_cons (pe_call (ok__law_next T) (hr.mono (by decide)) (by rfl) T._law_next.g T._law_next.Fu.kp T._law_next.b .nil (passes_call (takes_of rfl rfl rfl rfl) (fun _ _ _ _ h => h)) (pa_cons (pv 0) (pa_cons (pe_op op_add (pe_callB call_len_seq (by rfl) T.z_len PySem.boot_len (pa_cons (pv 3) pa_nil)) pe_int) pa_nil))) (pa_cons (pv 7) pa_nil)))) pss_nil) pss_nil) pss_nil))) (pss_cons (ps_if ((pw_and (pt_cmpR op_gt (pe_callB call_len_seq (by rfl) T.z_len PySem.boot_len (pa_cons (pv 3) pa_nil)) pe_int (nomark _)) (pw_and1 (pt_cmpR op_eq (pe_call (ok__law_next T) (hr.mono (by decide)) (by rfl) T._law_next.g T._law_next.Fu.kp T._law_next.b .nil (passes_call (takes_of rfl rfl rfl rfl) (fun _ _ _ _ h => h)) (pa_cons (pv 0) (pa_cons pe_int pa_nil))) pe_int (nomark _))))).pt (pss_cons (ps_expr (pe_bm PySem.F.plainAttrs_list PySem.F.slot_list_pop PySem.F.type_list_pop mt_popAt (pv 3) (pa_cons (pe_call (ok__law_next T) (hr.mono (by decide)) (by rfl) T._law_next.g T._law_next.Fu.kp T._law_next.b .nil (passes_call (takes_of rfl rfl rfl rfl) (fun _ _ _ _ h => h)) (pa_cons (pv 0) (pa_cons (pe_callB call_len_seq (by rfl) T.z_len PySem.boot_len (pa_cons (pv 3) pa_nil)) pa_nil))) pa_nil))) pss_nil) pss_nil) (pss_cons (ps_ret (pe_lst (pa_cons (pv 2) (pa_cons (pe_callTy call_tuple_of (by rfl) T.z_tuple bt_tuple (pa_cons (pv 3) pa_nil)) pa_nil)))) pss_nil)))))),
  fun x => (sv_asg (α := Int) (ev_op (α := Int) (β := Int) ev_int (ev_intB (ev_op (α := Int) (β := Int) (ev_callS1 rfl ev_int) ev_int opv_eq)) opv_I0) fun v7 => (sv_asgN (evn_lst evl_nil) fun v9 => (sv_if (Γi := fun (b14 : ((List Tx))) => [.src, @Ent.per G Int _ x.1, @Ent.per G Int _ v7, @Ent.lst G Tx _ b14, .dead, .dead, .dead, .dead, .dead]) (tv_test (ev_op (α := Int) (β := Int) (ev_callS1 rfl ev_int) ev_int opv_eq)) (sv_asg (α := (L Tx)) (ev_new (evn_lst (evl_cons (ev_str st_4) evl_nil))) fun v18 => (sv_for (Γi := fun (b21 : ((L Tx))) => [.src, @Ent.per G Int _ x.1, @Ent.per G Int _ v7, @Ent.lst G Tx _ (un v9), @Ent.per G (L Tx) _ b21, .dead, .dead, .dead, .dead]) (b0 := v18) (evi_rng1 (ev_callS1 rfl (ev_var rfl))) (wk_hs (wk_s (wk_s (wk_s (wk_s (wk_s (wk_d (wk_d (wk_d (wk_d wk_n)))))))))) (fun _ => trivial) (fun b21 a22 => gv_name) (fun b21 a22 => (sv_asg (α := Int) (ev_callS1 rfl (ev_lenL (ev_var rfl))) fun v25 => (sv_if (Γi := fun (b41 : ((L Tx))) => [.src, @Ent.per G Int _ x.1, @Ent.per G Int _ v7, @Ent.lst G Tx _ (un v9), @Ent.per G (L Tx) _ b41, @Ent.per G Int _ a22, @Ent.per G Int _ v25, .dead, .dead]) (tv_and (tv_test (ev_op (α := Int) (β := Int) (ev_lenS (ev_op (α := (L Tx)) (β := Int) (ev_var rfl) (ev_var rfl) opv_ixL)) ev_int opv_B0)) (tv_test (ev_op (α := Int) (β := Int) (ev_op (α := Int) (β := Int) (ev_op (α := Int) (β := Int) (ev_lenL (ev_var rfl)) (ev_var rfl) opv_I0) ev_int opv_I0) ev_int opv_B0))) (sv_asg (α := (L Tx)) (ev_new (evn_catL (ev_new (evn_catL (ev_new (evn_cutL (ev_var rfl) evo_none (evo_some (ev_var rfl)))) (ev_new (evn_map (evi_str (ev_slice (ev_str st_0) evo_none (evo_some (ev_var rfl)) slv_txt)) (no_own1 rfl rfl) trivial (fun O a51 => gc_name) (fun O a51 => (ev_op (α := Tx) (β := Tx) (ev_op (α := (L Tx)) (β := Int) (ev_var rfl) (ev_var rfl) opv_ixL) (ev_var rfl) opv_addS)) (fun _ => rfl))))) (ev_new (evn_cutL (ev_var rfl) (evo_some (ev_op (α := Int) (β := Int) (ev_var rfl) ev_int opv_I0)) evo_none)))) fun v68 => (sv_next (wk_hs (wk_s (wk_s (wk_s (wk_s (wk_s (wk_s (wk_s (wk_d (wk_d wk_n)))))))))))) (sv_next (wk_hs (wk_s (wk_s (wk_s (wk_s (wk_s (wk_s (wk_s (wk_d (wk_d wk_n))))))))))) fun b41 => (sv_next (wk_hs (wk_s (wk_s (wk_s (wk_s (wk_s (wk_d (wk_d (wk_d (wk_d wk_n)))))))))))))) (fun b21 => (sv_asgN (evn_lc (evi_lst (ev_var rfl)) (no_own1 rfl rfl) trivial (fun O a69 => gc_name) (fun O a69 => (tv_test (ev_op (α := Tx) (β := Tx) (ev_var rfl) (ev_str st_4) opv_ne))) (fun O a69 => (ev_var rfl)) (fun _ => rfl)) fun v73 => (sv_if (Γi := fun (b78 : ((List Tx))) => [.src, @Ent.per G Int _ x.1, @Ent.per G Int _ v7, @Ent.lst G Tx _ b78, @Ent.per G (L Tx) _ b21, .dead, .dead, .dead, .dead]) (tv_test (ev_op (α := Int) (β := Int) (ev_callS1 rfl ev_int) ev_int opv_eq)) (sv_freeze 3 (hO_src _ _ _ _ _) rfl (sv_asgN (evn_map (evi_lst (ev_var rfl)) (no_own1 rfl rfl) trivial (fun O a79 => gc_name) (fun O a79 => (ev_revS (ev_var rfl))) (fun _ => rfl)) fun v82 => (sv_next (wk_hs (wk_s (wk_s (wk_s (wk_s (wk_s (wk_d (wk_d (wk_d (wk_d wk_n))))))))))))) (sv_next (wk_hs (wk_s (wk_s (wk_s (wk_s (wk_s (wk_d (wk_d (wk_d (wk_d wk_n))))))))))) fun b78 => (sv_next (wk_hs (wk_s (wk_s (wk_s (wk_s (wk_d (wk_d (wk_d (wk_d (wk_d wk_n)))))))))))))))) (sv_next (wk_hs (wk_s (wk_s (wk_s (wk_s (wk_d (wk_d (wk_d (wk_d (wk_d wk_n))))))))))) fun b14 => (sv_for (Γi := fun (b92 : ((List Tx))) => [.src, @Ent.per G Int _ x.1, @Ent.per G Int _ v7, @Ent.lst G Tx _ b92, .dead, .dead, .dead, .dead, .dead]) (b0 := b14) (evi_rng1 (ev_op (α := Int) (β := Int) (ev_callS1 rfl (ev_var rfl)) (ev_intB (ev_borrow 3 (hO_src _ _ _ _ _) rfl fun O => (ev_op (α := (L Tx)) (β := (L Tx)) (ev_var rfl) (ev_new (evn_lst evl_nil)) (opv_eqD (α := (L Tx)) (β := (L Tx)))))) opv_I0)) (wk_hs (wk_s (wk_s (wk_s (wk_s (wk_d (wk_d (wk_d (wk_d (wk_d wk_n)))))))))) (fun _ => trivial) (fun b92 a93 => gv_name) (fun b92 a93 => (sv_asg (α := Tx) (ev_callS2 rfl (ev_var rfl) (ev_if (tv_test (ev_op (α := Int) (β := Int) (ev_callS1 rfl ev_int) ev_int opv_eq)) ev_int ev_int)) fun v100 => (sv_if (Γi := fun (b108 : ((List Tx))) => [.src, @Ent.per G Int _ x.1, @Ent.per G Int _ v7, @Ent.lst G Tx _ b108, .dead, @Ent.per G Int _ a93, .dead, @Ent.per G Tx _ v100, .dead]) (tv_and (tv_borrow 3 (hO_src _ _ _ _ _) rfl fun O => (tv_test (ev_op (α := Tx) (β := (L Tx)) (ev_var rfl) (ev_var rfl) opv_ninL))) (tv_test (ev_op (α := Int) (β := Int) (ev_borrow 3 (hO_src _ _ _ _ _) rfl fun O => (ev_lenL (ev_var rfl))) ev_int opv_B0))) (sv_insert (hO_src _ _ _ _ _) rfl (ev_callS1 rfl (ev_op (α := Int) (β := Int) (ev_borrow 3 (hO_src _ _ _ _ _) rfl fun O => (ev_lenL (ev_var rfl))) ev_int opv_I0)) (ev_var rfl) fun j113 v114 => (sv_next (wk_hs (wk_s (wk_s (wk_s (wk_s (wk_d (wk_s (wk_d (wk_s (wk_d wk_n)))))))))))) (sv_next (wk_hs (wk_s (wk_s (wk_s (wk_s (wk_d (wk_s (wk_d (wk_s (wk_d wk_n))))))))))) fun b108 => (sv_next (wk_hs (wk_s (wk_s (wk_s (wk_s (wk_d (wk_d (wk_d (wk_d (wk_d wk_n)))))))))))))) (fun b92 => (sv_if (Γi := fun (b123 : ((List Tx))) => [.src, @Ent.per G Int _ x.1, @Ent.per G Int _ v7, @Ent.lst G Tx _ b123, .dead, .dead, .dead, .dead, .dead]) (tv_and (tv_test (ev_op (α := Int) (β := Int) (ev_borrow 3 (hO_src _ _ _ _ _) rfl fun O => (ev_lenL (ev_var rfl))) ev_int opv_B0)) (tv_test (ev_op (α := Int) (β := Int) (ev_callS1 rfl ev_int) ev_int opv_eq))) (sv_popAtD (hO_src _ _ _ _ _) rfl (ev_callS1 rfl (ev_borrow 3 (hO_src _ _ _ _ _) rfl fun O => (ev_lenL (ev_var rfl)))) fun j126 => (sv_next (wk_hs (wk_s (wk_s (wk_s (wk_s (wk_d (wk_d (wk_d (wk_d (wk_d wk_n)))))))))))) (sv_next (wk_hs (wk_s (wk_s (wk_s (wk_s (wk_d (wk_d (wk_d (wk_d (wk_d wk_n))))))))))) fun b123 => (sv_freeze 3 (hO_src _ _ _ _ _) rfl (sv_ret (ev_mkl (ev_var rfl) (ev_tupleL (ev_var rfl)))))))))))⟩
theorem ok__law_built (T : Txt G mg) : FnOk P w G.K mg base (L2.CX P w) 6 T._law_built.f T._law_built.fd ["_law_t"] (SpF1 G (L2v Int (List Tx)) m__law_built) :=
  fn_ok T._law_built.Fu sc__law_built (fun x => [.per x.1]) (fun a vs F ⟨v0, _, e0, r0, ee⟩ => by rw [e0, ee]; rfl) (fun a vs F H N ⟨v0, _, e0, r0, ee⟩ => by rw [e0, ee]; exact ⟨⟨v0, rfl, r0⟩, trivial⟩) (fun x => (own_c rfl own_n)) fun cdv A outer s H F E hr =>
  ⟨_, (pss_cons (ps_ret (pe_make T.Code___init__.mki (ok_Code___init__ T) (hr.mono (by decide)) (by rfl) T.Code.g T.Code___init__.b .nil (passes_call (takes_of rfl rfl rfl rfl) (fun _ _ _ _ h => h)) (pa_cons (pe_ix ix_list (pv 0) pe_int (fun _ _ => rfl)) (pa_cons (pe_ix ix_list (pv 0) pe_int (fun _ _ => rfl)) pa_nil)))) pss_nil),
  fun x => (sv_ret (ev_make (ev_l1 (ev_var rfl)) (ev_l2 (ev_var rfl))))⟩
theorem ok__law_is_word (T : Txt G mg) : FnOk P w G.K mg base (L2.CX P w) 1 T._law_is_word.f T._law_is_word.fd ["_law_word_here", "_law_many"] (SpF2 G Tx Int m__law_is_word) :=
  fn_ok T._law_is_word.Fu sc__law_is_word (fun x => [.per x.1, .per x.2.1, .dead]) (fun a vs F ⟨v0, _, e0, r0, ⟨v1, _, e1, r1, ee⟩⟩ => by rw [e0, e1, ee]; rfl) (fun a vs F H N ⟨v0, _, e0, r0, ⟨v1, _, e1, r1, ee⟩⟩ => by rw [e0, e1, ee]; exact ⟨⟨v0, rfl, r0⟩, ⟨v1, rfl, r1⟩, trivial, trivial⟩) (fun x => (own_c rfl (own_c rfl (own_c rfl own_n)))) fun cdv A outer s H F E hr =>
  ⟨_, (pss_cons (ps_ret (pe_and (pe_chain op_le op_le pe_int (pe_callB call_len_str (by rfl) T.z_len PySem.boot_len (pa_cons (pv 0) pa_nil)) pe_int) (pe_one (pe_cmpR (op_eqD hr.units) (pe_lc (own := [("_law_sign", 2)]) (g := (gName 2)) (tt := (tTest (tOp (fun x y H Q => ∃ i j, x = .str i ∧ y = .str j ∧ Q (.bl (!(!(Builtin.Str.occurrences j i 0 j.length 1).isEmpty))) H) (tVar 2) (tSl rSlS (tC (.str "abc")) tNoPart (tPart (tVar 1)))))) (te := (tVar 2)) rfl sc__law_is_word.nd (pi_str (pv 0)) (blkOk_by (N := Ns__law_is_word) (sc := defScope s__law_is_word) (by decide +kernel)) (fun _ _ _ _ _ => (pg_name (i := 2) sc__law_is_word.nd rfl (Or.inl rfl))) (fun _ _ _ _ _ => pts_one (pt_cmpR op_notIn_str (pv 2) (pe_slice sl_str pe_str po_none (po_some (pv 1))) (by rfl))) (fun _ _ _ _ _ => (pv 2))) (pe_lst pa_nil) (nomark _))))) pss_nil),
  fun x => (sv_ret (ev_and (ev_chain ev_int (ev_lenS (ev_var rfl)) ev_int opv_B0 opv_B0) (ev_op (α := (L Tx)) (β := (L Tx)) (ev_new (evn_lc (evi_str (ev_var rfl)) (no_own1 rfl rfl) trivial (fun O a7 => gc_name) (fun O a7 => (tv_test (ev_op (α := Tx) (β := Tx) (ev_var rfl) (ev_slice (ev_str st_0) evo_none (evo_some (ev_var rfl)) slv_txt) opv_ninS))) (fun O a7 => (ev_var rfl)) (fun _ => rfl))) (ev_new (evn_lst evl_nil)) (opv_eqD (α := (L Tx)) (β := (L Tx))))))⟩
theorem ok__law_due (T : Txt G mg) : FnOk P w G.K mg base (L2.CX P w) 2 T._law_due.f T._law_due.fd ["_law_string"] (SpF1 G Tx m__law_due) :=
  fn_ok T._law_due.Fu sc__law_due (fun x => [.per x.1, .dead, .dead, .dead, .dead, .dead, .dead]) (fun a vs F ⟨v0, _, e0, r0, ee⟩ => by rw [e0, ee]; rfl) (fun a vs F H N ⟨v0, _, e0, r0, ee⟩ => by rw [e0, ee]; exact ⟨⟨v0, rfl, r0⟩, trivial, trivial, trivial, trivial, trivial, trivial, trivial⟩) (fun x => (own_c rfl (own_c rfl (own_c rfl (own_c rfl (own_c rfl (own_c rfl (own_c rfl own_n)))))))) fun cdv A outer s H F E hr =>
  ⟨_, (pss_cons (ps_set (i := 1) sc__law_due.nd rfl (Or.inl rfl) (pe_split (pv 0) pe_str)) (pss_cons (ps_set (i := 2) sc__law_due.nd rfl (Or.inl rfl) (pe_lst pa_nil)) (pss_cons (ps_for (passes_of rfl) rfl (pi_range1 (by rfl) T.z_range (pa_cons (pe_callB call_len_seq (by rfl) T.z_len PySem.boot_len (pa_cons (pv 1) pa_nil)) pa_nil)) (pg_name (i := 3) sc__law_due.nd rfl (Or.inl rfl)) (pss_cons (ps_setLc (i := 4) (own := [("_law_word_here", 6)]) (g := (gName 6)) (tt := (tTest (tOp rNe (tVar 6) (tC (.str ""))))) (te := (tVar 6)) rfl sc__law_due.nd rfl rfl (sw_true rfl rfl rfl (by decide +kernel)) (pi_list (pe_split (pe_ix ix_list (pv 1) (pv 3) (fun _ _ => rfl)) pe_str)) (blkOk_by (N := Ns__law_due) (sc := defScope s__law_due) (by decide +kernel)) (fun _ _ _ _ _ => (pg_name (i := 6) sc__law_due.nd rfl (Or.inl rfl))) (fun _ _ _ _ _ => pts_one (pt_cmpR op_ne (pv 6) pe_str (nomark _))) (fun _ _ _ _ _ => (pv 6))) (pss_cons (ps_if (pt_cmpR op_eq (pv 3) pe_int (nomark _)) (pss_cons (ps_if (pt_cmpR (op_neD hr.units) (pe_slice sl_list (pv 4) po_none (po_some pe_int)) (pe_lst (pa_cons pe_str pa_nil)) (nomark _)) (pss_cons (ps_ret (pe_tup (pa_cons pe_int (pa_cons pe_int pa_nil)))) pss_nil) pss_nil) (pss_cons (ps_if (pt_cmpR (TyL.op_notInDT (TyL.room65 hr)) (pe_slice sl_list (pv 4) (po_some pe_int) (po_some pe_int)) (pe_tup (pa_cons (pe_lst (pa_cons pe_str pa_nil)) (pa_cons (pe_lst (pa_cons pe_str pa_nil)) pa_nil))) (by rfl)) (pss_cons (ps_ret (pe_tup (pa_cons pe_int (pa_cons pe_int pa_nil)))) pss_nil) pss_nil) (pss_cons (ps_if (pt_cmpR op_gt (pe_callB call_len_seq (by rfl) T.z_len PySem.boot_len (pa_cons (pv 4) pa_nil)) pe_int (nomark _)) (pss_cons (ps_ret (pe_tup (pa_cons pe_int (pa_cons pe_int pa_nil)))) pss_nil) pss_nil) (pss_cons (ps_set (i := 5) sc__law_due.nd rfl (Or.inl rfl) (pe_callTy call_int_str (by rfl) T.z_int bt_int (pa_cons (pe_ix ix_list (pv 4) pe_int (fun _ _ => rfl)) pa_nil))) pss_nil)))) (pss_cons (ps_if ((pw_or (pt_cmpR op_gt (pv 3) pe_int (nomark _)) (pw_or (pt_cmpR (op_eqD hr.units) (pv 4) (pe_lst pa_nil) (nomark _)) (pw_or (pt_not (pt_val (pe_call (ok__law_is_word T) (hr.mono (by decide)) (by rfl) T._law_is_word.g T._law_is_word.Fu.kp T._law_is_word.b .nil (passes_call (takes_of rfl rfl rfl rfl) (fun _ _ _ _ h => h)) (pa_cons (pe_ix ix_list (pv 4) pe_int (fun _ _ => rfl)) (pa_cons (pv 5) pa_nil))))) (pw_or1 (pt_cmpR op_in_seq (pe_ix ix_list (pv 4) pe_int (fun _ _ => rfl)) (pv 2) (by rfl))))))).pt (pss_cons (ps_ret (pe_tup (pa_cons (pe_op op_add (pv 3) pe_int) (pa_cons pe_int pa_nil)))) pss_nil) pss_nil) (pss_cons (ps_if (pt_cmpR op_gt (pe_callB call_len_seq (by rfl) T.z_len PySem.boot_len (pa_cons (pv 4) pa_nil)) pe_int (nomark _)) (pss_cons (ps_ret (pe_tup (pa_cons (pe_op op_add (pv 3) pe_int) (pa_cons pe_int pa_nil)))) pss_nil) pss_nil) (pss_cons (ps_expr (pe_bm PySem.F.plainAttrs_list PySem.F.slot_list_append PySem.F.type_list_append mt_append (pv 2) (pa_cons (pe_ix ix_list (pv 4) pe_int (fun _ _ => rfl)) pa_nil))) pss_nil)))) pss_nil))) (pss_cons (ps_ret (pe_ifExp (pt_cmpR (op_eqD hr.units) (pv 2) (pe_lst pa_nil) (nomark _)) (pe_tup (pa_cons (pe_op op_add (pe_callB call_len_seq (by rfl) T.z_len PySem.boot_len (pa_cons (pv 1) pa_nil)) pe_int) (pa_cons pe_int pa_nil))) pe_non)) pss_nil)))),
  fun x => (sv_asg (α := (L Tx)) (ev_new (evn_split (ev_var rfl) (ev_str st_1))) fun v3 => (sv_asgN (evn_lst evl_nil) fun v5 => (sv_forF (Γi := fun (b8 : ((Option Int) × (List Tx))) => [@Ent.per G Tx _ x.1, @Ent.per G (L Tx) _ v3, @Ent.lst G Tx _ b8.2, .dead, .dead, @mb G Int _ b8.1, .dead]) (b0 := (none, (un v5))) (jr_id jr_ret) (evi_rng1 (ev_lenL (ev_var rfl))) (wk_hs (wk_s (wk_s (wk_s (wk_d (wk_d (wk_s (wk_d wk_n)))))))) (fun _ => trivial) (fun b8 a9 => gv_name) (fun b8 a9 => (sv_asg (α := (L Tx)) (ev_new (evn_lc (evi_lst (ev_new (evn_split (ev_op (α := (L Tx)) (β := Int) (ev_var rfl) (ev_var rfl) opv_ixL) (ev_str st_3)))) (no_own1 rfl rfl) trivial (fun O a15 => gc_name) (fun O a15 => (tv_test (ev_op (α := Tx) (β := Tx) (ev_var rfl) (ev_str st_4) opv_ne))) (fun O a15 => (ev_var rfl)) (fun _ => rfl))) fun v19 => (sv_ifF (Γi := fun (b23 : ((Option Int) × (List Tx))) => [@Ent.per G Tx _ x.1, @Ent.per G (L Tx) _ v3, @Ent.lst G Tx _ b23.2, @Ent.per G Int _ a9, @Ent.per G (L Tx) _ v19, @mb G Int _ b23.1, .dead]) (jr_to jr_ret) (tv_test (ev_op (α := Int) (β := Int) (ev_var rfl) ev_int opv_eq)) (sv_ifretF (ret := Fl.rt) (jr_to jr_ret) (tv_test (ev_op (α := (L Tx)) (β := (L Tx)) (ev_new (evn_cutL (ev_var rfl) evo_none (evo_some ev_int))) (ev_new (evn_lst (evl_cons (ev_str st_5) evl_nil))) (opv_neD (α := (L Tx)) (β := (L Tx))))) (sv_ret (ev_some (ev_mkp ev_int ev_int))) (sv_ifretF (ret := Fl.rt) (jr_to jr_ret) (tv_test (ev_op (α := (L Tx)) (β := (List (L Tx))) (ev_new (evn_cutL (ev_var rfl) (evo_some ev_int) (evo_some ev_int))) (ev_tup (evl_cons (ev_new (evn_lst (evl_cons (ev_str st_7) evl_nil))) (evl_cons (ev_new (evn_lst (evl_cons (ev_str st_6) evl_nil))) evl_nil))) (opv_ninDT (α := (L Tx))))) (sv_ret (ev_some (ev_mkp ev_int ev_int))) (sv_ifretF (ret := Fl.rt) (jr_to jr_ret) (tv_test (ev_op (α := Int) (β := Int) (ev_lenL (ev_var rfl)) ev_int opv_B0)) (sv_ret (ev_some (ev_mkp ev_int ev_int))) (sv_asg (α := Int) (ev_intS (ev_op (α := (L Tx)) (β := Int) (ev_var rfl) ev_int opv_ixL)) fun v66 => (sv_nextF (wk_hs (wk_s (wk_s (wk_s (wk_s (wk_s (wk_s (wk_d wk_n))))))))))))) (sv_ifretF (ret := Fl.rt) (jr_to jr_ret) (tv_or (tv_test (ev_op (α := Int) (β := Int) (ev_var rfl) ev_int opv_B0)) (tv_or (tv_test (ev_op (α := (L Tx)) (β := (L Tx)) (ev_var rfl) (ev_new (evn_lst evl_nil)) (opv_eqD (α := (L Tx)) (β := (L Tx))))) (tv_or (tv_not (tv_B (ev_call2 (ev_op (α := (L Tx)) (β := Int) (ev_var rfl) ev_int opv_ixL) (ev_mb rfl)))) (tv_borrow 2 (hO_of _ _ _) rfl fun O => (tv_test (ev_op (α := Tx) (β := (L Tx)) (ev_op (α := (L Tx)) (β := Int) (ev_var rfl) ev_int opv_ixL) (ev_var rfl) opv_inL)))))) (sv_ret (ev_some (ev_mkp (ev_op (α := Int) (β := Int) (ev_var rfl) ev_int opv_I0) ev_int))) (sv_ifretF (ret := Fl.rt) (jr_to jr_ret) (tv_test (ev_op (α := Int) (β := Int) (ev_lenL (ev_var rfl)) ev_int opv_B0)) (sv_ret (ev_some (ev_mkp (ev_op (α := Int) (β := Int) (ev_var rfl) ev_int opv_I0) ev_int))) (sv_append (hO_of _ _ _) rfl (ev_op (α := (L Tx)) (β := Int) (ev_var rfl) ev_int opv_ixL) fun v105 => (sv_nextF (wk_hs (wk_s (wk_s (wk_s (wk_s (wk_s (wk_s (wk_d wk_n)))))))))))) fun b23 => (sv_nextF (wk_hs (wk_s (wk_s (wk_s (wk_d (wk_d (wk_s (wk_d wk_n)))))))))))) (fun b8 => (sv_ret (ev_if (tv_borrow 2 (hO_of _ _ _) rfl fun O => (tv_test (ev_op (α := (L Tx)) (β := (L Tx)) (ev_var rfl) (ev_new (evn_lst evl_nil)) (opv_eqD (α := (L Tx)) (β := (L Tx)))))) (ev_some (ev_mkp (ev_op (α := Int) (β := Int) (ev_lenL (ev_var rfl)) ev_int opv_I0) ev_int)) ev_non))))))⟩
theorem ok__law_spoil (T : Txt G mg) : FnOk P w G.K mg base (L2.CX P w) 2 T._law_spoil.f T._law_spoil.fd ["_law_h", "_law_lines"] (SpS1 G (L Tx) m__law_spoil) :=
  fn_okS T._law_spoil.Fu sc__law_spoil (fun x => [.src, .per x.1, .dead, .dead, .dead, .dead, .dead, .dead]) (fun a vs F ⟨v0, _, e0, r0, ee⟩ => by rw [e0, ee]; rfl) (fun a vs F H N p c hS ⟨v0, _, e0, r0, ee⟩ => by rw [e0, ee]; exact ⟨⟨p, c, rfl, hS⟩, ⟨v0, rfl, r0⟩, trivial, trivial, trivial, trivial, trivial, trivial, trivial⟩) (fun x => (own_c rfl (own_c rfl (own_c rfl (own_c rfl (own_c rfl (own_c rfl (own_c rfl (own_c rfl own_n))))))))) fun cdv A outer s H F p c E hr =>
  ⟨_, (pss_cons (ps_set (i := 2) sc__law_spoil.nd rfl (Or.inl rfl) (pe_call (ok__law_next T) (hr.mono (by decide)) (by rfl) T._law_next.g T._law_next.Fu.kp T._law_next.b .nil (passes_call (takes_of rfl rfl rfl rfl) (fun _ _ _ _ h => h)) (pa_cons (pv 0) (pa_cons (pe_callB call_len_seq (by rfl) T.z_len PySem.boot_len (pa_cons (pv 1) pa_nil)) pa_nil)))) (pss_cons (ps_set (i := 3) sc__law_spoil.nd rfl (Or.inl rfl) (pe_call (ok__law_next T) (hr.mono (by decide)) (by rfl) T._law_next.g T._law_next.Fu.kp T._law_next.b .nil (passes_call (takes_of rfl rfl rfl rfl) (fun _ _ _ _ h => h)) (pa_cons (pv 0) (pa_cons pe_int pa_nil)))) (pss_cons (ps_if (pt_cmpR op_eq (pv 3) pe_int (nomark _)) (pss_cons (ps_ret (pe_ifExp (pt_cmpR op_gt (pe_callB call_len_seq (by rfl) T.z_len PySem.boot_len (pa_cons (pv 1) pa_nil)) pe_int (nomark _)) (pe_op TyL.op_catL (pe_slice sl_list (pv 1) po_none (po_some (pv 2))) (pe_slice sl_list (pv 1) (po_some (pe_op op_add (pv 2) pe_int)) po_none)) (pv 1))) pss_nil) pss_nil) (pss_cons (ps_if (pt_cmpR op_eq (pv 3) pe_int (nomark _)) (pss_cons (ps_ret (pe_op TyL.op_catL (pe_op TyL.op_catL (pe_slice sl_list (pv 1) po_none (po_some (pv 2))) (pe_slice sl_list (pv 1) (po_some (pv 2)) (po_some (pe_op op_add (pv 2) pe_int)))) (pe_slice sl_list (pv 1) (po_some (pv 2)) po_none))) pss_nil) pss_nil) (pss_cons (ps_if (pt_cmpR op_eq (pv 3) pe_int (nomark _)) (pss_cons (ps_ret (pe_op TyL.op_catL (pe_slice sl_list (pv 1) (po_some (pv 2)) po_none) (pe_slice sl_list (pv 1) po_none (po_some (pv 2))))) pss_nil) pss_nil) (pss_cons (ps_set (i := 4) sc__law_spoil.nd rfl (Or.inl rfl) (pe_split (pe_ix ix_list (pv 1) (pv 2) (fun _ _ => rfl)) pe_str)) (pss_cons (ps_set (i := 5) sc__law_spoil.nd rfl (Or.inl rfl) (pe_call (ok__law_next T) (hr.mono (by decide)) (by rfl) T._law_next.g T._law_next.Fu.kp T._law_next.b .nil (passes_call (takes_of rfl rfl rfl rfl) (fun _ _ _ _ h => h)) (pa_cons (pv 0) (pa_cons (pe_op op_add (pe_callB call_len_seq (by rfl) T.z_len PySem.boot_len (pa_cons (pv 4) pa_nil)) pe_int) pa_nil)))) (pss_cons (ps_if (pt_cmpR op_eq (pv 3) pe_int (nomark _)) (pss_cons (ps_ret (pe_op TyL.op_catL (pe_op TyL.op_catL (pe_slice sl_list (pv 1) po_none (po_some (pv 2))) (pe_lst (pa_cons (pe_join pe_str (pe_slice sl_list (pv 4) po_none (po_some (pv 5)))) pa_nil))) (pe_slice sl_list (pv 1) (po_some (pe_op op_add (pv 2) pe_int)) po_none))) pss_nil) pss_nil) (pss_cons (ps_set (i := 6) sc__law_spoil.nd rfl (Or.inl rfl) (pe_lst (pa_cons pe_str (pa_cons pe_str (pa_cons pe_str (pa_cons pe_str (pa_cons pe_str (pa_cons pe_str (pa_cons pe_str (pa_cons pe_str (pa_cons pe_str (pa_cons pe_str (pa_cons pe_str (pa_cons pe_str (pa_cons pe_str pa_nil))))))))))))))) (pss_cons (ps_set (i := 7) sc__law_spoil.nd rfl (Or.inl rfl) (pe_op TyL.op_catL (pe_op TyL.op_catL (pe_slice sl_list (pv 4) po_none (po_some (pv 5))) (pe_lst (pa_cons (pe_ix ix_list (pv 6) (pe_call (ok__law_next T) (hr.mono (by decide)) (by rfl) T._law_next.g T._law_next.Fu.kp T._law_next.b .nil (passes_call (takes_of rfl rfl rfl rfl) (fun _ _ _ _ h => h)) (pa_cons (pv 0) (pa_cons (pe_callB call_len_seq (by rfl) T.z_len PySem.boot_len (pa_cons (pv 6) pa_nil)) pa_nil))) (fun _ _ => rfl)) pa_nil))) (pe_slice sl_list (pv 4) (po_some (pe_op op_add (pv 5) (pe_callTy call_int1 (by rfl) T.z_int bt_int (pa_cons (pe_cmpR op_gt (pv 3) pe_int (nomark _)) pa_nil)))) po_none))) (pss_cons (ps_ret (pe_op TyL.op_catL (pe_op TyL.op_catL (pe_slice sl_list (pv 1) po_none (po_some (pv 2))) (pe_lst (pa_cons (pe_join pe_str (pv 7)) pa_nil))) (pe_slice sl_list (pv 1) (po_some (pe_op op_add (pv 2) pe_int)) po_none))) pss_nil))))))))))),
  fun x => (sv_asg (α := Int) (ev_callS1 rfl (ev_lenL (ev_var rfl))) fun v3 => (sv_asg (α := Int) (ev_callS1 rfl ev_int) fun v5 => (sv_ifret jr_ret (tv_test (ev_op (α := Int) (β := Int) (ev_var rfl) ev_int opv_eq)) (sv_ret (ev_if (tv_test (ev_op (α := Int) (β := Int) (ev_lenL (ev_var rfl)) ev_int opv_B0)) (ev_new (evn_catL (ev_new (evn_cutL (ev_var rfl) evo_none (evo_some (ev_var rfl)))) (ev_new (evn_cutL (ev_var rfl) (evo_some (ev_op (α := Int) (β := Int) (ev_var rfl) ev_int opv_I0)) evo_none)))) (ev_var rfl))) (sv_ifret jr_ret (tv_test (ev_op (α := Int) (β := Int) (ev_var rfl) ev_int opv_eq)) (sv_ret (ev_new (evn_catL (ev_new (evn_catL (ev_new (evn_cutL (ev_var rfl) evo_none (evo_some (ev_var rfl)))) (ev_new (evn_cutL (ev_var rfl) (evo_some (ev_var rfl)) (evo_some (ev_op (α := Int) (β := Int) (ev_var rfl) ev_int opv_I0)))))) (ev_new (evn_cutL (ev_var rfl) (evo_some (ev_var rfl)) evo_none))))) (sv_ifret jr_ret (tv_test (ev_op (α := Int) (β := Int) (ev_var rfl) ev_int opv_eq)) (sv_ret (ev_new (evn_catL (ev_new (evn_cutL (ev_var rfl) (evo_some (ev_var rfl)) evo_none)) (ev_new (evn_cutL (ev_var rfl) evo_none (evo_some (ev_var rfl))))))) (sv_asg (α := (L Tx)) (ev_new (evn_split (ev_op (α := (L Tx)) (β := Int) (ev_var rfl) (ev_var rfl) opv_ixL) (ev_str st_3))) fun v65 => (sv_asg (α := Int) (ev_callS1 rfl (ev_op (α := Int) (β := Int) (ev_lenL (ev_var rfl)) ev_int opv_I0)) fun v70 => (sv_ifret jr_ret (tv_test (ev_op (α := Int) (β := Int) (ev_var rfl) ev_int opv_eq)) (sv_ret (ev_new (evn_catL (ev_new (evn_catL (ev_new (evn_cutL (ev_var rfl) evo_none (evo_some (ev_var rfl)))) (ev_new (evn_lst (evl_cons (ev_join (ev_str st_3) (ev_new (evn_cutL (ev_var rfl) evo_none (evo_some (ev_var rfl))))) evl_nil))))) (ev_new (evn_cutL (ev_var rfl) (evo_some (ev_op (α := Int) (β := Int) (ev_var rfl) ev_int opv_I0)) evo_none))))) (sv_asg (α := (L Tx)) (ev_new (evn_lst (evl_cons (ev_str st_8) (evl_cons (ev_str st_17) (evl_cons (ev_str st_16) (evl_cons (ev_str st_15) (evl_cons (ev_str st_14) (evl_cons (ev_str st_13) (evl_cons (ev_str st_12) (evl_cons (ev_str st_7) (evl_cons (ev_str st_6) (evl_cons (ev_str st_11) (evl_cons (ev_str st_5) (evl_cons (ev_str st_10) (evl_cons (ev_str st_9) evl_nil))))))))))))))) fun v124 => (sv_asg (α := (L Tx)) (ev_new (evn_catL (ev_new (evn_catL (ev_new (evn_cutL (ev_var rfl) evo_none (evo_some (ev_var rfl)))) (ev_new (evn_lst (evl_cons (ev_op (α := (L Tx)) (β := Int) (ev_var rfl) (ev_callS1 rfl (ev_lenL (ev_var rfl))) opv_ixL) evl_nil))))) (ev_new (evn_cutL (ev_var rfl) (evo_some (ev_op (α := Int) (β := Int) (ev_var rfl) (ev_intB (ev_op (α := Int) (β := Int) (ev_var rfl) ev_int opv_B0)) opv_I0)) evo_none)))) fun v150 => (sv_ret (ev_new (evn_catL (ev_new (evn_catL (ev_new (evn_cutL (ev_var rfl) evo_none (evo_some (ev_var rfl)))) (ev_new (evn_lst (evl_cons (ev_join (ev_str st_3) (ev_var rfl)) evl_nil))))) (ev_new (evn_cutL (ev_var rfl) (evo_some (ev_op (α := Int) (β := Int) (ev_var rfl) ev_int opv_I0)) evo_none)))))))))))))))⟩
theorem ok__law_told (T : Txt G mg) : FnOk P w G.K mg base (L2.CX P w) 7 T._law_told.f T._law_told.fd ["_law_string"] (SpF1 G Tx m__law_told) :=
  fn_ok T._law_told.Fu sc__law_told (fun x => [.per x.1, .dead, .dead]) (fun a vs F ⟨v0, _, e0, r0, ee⟩ => by rw [e0, ee]; rfl) (fun a vs F H N ⟨v0, _, e0, r0, ee⟩ => by rw [e0, ee]; exact ⟨⟨v0, rfl, r0⟩, trivial, trivial, trivial⟩) (fun x => (own_c rfl (own_c rfl (own_c rfl own_n)))) fun cdv A outer s H F E hr =>
  ⟨_, (pss_cons (ps_set (i := 1) sc__law_told.nd rfl (Or.inl rfl) pe_non) (pss_cons (ps_try_as (i := 2) (tb := fun W => tSeq (tDrop (tCallSD (SpF1 G Tx m_read_code) [] (WE W) (tCons (tVar 0) tNil))) tNext) (Wout := fun cl d _ H => E cl d H) rfl rfl sc__law_told.nd rfl rfl ⟨rfl, by decide, .inl T.x_InvalidText.g⟩ (takes_of rfl rfl rfl rfl) (fun W pn xe tk _ => pss_cons (ps_expr (pe_callSD (ok_read_code T) (hr.mono (by decide)) (by rfl) T.read_code.g T.read_code.Fu.kp T.read_code.b .nil (fun σ => passAt tk σ) (pa_cons (pv 0) pa_nil))) pss_nil) (fun a oe cls d pn hz hf => (pss_cons (ps_set (i := 1) sc__law_told.nd rfl (Or.inl rfl) (pe_tup (pa_cons (pe_xf T.x_InvalidText.xf T.x_InvalidText.n1 hz hf (pv 2)) (pa_cons (pe_xf T.x_InvalidText.xf T.x_InvalidText.n2 hz hf (pv 2)) pa_nil)))) pss_nil))) (pss_cons (ps_ret (pv 1)) pss_nil))),
  fun x => (sv_asg (α := PyData) ev_nonD fun v1 => (sv_tryas (i := 2) (te := (fun E1 => tCall (SpF1 G Tx m_read_code) [] E1 (tCons (tVar 0) tNil))) (c := "InvalidText") (known := ["InvalidText"]) (p := fun (e4 : Exc) => ((((argX e4.args 1) >>= fun (a5 : PyData) => (argX e4.args 0) >>= fun (a6 : PyData) => Prog.ok (a5, a6)) >>= fun a => Prog.ok (enc a)) >>= fun (v7 : PyData) => (Prog.ok v7 : Prog (PyData)))) (Γi := fun (b2 : (PyData)) => [@Ent.per G Tx _ x.1, @Ent.per G PyData _ b2, .dead]) (b0 := v1) ⟨trivial, ⟨trivial, ⟨trivial, trivial⟩⟩⟩ (by decide) (fun N1 hN => ev_call1 (ev_var rfl)) (wk_hs (wk_s (wk_s (wk_d wk_n)))) (fun _ => rfl) (fun e4 he ha => by simp only [ha]; rfl) (fun a dd e4 he => (sv_asg (α := PyData) (ev_dat (ev_mkp (ev_xf (x := ⟨a, dd, "InvalidText", e4.args⟩) 1 rfl rfl rfl) (ev_xf (x := ⟨a, dd, "InvalidText", e4.args⟩) 0 rfl rfl rfl))) fun v7 => (sv_next (wk_hs (wk_s (wk_s (wk_d wk_n))))))) (fun y hy => by rcases hy with hy | hy; (· subst hy; exact T.xm_InvalidText_InvalidText); (· simp only [List.mem_cons, List.not_mem_nil, or_false] at hy; rcases hy with rfl; exact T.xm_InvalidText_InvalidText)) fun b2 => (sv_ret (ev_var rfl))))⟩
theorem ps_law (T : Txt G mg) (cdv : Value) (A : Around) (outer : List PySem.Env) (s : Shared) (H : Hp) (E : XK) (hr : Room 7 (A.deeper (envOfC "law" (defScope s_law) s.heap.objs.size T.law.f cdv))) : ∃ t, PSs (cxOf (L2.CX P w) P w G.K mg base Ns_law "law" (defScope s_law) T.law.f cdv A outer s H E) ((defBody s_law).drop 1) t ∧ ∀ F H1 p c, SV (.src F H1 p c E) ([.dead, .src, .dead, .dead, .dead, .dead] : Env G) t (JR G (.src F H1 p c E)) m_law :=
  ⟨_, (pss_cons (ps_set (i := 2) sc_law.nd rfl (Or.inl rfl) (pe_call (ok__law_code T) (hr.mono (by decide)) (by rfl) T._law_code.g T._law_code.Fu.kp T._law_code.b .nil (passes_call (takes_of rfl rfl rfl rfl) (fun _ _ _ _ h => h)) (pa_cons (pv 1) (pa_cons pe_int pa_nil)))) (pss_cons (ps_set (i := 3) sc_law.nd rfl (Or.inl rfl) (pe_split (pe_call (ok_write_code T) (hr.mono (by decide)) (by rfl) T.write_code.g T.write_code.Fu.kp T.write_code.b .nil (passes_call (takes_of rfl rfl rfl rfl) (fun _ _ _ _ h => h)) (pa_cons (pe_call (ok__law_built T) (hr.mono (by decide)) (by rfl) T._law_built.g T._law_built.Fu.kp T._law_built.b .nil (passes_call (takes_of rfl rfl rfl rfl) (fun _ _ _ _ h => h)) (pa_cons (pv 2) pa_nil)) pa_nil)) pe_str)) (pss_cons (ps_for (passes_of rfl) rfl (pi_range1 (by rfl) T.z_range (pa_cons (pe_call (ok__law_next T) (hr.mono (by decide)) (by rfl) T._law_next.g T._law_next.Fu.kp T._law_next.b .nil (passes_call (takes_of rfl rfl rfl rfl) (fun _ _ _ _ h => h)) (pa_cons (pv 1) (pa_cons pe_int pa_nil))) pa_nil)) (pg_name (i := 4) sc_law.nd rfl (Or.inl rfl)) (pss_cons (ps_set (i := 3) sc_law.nd rfl (Or.inl rfl) (pe_call (ok__law_spoil T) (hr.mono (by decide)) (by rfl) T._law_spoil.g T._law_spoil.Fu.kp T._law_spoil.b .nil (passes_call (takes_of rfl rfl rfl rfl) (fun _ _ _ _ h => h)) (pa_cons (pv 1) (pa_cons (pv 3) pa_nil)))) pss_nil)) (pss_cons (ps_set (i := 5) sc_law.nd rfl (Or.inl rfl) (pe_join pe_str (pv 3))) (pss_cons (ps_if (pt_cmpR (op_neD hr.units) (pe_call (ok__law_told T) (hr.mono (by decide)) (by rfl) T._law_told.g T._law_told.Fu.kp T._law_told.b .nil (passes_call (takes_of rfl rfl rfl rfl) (fun _ _ _ _ h => h)) (pa_cons (pv 5) pa_nil)) (pe_call (ok__law_due T) (hr.mono (by decide)) (by rfl) T._law_due.g T._law_due.Fu.kp T._law_due.b .nil (passes_call (takes_of rfl rfl rfl rfl) (fun _ _ _ _ h => h)) (pa_cons (pv 5) pa_nil)) (nomark _)) (pss_cons (ps_ret pe_bl) pss_nil) pss_nil) (pss_cons (ps_if (pt_cmpR (op_neD hr.units) (pe_call (ok__law_told T) (hr.mono (by decide)) (by rfl) T._law_told.g T._law_told.Fu.kp T._law_told.b .nil (passes_call (takes_of rfl rfl rfl rfl) (fun _ _ _ _ h => h)) (pa_cons pe_str pa_nil)) (pe_tup (pa_cons pe_int (pa_cons pe_int pa_nil))) (nomark _)) (pss_cons (ps_ret pe_bl) pss_nil) pss_nil) (pss_cons (ps_ret (pe_and (pe_cmpR (op_eqD hr.units) (pe_call (ok__law_told T) (hr.mono (by decide)) (by rfl) T._law_told.g T._law_told.Fu.kp T._law_told.b .nil (passes_call (takes_of rfl rfl rfl rfl) (fun _ _ _ _ h => h)) (pa_cons pe_str pa_nil)) (pe_tup (pa_cons pe_int (pa_cons pe_int pa_nil))) (nomark _)) (pe_one (pe_cmpR (op_eqD hr.units) (pe_call (ok__law_told T) (hr.mono (by decide)) (by rfl) T._law_told.g T._law_told.Fu.kp T._law_told.b .nil (passes_call (takes_of rfl rfl rfl rfl) (fun _ _ _ _ h => h)) (pa_cons pe_str pa_nil)) (pe_tup (pa_cons pe_int (pa_cons pe_int pa_nil))) (nomark _))))) pss_nil))))))),
  fun F H1 p c => (sv_asg (α := (L2v Int (List Tx))) (ev_callS1 rfl ev_int) fun v2 => (sv_asg (α := (L Tx)) (ev_new (evn_split (ev_call1 (ev_call1 (ev_var rfl))) (ev_str st_1))) fun v7 => (sv_for (Γi := fun (b10 : ((L Tx))) => [.dead, .src, @Ent.per G (L2v Int (List Tx)) _ v2, @Ent.per G (L Tx) _ b10, .dead, .dead]) (b0 := v7) (evi_rng1 (ev_callS1 rfl ev_int)) (wk_hs (wk_d (wk_s (wk_s (wk_s (wk_d (wk_d wk_n))))))) (fun _ => trivial) (fun b10 a11 => gv_name) (fun b10 a11 => (sv_asg (α := (L Tx)) (ev_callS1 rfl (ev_var rfl)) fun v13 => (sv_next (wk_hs (wk_d (wk_s (wk_s (wk_s (wk_d (wk_d wk_n)))))))))) (fun b10 => (sv_asg (α := Tx) (ev_join (ev_str st_1) (ev_var rfl)) fun v16 => (sv_ifret jr_ret (tv_test (ev_op (α := PyData) (β := (Option (Int × Int))) (ev_call1 (ev_var rfl)) (ev_call1 (ev_var rfl)) (opv_neD (α := PyData) (β := (Option (Int × Int)))))) (sv_ret ev_bl) (sv_ifret jr_ret (tv_test (ev_op (α := PyData) (β := (Int × Int)) (ev_call1 (ev_str st_18)) (ev_mkp ev_int ev_int) (opv_neD (α := PyData) (β := (Int × Int))))) (sv_ret ev_bl) (sv_ret (ev_and (ev_op (α := PyData) (β := (Int × Int)) (ev_call1 (ev_str st_4)) (ev_mkp ev_int ev_int) (opv_eqD (α := PyData) (β := (Int × Int)))) (ev_op (α := PyData) (β := (Int × Int)) (ev_call1 (ev_str st_19)) (ev_mkp ev_int ev_int) (opv_eqD (α := PyData) (β := (Int × Int)))))))))))))⟩
theorem ok_law (T : Txt G mg) (hm : wp m_law (fun b => b = true) (fun _ => False)) : FnOk P w G.K mg base (L2.CX P w) 8 T.law.f T.law.fd ["_law_script"] (SpLaw G.K) :=
  T.law.Fu.okX sc_law (fun vs H Q E ⟨a, ns, e, _⟩ => by rw [e]; rfl) fun cdv A outer s H vs Q E hr ⟨a, ns, e, hS, hlen, q⟩ => by
    subst e
    obtain ⟨t, hp, hv⟩ := ps_law (P := P) (w := w) (base := base) T cdv A outer s H E hr
    refine ⟨_, pss_cons (ps_set (i := 1) sc_law.nd rfl (Or.inl rfl) (pe_call (ok__law_mix T) (hr.mono (by decide)) (by rfl) T._law_mix.g T._law_mix.Fu.kp T._law_mix.b .nil (passes_call (takes_of rfl rfl rfl rfl) (fun _ _ _ _ h => h)) (pa_cons (pv 0) (pa_cons pe_int pa_nil)))) hp, ?_⟩
    refine ⟨.ref a, rfl, a, ns, 15, rfl, hS, by omega, fun H' p c st sm dm h1 h2 ne e1 e2 => ?_⟩
    exact hv (fun _ => none) H' p c _ (fun _ => none) H' _ (hs_law e1 e2 ne (by omega) (fun N hS => ⟨trivial, ⟨p, c, rfl, hS⟩, trivial, trivial, trivial, trivial, trivial⟩) (own_c rfl (own_c rfl (own_c rfl (own_c rfl (own_c rfl (own_c rfl own_n))))))) (wp_imp hm (fun b hb v F' H2 w' r => by
      subst hb
      have r' : Dq G.K F' v (.bool true) := r
      cases r'
      exact q H2) fun e he => he.elim)
end
end K15

namespace K15
open PySem PySem.Spec PyProof.Rows L2 Ty
open Enc (enc)
theorem sumLen_one : ∀ {xs : List Tx}, (∀ x ∈ xs, x.length = 1) → sumLen xs = xs.length
  | [], _ => rfl
  | x :: xs, h => by
    have ih := sumLen_one fun y m => h y (List.mem_cons_of_mem _ m)
    unfold sumLen at ih ⊢
    rw [List.map_cons, List.sum_cons, ih, h x List.mem_cons_self, List.length_cons]
    omega
theorem join_nil : ∀ {xs : List Tx}, joinT [] xs = xs.flatten
  | [] => rfl
  | [x] => by simp [joinT, TL.joinL]
  | x :: y :: r => by
    have ih := join_nil (xs := y :: r)
    unfold joinT at ih ⊢
    simp only [TL.joinL, List.flatten_cons] at ih ⊢
    rw [ih]
    simp
theorem wp_word {many high : Int} (hm : many = 2 ∨ many = 3) (hh : high = 3 ∨ high = 4) : wp (m__law_word many high) (Word many) (fun _ => False) := by
  simp only [m__law_word, m__law_next, ok_bind, bind_bind, draw_bind, chk_bind]
  refine ⟨by omega, by omega, fun i h0 h1 => ?_⟩
  refine wp_chk_of (decide_eq_true (by omega)) ?_
  have hr : (rng 0 (1 + i)).length = (1 + i).toNat := by simp [rng]
  refine wp_chk_of (small_of (by rw [hr]; omega)) ?_
  refine wp_bind.2 (wp_mono (wp_noerr_of (wp_mapP (Q := fun _ y => ∃ c, y = [c] ∧ Lett many c) fun a _ => ⟨by omega, by omega, fun j j0 j1 => ?_⟩)) fun (ys : List Tx) hy => ?_)
  · have : j = 0 ∨ j = 1 ∨ (j = 2 ∧ many = 3) := by omega
    rcases this with e | e | ⟨e, e2⟩
    · subst e; exact ⟨97, rfl, .inl rfl⟩
    · subst e; exact ⟨98, rfl, .inr (.inl rfl)⟩
    · subst e; exact ⟨99, rfl, .inr (.inr ⟨rfl, e2⟩)⟩
  · obtain ⟨hl, hy⟩ := hy
    have h1' : ∀ y ∈ ys, y.length = 1 := fun y m => by
      obtain ⟨_, _, c, e, _⟩ := hy y m
      rw [e]; rfl
    have hs := sumLen_one h1'
    refine wp_chk_of (small_of ?_) ?_
    · show sumLen ys + ys.length * 0 ≤ _
      rw [hs, hl, hr]; omega
    · show Word many (joinT [] ys)
      rw [join_nil]
      have hlen : ys.flatten.length = ys.length := by
        rw [List.length_flatten]; exact hs
      refine ⟨fun c m => ?_, by rw [hlen, hl, hr]; omega, by rw [hlen, hl, hr]; omega⟩
      obtain ⟨y, my, mc⟩ := List.mem_flatten.1 m
      obtain ⟨_, _, d, e, hd⟩ := hy y my
      rw [e] at mc
      rw [List.mem_singleton.1 mc]
      exact hd

theorem okT_of {w : Tx} (h : ∀ c ∈ w, c < 1000) : okT w := by
  show (Array.all w.toArray (· < 0x110000)) = true
  rw [List.all_toArray, List.all_eq_true]
  intro c hc
  have := h c hc
  exact decide_eq_true (by omega)
theorem lett_lt {many : Int} {c : Nat} (h : Lett many c) : c < 1000 := by
  rcases h with h | h | h <;> omega
theorem word_okT {many : Int} {w : Tx} (h : Word many w) : okT w := okT_of fun c m => lett_lt (h.1 c m)
/-- the tree's leaves, while it grows -/
structure Leaf (many : Int) (l : List Tx) : Prop where
  ne : 1 ≤ l.length
  l6 : l.length ≤ 6
  ap : l.Pairwise Apart
  w : ∀ w ∈ l, (∀ c ∈ w, Lett many c) ∧ w.length ≤ 4
/-- the words so far -/
structure Ws (many : Int) (l : List Tx) : Prop where
  l6 : l.length ≤ 6
  nd : l.Nodup
  w : ∀ w ∈ l, Word many w
def kids (many : Int) (x : Tx) : List Tx := (signs (cut [97, 98, 99] none (some many))).map fun s => x ++ s
theorem kids_eq {many : Int} (hm : many = 2 ∨ many = 3) (x : Tx) : kids many x = if many = 3 then [x ++ [97], x ++ [98], x ++ [99]] else [x ++ [97], x ++ [98]] := by
  rcases hm with e | e <;> subst e <;> rfl
theorem leaf_grow {many : Int} (hm : many = 2 ∨ many = 3) {l : List Tx} (h : Leaf many l) {k : Nat} {x : Tx} (hk : l[k]? = some x) (hx : x.length < 4) (hl : l.length + many.toNat - 1 ≤ 6) : Leaf many (l.take k ++ kids many x ++ l.drop (k + 1)) := by
  obtain ⟨hlt, hg⟩ := List.getElem?_eq_some_iff.1 hk
  have e0 : l = l.take k ++ x :: l.drop (k + 1) := by
    rw [← hg, List.getElem_cons_drop, List.take_append_drop]
  have hxm : x ∈ l := by rw [← hg]; exact List.getElem_mem hlt
  have wx := h.w x hxm
  have hkid : (kids many x).length = many.toNat := by
    rw [kids_eq hm]
    rcases hm with e | e <;> subst e <;> rfl
  have kmem : ∀ y ∈ kids many x, ∃ c, Lett many c ∧ y = x ++ [c] := fun y my => by
    rw [kids_eq hm] at my
    rcases hm with e | e
    · subst e
      have : y = x ++ [97] ∨ y = x ++ [98] := by simpa using my
      rcases this with r | r
      · exact ⟨97, .inl rfl, r⟩
      · exact ⟨98, .inr (.inl rfl), r⟩
    · subst e
      have : y = x ++ [97] ∨ y = x ++ [98] ∨ y = x ++ [99] := by simpa using my
      rcases this with r | r | r
      · exact ⟨97, .inl rfl, r⟩
      · exact ⟨98, .inr (.inl rfl), r⟩
      · exact ⟨99, .inr (.inr ⟨rfl, rfl⟩), r⟩
  have kap : (kids many x).Pairwise Apart := by
    rw [kids_eq hm]
    rcases hm with e | e
    · subst e
      refine List.pairwise_cons.2 ⟨fun y my => ?_, List.pairwise_singleton _ _⟩
      rw [List.mem_singleton.1 my]
      exact apart_sibs (by decide)
    · subst e
      refine List.pairwise_cons.2 ⟨fun y my => ?_, List.pairwise_cons.2 ⟨fun y my => ?_, List.pairwise_singleton _ _⟩⟩
      · have : y = x ++ [98] ∨ y = x ++ [99] := by simpa using my
        rcases this with r | r <;> rw [r] <;> exact apart_sibs (by decide)
      · rw [List.mem_singleton.1 my]
        exact apart_sibs (by decide)
  have hlen : (l.take k ++ kids many x ++ l.drop (k + 1)).length = l.length + many.toNat - 1 := by
    rw [List.length_append, List.length_append, List.length_take, List.length_drop, hkid]
    omega
  refine ⟨by rw [hlen]; have := h.ne; rcases hm with e | e <;> subst e <;> simp <;> omega, by rw [hlen]; exact hl, pairwise_split (by rw [← e0]; exact h.ap) kap fun y my z a => ?_, fun y my => ?_⟩
  · obtain ⟨c, _, r⟩ := kmem y my
    rw [r]
    exact apart_grow a
  · rcases List.mem_append.1 my with q | q
    · rcases List.mem_append.1 q with q | q
      · exact h.w y (List.mem_of_mem_take q)
      · obtain ⟨c, hc, r⟩ := kmem y q
        subst r
        refine ⟨fun d md => ?_, by rw [List.length_append]; simp; omega⟩
        rcases List.mem_append.1 md with z | z
        · exact wx.1 d z
        · rw [List.mem_singleton.1 z]; exact hc
    · exact h.w y (List.mem_of_mem_drop q)
theorem ws_of_leaf {many : Int} {l : List Tx} (h : Leaf many l) : Ws many ((l.filter fun a => !decide (a = [])).map id) := by
  rw [List.map_id]
  refine ⟨Nat.le_trans (List.length_filter_le _ _) h.l6, (nodup_of_apart h.ap).filter _, fun w m => ?_⟩
  obtain ⟨m1, m2⟩ := List.mem_filter.1 m
  have x := h.w w m1
  refine ⟨x.1, ?_, x.2⟩
  cases w with
  | nil => simp at m2
  | cons c w => simp
theorem ws_rev {many : Int} {l : List Tx} (h : Ws many l) : Ws many (l.map List.reverse) := by
  refine ⟨by rw [List.length_map]; exact h.l6, ?_, fun w m => ?_⟩
  · exact List.Pairwise.map _ (fun a b (n : a ≠ b) => fun e => n (List.reverse_inj.1 e)) h.nd
  · obtain ⟨v, mv, rfl⟩ := List.mem_map.1 m
    have x := h.w v mv
    exact ⟨fun c mc => x.1 c (List.mem_reverse.1 mc), by rw [List.length_reverse]; exact x.2.1, by rw [List.length_reverse]; exact x.2.2⟩
theorem ws_insert {many : Int} {l : List Tx} {w : Tx} (h : Ws many l) (hw : Word many w) (hn : w ∉ l) (hl : l.length < 6) (k : Nat) : Ws many (l.take k ++ [w] ++ l.drop k) := by
  have p : (l.take k ++ [w] ++ l.drop k).Perm (w :: l) := by
    have : (l.take k ++ [w] ++ l.drop k) = l.take k ++ w :: l.drop k := by simp
    rw [this]
    have q := List.perm_middle (a := w) (l₁ := l.take k) (l₂ := l.drop k)
    rwa [List.take_append_drop] at q
  refine ⟨by rw [p.length_eq]; simp; omega, p.nodup_iff.2 (List.nodup_cons.2 ⟨hn, h.nd⟩), fun v m => ?_⟩
  rcases List.mem_cons.1 (p.mem_iff.1 m) with e | e
  · rw [e]; exact hw
  · exact h.w v e
theorem ws_erase {many : Int} {l : List Tx} (h : Ws many l) (k : Nat) : Ws many (l.eraseIdx k) := by
  have s := List.eraseIdx_sublist l k
  exact ⟨Nat.le_trans s.length_le h.l6, h.nd.sublist s, fun v m => h.w v (s.subset m)⟩

theorem wp_code {high : Int} (hh : 1 ≤ high) (hh6 : high ≤ 6) : wp (m__law_code high) (fun t => Cd t.a t.b) (fun _ => False) := by
  unfold m__law_code
  simp only [m__law_next, L, un, ok_bind, bind_bind, draw_bind, chk_bind, List.length_nil, Nat.zero_le, if_true, List.length_singleton, bind_ok']
  refine ⟨by omega, by omega, fun i0 a0 b0 => ?_⟩
  dsimp only
  obtain ⟨many, hmany⟩ : ∃ many : Int, 2 + (if decide (i0 = 0) = true then (1 : Int) else 0) = many := ⟨_, rfl⟩
  have hm : many = 2 ∨ many = 3 := by
    by_cases h : i0 = 0
    · rw [← hmany, if_pos (decide_eq_true h)]; right; rfl
    · rw [← hmany, if_neg (by simpa using h)]; left; rfl
  rw [hmany]
  refine ⟨by omega, by omega, fun i1 a1 b1 => ?_⟩
  dsimp only
  refine wp_bind.2 (wp_mono (P := Ws many) ?_ fun ws hws => ?_)
  · by_cases h1 : i1 = 0
    · rw [if_pos (decide_eq_true h1), if_pos (by decide)]
      simp only [ok_bind]
      refine ⟨by omega, by omega, fun i2 a2 b2 => ?_⟩
      refine wp_chk_of (decide_eq_true (by omega)) (wp_bind.2 (wp_mono (wp_foldP (Inv := Leaf many) ?_ fun l k mk hl => ?_) fun l hl => ?_))
      · exact ⟨by simp, by simp, List.pairwise_singleton _ _, fun w m => by rw [List.mem_singleton.1 m]; exact ⟨fun c mc => (by cases mc), by simp⟩⟩
      · -- one turn of the tree's growth
        refine ⟨by have := hl.ne; omega, by have := hl.l6; omega, fun j j0 j1 => ?_⟩
        obtain ⟨x, hx, mx, hg⟩ := getI_ex j0 j1
        dsimp only
        rw [hg]
        simp only [ok_bind]
        have wx := hl.w x mx
        refine wp_chk_of (small_of (by omega)) ?_
        by_cases hc : x.length < 4 ∧ (l.length : Int) + many - 1 ≤ 6
        · rw [if_pos (decide_eq_true (by omega)), ok_bind, if_pos (decide_eq_true hc.2)]
          refine wp_chk_of (by decide) (wp_chk_of ?_ ?_)
          · rcases hm with e | e <;> subst e <;> decide
          · have em : mapP (fun a51 => chk (small (x.length + List.length a51)) (Prog.ok (x ++ a51))) (Ty.signs (cut [97, 98, 99] none (some many))) = .ok (kids many x) := by
              refine mapP_ok (g := fun s => x ++ s) fun a ma => ?_
              have : a.length = 1 := by
                unfold Ty.signs at ma
                obtain ⟨c, _, rfl⟩ := List.mem_map.1 ma
                rfl
              rw [small_of (by omega)]
              rfl
            rw [em]
            simp only [ok_bind]
            rw [cut_to j0, cut_from (show (0 : Int) ≤ j + 1 by omega)]
            have et : (j + 1).toNat = j.toNat + 1 := by omega
            rw [et]
            have hg2 := leaf_grow hm hl hx hc.1 (by rcases hm with e | e <;> subst e <;> simp at hc ⊢ <;> omega)
            have l6 := hg2.l6
            rw [List.length_append, List.length_append] at l6
            refine wp_chk_of (small_of (by omega)) (wp_chk_of (small_of (by rw [List.length_append]; omega)) ?_)
            exact hg2
        · have : wp (if decide ((x.length : Int) < 4) = true then Prog.ok (decide ((l.length : Int) + many - 1 ≤ 6)) else Prog.ok false) (fun b => b = false) (fun _ => False) := by
            by_cases h4 : (x.length : Int) < 4
            · rw [if_pos (decide_eq_true h4)]
              exact decide_eq_false fun h6 => hc ⟨by omega, h6⟩
            · rw [if_neg (by simpa using h4)]; rfl
          refine wp_bind.2 (wp_mono this fun b hb => ?_)
          subst hb
          rw [if_neg Bool.false_ne_true]
          exact hl
      · have l6 := hl.l6
        refine wp_chk_of (small_of (by omega)) ?_
        refine wp_bind.2 (wp_eq_ok (compP_ok (p := fun a => !decide (a = [])) (g := id) (fun a _ => rfl) (fun a _ => rfl)) ?_)
        have hw := ws_of_leaf hl
        refine ⟨by omega, by omega, fun j j0 j1 => ?_⟩
        dsimp only
        by_cases hj : j = 0
        · rw [if_pos (decide_eq_true hj)]
          refine wp_chk_of (small_of (by have := hw.l6; omega)) ?_
          rw [mapP_ok (g := List.reverse) fun a ma => by rw [small_of (by have := (hw.w a ma).2.2; omega)]; rfl]
          exact ws_rev hw
        · rw [if_neg (by simpa using hj)]
          exact hw
    · rw [if_neg (by simpa using h1)]
      exact ⟨by simp, List.Pairwise.nil, fun w m => by cases m⟩
  · refine ⟨by omega, by omega, fun i2 a2 b2 => ?_⟩
    dsimp only
    refine wp_bind.2 (wp_eq_ok (eqL_tx (fun w m => word_okT (hws.w w m)) (fun w m => (by cases m))) ?_)
    obtain ⟨n, hn⟩ : ∃ n : Int, i2 + (if decide (ws = []) = true then (1 : Int) else 0) = n := ⟨_, rfl⟩
    have hn2 : 0 ≤ n ∧ n ≤ 7 ∧ (ws = [] → 1 ≤ n) := by
      by_cases h : ws = []
      · rw [if_pos (decide_eq_true h)] at hn
        exact ⟨by omega, by omega, fun _ => by omega⟩
      · rw [if_neg (by simpa using h)] at hn
        exact ⟨by omega, by omega, fun z => absurd z h⟩
    rw [hn]
    refine wp_chk_of (decide_eq_true (by omega)) ?_
    have lr : (rng 0 n).length = n.toNat := by simp [rng]
    refine wp_bind.2 (wp_mono (wp_foldP' (Inv := fun r l => Ws many l ∧ (l = [] → r ≠ [])) ⟨hws, fun z e => ?_⟩ fun l k r hl => ?_) fun l hl => ?_)
    · have := hn2.2.2 z
      rw [e] at lr
      simp at lr
      omega
    · obtain ⟨hl, _⟩ := hl
      refine ⟨by omega, by omega, fun j j0 j1 => ?_⟩
      dsimp only
      have t4 : wp (if decide (j = 0) = true then (Prog.ok (4 : Int)) else Prog.ok 3) (fun a => a = 3 ∨ a = 4) (fun _ => False) := by
        by_cases h : j = 0
        · rw [if_pos (decide_eq_true h)]; exact .inr rfl
        · rw [if_neg (by simpa using h)]; exact .inl rfl
      refine wp_bind.2 (wp_mono t4 fun a ha => wp_bind.2 (wp_mono (wp_word hm ha) fun v hv => ?_))
      by_cases hin : v ∉ l ∧ l.length < 6
      · have e1 : (!memB v l) = true := by unfold memB; simp [hin.1]
        rw [if_pos e1, ok_bind, if_pos (decide_eq_true (by omega))]
        refine ⟨by omega, by have := hl.l6; omega, fun q q0 q1 => ?_⟩
        refine wp_chk_of ?_ ⟨ws_insert hl hv hin.1 hin.2 _, fun z => by simp at z⟩
        have := hl.l6
        rw [small_of (by omega), decide_eq_true q0]
        exact decide_eq_true (by omega)
      · have : wp (if (!memB v l) = true then Prog.ok (decide ((l.length : Int) < 6)) else Prog.ok false) (fun b => b = false) (fun _ => False) := by
          by_cases h4 : v ∈ l
          · have e1 : ¬ (!memB v l) = true := by unfold memB; simp [h4]
            rw [if_neg e1]; rfl
          · have e1 : (!memB v l) = true := by unfold memB; simp [h4]
            rw [if_pos e1]
            exact decide_eq_false fun h6 => hin ⟨h4, by omega⟩
        refine wp_bind.2 (wp_mono this fun b hb => ?_)
        subst hb
        rw [if_neg Bool.false_ne_true]
        refine ⟨hl, fun z => absurd ⟨?_, ?_⟩ hin⟩
        · rw [z]; simp
        · rw [z]; simp
    · obtain ⟨hl, he⟩ := hl
      have hne : l ≠ [] := fun z => he z rfl
      have hl1 : 1 ≤ l.length := by
        cases l with
        | nil => exact absurd rfl hne
        | cons _ _ => simp
      have t2 : wp (if decide ((2 : Int) < l.length) = true then Prog.draw 2 fun a2 => Prog.ok (decide (a2 = 0)) else Prog.ok false) (fun b => b = true → 2 < l.length) (fun _ => False) := by
        by_cases h : (2 : Int) < l.length
        · rw [if_pos (decide_eq_true h)]
          exact ⟨by omega, by omega, fun i _ _ _ => by omega⟩
        · rw [if_neg (by simpa using h)]
          exact fun z => by cases z
      refine wp_bind.2 (wp_mono t2 fun b hb => wp_bind.2 (wp_mono (P := fun l' => Ws many l' ∧ 1 ≤ l'.length) ?_ fun l' hl' => ?_))
      · cases b with
        | true =>
          have h2 := hb rfl
          have l6 := hl.l6
          rw [if_pos rfl]
          refine ⟨by omega, by omega, fun q q0 q1 => wp_chk_of ?_ ⟨ws_erase hl _, ?_⟩⟩
          · rw [decide_eq_true q0, decide_eq_true q1]
            exact decide_eq_true (by omega)
          · have hq : q.toNat < l.length := by omega
            rw [List.length_eraseIdx_of_lt hq]
            omega
        | false =>
          rw [if_neg Bool.false_ne_true]
          exact ⟨hl, hl1⟩
      · exact ⟨hm, hl'.2, hl'.1.l6, hl'.1.nd, hl'.1.w⟩
end K15

namespace K15
open PySem PySem.Spec PyProof.Rows L2 Ty
open Enc (enc)
/-! ### what a text of lines says, in plain words -/
instance (many : Int) (c : Nat) : Decidable (Lett many c) := inferInstanceAs (Decidable (c = 97 ∨ c = 98 ∨ (c = 99 ∧ many = 3)))
def wordOk (many : Int) (w : Tx) : Bool := decide ((∀ c ∈ w, Lett many c) ∧ w.length ≤ 4)
inductive Rd (α : Type) where
  | bad (l w : Int)
  | fine (a : α)
def rdWords (many : Int) : Nat → List (List Tx) → List Tx → Rd (List Tx)
  | _, [], known => .fine known
  | k, f :: r, known => if 6 < k then .bad (k + 1) 1 else match f with
    | [] => .bad (k + 1) 1
    | w :: q => if !wordOk many w || decide (w ∈ known) then .bad (k + 1) 1 else if q ≠ [] then .bad (k + 1) 2 else rdWords many (k + 1) r (known ++ [w])
def sgnw : Tx := [115, 105, 103, 110, 115]
def rd : List (List Tx) → Rd (Int × List Tx)
  | [] => .bad 1 1
  | f0 :: r => match f0 with
    | [] => .bad 1 1
    | a :: q => if a ≠ sgnw then .bad 1 1 else match q with
      | [] => .bad 1 2
      | d :: q' => if d = [50] ∨ d = [51] then (if q' ≠ [] then .bad 1 3 else match rdWords (if d = [50] then 2 else 3) 1 r [] with
          | .bad l w => .bad l w
          | .fine ws => if ws = [] then .bad ((r.length : Int) + 1 + 1) 1 else .fine (if d = [50] then 2 else 3, ws))
        else .bad 1 2
/-! ### single signs in a text -/
theorem sub_one (c : Nat) (t : Tx) : subS [c] t = decide (c ∈ t) := by
  have h := PySem.StrLaws.found_one (sx t) c
  unfold subS
  have e : (sx t).cps.toList = t := by simp [sx]
  rw [e] at h
  exact h
theorem sub_lett {many : Int} (hm : many = 2 ∨ many = 3) (c : Nat) : subS [c] (cut [97, 98, 99] none (some many)) = decide (Lett many c) := by
  rw [sub_one]
  have e : ∀ {p q : Prop} [Decidable p] [Decidable q], (p ↔ q) → decide p = decide q := fun h => decide_eq_decide.2 h
  apply e
  rcases hm with h | h
  · subst h
    show c ∈ [97, 98] ↔ _
    unfold Lett
    simp
  · subst h
    show c ∈ [97, 98, 99] ↔ _
    unfold Lett
    simp
theorem all_map (many : Int) : ∀ w : Tx, ((Ty.signs w).map fun s => decide (∀ c ∈ s, Lett many c)).all id = decide (∀ c ∈ w, Lett many c)
  | [] => by simp [Ty.signs]
  | c :: w => by
    have ih := all_map many w
    unfold Ty.signs at ih ⊢
    rw [List.map_cons, List.map_cons, List.all_cons, ih]
    by_cases h : Lett many c <;> simp [h]
theorem is_string_eq {many : Int} (hm : many = 2 ∨ many = 3) {w : Tx} (hl : w.length ≤ 100000) : m_is_string many (enc w) = .ok (decide (∀ c ∈ w, Lett many c)) := by
  have e1 : isD "str" (enc (enc w : PyData)) = true := rfl
  have e2 : asTx (enc w) = .ok w := rfl
  unfold m_is_string
  simp only [ok_bind, e1, if_true, e2, bind_bind, L, un, bind_ok', chk_bind]
  have ls : (Ty.signs w).length = w.length := by simp [Ty.signs]
  rw [ls, small_of hl, chk_true]
  refine (mapP_bind_ok (g := fun s => decide (∀ c ∈ s, Lett many c)) fun a ma => ?_).trans ?_
  · unfold Ty.signs at ma
    obtain ⟨c, hc, rfl⟩ := List.mem_map.1 ma
    have e := congrArg (fun b => chk (small ([97, 98, 99] : Tx).length) (Prog.ok b)) (sub_lett hm c)
    refine Eq.trans e ?_
    show Prog.ok _ = Prog.ok _
    congr 1
    simp
  · show Prog.ok _ = Prog.ok _
    rw [all_map]
theorem is_integer_ok (n : Int) : m_is_integer (enc n) = .ok true := by
  have e1 : isD "int" (enc (enc n : PyData)) = true := by
    show (L2.kitB "int" "int").getD false = true
    decide +kernel
  have e2 : isD "bool" (enc (enc n : PyData)) = false := by
    show (L2.kitB "int" "bool").getD false = false
    decide +kernel
  unfold m_is_integer
  simp only [ok_bind, e1, e2, if_true, Bool.not_false]
theorem is_string_ok {many : Int} (hm : many = 2 ∨ many = 3) {w : Tx} (h : ∀ c ∈ w, Lett many c) (hl : w.length ≤ 100000) : m_is_string many (enc w) = .ok true := by
  rw [is_string_eq hm hl, decide_eq_true h]
theorem enum_ok {many : Int} (hm : many = 2 ∨ many = 3) {f : List Tx → Int × Tx → Prog (List Tx)} : ∀ {ps : List (Int × Tx)} {b : List Tx}, (∀ b p, p ∈ ps → (∀ x ∈ b, x ≠ p.2) → b.length ≤ 6 → f b p = .ok (b ++ [p.2])) → (b ++ ps.map (·.2)).Nodup → (b ++ ps.map (·.2)).length ≤ 6 → foldP f ps b = .ok (b ++ ps.map (·.2))
  | [], b, _, _, _ => by show Prog.ok b = _; simp
  | p :: r, b, h, nd, hl => by
    show f b p >>= _ = _
    have e : (b ++ (p :: r).map (·.2)) = (b ++ [p.2]) ++ r.map (·.2) := by simp
    have hl' := hl
    rw [List.length_append] at hl'
    rw [h b p List.mem_cons_self (fun x mx z => ?_) (by omega), ok_bind, e]
    · exact enum_ok hm (fun b q m k => h b q (List.mem_cons_of_mem _ m) k) (by rw [← e]; exact nd) (by rw [← e]; exact hl)
    · rw [List.nodup_append] at nd
      exact nd.2.2 x mx p.2 (by simp) z
theorem enumT_snd (ws : List Tx) : (enumT ws).map (·.2) = ws := by
  apply List.ext_getElem?
  intro i
  rw [List.getElem?_map, enumT_get]
  cases ws[i]? <;> rfl
theorem enumT_mem {ws : List Tx} {p : Int × Tx} (h : p ∈ enumT ws) : p.2 ∈ ws ∧ 0 ≤ p.1 ∧ p.1 < ws.length := by
  obtain ⟨i, hi⟩ := List.mem_iff_getElem?.1 h
  rw [enumT_get] at hi
  cases e : ws[i]? with
  | none => rw [e] at hi; cases hi
  | some w =>
    rw [e] at hi
    cases hi
    have := (List.getElem?_eq_some_iff.1 e).1
    exact ⟨List.mem_of_getElem? e, by simp, by simpa using this⟩
theorem look_ok {many : Int} {ws : List Tx} (h : Cd many ws) : m_look_at_words many ws = .ok () := by
  have e1 : isD "tuple" (enc ws) = true := rfl
  have l1 := h.l1
  have l6 := h.l6
  unfold m_look_at_words
  simp only [ok_bind, e1, bind_bind, L, un, bind_ok', chk_bind, Bool.not_true, Bool.false_eq_true, if_false, List.length_nil, Nat.zero_le, if_true]
  rw [if_pos (decide_eq_true (show (1 : Int) ≤ ws.length by omega)), decide_eq_true (show (ws.length : Int) ≤ 6 by omega)]
  simp only [ok_bind, Bool.not_true, Bool.false_eq_true, if_false]
  rw [enum_ok h.m (fun b p mp hn hb => ?_) (by simpa [enumT_snd] using h.nd) (by simpa [enumT_snd] using l6), ok_bind]
  have hw := h.w p.2 (enumT_mem mp).1
  have w1 := hw.2.1
  have w4 := hw.2.2
  rw [is_string_ok h.m hw.1 (by omega)]
  simp only [ok_bind, Bool.not_true, Bool.false_eq_true, if_false]
  rw [small_of (by omega), chk_true, if_pos (decide_eq_true (show (1 : Int) ≤ p.2.length by omega)), decide_eq_true (show (p.2.length : Int) ≤ 4 by omega)]
  simp only [ok_bind, Bool.not_true, Bool.false_eq_true, if_false]
  have e2 : memB p.2 b = false := memB_no fun m => hn _ m rfl
  rw [e2, small_of (by omega)]
  rfl
theorem init_ok {many : Int} {ws : List Tx} (h : Cd many ws) : m_Code___init__ many ws = .ok ⟨many, ws⟩ := by
  have hm := h.m
  unfold m_Code___init__
  simp only [ok_bind, bind_bind, is_integer_ok, Bool.not_true, Bool.false_eq_true, if_false]
  rw [if_pos (decide_eq_true (show (2 : Int) ≤ many by omega)), decide_eq_true (show many ≤ (3 : Int) by omega)]
  simp only [ok_bind, Bool.not_true, Bool.false_eq_true, if_false, look_ok h]
def digit (many : Int) : Tx := if many = 2 then [50] else [51]
theorem strI_ok {many : Int} (hm : many = 2 ∨ many = 3) : strI many = .ok (digit many) := by
  rcases hm with e | e <;> subst e
  · unfold strI
    rw [if_pos (by decide +kernel)]
    exact congrArg Prog.ok (by decide +kernel)
  · unfold strI
    rw [if_pos (by decide +kernel)]
    exact congrArg Prog.ok (by decide +kernel)
theorem intS_ok {many : Int} (hm : many = 2 ∨ many = 3) : intS (digit many) = .ok many := by
  rcases hm with e | e <;> subst e
  · have h : PySem.intText? (sx (digit 2)) = some 2 := by decide +kernel
    unfold intS
    rw [h]
    rfl
  · have h : PySem.intText? (sx (digit 3)) = some 3 := by decide +kernel
    unfold intS
    rw [h]
    rfl
theorem line_ok {text : Tx} (n : Int) (hl : text.length ≤ 10000) : m_Line___init__ text n = .ok ((), ⟨n, flds text, 0⟩) := by
  have h1 := splitT_length (c := 32) (by decide) text
  unfold m_Line___init__
  simp only [ok_bind, bind_bind, L, un, chk_bind]
  rw [small_of (by omega)]
  show chk (true && !([32] : Tx).isEmpty) _ = _
  rw [show (true && !([32] : Tx).isEmpty) = true from rfl, chk_true, small_of (by omega), chk_true]
  have ec : compP (fun a4 : Tx => Prog.ok (!decide (a4 = []))) (fun a4 : Tx => Prog.ok a4) (splitT text [32]) = .ok (flds text) := by
    have := compP_ok (t := fun a4 : Tx => Prog.ok (!decide (a4 = []))) (f := fun a4 : Tx => Prog.ok a4) (p := fun a => !decide (a = [])) (g := id) (xs := splitT text [32]) (fun a _ => rfl) (fun a _ => rfl)
    rw [List.map_id] at this
    exact this
  exact (congrArg (fun m => m >>= fun (v : List Tx) => Prog.ok ((), (⟨n, v, 0⟩ : LineV))) ec).trans rfl

def badE (l w : Int) : Exc := ⟨"InvalidText", [.int w, .int l]⟩
theorem refuse_ok (n k : Int) (ps : L Tx) : m_Line_refuse ⟨n, ps, k⟩ = .err (badE n (k + 1)) := rfl
theorem out_ok {ω : Type} (n k : Int) (ps : L Tx) : (outP (m_Line_refuse ⟨n, ps, k⟩) : Prog ω) = .err (badE n (k + 1)) := rfl
theorem take_ok {n : Int} {ps words : List Tx} {k : Nat} {w : Tx} (hk : ps[k]? = some w) (hw : w ∈ words) : m_Line_take_one ⟨n, ps, k⟩ words = .ok (w, ⟨n, ps, k + 1⟩) := by
  have hlt := (List.getElem?_eq_some_iff.1 hk).1
  unfold m_Line_take_one
  simp only [ok_bind, bind_bind, L, un, chk_bind]
  have hg : getI ps (k : Int) = .ok w := getI_nat (by omega) (by simpa using hk)
  rw [if_neg (by simp; omega), hg]
  simp only [ok_bind]
  rw [memB_yes hw]
  simp only [Bool.not_true, Bool.false_eq_true, if_false]
  rw [show (k : Int) + 1 - 1 = k by omega, hg]
  rfl
theorem take_no {n : Int} {ps words : List Tx} {k : Nat} (h : k = ps.length ∨ ∃ w, ps[k]? = some w ∧ w ∉ words) : m_Line_take_one ⟨n, ps, k⟩ words = .err (badE n (k + 1)) := by
  unfold m_Line_take_one
  simp only [ok_bind, bind_bind, L, un, chk_bind]
  by_cases hk : k = ps.length
  · rw [if_pos (decide_eq_true (by omega))]
    rfl
  · obtain ⟨w, hw, hn⟩ := h.resolve_left hk
    have hg : getI ps (k : Int) = .ok w := getI_nat (by omega) (by simpa using hw)
    rw [if_neg (by simp; omega), hg]
    simp only [ok_bind]
    rw [memB_no hn]
    rfl
theorem finish_ok {n : Int} {ps : List Tx} {k : Int} (h : k = ps.length) : m_Line_finish ⟨n, ps, k⟩ = .ok ((), ⟨n, ps, k⟩) := by
  subst h
  unfold m_Line_finish
  simp only [ok_bind, bind_bind, L, un]
  rw [if_neg (by simp)]
theorem finish_no {n : Int} {ps : List Tx} {k : Int} (h : k < ps.length) : m_Line_finish ⟨n, ps, k⟩ = .err (badE n (k + 1)) := by
  unfold m_Line_finish
  simp only [ok_bind, bind_bind, L, un]
  rw [if_pos (decide_eq_true h)]
  rfl
/-- the word of a line -/
theorem word_nil {many n : Int} {known : List Tx} : m_Line_take_word ⟨n, ([] : List Tx), 0⟩ many known = .err (badE n 1) := rfl
theorem word_bad {many n : Int} (hm : many = 2 ∨ many = 3) {w : Tx} {q known : List Tx} (hl : w.length ≤ 10000) (h : (!wordOk many w || decide (w ∈ known)) = true) : m_Line_take_word ⟨n, w :: q, 0⟩ many known = .err (badE n 1) := by
  unfold m_Line_take_word
  have hg : getI (w :: q) (0 : Int) = .ok w := getI_nat (by decide) rfl
  simp only [ok_bind, bind_bind, L, un, chk_bind, hg, is_string_eq hm (show w.length ≤ 100000 by omega)]
  rw [if_neg (by simp; omega)]
  by_cases hs : ∀ c ∈ w, Lett many c
  · rw [decide_eq_true hs]
    simp only [Bool.not_true, Bool.false_eq_true, if_false]
    rw [small_of (by omega), chk_true]
    by_cases h4 : w.length ≤ 4
    · rw [if_neg (by simp; omega)]
      have hk : w ∈ known := by
        unfold wordOk at h
        rw [decide_eq_true ⟨hs, h4⟩] at h
        simpa using h
      rw [memB_yes hk]
      rfl
    · rw [if_pos (decide_eq_true (by omega))]
      rfl
  · rw [decide_eq_false hs]
    rfl
theorem word_fine {many n : Int} (hm : many = 2 ∨ many = 3) {w : Tx} {q known : List Tx} (h : ¬ (!wordOk many w || decide (w ∈ known)) = true) : m_Line_take_word ⟨n, w :: q, 0⟩ many known = .ok (w, ⟨n, w :: q, 1⟩) := by
  have h' : wordOk many w = true ∧ w ∉ known := by simpa using h
  obtain ⟨h1, hn⟩ := h'
  obtain ⟨hs, h4⟩ := of_decide_eq_true h1
  unfold m_Line_take_word
  have hg : getI (w :: q) (0 : Int) = .ok w := getI_nat (by decide) rfl
  simp only [ok_bind, bind_bind, L, un, chk_bind, hg, is_string_ok hm hs (show w.length ≤ 100000 by omega)]
  rw [if_neg (by simp; omega)]
  simp only [Bool.not_true, Bool.false_eq_true, if_false]
  rw [small_of (by omega), chk_true, if_neg (by simp; omega), memB_no hn]
  rfl

def toP {α β : Type} (f : α → β) : Rd α → Prog β
  | .bad l w => .err (badE l w)
  | .fine a => .ok (f a)
def stepP (many : Int) (i : Nat) (fs known : List Tx) : Prog (List Tx) :=
  if i = 6 then .err (badE ((i : Int) + 2) 1) else match fs with
    | [] => .err (badE ((i : Int) + 2) 1)
    | w :: q => if (!wordOk many w || decide (w ∈ known)) = true then .err (badE ((i : Int) + 2) 1) else if q ≠ [] then .err (badE ((i : Int) + 2) 2) else .ok (known ++ [w])
theorem fold_read {many : Int} {f : List Tx → Int × Tx → Prog (List Tx)} : ∀ {ls : List Tx} {b : List Tx} {i : Nat}, i ≤ 6 → b.length ≤ 6 → (∀ (b : List Tx) (i : Nat) l, l ∈ ls → i ≤ 6 → b.length ≤ 6 → f b ((i : Int), l) = stepP many i (flds l) b) → b.length = i →
    foldP f ((ls.zipIdx i).map fun p => ((p.2 : Int), p.1)) b = toP id (rdWords many (i + 1) (ls.map flds) b)
  | [], b, i, _, _, _, _ => rfl
  | l :: ls, b, i, hi, hb, hf, he => by
    rw [List.zipIdx_cons, List.map_cons, List.map_cons]
    show f b ((i : Int), l) >>= _ = _
    rw [hf b i l List.mem_cons_self hi hb]
    unfold stepP rdWords
    by_cases h6 : i = 6
    · rw [if_pos h6, if_pos (by omega)]
      show Prog.err _ = Prog.err _
      rw [show ((i + 1 : Nat) : Int) + 1 = (i : Int) + 2 by omega]
    · rw [if_neg h6, if_neg (by omega)]
      cases hfl : flds l with
      | nil =>
        show Prog.err _ = Prog.err _
        rw [show ((i + 1 : Nat) : Int) + 1 = (i : Int) + 2 by omega]
      | cons w q =>
        dsimp only
        by_cases h1 : (!wordOk many w || decide (w ∈ b)) = true
        · rw [if_pos h1, if_pos h1]
          show Prog.err _ = Prog.err _
          rw [show ((i + 1 : Nat) : Int) + 1 = (i : Int) + 2 by omega]
        · rw [if_neg h1, if_neg h1]
          by_cases h2 : q ≠ []
          · rw [if_pos h2, if_pos h2]
            show Prog.err _ = Prog.err _
            rw [show ((i + 1 : Nat) : Int) + 1 = (i : Int) + 2 by omega]
          · rw [if_neg h2, if_neg h2, ok_bind]
            exact fold_read (i := i + 1) (by omega) (by rw [List.length_append]; simp; omega) (fun b j l m => hf b j l (List.mem_cons_of_mem _ m)) (by rw [List.length_append]; simp; omega)

theorem flds_ne {s : Tx} : ∀ w ∈ flds s, w ≠ [] := fun w m => by
  have := (List.mem_filter.1 m).2
  simpa using this
theorem rdWords_ws {many : Int} : ∀ {r : List (List Tx)} {known ws : List Tx} {k : Nat}, Ws many known → known.length + 1 = k → (∀ f ∈ r, ∀ w ∈ f, w ≠ []) → rdWords many k r known = .fine ws → Ws many ws
  | [], known, ws, k, h, _, _, e => by
    unfold rdWords at e
    cases e
    exact h
  | f :: r, known, ws, k, h, hk, hf, e => by
    unfold rdWords at e
    by_cases h6 : 6 < k
    · rw [if_pos h6] at e; cases e
    · rw [if_neg h6] at e
      cases f with
      | nil => cases e
      | cons w q =>
        dsimp only at e
        by_cases h1 : (!wordOk many w || decide (w ∈ known)) = true
        · rw [if_pos h1] at e; cases e
        · rw [if_neg h1] at e
          by_cases h2 : q ≠ []
          · rw [if_pos h2] at e; cases e
          · rw [if_neg h2] at e
            have h' : wordOk many w = true ∧ w ∉ known := by simpa using h1
            obtain ⟨a, b⟩ := of_decide_eq_true h'.1
            have hw : Word many w := ⟨a, by
              have := hf _ List.mem_cons_self w List.mem_cons_self
              cases w with
              | nil => exact absurd rfl this
              | cons _ _ => simp, b⟩
            refine rdWords_ws ⟨by rw [List.length_append]; simp; omega, ?_, fun v m => ?_⟩ (by rw [List.length_append]; simp; omega) (fun g m => hf g (List.mem_cons_of_mem _ m)) e
            · rw [List.nodup_append]
              exact ⟨h.nd, by simp, fun x mx y my z => by
                rw [List.mem_singleton.1 my] at z
                exact h'.2 (z ▸ mx)⟩
            · rcases List.mem_append.1 m with z | z
              · exact h.w v z
              · rw [List.mem_singleton.1 z]; exact hw
theorem ws_nil (many : Int) : Ws many [] := ⟨by simp, List.Pairwise.nil, fun w m => by cases m⟩
theorem err_step {α β : Type} {m : Prog α} {e : Exc} {k : α → Prog β} (h : m = .err e) : (m >>= k) = .err e := by rw [h]; rfl
theorem read_spec {ls : List Tx} (hne : ls ≠ []) (hl : ls.length ≤ 20) (hn : ∀ l ∈ ls, 10 ∉ l ∧ l.length ≤ 1000) : m_read_code (joinT [10] ls) = toP (fun p => (⟨p.1, p.2⟩ : CodeV)) (rd (ls.map flds)) := by
  cases ls with
  | nil => exact absurd rfl hne
  | cons l0 ls =>
  have hj := joinT_length 10 (l0 :: ls)
  have hsum := sumLen_le (n := 1000) fun p mp => (hn p mp).2
  rw [List.length_cons] at hj hsum hl
  have hsp : splitT (joinT [10] (l0 :: ls)) [10] = l0 :: ls := split_join (by decide) (by simp) fun p mp => (hn p mp).1
  unfold m_read_code
  simp only [ok_bind, bind_bind, L, un, chk_bind]
  rw [small_of (show (joinT [10] (l0 :: ls)).length + 2 ≤ 100000 by
    have : (ls.length + 1) * 1000 ≤ 20000 := by omega
    omega), hsp]
  rw [show (true && !([10] : Tx).isEmpty) = true from rfl, chk_true]
  have g0 : getI (l0 :: ls) (0 : Int) = .ok l0 := getI_nat (by decide) rfl
  rw [g0, ok_bind, line_ok 1 (by have := (hn l0 List.mem_cons_self).2; omega), ok_bind]
  rw [if_pos (by decide), ok_bind]
  rw [List.map_cons]
  cases h0 : flds l0 with
  | nil => exact err_step (take_no (n := 1) (ps := []) (words := [[115, 105, 103, 110, 115]]) (k := 0) (.inl rfl))
  | cons a q =>
    by_cases ha : a = sgnw
    · refine bind_step (take_ok (n := 1) (ps := a :: q) (words := [[115, 105, 103, 110, 115]]) (k := 0) (w := a) rfl (by rw [ha]; simp [sgnw])) ?_
      refine bind_step (x := [[50], [51]]) (if_pos (by decide)) ?_
      cases q with
      | nil =>
        rw [show rd ([a] :: ls.map flds) = .bad 1 2 by unfold rd; simp [ha]]
        exact err_step (take_no (n := 1) (ps := [a]) (words := [[50], [51]]) (k := 1) (.inl rfl))
      | cons d q =>
        by_cases hd : d = [50] ∨ d = [51]
        · refine bind_step (take_ok (n := 1) (ps := a :: d :: q) (words := [[50], [51]]) (k := 1) (w := d) rfl (by simpa using hd)) ?_
          obtain ⟨many, hmany⟩ : ∃ many : Int, (if d = [50] then (2 : Int) else 3) = many := ⟨_, rfl⟩
          have hm : many = 2 ∨ many = 3 := by
            rw [← hmany]; split <;> simp
          have hdig : d = digit many := by
            rw [← hmany]
            rcases hd with e | e <;> subst e <;> rfl
          refine bind_step (x := many) (by
            have := intS_ok hm
            rw [← hdig] at this
            exact this) ?_
          by_cases hq : q ≠ []
          · rw [show rd ((a :: d :: q) :: ls.map flds) = .bad 1 3 by unfold rd; simp [ha, hd, hq]]
            refine err_step (finish_no (n := 1) (ps := a :: d :: q) (k := 2) ?_)
            cases q with
            | nil => exact absurd rfl hq
            | cons _ _ => simp; omega
          · have hq : q = [] := by simpa using hq
            subst hq
            refine bind_step (finish_ok (n := 1) (ps := [a, d]) (k := 2) rfl) ?_
            refine bind_step (x := ([] : List Tx)) (if_pos (by decide)) ?_
            have ec : cut (l0 :: ls) (some 1) none = ls := cut_from (show (0 : Int) ≤ 1 by decide)
            rw [ec]
            have erd : rd ([a, d] :: ls.map flds) = match rdWords many 1 (ls.map flds) [] with
              | .bad l w => .bad l w
              | .fine ws => if ws = [] then .bad ((ls.length : Int) + 1 + 1) 1 else .fine (many, ws) := by
              unfold rd
              simp only [ha, ne_eq, not_true_eq_false, if_false, hd, if_true, hmany, List.length_map]
            rw [erd]
            have hfold : ∀ (f : List Tx → Int × Tx → Prog (List Tx)), (∀ (b : List Tx) (i : Nat) l, l ∈ ls → i ≤ 6 → b.length ≤ 6 → f b ((i : Int), l) = stepP many i (flds l) b) → foldP f (enumT ls) [] = toP id (rdWords many 1 (ls.map flds) []) := fun f hf => fold_read (i := 0) (by omega) (by simp) hf rfl
            have hstep : ∀ (b : List Tx) (i : Nat) l, l ∈ ls → i ≤ 6 → b.length ≤ 6 → (if decide ((i : Int) = 6) = true then raiseP (Prog.ok (⟨"InvalidText", [enc (1 : Int), enc ((i : Int) + 2)]⟩ : Exc)) else m_Line___init__ l ((i : Int) + 2) >>= fun r45 => m_Line_take_word (LineV.mk r45.2.number r45.2.parts r45.2.place) many b >>= fun y47 => chk (small b.length) (m_Line_finish (LineV.mk y47.2.number y47.2.parts y47.2.place) >>= fun _ => (Prog.ok (b ++ [y47.1]) : Prog (List Tx)))) = stepP many i (flds l) b := fun b i l ml hi hb => by
              have hl2 := (hn l (List.mem_cons_of_mem _ ml)).2
              unfold stepP
              by_cases h6 : i = 6
              · rw [if_pos (decide_eq_true (by omega)), if_pos h6]
                rfl
              · rw [if_neg (by simp; omega), if_neg h6]
                refine bind_step (line_ok (text := l) ((i : Int) + 2) (by omega)) ?_
                cases hfl : flds l with
                | nil => exact err_step word_nil
                | cons w q =>
                  dsimp only
                  by_cases h1 : (!wordOk many w || decide (w ∈ b)) = true
                  · rw [if_pos h1]
                    refine err_step (word_bad hm (Nat.le_trans (flds_part_le (s := l) (by rw [hfl]; exact List.mem_cons_self)) (by omega)) h1)
                  · rw [if_neg h1]
                    refine bind_step (word_fine hm h1) ?_
                    rw [small_of (by omega), chk_true]
                    by_cases h2 : q ≠ []
                    · rw [if_pos h2]
                      refine err_step (finish_no (ps := w :: q) (k := 1) ?_)
                      cases q with
                      | nil => exact absurd rfl h2
                      | cons _ _ => simp; omega
                    · rw [if_neg h2]
                      have h2 : q = [] := by simpa using h2
                      subst h2
                      exact bind_step (finish_ok (ps := [w]) rfl) rfl
            cases hr : rdWords many 1 (ls.map flds) [] with
            | bad l w =>
              refine err_step ((hfold _ hstep).trans ?_)
              rw [hr]
              rfl
            | fine ws =>
              have hws := rdWords_ws (ws_nil many) rfl (fun f mf w mw => by
                obtain ⟨l, _, e⟩ := List.mem_map.1 mf
                exact flds_ne w (by rw [e]; exact mw)) hr
              refine bind_step (x := ws) ((hfold _ hstep).trans (by rw [hr]; rfl)) ?_
              refine bind_step (x := ([] : List Tx)) (if_pos (by decide)) ?_
              refine bind_step (eqL_tx (ys := []) (fun w m => word_okT (hws.w w m)) (fun w m => (by cases m))) ?_
              by_cases he : ws = []
              · rw [if_pos (decide_eq_true he)]
                dsimp only
                rw [if_pos he]
                show Prog.err _ = Prog.err _
                unfold badE
                rw [List.length_cons]
                rfl
              · rw [if_neg (by simpa using he)]
                dsimp only
                rw [if_neg he]
                exact init_ok ⟨hm, by
                  cases ws with
                  | nil => exact absurd rfl he
                  | cons _ _ => simp, hws.l6, hws.nd, hws.w⟩
        · rw [show rd ((a :: d :: q) :: ls.map flds) = .bad 1 2 by unfold rd; simp [ha, hd]]
          exact err_step (take_no (n := 1) (ps := a :: d :: q) (words := [[50], [51]]) (k := 1) (.inr ⟨d, rfl, by simpa using hd⟩))
    · rw [show rd ((a :: q) :: ls.map flds) = .bad 1 1 by unfold rd; simp [ha]]
      exact err_step (take_no (n := 1) (ps := a :: q) (words := [[115, 105, 103, 110, 115]]) (k := 0) (.inr ⟨a, rfl, by simpa [sgnw] using ha⟩))
end K15

namespace K15
open PySem PySem.Spec PyProof.Rows L2 Ty
open Enc (enc)
/-! ### the law's own reader -/
def Chr (c : Nat) : Prop := c ≠ 10 ∧ c < 1000
/-- lines as they may stand -/
structure Ln (n m : Nat) (ls : List Tx) : Prop where
  ne : ls ≠ []
  len : ls.length ≤ n
  ch : ∀ l ∈ ls, ∀ c ∈ l, Chr c
  ll : ∀ l ∈ ls, l.length ≤ m
theorem Ln.to {n m : Nat} {ls : List Tx} (h : Ln n m ls) (hn : n ≤ 20) (hm : m ≤ 1000) : ls.length ≤ 20 ∧ ∀ l ∈ ls, 10 ∉ l ∧ l.length ≤ 1000 := ⟨Nat.le_trans h.len hn, fun l ml => ⟨fun z => (h.ch l ml 10 z).1 rfl, Nat.le_trans (h.ll l ml) hm⟩⟩
theorem flds_okT {l : Tx} (h : ∀ c ∈ l, Chr c) : ∀ w ∈ flds l, okT w := fun w mw => okT_of fun c mc => (h c (flds_mem mw c mc)).2
theorem isw_eq {many : Int} (hm : many = 2 ∨ many = 3) {w : Tx} (hl : w.length ≤ 10000) (ho : ∀ c ∈ w, c < 1000) (ne : w ≠ []) : m__law_is_word w many = .ok (wordOk many w) := by
  have l1 : 1 ≤ w.length := by
    cases w with
    | nil => exact absurd rfl ne
    | cons _ _ => simp
  unfold m__law_is_word
  simp only [ok_bind, bind_bind, L, un, chk_bind]
  rw [small_of (by omega), chk_true, if_pos (decide_eq_true (show (1 : Int) ≤ w.length by omega)), ok_bind]
  unfold wordOk
  by_cases h4 : w.length ≤ 4
  · rw [if_pos (decide_eq_true (show (w.length : Int) ≤ 4 by omega))]
    have ls : (Ty.signs w).length = w.length := by simp [Ty.signs]
    rw [ls, small_of (by omega), chk_true]
    have ec := compP_ok (t := fun a7 : Tx => chk (small ([97, 98, 99] : Tx).length) (Prog.ok (!subS a7 (cut [97, 98, 99] none (some many))))) (f := fun a : Tx => Prog.ok a) (p := fun s => !decide (∀ c ∈ s, Lett many c)) (g := id) (xs := Ty.signs w) (fun a ma => by
      unfold Ty.signs at ma
      obtain ⟨c, hc, rfl⟩ := List.mem_map.1 ma
      show Prog.ok _ = Prog.ok _
      rw [sub_lett hm c]
      congr 2
      simp) (fun a _ => rfl)
    refine bind_step ec ?_
    refine bind_step (x := ([] : List Tx)) (if_pos (by decide)) ?_
    rw [List.map_id]
    refine (eqL_tx (ys := []) (fun x mx => ?_) (fun x mx => by cases mx)).trans ?_
    · have := (List.mem_filter.1 mx).1
      unfold Ty.signs at this
      obtain ⟨c, hc, rfl⟩ := List.mem_map.1 this
      refine okT_of fun d md => ?_
      rw [List.mem_singleton.1 md]
      exact ho c hc
    · congr 1
      have : ((Ty.signs w).filter (fun s => !decide (∀ c ∈ s, Lett many c)) = []) ↔ ((∀ c ∈ w, Lett many c) ∧ w.length ≤ 4) := by
        rw [List.filter_eq_nil_iff]
        constructor
        · intro h
          refine ⟨fun c mc => ?_, h4⟩
          have := h [c] (by unfold Ty.signs; exact List.mem_map.2 ⟨c, mc, rfl⟩)
          simpa using this
        · intro h s ms
          unfold Ty.signs at ms
          obtain ⟨c, hc, rfl⟩ := List.mem_map.1 ms
          have := h.1 c hc
          simpa using this
      exact decide_eq_decide.2 this
  · rw [if_neg (by simp; omega)]
    rw [decide_eq_false fun z => h4 z.2]
/-- what the law's reader gives for what a text says -/
def dueOf {α : Type} : Rd α → Option (Int × Int)
  | .bad l w => some (l, w)
  | .fine _ => none
theorem fold_due {many : Int} {f : Option Int × List Tx → Int → Prog (Fl (Option Int × List Tx) (Option (Int × Int)))} : ∀ {r : List Tx} {known : List Tx} {k : Nat}, 1 ≤ k → known.length + 1 = k →
    (∀ (j : Nat) (l : Tx) (b : List Tx), r[j]? = some l → b.length ≤ 6 → k + j ≤ 7 → b.length + 1 = k + j → f (some many, b) ((k + j : Nat) : Int) = .ok (match rdWords many (k + j) [flds l] b with
      | .bad x y => .rt (some (x, y))
      | .fine ws => .nx (some many, ws))) →
    (∀ (j : Nat) (l : Tx) (b : List Tx), r[j]? = some l → 6 < k + j → f (some many, b) ((k + j : Nat) : Int) = .ok (.rt (some (((k + j : Nat) : Int) + 1, 1)))) →
    foldF f ((List.range' k r.length).map fun (i : Nat) => (i : Int)) (some many, known) = .ok (match rdWords many k (r.map flds) known with
      | .bad x y => .rt (some (x, y))
      | .fine ws => .nx (some many, ws))
  | [], known, k, _, _, _, _ => rfl
  | l :: r, known, k, hk, hn, h1, h2 => by
    rw [List.length_cons, List.range'_succ, List.map_cons, List.map_cons]
    show f (some many, known) (k : Int) >>= _ = _
    by_cases h6 : 6 < k
    · have := h2 0 l known rfl (by omega)
      rw [Nat.add_zero] at this
      rw [this, ok_bind]
      unfold rdWords
      rw [if_pos h6]
    · have := h1 0 l known rfl (by omega) (by omega) (by omega)
      rw [Nat.add_zero] at this
      rw [this, ok_bind]
      unfold rdWords
      rw [if_neg h6, if_neg h6]
      cases flds l with
      | nil => rfl
      | cons w q =>
        dsimp only
        by_cases h3 : (!wordOk many w || decide (w ∈ known)) = true
        · rw [if_pos h3, if_pos h3]
        · rw [if_neg h3, if_neg h3]
          by_cases h4 : q ≠ []
          · rw [if_pos h4, if_pos h4]
          · rw [if_neg h4, if_neg h4]
            have e : rdWords many (k + 1) [] (known ++ [w]) = .fine (known ++ [w]) := rfl
            rw [e]
            have ih := fold_due (many := many) (f := f) (r := r) (known := known ++ [w]) (k := k + 1) (by omega) (by rw [List.length_append]; simp; omega) (fun j l' b e1 e2 e3 e4 => by
              have := h1 (j + 1) l' b e1 e2 (by omega) (by omega)
              rw [show k + (j + 1) = k + 1 + j by omega] at this
              exact this) (fun j l' b e1 e2 => by
              have := h2 (j + 1) l' b e1 (by omega)
              rw [show k + (j + 1) = k + 1 + j by omega] at this
              exact this)
            exact ih

theorem neL_tx {xs ys : List Tx} (hx : ∀ x ∈ xs, okT x) (hy : ∀ x ∈ ys, okT x) : neP (α := L Tx) (β := L Tx) xs ys = .ok (!decide (@Eq (List Tx) xs ys)) := neP_dec (α := L Tx) (by decide) hx hy
theorem flds_comp (l : Tx) : compP (fun a4 : Tx => Prog.ok (!decide (a4 = []))) (fun a4 : Tx => Prog.ok a4) (splitT l [32]) = .ok (flds l) := by
  have := compP_ok (t := fun a4 : Tx => Prog.ok (!decide (a4 = []))) (f := fun a4 : Tx => Prog.ok a4) (p := fun a => !decide (a = [])) (g := id) (xs := splitT l [32]) (fun a _ => rfl) (fun a _ => rfl)
  rw [List.map_id] at this
  exact this
theorem rng_succ (n : Nat) : rng 0 ((n + 1 : Nat) : Int) = 0 :: (List.range' 1 n).map fun (i : Nat) => (i : Int) := by
  unfold rng
  have e : (((n + 1 : Nat) : Int) - 0).toNat = n + 1 := by omega
  rw [e, List.range_succ_eq_map, List.map_cons, List.map_map]
  congr 1
  rw [List.range'_eq_map_range, List.map_map]
  refine List.map_congr_left fun i _ => ?_
  simp
  omega
theorem sigs_cut (f : List Tx) : cut f none (some 1) = f.take 1 := cut_to (by decide)
theorem cut12 (f : List Tx) : cut f (some 1) (some 2) = (f.drop 1).take 1 := by
  unfold cut
  rw [sIx_lo _ _ (by decide), sIx_lo _ _ (by decide)]
  cases f with
  | nil => rfl
  | cons a f =>
    cases f with
    | nil => rfl
    | cons b f => simp
theorem okT2 : ∀ x : L Tx, x ∈ ([[[50]], [[51]]] : List (L Tx)) → ∀ w ∈ un x, okT w := fun x mx w m => by
  have e : un x = [[50]] ∨ un x = [[51]] := by
    rcases List.mem_cons.1 mx with e | e
    · exact .inl e
    · exact .inr (List.mem_singleton.1 e)
  rcases e with e | e
  · rw [e] at m; rw [List.mem_singleton.1 m]; exact okT_of fun c mc => by rw [List.mem_singleton.1 mc]; omega
  · rw [e] at m; rw [List.mem_singleton.1 m]; exact okT_of fun c mc => by rw [List.mem_singleton.1 mc]; omega
theorem inDT2 (x : List Tx) (h : ∀ w ∈ x, okT w) : inDT (α := L Tx) x [[[50]], [[51]]] = .ok (decide (x = [[50]] ∨ x = [[51]])) := by
  refine (inDT_dec (α := L Tx) (a := x) (xs := [[[50]], [[51]]]) (by decide) h okT2).trans (congrArg Prog.ok ?_)
  apply decide_eq_decide.2
  exact List.mem_cons.trans (or_congr Iff.rfl List.mem_singleton)
theorem due_first {α : Type} {l0 : Tx} (hc : ∀ c ∈ l0, Chr c) {k : Int → Prog (Fl α (Option (Int × Int)))} : ((if ([] : List Tx).length + 1 ≤ 100000 then Prog.ok [[115, 105, 103, 110, 115]] else Prog.stuck) >>= fun (a : List Tx) => neP (α := L Tx) (β := L Tx) (cut (flds l0) none (some 1)) a >>= fun c33 => if c33 = true then Prog.ok (Fl.rt (some ((1 : Int), (1 : Int)))) else do
      let a ← if [[50]].length ≤ 100000 then (Prog.ok [[50]] : Prog (List Tx)) else Prog.stuck
      let a_1 ← if [[51]].length ≤ 100000 then (Prog.ok [[51]] : Prog (List Tx)) else Prog.stuck
      let a ← if [a, a_1].length ≤ 100000 then (Prog.ok [a, a_1] : Prog (List (L Tx))) else Prog.stuck
      let a ← inDT (α := L Tx) (cut (flds l0) (some 1) (some 2)) a
      if (!a) = true then Prog.ok (Fl.rt (some (1, 2)))
        else
          if decide ((2 : Int) < ↑(flds l0).length) = true then Prog.ok (Fl.rt (some (1, 3)))
          else do
            let a ← getI (flds l0) 1
            let v66 ← intS a
            k v66) = match rd [flds l0, [[97]]] with
      | .bad x y => .ok (.rt (some (x, y)))
      | .fine p => k p.1 := by
  have hok := flds_okT hc
  refine bind_step (x := [sgnw]) (if_pos (by decide)) ?_
  rw [sigs_cut]
  refine bind_step (neL_tx (fun w m => hok w (List.mem_of_mem_take m)) (fun w m => by rw [List.mem_singleton.1 m]; exact okT_of fun c mc => by simp [sgnw] at mc; omega)) ?_
  cases hf : flds l0 with
  | nil => rfl
  | cons a q =>
    by_cases ha : a = sgnw
    · have e1 : (!decide ((a :: q).take 1 = [sgnw])) = false := by simp [ha]
      rw [e1, if_neg Bool.false_ne_true]
      refine bind_step (x := [[50]]) rfl ?_
      refine bind_step (x := [[51]]) rfl ?_
      refine bind_step (x := [[[50]], [[51]]]) rfl ?_
      rw [cut12]
      refine bind_step (inDT2 _ fun w m => hok w (by rw [hf]; exact List.mem_of_mem_drop (List.mem_of_mem_take m))) ?_
      cases q with
      | nil =>
        rw [if_pos (by simp)]
        simp [rd, ha]
      | cons d q =>
        have e2 : (decide (((a :: d :: q).drop 1).take 1 = [[50]] ∨ ((a :: d :: q).drop 1).take 1 = [[51]])) = decide (d = [50] ∨ d = [51]) := by
          apply decide_eq_decide.2
          simp
        rw [e2]
        by_cases hd : d = [50] ∨ d = [51]
        · rw [decide_eq_true hd, if_neg (by simp)]
          by_cases hq : q = []
          · subst hq
            rw [if_neg (by simp)]
            refine bind_step (x := d) rfl ?_
            rcases hd with e | e
            · subst e
              refine bind_step (x := 2) (intS_ok (many := 2) (.inl rfl)) ?_
              subst ha
              rfl
            · subst e
              refine bind_step (x := 3) (intS_ok (many := 3) (.inr rfl)) ?_
              subst ha
              rfl
          · rw [if_pos (decide_eq_true (by cases q with
            | nil => exact absurd rfl hq
            | cons _ _ => simp; omega))]
            simp [rd, ha, hd, hq]
        · rw [decide_eq_false hd, if_pos (by simp)]
          simp [rd, ha, hd]
    · have e1 : (!decide ((a :: q).take 1 = [sgnw])) = true := by simp [ha]
      rw [e1, if_pos rfl]
      simp [rd, ha]
theorem due_spec {ls : List Tx} {n m : Nat} (h : Ln n m ls) (hn : n ≤ 20) (hm : m ≤ 1000) : m__law_due (joinT [10] ls) = .ok (dueOf (rd (ls.map flds))) := by
  obtain ⟨h1, h2⟩ := h.to hn hm
  cases ls with
  | nil => exact absurd rfl h.ne
  | cons l0 ls =>
  have hj := joinT_length 10 (l0 :: ls)
  have hsum := sumLen_le (n := 1000) fun p mp => (h2 p mp).2
  rw [List.length_cons] at hj hsum h1
  have hsp : splitT (joinT [10] (l0 :: ls)) [10] = l0 :: ls := split_join (by decide) (by simp) fun p mp => (h2 p mp).1
  unfold m__law_due
  simp only [ok_bind, bind_bind, L, un, chk_bind]
  rw [small_of (show (joinT [10] (l0 :: ls)).length + 2 ≤ 100000 by
    have : (ls.length + 1) * 1000 ≤ 20000 := by omega
    omega), hsp]
  rw [show (true && !([10] : Tx).isEmpty) = true from rfl, chk_true, if_pos (by decide), ok_bind]
  rw [show inRange ((l0 :: ls).length : Int) = true from decide_eq_true (by rw [List.length_cons]; omega), chk_true]
  rw [show (((l0 :: ls).length : Nat) : Int) = ((ls.length + 1 : Nat) : Int) from rfl, rng_succ]
  have key : ∀ f : Option Int × List Tx → Int → Prog (Fl (Option Int × List Tx) (Option (Int × Int))),
      (f (none, []) 0 = match rd [flds l0, [[97]]] with
        | .bad x y => .ok (.rt (some (x, y)))
        | .fine p => .ok (.nx (some p.1, []))) →
      (∀ many : Int, many = 2 ∨ many = 3 → ∀ (j : Nat) (l : Tx) (b : List Tx), ls[j]? = some l → b.length ≤ 6 → 1 + j ≤ 7 → b.length + 1 = 1 + j → f (some many, b) ((1 + j : Nat) : Int) = .ok (match rdWords many (1 + j) [flds l] b with
        | .bad x y => .rt (some (x, y))
        | .fine ws => .nx (some many, ws))) →
      (∀ many : Int, ∀ (j : Nat) (l : Tx) (b : List Tx), ls[j]? = some l → 6 < 1 + j → f (some many, b) ((1 + j : Nat) : Int) = .ok (.rt (some (((1 + j : Nat) : Int) + 1, 1)))) →
      (foldF f (0 :: (List.range' 1 ls.length).map fun (i : Nat) => (i : Int)) (none, []) >>= flK (fun b8 => Prog.ok ([] : List Tx) >>= fun (a : List Tx) => eqP (α := L Tx) (β := L Tx) b8.2 a >>= fun b116 => if b116 = true then Prog.ok (some (((l0 :: ls).length : Int) + 1, (1 : Int))) else Prog.ok none) id) = .ok (dueOf (rd ((l0 :: ls).map flds))) := by
    intro f h0 hk1 hk2
    rw [List.map_cons]
    have erd : ∀ many ws', rd [flds l0, [[97]]] = .fine (many, ws') → (many = 2 ∨ many = 3) ∧ rd (flds l0 :: ls.map flds) = match rdWords many 1 (ls.map flds) [] with
        | .bad l w => .bad l w
        | .fine ws => if ws = [] then .bad ((ls.length : Int) + 1 + 1) 1 else .fine (many, ws) := fun many ws' e => by
      unfold rd at e ⊢
      cases hf : flds l0 with
      | nil => rw [hf] at e; cases e
      | cons a q =>
        rw [hf] at e
        dsimp only at e ⊢
        by_cases ha : a ≠ sgnw
        · rw [if_pos ha] at e; cases e
        · rw [if_neg ha] at e ⊢
          cases q with
          | nil => cases e
          | cons d q =>
            dsimp only at e ⊢
            by_cases hd : d = [50] ∨ d = [51]
            · rw [if_pos hd] at e ⊢
              by_cases hq : q ≠ []
              · rw [if_pos hq] at e; cases e
              · rw [if_neg hq] at e ⊢
                have em : many = (if d = [50] then (2 : Int) else 3) := by
                  rcases hd with z | z <;> subst z <;> (simp [rdWords, wordOk, Lett] at e; exact e.1.symm)
                subst em
                refine ⟨by split <;> simp, ?_⟩
                rw [List.length_map]
                try (generalize rdWords (if d = [50] then (2 : Int) else 3) 1 (ls.map flds) [] = rr; cases rr <;> rfl)
            · rw [if_neg hd] at e; cases e
    have ebad : ∀ x y, rd [flds l0, [[97]]] = .bad x y → rd (flds l0 :: ls.map flds) = .bad x y := fun x y e => by
      unfold rd at e ⊢
      cases hf : flds l0 with
      | nil => rw [hf] at e; exact e
      | cons a q =>
        rw [hf] at e
        dsimp only at e ⊢
        by_cases ha : a ≠ sgnw
        · rw [if_pos ha] at e ⊢; exact e
        · rw [if_neg ha] at e ⊢
          cases q with
          | nil => exact e
          | cons d q =>
            dsimp only at e ⊢
            by_cases hd : d = [50] ∨ d = [51]
            · rw [if_pos hd] at e ⊢
              by_cases hq : q ≠ []
              · rw [if_pos hq] at e ⊢; exact e
              · rw [if_neg hq] at e
                exfalso
                rcases hd with z | z <;> subst z <;> simp [rdWords, wordOk, Lett] at e
            · rw [if_neg hd] at e ⊢; exact e
    show (f (none, []) 0 >>= _) >>= _ = _
    rw [h0]
    cases e0 : rd [flds l0, [[97]]] with
    | bad x y =>
      rw [ebad x y e0]
      rfl
    | fine p =>
      obtain ⟨many, ws'⟩ := p
      obtain ⟨hm, e1⟩ := erd many ws' e0
      rw [e1]
      have hfold := fold_due (many := many) (f := f) (r := ls) (known := []) (k := 1) (by omega) rfl (hk1 many hm) (hk2 many)
      refine (congrArg (fun m => m >>= _) hfold).trans ?_
      cases hr : rdWords many 1 (ls.map flds) [] with
      | bad x y => rfl
      | fine ws =>
        have hws := rdWords_ws (ws_nil many) rfl (fun f mf w mw => by
          obtain ⟨l, _, e⟩ := List.mem_map.1 mf
          exact flds_ne w (by rw [e]; exact mw)) hr
        show (eqP (α := L Tx) (β := L Tx) ws [] >>= _) = _
        refine bind_step (eqL_tx (ys := []) (fun w m => word_okT (hws.w w m)) (fun w m => (by cases m))) ?_
        dsimp only
        by_cases he : ws = []
        · rw [if_pos (decide_eq_true he), if_pos he]
          show Prog.ok _ = Prog.ok _
          rw [List.length_cons]
          rfl
        · rw [if_neg (by simpa using he), if_neg he]
          rfl
  refine key _ ?_ ?_ ?_
  · dsimp only
    have lb := h2 l0 List.mem_cons_self
    refine bind_step (x := l0) (getI_nat (by decide) rfl) ?_
    rw [small_of (by omega), show (true && !([32] : Tx).isEmpty) = true from rfl, chk_true, small_of (by have := splitT_length (c := 32) (by decide) l0; omega), chk_true]
    refine bind_step (flds_comp l0) ?_
    rw [if_pos (decide_eq_true rfl)]
    refine (congrArg (fun m => m >>= _) (due_first (h.ch l0 List.mem_cons_self))).trans ?_
    cases rd [flds l0, [[97]]] <;> rfl
  · intro many hm j l b hj h6 h7 hb
    dsimp only
    have ml : l ∈ ls := List.mem_of_getElem? hj
    have lb := h2 l (List.mem_cons_of_mem _ ml)
    have hc := h.ch l (List.mem_cons_of_mem _ ml)
    refine bind_step (x := l) (getI_nat (by omega) (by rw [show ((1 + j : Nat) : Int).toNat = j + 1 by omega]; exact hj)) ?_
    rw [small_of (by omega), show (true && !([32] : Tx).isEmpty) = true from rfl, chk_true, small_of (by have := splitT_length (c := 32) (by decide) l; omega), chk_true]
    refine bind_step (flds_comp l) ?_
    rw [if_neg (by simp; omega)]
    by_cases h8 : (6 : Int) < ((1 + j : Nat) : Int)
    · rw [if_pos (decide_eq_true h8)]
      show Prog.ok _ = Prog.ok _
      unfold rdWords
      rw [if_pos (by omega)]
    · rw [if_neg (by simpa using h8)]
      unfold rdWords
      rw [if_neg (show ¬ 6 < 1 + j by omega)]
      have e1 : eqP (α := L Tx) (β := L Tx) (flds l) [] = .ok (decide (flds l = [])) := eqL_tx (flds_okT hc) (fun w m => by cases m)
      cases hf : flds l with
      | nil =>
        rw [hf] at e1
        simp only [ok_bind, bind_bind]
        exact bind_step e1 rfl
      | cons w q =>
        rw [hf] at e1
        have mw : w ∈ flds l := by rw [hf]; exact List.mem_cons_self
        have e2 : m__law_is_word w many = .ok (wordOk many w) := isw_eq hm (Nat.le_trans (flds_part_le mw) (by omega)) (fun c mc => (hc c (flds_mem mw c mc)).2) (flds_ne w mw)
        have g0 : getI (w :: q) (0 : Int) = .ok w := getI_nat (by decide) rfl
        simp only [ok_bind, bind_bind]
        refine bind_step e1 ?_
        rw [decide_eq_false (by simp), if_neg Bool.false_ne_true, g0]
        simp only [ok_bind, bind_bind, fromSome]
        rw [e2]
        by_cases h3 : (!wordOk many w || decide (w ∈ b)) = true
        · rw [if_pos h3]
          by_cases h4 : wordOk many w = true
          · have h5 : w ∈ b := by rw [h4] at h3; simpa using h3
            rw [h4]
            simp only [ok_bind, Bool.not_true, Bool.false_eq_true, if_false]
            rw [memB_yes h5]
            rfl
          · have h4 : wordOk many w = false := by simpa using h4
            rw [h4]
            rfl
        · rw [if_neg h3]
          have h' : wordOk many w = true ∧ w ∉ b := by simpa using h3
          rw [h'.1]
          simp only [ok_bind, Bool.not_true, Bool.false_eq_true, if_false]
          rw [memB_no h'.2]
          simp only [Bool.false_eq_true, if_false]
          by_cases hq : q = []
          · subst hq
            rw [if_neg (by simp), small_of (by omega)]
            rfl
          · rw [if_pos hq, if_pos (decide_eq_true (by cases q with
              | nil => exact absurd rfl hq
              | cons _ _ => simp; omega))]
            rfl
  · intro many j l b hj h6
    dsimp only
    have ml : l ∈ ls := List.mem_of_getElem? hj
    have lb := h2 l (List.mem_cons_of_mem _ ml)
    refine bind_step (x := l) (getI_nat (by omega) (by rw [show ((1 + j : Nat) : Int).toNat = j + 1 by omega]; exact hj)) ?_
    rw [small_of (by omega), show (true && !([32] : Tx).isEmpty) = true from rfl, chk_true, small_of (by have := splitT_length (c := 32) (by decide) l; omega), chk_true]
    refine bind_step (flds_comp l) ?_
    rw [if_neg (by simp; omega), if_pos (decide_eq_true (by omega))]
    rfl
end K15

namespace K15
open PySem PySem.Spec PyProof.Rows L2 Ty
open Enc (enc)
theorem told_spec {ls : List Tx} {n m : Nat} (h : Ln n m ls) (hn : n ≤ 20) (hm : m ≤ 1000) : m__law_told (joinT [10] ls) = .ok (enc (dueOf (rd (ls.map flds)))) := by
  obtain ⟨h1, h2⟩ := h.to hn hm
  have hr := read_spec h.ne h1 h2
  unfold m__law_told
  simp only [ok_bind, bind_bind]
  rw [hr]
  cases rd (ls.map flds) with
  | bad l w => rfl
  | fine p => rfl
theorem eqv_due (o : Option (Int × Int)) : PyData.eqv (enc o) (enc o) = true ∧ SeqAt.shaped (enc o) = true := by
  cases o with
  | none => decide
  | some p =>
    have e : PyData.eqv (enc p) (enc p) = decide (p = p) := Shp.eqv p p
    refine ⟨by show PyData.eqv (enc p) (enc p) = true; rw [e]; exact decide_eq_true rfl, ?_⟩
    show SeqAt.shaped (enc p) = true
    have l1 : PyData.canLay0 (enc p) = true := Shp.lay p ⟨trivial, trivial⟩
    have l2 : (enc p : PyData).depth ≤ Shp.dep (Int × Int) := Shp.dle p
    unfold SeqAt.shaped
    rw [l1, decide_eq_true (show (enc p : PyData).depth ≤ 64 from Nat.le_trans l2 (by decide))]
    rfl
theorem ne_due (o : Option (Int × Int)) : neP (α := PyData) (β := Option (Int × Int)) (enc o) o = .ok false := by
  obtain ⟨a, b⟩ := eqv_due o
  unfold neP
  rw [show (enc (enc o : PyData) : PyData) = enc o from rfl, b, a]
  rfl
/-! ### the law's changes keep lines lines -/
theorem Ln.mono {n m n' m' : Nat} {ls : List Tx} (h : Ln n m ls) (hn : n ≤ n') (hm : m ≤ m') : Ln n' m' ls := ⟨h.ne, Nat.le_trans h.len hn, h.ch, fun l ml => Nat.le_trans (h.ll l ml) hm⟩
theorem Ln.of {n m n' : Nat} {ls ks : List Tx} (h : Ln n m ls) (ne : ks ≠ []) (hl : ks.length ≤ n') (hs : ∀ l ∈ ks, l ∈ ls) : Ln n' m ks := ⟨ne, hl, fun l ml => h.ch l (hs l ml), fun l ml => h.ll l (hs l ml)⟩
def more : List Tx := [[97], [98], [99], [97, 98], [97, 98, 97, 98], [97, 98, 97, 98, 97], [65], [50], [51], [52], [115, 105, 103, 110, 115], [48, 50], [63]]
theorem more_ok : ∀ w ∈ more, w.length ≤ 5 ∧ ∀ c ∈ w, Chr c := by
  have : ∀ w ∈ more, w.length ≤ 5 ∧ ∀ c ∈ w, (c ≠ 10 ∧ c < 1000) := by decide
  exact this
theorem join_chr {ps : List Tx} (h : ∀ p ∈ ps, ∀ c ∈ p, Chr c) : ∀ c ∈ joinT [32] ps, Chr c := fun c mc => by
  rcases joinL_mem mc with e | ⟨p, mp, mc⟩
  · rw [List.mem_singleton.1 e]; exact ⟨by decide, by decide⟩
  · exact h p mp c mc
theorem Ln.put {n m : Nat} {ls : List Tx} (h : Ln n m ls) (k : Nat) (hk : k < ls.length) {x : Tx} (hx : ∀ c ∈ x, Chr c) (hl : x.length ≤ m + 7) : Ln n (m + 7) (ls.take k ++ [x] ++ ls.drop (k + 1)) := by
  refine ⟨by simp, ?_, fun l ml => ?_, fun l ml => ?_⟩
  · have := h.len
    simp
    omega
  · rcases List.mem_append.1 ml with ml | ml
    · rcases List.mem_append.1 ml with ml | ml
      · exact h.ch l (List.mem_of_mem_take ml)
      · rw [List.mem_singleton.1 ml]; exact hx
    · exact h.ch l (List.mem_of_mem_drop ml)
  · rcases List.mem_append.1 ml with ml | ml
    · rcases List.mem_append.1 ml with ml | ml
      · have := h.ll l (List.mem_of_mem_take ml); omega
      · rw [List.mem_singleton.1 ml]; exact hl
    · have := h.ll l (List.mem_of_mem_drop ml); omega
theorem cut_one {α : Type} {xs : List α} {k : Int} (h : 0 ≤ k) : cut xs (some k) (some (k + 1)) = (xs.drop k.toNat).take 1 := by
  unfold cut
  rw [sIx_lo _ _ h, sIx_lo _ _ (show 0 ≤ k + 1 by omega)]
  by_cases hk : k.toNat < xs.length
  · rw [Nat.min_eq_left (by omega), Nat.min_eq_left (by omega)]
    congr 1
    omega
  · rw [List.drop_eq_nil_of_le (by omega), List.drop_eq_nil_of_le (by omega)]
    simp
theorem wp_spoil {ls : List Tx} {n m : Nat} (h : Ln n m ls) (hn : n ≤ 15) (hm : m ≤ 500) : wp (m__law_spoil ls) (fun (ks : List Tx) => Ln (n + 1) (m + 7) ks) (fun _ => False) := by
  unfold m__law_spoil
  simp only [m__law_next, L, un, ok_bind, bind_bind, draw_bind, chk_bind]
  have l0 : 1 ≤ ls.length := by
    have := h.ne
    cases ls with
    | nil => exact absurd rfl this
    | cons _ _ => simp
  have ln := h.len
  refine ⟨by omega, by omega, fun k k0 k1 => ⟨by omega, by omega, fun p p0 p1 => ?_⟩⟩
  dsimp only
  have kn : (k + 1).toNat = k.toNat + 1 := by omega
  rw [cut_to k0, cut_from k0, cut_from (show 0 ≤ k + 1 by omega), cut_one k0, kn]
  generalize hK : k.toNat = K
  have hK1 : K < ls.length := by omega
  have hT : (ls.take K).length = K := by rw [List.length_take]; omega
  have hD : (ls.drop K).length = ls.length - K := List.length_drop
  have hD1 : (ls.drop (K + 1)).length = ls.length - (K + 1) := List.length_drop
  have hM : ((ls.drop K).take 1).length = 1 := by rw [List.length_take]; omega
  by_cases e0 : p = 0
  · rw [if_pos (decide_eq_true e0)]
    by_cases h1 : (1 : Int) < ls.length
    · have h1' : 1 < ls.length := by omega
      rw [if_pos (decide_eq_true h1), small_of (by omega), chk_true]
      refine (h.of (n' := n + 1) ?_ ?_ fun l ml => ?_).mono (Nat.le_refl _) (by omega)
      · intro z
        have := congrArg List.length z
        rw [List.length_append, List.length_nil, hD1, hT] at this
        omega
      · rw [List.length_append]; omega
      · rcases List.mem_append.1 ml with z | z
        · exact List.mem_of_mem_take z
        · exact List.mem_of_mem_drop z
    · rw [if_neg (by simpa using h1)]
      exact h.mono (by omega) (by omega)
  rw [if_neg (by simpa using e0)]
  by_cases e1 : p = 1
  · rw [if_pos (decide_eq_true e1), small_of (by omega), chk_true, small_of (by rw [List.length_append]; omega), chk_true]
    refine (h.of (n' := n + 1) ?_ ?_ fun l ml => ?_).mono (Nat.le_refl _) (by omega)
    · intro z
      have := congrArg List.length z
      rw [List.length_append, List.length_append, hM] at this
      simp at this
    · rw [List.length_append, List.length_append]; omega
    · rcases List.mem_append.1 ml with z | z
      · rcases List.mem_append.1 z with z | z
        · exact List.mem_of_mem_take z
        · exact List.mem_of_mem_drop (List.mem_of_mem_take z)
      · exact List.mem_of_mem_drop z
  rw [if_neg (by simpa using e1)]
  by_cases e2 : p = 2
  · rw [if_pos (decide_eq_true e2), small_of (by omega), chk_true]
    refine (h.of (n' := n + 1) ?_ ?_ fun l ml => ?_).mono (Nat.le_refl _) (by omega)
    · intro z
      have := congrArg List.length z
      rw [List.length_append, List.length_nil] at this
      omega
    · rw [List.length_append]; omega
    · rcases List.mem_append.1 ml with z | z
      · exact List.mem_of_mem_drop z
      · exact List.mem_of_mem_take z
  rw [if_neg (by simpa using e2)]
  have ex : ls[K]? = some ls[K] := List.getElem?_eq_getElem hK1
  have mx : ls[K] ∈ ls := List.getElem_mem hK1
  generalize ls[K] = x at ex mx
  have lx := h.ll x mx
  have cx := h.ch x mx
  refine wp_bind.2 (wp_eq_ok (getI_nat (a := x) k0 (by rw [hK]; exact ex)) ?_)
  have hs1 := splitT_length (c := 32) (by decide) x
  have hs2 := splitT_sum (c := 32) (by decide) x
  have hs3 : ∀ q ∈ splitT x [32], ∀ c ∈ q, Chr c := fun q mq c mc => cx c (splitT_mem (by decide) mq c mc)
  generalize splitT x [32] = ps at hs1 hs2 hs3 ⊢
  rw [small_of (by omega), show (true && !([32] : Tx).isEmpty) = true from rfl, chk_true]
  refine ⟨by omega, by omega, fun v v0 v1 => ?_⟩
  dsimp only
  rw [cut_to v0]
  have hst := sumLen_take ps v.toNat
  have hlt : (ps.take v.toNat).length ≤ ps.length := by rw [List.length_take]; omega
  have hct : ∀ q ∈ ps.take v.toNat, ∀ c ∈ q, Chr c := fun q mq => hs3 q (List.mem_of_mem_take mq)
  by_cases e3 : p = 3
  · rw [if_pos (decide_eq_true e3), small_of (by show _ + _ * 1 ≤ _; omega), chk_true]
    have hj := joinT_length 32 (ps.take v.toNat)
    refine wp_bind.2 (wp_eq_ok (x := [joinT [32] (ps.take v.toNat)]) (if_pos (by simp)) ?_)
    rw [small_of (by rw [hT]; simp; omega), chk_true, small_of (by rw [List.length_append, hT, hD1]; simp; omega), chk_true]
    exact (h.put K hK1 (join_chr hct) (by omega)).mono (by omega) (Nat.le_refl _)
  rw [if_neg (by simpa using e3)]
  refine wp_bind.2 (wp_eq_ok (x := more) (if_pos (by decide)) ?_)
  refine ⟨by decide, by decide, fun i i0 i1 => ?_⟩
  obtain ⟨z, ez, mz, hz⟩ := getI_ex (xs := more) i0 i1
  refine wp_bind.2 (wp_eq_ok hz ?_)
  obtain ⟨lz, cz⟩ := more_ok z mz
  refine wp_bind.2 (wp_eq_ok (x := [z]) (if_pos (by simp)) ?_)
  obtain ⟨d, hd, hd0, hd1⟩ : ∃ d : Int, v + (if decide (4 < p) = true then (1 : Int) else 0) = d ∧ v ≤ d ∧ 0 ≤ d := ⟨_, rfl, by split <;> omega, by split <;> omega⟩
  rw [hd, cut_from hd1]
  have htd := sumLen_td ps v.toNat d.toNat (by omega)
  have hlq : (ps.take v.toNat ++ [z] ++ ps.drop d.toNat).length ≤ ps.length + 1 := by
    rw [List.length_append, List.length_append, List.length_take, List.length_drop]
    simp
    omega
  have hsq : sumLen (ps.take v.toNat ++ [z] ++ ps.drop d.toNat) ≤ sumLen ps + 5 := by
    rw [sumLen_app, sumLen_app]
    have : sumLen [z] = z.length := by simp [sumLen]
    omega
  have hcq : ∀ q ∈ ps.take v.toNat ++ [z] ++ ps.drop d.toNat, ∀ c ∈ q, Chr c := fun q mq => by
    rcases List.mem_append.1 mq with y | y
    · rcases List.mem_append.1 y with y | y
      · exact hct q y
      · rw [List.mem_singleton.1 y]; exact cz
    · exact hs3 q (List.mem_of_mem_drop y)
  rw [small_of (by rw [List.length_singleton]; omega), chk_true]
  have hl2 : (ps.take v.toNat ++ [z]).length + (ps.drop d.toNat).length ≤ ps.length + 1 := by rw [← List.length_append]; exact hlq
  rw [small_of (by omega), chk_true]
  generalize ps.take v.toNat ++ [z] ++ ps.drop d.toNat = qs at hlq hsq hcq ⊢
  rw [small_of (by show _ + _ * 1 ≤ _; omega), chk_true]
  have hj := joinT_length 32 qs
  refine wp_bind.2 (wp_eq_ok (x := [joinT [32] qs]) (if_pos (by simp)) ?_)
  rw [small_of (by rw [hT]; simp; omega), chk_true, small_of (by rw [List.length_append, hT, hD1]; simp; omega), chk_true]
  exact (h.put K hK1 (join_chr hcq) (by omega)).mono (by omega) (Nat.le_refl _)
end K15

namespace K15
open PySem PySem.Spec PyProof.Rows L2 Ty
open Enc (enc)
theorem word_free {many : Int} {w : Tx} (h : Word many w) {c : Nat} (hc : c < 97) : c ∉ w := fun m => by
  rcases h.1 c m with e | e | e <;> omega
def sgn (many : Int) : Tx := [115, 105, 103, 110, 115, 32] ++ digit many
theorem sgn_eq (many : Int) : sgn many = [115, 105, 103, 110, 115] ++ 32 :: digit many := rfl
theorem sgn_split (many : Int) : splitT (sgn many) [32] = [[115, 105, 103, 110, 115], digit many] := by
  rw [sgn_eq]
  exact split_two (by decide) (by decide) (by unfold digit; split <;> decide)
theorem sgn_flds (many : Int) : flds (sgn many) = [[115, 105, 103, 110, 115], digit many] := by
  unfold flds
  rw [sgn_split]
  unfold digit
  split <;> rfl
theorem sgn_10 (many : Int) : 10 ∉ sgn many ∧ (sgn many).length ≤ 10 := by
  unfold sgn digit
  split <;> decide
theorem write_ok {many : Int} {ws : List Tx} (h : Cd many ws) : m_write_code ⟨many, ws⟩ = .ok (joinT [10] (sgn many :: ws)) := by
  have l6 := h.l6
  have hs := sumLen_le (n := 10) (ps := sgn many :: ws) fun p mp => by
    rcases List.mem_cons.1 mp with e | e
    · rw [e]; exact (sgn_10 many).2
    · exact Nat.le_trans (h.w p e).2.2 (by decide)
  rw [List.length_cons] at hs
  have hd : (digit many).length = 1 := by unfold digit; split <;> rfl
  unfold m_write_code
  simp only [ok_bind, bind_bind, L, un, chk_bind, strI_ok h.m]
  rw [show small ([115, 105, 103, 110, 115, 32] : Tx).length = true from rfl, chk_true, hd, show small (([115, 105, 103, 110, 115, 32] : Tx).length + 1) = true from rfl, chk_true]
  rw [List.append_nil]
  refine bind_step (x := sgn many :: ws) ?_ ?_
  · exact if_pos (by simp; omega)
  · show chk (small (sumLen (sgn many :: ws) + (sgn many :: ws).length * 1)) _ = _
    rw [small_of (by rw [List.length_cons]; omega)]
    rfl
theorem law_true : wp m_law (fun b => b = true) (fun _ => False) := by
  unfold m_law
  simp only [L, un, ok_bind, bind_bind, chk_bind, m__law_next, draw_bind]
  refine wp_bind.2 (wp_mono (wp_code (by decide) (by decide)) fun t h => ?_)
  obtain ⟨many, ws⟩ := t
  have h : Cd many ws := h
  have l6 := h.l6
  have hb : m__law_built ⟨many, ws⟩ = .ok ⟨many, ws⟩ := by
    unfold m__law_built
    simp only [ok_bind, bind_bind, init_ok h]
  refine wp_bind.2 (wp_eq_ok hb (wp_bind.2 (wp_eq_ok (write_ok h) ?_)))
  have hlines : ∀ l ∈ sgn many :: ws, (∀ c ∈ l, Chr c) ∧ l.length ≤ 10 := fun l m => by
    rcases List.mem_cons.1 m with e | e
    · rw [e]
      unfold sgn digit
      split <;> (refine ⟨?_, by decide⟩; show ∀ c ∈ _, c ≠ 10 ∧ c < 1000; decide)
    · refine ⟨fun c mc => ?_, Nat.le_trans (h.w l e).2.2 (by decide)⟩
      have := (h.w l e).1 c mc
      rcases this with r | r | r <;> exact ⟨by omega, by omega⟩
  have hL : Ln 7 10 (sgn many :: ws) := ⟨by simp, by simp; omega, fun l m => (hlines l m).1, fun l m => (hlines l m).2⟩
  have hsp : splitT (joinT [10] (sgn many :: ws)) [10] = sgn many :: ws := split_join (by decide) (by simp) fun p mp => fun z => ((hlines p mp).1 10 z).1 rfl
  have hj := joinT_length 10 (sgn many :: ws)
  have hs := sumLen_le (n := 10) fun p mp => (hlines p mp).2
  rw [List.length_cons] at hs hj
  rw [small_of (by omega), show (true && !([10] : Tx).isEmpty) = true from rfl, chk_true, hsp]
  refine ⟨by omega, by omega, fun k k0 k1 => wp_chk_of (decide_eq_true (by omega)) ?_⟩
  have lr : (rng 0 k).length ≤ 2 := by simp [rng]; omega
  refine wp_bind.2 (wp_mono (wp_foldP' (Inv := fun r (b : List Tx) => Ln (9 - r.length) (24 - 7 * r.length) b ∧ r.length ≤ 2) (xs := rng 0 k) ⟨hL.mono (by omega) (by omega), lr⟩ fun b a r hb => ?_) fun ls hls => ?_)
  · obtain ⟨hb, hr⟩ := hb
    rw [List.length_cons] at hb hr
    exact wp_bind.2 (wp_mono (show wp (m__law_spoil b) _ _ from wp_spoil hb (by omega) (by omega)) fun (ks : List Tx) hk => ⟨hk.mono (by omega) (by omega), by omega⟩)
  · have hls : Ln 9 24 ls := by simpa using hls.1
    have hj := joinT_length 10 ls
    have hs := sumLen_le (n := 24) fun p mp => hls.ll p mp
    have hl9 := hls.len
    rw [small_of (by show _ + _ * 1 ≤ _; omega), chk_true]
    refine wp_bind.2 (wp_eq_ok (told_spec hls (by decide) (by decide)) (wp_bind.2 (wp_eq_ok (due_spec hls (by decide) (by decide)) (wp_bind.2 (wp_eq_ok (ne_due _) ?_)))))
    rw [if_neg Bool.false_ne_true]
    have t1 := told_spec (ls := [sgn 2, [97], [98], [97, 97], [97, 98], [98, 97], [98, 98], [97, 98, 97, 98]]) (n := 9) (m := 24) ⟨by simp, by decide, by show ∀ l ∈ _, ∀ c ∈ l, c ≠ 10 ∧ c < 1000; decide, by decide⟩ (by decide) (by decide)
    have t2 := told_spec (ls := [[]]) (n := 9) (m := 24) ⟨by simp, by decide, by show ∀ l ∈ _, ∀ c ∈ l, c ≠ 10 ∧ c < 1000; decide, by decide⟩ (by decide) (by decide)
    have t3 := told_spec (ls := [sgn 3]) (n := 9) (m := 24) ⟨by simp, by decide, by show ∀ l ∈ _, ∀ c ∈ l, c ≠ 10 ∧ c < 1000; decide, by decide⟩ (by decide) (by decide)
    have d1 : dueOf (rd ([sgn 2, [97], [98], [97, 97], [97, 98], [98, 97], [98, 98], [97, 98, 97, 98]].map flds)) = some (8, 1) := by
      simp only [List.map_cons, List.map_nil, sgn_flds, flds_one (show 32 ∉ [97] by decide) (by decide), flds_one (show 32 ∉ [98] by decide) (by decide), flds_one (show 32 ∉ [97, 97] by decide) (by decide), flds_one (show 32 ∉ [97, 98] by decide) (by decide), flds_one (show 32 ∉ [98, 97] by decide) (by decide), flds_one (show 32 ∉ [98, 98] by decide) (by decide), flds_one (show 32 ∉ [97, 98, 97, 98] by decide) (by decide)]
      decide
    have d2 : dueOf (rd ([[]].map flds)) = some (1, 1) := by
      simp only [List.map_cons, List.map_nil, flds_nil]
      decide
    have d3 : dueOf (rd ([sgn 3].map flds)) = some (2, 1) := by
      simp only [List.map_cons, List.map_nil, sgn_flds]
      decide
    rw [d1] at t1
    rw [d2] at t2
    rw [d3] at t3
    have n1 : ∀ p : Int × Int, neP (α := PyData) (β := Int × Int) (enc (some p)) p = .ok false := fun p => ne_due (some p)
    have e1 : ∀ p : Int × Int, eqP (α := PyData) (β := Int × Int) (enc (some p)) p = .ok true := fun p => by
      obtain ⟨a, b⟩ := eqv_due (some p)
      unfold eqP
      rw [show (enc (enc (some p) : PyData) : PyData) = enc (some p) from rfl, show (enc p : PyData) = enc (some p) from rfl, b, a]
      rfl
    refine wp_bind.2 (wp_eq_ok t1 (wp_bind.2 (wp_eq_ok (n1 (8, 1)) ?_)))
    rw [if_neg Bool.false_ne_true]
    refine wp_bind.2 (wp_eq_ok t2 (wp_bind.2 (wp_eq_ok (e1 (1, 1)) ?_)))
    rw [if_pos rfl]
    refine wp_bind.2 (wp_eq_ok t3 (wp_eq_ok (e1 (2, 1)) rfl))
end K15

namespace K15
open PySem PySem.Spec PyProof.Rows L2 Ty
open Enc (enc)
theorem all_mk {l : PySem.W.OpenLaw} {w : World} {K : PySem.W.Frag} {h : Heap} {mg : Str → Option Value} {fa : Addr} (X : K.In h) (N : h.Ns mainGlobals mg) (hfa : mg "law" = some (.ref fa)) (hm : wp m_law (fun b => b = true) (fun _ => False))
    {C_Line : Addr} {C_Code : Addr} {p_many : Addr} {p_parts : Addr} {X_InvalidText : Addr} {nm_InvalidText q_InvalidText : Str} {N_InvalidText : Addr} {bs_InvalidText bm_InvalidText : List Value} {sn_InvalidText : List Str} {sub_InvalidText : List Value} {ab_InvalidText : Bool} {col_InvalidText : Option Bool} {dd_InvalidText : Option Addr} {m0_InvalidText m1_InvalidText m2_InvalidText m3_InvalidText m5_InvalidText : Option Value} {xf_InvalidText : Addr} {xod_InvalidText xan_InvalidText : Option Addr} {xsl_InvalidText : Array (Option Value)} {xoc_InvalidText xkV_InvalidText xdc_InvalidText xpm_InvalidText xcd_InvalidText xct_InvalidText : Value} {f0 : Addr} {od0 an0 : Option Addr} {sl0 : Array (Option Value)} {oc0 kV0 dc0 pm0 cd0 ct0 : Value} {f1 : Addr} {od1 an1 : Option Addr} {sl1 : Array (Option Value)} {oc1 kV1 dc1 pm1 cd1 ct1 : Value} {f2 : Addr} {od2 an2 : Option Addr} {sl2 : Array (Option Value)} {oc2 kV2 dc2 pm2 cd2 ct2 : Value} {f3 : Addr} {od3 an3 : Option Addr} {sl3 : Array (Option Value)} {oc3 kV3 dc3 pm3 cd3 ct3 : Value} {f4 : Addr} {od4 an4 : Option Addr} {sl4 : Array (Option Value)} {oc4 kV4 dc4 pm4 cd4 ct4 : Value} {f5 : Addr} {od5 an5 : Option Addr} {sl5 : Array (Option Value)} {oc5 kV5 dc5 pm5 cd5 ct5 : Value} {f6 : Addr} {od6 an6 : Option Addr} {sl6 : Array (Option Value)} {oc6 kV6 dc6 pm6 cd6 ct6 : Value} {f7 : Addr} {od7 an7 : Option Addr} {sl7 : Array (Option Value)} {oc7 kV7 dc7 pm7 cd7 ct7 : Value} {f8 : Addr} {od8 an8 : Option Addr} {sl8 : Array (Option Value)} {oc8 kV8 dc8 pm8 cd8 ct8 : Value} {f9 : Addr} {od9 an9 : Option Addr} {sl9 : Array (Option Value)} {oc9 kV9 dc9 pm9 cd9 ct9 : Value} {f10 : Addr} {od10 an10 : Option Addr} {sl10 : Array (Option Value)} {oc10 kV10 dc10 pm10 cd10 ct10 : Value} {f11 : Addr} {od11 an11 : Option Addr} {sl11 : Array (Option Value)} {oc11 kV11 dc11 pm11 cd11 ct11 : Value} {f12 : Addr} {od12 an12 : Option Addr} {sl12 : Array (Option Value)} {oc12 kV12 dc12 pm12 cd12 ct12 : Value} {f13 : Addr} {od13 an13 : Option Addr} {sl13 : Array (Option Value)} {oc13 kV13 dc13 pm13 cd13 ct13 : Value} {f14 : Addr} {od14 an14 : Option Addr} {sl14 : Array (Option Value)} {oc14 kV14 dc14 pm14 cd14 ct14 : Value} {f15 : Addr} {od15 an15 : Option Addr} {sl15 : Array (Option Value)} {oc15 kV15 dc15 pm15 cd15 ct15 : Value} {f16 : Addr} {od16 an16 : Option Addr} {sl16 : Array (Option Value)} {oc16 kV16 dc16 pm16 cd16 ct16 : Value} {f17 : Addr} {od17 an17 : Option Addr} {sl17 : Array (Option Value)} {oc17 kV17 dc17 pm17 cd17 ct17 : Value} {f18 : Addr} {od18 an18 : Option Addr} {sl18 : Array (Option Value)} {oc18 kV18 dc18 pm18 cd18 ct18 : Value} {f19 : Addr} {od19 an19 : Option Addr} {sl19 : Array (Option Value)} {oc19 kV19 dc19 pm19 cd19 ct19 : Value} {f20 : Addr} {od20 an20 : Option Addr} {sl20 : Array (Option Value)} {oc20 kV20 dc20 pm20 cd20 ct20 : Value} {tk_LETTERS : Tok} {tk_MOST_SIGNS : Tok} {tk_MOST_WORDS : Tok}
    (aC_Line : PySem.W.nsIn K mainGlobals "Line" = some (some (.ref C_Line)))
    (pg_Line : PySem.W.plainGet K C_Line Str.empty = true)
    (po_Line : PySem.W.plainOver K C_Line = true)
    (sa_Line : PySem.W.findIn K (.ref C_Line) "__setattr__" = some (some (.builtin "object.__setattr__")))
    (mk_Line : PySem.W.makesIn K C_Line = true)
    (kC_Line : PySem.W.keepIn K (.ref C_Line) = true)
    (hd_Line : PySem.W.hasDictIn K C_Line = true)
    (aC_Code : PySem.W.nsIn K mainGlobals "Code" = some (some (.ref C_Code)))
    (pg_Code : PySem.W.plainGet K C_Code Str.empty = true)
    (po_Code : PySem.W.plainOver K C_Code = true)
    (sa_Code : PySem.W.findIn K (.ref C_Code) "__setattr__" = some (some (.builtin "object.__setattr__")))
    (mk_Code : PySem.W.makesIn K C_Code = true)
    (kC_Code : PySem.W.keepIn K (.ref C_Code) = true)
    (ic_Code : PySem.W.isClsIn K C_Code = true)
    (at_many : PySem.W.findIn K (.ref C_Code) "many" = some (some (.ref p_many)))
    (gt_many : PySem.W.specialIn K (.ref p_many) "__get__" = some (some (.builtin "member_descriptor.__get__")))
    (tk_many : PySem.W.takesIn K (.ref p_many) = some true)
    (ty_many : PySem.W.typeIn K (.ref p_many) = some (.type "member_descriptor"))
    (ix_many : PySem.W.slotIn K p_many C_Code = some 0)
    (at_parts : PySem.W.findIn K (.ref C_Code) "parts" = some (some (.ref p_parts)))
    (gt_parts : PySem.W.specialIn K (.ref p_parts) "__get__" = some (some (.builtin "member_descriptor.__get__")))
    (tk_parts : PySem.W.takesIn K (.ref p_parts) = some true)
    (ty_parts : PySem.W.typeIn K (.ref p_parts) = some (.type "member_descriptor"))
    (ix_parts : PySem.W.slotIn K p_parts C_Code = some 1)
    (ca_Code : PySem.W.findIn K (.ref C_Code) "__class__" = some (some (.builtin "object.__class__")))
    (cn_Code : PySem.W.specialIn K (.builtin "object.__class__") "__get__" = some (some (.builtin "getset_descriptor.__get__")))
    (ct_Code : PySem.W.takesIn K (.builtin "object.__class__") = some true)
    (cm_Code : PySem.W.mroIn K C_Code (.type "object") = some true)
    (aX_InvalidText : PySem.W.nsIn K mainGlobals "InvalidText" = some (some (.ref X_InvalidText)))
    (bX_InvalidText : PySem.W.subIn K (.ref X_InvalidText) (.type "BaseException") = some true)
    (tX_InvalidText : PySem.W.typeIn K (.ref X_InvalidText) = some (.type "type"))
    (kX_InvalidText : PySem.W.keepIn K (.ref X_InvalidText) = true)
    (iX_InvalidText : PySem.W.isClsIn K X_InvalidText = true)
    (xL_InvalidText : K.lookup X_InvalidText = some (excClassObj nm_InvalidText q_InvalidText X_InvalidText N_InvalidText bs_InvalidText bm_InvalidText true sn_InvalidText sub_InvalidText ab_InvalidText col_InvalidText dd_InvalidText m0_InvalidText m1_InvalidText m2_InvalidText m3_InvalidText m5_InvalidText "ValueError.__new__"))
    (rv_InvalidText : PySem.HandSPX.refsVE bm_InvalidText = true)
    (xs_InvalidText : PySem.W.findIn K (.ref X_InvalidText) "__setattr__" = some (some (.builtin "object.__setattr__")))
    (xi_InvalidText : PySem.W.findIn K (.ref X_InvalidText) "__init__" = some (some (.ref xf_InvalidText)))
    (xt_InvalidText : PySem.W.typeIn K (.ref xf_InvalidText) = some (.type "function"))
    (xl_InvalidText : K.lookup xf_InvalidText = some ⟨xoc_InvalidText, xod_InvalidText, .func (PySem.W.fnOf "__init__" "InvalidText.__init__" (defArgs s_InvalidText___init__) (defBody s_InvalidText___init__) (defScope s_InvalidText___init__) .none xkV_InvalidText xdc_InvalidText xpm_InvalidText xan_InvalidText xcd_InvalidText xct_InvalidText), xsl_InvalidText⟩)
    (xc_InvalidText : PySem.W.codeIn K xcd_InvalidText "InvalidText.__init__" = true)
    (xk_InvalidText : PySem.W.keepIn K (.ref xf_InvalidText) = true)
    (xn_InvalidText_line : PySem.W.findIn K (.ref X_InvalidText) "line" = some none)
    (xn_InvalidText_word : PySem.W.findIn K (.ref X_InvalidText) "word" = some none)
    (xga_InvalidText : PySem.W.findIn K (.ref X_InvalidText) "__getattribute__" = some (some (.builtin "BaseException.__getattribute__")))
    (xgg_InvalidText : PySem.W.findIn K (.ref X_InvalidText) "__getattr__" = some none)
    (xhd_InvalidText : PySem.W.hasDictIn K X_InvalidText = true)
    (s_InvalidText_InvalidText : PySem.W.subIn K (.ref X_InvalidText) (.ref X_InvalidText) = some true)
    (n_Line_number : PySem.W.findIn K (.ref C_Line) "number" = some none)
    (n_Line_parts : PySem.W.findIn K (.ref C_Line) "parts" = some none)
    (n_Line_place : PySem.W.findIn K (.ref C_Line) "place" = some none)
    (a0 : PySem.W.nsIn K mainGlobals "_law_mix" = some (some (.ref f0)))
    (l0 : K.lookup f0 = some ⟨oc0, od0, .func (PySem.W.fnOf "_law_mix" "_law_mix" (defArgs s__law_mix) (defBody s__law_mix) (defScope s__law_mix) .none kV0 dc0 pm0 an0 cd0 ct0), sl0⟩)
    (c0 : PySem.W.codeIn K cd0 "_law_mix" = true)
    (k0 : PySem.W.keepIn K (.ref f0) = true)
    (a1 : PySem.W.nsIn K mainGlobals "_law_next" = some (some (.ref f1)))
    (l1 : K.lookup f1 = some ⟨oc1, od1, .func (PySem.W.fnOf "_law_next" "_law_next" (defArgs s__law_next) (defBody s__law_next) (defScope s__law_next) .none kV1 dc1 pm1 an1 cd1 ct1), sl1⟩)
    (c1 : PySem.W.codeIn K cd1 "_law_next" = true)
    (k1 : PySem.W.keepIn K (.ref f1) = true)
    (a2 : PySem.W.nsIn K mainGlobals "is_integer" = some (some (.ref f2)))
    (l2 : K.lookup f2 = some ⟨oc2, od2, .func (PySem.W.fnOf "is_integer" "is_integer" (defArgs s_is_integer) (defBody s_is_integer) (defScope s_is_integer) .none kV2 dc2 pm2 an2 cd2 ct2), sl2⟩)
    (c2 : PySem.W.codeIn K cd2 "is_integer" = true)
    (k2 : PySem.W.keepIn K (.ref f2) = true)
    (a3 : PySem.W.nsIn K mainGlobals "is_string" = some (some (.ref f3)))
    (l3 : K.lookup f3 = some ⟨oc3, od3, .func (PySem.W.fnOf "is_string" "is_string" (defArgs s_is_string) (defBody s_is_string) (defScope s_is_string) .none kV3 dc3 pm3 an3 cd3 ct3), sl3⟩)
    (c3 : PySem.W.codeIn K cd3 "is_string" = true)
    (k3 : PySem.W.keepIn K (.ref f3) = true)
    (a4 : PySem.W.nsIn K mainGlobals "look_at_words" = some (some (.ref f4)))
    (l4 : K.lookup f4 = some ⟨oc4, od4, .func (PySem.W.fnOf "look_at_words" "look_at_words" (defArgs s_look_at_words) (defBody s_look_at_words) (defScope s_look_at_words) .none kV4 dc4 pm4 an4 cd4 ct4), sl4⟩)
    (c4 : PySem.W.codeIn K cd4 "look_at_words" = true)
    (k4 : PySem.W.keepIn K (.ref f4) = true)
    (a5 : PySem.W.findIn K (.ref C_Code) "__init__" = some (some (.ref f5)))
    (i5 : PySem.W.isFn K (.ref f5) = true)
    (l5 : K.lookup f5 = some ⟨oc5, od5, .func (PySem.W.fnOf "__init__" "Code.__init__" (defArgs s_Code___init__) (defBody s_Code___init__) (defScope s_Code___init__) .none kV5 dc5 pm5 an5 cd5 ct5), sl5⟩)
    (c5 : PySem.W.codeIn K cd5 "Code.__init__" = true)
    (k5 : PySem.W.keepIn K (.ref f5) = true)
    (a6 : PySem.W.nsIn K mainGlobals "write_code" = some (some (.ref f6)))
    (l6 : K.lookup f6 = some ⟨oc6, od6, .func (PySem.W.fnOf "write_code" "write_code" (defArgs s_write_code) (defBody s_write_code) (defScope s_write_code) .none kV6 dc6 pm6 an6 cd6 ct6), sl6⟩)
    (c6 : PySem.W.codeIn K cd6 "write_code" = true)
    (k6 : PySem.W.keepIn K (.ref f6) = true)
    (a7 : PySem.W.findIn K (.ref C_Line) "__init__" = some (some (.ref f7)))
    (i7 : PySem.W.isFn K (.ref f7) = true)
    (l7 : K.lookup f7 = some ⟨oc7, od7, .func (PySem.W.fnOf "__init__" "Line.__init__" (defArgs s_Line___init__) (defBody s_Line___init__) (defScope s_Line___init__) .none kV7 dc7 pm7 an7 cd7 ct7), sl7⟩)
    (c7 : PySem.W.codeIn K cd7 "Line.__init__" = true)
    (k7 : PySem.W.keepIn K (.ref f7) = true)
    (a8 : PySem.W.findIn K (.ref C_Line) "refuse" = some (some (.ref f8)))
    (i8 : PySem.W.isFn K (.ref f8) = true)
    (l8 : K.lookup f8 = some ⟨oc8, od8, .func (PySem.W.fnOf "refuse" "Line.refuse" (defArgs s_Line_refuse) (defBody s_Line_refuse) (defScope s_Line_refuse) .none kV8 dc8 pm8 an8 cd8 ct8), sl8⟩)
    (c8 : PySem.W.codeIn K cd8 "Line.refuse" = true)
    (k8 : PySem.W.keepIn K (.ref f8) = true)
    (a9 : PySem.W.findIn K (.ref C_Line) "take_one" = some (some (.ref f9)))
    (i9 : PySem.W.isFn K (.ref f9) = true)
    (l9 : K.lookup f9 = some ⟨oc9, od9, .func (PySem.W.fnOf "take_one" "Line.take_one" (defArgs s_Line_take_one) (defBody s_Line_take_one) (defScope s_Line_take_one) .none kV9 dc9 pm9 an9 cd9 ct9), sl9⟩)
    (c9 : PySem.W.codeIn K cd9 "Line.take_one" = true)
    (k9 : PySem.W.keepIn K (.ref f9) = true)
    (a10 : PySem.W.findIn K (.ref C_Line) "take_word" = some (some (.ref f10)))
    (i10 : PySem.W.isFn K (.ref f10) = true)
    (l10 : K.lookup f10 = some ⟨oc10, od10, .func (PySem.W.fnOf "take_word" "Line.take_word" (defArgs s_Line_take_word) (defBody s_Line_take_word) (defScope s_Line_take_word) .none kV10 dc10 pm10 an10 cd10 ct10), sl10⟩)
    (c10 : PySem.W.codeIn K cd10 "Line.take_word" = true)
    (k10 : PySem.W.keepIn K (.ref f10) = true)
    (a11 : PySem.W.findIn K (.ref C_Line) "finish" = some (some (.ref f11)))
    (i11 : PySem.W.isFn K (.ref f11) = true)
    (l11 : K.lookup f11 = some ⟨oc11, od11, .func (PySem.W.fnOf "finish" "Line.finish" (defArgs s_Line_finish) (defBody s_Line_finish) (defScope s_Line_finish) .none kV11 dc11 pm11 an11 cd11 ct11), sl11⟩)
    (c11 : PySem.W.codeIn K cd11 "Line.finish" = true)
    (k11 : PySem.W.keepIn K (.ref f11) = true)
    (a12 : PySem.W.nsIn K mainGlobals "read_code" = some (some (.ref f12)))
    (l12 : K.lookup f12 = some ⟨oc12, od12, .func (PySem.W.fnOf "read_code" "read_code" (defArgs s_read_code) (defBody s_read_code) (defScope s_read_code) .none kV12 dc12 pm12 an12 cd12 ct12), sl12⟩)
    (c12 : PySem.W.codeIn K cd12 "read_code" = true)
    (k12 : PySem.W.keepIn K (.ref f12) = true)
    (a13 : PySem.W.nsIn K mainGlobals "_law_word" = some (some (.ref f13)))
    (l13 : K.lookup f13 = some ⟨oc13, od13, .func (PySem.W.fnOf "_law_word" "_law_word" (defArgs s__law_word) (defBody s__law_word) (defScope s__law_word) .none kV13 dc13 pm13 an13 cd13 ct13), sl13⟩)
    (c13 : PySem.W.codeIn K cd13 "_law_word" = true)
    (k13 : PySem.W.keepIn K (.ref f13) = true)
    (a14 : PySem.W.nsIn K mainGlobals "_law_code" = some (some (.ref f14)))
    (l14 : K.lookup f14 = some ⟨oc14, od14, .func (PySem.W.fnOf "_law_code" "_law_code" (defArgs s__law_code) (defBody s__law_code) (defScope s__law_code) .none kV14 dc14 pm14 an14 cd14 ct14), sl14⟩)
    (c14 : PySem.W.codeIn K cd14 "_law_code" = true)
    (k14 : PySem.W.keepIn K (.ref f14) = true)
    (a15 : PySem.W.nsIn K mainGlobals "_law_built" = some (some (.ref f15)))
    (l15 : K.lookup f15 = some ⟨oc15, od15, .func (PySem.W.fnOf "_law_built" "_law_built" (defArgs s__law_built) (defBody s__law_built) (defScope s__law_built) .none kV15 dc15 pm15 an15 cd15 ct15), sl15⟩)
    (c15 : PySem.W.codeIn K cd15 "_law_built" = true)
    (k15 : PySem.W.keepIn K (.ref f15) = true)
    (a16 : PySem.W.nsIn K mainGlobals "_law_is_word" = some (some (.ref f16)))
    (l16 : K.lookup f16 = some ⟨oc16, od16, .func (PySem.W.fnOf "_law_is_word" "_law_is_word" (defArgs s__law_is_word) (defBody s__law_is_word) (defScope s__law_is_word) .none kV16 dc16 pm16 an16 cd16 ct16), sl16⟩)
    (c16 : PySem.W.codeIn K cd16 "_law_is_word" = true)
    (k16 : PySem.W.keepIn K (.ref f16) = true)
    (a17 : PySem.W.nsIn K mainGlobals "_law_due" = some (some (.ref f17)))
    (l17 : K.lookup f17 = some ⟨oc17, od17, .func (PySem.W.fnOf "_law_due" "_law_due" (defArgs s__law_due) (defBody s__law_due) (defScope s__law_due) .none kV17 dc17 pm17 an17 cd17 ct17), sl17⟩)
    (c17 : PySem.W.codeIn K cd17 "_law_due" = true)
    (k17 : PySem.W.keepIn K (.ref f17) = true)
    (a18 : PySem.W.nsIn K mainGlobals "_law_spoil" = some (some (.ref f18)))
    (l18 : K.lookup f18 = some ⟨oc18, od18, .func (PySem.W.fnOf "_law_spoil" "_law_spoil" (defArgs s__law_spoil) (defBody s__law_spoil) (defScope s__law_spoil) .none kV18 dc18 pm18 an18 cd18 ct18), sl18⟩)
    (c18 : PySem.W.codeIn K cd18 "_law_spoil" = true)
    (k18 : PySem.W.keepIn K (.ref f18) = true)
    (a19 : PySem.W.nsIn K mainGlobals "_law_told" = some (some (.ref f19)))
    (l19 : K.lookup f19 = some ⟨oc19, od19, .func (PySem.W.fnOf "_law_told" "_law_told" (defArgs s__law_told) (defBody s__law_told) (defScope s__law_told) .none kV19 dc19 pm19 an19 cd19 ct19), sl19⟩)
    (c19 : PySem.W.codeIn K cd19 "_law_told" = true)
    (k19 : PySem.W.keepIn K (.ref f19) = true)
    (a20 : PySem.W.nsIn K mainGlobals "law" = some (some (.ref f20)))
    (l20 : K.lookup f20 = some ⟨oc20, od20, .func (PySem.W.fnOf "law" "law" (defArgs s_law) (defBody s_law) (defScope s_law) .none kV20 dc20 pm20 an20 cd20 ct20), sl20⟩)
    (c20 : PySem.W.codeIn K cd20 "law" = true)
    (k20 : PySem.W.keepIn K (.ref f20) = true)
    (z_all : PySem.W.nsIn K mainGlobals "all" = some none)
    (z_bool : PySem.W.nsIn K mainGlobals "bool" = some none)
    (z_enumerate : PySem.W.nsIn K mainGlobals "enumerate" = some none)
    (z_int : PySem.W.nsIn K mainGlobals "int" = some none)
    (z_isinstance : PySem.W.nsIn K mainGlobals "isinstance" = some none)
    (z_len : PySem.W.nsIn K mainGlobals "len" = some none)
    (z_list : PySem.W.nsIn K mainGlobals "list" = some none)
    (z_max : PySem.W.nsIn K mainGlobals "max" = some none)
    (z_range : PySem.W.nsIn K mainGlobals "range" = some none)
    (z_str : PySem.W.nsIn K mainGlobals "str" = some none)
    (z_tuple : PySem.W.nsIn K mainGlobals "tuple" = some none)
    (g_LETTERS : PySem.W.nsIn K mainGlobals "LETTERS" = some (some (.str "abc" tk_LETTERS)))
    (g_MOST_SIGNS : PySem.W.nsIn K mainGlobals "MOST_SIGNS" = some (some (.int 4 tk_MOST_SIGNS)))
    (g_MOST_WORDS : PySem.W.nsIn K mainGlobals "MOST_WORDS" = some (some (.int 6 tk_MOST_WORDS))) :
    ∃ fd : FuncData, (∀ (s : Shared) (v : Value), BindsTo s fd ⟨[v], []⟩ [("_law_script", v)]) ∧ ∀ base : Heap, K.In base → base.Ns mainGlobals mg → FnOk l.prog w K mg base (L2.CX l.prog w) 8 fa fd ["_law_script"] (SpLaw K) := by
  rw [show fa = f20 from by have e := hfa.symm.trans (PySem.W.mg_of X N a20); cases e; rfl]
  exact ⟨PySem.W.fnOf "law" "law" (defArgs s_law) (defBody s_law) (defScope s_law) .none kV20 dc20 pm20 an20 cd20 ct20, fun s v => .of_eq rfl, fun base _ _ =>
    ok_law (G := ⟨K, C_Code, fun s => if s = "InvalidText" then X_InvalidText else 0, fun _ => C_Line⟩) (mg := mg) {
      cf := ⟨⟨pg_Code, ic_Code, po_Code, sa_Code⟩, ⟨p_many, at_many, gt_many, tk_many, ty_many, ix_many, (by decide)⟩, ⟨p_parts, at_parts, gt_parts, tk_parts, ty_parts, ix_parts, (by decide)⟩⟩,
      Code := ⟨PySem.W.mg_of X N aC_Code, ⟨ca_Code, cn_Code, ct_Code, cm_Code⟩, kit_self, first_self⟩,
      Line := ⟨⟨pg_Line, hd_Line, po_Line, sa_Line⟩, PySem.W.mg_of X N aC_Line⟩,
      x_InvalidText := ⟨xf_InvalidText, _, (fun_mk (st := s_InvalidText___init__) xl_InvalidText xc_InvalidText xk_InvalidText), ((fun_mk (st := s_InvalidText___init__) xl_InvalidText xc_InvalidText xk_InvalidText).binds (ps := ["self", "line", "word"]) fun _ _ _ _ _ _ us hl => match us, hl with | [_, _, _], _ => rfl), PySem.W.mg_of X N aX_InvalidText, ⟨⟨_, _, _, _, _, _, _, _, _, _, _, _, _, _, _, xL_InvalidText, rv_InvalidText⟩, xs_InvalidText, bX_InvalidText, tX_InvalidText, kX_InvalidText⟩, xi_InvalidText, xt_InvalidText, xn_InvalidText_line, xn_InvalidText_word, ⟨xga_InvalidText, xgg_InvalidText, bX_InvalidText, xhd_InvalidText⟩⟩,
      xm_InvalidText_InvalidText := exm_mk bX_InvalidText iX_InvalidText tX_InvalidText s_InvalidText_InvalidText,
      n_Line_number := n_Line_number,
      n_Line_parts := n_Line_parts,
      n_Line_place := n_Line_place,
      _law_mix := ⟨f0, _, (fun_mk (st := s__law_mix) l0 c0 k0), ((fun_mk (st := s__law_mix) l0 c0 k0).binds (ps := ["_law_script", "_law_seed"]) fun _ _ _ _ _ _ us hl => match us, hl with | [_, _], _ => rfl), (PySem.W.mg_of X N a0)⟩,
      _law_next := ⟨f1, _, (fun_mk (st := s__law_next) l1 c1 k1), ((fun_mk (st := s__law_next) l1 c1 k1).binds (ps := ["_law_h", "_law_bound"]) fun _ _ _ _ _ _ us hl => match us, hl with | [_, _], _ => rfl), (PySem.W.mg_of X N a1)⟩,
      is_integer := ⟨f2, _, (fun_mk (st := s_is_integer) l2 c2 k2), ((fun_mk (st := s_is_integer) l2 c2 k2).binds (ps := ["value"]) fun _ _ _ _ _ _ us hl => match us, hl with | [_], _ => rfl), (PySem.W.mg_of X N a2)⟩,
      is_string := ⟨f3, _, (fun_mk (st := s_is_string) l3 c3 k3), ((fun_mk (st := s_is_string) l3 c3 k3).binds (ps := ["many", "value"]) fun _ _ _ _ _ _ us hl => match us, hl with | [_, _], _ => rfl), (PySem.W.mg_of X N a3)⟩,
      look_at_words := ⟨f4, _, (fun_mk (st := s_look_at_words) l4 c4 k4), ((fun_mk (st := s_look_at_words) l4 c4 k4).binds (ps := ["many", "words"]) fun _ _ _ _ _ _ us hl => match us, hl with | [_, _], _ => rfl), (PySem.W.mg_of X N a4)⟩,
      Code___init__ := ⟨f5, _, (fun_mk (st := s_Code___init__) l5 c5 k5), ((fun_mk (st := s_Code___init__) l5 c5 k5).binds (ps := ["self", "signs", "words"]) fun _ _ _ _ _ _ us hl => match us, hl with | [_, _, _], _ => rfl), ⟨mk_Code, a5, i5, kC_Code⟩⟩,
      write_code := ⟨f6, _, (fun_mk (st := s_write_code) l6 c6 k6), ((fun_mk (st := s_write_code) l6 c6 k6).binds (ps := ["code"]) fun _ _ _ _ _ _ us hl => match us, hl with | [_], _ => rfl), (PySem.W.mg_of X N a6)⟩,
      Line___init__ := ⟨f7, _, (fun_mk (st := s_Line___init__) l7 c7 k7), ((fun_mk (st := s_Line___init__) l7 c7 k7).binds (ps := ["self", "text", "number"]) fun _ _ _ _ _ _ us hl => match us, hl with | [_, _, _], _ => rfl), ⟨mk_Line, a7, i7, kC_Line⟩⟩,
      Line_refuse := ⟨f8, _, (fun_mk (st := s_Line_refuse) l8 c8 k8), ((fun_mk (st := s_Line_refuse) l8 c8 k8).binds (ps := ["self"]) fun _ _ _ _ _ _ us hl => match us, hl with | [_], _ => rfl), ⟨a8, i8, k8⟩⟩,
      Line_take_one := ⟨f9, _, (fun_mk (st := s_Line_take_one) l9 c9 k9), ((fun_mk (st := s_Line_take_one) l9 c9 k9).binds (ps := ["self", "words"]) fun _ _ _ _ _ _ us hl => match us, hl with | [_, _], _ => rfl), ⟨a9, i9, k9⟩⟩,
      Line_take_word := ⟨f10, _, (fun_mk (st := s_Line_take_word) l10 c10 k10), ((fun_mk (st := s_Line_take_word) l10 c10 k10).binds (ps := ["self", "many", "known"]) fun _ _ _ _ _ _ us hl => match us, hl with | [_, _, _], _ => rfl), ⟨a10, i10, k10⟩⟩,
      Line_finish := ⟨f11, _, (fun_mk (st := s_Line_finish) l11 c11 k11), ((fun_mk (st := s_Line_finish) l11 c11 k11).binds (ps := ["self"]) fun _ _ _ _ _ _ us hl => match us, hl with | [_], _ => rfl), ⟨a11, i11, k11⟩⟩,
      read_code := ⟨f12, _, (fun_mk (st := s_read_code) l12 c12 k12), ((fun_mk (st := s_read_code) l12 c12 k12).binds (ps := ["text"]) fun _ _ _ _ _ _ us hl => match us, hl with | [_], _ => rfl), (PySem.W.mg_of X N a12)⟩,
      _law_word := ⟨f13, _, (fun_mk (st := s__law_word) l13 c13 k13), ((fun_mk (st := s__law_word) l13 c13 k13).binds (ps := ["_law_h", "_law_many", "_law_high"]) fun _ _ _ _ _ _ us hl => match us, hl with | [_, _, _], _ => rfl), (PySem.W.mg_of X N a13)⟩,
      _law_code := ⟨f14, _, (fun_mk (st := s__law_code) l14 c14 k14), ((fun_mk (st := s__law_code) l14 c14 k14).binds (ps := ["_law_h", "_law_high"]) fun _ _ _ _ _ _ us hl => match us, hl with | [_, _], _ => rfl), (PySem.W.mg_of X N a14)⟩,
      _law_built := ⟨f15, _, (fun_mk (st := s__law_built) l15 c15 k15), ((fun_mk (st := s__law_built) l15 c15 k15).binds (ps := ["_law_t"]) fun _ _ _ _ _ _ us hl => match us, hl with | [_], _ => rfl), (PySem.W.mg_of X N a15)⟩,
      _law_is_word := ⟨f16, _, (fun_mk (st := s__law_is_word) l16 c16 k16), ((fun_mk (st := s__law_is_word) l16 c16 k16).binds (ps := ["_law_word_here", "_law_many"]) fun _ _ _ _ _ _ us hl => match us, hl with | [_, _], _ => rfl), (PySem.W.mg_of X N a16)⟩,
      _law_due := ⟨f17, _, (fun_mk (st := s__law_due) l17 c17 k17), ((fun_mk (st := s__law_due) l17 c17 k17).binds (ps := ["_law_string"]) fun _ _ _ _ _ _ us hl => match us, hl with | [_], _ => rfl), (PySem.W.mg_of X N a17)⟩,
      _law_spoil := ⟨f18, _, (fun_mk (st := s__law_spoil) l18 c18 k18), ((fun_mk (st := s__law_spoil) l18 c18 k18).binds (ps := ["_law_h", "_law_lines"]) fun _ _ _ _ _ _ us hl => match us, hl with | [_, _], _ => rfl), (PySem.W.mg_of X N a18)⟩,
      _law_told := ⟨f19, _, (fun_mk (st := s__law_told) l19 c19 k19), ((fun_mk (st := s__law_told) l19 c19 k19).binds (ps := ["_law_string"]) fun _ _ _ _ _ _ us hl => match us, hl with | [_], _ => rfl), (PySem.W.mg_of X N a19)⟩,
      law := ⟨f20, _, (fun_mk (st := s_law) l20 c20 k20), ((fun_mk (st := s_law) l20 c20 k20).binds (ps := ["_law_script"]) fun _ _ _ _ _ _ us hl => match us, hl with | [_], _ => rfl), (PySem.W.mg_of X N a20)⟩,
      z_all := PySem.W.mg_none_of X N z_all,
      z_bool := PySem.W.mg_none_of X N z_bool,
      z_enumerate := PySem.W.mg_none_of X N z_enumerate,
      z_int := PySem.W.mg_none_of X N z_int,
      z_isinstance := PySem.W.mg_none_of X N z_isinstance,
      z_len := PySem.W.mg_none_of X N z_len,
      z_list := PySem.W.mg_none_of X N z_list,
      z_max := PySem.W.mg_none_of X N z_max,
      z_range := PySem.W.mg_none_of X N z_range,
      z_str := PySem.W.mg_none_of X N z_str,
      z_tuple := PySem.W.mg_none_of X N z_tuple,
      t_LETTERS := tk_LETTERS,
      g_LETTERS := PySem.W.mg_of X N g_LETTERS,
      t_MOST_SIGNS := tk_MOST_SIGNS,
      g_MOST_SIGNS := PySem.W.mg_of X N g_MOST_SIGNS,
      t_MOST_WORDS := tk_MOST_WORDS,
      g_MOST_WORDS := PySem.W.mg_of X N g_MOST_WORDS } hm⟩
end K15
open PySem PySem.W PyProof.Rows
set_option maxHeartbeats 0 in
theorem PySem.Challenge.cw_endsread_k15_whole_texts_refused_holds : PySem.Challenge.rw_endsread_k15_whole_texts_refused.Holds := by
  w_on; o_law; k_head; (case hw => w_witness2)
  k_fill
  refine L2.walk_of (l := PySem.Challenge.rw_endsread_k15_whole_texts_refused) (n := 63) (k := 8) (x := "_law_script") (CX := fun w => L2.CX (PySem.Challenge.rw_endsread_k15_whole_texts_refused).prog w) (sp := fun w => Ty.SpLaw _) rfl (by decide) rfl ⟨rfl, by decide, by decide⟩ (fun w h Y => PySem.W.kIn_of Y) ?F (fun _ _ a ns hl _ hS => ⟨a, ns, rfl, hS, hl, fun _ => rfl⟩) (fun _ _ _ _ _ h => Ty.law_cx h)
  case F =>
    intro w mg fa h KX G hmg
    refine' K15.all_mk KX G hmg K15.law_true ?aC_Line ?pg_Line ?po_Line ?sa_Line ?mk_Line ?kC_Line ?hd_Line ?aC_Code ?pg_Code ?po_Code ?sa_Code ?mk_Code ?kC_Code ?ic_Code ?at_many ?gt_many ?tk_many ?ty_many ?ix_many ?at_parts ?gt_parts ?tk_parts ?ty_parts ?ix_parts ?ca_Code ?cn_Code ?ct_Code ?cm_Code ?aX_InvalidText ?bX_InvalidText ?tX_InvalidText ?kX_InvalidText ?iX_InvalidText ?xL_InvalidText ?rv_InvalidText ?xs_InvalidText ?xi_InvalidText ?xt_InvalidText ?xl_InvalidText ?xc_InvalidText ?xk_InvalidText ?xn_InvalidText_line ?xn_InvalidText_word ?xga_InvalidText ?xgg_InvalidText ?xhd_InvalidText ?s_InvalidText_InvalidText ?n_Line_number ?n_Line_parts ?n_Line_place ?a0 ?l0 ?c0 ?k0 ?a1 ?l1 ?c1 ?k1 ?a2 ?l2 ?c2 ?k2 ?a3 ?l3 ?c3 ?k3 ?a4 ?l4 ?c4 ?k4 ?a5 ?i5 ?l5 ?c5 ?k5 ?a6 ?l6 ?c6 ?k6 ?a7 ?i7 ?l7 ?c7 ?k7 ?a8 ?i8 ?l8 ?c8 ?k8 ?a9 ?i9 ?l9 ?c9 ?k9 ?a10 ?i10 ?l10 ?c10 ?k10 ?a11 ?i11 ?l11 ?c11 ?k11 ?a12 ?l12 ?c12 ?k12 ?a13 ?l13 ?c13 ?k13 ?a14 ?l14 ?c14 ?k14 ?a15 ?l15 ?c15 ?k15 ?a16 ?l16 ?c16 ?k16 ?a17 ?l17 ?c17 ?k17 ?a18 ?l18 ?c18 ?k18 ?a19 ?l19 ?c19 ?k19 ?a20 ?l20 ?c20 ?k20 ?z_all ?z_bool ?z_enumerate ?z_int ?z_isinstance ?z_len ?z_list ?z_max ?z_range ?z_str ?z_tuple ?g_LETTERS ?g_MOST_SIGNS ?g_MOST_WORDS
    (case aC_Line => k_is); (case pg_Line => k_is); (case po_Line => k_is); (case sa_Line => k_is); (case mk_Line => k_is); (case kC_Line => k_is); (case hd_Line => k_is); (case aC_Code => k_is); (case pg_Code => k_is); (case po_Code => k_is); (case sa_Code => k_is); (case mk_Code => k_is); (case kC_Code => k_is); (case ic_Code => k_is); (case at_many => k_is); (case gt_many => k_is); (case tk_many => k_is); (case ty_many => k_is); (case ix_many => k_is); (case at_parts => k_is); (case gt_parts => k_is); (case tk_parts => k_is); (case ty_parts => k_is); (case ix_parts => k_is); (case ca_Code => k_is); (case cn_Code => k_is); (case ct_Code => k_is); (case cm_Code => k_is); (case aX_InvalidText => k_is); (case bX_InvalidText => k_is); (case tX_InvalidText => k_is); (case kX_InvalidText => k_is); (case iX_InvalidText => k_is); (case xL_InvalidText => k_is); (case rv_InvalidText => decide +kernel); (case xs_InvalidText => k_is); (case xi_InvalidText => k_is); (case xt_InvalidText => k_is); (case xl_InvalidText => k_is); (case xc_InvalidText => k_is); (case xk_InvalidText => k_is); (case xn_InvalidText_line => k_is); (case xn_InvalidText_word => k_is); (case xga_InvalidText => k_is); (case xgg_InvalidText => k_is); (case xhd_InvalidText => k_is); (case s_InvalidText_InvalidText => k_is); (case n_Line_number => k_is); (case n_Line_parts => k_is); (case n_Line_place => k_is); (case a0 => k_is); (case l0 => k_is); (case c0 => k_is); (case k0 => k_is); (case a1 => k_is); (case l1 => k_is); (case c1 => k_is); (case k1 => k_is); (case a2 => k_is); (case l2 => k_is); (case c2 => k_is); (case k2 => k_is); (case a3 => k_is); (case l3 => k_is); (case c3 => k_is); (case k3 => k_is); (case a4 => k_is); (case l4 => k_is); (case c4 => k_is); (case k4 => k_is); (case a5 => k_is); (case i5 => k_is); (case l5 => k_is); (case c5 => k_is); (case k5 => k_is); (case a6 => k_is); (case l6 => k_is); (case c6 => k_is); (case k6 => k_is); (case a7 => k_is); (case i7 => k_is); (case l7 => k_is); (case c7 => k_is); (case k7 => k_is); (case a8 => k_is); (case i8 => k_is); (case l8 => k_is); (case c8 => k_is); (case k8 => k_is); (case a9 => k_is); (case i9 => k_is); (case l9 => k_is); (case c9 => k_is); (case k9 => k_is); (case a10 => k_is); (case i10 => k_is); (case l10 => k_is); (case c10 => k_is); (case k10 => k_is); (case a11 => k_is); (case i11 => k_is); (case l11 => k_is); (case c11 => k_is); (case k11 => k_is); (case a12 => k_is); (case l12 => k_is); (case c12 => k_is); (case k12 => k_is); (case a13 => k_is); (case l13 => k_is); (case c13 => k_is); (case k13 => k_is); (case a14 => k_is); (case l14 => k_is); (case c14 => k_is); (case k14 => k_is); (case a15 => k_is); (case l15 => k_is); (case c15 => k_is); (case k15 => k_is); (case a16 => k_is); (case l16 => k_is); (case c16 => k_is); (case k16 => k_is); (case a17 => k_is); (case l17 => k_is); (case c17 => k_is); (case k17 => k_is); (case a18 => k_is); (case l18 => k_is); (case c18 => k_is); (case k18 => k_is); (case a19 => k_is); (case l19 => k_is); (case c19 => k_is); (case k19 => k_is); (case a20 => k_is); (case l20 => k_is); (case c20 => k_is); (case k20 => k_is); (case z_all => k_is); (case z_bool => k_is); (case z_enumerate => k_is); (case z_int => k_is); (case z_isinstance => k_is); (case z_len => k_is); (case z_list => k_is); (case z_max => k_is); (case z_range => k_is); (case z_str => k_is); (case z_tuple => k_is); (case g_LETTERS => k_is); (case g_MOST_SIGNS => k_is); (case g_MOST_WORDS => k_is)

