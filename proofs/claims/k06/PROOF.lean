import PyProof.Rows.All
import Wide.All
import OpenK.AllK
import Wide.FinOn
import HandS.Base
import HandS.Call
import HandS.List
import HandS.Comp
import HandS.Dict
import HandS.Iter
import HandS.Text
import HandS.Words
import HandS.Exc
import HandS.ExcOwn
import HandS.IsInst
import HandS.TupAny
import HandS.TupLe
import HandS.Wide
import HandS.Codes
import HandS.TupLen
import HandS.Style
import HandS.Deep
import PyProof.Rows.RuleB_bool
import HandS.WordsExc
import HandS.CallSlots
import HandS.StrMore
import HandS.Replace
import HandS.Ends
import PySem.Challenge.RW_manysides_k06_values_of_expressions
set_option Elab.async false
set_option linter.all false
set_option maxRecDepth 100000
set_option maxHeartbeats 4000000
/-! The mirror layer 1: data, what stands for a datum, the slots, the mirror monad. -/
namespace Mi
open PySem L2

/-! ### data -/
inductive D where
  | non | bl (b : Bool) | int (i : Int) | str (x : Str)
  | tup (xs : List D) | ftp (xs : List D) | lst (xs : List D) | frz (xs : List D)
  | dK (kvs : List (Key × D)) | dT (kvs : List (List Key × D))
  | ins (c : Str) (fs : List (Str × D))

section
variable (K : PySem.W.Frag) (mg : Str → Option Value)
mutual
/-- v stands for d, by what B knows (and the written part) -/
inductive Rep (B : Hp) : V → D → Prop
  | non : Rep B .non .non
  | bl (b : Bool) : Rep B (.bl b) (.bl b)
  | int (i : Int) : Rep B (.int i) (.int i)
  | str (x : Str) : Rep B (.str x) (.str x)
  | tup {a : Addr} {vs : List V} {ds : List D} : B a = some (.tup vs) → Reps B vs ds → Rep B (.ref a) (.tup ds)
  | ftp {a : Addr} {vs : List V} {ds : List D} : SqT K B a vs → Reps B vs ds → Rep B (.ref a) (.ftp ds)
  | lst {a : Addr} {vs : List V} {ds : List D} : B a = some (.lst vs) → Reps B vs ds → Rep B (.ref a) (.lst ds)
  | frz {a : Addr} {vs : List V} {ds : List D} : SqL K B a vs → Reps B vs ds → Rep B (.ref a) (.frz ds)
  | dK {a : Addr} {kvs : List (Key × V)} {ds : List (Key × D)} : B a = some (.dK kvs) → kvs.map Prod.fst = ds.map Prod.fst → Reps B (kvs.map Prod.snd) (ds.map Prod.snd) → Rep B (.ref a) (.dK ds)
  | dT {a : Addr} {kvs : List (List Key × V)} {ds : List (List Key × D)} : B a = some (.dT kvs) → kvs.map Prod.fst = ds.map Prod.fst → Reps B (kvs.map Prod.snd) (ds.map Prod.snd) → Rep B (.ref a) (.dT ds)
  | ins {a C dx : Addr} {c : Str} {fs : List (Str × V)} {ds : List (Str × D)} : B a = some (.ins C dx fs) → mg c = some (.ref C) → fs.map Prod.fst = ds.map Prod.fst → Reps B (fs.map Prod.snd) (ds.map Prod.snd) → Rep B (.ref a) (.ins c ds)
inductive Reps (B : Hp) : List V → List D → Prop
  | nil : Reps B [] []
  | cons {v : V} {vs : List V} {d : D} {ds : List D} : Rep B v d → Reps B vs ds → Reps B (v :: vs) (d :: ds)
end
end

section
variable {K : PySem.W.Frag} {mg : Str → Option Value} {B B' H H' : Hp}
theorem rd_mono (e : Same B B') {a : Addr} {u : HO} (h : Rd B a u) : Rd B' a u := by
  rcases h with h | ⟨o, h⟩
  · exact .inl (e _ _ h)
  · exact .inr ⟨o, e _ _ h⟩
theorem sqT_mono (e : Same B B') {a : Addr} {xs : List V} (h : SqT K B a xs) : SqT K B' a xs := by
  rcases h with h | h
  · exact .inl (rd_mono e h)
  · exact .inr h
theorem sqL_mono (e : Same B B') {a : Addr} {xs : List V} (h : SqL K B a xs) : SqL K B' a xs := by
  rcases h with h | h
  · exact .inl (rd_mono e h)
  · exact .inr h
mutual
theorem Rep.mono (e : Same B B') : ∀ {v : V} {d : D}, Rep K mg B v d → Rep K mg B' v d
  | _, _, .non => .non
  | _, _, .bl b => .bl b
  | _, _, .int b => .int b
  | _, _, .str b => .str b
  | _, _, .tup h r => .tup (e _ _ h) (Reps.mono e r)
  | _, _, .ftp h r => .ftp (sqT_mono e h) (Reps.mono e r)
  | _, _, .lst h r => .lst (e _ _ h) (Reps.mono e r)
  | _, _, .frz h r => .frz (sqL_mono e h) (Reps.mono e r)
  | _, _, .dK h k r => .dK (e _ _ h) k (Reps.mono e r)
  | _, _, .dT h k r => .dT (e _ _ h) k (Reps.mono e r)
  | _, _, .ins h m k r => .ins (e _ _ h) m k (Reps.mono e r)
theorem Reps.mono (e : Same B B') : ∀ {v : List V} {d : List D}, Reps K mg B v d → Reps K mg B' v d
  | _, _, .nil => .nil
  | _, _, .cons h r => .cons (Rep.mono e h) (Reps.mono e r)
end
theorem Reps.length : ∀ {v : List V} {d : List D}, Reps K mg B v d → v.length = d.length
  | _, _, .nil => rfl
  | _, _, .cons h r => by simp [Reps.length r]
theorem Reps.get : ∀ {v : List V} {d : List D} {i : Nat} {x : D}, Reps K mg B v d → d[i]? = some x → ∃ y, v[i]? = some y ∧ Rep K mg B y x
  | _, _, _, _, .nil, h => by simp at h
  | _, _, 0, _, .cons h r, e => by simp at e; subst e; exact ⟨_, rfl, h⟩
  | _, _, i + 1, x, .cons h r, e => by
    obtain ⟨y, e1, e2⟩ := Reps.get (i := i) (x := x) r (by simpa using e)
    exact ⟨y, by simpa using e1, e2⟩
theorem Reps.getV : ∀ {v : List V} {d : List D} {i : Nat} {y : V}, Reps K mg B v d → v[i]? = some y → ∃ x, d[i]? = some x ∧ Rep K mg B y x
  | _, _, _, _, .nil, h => by simp at h
  | _, _, 0, _, .cons h r, e => by simp at e; subst e; exact ⟨_, rfl, h⟩
  | _, _, i + 1, x, .cons h r, e => by
    obtain ⟨y, e1, e2⟩ := Reps.getV (i := i) (y := x) r (by simpa using e)
    exact ⟨y, by simpa using e1, e2⟩
theorem Reps.append : ∀ {v w : List V} {d e : List D}, Reps K mg B v d → Reps K mg B w e → Reps K mg B (v ++ w) (d ++ e)
  | _, _, _, _, .nil, h => h
  | _, _, _, _, .cons h r, s => .cons h (Reps.append r s)
theorem Reps.take : ∀ {v : List V} {d : List D} (n : Nat), Reps K mg B v d → Reps K mg B (v.take n) (d.take n)
  | _, _, 0, _ => .nil
  | _, _, _ + 1, .nil => .nil
  | _, _, n + 1, .cons h r => .cons h (Reps.take n r)
theorem Reps.drop : ∀ {v : List V} {d : List D} (n : Nat), Reps K mg B v d → Reps K mg B (v.drop n) (d.drop n)
  | _, _, 0, r => r
  | _, _, _ + 1, .nil => .nil
  | _, _, n + 1, .cons h r => Reps.drop n r
theorem Reps.reverse : ∀ {v : List V} {d : List D}, Reps K mg B v d → Reps K mg B v.reverse d.reverse
  | _, _, .nil => .nil
  | _, _, .cons h r => by
    rw [List.reverse_cons, List.reverse_cons]
    exact (Reps.reverse r).append (.cons h .nil)
theorem Reps.set : ∀ {v : List V} {d : List D} (i : Nat) {x : V} {y : D}, Reps K mg B v d → Rep K mg B x y → Reps K mg B (v.set i x) (d.set i y)
  | _, _, _, _, _, .nil, _ => .nil
  | _, _, 0, _, _, .cons h r, q => .cons q r
  | _, _, i + 1, _, _, .cons h r, q => .cons h (Reps.set i r q)
end

/-- the content of a container that one slot holds alone -/
inductive Cont (K : PySem.W.Frag) (mg : Str → Option Value) (B H : Hp) : Addr → D → Prop
  | lst {a : Addr} {vs : List V} {ds : List D} : H a = some (.lst vs) → Reps K mg B vs ds → Cont K mg B H a (.lst ds)
  | dK {a : Addr} {kvs : List (Key × V)} {ds : List (Key × D)} : H a = some (.dK kvs) → kvs.map Prod.fst = ds.map Prod.fst → Reps K mg B (kvs.map Prod.snd) (ds.map Prod.snd) → Cont K mg B H a (.dK ds)
  | dT {a : Addr} {kvs : List (List Key × V)} {ds : List (List Key × D)} : H a = some (.dT kvs) → kvs.map Prod.fst = ds.map Prod.fst → Reps K mg B (kvs.map Prod.snd) (ds.map Prod.snd) → Cont K mg B H a (.dT ds)
  | ins {a C dx : Addr} {c : Str} {fs : List (Str × V)} {ds : List (Str × D)} : H a = some (.ins C dx fs) → mg c = some (.ref C) → fs.map Prod.fst = ds.map Prod.fst → Reps K mg B (fs.map Prod.snd) (ds.map Prod.snd) → Cont K mg B H a (.ins c ds)
section
variable {K : PySem.W.Frag} {mg : Str → Option Value} {B B' H H' : Hp} {a : Addr} {d : D}
theorem Cont.there (c : Cont K mg B H a d) : ∃ o, H a = some o := by cases c <;> exact ⟨_, ‹_›⟩
theorem Cont.mono (e : Same B B') (h : H' a = H a) (c : Cont K mg B H a d) : Cont K mg B' H' a d := by
  cases c with
  | lst p r => exact .lst (h.trans p) (r.mono e)
  | dK p k r => exact .dK (h.trans p) k (r.mono e)
  | dT p k r => exact .dT (h.trans p) k (r.mono e)
  | ins p m k r => exact .ins (h.trans p) m k (r.mono e)
/-- frozen: B knows it from now on -/
theorem Cont.frz (c : Cont K mg B H a d) (hb : B a = none) : ∃ o, H a = some o ∧ Rep K mg (upd B a o) (.ref a) d := by
  have e : ∀ o, Same B (upd B a o) := fun o b u q => by rw [upd_ne (ne_of_none q hb)]; exact q
  cases c with
  | lst p r => exact ⟨_, p, .lst upd_same (r.mono (e _))⟩
  | dK p k r => exact ⟨_, p, .dK upd_same k (r.mono (e _))⟩
  | dT p k r => exact ⟨_, p, .dT upd_same k (r.mono (e _))⟩
  | ins p m k r => exact ⟨_, p, .ins upd_same m k (r.mono (e _))⟩
end

/-! ### slots -/
/-- a slot of the mirror: a shared datum; a container held alone (pin: the caller's, handed in) -/
inductive Slot where
  | shr (d : D) | own (pin : Bool) (d : D)
abbrev En := List (Option Slot)

section
variable (K : PySem.W.Frag) (mg : Str → Option Value)
def SlR (σ0 : St) (B H : Hp) (i : Nat) (v : V) : Slot → Prop
  | .shr d => Rep K mg B v d
  | .own pin d => ∃ a, v = .ref a ∧ Cont K mg B H a d ∧ B a = none ∧ (pin = true → σ0[i]? = some (some v))
/-- a dict -/
def isDct : HO → Prop
  | .dK _ => True
  | .dT _ => True
  | _ => False
/-- B is part of H (dicts may be locked) -/
def Sub (B H : Hp) : Prop := ∀ a o, B a = some o → H a = some o ∨ (isDct o ∧ ∃ ob, H a = some (.frz ob o))
structure Sm (σ0 : St) (B H : Hp) (σ : St) (env : En) : Prop where
  sub : Sub B H
  len : σ.length = env.length
  sl : ∀ (i : Nat) (s : Slot), env[i]? = some (some s) → ∃ v, σ[i]? = some (some v) ∧ SlR K mg σ0 B H i v s
  sep : ∀ (i j : Nat) (p : Bool) (d : D) (p' : Bool) (d' : D) (a : Addr), env[i]? = some (some (Slot.own p d)) → env[j]? = some (some (Slot.own p' d')) → σ[i]? = some (some (V.ref a)) → σ[j]? = some (some (V.ref a)) → i = j
end
def Owned (σ : St) (env : En) (a : Addr) : Prop := ∃ (i : Nat) (p : Bool) (d : D), env[i]? = some (some (Slot.own p d)) ∧ σ[i]? = some (some (V.ref a))
/-- from B, H to B', H': only what O tells may have changed -/
structure Stp (O : Addr → Prop) (B H B' H' : Hp) : Prop where
  grow : Same B B'
  new : ∀ a o, B' a = some o → B a = some o ∨ H a = none
  frame : ∀ a o, H a = some o → ¬ O a → H' a = some o
  there : ∀ a o, H a = some o → ∃ o', H' a = some o'
theorem Stp.refl {O : Addr → Prop} {B H : Hp} : Stp O B H B H := ⟨Same.refl _, fun _ _ h => .inl h, fun _ _ h _ => h, fun _ o h => ⟨o, h⟩⟩
theorem Stp.trans {O O' : Addr → Prop} {B H B1 H1 B2 H2 : Hp} (a : Stp O B H B1 H1) (b : Stp O' B1 H1 B2 H2) (ho : ∀ x, O' x → O x) : Stp O B H B2 H2 where
  grow := a.grow.trans b.grow
  new := fun x o h => by
    rcases b.new x o h with h | h
    · exact a.new x o h
    · refine .inr ?_
      cases q : H x with
      | none => rfl
      | some u =>
        obtain ⟨o', e⟩ := a.there x u q
        rw [h] at e; cases e
  frame := fun x o h n => b.frame x o (a.frame x o h n) fun z => n (ho x z)
  there := fun x o h => by
    obtain ⟨o', e⟩ := a.there x o h
    exact b.there x o' e
theorem Stp.mono {O O' : Addr → Prop} {B H B' H' : Hp} (a : Stp O B H B' H') (ho : ∀ x, O x → O' x) : Stp O' B H B' H' :=
  ⟨a.grow, a.new, fun x o h n => a.frame x o h fun z => n (ho x z), a.there⟩
/-- only new things -/
theorem Stp.alloc {O : Addr → Prop} {B H B' H' : Hp} (g : Same B B') (n : ∀ a o, B' a = some o → B a = some o ∨ H a = none) (s : Same H H') : Stp O B H B' H' := ⟨g, n, fun a o h _ => s a o h, fun a o h => ⟨o, s a o h⟩⟩
/-- ownership does not grow -/
def OSub (env env' : En) : Prop := ∀ (i : Nat) (p : Bool) (d : D), env'[i]? = some (some (Slot.own p d)) → ∃ d', env[i]? = some (some (Slot.own p d'))
theorem OSub.refl (env : En) : OSub env env := fun _ _ d h => ⟨d, h⟩
theorem OSub.trans {a b c : En} (h : OSub a b) (g : OSub b c) : OSub a c := fun i p d e => by
  obtain ⟨d', e'⟩ := g i p d e
  exact h i p d' e'
theorem OSub.owned {σ : St} {env env' : En} (h : OSub env env') {a : Addr} : Owned σ env' a → Owned σ env a := fun ⟨i, p, d, e, r⟩ => by
  obtain ⟨d', e'⟩ := h i p d e
  exact ⟨i, p, d', e', r⟩

section
variable {K : PySem.W.Frag} {mg : Str → Option Value} {σ0 : St} {B H B' H' : Hp} {σ : St} {env : En}
theorem Sub.rd (s : Sub B H) {a : Addr} {u : HO} (hu : ¬ isDct u) (h : Rd B a u) : Rd H a u := by
  rcases h with h | ⟨o, h⟩
  · rcases s _ _ h with e | ⟨_, ob, e⟩
    · exact .inl e
    · exact .inr ⟨ob, e⟩
  · rcases s _ _ h with e | ⟨z, _⟩
    · exact .inr ⟨o, e⟩
    · exact z.elim
theorem Sub.sqT (s : Sub B H) {a : Addr} {xs : List V} (h : SqT K B a xs) : SqT K H a xs := by
  rcases h with h | h
  · exact .inl (s.rd (fun z => z) h)
  · exact .inr h
theorem Sub.sqL (s : Sub B H) {a : Addr} {xs : List V} (h : SqL K B a xs) : SqL K H a xs := by
  rcases h with h | h
  · exact .inl (s.rd (fun z => z) h)
  · exact .inr h
theorem Sub.lst (s : Sub B H) {a : Addr} {xs : List V} (h : B a = some (.lst xs)) : H a = some (.lst xs) := by
  rcases s a _ h with q | ⟨z, _⟩
  · exact q
  · exact z.elim
theorem Sub.tup (s : Sub B H) {a : Addr} {xs : List V} (h : B a = some (.tup xs)) : H a = some (.tup xs) := by
  rcases s a _ h with q | ⟨z, _⟩
  · exact q
  · exact z.elim
theorem Sub.same (s : Sub B H) (e : Same H H') : Sub B H' := fun a o h => by
  rcases s a o h with q | ⟨z, ob, q⟩
  · exact .inl (e _ _ q)
  · exact .inr ⟨z, ob, e _ _ q⟩
/-- a new immutable thing at p, known to both -/
theorem Sub.upd (s : Sub B H) {p : Addr} {o : HO} (hp : H p = none) : Sub (upd B p o) (upd H p o) := fun a u h => by
  by_cases e : a = p
  · subst e; rw [upd_same] at h ⊢; exact .inl h
  · rw [upd_ne e] at h ⊢
    exact s a u h
theorem Sub.none (s : Sub B H) {p : Addr} (hp : H p = none) : B p = none := by
  cases q : B p with
  | none => rfl
  | some o =>
    rcases s p o q with e | ⟨_, ob, e⟩ <;> (rw [hp] at e; cases e)
theorem same_upd {p : Addr} {o : HO} (hp : H p = none) : Same H (upd H p o) := fun a u h => by rw [upd_ne (ne_of_none h hp)]; exact h
theorem new_upd {p : Addr} {o : HO} (hp : H p = none) : ∀ a u, upd B p o a = some u → B a = some u ∨ H a = none := fun a u h => by
  by_cases e : a = p
  · subst e; exact .inr hp
  · rw [upd_ne e] at h; exact .inl h
/-- only new things were made -/
theorem Sm.alloc (m : Sm K mg σ0 B H σ env) (g : Same B B') (n : ∀ a o, B' a = some o → B a = some o ∨ H a = none) (s : Same H H') (sb : Sub B' H') : Sm K mg σ0 B' H' σ env where
  sub := sb
  len := m.len
  sl := fun i sl e => by
    obtain ⟨v, e1, r⟩ := m.sl i sl e
    refine ⟨v, e1, ?_⟩
    cases sl with
    | shr d => exact Rep.mono g r
    | own pin d =>
      obtain ⟨a, rfl, c, hb, hp⟩ := r
      obtain ⟨o, ho⟩ := c.there
      refine ⟨a, rfl, c.mono g (by rw [ho]; exact s _ _ ho), ?_, hp⟩
      cases q : B' a with
      | none => rfl
      | some u =>
        rcases n a u q with z | z
        · rw [hb] at z; cases z
        · rw [ho] at z; cases z
  sep := m.sep
end

/-! ### the mirror monad -/
/-- an error: its class, its place -/
structure Xn where
  cls : Str
  place : Int
inductive Res (α : Type) where
  | stuck | exn (x : Xn) (env : En) | ok (a : α) (env : En)
abbrev M (α : Type) := En → Res α
def Res.bind {α β : Type} (r : Res α) (k : α → M β) : Res β := match r with
  | .stuck => .stuck
  | .exn x env => .exn x env
  | .ok a env => k a env
def M.bind {α β : Type} (m : M α) (k : α → M β) : M β := fun env => (m env).bind k
def M.pure {α : Type} (a : α) : M α := fun env => .ok a env
@[simp] theorem Res.bind_ok {α β : Type} (a : α) (env : En) (k : α → M β) : (Res.ok a env).bind k = k a env := Eq.trans rfl rfl
@[simp] theorem Res.bind_stuck {α β : Type} (k : α → M β) : (Res.stuck : Res α).bind k = .stuck := rfl
@[simp] theorem Res.bind_exn {α β : Type} (x : Xn) (env : En) (k : α → M β) : (Res.exn x env : Res α).bind k = .exn x env := rfl
def ofO {α : Type} (o : Option α) : M α := fun env => match o with
  | some a => .ok a env
  | none => .stuck
@[simp] theorem ofO_some {α : Type} (a : α) (env : En) : ofO (some a) env = .ok a env := rfl
@[simp] theorem ofO_none {α : Type} (env : En) : (ofO none : M α) env = .stuck := rfl

/-- how an error lies: its class, its own dict -/
def ExR (mg : Str → Option Value) (x : Xn) (cls : Value) (d : Option Addr) (H : Hp) : Prop :=
  ∃ C dx, cls = .ref C ∧ mg x.cls = some (.ref C) ∧ d = some dx ∧ H dx = some (.xd [("name", .str x.cls), ("place", .int x.place)])

section
variable (K : PySem.W.Frag) (mg : Str → Option Value) (W : WX) {α β : Type}
def Post (R : St → Hp → β → α → Prop) (σ0 σ : St) (env : En) (B H : Hp) (r : Res α) (Q : β → Hp → Prop) : Prop :=
  match r with
  | .stuck => False
  | .ok a env' => ∀ v B' H', Stp (Owned σ env) B H B' H' → Sm K mg σ0 B' H' σ env' → OSub env env' → R σ B' v a → Q v H'
  | .exn x env' => ∀ cls d B' H', Stp (Owned σ env) B H B' H' → Sm K mg σ0 B' H' σ env' → OSub env env' → ExR mg x cls d H' → W cls d σ H'
/-- the reading t does what m tells -/
def RX (R : St → Hp → β → α → Prop) (t : St → Hp → (β → Hp → Prop) → Prop) (m : M α) : Prop :=
  ∀ σ0 B H σ env, Sm K mg σ0 B H σ env → ∀ Q : β → Hp → Prop, Post K mg W R σ0 σ env B H (m env) Q → t σ H Q
end
section
variable {K : PySem.W.Frag} {mg : Str → Option Value} {W : WX} {α β γ δ : Type} {R : St → Hp → β → α → Prop} {R2 : St → Hp → δ → γ → Prop}
theorem Post.rebase {σ0 σ : St} {env env1 : En} {B H B1 H1 : Hp} {r : Res α} {Q : β → Hp → Prop} (h : Post K mg W R σ0 σ env B H r Q) (s : Stp (Owned σ env) B H B1 H1) (o : OSub env env1) : Post K mg W R σ0 σ env1 B1 H1 r Q := by
  cases r with
  | stuck => exact h
  | ok a env' => exact fun v B' H' s' m' o' r' => h v B' H' (s.trans s' fun x z => o.owned z) m' (o.trans o') r'
  | exn x env' => exact fun c d B' H' s' m' o' r' => h c d B' H' (s.trans s' fun x z => o.owned z) m' (o.trans o') r'
theorem Post.imp {σ0 σ : St} {env : En} {B H : Hp} {r : Res α} {Q Q' : β → Hp → Prop} (h : Post K mg W R σ0 σ env B H r Q) (q : ∀ v H', Q v H' → Q' v H') : Post K mg W R σ0 σ env B H r Q' := by
  cases r with
  | stuck => exact h
  | ok a env' => exact fun v B' H' s' m' o' r' => q _ _ (h v B' H' s' m' o' r')
  | exn x env' => exact h
theorem Post.val {σ0 σ : St} {env : En} {B H : Hp} {a : α} {Q : β → Hp → Prop} {v : β} (h : Post K mg W R σ0 σ env B H (.ok a env) Q) (m : Sm K mg σ0 B H σ env) (r : R σ B v a) : Q v H := h v B H Stp.refl m (OSub.refl _) r
/-- something was made -/
theorem Post.make {σ0 σ : St} {env : En} {B H B' H' : Hp} {a : α} {Q : β → Hp → Prop} {v : β} (h : Post K mg W R σ0 σ env B H (.ok a env) Q) (m : Sm K mg σ0 B H σ env) (g : Same B B') (n : ∀ a o, B' a = some o → B a = some o ∨ H a = none) (s : Same H H') (sb : Sub B' H') (r : R σ B' v a) : Q v H' :=
  h v B' H' (Stp.alloc g n s) (m.alloc g n s sb) (OSub.refl _) r
/-- go on behind t -/
theorem RX.go {t : L2.St → Hp → (β → Hp → Prop) → Prop} {m : M α} {k : α → M γ} {Q' : δ → Hp → Prop} {Q : β → Hp → Prop} {σ0 σ : L2.St} {B H : Hp} {env : En} (h : RX K mg W R t m) (sm : Sm K mg σ0 B H σ env)
    (post : Post K mg W R2 σ0 σ env B H ((m env).bind k) Q') (cont : ∀ v a B1 H1 env1, Sm K mg σ0 B1 H1 σ env1 → Same B B1 → R σ B1 v a → Post K mg W R2 σ0 σ env1 B1 H1 (k a env1) Q' → Q v H1) : t σ H Q := by
  refine h σ0 B H σ env sm _ ?_
  cases e : m env with
  | stuck => rw [e] at post; exact post
  | exn x env' => rw [e] at post; exact post
  | ok a env' =>
    rw [e] at post
    intro v B1 H1 s1 m1 o1 r1
    exact cont v a B1 H1 env' m1 s1.grow r1 (Post.rebase post s1 o1)
theorem RX.bind {t1 : St → Hp → (β → Hp → Prop) → Prop} {t2 : β → St → Hp → (δ → Hp → Prop) → Prop} {m : M α} {k : α → M γ} (h1 : RX K mg W R t1 m)
    (h2 : ∀ v a σ0 B H σ env, Sm K mg σ0 B H σ env → R σ B v a → ∀ Q, Post K mg W R2 σ0 σ env B H (k a env) Q → t2 v σ H Q) :
    RX K mg W R2 (fun σ H Q => t1 σ H fun v H1 => t2 v σ H1 Q) (m.bind k) := by
  intro σ0 B H σ env sm Q post
  refine h1 σ0 B H σ env sm _ ?_
  unfold M.bind at post
  cases e : m env with
  | stuck => rw [e] at post; exact post
  | exn x env' => rw [e] at post; exact post
  | ok a env' =>
    rw [e] at post
    intro v B1 H1 s1 m1 o1 r1
    exact h2 v a σ0 B1 H1 σ env' m1 r1 Q (Post.rebase post s1 o1)
end
end Mi

/-! The mirror layer 2: expressions. -/
namespace Mi
open PySem L2

def RD (K : PySem.W.Frag) (mg : Str → Option Value) : L2.St → Hp → V → D → Prop := fun _ B v d => Rep K mg B v d
def RDs (K : PySem.W.Frag) (mg : Str → Option Value) : L2.St → Hp → List V → List D → Prop := fun _ B v d => Reps K mg B v d
def RB : L2.St → Hp → Bool → Bool → Prop := fun _ _ a b => a = b
def RO : L2.St → Hp → Option Int → Option Int → Prop := fun _ _ a b => a = b

/-- an expression does what m tells -/
structure SE (X : Cx) (W : WX) (e : Expr) (te : TE) (m : M D) : Prop where
  pe : PE X e te
  rx : RX X.K X.mg W (RD X.K X.mg) te m
structure ST (X : Cx) (W : WX) (e : Expr) (tt : TT) (m : M Bool) : Prop where
  pt : PT X e tt
  rx : RX X.K X.mg W RB tt m
structure SW (X : Cx) (W : WX) (e : Expr) (tt : TT) (m : M Bool) : Prop where
  pw : PW X e tt
  rx : RX X.K X.mg W RB tt m
structure SA (X : Cx) (W : WX) (es : List Expr) (ta : TA) (m : M (List D)) : Prop where
  pa : PA X es ta
  rx : RX X.K X.mg W (RDs X.K X.mg) ta m
structure SO (X : Cx) (W : WX) (e : Option Expr) (to : TO) (m : M (Option Int)) : Prop where
  po : PO X e to
  rx : RX X.K X.mg W RO to m

/-- only new things were made -/
structure Al (B H B' H' : Hp) : Prop where
  g : Same B B'
  n : ∀ a o, B' a = some o → B a = some o ∨ H a = none
  s : Same H H'
  sb : Sub B' H'
theorem Al.refl {B H : Hp} (s : Sub B H) : Al B H B H := ⟨Same.refl _, fun _ _ h => .inl h, Same.refl _, s⟩
theorem Al.upd {B H : Hp} (s : Sub B H) {p : Addr} {o : HO} (hp : H p = none) : Al B H (upd B p o) (upd H p o) :=
  ⟨same_upd (s.none hp), new_upd hp, same_upd hp, s.upd hp⟩

section
variable {K : PySem.W.Frag} {mg : Str → Option Value} {W : WX} {α β γ δ ε ζ : Type} {R : L2.St → Hp → β → α → Prop} {R2 : L2.St → Hp → δ → γ → Prop} {R3 : L2.St → Hp → ζ → ε → Prop}
theorem Post.al {σ0 σ : L2.St} {env : En} {B H B' H' : Hp} {a : α} {Q : β → Hp → Prop} {v : β} (h : Post K mg W R σ0 σ env B H (.ok a env) Q) (m : Sm K mg σ0 B H σ env) (l : Al B H B' H') (r : R σ B' v a) : Q v H' :=
  h.make m l.g l.n l.s l.sb r
theorem RX.bind2 {t1 : L2.St → Hp → (β → Hp → Prop) → Prop} {t2 : L2.St → Hp → (δ → Hp → Prop) → Prop} {t3 : β → δ → L2.St → Hp → (ζ → Hp → Prop) → Prop} {m1 : M α} {m2 : M γ} {k : α → γ → M ε}
    (h1 : RX K mg W R t1 m1) (h2 : RX K mg W R2 t2 m2) (mono : ∀ σ B B' v a, R σ B v a → Same B B' → R σ B' v a)
    (h3 : ∀ v w a b σ0 B H σ env, Sm K mg σ0 B H σ env → R σ B v a → R2 σ B w b → ∀ Q, Post K mg W R3 σ0 σ env B H (k a b env) Q → t3 v w σ H Q) :
    RX K mg W R3 (fun σ H Q => t1 σ H fun v H1 => t2 σ H1 fun w H2 => t3 v w σ H2 Q) (m1.bind fun a => m2.bind fun b => k a b) := by
  refine h1.bind (t2 := fun v σ H Q => t2 σ H fun w H2 => t3 v w σ H2 Q) fun v a σ0 B H σ env sm r1 Q post => ?_
  refine h2 σ0 B H σ env sm _ ?_
  have post : Post K mg W R3 σ0 σ env B H ((m2 env).bind fun b => k a b) Q := post
  cases e : m2 env with
  | stuck => rw [e] at post; exact post
  | exn x env' => rw [e] at post; exact post
  | ok b env' =>
    rw [e] at post
    intro w B1 H1 s1 m1 o1 r2
    exact h3 v w a b σ0 B1 H1 σ env' m1 (mono _ _ _ _ _ r1 s1.grow) r2 Q (Post.rebase post s1 o1)
theorem rd_monoR : ∀ (σ : L2.St) (B B' : Hp) (v : V) (a : D), RD K mg σ B v a → Same B B' → RD K mg σ B' v a := fun _ _ _ _ _ h e => Rep.mono e h
theorem rds_monoR : ∀ (σ : L2.St) (B B' : Hp) (v : List V) (a : List D), RDs K mg σ B v a → Same B B' → RDs K mg σ B' v a := fun _ _ _ _ _ h e => Reps.mono e h
theorem rb_monoR : ∀ (σ : L2.St) (B B' : Hp) (v a : Bool), RB σ B v a → Same B B' → RB σ B' v a := fun _ _ _ _ _ h _ => h
theorem ro_monoR : ∀ (σ : L2.St) (B B' : Hp) (v a : Option Int), RO σ B v a → Same B B' → RO σ B' v a := fun _ _ _ _ _ h _ => h
/-- a step that is a value -/
theorem RX.map {t1 : L2.St → Hp → (β → Hp → Prop) → Prop} {t2 : β → Hp → (δ → Hp → Prop) → Prop} {m : M α} {f : α → Option γ} (h1 : RX K mg W R t1 m)
    (h2 : ∀ v a c σ B H, Sub B H → R σ B v a → f a = some c → ∀ Q : δ → Hp → Prop, (∀ w B' H', Al B H B' H' → R2 σ B' w c → Q w H') → t2 v H Q) :
    RX K mg W R2 (fun σ H Q => t1 σ H fun v H1 => t2 v H1 Q) (m.bind fun a => ofO (f a)) := by
  refine h1.bind (t2 := fun v _ H Q => t2 v H Q) fun v a σ0 B H σ env sm r Q post => ?_
  cases e : f a with
  | none => rw [e] at post; exact post.elim
  | some c =>
    rw [e] at post
    exact h2 v a c σ B H sm.sub r e Q fun w B' H' l r' => post.al sm l r'
theorem RX.map2 {t1 : L2.St → Hp → (β → Hp → Prop) → Prop} {t2 : L2.St → Hp → (δ → Hp → Prop) → Prop} {t3 : β → δ → Hp → (ζ → Hp → Prop) → Prop} {m1 : M α} {m2 : M γ} {f : α → γ → Option ε}
    (h1 : RX K mg W R t1 m1) (h2 : RX K mg W R2 t2 m2) (mono : ∀ σ B B' v a, R σ B v a → Same B B' → R σ B' v a)
    (h3 : ∀ v w a b c σ B H, Sub B H → R σ B v a → R2 σ B w b → f a b = some c → ∀ Q : ζ → Hp → Prop, (∀ u B' H', Al B H B' H' → R3 σ B' u c → Q u H') → t3 v w H Q) :
    RX K mg W R3 (fun σ H Q => t1 σ H fun v H1 => t2 σ H1 fun w H2 => t3 v w H2 Q) (m1.bind fun a => m2.bind fun b => ofO (f a b)) := by
  refine h1.bind2 (t3 := fun v w _ H Q => t3 v w H Q) h2 mono fun v w a b σ0 B H σ env sm r1 r2 Q post => ?_
  cases e : f a b with
  | none => rw [e] at post; exact post.elim
  | some c =>
    rw [e] at post
    exact h3 v w a b c σ B H sm.sub r1 r2 e Q fun u B' H' l r' => post.al sm l r'
end

/-! ### names and constants -/
def eV (i : Nat) : M D := fun env => match env[i]? with
  | some (some (.shr d)) => .ok d env
  | _ => .stuck
def eC (d : D) : M D := fun env => .ok d env
section
variable {X : Cx} {W : WX} {pos : Pos} {a b c : Expr} {ta tb tc : TE} {ma mb mc : M D}
theorem rx_var {K mg} {i : Nat} : RX K mg W (RD K mg) (tVar i) (eV i) := by
  intro σ0 B H σ env sm Q post
  unfold eV at post
  cases e : env[i]? with
  | none => rw [e] at post; exact post.elim
  | some s =>
    cases s with
    | none => rw [e] at post; exact post.elim
    | some s =>
      cases s with
      | own p d => rw [e] at post; exact post.elim
      | shr d =>
        rw [e] at post
        obtain ⟨v, e1, r⟩ := sm.sl i _ e
        exact ⟨v, e1, post.val sm r⟩
theorem rx_c {K mg} {v : V} {d : D} (h : ∀ B, Rep K mg B v d) : RX K mg W (RD K mg) (tC v) (eC d) := fun σ0 B H σ env sm Q post => post.val sm (h B)
theorem se_v (i : Nat) {x : Str} (hN : X.N[i]? = some x := by rfl) (hv : Vis X.env.scope x := by first | exact Or.inl rfl | exact Or.inr (Or.inl rfl) | exact Or.inr (Or.inr rfl)) (hd : (x == ("__debug__" : Str)) = false := by decide)
    (hcd : (x == ("__classdict__" : Str)) = false := by decide) : SE X W (.Name x pos) (tVar i) (eV i) := ⟨pe_var hN hv hd hcd, rx_var⟩
theorem se_int {i j} : SE X W (.Constant (.int i) j pos) (tC (.int i)) (eC (.int i)) := ⟨pe_int, rx_c fun _ => .int i⟩
theorem se_bl {i j} : SE X W (.Constant (.bool i) j pos) (tC (.bl i)) (eC (.bl i)) := ⟨pe_bl, rx_c fun _ => .bl i⟩
theorem se_str {i j} : SE X W (.Constant (.str i) j pos) (tC (.str i)) (eC (.str i)) := ⟨pe_str, rx_c fun _ => .str i⟩
theorem se_non {j} : SE X W (.Constant .none j pos) (tC .non) (eC .non) := ⟨pe_non, rx_c fun _ => .non⟩
/-- a module's constant -/
theorem se_g {x : Str} {v : V} {u : Value} (d : D) (hm : X.mg x = some u) (r : RelV v u) (h : ∀ B, Rep X.K X.mg B v d) (hg : Gl X x := by rfl) (hd : (x == ("__debug__" : Str)) = false := by decide) : SE X W (.Name x pos) (tC v) (eC d) := ⟨pe_glob hg hm r hd, rx_c h⟩

/-! ### operators -/
def Real2 (K : PySem.W.Frag) (mg : Str → Option Value) (r : R2) (f : D → D → Option D) : Prop :=
  ∀ (B H : Hp) (x y : V) (d e z : D), Sub B H → Rep K mg B x d → Rep K mg B y e → f d e = some z → ∀ Q : VK, (∀ v B' H', Al B H B' H' → Rep K mg B' v z → Q v H') → r x y H Q
def Real1 (K : PySem.W.Frag) (mg : Str → Option Value) (r : V → Hp → VK → Prop) (f : D → Option D) : Prop :=
  ∀ (B H : Hp) (x : V) (d z : D), Sub B H → Rep K mg B x d → f d = some z → ∀ Q : VK, (∀ v B' H', Al B H B' H' → Rep K mg B' v z → Q v H') → r x H Q
def RealC (K : PySem.W.Frag) (mg : Str → Option Value) (r : List V → Hp → VK → Prop) (f : List D → Option D) : Prop :=
  ∀ (B H : Hp) (x : List V) (d : List D) (z : D), Sub B H → Reps K mg B x d → f d = some z → ∀ Q : VK, (∀ v B' H', Al B H B' H' → Rep K mg B' v z → Q v H') → r x H Q
def eOp (f : D → D → Option D) (ma mb : M D) : M D := ma.bind fun a => mb.bind fun b => ofO (f a b)
def eUn (f : D → Option D) (ma : M D) : M D := ma.bind fun a => ofO (f a)
theorem rx_op {r : R2} {f : D → D → Option D} {K mg} (hf : Real2 K mg r f) (ha : RX K mg W (RD K mg) ta ma) (hb : RX K mg W (RD K mg) tb mb) : RX K mg W (RD K mg) (tOp r ta tb) (eOp f ma mb) :=
  ha.map2 (t3 := fun v w H Q => r v w H Q) hb rd_monoR fun v w a b c σ B H s r1 r2 e Q q => hf B H v w a b c s r1 r2 e Q fun u B' H' l r' => q u B' H' l r'
theorem rx_un {r : V → Hp → VK → Prop} {f : D → Option D} {K mg} (hf : Real1 K mg r f) (ha : RX K mg W (RD K mg) ta ma) : RX K mg W (RD K mg) (tUn r ta) (eUn f ma) :=
  ha.map (t2 := fun v H Q => r v H Q) fun v a c σ B H s r1 e Q q => hf B H v a c s r1 e Q fun u B' H' l r' => q u B' H' l r'
theorem se_op {op : Operator} {r : R2} {f : D → D → Option D} (ho : OpR X (binaryOp op) r) (hf : Real2 X.K X.mg r f) (ha : SE X W a ta ma) (hb : SE X W b tb mb) : SE X W (.BinOp a op b pos) (tOp r ta tb) (eOp f ma mb) :=
  ⟨pe_op ho ha.pe hb.pe, rx_op hf ha.rx hb.rx⟩
theorem se_un {op : UnaryOp} {r : V → Hp → VK → Prop} {f : D → Option D} (ho : UnR X (unaryOp op) r) (hf : Real1 X.K X.mg r f) (ha : SE X W a ta ma) : SE X W (.UnaryOp op a pos) (tUn r ta) (eUn f ma) :=
  ⟨pe_un ho ha.pe, rx_un hf ha.rx⟩
theorem se_cmp {op : CmpOp} {r : R2} {f : D → D → Option D} (ho : OpR X (compareOp op) r) (hf : Real2 X.K X.mg r f) (ha : SE X W a ta ma) (hb : SE X W b tb mb) (hm : behindInMarks op b = false := by first | exact nomark _ | with_unfolding_all rfl) : SE X W (.Compare a [op] [b] pos) (tOp r ta tb) (eOp f ma mb) :=
  ⟨pe_cmpR ho ha.pe hb.pe hm, rx_op hf ha.rx hb.rx⟩

/-! ### tests -/
def asB : D → Option Bool
  | .bl b => some b
  | _ => none
def eTest (m : M D) : M Bool := m.bind fun a => ofO (asB a)
theorem asB_some {d : D} {c : Bool} (h : asB d = some c) : d = .bl c := by
  cases d <;> first | (cases h; rfl) | cases h
theorem Rep.bl_inv {K mg} {B : Hp} {v : V} {c : Bool} (h : Rep K mg B v (.bl c)) : v = .bl c := by cases h; rfl
theorem Rep.int_inv {K mg} {B : Hp} {v : V} {c : Int} (h : Rep K mg B v (.int c)) : v = .int c := by cases h; rfl
theorem Rep.str_inv {K mg} {B : Hp} {v : V} {c : Str} (h : Rep K mg B v (.str c)) : v = .str c := by cases h; rfl
theorem Rep.non_inv {K mg} {B : Hp} {v : V} (h : Rep K mg B v .non) : v = .non := by cases h; rfl
theorem rx_tB {K mg} {te : TE} {m : M D} (h : RX K mg W (RD K mg) te m) : RX K mg W RB (tB te) (eTest m) :=
  h.map (t2 := fun x H Q => ∃ c, x = .bl c ∧ Q c H) fun v a c σ B H s r e Q q => by
    have := asB_some e
    subst this
    exact ⟨c, Rep.bl_inv r, q c B H (Al.refl s) rfl⟩
theorem rx_tTest {K mg} {te : TE} {m : M D} (h : RX K mg W (RD K mg) te m) : RX K mg W RB (tTest te) (eTest m) := rx_tB h
theorem st_val {e : Expr} {te : TE} {m : M D} (h : SE X W e te m) (he : ∀ whole, isTrue e X.env whole = (do let v ← whole; standAt e.pos; holding [v] (truthy v)) := by intro _; rfl) : ST X W e (tB te) (eTest m) := ⟨pt_val h.pe he, rx_tB h.rx⟩
theorem st_cmp {op : CmpOp} {r : R2} {f : D → D → Option D} (ho : OpR X (compareOp op) r) (hf : Real2 X.K X.mg r f) (ha : SE X W a ta ma) (hb : SE X W b tb mb) (hm : behindInMarks op b = false := by first | exact nomark _ | with_unfolding_all rfl) : ST X W (.Compare a [op] [b] pos) (tTest (tOp r ta tb)) (eTest (eOp f ma mb)) :=
  ⟨pt_cmpR ho ha.pe hb.pe hm, rx_tTest (rx_op hf ha.rx hb.rx)⟩
/-- a op b op' c -/
def eChain (f g : D → D → Option D) (ma mb mc : M D) : M D := ma.bind fun a => mb.bind fun b => fun env => match f a b with
  | some (.bl true) => (mc.bind fun c => ofO (g b c)) env
  | some (.bl false) => .ok (.bl false) env
  | _ => .stuck
theorem rx_chain {K mg} {r r' : R2} {f g : D → D → Option D} (hf : Real2 K mg r f) (hg : Real2 K mg r' g) (ha : RX K mg W (RD K mg) ta ma) (hb : RX K mg W (RD K mg) tb mb) (hc : RX K mg W (RD K mg) tc mc) :
    RX K mg W (RD K mg) (tChain r r' ta tb tc) (eChain f g ma mb mc) := by
  refine ha.bind2 (t3 := fun x y σ H Q => r x y H fun z H3 => ∃ k, z = .bl k ∧ (if k = true then tc σ H3 fun w' H4 => r' y w' H4 Q else Q (.bl false) H3)) hb rd_monoR fun v w a b σ0 B H σ env sm r1 r2 Q post => ?_
  cases e : f a b with
  | none => rw [e] at post; exact post.elim
  | some z =>
    rw [e] at post
    refine hf B H v w a b z sm.sub r1 r2 e _ fun u B' H' l r3 => ?_
    cases z with
    | bl k =>
      refine ⟨k, Rep.bl_inv r3, ?_⟩
      cases k with
      | false =>
        have post : Post K mg W (RD K mg) σ0 σ env B H (.ok (.bl false) env) Q := post
        exact post.al sm l (Rep.bl false)
      | true =>
        have post : Post K mg W (RD K mg) σ0 σ env B H ((mc.bind fun c => ofO (g b c)) env) Q := post
        have sm' := sm.alloc l.g l.n l.s l.sb
        have post' := post.rebase (Stp.alloc l.g l.n l.s) (OSub.refl _)
        refine hc.go (R2 := RD K mg) (Q' := Q) (k := fun c => ofO (g b c)) sm' post' fun x c B1 H1 env1 sm1 g1 r1 post1 => ?_
        cases e' : g b c with
        | none => rw [e'] at post1; exact post1.elim
        | some z' =>
          rw [e'] at post1
          exact hg B1 H1 w x b c z' sm1.sub (r2.mono (l.g.trans g1)) r1 e' Q fun u B2 H2 l2 r4 => post1.al sm1 l2 r4
    | _ => exact post.elim
end
end Mi

/-! The mirror layer 3: operators. -/
namespace Mi
open PySem L2

section
variable {K : PySem.W.Frag} {mg : Str → Option Value} {B B' H H' : Hp}
/-! ### to one side -/
theorem Real2.val {r : R2} {f : D → D → Option D} (h : ∀ (B H : Hp) (x y : V) (d e z : D), Sub B H → Rep K mg B x d → Rep K mg B y e → f d e = some z → ∃ v, (∀ B, Rep K mg B v z) ∧ ∀ Q : VK, Q v H → r x y H Q) : Real2 K mg r f :=
  fun B H x y d e z s h1 h2 e1 Q q => by
    obtain ⟨v, r1, r2⟩ := h B H x y d e z s h1 h2 e1
    exact r2 Q (q v B H (Al.refl s) (r1 B))

def dAdd : D → D → Option D
  | .int i, .int j => some (.int (i + j))
  | .str x, .str y => if x.length + y.length ≤ 16777216 then some (.str (x ++ y)) else none
  | .tup x, .tup y => if x.length + y.length ≤ 16777216 then some (.tup (x ++ y)) else none
  | .lst x, .lst y => if x.length + y.length ≤ 16777216 then some (.lst (x ++ y)) else none
  | _, _ => none
def rAddA (K : PySem.W.Frag) : R2 := fun x y H Q => rI0 (fun i j => .int (i + j)) x y H Q ∨ ((∃ i j, x = .str i ∧ y = .str j ∧ i.length + j.length ≤ sizeLine ∧ Q (.str (i ++ j)) H) ∨ (rCatA K x y H Q ∨ rCat x y H Q))
theorem or_add {X : Cx} : OpR X (binaryOp .Add) (rAddA X.K) := op_add.or (op_add_str.or (op_catA.or op_cat))
theorem re_add : Real2 K mg (rAddA K) dAdd := by
  intro B H x y d e z s h1 h2 e1 Q q
  have hz : sizeLine = 16777216 := sizeLine_eq
  unfold dAdd at e1
  split at e1
  · cases e1; cases h1; cases h2
    exact .inl ⟨_, _, rfl, rfl, q _ B H (Al.refl s) (.int _)⟩
  · split at e1
    · cases e1; cases h1; cases h2
      exact .inr (.inl ⟨_, _, rfl, rfl, by omega, q _ B H (Al.refl s) (.str _)⟩)
    · cases e1
  · split at e1
    · rename_i hl
      cases e1
      cases h1 with
      | tup p1 r1 =>
        cases h2 with
        | tup p2 r2 =>
          have l1 := r1.length
          have l2 := r2.length
          refine .inr (.inr (.inl ⟨_, _, _, _, rfl, rfl, SqT.of (s.tup p1), SqT.of (s.tup p2), by omega, fun e => ?_, fun _ e => ?_, fun _ _ p hp => ?_⟩))
          · subst e
            cases r1
            exact q _ B H (Al.refl s) (.tup p2 r2)
          · subst e
            cases r2
            rw [List.append_nil] at q
            exact q _ B H (Al.refl s) (.tup p1 r1)
          · exact q _ _ _ (Al.upd s hp) (.tup upd_same ((r1.append r2).mono (Al.upd s hp).g))
    · cases e1
  · split at e1
    · rename_i hl
      cases e1
      cases h1 with
      | lst p1 r1 =>
        cases h2 with
        | lst p2 r2 =>
          have l1 := r1.length
          have l2 := r2.length
          refine .inr (.inr (.inr ⟨_, _, _, _, rfl, rfl, s.lst p1, s.lst p2, by omega, fun p hp => ?_⟩))
          exact q _ _ _ (Al.upd s hp) (.lst upd_same ((r1.append r2).mono (Al.upd s hp).g))
    · cases e1
  · cases e1

def dSub : D → D → Option D
  | .int i, .int j => some (.int (i - j))
  | _, _ => none
theorem re_sub : Real2 K mg (rI0 fun i j => .int (i - j)) dSub := by
  intro B H x y d e z s h1 h2 e1 Q q
  unfold dSub at e1
  split at e1
  · cases e1; cases h1; cases h2
    exact ⟨_, _, rfl, rfl, q _ B H (Al.refl s) (.int _)⟩
  · cases e1

/-- a text times an int -/
def rMulS : R2 := fun x y H Q => ∃ z n, x = .str z ∧ y = .int n ∧ PySem.MulOk z n ∧ Q (.str (PySem.Txt.mul z n)) H
theorem op_mulS {X : Cx} : OpR X (binaryOp .Mult) rMulS := by
  intro pins s σ H x y v u Q I rx ry h
  obtain ⟨z, n, rfl, rfl, hk, q⟩ := h
  obtain ⟨t, rfl⟩ := rx
  obtain ⟨t', rfl⟩ := ry
  exact PySem.SB.mul hk fun t' k => ⟨.str _, H, I.tok _, ⟨_, rfl⟩, q⟩
theorem mulOk_small {z : Str} {n : Int} (h0 : -1000000 ≤ n) (h1 : n ≤ 1000000) (h2 : z.length * n.toNat ≤ 1000000) : PySem.MulOk z n := by
  refine ⟨?_, fun hn _ hg => ?_, fun hn _ => ?_⟩
  · rw [Bool.or_eq_false_iff]
    exact ⟨decide_eq_false (by omega), decide_eq_false (by omega)⟩
  · have : (z.length : Int) * n ≤ 1000000 := by
      have e : ((z.length * n.toNat : Nat) : Int) = (z.length : Int) * n := by rw [Int.natCast_mul, Int.toNat_of_nonneg (by omega)]
      omega
    have h3 : ((2 : Int) ^ 63 - 1) / n < (z.length : Int) := hg
    have h4 : (2 : Int) ^ 63 - 1 < (((2 : Int) ^ 63 - 1) / n + 1) * n := Int.lt_mul_of_ediv_lt (by omega) (by omega)
    have h5 : (((2 : Int) ^ 63 - 1) / n + 1) * n ≤ (z.length : Int) * n := Int.mul_le_mul_of_nonneg_right (by omega) (by omega)
    omega
  · have hz : sizeLine = 16777216 := sizeLine_eq
    have : ¬ (z.length * n.toNat > 1000000) := by omega
    unfold Builtin.Str.tooLong
    first
      | (refine decide_eq_false ?_; omega)
      | (simp; omega)
def smallMul (i j : Int) : Bool := decide (i.natAbs.log2 + j.natAbs.log2 < 1000000)
def dMul : D → D → Option D
  | .int i, .int j => if smallMul i j then some (.int (i * j)) else none
  | .str z, .int n => if -1000000 ≤ n ∧ n ≤ 1000000 ∧ z.length * n.toNat ≤ 1000000 then some (.str (PySem.Txt.mul z n)) else none
  | _, _ => none
def rMulA : R2 := fun x y H Q => rI CMulW (fun i j => .int (i * j)) x y H Q ∨ rMulS x y H Q
theorem or_mul {X : Cx} : OpR X (binaryOp .Mult) rMulA := op_mulW.or op_mulS
theorem re_mul : Real2 K mg rMulA dMul := by
  intro B H x y d e z s h1 h2 e1 Q q
  unfold dMul at e1
  split at e1
  · split at e1
    · rename_i i j hs
      have hs' : i.natAbs.log2 + j.natAbs.log2 < 1000000 := of_decide_eq_true hs
      cases e1; cases h1; cases h2
      exact .inl ⟨_, _, rfl, rfl, hs', q _ B H (Al.refl s) (.int _)⟩
    · cases e1
  · split at e1
    · rename_i hs
      cases e1; cases h1; cases h2
      exact .inr ⟨_, _, rfl, rfl, mulOk_small hs.1 hs.2.1 hs.2.2, q _ B H (Al.refl s) (.str _)⟩
    · cases e1
  · cases e1

/-! ### division, powers, shifts -/
def CDivG (_ j : Int) : Prop := j ≠ 0 ∧ j.natAbs.log2 < 9000
theorem op_fdivG {X : Cx} : OpR X (binaryOp .FloorDiv) (rI CDivG fun i j => .int (i.fdiv j)) := opI fun _ _ _ _ _ _ _ hc q => PyProof.Rows.floordiv_int hc.1 q (.inl (PyProof.noPylong_of_log2 hc.2))
theorem realI {C : Int → Int → Prop} {g : Int → Int → Int} {f : D → D → Option D} (h : ∀ d e z, f d e = some z → ∃ i j, d = .int i ∧ e = .int j ∧ C i j ∧ z = .int (g i j)) : Real2 K mg (rI C fun i j => .int (g i j)) f := by
  intro B H x y d e z s h1 h2 e1 Q q
  obtain ⟨i, j, rfl, rfl, hc, rfl⟩ := h d e z e1
  cases h1; cases h2
  exact ⟨_, _, rfl, rfl, hc, q _ B H (Al.refl s) (.int _)⟩
def dDiv : D → D → Option D
  | .int i, .int j => if j ≠ 0 ∧ j.natAbs.log2 < 9000 then some (.int (i.fdiv j)) else none
  | _, _ => none
theorem re_div : Real2 K mg (rI CDivG fun i j => .int (i.fdiv j)) dDiv := realI fun d e z h => by
  unfold dDiv at h
  split at h
  · split at h
    · rename_i hs
      cases h
      exact ⟨_, _, rfl, rfl, hs, rfl⟩
    · cases h
  · cases h
def dMod : D → D → Option D
  | .int i, .int j => if j ≠ 0 then some (.int (i.fmod j)) else none
  | _, _ => none
theorem re_mod : Real2 K mg (rI (fun _ j => j ≠ 0) fun i j => .int (i.fmod j)) dMod := realI fun d e z h => by
  unfold dMod at h
  split at h
  · split at h
    · rename_i hs
      cases h
      exact ⟨_, _, rfl, rfl, hs, rfl⟩
    · cases h
  · cases h
def smallPow (i j : Int) : Bool := decide (0 ≤ j) && decide (j ≤ 1000000) && decide (i.natAbs < 2 ^ 64)
theorem smallPow_ok {i j : Int} (h : smallPow i j = true) : CPow i j := by
  unfold smallPow at h
  rw [Bool.and_eq_true, Bool.and_eq_true] at h
  exact ⟨of_decide_eq_true h.1.1, of_decide_eq_true h.1.2, of_decide_eq_true h.2⟩
def dPow : D → D → Option D
  | .int i, .int j => if smallPow i j then some (.int (i ^ j.toNat)) else none
  | _, _ => none
theorem re_pow : Real2 K mg (rI CPow fun i j => .int (i ^ j.toNat)) dPow := realI fun d e z h => by
  unfold dPow at h
  split at h
  · split at h
    · rename_i hs
      cases h
      exact ⟨_, _, rfl, rfl, smallPow_ok hs, rfl⟩
    · cases h
  · cases h
def dShl : D → D → Option D
  | .int i, .int j => if smallPow i j then some (.int (i * 2 ^ j.toNat)) else none
  | _, _ => none
theorem re_shl : Real2 K mg (rI CPow fun i j => .int (i * 2 ^ j.toNat)) dShl := realI fun d e z h => by
  unfold dShl at h
  split at h
  · split at h
    · rename_i hs
      cases h
      exact ⟨_, _, rfl, rfl, smallPow_ok hs, rfl⟩
    · cases h
  · cases h
def dNeg : D → Option D
  | .int i => some (.int (-i))
  | _ => none
theorem re_neg : Real1 K mg (rU fun i => .int (-i)) dNeg := by
  intro B H x d z s h1 e1 Q q
  unfold dNeg at e1
  split at e1
  · cases e1; cases h1
    exact ⟨_, rfl, q _ B H (Al.refl s) (.int _)⟩
  · cases e1

/-! ### comparisons -/
def rBl (f : Int → Int → Bool) : R2 := fun x y H Q => ∃ a b, x = .bl a ∧ y = .bl b ∧ Q (.bl (f (PyProof.Rows.b2i a) (PyProof.Rows.b2i b))) H
theorem opBl {X : Cx} {op : CmpOp} {f : Int → Int → Bool} (rule : ∀ (p q : Bool) (s : Shared) (Q : Value → Shared → Prop) (E : Value → Shared → Prop), Q (.bool (f (PyProof.Rows.b2i p) (PyProof.Rows.b2i q))) s → wpAny (model X.prog X.w) X.A (compareOp op (.bool p) (.bool q)) Q E s) :
    OpR X (compareOp op) (rBl f) := by
  intro pins s σ H x y v u Q I rx ry h
  obtain ⟨a, b, rfl, rfl, q⟩ := h
  cases (show v = Value.bool a from rx)
  cases (show u = Value.bool b from ry)
  exact rule a b s _ _ ⟨.bl _, H, I, rfl, q⟩
theorem op_ltB {X : Cx} : OpR X (compareOp .Lt) (rBl fun a b => decide (a < b)) := opBl fun _ _ _ _ _ q => PyProof.Rows.lt_bool q
theorem op_leB {X : Cx} : OpR X (compareOp .LtE) (rBl fun a b => decide (a ≤ b)) := opBl fun _ _ _ _ _ q => PyProof.Rows.le_bool q
theorem op_gtB {X : Cx} : OpR X (compareOp .Gt) (rBl fun a b => decide (b < a)) := opBl fun _ _ _ _ _ q => PyProof.Rows.gt_bool q
theorem op_geB {X : Cx} : OpR X (compareOp .GtE) (rBl fun a b => decide (b ≤ a)) := opBl fun _ _ _ _ _ q => PyProof.Rows.ge_bool q
def rStr (f : List Nat → List Nat → Bool) : R2 := fun x y H Q => ∃ i j, x = .str i ∧ y = .str j ∧ Q (.bl (f i.cps.toList j.cps.toList)) H
/-- an order: on ints, truth values, texts -/
def rOrd (fi : Int → Int → Bool) (fs : List Nat → List Nat → Bool) : R2 := fun x y H Q => rI0 (fun i j => .bl (fi i j)) x y H Q ∨ (rStr fs x y H Q ∨ rBl fi x y H Q)
def dOrd (fi : Int → Int → Bool) (fs : List Nat → List Nat → Bool) : D → D → Option D
  | .int i, .int j => some (.bl (fi i j))
  | .str i, .str j => some (.bl (fs i.cps.toList j.cps.toList))
  | .bl i, .bl j => some (.bl (fi (PyProof.Rows.b2i i) (PyProof.Rows.b2i j)))
  | _, _ => none
theorem re_ord {fi : Int → Int → Bool} {fs : List Nat → List Nat → Bool} : Real2 K mg (rOrd fi fs) (dOrd fi fs) := by
  intro B H x y d e z s h1 h2 e1 Q q
  unfold dOrd at e1
  split at e1
  · cases e1; cases h1; cases h2
    exact .inl ⟨_, _, rfl, rfl, q _ B H (Al.refl s) (.bl _)⟩
  · cases e1; cases h1; cases h2
    exact .inr (.inl ⟨_, _, rfl, rfl, q _ B H (Al.refl s) (.bl _)⟩)
  · cases e1; cases h1; cases h2
    exact .inr (.inr ⟨_, _, rfl, rfl, q _ B H (Al.refl s) (.bl _)⟩)
  · cases e1
abbrev dLt := dOrd (fun i j => decide (i < j)) (fun x y => decide (x < y))
abbrev dLe := dOrd (fun i j => decide (i ≤ j)) (fun x y => !decide (y < x))
abbrev dGt := dOrd (fun i j => decide (j < i)) (fun x y => decide (y < x))
abbrev dGe := dOrd (fun i j => decide (j ≤ i)) (fun x y => !decide (x < y))
theorem or_lt {X : Cx} : OpR X (compareOp .Lt) (rOrd (fun i j => decide (i < j)) (fun x y => decide (x < y))) := op_lt.or (op_lt_str.or op_ltB)
theorem or_le {X : Cx} : OpR X (compareOp .LtE) (rOrd (fun i j => decide (i ≤ j)) (fun x y => !decide (y < x))) := op_le.or (op_le_str.or op_leB)
theorem or_gt {X : Cx} : OpR X (compareOp .Gt) (rOrd (fun i j => decide (j < i)) (fun x y => decide (y < x))) := op_gt.or (op_gt_str.or op_gtB)
theorem or_ge {X : Cx} : OpR X (compareOp .GtE) (rOrd (fun i j => decide (j ≤ i)) (fun x y => !decide (x < y))) := op_ge.or (op_ge_str.or op_geB)

/-! ### == of data -/
mutual
def toPy : D → PyData
  | .non => .none
  | .bl b => .bool b
  | .int i => .int i
  | .str x => .str x
  | .tup xs => .tuple (toPys xs)
  | .ftp xs => .tuple (toPys xs)
  | .lst xs => .list (toPys xs)
  | .frz xs => .list (toPys xs)
  | .dK _ => .dict []
  | .dT _ => .dict []
  | .ins _ _ => .dict []
def toPys : List D → List PyData
  | [] => []
  | x :: xs => toPy x :: toPys xs
end
mutual
theorem Rep.dp (s : Sub B H) : ∀ {v : V} {d : D}, Rep K mg B v d → (toPy d).canLay0 = true → Dp K H v (toPy d)
  | _, _, .non, _ => .non
  | _, _, .bl b, _ => .bl b
  | _, _, .int b, _ => .int b
  | _, _, .str b, _ => .str b
  | _, _, .tup (ds := ds) h r, c => by
    rw [toPy] at c ⊢
    exact .tup (.of (s.tup h)) (Reps.dp s r c)
  | _, _, .ftp (ds := ds) h r, c => by
    rw [toPy] at c ⊢
    exact .tup (s.sqT h) (Reps.dp s r c)
  | _, _, .lst (ds := ds) h r, c => by
    rw [toPy] at c ⊢
    exact .lst (.of (s.lst h)) (Reps.dp s r c)
  | _, _, .frz (ds := ds) h r, c => by
    rw [toPy] at c ⊢
    exact .lst (s.sqL h) (Reps.dp s r c)
  | _, _, .dK h k r, c => by rw [toPy] at c; cases c
  | _, _, .dT h k r, c => by rw [toPy] at c; cases c
  | _, _, .ins h m k r, c => by rw [toPy] at c; cases c
theorem Reps.dp (s : Sub B H) : ∀ {v : List V} {d : List D}, Reps K mg B v d → PyData.canLayAll0 (toPys d) = true → DpAll K H v (toPys d)
  | _, _, .nil, _ => by rw [toPys]; exact .nil
  | _, _, .cons h r, c => by
    rw [toPys] at c ⊢
    have c' : ((toPy _).canLay0 && PyData.canLayAll0 (toPys _)) = true := c
    rw [Bool.and_eq_true] at c'
    exact .cons (Rep.dp s h c'.1) (Reps.dp s r c'.2)
end
def dEq (d e : D) : Option D := if SeqAt.shaped (toPy d) && SeqAt.shaped (toPy e) then some (.bl (PyData.eqv (toPy d) (toPy e))) else none
def dNe (d e : D) : Option D := if SeqAt.shaped (toPy d) && SeqAt.shaped (toPy e) then some (.bl (!PyData.eqv (toPy d) (toPy e))) else none
theorem re_eq : Real2 K mg (rEqD K) dEq := by
  intro B H x y d e z s h1 h2 e1 Q q
  unfold dEq at e1
  split at e1
  · rename_i hs
    rw [Bool.and_eq_true] at hs
    cases e1
    exact ⟨_, _, h1.dp s (SeqAt.canLay_of_shaped hs.1), h2.dp s (SeqAt.canLay_of_shaped hs.2), hs.1, hs.2, q _ B H (Al.refl s) (.bl _)⟩
  · cases e1
theorem re_ne : Real2 K mg (rNeD K) dNe := by
  intro B H x y d e z s h1 h2 e1 Q q
  unfold dNe at e1
  split at e1
  · rename_i hs
    rw [Bool.and_eq_true] at hs
    cases e1
    exact ⟨_, _, h1.dp s (SeqAt.canLay_of_shaped hs.1), h2.dp s (SeqAt.canLay_of_shaped hs.2), hs.1, hs.2, q _ B H (Al.refl s) (.bl _)⟩
  · cases e1

/-! ### is None; is, of truth values -/
def isNon : D → Bool
  | .non => true
  | _ => false
theorem Rep.isNon {v : V} {d : D} (h : Rep K mg B v d) : decide (v = .non) = isNon d := by cases h <;> rfl
def dIsN (d _e : D) : Option D := some (.bl (isNon d))
def dNotN (d _e : D) : Option D := some (.bl (!isNon d))
/-- a is None -/
def rIsN0 : R2 := fun x y H Q => y = .non ∧ Q (.bl (decide (x = .non))) H
def rNotN0 : R2 := fun x y H Q => y = .non ∧ Q (.bl (!decide (x = .non))) H
def eIsN (m : M D) : M D := m.bind fun a => M.pure (.bl (isNon a))
def eNotN (m : M D) : M D := m.bind fun a => M.pure (.bl (!isNon a))
def dIs : D → D → Option D
  | .bl a, .bl b => some (.bl (decide (a = b)))
  | _, _ => none
def dIsNot : D → D → Option D
  | .bl a, .bl b => some (.bl (!decide (a = b)))
  | _, _ => none
theorem re_is : Real2 K mg rIsB dIs := by
  intro B H x y d e z s h1 h2 e1 Q q
  unfold dIs at e1
  split at e1
  · cases e1; cases h1; cases h2
    exact ⟨_, _, rfl, rfl, q _ B H (Al.refl s) (.bl _)⟩
  · cases e1
theorem re_isNot : Real2 K mg rNotB dIsNot := by
  intro B H x y d e z s h1 h2 e1 Q q
  unfold dIsNot at e1
  split at e1
  · cases e1; cases h1; cases h2
    exact ⟨_, _, rfl, rfl, q _ B H (Al.refl s) (.bl _)⟩
  · cases e1
end
section
variable {X : Cx} {W : WX} {pos pos' : Pos} {a b c : Expr} {ta tb tc : TE} {ma mb mc : M D} {j : Nat}
theorem rx_isN {K mg} (h : RX K mg W (RD K mg) ta ma) : RX K mg W (RD K mg) (tIsN ta) (eIsN ma) :=
  h.bind (t2 := fun x _ H1 Q => Q (V.bl (decide (x = .non))) H1) fun v a σ0 B H σ env sm r Q post => by
    have post : Post K mg W (RD K mg) σ0 σ env B H (.ok (.bl (isNon a)) env) Q := post
    rw [Rep.isNon r]
    exact post.val sm (Rep.bl _)
theorem rx_notN {K mg} (h : RX K mg W (RD K mg) ta ma) : RX K mg W (RD K mg) (tNotN ta) (eNotN ma) :=
  h.bind (t2 := fun x _ H1 Q => Q (V.bl (!decide (x = .non))) H1) fun v a σ0 B H σ env sm r Q post => by
    have post : Post K mg W (RD K mg) σ0 σ env B H (.ok (.bl (!isNon a)) env) Q := post
    rw [Rep.isNon r]
    exact post.val sm (Rep.bl _)
theorem se_isN (h : SE X W a ta ma) : SE X W (.Compare a [.Is] [.Constant .none j pos'] pos) (tIsN ta) (eIsN ma) := ⟨pe_cmp (pc_isN h.pe), rx_isN h.rx⟩
theorem se_notN (h : SE X W a ta ma) : SE X W (.Compare a [.IsNot] [.Constant .none j pos'] pos) (tNotN ta) (eNotN ma) := ⟨pe_cmp (pc_notN h.pe), rx_notN h.rx⟩
theorem st_isN (h : SE X W a ta ma) : ST X W (.Compare a [.Is] [.Constant .none j pos'] pos) (tB (tIsN ta)) (eTest (eIsN ma)) := ⟨pt_cmp (pc_isN h.pe), rx_tB (rx_isN h.rx)⟩
theorem st_notN (h : SE X W a ta ma) : ST X W (.Compare a [.IsNot] [.Constant .none j pos'] pos) (tB (tNotN ta)) (eTest (eNotN ma)) := ⟨pt_cmp (pc_notN h.pe), rx_tB (rx_notN h.rx)⟩
theorem se_chain {op op' : CmpOp} {r r' : R2} {f g : D → D → Option D} (ho : OpR X (compareOp op) r) (hf : Real2 X.K X.mg r f) (ho' : OpR X (compareOp op') r') (hg : Real2 X.K X.mg r' g) (ha : SE X W a ta ma) (hb : SE X W b tb mb) (hc : SE X W c tc mc)
    (hm : lastMarks [op, op'] [b, c] = false := by with_unfolding_all rfl) : SE X W (.Compare a [op, op'] [b, c] pos) (tChain r r' ta tb tc) (eChain f g ma mb mc) := ⟨pe_chain ho ho' ha.pe hb.pe hc.pe hm, rx_chain hf hg ha.rx hb.rx hc.rx⟩
theorem st_chain {op op' : CmpOp} {r r' : R2} {f g : D → D → Option D} (ho : OpR X (compareOp op) r) (hf : Real2 X.K X.mg r f) (ho' : OpR X (compareOp op') r') (hg : Real2 X.K X.mg r' g) (ha : SE X W a ta ma) (hb : SE X W b tb mb) (hc : SE X W c tc mc)
    (hm : lastMarks [op, op'] [b, c] = false := by with_unfolding_all rfl) : ST X W (.Compare a [op, op'] [b, c] pos) (tTest (tChain r r' ta tb tc)) (eTest (eChain f g ma mb mc)) := ⟨pt_chain ho ho' ha.pe hb.pe hc.pe hm, rx_tTest (rx_chain hf hg ha.rx hb.rx hc.rx)⟩

/-! ### and, or, not, if else -/
def bAnd (m n : M Bool) : M Bool := m.bind fun a => if a = true then n else M.pure false
def bOr (m n : M Bool) : M Bool := m.bind fun a => if a = true then M.pure true else n
def bNot (m : M Bool) : M Bool := m.bind fun a => M.pure (!a)
def eAnd (m n : M D) : M D := m.bind fun d => match d with
  | .bl true => n
  | .bl false => M.pure (.bl false)
  | _ => fun _ => .stuck
def eOr (m n : M D) : M D := m.bind fun d => match d with
  | .bl true => M.pure (.bl true)
  | .bl false => n
  | _ => fun _ => .stuck
def eNot (m : M D) : M D := m.bind fun d => match d with
  | .bl b => M.pure (.bl (!b))
  | _ => fun _ => .stuck
def eIf (t : M Bool) (m n : M D) : M D := t.bind fun c => if c = true then m else n
variable {tt tu : TT} {mt mu : M Bool} {rest : List Expr} {op : BoolOp}
theorem rx_and {K mg} (h1 : RX K mg W RB tt mt) (h2 : RX K mg W RB tu mu) : RX K mg W RB (tAnd tt tu) (bAnd mt mu) :=
  h1.bind (t2 := fun c σ H1 Q => if c = true then tu σ H1 Q else Q false H1) fun v a σ0 B H σ env sm r Q post => by
    have e : v = a := r
    subst e
    cases v with
    | true => exact h2 σ0 B H σ env sm Q post
    | false => exact post.val sm rfl
theorem rx_or {K mg} (h1 : RX K mg W RB tt mt) (h2 : RX K mg W RB tu mu) : RX K mg W RB (tOr tt tu) (bOr mt mu) :=
  h1.bind (t2 := fun c σ H1 Q => if c = true then Q true H1 else tu σ H1 Q) fun v a σ0 B H σ env sm r Q post => by
    have e : v = a := r
    subst e
    cases v with
    | false => exact h2 σ0 B H σ env sm Q post
    | true => exact post.val sm rfl
theorem rx_not {K mg} (h1 : RX K mg W RB tt mt) : RX K mg W RB (tNot tt) (bNot mt) :=
  h1.bind (t2 := fun c σ H1 Q => Q (!c) H1) fun v a σ0 B H σ env sm r Q post => by
    have e : v = a := r
    subst e
    exact post.val sm rfl
theorem SW.st (h : SW X W a tt mt) : ST X W a tt mt := ⟨h.pw.pt, h.rx⟩
theorem sw_and1 (h : ST X W a tt mt) : SW X W (.BoolOp .And [a] pos) tt mt := ⟨pw_and1 h.pt, h.rx⟩
theorem sw_or1 (h : ST X W a tt mt) : SW X W (.BoolOp .Or [a] pos) tt mt := ⟨pw_or1 h.pt, h.rx⟩
theorem sw_and (h : ST X W a tt mt) (g : SW X W (.BoolOp .And (b :: rest) pos) tu mu) : SW X W (.BoolOp .And (a :: b :: rest) pos) (tAnd tt tu) (bAnd mt mu) := ⟨pw_and h.pt g.pw, rx_and h.rx g.rx⟩
theorem sw_or (h : ST X W a tt mt) (g : SW X W (.BoolOp .Or (b :: rest) pos) tu mu) : SW X W (.BoolOp .Or (a :: b :: rest) pos) (tOr tt tu) (bOr mt mu) := ⟨pw_or h.pt g.pw, rx_or h.rx g.rx⟩
theorem st_not (h : ST X W a tt mt) : ST X W (.UnaryOp .Not a pos) (tNot tt) (bNot mt) := ⟨pt_not h.pt, rx_not h.rx⟩
theorem se_one (h : SE X W a ta ma) : SE X W (.BoolOp op [a] pos) ta ma := ⟨pe_one h.pe, h.rx⟩
theorem se_and (h : SE X W a ta ma) (g : SE X W (.BoolOp .And (b :: rest) pos) tb mb) : SE X W (.BoolOp .And (a :: b :: rest) pos) (tAndV ta tb) (eAnd ma mb) := by
  refine ⟨pe_and h.pe g.pe, h.rx.bind (t2 := fun x σ H1 Q => ∃ c, x = .bl c ∧ if c = true then tb σ H1 Q else Q (.bl false) H1) fun v d σ0 B H σ env sm r Q post => ?_⟩
  cases d with
  | bl c =>
    refine ⟨c, Rep.bl_inv r, ?_⟩
    cases c with
    | true => exact g.rx σ0 B H σ env sm Q post
    | false => exact post.val sm (Rep.bl _)
  | _ => exact post.elim
theorem se_or (h : SE X W a ta ma) (g : SE X W (.BoolOp .Or (b :: rest) pos) tb mb) : SE X W (.BoolOp .Or (a :: b :: rest) pos) (tOrV ta tb) (eOr ma mb) := by
  refine ⟨pe_or h.pe g.pe, h.rx.bind (t2 := fun x σ H1 Q => ∃ c, x = .bl c ∧ if c = true then Q (.bl true) H1 else tb σ H1 Q) fun v d σ0 B H σ env sm r Q post => ?_⟩
  cases d with
  | bl c =>
    refine ⟨c, Rep.bl_inv r, ?_⟩
    cases c with
    | true => exact post.val sm (Rep.bl _)
    | false => exact g.rx σ0 B H σ env sm Q post
  | _ => exact post.elim
theorem se_not (h : SE X W a ta ma) : SE X W (.UnaryOp .Not a pos) (tNotV ta) (eNot ma) := by
  refine ⟨pe_not h.pe, h.rx.bind (t2 := fun x σ H1 Q => ∃ c, x = V.bl c ∧ Q (V.bl (!c)) H1) fun v d σ0 B H σ env sm r Q post => ?_⟩
  cases d with
  | bl c => exact ⟨c, Rep.bl_inv r, post.val sm (Rep.bl _)⟩
  | _ => exact post.elim
theorem se_if {c : Expr} (h : ST X W c tt mt) (h1 : SE X W a ta ma) (h2 : SE X W b tb mb) : SE X W (.IfExp c a b pos) (tIf tt ta tb) (eIf mt ma mb) := by
  refine ⟨pe_ifExp h.pt h1.pe h2.pe, h.rx.bind (t2 := fun c σ H1 Q => if c = true then ta σ H1 Q else tb σ H1 Q) fun v d σ0 B H σ env sm r Q post => ?_⟩
  have e : v = d := r
  subst e
  cases v with
  | true => exact h1.rx σ0 B H σ env sm Q post
  | false => exact h2.rx σ0 B H σ env sm Q post
end
end Mi

/-! The mirror layer 4: new containers, displays, subscripts, slices, len, isinstance, join. -/
namespace Mi
open PySem L2

section
variable (K : PySem.W.Frag) (mg : Str → Option Value) (W : WX)
/-- a new container comes -/
def PostN (σ0 σ : L2.St) (env : En) (B H : Hp) (r : Res D) (Q : VK) : Prop :=
  match r with
  | .stuck => False
  | .ok d env' => ∀ a B' H', Stp (Owned σ env) B H B' H' → Sm K mg σ0 B' H' σ env' → OSub env env' → Cont K mg B' H' a d → B' a = none → H a = none → Q (.ref a) H'
  | .exn x env' => ∀ cls d B' H', Stp (Owned σ env) B H B' H' → Sm K mg σ0 B' H' σ env' → OSub env env' → ExR mg x cls d H' → W cls d σ H'
def RN (t : TE) (m : M D) : Prop := ∀ σ0 B H σ env, Sm K mg σ0 B H σ env → ∀ Q : VK, PostN K mg W σ0 σ env B H (m env) Q → t σ H Q
end
structure SN (X : Cx) (W : WX) (e : Expr) (te : TE) (m : M D) : Prop where
  pe : PE X e te
  rn : RN X.K X.mg W te m
section
variable {K : PySem.W.Frag} {mg : Str → Option Value} {W : WX} {α β : Type} {R : L2.St → Hp → β → α → Prop}
theorem PostN.rebase {σ0 σ : L2.St} {env env1 : En} {B H B1 H1 : Hp} {r : Res D} {Q : VK} (h : PostN K mg W σ0 σ env B H r Q) (s : Stp (Owned σ env) B H B1 H1) (o : OSub env env1) : PostN K mg W σ0 σ env1 B1 H1 r Q := by
  cases r with
  | stuck => exact h
  | ok a env' =>
    intro v B' H' s' m' o' r' hb hn
    refine h v B' H' (s.trans s' fun x z => o.owned z) m' (o.trans o') r' hb ?_
    cases q : H v with
    | none => rfl
    | some u =>
      obtain ⟨o', e⟩ := s.there v u q
      rw [hn] at e; cases e
  | exn x env' => exact fun c d B' H' s' m' o' r' => h c d B' H' (s.trans s' fun x z => o.owned z) m' (o.trans o') r'
theorem RX.goN {t : L2.St → Hp → (β → Hp → Prop) → Prop} {m : M α} {k : α → M D} {Q' : VK} {Q : β → Hp → Prop} {σ0 σ : L2.St} {B H : Hp} {env : En} (h : RX K mg W R t m) (sm : Sm K mg σ0 B H σ env)
    (post : PostN K mg W σ0 σ env B H ((m env).bind k) Q') (cont : ∀ v a B1 H1 env1, Sm K mg σ0 B1 H1 σ env1 → Same B B1 → R σ B1 v a → PostN K mg W σ0 σ env1 B1 H1 (k a env1) Q' → Q v H1) : t σ H Q := by
  refine h σ0 B H σ env sm _ ?_
  cases e : m env with
  | stuck => rw [e] at post; exact post
  | exn x env' => rw [e] at post; exact post
  | ok a env' =>
    rw [e] at post
    intro v B1 H1 s1 m1 o1 r1
    exact cont v a B1 H1 env' m1 s1.grow r1 (PostN.rebase post s1 o1)
/-- a new object at p, nobody else's -/
theorem PostN.new {σ0 σ : L2.St} {env : En} {B H : Hp} {d : D} {Q : VK} {p : Addr} {o : HO} (h : PostN K mg W σ0 σ env B H (.ok d env) Q) (m : Sm K mg σ0 B H σ env) (hp : H p = none) (c : Cont K mg B (upd H p o) p d) : Q (.ref p) (upd H p o) := by
  have sb : Sub B (upd H p o) := m.sub.same (same_upd hp)
  exact h p B _ (Stp.alloc (Same.refl _) (fun _ _ q => .inl q) (same_upd hp)) (m.alloc (Same.refl _) (fun _ _ q => .inl q) (same_upd hp) sb) (OSub.refl _) c (m.sub.none hp) hp
theorem Sm.own_there {σ0 σ : L2.St} {env : En} {B H : Hp} (m : Sm K mg σ0 B H σ env) {a : Addr} (h : Owned σ env a) : (∃ o, H a = some o) ∧ B a = none := by
  obtain ⟨i, p, d, e, r⟩ := h
  obtain ⟨v, e1, a', e2, c, hb, _⟩ := m.sl i _ e
  rw [r] at e1
  cases e1
  cases e2
  exact ⟨c.there, hb⟩
/-- a container that no slot holds is frozen -/
theorem Sm.freeze {σ0 σ : L2.St} {env : En} {B H : Hp} (m : Sm K mg σ0 B H σ env) {a : Addr} {o : HO} (ho : H a = some o) (hb : B a = none) (hn : ¬ Owned σ env a) : Sm K mg σ0 (upd B a o) H σ env where
  sub := fun x u q => by
    by_cases e : x = a
    · subst e; rw [upd_same] at q; cases q; exact .inl ho
    · rw [upd_ne e] at q; exact m.sub x u q
  len := m.len
  sl := fun i s e => by
    obtain ⟨v, e1, r⟩ := m.sl i s e
    refine ⟨v, e1, ?_⟩
    cases s with
    | shr d => exact Rep.mono (same_upd hb) r
    | own pin d =>
      obtain ⟨x, rfl, c, hx, hp⟩ := r
      refine ⟨x, rfl, c.mono (same_upd hb) rfl, ?_, hp⟩
      rw [upd_ne]
      · exact hx
      · intro z; subst z
        exact hn ⟨i, pin, d, e, e1⟩
  sep := m.sep
theorem RN.rx {t : TE} {m : M D} (h : RN K mg W t m) : RX K mg W (RD K mg) t m := by
  intro σ0 B H σ env sm Q post
  refine h σ0 B H σ env sm Q ?_
  cases e : m env with
  | stuck => rw [e] at post; exact post
  | exn x env' => rw [e] at post; exact post
  | ok d env' =>
    rw [e] at post
    intro a B' H' s' m' o' c hb hn
    obtain ⟨o, ho, r⟩ := c.frz hb
    have nown : ¬ Owned σ env' a := fun z => by
      obtain ⟨⟨u, e1⟩, _⟩ := sm.own_there (o'.owned z)
      rw [hn] at e1; cases e1
    refine post (.ref a) (upd B' a o) H' ⟨s'.grow.trans (same_upd hb), fun x u q => ?_, s'.frame, s'.there⟩ (m'.freeze ho hb nown) o' r
    by_cases ex : x = a
    · subst ex; exact .inr hn
    · rw [upd_ne ex] at q; exact s'.new x u q
theorem SN.se {X : Cx} {e : Expr} {te : TE} {m : M D} (h : SN X W e te m) : SE X W e te m := ⟨h.pe, h.rn.rx⟩
end

/-! ### arguments, displays -/
def aNil : M (List D) := M.pure []
def aCons (m : M D) (r : M (List D)) : M (List D) := m.bind fun a => r.bind fun as => M.pure (a :: as)
def eTup (m : M (List D)) : M D := m.bind fun as => ofO (if as.length ≤ 16777216 then some (.tup as) else none)
def eLst (m : M (List D)) : M D := m.bind fun as => ofO (if as.length ≤ 16777216 then some (.lst as) else none)
section
variable {X : Cx} {W : WX} {pos : Pos} {e : Expr} {es : List Expr} {te : TE} {ta tr : TA} {me : M D} {ma mr : M (List D)} {K : PySem.W.Frag} {mg : Str → Option Value}
theorem rx_nil : RX K mg W (RDs K mg) tNil aNil := fun σ0 B H σ env sm Q post => post.val sm .nil
theorem rx_cons (h : RX K mg W (RD K mg) te me) (r : RX K mg W (RDs K mg) tr mr) : RX K mg W (RDs K mg) (tCons te tr) (aCons me mr) :=
  h.bind2 (t3 := fun x xs σ H Q => Q (x :: xs) H) r rd_monoR fun v w a b σ0 B H σ env sm r1 r2 Q post => post.val sm (.cons r1 r2)
theorem sa_nil : SA X W [] tNil aNil := ⟨pa_nil, rx_nil⟩
theorem sa_cons (h : SE X W e te me) (r : SA X W es tr mr) (hs : starEach (e :: es) X.env = (false, eval e X.env) :: starEach es X.env := by rfl) : SA X W (e :: es) (tCons te tr) (aCons me mr) := ⟨pa_cons h.pe r.pa hs, rx_cons h.rx r.rx⟩
theorem rx_tup (h : RX K mg W (RDs K mg) ta ma) : RX K mg W (RD K mg) (tTup ta) (eTup ma) :=
  h.bind (t2 := fun xs σ H Q => xs.length ≤ sizeLine ∧ ∀ p, H p = none → Q (V.ref p) (upd H p (.tup xs))) fun v a σ0 B H σ env sm r Q post => by
    have hz : sizeLine = 16777216 := sizeLine_eq
    have hl := Reps.length r
    by_cases c : a.length ≤ 16777216
    · rw [if_pos c] at post
      exact ⟨by omega, fun p hp => post.al sm (Al.upd sm.sub hp) (.tup upd_same (Reps.mono (Al.upd sm.sub hp).g r))⟩
    · rw [if_neg c] at post; exact post.elim
theorem se_tup (h : SA X W es ta ma) {n} : SE X W (.Tuple es n pos) (tTup ta) (eTup ma) := ⟨pe_tup h.pa, rx_tup h.rx⟩
theorem sn_lst (h : SA X W es ta ma) : SN X W (.List es pos) (tLst ta) (eLst ma) := by
  refine ⟨pe_lst h.pa, fun σ0 B H σ env sm Q post => h.rx.goN sm post fun v a B1 H1 env1 sm1 g1 r1 post1 => ?_⟩
  have hz : sizeLine = 16777216 := sizeLine_eq
  have hl := Reps.length r1
  by_cases c : a.length ≤ 16777216
  · rw [if_pos c] at post1
    exact ⟨by omega, fun p hp => post1.new sm1 hp (.lst upd_same r1)⟩
  · rw [if_neg c] at post1; exact post1.elim

/-! ### subscripts -/
def dIx : D → D → Option D
  | .tup xs, .int i => atI xs i
  | .ftp xs, .int i => atI xs i
  | .lst xs, .int i => atI xs i
  | .frz xs, .int i => atI xs i
  | .str z, .int i => if z.length ≤ 16777216 then (atI z.cps.toList i).map fun c => .str ⟨#[c]⟩ else none
  | _, _ => none
theorem Reps.at {B : Hp} {vs : List V} {ds : List D} {i : Int} {z : D} (r : Reps K mg B vs ds) (h : atI ds i = some z) : ∃ v, atI vs i = some v ∧ Rep K mg B v z := by
  unfold atI at h ⊢
  rw [r.length]
  cases e : ixN ds.length i with
  | none => rw [e] at h; cases h
  | some j =>
    rw [e] at h
    exact r.get h
theorem re_ix : Real2 K mg (rIx K) dIx := by
  intro B H x y d e z s h1 h2 e1 Q q
  have hz : sizeLine = 16777216 := sizeLine_eq
  unfold dIx at e1
  split at e1
  · cases h2
    cases h1 with
    | tup p r =>
      obtain ⟨v, e2, r2⟩ := r.at e1
      exact .inr (.inl ⟨_, _, _, v, rfl, rfl, .of (s.tup p), e2, q v B H (Al.refl s) r2⟩)
  · cases h2
    cases h1 with
    | ftp p r =>
      obtain ⟨v, e2, r2⟩ := r.at e1
      exact .inr (.inl ⟨_, _, _, v, rfl, rfl, s.sqT p, e2, q v B H (Al.refl s) r2⟩)
  · cases h2
    cases h1 with
    | lst p r =>
      obtain ⟨v, e2, r2⟩ := r.at e1
      exact .inl ⟨_, _, _, v, rfl, rfl, .of (s.lst p), e2, q v B H (Al.refl s) r2⟩
  · cases h2
    cases h1 with
    | frz p r =>
      obtain ⟨v, e2, r2⟩ := r.at e1
      exact .inl ⟨_, _, _, v, rfl, rfl, s.sqL p, e2, q v B H (Al.refl s) r2⟩
  · split at e1
    · rename_i zz i hl
      cases h2; cases h1
      cases e2 : atI zz.cps.toList i with
      | none => rw [e2] at e1; cases e1
      | some c =>
        rw [e2] at e1
        cases e1
        exact .inr (.inr ⟨zz, i, c, rfl, rfl, by omega, e2, q _ B H (Al.refl s) (.str _)⟩)
    · cases e1
  · cases e1
theorem se_ix {a b : Expr} {ta tb : TE} {ma mb : M D} (ha : SE X W a ta ma) (hb : SE X W b tb mb) (hs : PlainIx b := by exact fun _ _ => rfl) : SE X W (.Subscript a b pos) (tOp (rIx X.K) ta tb) (eOp dIx ma mb) := ⟨pe_ix ix_seq ha.pe hb.pe hs, rx_op re_ix ha.rx hb.rx⟩
/-- a slot's own container -/
def getOwn (env : En) (i : Nat) : Option D := match env[i]? with
  | some (some (.own _ d)) => some d
  | _ => none
def getOwnL (env : En) (i : Nat) : Option (List D) := match getOwn env i with
  | some (.lst xs) => some xs
  | _ => none
theorem getOwn_some {env : En} {i : Nat} {d : D} (h : getOwn env i = some d) : ∃ p, env[i]? = some (some (.own p d)) := by
  unfold getOwn at h
  split at h
  · rename_i p d' e; cases h; exact ⟨p, e⟩
  · cases h
theorem getOwnL_some {env : En} {i : Nat} {ds : List D} (h : getOwnL env i = some ds) : getOwn env i = some (.lst ds) := by
  unfold getOwnL at h
  split at h
  · rename_i e; cases h; exact e
  · cases h
theorem Sm.getOwn {σ0 σ : L2.St} {env : En} {B H : Hp} (m : Sm K mg σ0 B H σ env) {i : Nat} {d : D} (h : Mi.getOwn env i = some d) : ∃ a p, env[i]? = some (some (.own p d)) ∧ σ[i]? = some (some (.ref a)) ∧ Cont K mg B H a d ∧ B a = none ∧ (p = true → σ0[i]? = some (some (.ref a))) := by
  obtain ⟨p, e⟩ := getOwn_some h
  obtain ⟨v, e1, a, rfl, c, hb, hp⟩ := m.sl i _ e
  exact ⟨a, p, e, e1, c, hb, hp⟩
theorem Cont.lst_inv {B H : Hp} {a : Addr} {ds : List D} (c : Cont K mg B H a (.lst ds)) : ∃ vs, H a = some (.lst vs) ∧ Reps K mg B vs ds := by
  cases c with
  | lst p r => exact ⟨_, p, r⟩
def eIxO (i : Nat) (mb : M D) : M D := fun env => match getOwn env i with
  | some _ => (mb.bind fun k env' => match getOwnL env' i, k with
    | some xs, .int j => ofO (atI xs j) env'
    | _, _ => .stuck) env
  | none => .stuck
theorem se_ixO {b : Expr} {tb : TE} {mb : M D} {x : Str} {pos' : Pos} (i : Nat) (hb : SE X W b tb mb) (hN : X.N[i]? = some x := by rfl) (hv : Vis X.env.scope x := by first | exact Or.inl rfl | exact Or.inr (Or.inl rfl) | exact Or.inr (Or.inr rfl)) (hd : (x == ("__debug__" : Str)) = false := by decide)
    (hcd : (x == ("__classdict__" : Str)) = false := by decide) (hs : PlainIx b := by exact fun _ _ => rfl) : SE X W (.Subscript (.Name x pos') b pos) (tOp (rIx X.K) (tVar i) tb) (eIxO i mb) := by
  refine ⟨pe_ix ix_seq (pe_var hN hv hd hcd) hb.pe hs, ?_⟩
  intro σ0 B H σ env sm Q post
  unfold eIxO at post
  cases e : getOwn env i with
  | none => rw [e] at post; exact post.elim
  | some d =>
    rw [e] at post
    obtain ⟨a, p, _, e1, _⟩ := sm.getOwn e
    refine ⟨.ref a, e1, ?_⟩
    refine hb.rx.go sm post fun v k B1 H1 env1 sm1 g1 r1 post1 => ?_
    cases e2 : getOwnL env1 i with
    | none => rw [e2] at post1; exact post1.elim
    | some xs =>
      rw [e2] at post1
      cases k with
      | int j =>
        cases r1
        obtain ⟨a', p', _, e3, c, _⟩ := sm1.getOwn (getOwnL_some e2)
        rw [e1] at e3
        cases e3
        obtain ⟨vs, hl, rs⟩ := c.lst_inv
        cases e4 : atI xs j with
        | none =>
          have post1 : Post X.K X.mg W (RD X.K X.mg) σ0 σ env1 B1 H1 (ofO (atI xs j) env1) Q := post1
          rw [e4] at post1; exact post1.elim
        | some z =>
          have post1 : Post X.K X.mg W (RD X.K X.mg) σ0 σ env1 B1 H1 (ofO (atI xs j) env1) Q := post1
          rw [e4] at post1
          obtain ⟨w, e5, r2⟩ := rs.at e4
          exact .inl ⟨_, _, _, w, rfl, rfl, .of hl, e5, post1.val sm1 r2⟩
      | _ => exact post1.elim

/-! ### slices -/
def oNone : M (Option Int) := M.pure none
def oSome (m : M D) : M (Option Int) := m.bind fun d => match d with
  | .int i => M.pure (some i)
  | _ => fun _ => .stuck
def cutD (xs : List D) (lo hi : Option Int) : List D := (xs.drop (HT.sIx xs.length 0 lo)).take (HT.sIx xs.length xs.length hi - HT.sIx xs.length 0 lo)
theorem rx_onone : RX K mg W RO tNoPart oNone := fun σ0 B H σ env sm Q post => post.val sm rfl
theorem rx_osome (h : RX K mg W (RD K mg) te me) : RX K mg W RO (tPart te) (oSome me) :=
  h.bind (t2 := fun x σ H Q => ∃ i, x = V.int i ∧ Q (some i) H) fun v d σ0 B H σ env sm r Q post => by
    cases d with
    | int i => exact ⟨i, Rep.int_inv r, post.val sm rfl⟩
    | _ => exact post.elim
theorem so_none : SO X W none tNoPart oNone := ⟨po_none, rx_onone⟩
theorem so_some (h : SE X W e te me) : SO X W (some e) (tPart te) (oSome me) := ⟨po_some h.pe, rx_osome h.rx⟩
theorem Reps.cut {B : Hp} {vs : List V} {ds : List D} (r : Reps K mg B vs ds) (lo hi : Option Int) : Reps K mg B (cutV vs lo hi) (cutD ds lo hi) := by
  unfold cutV cutD
  rw [r.length]
  exact (r.drop _).take _
/-- a slice: of a text (shared), of a tuple (shared), of a list (new) -/
def dSl : D → Option Int → Option Int → Option D
  | .str z, lo, hi => if z.length ≤ 16777216 then some (.str (cutS z lo hi)) else none
  | .tup xs, lo, hi => some (.tup (cutD xs lo hi))
  | _, _, _ => none
def dSlL : D → Option Int → Option Int → Option D
  | .lst xs, lo, hi => some (.lst (cutD xs lo hi))
  | .frz xs, lo, hi => some (.lst (cutD xs lo hi))
  | _, _, _ => none
def eSl (f : D → Option Int → Option Int → Option D) (m : M D) (ml mh : M (Option Int)) : M D := m.bind fun d => ml.bind fun l => mh.bind fun h => ofO (f d l h)
def rSlST (K : PySem.W.Frag) : V → Option Int → Option Int → Hp → VK → Prop := fun x lo hi H Q => rSlS x lo hi H Q ∨ rSlA K x lo hi H Q
theorem sl_st : L2.SlR X (rSlST X.K) := sl_str.or sl_tupA
variable {lo hi : Option Expr} {tl th : TO} {ml mh : M (Option Int)} {p2 : Pos}
theorem se_sl (h : SE X W e te me) (hl : SO X W lo tl ml) (hh : SO X W hi th mh) : SE X W (.Subscript e (.Slice lo hi none p2) pos) (tSl (rSlST X.K) te tl th) (eSl dSl me ml mh) := by
  refine ⟨pe_slice sl_st h.pe hl.po hh.po, ?_⟩
  refine h.rx.bind2 (t3 := fun x l σ H Q => th σ H fun u H3 => rSlST X.K x l u H3 Q) hl.rx rd_monoR fun v w d l σ0 B H σ env sm r1 r2 Q post => ?_
  refine hh.rx.go sm post fun u hh' B1 H1 env1 sm1 g1 r3 post1 => ?_
  have e1 : w = l := r2
  have e2 : u = hh' := r3
  subst e1 e2
  have hz : sizeLine = 16777216 := sizeLine_eq
  have r1' := Rep.mono g1 r1
  cases e3 : dSl d w u with
  | none => rw [e3] at post1; exact post1.elim
  | some z =>
    rw [e3] at post1
    unfold dSl at e3
    split at e3
    · split at e3
      · rename_i zz lo hi hl
        cases e3; cases r1'
        exact .inl ⟨_, rfl, by omega, post1.val sm1 (Rep.str _)⟩
      · cases e3
    · cases e3
      cases r1' with
      | @tup aa vs _ p r =>
        refine .inr ⟨_, _, rfl, .of (sm1.sub.tup p), fun hw => ?_, fun _ p' hp => ?_⟩
        · have hc : cutV vs w u = vs := by
            unfold cutV
            rw [hw.1, hw.2]
            simp
          have rc := r.cut w u
          rw [hc] at rc
          exact post1.val sm1 (Rep.tup p rc)
        · exact post1.al sm1 (Al.upd sm1.sub hp) (.tup upd_same ((r.cut _ _).mono (Al.upd sm1.sub hp).g))
    · cases e3
theorem sn_sl (h : SE X W e te me) (hl : SO X W lo tl ml) (hh : SO X W hi th mh) : SN X W (.Subscript e (.Slice lo hi none p2) pos) (tSl (rSlL X.K) te tl th) (eSl dSlL me ml mh) := by
  refine ⟨pe_slice sl_list h.pe hl.po hh.po, fun σ0 B H σ env sm Q post => ?_⟩
  refine h.rx.goN sm post fun x d B1 H1 env1 sm1 g1 r1 post1 => ?_
  refine hl.rx.goN sm1 post1 fun w l B2 H2 env2 sm2 g2 r2 post2 => ?_
  refine hh.rx.goN sm2 post2 fun u hh' B3 H3 env3 sm3 g3 r3 post3 => ?_
  have e1 : w = l := r2
  have e2 : u = hh' := r3
  subst e1 e2
  have r1' := Rep.mono (g2.trans g3) r1
  cases e3 : dSlL d w u with
  | none => rw [e3] at post3; exact post3.elim
  | some z =>
    rw [e3] at post3
    unfold dSlL at e3
    split at e3
    · cases e3
      cases r1' with
      | lst p r => exact ⟨_, _, rfl, .of (sm3.sub.lst p), fun p' hp => post3.new sm3 hp (.lst upd_same (r.cut _ _))⟩
    · cases e3
      cases r1' with
      | frz p r => exact ⟨_, _, rfl, sm3.sub.sqL p, fun p' hp => post3.new sm3 hp (.lst upd_same (r.cut _ _))⟩
    · cases e3

/-! ### built-ins by their names -/
def eCB (f : List D → Option D) (m : M (List D)) : M D := m.bind fun as => ofO (f as)
theorem rx_cb {r : List V → Hp → VK → Prop} {f : List D → Option D} (hf : RealC K mg r f) (h : RX K mg W (RDs K mg) ta ma) : RX K mg W (RD K mg) (tCB r ta) (eCB f ma) :=
  h.map (t2 := fun v H Q => r v H Q) fun v a c σ B H s r1 e Q q => hf B H v a c s r1 e Q fun u B' H' l r' => q u B' H' l r'
def dLen : List D → Option D
  | [.str z] => if z.length ≤ 16777216 then some (.int z.length) else none
  | [.tup xs] => some (.int xs.length)
  | [.ftp xs] => some (.int xs.length)
  | [.lst xs] => some (.int xs.length)
  | [.frz xs] => some (.int xs.length)
  | _ => none
theorem re_len : RealC K mg (fun xs H Q => ∃ x n, xs = [x] ∧ LenV K x H n ∧ Q (.int n) H) dLen := by
  intro B H xs ds z s h1 e1 Q q
  have hz : sizeLine = 16777216 := sizeLine_eq
  unfold dLen at e1
  split at e1
  · split at e1
    · rename_i zz hl
      cases e1
      cases h1 with
      | cons r rs =>
        cases rs; cases r
        exact ⟨_, _, rfl, (show zz.length ≤ sizeLine ∧ zz.length = zz.length from ⟨by omega, rfl⟩), q _ B H (Al.refl s) (.int _)⟩
    · cases e1
  · cases e1
    cases h1 with
    | cons r rs =>
      cases rs
      cases r with
      | tup p r => exact ⟨_, _, rfl, .inr ⟨_, .of (s.tup p), r.length.symm⟩, q _ B H (Al.refl s) (.int _)⟩
  · cases e1
    cases h1 with
    | cons r rs =>
      cases rs
      cases r with
      | ftp p r => exact ⟨_, _, rfl, .inr ⟨_, s.sqT p, r.length.symm⟩, q _ B H (Al.refl s) (.int _)⟩
  · cases e1
    cases h1 with
    | cons r rs =>
      cases rs
      cases r with
      | lst p r => exact ⟨_, _, rfl, .inl ⟨_, .of (s.lst p), r.length.symm⟩, q _ B H (Al.refl s) (.int _)⟩
  · cases e1
    cases h1 with
    | cons r rs =>
      cases rs
      cases r with
      | frz p r => exact ⟨_, _, rfl, .inl ⟨_, s.sqL p, r.length.symm⟩, q _ B H (Al.refl s) (.int _)⟩
  · cases e1
theorem se_cb {x : Str} {v : Value} {p : Pos} {r : List V → Hp → VK → Prop} {f : List D → Option D} (hc : CallR X v r) (hf : RealC X.K X.mg r f) (hm : X.mg x = none) (hv : bootBuiltins x = some v) (ha : SA X W (e :: es) ta ma)
    (hp : PE X (.Call (.Name x p) (e :: es) [] pos) (tCB r ta)) : SE X W (.Call (.Name x p) (e :: es) [] pos) (tCB r ta) (eCB f ma) := ⟨hp, rx_cb hf ha.rx⟩
/-- len of a slot's own list -/
def eLenO (i : Nat) : M D := fun env => match getOwnL env i with
  | some xs => .ok (.int xs.length) env
  | none => .stuck
theorem rx_lenO {i : Nat} : RX K mg W (RD K mg) (tCB (fun xs H Q => ∃ x n, xs = [x] ∧ LenV K x H n ∧ Q (.int n) H) (tCons (tVar i) tNil)) (eLenO i) := by
  intro σ0 B H σ env sm Q post
  unfold eLenO at post
  cases e : getOwnL env i with
  | none => rw [e] at post; exact post.elim
  | some xs =>
    rw [e] at post
    obtain ⟨a, p, _, e1, c, _⟩ := sm.getOwn (getOwnL_some e)
    obtain ⟨vs, hl, rs⟩ := c.lst_inv
    exact ⟨_, e1, _, _, rfl, .inl ⟨vs, .of hl, rs.length.symm⟩, post.val sm (Rep.int _)⟩
end
end Mi

/-! The mirror layer 5: statements. -/
namespace Mi
open PySem L2

inductive Fl where
  | nx | bk | ct | rt (own : Bool) (d : D)

/-- where a def's body was entered: the shared part, the heap, the containers handed in; Bs: what is to stay known -/
structure Ent where
  B0 : Hp
  Bs : Hp
  H0 : Hp
  O0 : Addr → Prop
structure Frm (c : Ent) (σ : L2.St) (env : En) (B H : Hp) : Prop where
  grow : Same c.B0 B
  growS : Same c.Bs B
  new : ∀ a o, B a = some o → c.B0 a = some o ∨ c.H0 a = none
  frame : ∀ a o, c.H0 a = some o → ¬ c.O0 a → H a = some o
  there : ∀ a o, c.H0 a = some o → ∃ o', H a = some o'
  own : ∀ (i : Nat) (p : Bool) (d : D) (a : Addr), env[i]? = some (some (Slot.own p d)) → σ[i]? = some (some (V.ref a)) → (p = true → c.O0 a) ∧ (p = false → c.H0 a = none)
/-- what was held is held still by the same -/
def Keep (σ : L2.St) (env : En) (σ' : L2.St) (env' : En) : Prop := ∀ (i : Nat) (p : Bool) (d : D), env'[i]? = some (some (Slot.own p d)) → ∃ d', env[i]? = some (some (Slot.own p d')) ∧ σ'[i]? = σ[i]?
theorem Keep.refl (σ : L2.St) (env : En) : Keep σ env σ env := fun _ _ d h => ⟨d, h, rfl⟩
theorem Keep.trans {σ σ1 σ2 : L2.St} {a b c : En} (h : Keep σ a σ1 b) (g : Keep σ1 b σ2 c) : Keep σ a σ2 c := fun i p d e => by
  obtain ⟨d1, e1, r1⟩ := g i p d e
  obtain ⟨d2, e2, r2⟩ := h i p d1 e1
  exact ⟨d2, e2, r1.trans r2⟩
theorem OSub.keep {σ : L2.St} {env env' : En} (h : OSub env env') : Keep σ env σ env' := fun i p d e => by
  obtain ⟨d', e'⟩ := h i p d e
  exact ⟨d', e', rfl⟩
theorem Keep.owned {σ σ' : L2.St} {env env' : En} (h : Keep σ env σ' env') {a : Addr} : Owned σ' env' a → Owned σ env a := fun ⟨i, p, d, e, r⟩ => by
  obtain ⟨d', e', r'⟩ := h i p d e
  exact ⟨i, p, d', e', by rw [← r']; exact r⟩
theorem Frm.step {c : Ent} {σ σ' : L2.St} {env env' : En} {B H B' H' : Hp} (f : Frm c σ env B H) (s : Stp (Owned σ env) B H B' H') (k : Keep σ env σ' env') : Frm c σ' env' B' H' where
  grow := f.grow.trans s.grow
  growS := f.growS.trans s.grow
  new := fun a o h => by
    rcases s.new a o h with q | q
    · exact f.new a o q
    · refine .inr ?_
      cases e : c.H0 a with
      | none => rfl
      | some u =>
        obtain ⟨o', e'⟩ := f.there a u e
        rw [q] at e'; cases e'
  frame := fun a o h n => s.frame a o (f.frame a o h n) fun ⟨i, p, d, e, r⟩ => by
    have g := f.own i p d a e r
    cases p with
    | true => exact n (g.1 rfl)
    | false => rw [g.2 rfl] at h; cases h
  there := fun a o h => by
    obtain ⟨o', e⟩ := f.there a o h
    exact s.there a o' e
  own := fun i p d a e r => by
    obtain ⟨d', e', r'⟩ := k i p d e
    exact f.own i p d' a e' (by rw [← r']; exact r)
theorem Frm.keep {c : Ent} {σ σ' : L2.St} {env env' : En} {B H : Hp} (f : Frm c σ env B H) (k : Keep σ env σ' env') : Frm c σ' env' B H := f.step Stp.refl k
theorem Frm.bs {c : Ent} {σ : L2.St} {env : En} {B H B1 : Hp} (f : Frm c σ env B H) (h : Same B1 B) : Frm { c with Bs := B1 } σ env B H := ⟨f.grow, h, f.new, f.frame, f.there, f.own⟩
theorem Frm.unbs {c : Ent} {σ : L2.St} {env : En} {B H B1 : Hp} (f : Frm { c with Bs := B1 } σ env B H) (h : Same c.Bs B1) : Frm c σ env B H := ⟨f.grow, h.trans f.growS, f.new, f.frame, f.there, f.own⟩

section
variable (K : PySem.W.Frag) (mg : Str → Option Value) (W : WX)
def PostS (c : Ent) (σ0 : L2.St) (r : Res Fl) (D : Ends) : Prop :=
  match r with
  | .stuck => False
  | .ok .nx env' => ∀ σ' B' H', Sm K mg σ0 B' H' σ' env' → Frm c σ' env' B' H' → D.nx σ' H'
  | .ok .bk env' => ∀ σ' B' H', Sm K mg σ0 B' H' σ' env' → Frm c σ' env' B' H' → D.bk σ' H'
  | .ok .ct env' => ∀ σ' B' H', Sm K mg σ0 B' H' σ' env' → Frm c σ' env' B' H' → D.ct σ' H'
  | .ok (.rt false d) env' => ∀ v σ' B' H', Sm K mg σ0 B' H' σ' env' → Frm c σ' env' B' H' → Rep K mg B' v d → D.rt v H'
  | .ok (.rt true d) env' => ∀ a σ' B' H', Sm K mg σ0 B' H' σ' env' → Frm c σ' env' B' H' → Cont K mg B' H' a d → B' a = none → c.H0 a = none → ¬ Owned σ' env' a → D.rt (.ref a) H'
  | .exn x env' => ∀ cls d σ' B' H', Sm K mg σ0 B' H' σ' env' → Frm c σ' env' B' H' → ExR mg x cls d H' → W cls d σ' H'
def RS (ts : TS) (m : M Fl) : Prop := ∀ c σ0 B H σ env, Sm K mg σ0 B H σ env → Frm c σ env B H → ∀ D, PostS K mg W c σ0 (m env) D → ts D σ H
def PostG (T : List Nat) (σ0 σ : L2.St) (env : En) (B H : Hp) (r : Option En) (Q : L2.St → Hp → Prop) : Prop :=
  match r with
  | some env' => ∀ σ', Sm K mg σ0 B H σ' env' → Keep σ env σ' env' → (σ'.length = σ.length ∧ ∀ i, i ∉ T → σ'[i]? = σ[i]?) → Q σ' H
  | none => False
/-- T: the slots that the target may touch -/
def RG (T : List Nat) (g : TG) (m : D → En → Option En) : Prop := ∀ σ0 B H σ env v d, Sm K mg σ0 B H σ env → Rep K mg B v d → ∀ Q, PostG K mg T σ0 σ env B H (m d env) Q → g v σ H Q
end
structure SS (X : Cx) (W : WX) (st : Stmt) (ts : TS) (m : M Fl) : Prop where
  ps : PS X st ts
  rs : RS X.K X.mg W ts m
structure SSs (X : Cx) (W : WX) (st : List Stmt) (ts : TS) (m : M Fl) : Prop where
  ps : PSs X st ts
  rs : RS X.K X.mg W ts m
structure SG (X : Cx) (tg : Expr) (T : List Nat) (g : TG) (m : D → En → Option En) : Prop where
  pg : PG X tg g
  rg : RG X.K X.mg T g m

section
variable {K : PySem.W.Frag} {mg : Str → Option Value} {W : WX} {α β : Type} {R : L2.St → Hp → β → α → Prop} {c : Ent} {σ0 σ : L2.St} {B H : Hp} {env : En}
theorem PostS.imp {r : Res Fl} {D D' : Ends} (h : PostS K mg W c σ0 r D) (h1 : ∀ σ H, D.nx σ H → D'.nx σ H) (h2 : ∀ σ H, D.bk σ H → D'.bk σ H) (h3 : ∀ σ H, D.ct σ H → D'.ct σ H) (h4 : ∀ v H, D.rt v H → D'.rt v H) : PostS K mg W c σ0 r D' := by
  cases r with
  | stuck => exact h
  | exn x env' => exact h
  | ok f env' =>
    cases f with
    | nx => exact fun s B H a b => h1 _ _ (h s B H a b)
    | bk => exact fun s B H a b => h2 _ _ (h s B H a b)
    | ct => exact fun s B H a b => h3 _ _ (h s B H a b)
    | rt o d =>
      cases o with
      | false => exact fun v s B H a b r => h4 _ _ (h v s B H a b r)
      | true => exact fun v s B H a b c e f g => h4 _ _ (h v s B H a b c e f g)
theorem PostS.bs {r : Res Fl} {D : Ends} {B1 : Hp} (h : PostS K mg W c σ0 r D) (e : Same c.Bs B1) : PostS K mg W { c with Bs := B1 } σ0 r D := by
  cases r with
  | stuck => exact h
  | exn x env' => exact fun cls d s B H a b => h cls d s B H a (b.unbs e)
  | ok f env' =>
    cases f with
    | nx => exact fun s B H a b => h s B H a (b.unbs e)
    | bk => exact fun s B H a b => h s B H a (b.unbs e)
    | ct => exact fun s B H a b => h s B H a (b.unbs e)
    | rt o d =>
      cases o with
      | false => exact fun v s B H a b => h v s B H a (b.unbs e)
      | true => exact fun v s B H a b => h v s B H a (b.unbs e)
theorem RX.goS {t : L2.St → Hp → (β → Hp → Prop) → Prop} {m : M α} {k : α → M Fl} {D : Ends} {Q : β → Hp → Prop} (h : RX K mg W R t m) (sm : Sm K mg σ0 B H σ env) (fr : Frm c σ env B H)
    (post : PostS K mg W c σ0 ((m env).bind k) D) (cont : ∀ v a B1 H1 env1, Sm K mg σ0 B1 H1 σ env1 → Frm c σ env1 B1 H1 → Same B B1 → R σ B1 v a → PostS K mg W c σ0 (k a env1) D → Q v H1) : t σ H Q := by
  refine h σ0 B H σ env sm _ ?_
  cases e : m env with
  | stuck => rw [e] at post; exact post
  | exn x env' =>
    rw [e] at post
    exact fun cls d B' H' s' m' o' r' => post cls d σ B' H' m' (fr.step s' o'.keep) r'
  | ok a env' =>
    rw [e] at post
    exact fun v B1 H1 s1 m1 o1 r1 => cont v a B1 H1 env' m1 (fr.step s1 o1.keep) s1.grow r1 post
theorem RN.goS {t : TE} {m : M D} {k : D → M Fl} {D : Ends} {Q : VK} (h : RN K mg W t m) (sm : Sm K mg σ0 B H σ env) (fr : Frm c σ env B H)
    (post : PostS K mg W c σ0 ((m env).bind k) D) (cont : ∀ a d B1 H1 env1, Sm K mg σ0 B1 H1 σ env1 → Frm c σ env1 B1 H1 → Cont K mg B1 H1 a d → B1 a = none → c.H0 a = none → ¬ Owned σ env1 a → PostS K mg W c σ0 (k d env1) D → Q (.ref a) H1) : t σ H Q := by
  refine h σ0 B H σ env sm _ ?_
  cases e : m env with
  | stuck => rw [e] at post; exact post
  | exn x env' =>
    rw [e] at post
    exact fun cls d B' H' s' m' o' r' => post cls d σ B' H' m' (fr.step s' o'.keep) r'
  | ok a env' =>
    rw [e] at post
    intro v B1 H1 s1 m1 o1 r1 hb hn
    refine cont v a B1 H1 env' m1 (fr.step s1 o1.keep) r1 hb ?_ (fun z => ?_) post
    · cases q : c.H0 v with
      | none => rfl
      | some u =>
        obtain ⟨o', e'⟩ := fr.there v u q
        rw [hn] at e'; cases e'
    · obtain ⟨⟨u, e1⟩, _⟩ := sm.own_there (o1.owned z)
      rw [hn] at e1; cases e1

/-! ### slots set -/
theorem get_set {α : Type} {l : List α} {i j : Nat} {x y : α} (h : (l.set i x)[j]? = some y) : (i = j ∧ y = x ∧ i < l.length) ∨ (i ≠ j ∧ l[j]? = some y) := by
  by_cases e : i = j
  · subst e
    by_cases hl : i < l.length
    · rw [List.getElem?_set_self hl] at h
      exact .inl ⟨rfl, (Option.some.inj h).symm, hl⟩
    · rw [List.getElem?_eq_none (by rw [List.length_set]; omega)] at h; cases h
  · rw [List.getElem?_set_ne e] at h
    exact .inr ⟨e, h⟩
theorem Sm.setShr (m : Sm K mg σ0 B H σ env) (i : Nat) {v : V} {d : D} (r : Rep K mg B v d) : Sm K mg σ0 B H (σ.set i (some v)) (env.set i (some (.shr d))) where
  sub := m.sub
  len := by rw [List.length_set, List.length_set]; exact m.len
  sl := fun j s e => by
    rcases get_set e with ⟨rfl, e1, hl⟩ | ⟨ne, e1⟩
    · cases e1
      exact ⟨v, List.getElem?_set_self (by rw [m.len]; exact hl), r⟩
    · obtain ⟨u, e2, r2⟩ := m.sl j s e1
      exact ⟨u, by rw [List.getElem?_set_ne ne]; exact e2, r2⟩
  sep := fun j k p d p' d' a e1 e2 r1 r2 => by
    rcases get_set e1 with ⟨_, z, _⟩ | ⟨n1, e1⟩
    · cases z
    · rcases get_set e2 with ⟨_, z, _⟩ | ⟨n2, e2⟩
      · cases z
      · rw [List.getElem?_set_ne n1] at r1
        rw [List.getElem?_set_ne n2] at r2
        exact m.sep j k p d p' d' a e1 e2 r1 r2
theorem keep_setShr {i : Nat} {v : Option V} {d : D} : Keep σ env (σ.set i v) (env.set i (some (.shr d))) := fun j p d' e => by
  rcases get_set e with ⟨_, z, _⟩ | ⟨n, e⟩
  · cases z
  · exact ⟨d', e, List.getElem?_set_ne n⟩
/-- a slot forgotten -/
theorem Sm.setNone (m : Sm K mg σ0 B H σ env) (i : Nat) (x : Option V) : Sm K mg σ0 B H (σ.set i x) (env.set i none) where
  sub := m.sub
  len := by rw [List.length_set, List.length_set]; exact m.len
  sl := fun j s e => by
    rcases get_set e with ⟨rfl, e1, hl⟩ | ⟨ne, e1⟩
    · cases e1
    · obtain ⟨u, e2, r2⟩ := m.sl j s e1
      exact ⟨u, by rw [List.getElem?_set_ne ne]; exact e2, r2⟩
  sep := fun j k p d p' d' a e1 e2 r1 r2 => by
    rcases get_set e1 with ⟨_, z, _⟩ | ⟨n1, e1⟩
    · cases z
    · rcases get_set e2 with ⟨_, z, _⟩ | ⟨n2, e2⟩
      · cases z
      · rw [List.getElem?_set_ne n1] at r1
        rw [List.getElem?_set_ne n2] at r2
        exact m.sep j k p d p' d' a e1 e2 r1 r2
theorem keep_setNone {i : Nat} {v : Option V} : Keep σ env (σ.set i v) (env.set i none) := fun j p d' e => by
  rcases get_set e with ⟨_, z, _⟩ | ⟨n, e⟩
  · cases z
  · exact ⟨d', e, List.getElem?_set_ne n⟩
theorem Sm.forget (m : Sm K mg σ0 B H σ env) (i : Nat) : Sm K mg σ0 B H σ (env.set i none) where
  sub := m.sub
  len := by rw [List.length_set]; exact m.len
  sl := fun j s e => by
    rcases get_set e with ⟨rfl, e1, hl⟩ | ⟨ne, e1⟩
    · cases e1
    · exact m.sl j s e1
  sep := fun j k p d p' d' a e1 e2 r1 r2 => by
    rcases get_set e1 with ⟨_, z, _⟩ | ⟨n1, e1⟩
    · cases z
    · rcases get_set e2 with ⟨_, z, _⟩ | ⟨n2, e2⟩
      · cases z
      · exact m.sep j k p d p' d' a e1 e2 r1 r2
theorem keep_forget {i : Nat} : Keep σ env σ (env.set i none) := fun j p d' e => by
  rcases get_set e with ⟨_, z, _⟩ | ⟨n, e⟩
  · cases z
  · exact ⟨d', e, rfl⟩
def clrE : List Nat → En → En
  | [], env => env
  | i :: is, env => clrE is (env.set i none)
theorem Sm.clr : ∀ (is : List Nat) {env : En}, Sm K mg σ0 B H σ env → Sm K mg σ0 B H σ (clrE is env)
  | [], _, m => m
  | i :: is, _, m => Sm.clr is (m.forget i)
theorem keep_clr : ∀ (is : List Nat) {env : En}, Keep σ env σ (clrE is env)
  | [], env => Keep.refl σ env
  | i :: is, env => keep_forget.trans (keep_clr is)
/-- a new container at slot i -/
theorem Sm.setOwn (m : Sm K mg σ0 B H σ env) (i : Nat) {a : Addr} {d : D} (r : Cont K mg B H a d) (hb : B a = none) (hn : ¬ Owned σ env a) : Sm K mg σ0 B H (σ.set i (some (.ref a))) (env.set i (some (.own false d))) where
  sub := m.sub
  len := by rw [List.length_set, List.length_set]; exact m.len
  sl := fun j s e => by
    rcases get_set e with ⟨rfl, e1, hl⟩ | ⟨ne, e1⟩
    · cases e1
      exact ⟨.ref a, List.getElem?_set_self (by rw [m.len]; exact hl), a, rfl, r, hb, fun z => by cases z⟩
    · obtain ⟨u, e2, r2⟩ := m.sl j s e1
      exact ⟨u, by rw [List.getElem?_set_ne ne]; exact e2, r2⟩
  sep := fun j k p d p' d' x e1 e2 r1 r2 => by
    rcases get_set e1 with ⟨z1, w1, l1⟩ | ⟨n1, e1⟩
    · subst z1
      rw [List.getElem?_set_self (by rw [m.len]; exact l1)] at r1
      cases r1
      rcases get_set e2 with ⟨z2, _, _⟩ | ⟨n2, e2⟩
      · exact z2
      · rw [List.getElem?_set_ne n2] at r2
        exact (hn ⟨k, p', d', e2, r2⟩).elim
    · rw [List.getElem?_set_ne n1] at r1
      rcases get_set e2 with ⟨z2, _, l2⟩ | ⟨n2, e2⟩
      · subst z2
        rw [List.getElem?_set_self (by rw [m.len]; exact l2)] at r2
        cases r2
        exact (hn ⟨j, p, d, e1, r1⟩).elim
      · rw [List.getElem?_set_ne n2] at r2
        exact m.sep j k p d p' d' x e1 e2 r1 r2
theorem Frm.setOwn (f : Frm c σ env B H) (i : Nat) {a : Addr} {d : D} (h0 : c.H0 a = none) : Frm c (σ.set i (some (.ref a))) (env.set i (some (.own false d))) B H :=
  ⟨f.grow, f.growS, f.new, f.frame, f.there, fun j p d' x e r => by
    rcases get_set e with ⟨z, w, l⟩ | ⟨n, e⟩
    · subst z; cases w
      rcases get_set r with ⟨_, w, _⟩ | ⟨n, _⟩
      · cases w
        exact ⟨fun z => (by cases z), fun _ => h0⟩
      · exact (n rfl).elim
    · rw [List.getElem?_set_ne n] at r
      exact f.own j p d' x e r⟩
/-- the content of slot i's container changes -/
theorem Sm.write (m : Sm K mg σ0 B H σ env) {i : Nat} {p : Bool} {d d' : D} {a : Addr} {o : HO} (he : env[i]? = some (some (.own p d))) (hr : σ[i]? = some (some (.ref a))) (hc : Cont K mg B (upd H a o) a d') : Sm K mg σ0 B (upd H a o) σ (env.set i (some (.own p d'))) where
  sub := fun x u q => by
    obtain ⟨_, hb⟩ := m.own_there ⟨i, p, d, he, hr⟩
    rw [upd_ne (fun z => by subst z; rw [hb] at q; cases q)]
    exact m.sub x u q
  len := by rw [List.length_set]; exact m.len
  sl := fun j s e => by
    rcases get_set e with ⟨rfl, e1, hl⟩ | ⟨ne, e1⟩
    · cases e1
      obtain ⟨v, e2, a', rfl, c, hb, hp⟩ := m.sl i _ he
      rw [hr] at e2
      cases e2
      exact ⟨.ref a, hr, a, rfl, hc, hb, hp⟩
    · obtain ⟨u, e2, r2⟩ := m.sl j s e1
      refine ⟨u, e2, ?_⟩
      cases s with
      | shr d => exact r2
      | own p' d2 =>
        obtain ⟨x, rfl, c, hb, hp⟩ := r2
        refine ⟨x, rfl, c.mono (Same.refl _) (upd_ne ?_), hb, hp⟩
        intro z
        subst z
        exact ne (m.sep i j p d p' d2 x he e1 hr e2)
  sep := fun j k p1 d1 p2 d2 x e1 e2 r1 r2 => by
    have g : ∀ (j : Nat) (p1 : Bool) (d1 : D), (env.set i (some (Slot.own p d')))[j]? = some (some (Slot.own p1 d1)) → ∃ d3, env[j]? = some (some (Slot.own p1 d3)) := fun j p1 d1 e => by
      rcases get_set e with ⟨z, w, l⟩ | ⟨n, e⟩
      · subst z; cases w; exact ⟨d, he⟩
      · exact ⟨d1, e⟩
    obtain ⟨d3, e3⟩ := g j p1 d1 e1
    obtain ⟨d4, e4⟩ := g k p2 d2 e2
    exact m.sep j k p1 d3 p2 d4 x e3 e4 r1 r2
theorem osub_write {i : Nat} {p : Bool} {d d' : D} (he : env[i]? = some (some (.own p d))) : OSub env (env.set i (some (.own p d'))) := fun j q d2 e => by
  rcases get_set e with ⟨z, w, l⟩ | ⟨n, e⟩
  · subst z; cases w; exact ⟨d, he⟩
  · exact ⟨d2, e⟩
theorem stp_write {i : Nat} {p : Bool} {d : D} {a : Addr} {o : HO} (he : env[i]? = some (some (.own p d))) (hr : σ[i]? = some (some (.ref a))) : Stp (Owned σ env) B H B (upd H a o) where
  grow := Same.refl _
  new := fun _ _ h => .inl h
  frame := fun x u h n => by
    rw [upd_ne]
    · exact h
    · intro z; subst z; exact n ⟨i, p, d, he, hr⟩
  there := fun x u h => by
    by_cases e : x = a
    · subst e; exact ⟨o, upd_same⟩
    · exact ⟨u, by rw [upd_ne e]; exact h⟩
end
end Mi

/-! The mirror layer 6: statements' rules, defs, calls. -/
namespace Mi
open PySem L2

/-! ### statements -/
def mSeq (m n : M Fl) : M Fl := fun env => match m env with
  | .ok .nx env' => n env'
  | r => r
def mNx : M Fl := fun env => .ok .nx env
def mBk : M Fl := fun env => .ok .bk env
def mCt : M Fl := fun env => .ok .ct env
def mSet (i : Nat) (m : M D) : M Fl := m.bind fun d env => .ok .nx (env.set i (some (.shr d)))
def mSetN (i : Nat) (m : M D) : M Fl := m.bind fun d env => .ok .nx (env.set i (some (.own false d)))
def mAsg (m : M D) (g : D → En → Option En) : M Fl := m.bind fun d env => match g d env with
  | some env' => .ok .nx env'
  | none => .stuck
def mIf (t : M Bool) (m n : M Fl) : M Fl := t.bind fun c => if c = true then m else n
def mRet (m : M D) : M Fl := m.bind fun d env => .ok (.rt false d) env
def mRetN (m : M D) : M Fl := m.bind fun d env => .ok (.rt true d) env
def mRetO (i : Nat) : M Fl := fun env => match env[i]? with
  | some (some (.own false d)) => .ok (.rt true d) (env.set i none)
  | _ => .stuck
def mDrop (m : M D) : M Fl := m.bind fun _ => mNx
def mFrz (i : Nat) (m : M Fl) : M Fl := fun env => match env[i]? with
  | some (some (.own false d)) => m (env.set i (some (.shr d)))
  | _ => .stuck
section
variable {X : Cx} {W : WX} {st : Stmt} {rest : List Stmt} {t u : TS} {mt mu : M Fl} {e : Expr} {te : TE} {me : M D} {pos pos' : Pos} {K : PySem.W.Frag} {mg : Str → Option Value} {tc : TT} {mc : M Bool}
theorem rs_seq (h : RS K mg W t mt) (g : RS K mg W u mu) : RS K mg W (tSeq t u) (mSeq mt mu) := by
  intro c σ0 B H σ env sm fr D post
  refine h c σ0 B H σ env sm fr { D with nx := u D } ?_
  unfold mSeq at post
  cases e : mt env with
  | stuck => rw [e] at post; exact post
  | exn x env' => rw [e] at post; exact post
  | ok f env' =>
    rw [e] at post
    cases f with
    | nx => exact fun σ' B' H' sm' fr' => g c σ0 B' H' σ' env' sm' fr' D post
    | bk => exact post
    | ct => exact post
    | rt o d => cases o <;> exact post
theorem sss_nil : SSs X W [] tNext mNx := ⟨pss_nil, fun c σ0 B H σ env sm fr D post => post σ B H sm fr⟩
theorem sss_cons (h : SS X W st t mt) (g : SSs X W rest u mu) : SSs X W (st :: rest) (tSeq t u) (mSeq mt mu) := ⟨pss_cons h.ps g.ps, rs_seq h.rs g.rs⟩
theorem sss_one (h : SS X W st t mt) : SSs X W [st] t mt := ⟨pss_one h.ps, h.rs⟩
theorem ss_pass : SS X W (.Pass pos) tNext mNx := ⟨ps_pass, fun c σ0 B H σ env sm fr D post => post σ B H sm fr⟩
theorem ss_break : SS X W (.Break pos) tBreak mBk := ⟨ps_break, fun c σ0 B H σ env sm fr D post => post σ B H sm fr⟩
theorem ss_cont : SS X W (.Continue pos) tCont mCt := ⟨ps_continue, fun c σ0 B H σ env sm fr D post => post σ B H sm fr⟩
theorem ss_never : SS X W st tNever (fun _ => .stuck) := ⟨ps_never, fun c σ0 B H σ env sm fr D post => post.elim⟩
theorem sss_never {sts : List Stmt} : SSs X W sts tNever (fun _ => .stuck) := ⟨pss_never, fun c σ0 B H σ env sm fr D post => post.elim⟩
theorem rs_set {i : Nat} (h : RX K mg W (RD K mg) te me) : RS K mg W (tAsg te (gName i)) (mSet i me) := by
  intro c σ0 B H σ env sm fr D post
  exact h.goS sm fr post fun v d B1 H1 env1 sm1 fr1 _ r1 post1 => post1 _ _ _ (sm1.setShr i r1) (fr1.keep keep_setShr)
theorem rs_setN {i : Nat} (h : RN K mg W te me) : RS K mg W (tAsg te (gName i)) (mSetN i me) := by
  intro c σ0 B H σ env sm fr D post
  exact h.goS sm fr post fun a d B1 H1 env1 sm1 fr1 c1 hb h0 hn post1 => post1 _ _ _ (sm1.setOwn i c1 hb hn) (fr1.setOwn i h0)
theorem ss_set (i : Nat) {x : Str} (hN : X.N.Nodup) (h : SE X W e te me) (hi : X.N[i]? = some x := by rfl) (hx : Loc X.env.scope x := by first | exact Or.inl rfl | exact Or.inr rfl) (hs : swapsWith e (some (.Name x pos')) pos.line X.env = pure false := by rfl)
    (hf : X.fn x = true ∨ X.env.scope.names.lookup x = some .local := by first | exact .inl rfl | exact .inr rfl) : SS X W (.Assign [.Name x pos'] e pos) (tAsg te (gName i)) (mSet i me) := ⟨ps_set hN hi hx h.pe hs hf, rs_set h.rx⟩
theorem ss_setN (i : Nat) {x : Str} (hN : X.N.Nodup) (h : SN X W e te me) (hi : X.N[i]? = some x := by rfl) (hx : Loc X.env.scope x := by first | exact Or.inl rfl | exact Or.inr rfl) (hs : swapsWith e (some (.Name x pos')) pos.line X.env = pure false := by rfl)
    (hf : X.fn x = true ∨ X.env.scope.names.lookup x = some .local := by first | exact .inl rfl | exact .inr rfl) : SS X W (.Assign [.Name x pos'] e pos) (tAsg te (gName i)) (mSetN i me) := ⟨ps_set hN hi hx h.pe hs hf, rs_setN h.rn⟩
theorem rs_asg {T : List Nat} {g : TG} {m : D → En → Option En} (h : RX K mg W (RD K mg) te me) (hg : RG K mg T g m) : RS K mg W (tAsg te g) (mAsg me m) := by
  intro c σ0 B H σ env sm fr D post
  refine h.goS sm fr post fun v d B1 H1 env1 sm1 fr1 _ r1 post1 => ?_
  refine hg σ0 B1 H1 σ env1 v d sm1 r1 _ ?_
  cases e : m d env1 with
  | none => rw [e] at post1; exact post1
  | some env' =>
    rw [e] at post1
    exact fun σ' sm' k _ => post1 σ' _ _ sm' (fr1.keep k)
theorem ss_asg {tg : Expr} {T : List Nat} {g : TG} {m : D → En → Option En} (h : SE X W e te me) (hg : SG X tg T g m) (hs : swapsWithSole [tg] e pos.line X.env = pure false := by rfl) (hw : swappedStores [tg] e X.env = pure none := by rfl)
    (h1 : (assignEach [tg] X.env).map (·.2) = [assign tg X.env] := by rfl) : SS X W (.Assign [tg] e pos) (tAsg te g) (mAsg me m) := ⟨ps_asg h.pe hg.pg hs hw h1, rs_asg h.rx hg.rg⟩
theorem rs_if (h : RX K mg W RB tc mc) (h1 : RS K mg W t mt) (h2 : RS K mg W u mu) : RS K mg W (tIfS tc t u) (mIf mc mt mu) := by
  intro c σ0 B H σ env sm fr D post
  refine h.goS sm fr post fun v b B1 H1 env1 sm1 fr1 _ r1 post1 => ?_
  have e : v = b := r1
  subst e
  cases v with
  | true => exact h1 c σ0 B1 H1 σ env1 sm1 fr1 D post1
  | false => exact h2 c σ0 B1 H1 σ env1 sm1 fr1 D post1
theorem ss_if {cc : Expr} {a b : List Stmt} (h : ST X W cc tc mc) (h1 : SSs X W a t mt) (h2 : SSs X W b u mu) : SS X W (.If cc a b pos) (tIfS tc t u) (mIf mc mt mu) := ⟨ps_if h.pt h1.ps h2.ps, rs_if h.rx h1.rs h2.rs⟩
theorem ss_ret (h : SE X W e te me) : SS X W (.Return (some e) pos) (tRet te) (mRet me) :=
  ⟨ps_ret h.pe, fun c σ0 B H σ env sm fr D post => h.rx.goS sm fr post fun v d B1 H1 env1 sm1 fr1 _ r1 post1 => post1 v σ B1 H1 sm1 fr1 r1⟩
theorem ss_retN (h : SN X W e te me) : SS X W (.Return (some e) pos) (tRet te) (mRetN me) :=
  ⟨ps_ret h.pe, fun c σ0 B H σ env sm fr D post => h.rn.goS sm fr post fun a d B1 H1 env1 sm1 fr1 c1 hb h0 hn post1 => post1 a σ B1 H1 sm1 fr1 c1 hb h0 hn⟩
theorem ss_ret0 : SS X W (.Return none pos) tRetN (mRet (eC .non)) := ⟨ps_retN, fun c σ0 B H σ env sm fr D post => post .non σ B H sm fr .non⟩
/-- return of a slot's own container -/
theorem ss_retO (i : Nat) {x : Str} (hN : X.N[i]? = some x := by rfl) (hv : Vis X.env.scope x := by first | exact Or.inl rfl | exact Or.inr (Or.inl rfl) | exact Or.inr (Or.inr rfl)) (hd : (x == ("__debug__" : Str)) = false := by decide)
    (hcd : (x == ("__classdict__" : Str)) = false := by decide) : SS X W (.Return (some (.Name x pos')) pos) (tRet (tVar i)) (mRetO i) := by
  refine ⟨ps_ret (pe_var hN hv hd hcd), fun c σ0 B H σ env sm fr D post => ?_⟩
  unfold mRetO at post
  cases e : env[i]? with
  | none => rw [e] at post; exact post.elim
  | some s =>
    rw [e] at post
    cases s with
    | none => exact post.elim
    | some s =>
      cases s with
      | shr d => exact post.elim
      | own p d =>
        cases p with
        | true => exact post.elim
        | false =>
          obtain ⟨v, e1, a, rfl, c1, hb, _⟩ := sm.sl i _ e
          refine ⟨.ref a, e1, ?_⟩
          refine post a σ B H (sm.forget i) (fr.keep keep_forget) c1 hb ((fr.own i false d a e e1).2 rfl) ?_
          rintro ⟨j, p, d', ej, rj⟩
          rcases get_set ej with ⟨_, z, _⟩ | ⟨n, ej⟩
          · cases z
          · exact n (sm.sep i j false d p d' a e ej e1 rj)
theorem ss_expr (h : SE X W e te me) (hs : swapsWith e none pos.line X.env = pure false := by rfl) : SS X W (.Expr e pos) (tDrop te) (mDrop me) :=
  ⟨ps_expr h.pe hs, fun c σ0 B H σ env sm fr D post => h.rx.goS sm fr post fun v d B1 H1 env1 sm1 fr1 _ r1 post1 => post1 σ B1 H1 sm1 fr1⟩
/-- a slot's container is shared from here on (nothing happens in the program) -/
theorem rs_frz {i : Nat} (h : RS K mg W t mt) : RS K mg W t (mFrz i mt) := by
  intro c σ0 B H σ env sm fr D post
  unfold mFrz at post
  cases e : env[i]? with
  | none => rw [e] at post; exact post.elim
  | some s =>
    rw [e] at post
    cases s with
    | none => exact post.elim
    | some s =>
      cases s with
      | shr d => exact post.elim
      | own p d =>
        cases p with
        | true => exact post.elim
        | false =>
          obtain ⟨v, e1, a, rfl, c1, hb, _⟩ := sm.sl i _ e
          obtain ⟨o, ho, r⟩ := c1.frz hb
          have h0 := (fr.own i false d a e e1).2 rfl
          have sm1 := sm.forget i
          have nown : ¬ Owned σ (env.set i none) a := by
            rintro ⟨j, p, d', ej, rj⟩
            rcases get_set ej with ⟨_, z, _⟩ | ⟨n, ej⟩
            · cases z
            · exact n (sm.sep i j false d p d' a e ej e1 rj)
          have sm2 := (sm1.freeze ho hb nown).setShr i r
          have es : (env.set i none).set i (some (.shr d)) = env.set i (some (.shr d)) := by rw [List.set_set]
          have eσ : σ.set i (some (.ref a)) = σ := by
            obtain ⟨hl, ev⟩ := List.getElem?_eq_some_iff.mp e1
            rw [← ev, List.set_getElem_self]
          rw [es, eσ] at sm2
          have fr1 : Frm c σ (env.set i (some (.shr d))) (upd B a o) H :=
            ⟨fr.grow.trans (same_upd hb), fr.growS.trans (same_upd hb), fun x u q => by
              by_cases ex : x = a
              · subst ex; exact .inr h0
              · rw [upd_ne ex] at q; exact fr.new x u q, fr.frame, fr.there, fun j p d' x ej rj => by
              rcases get_set ej with ⟨_, z, _⟩ | ⟨n, ej⟩
              · cases z
              · exact fr.own j p d' x ej rj⟩
          exact h c σ0 _ H σ _ sm2 fr1 D post
theorem sss_frz (i : Nat) {sts : List Stmt} (h : SSs X W sts t mt) : SSs X W sts t (mFrz i mt) := ⟨h.ps, rs_frz h.rs⟩
end

/-! ### targets -/
def gN (i : Nat) : D → En → Option En := fun d env => some (env.set i (some (.shr d)))
def gAll : List (D → En → Option En) → List D → En → Option En
  | [], [], env => some env
  | g :: gs, d :: ds, env => (g d env).bind (gAll gs ds)
  | _, _, _ => none
theorem gAll_len : ∀ {gs : List (D → En → Option En)} {ds : List D} {env env' : En}, gAll gs ds env = some env' → gs.length = ds.length
  | [], [], _, _, _ => rfl
  | g :: gs, d :: ds, env, env', h => by
    have h : (g d env).bind (gAll gs ds) = some env' := h
    cases e : g d env with
    | none => rw [e] at h; cases h
    | some e2 =>
      rw [e] at h
      rw [List.length_cons, List.length_cons, gAll_len (gs := gs) (ds := ds) (env := e2) (env' := env') h]
  | [], _ :: _, _, _, h => by cases h
  | _ :: _, [], _, _, h => by cases h
def gT (gs : List (D → En → Option En)) : D → En → Option En
  | .tup ds, env => gAll gs ds env
  | _, _ => none
section
variable {X : Cx} {pos : Pos} {K : PySem.W.Frag} {mg : Str → Option Value}
theorem rg_name {i : Nat} : RG K mg [i] (gName i) (gN i) := fun σ0 B H σ env v d sm r Q post => post _ (sm.setShr i r) keep_setShr ⟨List.length_set .., fun j hj => List.getElem?_set_ne fun e => hj (by rw [e]; exact List.mem_cons_self)⟩
theorem sg_name (i : Nat) {x : Str} (hN : X.N.Nodup) (hi : X.N[i]? = some x := by rfl) (hx : Loc X.env.scope x := by first | exact Or.inl rfl | exact Or.inr rfl) (hf : X.fn x = true ∨ X.env.scope.names.lookup x = some .local := by first | exact .inl rfl | exact .inr rfl) : SG X (.Name x pos) [i] (gName i) (gN i) := ⟨pg_name hN hi hx hf, rg_name⟩
def RGs (K : PySem.W.Frag) (mg : Str → Option Value) (T : List Nat) (g : TGs) (ms : List (D → En → Option En)) : Prop := ∀ σ0 B H σ env vs ds, Sm K mg σ0 B H σ env → Reps K mg B vs ds → ∀ Q, PostG K mg T σ0 σ env B H (gAll ms ds env) Q → g vs σ H Q
structure SGs (X : Cx) (ts : List Expr) (T : List Nat) (g : TGs) (ms : List (D → En → Option En)) : Prop where
  pg : PGs X ts g
  rg : RGs X.K X.mg T g ms
theorem sgs_nil : SGs X [] [] gNil [] := ⟨pgs_nil, fun σ0 B H σ env vs ds sm r Q post => by
  cases r with
  | nil => exact ⟨rfl, post σ sm (Keep.refl _ _) ⟨rfl, fun _ _ => rfl⟩⟩
  | cons _ _ => exact post.elim⟩
theorem sgs_cons {e : Expr} {es : List Expr} {T U : List Nat} {t : TG} {u : TGs} {m : D → En → Option En} {ms : List (D → En → Option En)} (h1 : SG X e T t m) (h2 : SGs X es U u ms)
    (hs : (assignEach (e :: es) X.env).map (·.2) = assign e X.env :: (assignEach es X.env).map (·.2) := by rfl) : SGs X (e :: es) (T ++ U) (gCons t u) (m :: ms) := by
  refine ⟨pgs_cons h1.pg h2.pg hs, fun σ0 B H σ env vs ds sm r Q post => ?_⟩
  cases r with
  | nil => exact post.elim
  | @cons v vs d ds r1 r2 =>
    refine ⟨v, vs, rfl, ?_⟩
    have post : PostG X.K X.mg (T ++ U) σ0 σ env B H ((m d env).bind (gAll ms ds)) Q := post
    refine h1.rg σ0 B H σ env v d sm r1 _ ?_
    cases e : m d env with
    | none => rw [e] at post; exact post
    | some env' =>
      rw [e] at post
      intro σ' sm' k t1
      refine h2.rg σ0 B H σ' env' vs ds sm' r2 Q ?_
      have post : PostG X.K X.mg (T ++ U) σ0 σ env B H (gAll ms ds env') Q := post
      cases e2 : gAll ms ds env' with
      | none => rw [e2] at post; exact post
      | some env2 =>
        rw [e2] at post
        exact fun σ2 sm2 k2 t2 => post σ2 sm2 (k.trans k2) ⟨t2.1.trans t1.1, fun i hi => (t2.2 i fun z => hi (List.mem_append_right _ z)).trans (t1.2 i fun z => hi (List.mem_append_left _ z))⟩
theorem sg_tup {es : List Expr} {k : Nat} {T : List Nat} {t : TGs} {n : Nat} {ms : List (D → En → Option En)} (hc : X.calm = true) (h : SGs X es T t ms) (hn : (assignEach es X.env).length = n := by rfl) (hl : ms.length = n := by rfl) (hst : (assignEach es X.env).findIdx? (·.1) = none := by rfl) :
    SG X (.Tuple es k pos) T (gTup X.K n t) (gT ms) := by
  refine ⟨pg_tup hc h.pg hn hst, fun σ0 B H σ env v d sm r Q post => ?_⟩
  cases r with
  | @tup a vs ds p rs =>
    have post : PostG X.K X.mg T σ0 σ env B H (gAll ms ds env) Q := post
    have hlen : ms.length = ds.length := by
      cases e : gAll ms ds env with
      | none => rw [e] at post; exact post.elim
      | some env' => exact gAll_len e
    exact ⟨a, vs, rfl, .of (sm.sub.tup p), by rw [rs.length, ← hlen, hl], h.rg σ0 B H σ env vs ds sm rs Q post⟩
  | _ => exact post.elim
end
end Mi

/-! The mirror layer 7: loops, stores. -/
namespace Mi
open PySem L2

/-! ### what is walked -/
/-- J walks things that stand for ds -/
def ItR (K : PySem.W.Frag) (mg : Str → Option Value) (J : It) (B : Hp) (ds : List D) : Prop := ∀ B' H, Same B B' → Sub B' H →
  J.stop ds.length H ∧ ∀ i d, ds[i]? = some d → J.go i H ∧ ∀ x H', J.yld i H x H' → ∃ B'', Al B' H B'' H' ∧ Rep K mg B'' x d
def RIt (K : PySem.W.Frag) (mg : Str → Option Value) : L2.St → Hp → It → List D → Prop := fun _ B J ds => ItR K mg J B ds
structure SI (X : Cx) (W : WX) (tg e : Expr) (wi : TI) (m : M (List D)) : Prop where
  pi : PI X tg e wi
  rx : RX X.K X.mg W (RIt X.K X.mg) wi m
def iL (m : M D) : M (List D) := m.bind fun d => match d with
  | .lst xs => M.pure xs
  | .frz xs => M.pure xs
  | _ => fun _ => .stuck
def iT (m : M D) : M (List D) := m.bind fun d => match d with
  | .tup xs => M.pure xs
  | .ftp xs => M.pure xs
  | _ => fun _ => .stuck
def iS (m : M D) : M (List D) := m.bind fun d => match d with
  | .str z => M.pure (z.cps.toList.map fun c => .str ⟨#[c]⟩)
  | _ => fun _ => .stuck
def rngD (lo : Int) (n : Nat) : List D := (List.range n).map fun (k : Nat) => D.int (lo + (k : Int))
def small62 (i : Int) : Bool := Nat.ble (-i).toNat 4611686018427387904 && Nat.ble (i.toNat + 1) 4611686018427387904
def iR1 (m : M (List D)) : M (List D) := m.bind fun d => match d with
  | [.int j] => if small62 j then M.pure (rngD 0 j.toNat) else fun _ => .stuck
  | _ => fun _ => .stuck
def iR2 (m : M (List D)) : M (List D) := m.bind fun d => match d with
  | [.int i, .int j] => if small62 i && small62 j then M.pure (rngD i (j - i).toNat) else fun _ => .stuck
  | _ => fun _ => .stuck
section
variable {X : Cx} {W : WX} {tg e : Expr} {te : TE} {me : M D} {K : PySem.W.Frag} {mg : Str → Option Value} {ta : TA} {ma : M (List D)} {es : List Expr} {pos p : Pos}
theorem itr_list {B : Hp} {a : Addr} {vs : List V} {ds : List D} (h : SqL K B a vs) (r : Reps K mg B vs ds) : ItR K mg (Itl K a) B ds := by
  intro B' H g s
  have hH := s.sqL (sqL_mono g h)
  refine ⟨⟨vs, hH, by rw [r.length]; exact Nat.le_refl _⟩, fun i d hd => ?_⟩
  obtain ⟨y, e1, r1⟩ := r.get hd
  refine ⟨⟨vs, y, hH, e1⟩, fun x H' ⟨e2, hx⟩ => ?_⟩
  subst e2
  have := hx vs hH
  rw [e1] at this
  cases this
  exact ⟨B', Al.refl s, r1.mono g⟩
theorem itr_tup {B : Hp} {a : Addr} {vs : List V} {ds : List D} (h : SqT K B a vs) (r : Reps K mg B vs ds) : ItR K mg (Itt K a) B ds := by
  intro B' H g s
  have hH := s.sqT (sqT_mono g h)
  refine ⟨⟨vs, hH, by rw [r.length]; exact Nat.le_refl _⟩, fun i d hd => ?_⟩
  obtain ⟨y, e1, r1⟩ := r.get hd
  refine ⟨⟨vs, y, hH, e1⟩, fun x H' ⟨e2, hx⟩ => ?_⟩
  subst e2
  have := hx vs hH
  rw [e1] at this
  cases this
  exact ⟨B', Al.refl s, r1.mono g⟩
theorem rngD_len (lo : Int) (n : Nat) : (rngD lo n).length = n := by unfold rngD; rw [List.length_map, List.length_range]
theorem rngD_get {lo : Int} {n i : Nat} {d : D} (h : (rngD lo n)[i]? = some d) : i < n ∧ d = .int (lo + i) := by
  unfold rngD at h
  rw [List.getElem?_map] at h
  cases e : (List.range n)[i]? with
  | none => rw [e] at h; cases h
  | some k =>
    rw [e] at h
    cases h
    obtain ⟨hl, hk⟩ := List.getElem?_eq_some_iff.mp e
    rw [List.length_range] at hl
    rw [List.getElem_range] at hk
    subst hk
    exact ⟨hl, rfl⟩
theorem itr_rng {B : Hp} {lo : Int} {n : Nat} : ItR K mg (Itr lo n) B (rngD lo n) := by
  intro B' H g s
  refine ⟨by rw [rngD_len]; exact Nat.le_refl _, fun i d hd => ?_⟩
  obtain ⟨hl, rfl⟩ := rngD_get hd
  refine ⟨hl, fun x H' ⟨e2, hx⟩ => ?_⟩
  subst e2 hx
  exact ⟨B', Al.refl s, .int _⟩
theorem itr_str {B : Hp} {z : Str} : ItR K mg (Its z) B (z.cps.toList.map fun c => .str ⟨#[c]⟩) := by
  intro B' H g s
  refine ⟨by rw [List.length_map, Array.length_toList]; exact Nat.le_refl _, fun i d hd => ?_⟩
  rw [List.getElem?_map] at hd
  cases e : z.cps.toList[i]? with
  | none => rw [e] at hd; cases hd
  | some k =>
    rw [e] at hd
    cases hd
    have e' : z.cps[i]? = some k := by rw [← Array.getElem?_toList]; exact e
    obtain ⟨hl, _⟩ := Array.getElem?_eq_some_iff.mp e'
    refine ⟨hl, fun x H' ⟨e2, c, ec, hx⟩ => ?_⟩
    subst e2 hx
    rw [e'] at ec
    cases ec
    exact ⟨B', Al.refl s, .str _⟩
theorem rx_il (h : RX K mg W (RD K mg) te me) : RX K mg W (RIt K mg) (iList K te) (iL me) :=
  h.bind (t2 := fun x _ H1 R => ∃ a, x = V.ref a ∧ (∃ xs, SqL K H1 a xs) ∧ R (Itl K a) H1) fun v d σ0 B H σ env sm r Q post => by
    cases r with
    | lst p rs => exact ⟨_, rfl, ⟨_, .of (sm.sub.lst p)⟩, post.val sm (itr_list (.of p) rs)⟩
    | frz p rs => exact ⟨_, rfl, ⟨_, sm.sub.sqL p⟩, post.val sm (itr_list p rs)⟩
    | _ => exact post.elim
theorem rx_it (h : RX K mg W (RD K mg) te me) : RX K mg W (RIt K mg) (iTup K te) (iT me) :=
  h.bind (t2 := fun x _ H1 R => ∃ a, x = V.ref a ∧ (∃ xs, SqT K H1 a xs) ∧ R (Itt K a) H1) fun v d σ0 B H σ env sm r Q post => by
    cases r with
    | tup p rs => exact ⟨_, rfl, ⟨_, .of (sm.sub.tup p)⟩, post.val sm (itr_tup (.of p) rs)⟩
    | ftp p rs => exact ⟨_, rfl, ⟨_, sm.sub.sqT p⟩, post.val sm (itr_tup p rs)⟩
    | _ => exact post.elim
theorem rx_is (h : RX K mg W (RD K mg) te me) : RX K mg W (RIt K mg) (iStr te) (iS me) :=
  h.bind (t2 := fun v _ H1 R => ∃ x, v = V.str x ∧ R (Its x) H1) fun v d σ0 B H σ env sm r Q post => by
    cases r with
    | str z => exact ⟨z, rfl, post.val sm itr_str⟩
    | _ => exact post.elim
theorem small62_ok {i : Int} (h : small62 i = true) : -(2 ^ 62) ≤ i ∧ i < 2 ^ 62 := by
  unfold small62 at h
  rw [Bool.and_eq_true] at h
  have a := Nat.le_of_ble_eq_true h.1
  have b := Nat.le_of_ble_eq_true h.2
  constructor <;> omega
theorem rx_ir1 (h : RX K mg W (RDs K mg) ta ma) : RX K mg W (RIt K mg) (iRng1 ta) (iR1 ma) :=
  h.bind (t2 := fun vs _ H1 R => ∃ j : Int, vs = [V.int j] ∧ -(2 ^ 62) ≤ j ∧ j < 2 ^ 62 ∧ R (Itr 0 j.toNat) H1) fun v d σ0 B H σ env sm r Q post => by
    match d, r, post with
    | [.int j], .cons (.int _) .nil, post =>
      by_cases hs : small62 j = true
      · have post : Post K mg W (RIt K mg) σ0 σ env B H ((if small62 j then M.pure (rngD 0 j.toNat) else fun _ => .stuck : M (List D)) env) Q := post
        rw [if_pos hs] at post
        exact ⟨j, rfl, (small62_ok hs).1, (small62_ok hs).2, post.val sm itr_rng⟩
      · have post : Post K mg W (RIt K mg) σ0 σ env B H ((if small62 j then M.pure (rngD 0 j.toNat) else fun _ => .stuck : M (List D)) env) Q := post
        rw [if_neg hs] at post
        exact post.elim
theorem rx_ir2 (h : RX K mg W (RDs K mg) ta ma) : RX K mg W (RIt K mg) (iRng2 ta) (iR2 ma) :=
  h.bind (t2 := fun vs _ H1 R => ∃ i j : Int, vs = [V.int i, V.int j] ∧ (-(2 ^ 62) ≤ i ∧ i < 2 ^ 62 ∧ -(2 ^ 62) ≤ j ∧ j < 2 ^ 62) ∧ R (Itr i (j - i).toNat) H1) fun v d σ0 B H σ env sm r Q post => by
    match d, r, post with
    | [.int i, .int j], .cons (.int _) (.cons (.int _) .nil), post =>
      by_cases hs : (small62 i && small62 j) = true
      · have post : Post K mg W (RIt K mg) σ0 σ env B H ((if small62 i && small62 j then M.pure (rngD i (j - i).toNat) else fun _ => .stuck : M (List D)) env) Q := post
        rw [if_pos hs] at post
        rw [Bool.and_eq_true] at hs
        exact ⟨i, j, rfl, ⟨(small62_ok hs.1).1, (small62_ok hs.1).2, (small62_ok hs.2).1, (small62_ok hs.2).2⟩, post.val sm itr_rng⟩
      · have post : Post K mg W (RIt K mg) σ0 σ env B H ((if small62 i && small62 j then M.pure (rngD i (j - i).toNat) else fun _ => .stuck : M (List D)) env) Q := post
        rw [if_neg hs] at post
        exact post.elim
theorem si_l (h : SE X W e te me) : SI X W tg e (iList X.K te) (iL me) := ⟨pi_list h.pe, rx_il h.rx⟩
theorem si_t (h : SE X W e te me) : SI X W tg e (iTup X.K te) (iT me) := ⟨pi_tup h.pe, rx_it h.rx⟩
theorem si_r1 {a : Expr} (hm : X.mg "range" = none) (ha : SA X W [a] ta ma) (hg : Gl X "range" := by rfl) (hs : starEach [a] X.env = [(false, eval a X.env)] := by rfl) : SI X W tg (.Call (.Name "range" p) [a] [] pos) (iRng1 ta) (iR1 ma) := ⟨pi_range1 hg hm ha.pa hs, rx_ir1 ha.rx⟩
theorem si_r2 {a b : Expr} (hm : X.mg "range" = none) (ha : SA X W [a, b] ta ma) (hg : Gl X "range" := by rfl) (hs : starEach [a, b] X.env = [(false, eval a X.env), (false, eval b X.env)] := by rfl) (hs2 : starEach [b] X.env = [(false, eval b X.env)] := by rfl) :
    SI X W tg (.Call (.Name "range" p) [a, b] [] pos) (iRng2 ta) (iR2 ma) := ⟨pi_range2 hg hm ha.pa hs hs2, rx_ir2 ha.rx⟩
end

/-! ### for -/
def forL (g : D → En → Option En) (body : M Fl) (clr : List Nat) : List D → M Fl
  | [], env => .ok .nx env
  | x :: xs, env => match g x env with
    | none => .stuck
    | some env1 => match body env1 with
      | .ok .nx env2 => forL g body clr xs (clrE clr env2)
      | .ok .ct env2 => forL g body clr xs (clrE clr env2)
      | .ok .bk env2 => .ok .nx (clrE clr env2)
      | .ok (.rt o d) env2 => .ok (.rt o d) env2
      | .exn x env2 => .exn x env2
      | .stuck => .stuck
def mFor (mi : M (List D)) (g : D → En → Option En) (body : M Fl) (clr : List Nat) : M Fl := mi.bind fun ds => forL g body clr ds
section
variable {X : Cx} {W : WX} {tg iter : Expr} {K : PySem.W.Frag} {mg : Str → Option Value} {wi : TI} {mi : M (List D)} {g : TG} {gm : D → En → Option En} {tb : TS} {mb : M Fl} {body : List Stmt} {pos : Pos}
theorem rs_for {T : List Nat} (hi : RX K mg W (RIt K mg) wi mi) (hg : RG K mg T g gm) (hb : RS K mg W tb mb) (clr : List Nat) : RS K mg W (tFor wi g tb) (mFor mi gm mb clr) := by
  intro c σ0 B H σ env sm fr D post
  refine hi.goS sm fr post fun J ds B1 H1 env1 sm1 fr1 _ r1 post1 => ?_
  refine ⟨fun i m σ' H' => m = ds.length - i ∧ i ≤ ds.length ∧ ∃ B' env', Sm K mg σ0 B' H' σ' env' ∧ Frm c σ' env' B' H' ∧ Same B1 B' ∧ PostS K mg W c σ0 (forL gm mb clr (ds.drop i) env') D, ⟨ds.length, by omega, by omega, B1, env1, sm1, fr1, Same.refl _, post1⟩, ?_⟩
  rintro i m σ' H' ⟨rfl, hil, B', env', sm', fr', g1, post'⟩
  obtain ⟨hstop, hgo⟩ := r1 B' H' g1 sm'.sub
  by_cases hlt : i < ds.length
  · refine .inr ?_
    have hd : ds[i]? = some ds[i] := List.getElem?_eq_getElem hlt
    obtain ⟨go, yl⟩ := hgo i _ hd
    refine ⟨go, fun σ2 H2 => i + 1 ≤ ds.length ∧ ∃ B2 env2, Sm K mg σ0 B2 H2 σ2 env2 ∧ Frm c σ2 env2 B2 H2 ∧ Same B1 B2 ∧ PostS K mg W c σ0 (forL gm mb clr (ds.drop (i + 1)) env2) D, fun σ2 H2 ⟨h1, h2⟩ => ⟨ds.length - (i + 1), by omega, rfl, h1, h2⟩, fun x H2 hy => ?_⟩
    obtain ⟨B2, al, rx⟩ := yl x H2 hy
    have sm2 := sm'.alloc al.g al.n al.s al.sb
    have fr2 := fr'.step (Stp.alloc al.g al.n al.s) (Keep.refl _ _)
    rw [List.drop_eq_getElem_cons hlt] at post'
    refine hg σ0 B2 H2 σ' env' x _ sm2 rx _ ?_
    unfold forL at post'
    cases e : gm ds[i] env' with
    | none => rw [e] at post'; exact post'
    | some env3 =>
      rw [e] at post'
      intro σ3 sm3 k3 _
      have fr3 := fr2.keep k3
      have g3 : Same B1 B2 := g1.trans al.g
      have hc : Same c.Bs B2 := fr3.growS
      refine hb { c with Bs := B2 } σ0 B2 H2 σ3 env3 sm3 (fr3.bs (Same.refl _)) _ ?_
      have post' : PostS K mg W c σ0 (match mb env3 with
        | .ok .nx env2 => forL gm mb clr (ds.drop (i + 1)) (clrE clr env2)
        | .ok .ct env2 => forL gm mb clr (ds.drop (i + 1)) (clrE clr env2)
        | .ok .bk env2 => .ok .nx (clrE clr env2)
        | .ok (.rt o d) env2 => .ok (.rt o d) env2
        | .exn x env2 => .exn x env2
        | .stuck => .stuck) D := post'
      cases e2 : mb env3 with
      | stuck => rw [e2] at post'; exact post'
      | exn y env4 =>
        rw [e2] at post'
        exact fun cls d s B H a b => post' cls d s B H a (b.unbs hc)
      | ok f env4 =>
        rw [e2] at post'
        cases f with
        | nx => exact fun s B H a b => ⟨by omega, B, clrE clr env4, a.clr clr, (b.unbs hc).keep (keep_clr clr), g3.trans b.growS, post'⟩
        | ct => exact fun s B H a b => ⟨by omega, B, clrE clr env4, a.clr clr, (b.unbs hc).keep (keep_clr clr), g3.trans b.growS, post'⟩
        | bk => exact fun s B H a b => post' s B H (a.clr clr) ((b.unbs hc).keep (keep_clr clr))
        | rt o d =>
          cases o with
          | false => exact fun v s B H a b => post' v s B H a (b.unbs hc)
          | true => exact fun v s B H a b => post' v s B H a (b.unbs hc)
  · have e : i = ds.length := by omega
    subst e
    rw [List.drop_length] at post'
    exact .inl ⟨hstop, post' σ' B' H' sm' fr'⟩
theorem ss_for {T : List Nat} (clr : List Nat) (hp : PassesOwn (model X.prog X.w) X.A X.env X.xe) (hc : X.calm = true) (hi : SI X W tg iter wi mi) (hg : SG X tg T g gm) (hb : SSs X W body tb mb) (hs : ∀ x, foldedSetIterable iter X.env x = pure x := by intro _; rfl) :
    SS X W (.For tg iter body [] pos) (tFor wi g tb) (mFor mi gm mb clr) := ⟨ps_for hp hc hi.pi hg.pg hb.ps hs, rs_for hi.rx hg.rg hb.rs clr⟩
end

/-! ### stores into a slot's own container -/
def mApp (i : Nat) (m : M D) : M Fl := fun env => match getOwnL env i with
  | some _ => (m.bind fun d env' => match env'[i]? with
    | some (some (.own p (.lst xs))) => if xs.length < 16777216 then .ok .nx (env'.set i (some (.own p (.lst (xs ++ [d]))))) else .stuck
    | _ => .stuck) env
  | none => .stuck
section
variable {X : Cx} {W : WX} {e : Expr} {te : TE} {me : M D} {K : PySem.W.Frag} {mg : Str → Option Value} {pos : Pos}
theorem rs_app {i : Nat} (h : RX K mg W (RD K mg) te me) : RS K mg W (tDrop (tBM K "list" rAppend (tVar i) (tCons te tNil))) (mApp i me) := by
  intro c σ0 B H σ env sm fr D post
  have hz : sizeLine = 16777216 := sizeLine_eq
  unfold mApp at post
  cases e : getOwnL env i with
  | none => rw [e] at post; exact post.elim
  | some d0 =>
    rw [e] at post
    obtain ⟨a, p, e0, e1, c0, _⟩ := sm.getOwn (getOwnL_some e)
    obtain ⟨vs, hl, _⟩ := c0.lst_inv
    refine ⟨.ref a, e1, .inl ⟨rfl, _, SqL.of hl⟩, ?_⟩
    refine h.goS sm fr post fun v d B1 H1 env1 sm1 fr1 _ r1 post1 => ?_
    cases e2 : env1[i]? with
    | none => rw [e2] at post1; exact post1.elim
    | some s =>
      rw [e2] at post1
      match s, e2, post1 with
      | some (.own p (.lst xs)), e2, post1 =>
        have post1 : PostS K mg W c σ0 (if xs.length < 16777216 then .ok .nx (env1.set i (some (.own p (.lst (xs ++ [d]))))) else .stuck) D := post1
        by_cases hs : xs.length < 16777216
        · rw [if_pos hs] at post1
          obtain ⟨v', e3, a', rfl, c1, hb, hp⟩ := sm1.sl i _ e2
          rw [e1] at e3
          cases e3
          obtain ⟨vs1, hl1, rs⟩ := Cont.lst_inv c1
          refine ⟨a, vs1, v, rfl, rfl, hl1, by rw [rs.length]; omega, ?_⟩
          exact post1 σ B1 _ (sm1.write e2 e1 (.lst upd_same (rs.append (.cons r1 .nil)))) (fr1.step (stp_write e2 e1) (osub_write e2).keep)
        · rw [if_neg hs] at post1; exact post1.elim
end

/-! ### dicts -/
def toKey : D → Option Key
  | .int i => some (.inl i)
  | .str x => some (.inr x)
  | _ => none
def toKeys : List D → Option (List Key)
  | [] => some []
  | d :: ds => (toKey d).bind fun k => (toKeys ds).map (k :: ·)
theorem toKey_rep {K : PySem.W.Frag} {mg : Str → Option Value} {B : Hp} {v : V} {d : D} {k : Key} (h : toKey d = some k) (r : Rep K mg B v d) : v = kV k := by
  unfold toKey at h
  split at h
  · cases h; cases r; rfl
  · cases h; cases r; rfl
  · cases h
theorem toKeys_rep {K : PySem.W.Frag} {mg : Str → Option Value} {B : Hp} : ∀ {vs : List V} {ds : List D} {ks : List Key}, toKeys ds = some ks → Reps K mg B vs ds → vs = ks.map kV
  | [], [], _, h, .nil => by cases h; rfl
  | v :: vs, d :: ds, ks, h, .cons r rs => by
    unfold toKeys at h
    cases e1 : toKey d with
    | none => rw [e1] at h; cases h
    | some k =>
      rw [e1] at h
      cases e2 : toKeys ds with
      | none => rw [e2] at h; cases h
      | some ks' =>
        rw [e2] at h
        cases h
        rw [List.map_cons, ← toKeys_rep e2 rs, ← toKey_rep e1 r]
section
variable {κ : Type} [DecidableEq κ]
def dLook (kvs : List (κ × D)) (k : κ) : Option D := (kvs.find? fun kv => decide (kv.1 = k)).map (·.2)
def dPutL (kvs : List (κ × D)) (k : κ) (v : D) : List (κ × D) :=
  if (kvs.any fun kv => decide (kv.1 = k)) = true then kvs.map (fun kv => if kv.1 = k then (kv.1, v) else kv) else kvs ++ [(k, v)]
def dDropL (kvs : List (κ × D)) (k : κ) : List (κ × D) := kvs.filter fun kv => decide (kv.1 ≠ k)
variable {K : PySem.W.Frag} {mg : Str → Option Value} {B : Hp}
/-- the pairs of a dict, in order -/
def RKv (K : PySem.W.Frag) (mg : Str → Option Value) (B : Hp) (vs : List (κ × V)) (ds : List (κ × D)) : Prop := vs.map Prod.fst = ds.map Prod.fst ∧ Reps K mg B (vs.map Prod.snd) (ds.map Prod.snd)
theorem RKv.nil : RKv K mg B ([] : List (κ × V)) [] := ⟨rfl, .nil⟩
theorem RKv.cons {k : κ} {v : V} {d : D} {vs : List (κ × V)} {ds : List (κ × D)} (r : Rep K mg B v d) (h : RKv K mg B vs ds) : RKv K mg B ((k, v) :: vs) ((k, d) :: ds) := ⟨by rw [List.map_cons, List.map_cons, h.1], .cons r h.2⟩
theorem RKv.length {vs : List (κ × V)} {ds : List (κ × D)} (h : RKv K mg B vs ds) : vs.length = ds.length := by
  have := congrArg List.length h.1
  simpa using this
theorem RKv.ind {P : List (κ × V) → List (κ × D) → Prop} (h0 : P [] []) (h1 : ∀ k v d vs ds, Rep K mg B v d → RKv K mg B vs ds → P vs ds → P ((k, v) :: vs) ((k, d) :: ds)) : ∀ {vs : List (κ × V)} {ds : List (κ × D)}, RKv K mg B vs ds → P vs ds
  | [], [], _ => h0
  | (k, v) :: vs, (k', d) :: ds, h => by
    obtain ⟨e, r⟩ := h
    rw [List.map_cons, List.map_cons] at e
    injection e with e1 e2
    have e1 : k = k' := e1
    subst e1
    cases r with
    | cons r1 r2 => exact h1 k v d vs ds r1 ⟨e2, r2⟩ (RKv.ind h0 h1 ⟨e2, r2⟩)
  | [], _ :: _, h => by cases h.1
  | _ :: _, [], h => by cases h.1
theorem RKv.look {vs : List (κ × V)} {ds : List (κ × D)} (h : RKv K mg B vs ds) (k : κ) : (valV vs k = none ∧ dLook ds k = none) ∨ ∃ v d, valV vs k = some v ∧ dLook ds k = some d ∧ Rep K mg B v d := by
  refine RKv.ind (P := fun vs ds => (valV vs k = none ∧ dLook ds k = none) ∨ ∃ v d, valV vs k = some v ∧ dLook ds k = some d ∧ Rep K mg B v d) (.inl ⟨rfl, rfl⟩) (fun k' v d vs ds r h ih => ?_) h
  unfold valV dLook at ih ⊢
  by_cases e : k' = k
  · refine .inr ⟨v, d, ?_, ?_, r⟩
    · rw [List.find?_cons_of_pos (by simpa using e)]; rfl
    · rw [List.find?_cons_of_pos (by simpa using e)]; rfl
  · rw [List.find?_cons_of_neg (by simpa using e), List.find?_cons_of_neg (by simpa using e)]
    exact ih
theorem RKv.any {vs : List (κ × V)} {ds : List (κ × D)} (h : RKv K mg B vs ds) (k : κ) : (vs.any fun kv => decide (kv.1 = k)) = (ds.any fun kv => decide (kv.1 = k)) :=
  RKv.ind (P := fun vs ds => (vs.any fun kv => decide (kv.1 = k)) = (ds.any fun kv => decide (kv.1 = k))) rfl (fun k' v d vs ds r h ih => by rw [List.any_cons, List.any_cons, ih]) h
theorem RKv.append {vs ws : List (κ × V)} {ds es : List (κ × D)} (h : RKv K mg B vs ds) (g : RKv K mg B ws es) : RKv K mg B (vs ++ ws) (ds ++ es) := by
  refine ⟨by rw [List.map_append, List.map_append, h.1, g.1], ?_⟩
  rw [List.map_append, List.map_append]
  exact h.2.append g.2
theorem RKv.put {vs : List (κ × V)} {ds : List (κ × D)} (h : RKv K mg B vs ds) (k : κ) {v : V} {d : D} (r : Rep K mg B v d) : RKv K mg B (putK vs k v) (dPutL ds k d) := by
  unfold putK dPutL
  rw [h.any k]
  by_cases c : (ds.any fun kv => decide (kv.1 = k)) = true
  · rw [if_pos c, if_pos c]
    refine RKv.ind (P := fun vs ds => RKv K mg B (vs.map fun kv => if kv.1 = k then (kv.1, v) else kv) (ds.map fun kv => if kv.1 = k then (kv.1, d) else kv)) .nil (fun k' v' d' vs ds r' h ih => ?_) h
    rw [List.map_cons, List.map_cons]
    by_cases e : k' = k
    · rw [if_pos e, if_pos e]; exact .cons r ih
    · rw [if_neg e, if_neg e]; exact .cons r' ih
  · rw [if_neg c, if_neg c]
    exact h.append (.cons r .nil)
theorem RKv.drop {vs : List (κ × V)} {ds : List (κ × D)} (h : RKv K mg B vs ds) (k : κ) : RKv K mg B (dropK vs k) (dDropL ds k) := by
  unfold dropK dDropL
  refine RKv.ind (P := fun vs ds => RKv K mg B (vs.filter fun kv => decide (kv.1 ≠ k)) (ds.filter fun kv => decide (kv.1 ≠ k))) .nil (fun k' v' d' vs ds r' h ih => ?_) h
  by_cases e : k' = k
  · rw [List.filter_cons_of_neg (by simpa using e), List.filter_cons_of_neg (by simpa using e)]; exact ih
  · rw [List.filter_cons_of_pos (by simpa using e), List.filter_cons_of_pos (by simpa using e)]; exact .cons r' ih
end
/-- what a dict holds at a key -/
def dGet : D → D → Option (Option D)
  | .dK kvs, k => (toKey k).map (dLook kvs)
  | .dT kvs, .tup ks => (toKeys ks).map (dLook kvs)
  | _, _ => none
theorem dGet_rep {K : PySem.W.Frag} {mg : Str → Option Value} {B H : Hp} {a : Addr} {y : V} {d k : D} {o : Option D} (s : Sub B H) (h : Rep K mg B (.ref a) d) (r : Rep K mg B y k) (e : dGet d k = some o) :
    ∃ ov, DGet H a y ov ∧ ((ov = none ∧ o = none) ∨ ∃ v z, ov = some v ∧ o = some z ∧ Rep K mg B v z) := by
  cases d with
  | dK kvs =>
    have e : (toKey k).map (dLook kvs) = some o := e
    cases h with
    | @dK a vs _ p q rs =>
      cases e1 : toKey k with
      | none => rw [e1] at e; cases e
      | some kk =>
        rw [e1] at e
        cases e
        have := toKey_rep e1 r
        subst this
        have hr : Rd H a (.dK vs) := by
          rcases s _ _ p with h | ⟨_, ob, h⟩
          · exact .inl h
          · exact .inr ⟨ob, h⟩
        exact ⟨valV vs kk, .inl ⟨vs, kk, hr, rfl, rfl⟩, RKv.look ⟨q, rs⟩ kk⟩
  | dT kvs =>
    cases k with
    | tup ks =>
      have e : (toKeys ks).map (dLook kvs) = some o := e
      cases h with
      | @dT a vs _ p q rs =>
        cases r with
        | tup p2 rs2 =>
          cases e1 : toKeys ks with
          | none => rw [e1] at e; cases e
          | some kk =>
            rw [e1] at e
            cases e
            have := toKeys_rep e1 rs2
            subst this
            have hr : Rd H a (.dT vs) := by
              rcases s _ _ p with h | ⟨_, ob, h⟩
              · exact .inl h
              · exact .inr ⟨ob, h⟩
            exact ⟨valV vs kk, .inr ⟨vs, kk, _, hr, rfl, s.tup p2, rfl⟩, RKv.look ⟨q, rs⟩ kk⟩
    | _ => cases e
  | _ => cases e
end Mi

/-! The mirror layer 8: defs and calls. -/
namespace Mi
open PySem L2

inductive Fin where
  | stuck | ret (own : Bool) (d : D) (outs : List D) | exn (x : Xn) (outs : List D)
def argsE (n : Nat) (args : List Slot) : En := args.map some ++ List.replicate (n - args.length) none
/-- what the containers handed in hold at the end -/
def outsAt : Nat → List Slot → En → Option (List D)
  | _, [], _ => some []
  | i, .shr _ :: as, env => outsAt (i + 1) as env
  | i, .own _ _ :: as, env => match env[i]? with
    | some (some (.own true d)) => (outsAt (i + 1) as env).map (d :: ·)
    | _ => none
def runF (n : Nat) (m : M Fl) (args : List Slot) : Fin := match m (argsE n args) with
  | .ok .nx env => match outsAt 0 args env with
    | some os => .ret false .non os
    | none => .stuck
  | .ok (.rt b d) env => match outsAt 0 args env with
    | some os => .ret b d os
    | none => .stuck
  | .exn x env => match outsAt 0 args env with
    | some os => .exn x os
    | none => .stuck
  | _ => .stuck
section
variable (K : PySem.W.Frag) (mg : Str → Option Value)
def Outs (B H : Hp) : List V → List Slot → List D → Prop
  | [], [], [] => True
  | _ :: vs, .shr _ :: as, os => Outs B H vs as os
  | v :: vs, .own _ _ :: as, o :: os => (∃ a, v = .ref a ∧ Cont K mg B H a o ∧ B a = none) ∧ Outs B H vs as os
  | _, _, _ => False
def PostF (B H : Hp) (vs : List V) (args : List Slot) (r : Fin) (Q : VK) (E : XK) : Prop := match r with
  | .stuck => False
  | .ret false d outs => ∀ v B' H', Stp (Owned (vs.map some) (args.map some)) B H B' H' → Sub B' H' → Outs K mg B' H' vs args outs → Rep K mg B' v d → Q v H'
  | .ret true d outs => ∀ a B' H', Stp (Owned (vs.map some) (args.map some)) B H B' H' → Sub B' H' → Outs K mg B' H' vs args outs → Cont K mg B' H' a d → B' a = none → H a = none → Q (.ref a) H'
  | .exn x outs => ∀ cls d B' H', Stp (Owned (vs.map some) (args.map some)) B H B' H' → Sub B' H' → Outs K mg B' H' vs args outs → ExR mg x cls d H' → E cls d H'
/-- the promise: what the mirror tells -/
def SpM (np : Nat) (mf : List Slot → Fin) : Sp := fun vs H Q E => vs.length = np ∧ ∃ B args, Sm K mg (vs.map some) B H (vs.map some) (args.map some) ∧ (∀ p d, Slot.own p d ∈ args → p = true) ∧ PostF K mg B H vs args (mf args) Q E
end
section
variable {K : PySem.W.Frag} {mg : Str → Option Value}
theorem outs_of {σ0 σ : L2.St} {B H : Hp} {env : En} (sm : Sm K mg σ0 B H σ env) : ∀ (vs : List V) (as : List Slot) (i : Nat) (os : List D), vs.length = as.length → (∀ j v, vs[j]? = some v → σ0[i + j]? = some (some v)) → outsAt i as env = some os → Outs K mg B H vs as os
  | [], [], i, os, _, _, h => by cases h; trivial
  | v :: vs, .shr _ :: as, i, os, hl, hv, h => by
    have h : outsAt (i + 1) as env = some os := h
    refine outs_of sm vs as (i + 1) os (by simpa using hl) (fun j w e => ?_) h
    have := hv (j + 1) w (by simpa using e)
    rw [show i + 1 + j = i + (j + 1) by omega]
    exact this
  | v :: vs, .own _ _ :: as, i, os, hl, hv, h => by
    unfold outsAt at h
    cases e : env[i]? with
    | none => rw [e] at h; cases h
    | some s =>
      rw [e] at h
      match s, e, h with
      | some (.own true d), e, h =>
        have h : (outsAt (i + 1) as env).map (d :: ·) = some os := h
        cases e2 : outsAt (i + 1) as env with
        | none => rw [e2] at h; cases h
        | some os' =>
          rw [e2] at h
          cases h
          obtain ⟨w, e1, a, rfl, c, hb, hp⟩ := sm.sl i _ e
          have h0 := hv 0 v rfl
          rw [Nat.add_zero, hp rfl] at h0
          cases h0
          refine ⟨⟨a, rfl, c, hb⟩, outs_of sm vs as (i + 1) os' (by simpa using hl) (fun j w e => ?_) e2⟩
          have := hv (j + 1) w (by simpa using e)
          rw [show i + 1 + j = i + (j + 1) by omega]
          exact this
      | some (.own false d), e, h => cases h
      | some (.shr d), e, h => cases h
      | none, e, h => cases h
  | [], _ :: _, _, _, h, _, _ => by cases h
  | _ :: _, [], _, _, h, _, _ => by cases h
theorem getE {α : Type} {l : List α} {n : Nat} {i : Nat} {x : α} (h : (l.map some ++ List.replicate n none)[i]? = some (some x)) : l[i]? = some x := by
  by_cases c : i < l.length
  · rw [List.getElem?_append_left (by simpa using c), List.getElem?_map] at h
    cases e : l[i]? with
    | none => rw [e] at h; cases h
    | some y => rw [e] at h; cases h; rfl
  · rw [List.getElem?_append_right (by simpa using c)] at h
    rw [List.getElem?_replicate] at h
    split at h <;> cases h
theorem Sm.start {B H : Hp} {vs : List V} {args : List Slot} {n : Nat} (m : Sm K mg (vs.map some) B H (vs.map some) (args.map some)) :
    Sm K mg (vs.map some ++ List.replicate (n - vs.length) none) B H (vs.map some ++ List.replicate (n - vs.length) none) (argsE n args) := by
  have hl : vs.length = args.length := by simpa using m.len
  have sg : ∀ (i : Nat) (v : V), (vs.map some)[i]? = some (some v) → (vs.map some ++ List.replicate (n - vs.length) none)[i]? = some (some v) := fun i v e => by
    have hi : i < (vs.map some).length := (List.getElem?_eq_some_iff.mp e).1
    rw [List.getElem?_append_left hi]; exact e
  have eg : ∀ (i : Nat) (s : Slot), (argsE n args)[i]? = some (some s) → (args.map some)[i]? = some (some s) := fun i s e => by
    have := getE e
    rw [List.getElem?_map, this]; rfl
  refine ⟨m.sub, by unfold argsE; simp [hl], fun i s e => ?_, fun i j p d p' d' a e1 e2 r1 r2 => ?_⟩
  · obtain ⟨v, e1, r⟩ := m.sl i s (eg i s e)
    refine ⟨v, sg i v e1, ?_⟩
    cases s with
    | shr d => exact r
    | own p d =>
      obtain ⟨a, rfl, c, hb, hp⟩ := r
      exact ⟨a, rfl, c, hb, fun z => sg i _ (hp z)⟩
  · have q : ∀ (i : Nat) (a : Addr), (vs.map some ++ List.replicate (n - vs.length) none)[i]? = some (some (V.ref a)) → (vs.map some)[i]? = some (some (V.ref a)) := fun i a e => by
      have := getE e
      rw [List.getElem?_map, this]; rfl
    exact m.sep i j p d p' d' a (eg i _ e1) (eg j _ e2) (q i a r1) (q j a r2)
theorem owned_start {vs : List V} {args : List Slot} {n : Nat} {a : Addr} (h : Owned (vs.map some ++ List.replicate (n - vs.length) none) (argsE n args) a) : Owned (vs.map some) (args.map some) a := by
  obtain ⟨i, p, d, e, r⟩ := h
  refine ⟨i, p, d, ?_, ?_⟩
  · have := getE e
    rw [List.getElem?_map, this]; rfl
  · have := getE r
    rw [List.getElem?_map, this]; rfl
end
section
variable {P : Program} {w : World} {K : PySem.W.Frag} {mg : Str → Option Value} {base : Heap}
/-- THE RULE for a def -/
theorem fn_m {x qual : Str} {st : Stmt} {f : Addr} {fd : FuncData} {N ps : List Str} {k : Nat} {m : M Fl} (F : Fun K x qual st f fd) (S : FnScope N ps (defScope st))
    (body : ∀ (cdv : Value) (A : Around) (outer : List PySem.Env) (s : Shared) (H : Hp) (E : XK), Room k (A.deeper (PyProof.Rows.envOfC qual (defScope st) s.heap.objs.size f cdv)) →
      ∃ ts, SSs (cxOf (L2.CX P w) P w K mg base N qual (defScope st) f cdv A outer s H E) (fun cls d _ H => E cls d H) (defBody st) ts m) :
    FnOk P w K mg base (L2.CX P w) (k + 1) f fd ps (SpM K mg ps.length (runF N.length m)) := by
  refine F.okX S (fun vs H Q E h => h.1) fun cdv A outer s H vs Q E hr h => ?_
  obtain ⟨hlen, B, args, sm, hpin, post⟩ := h
  obtain ⟨ts, hps, hrs⟩ := body cdv A outer s H E hr
  refine ⟨ts, hps, ?_⟩
  have hal : vs.length = args.length := by simpa using sm.len
  let c : Ent := ⟨B, B, H, Owned (vs.map some) (args.map some)⟩
  have sm0 := sm.start (n := N.length)
  have fr0 : Frm c (L2.start N vs) (argsE N.length args) B H := ⟨Same.refl _, Same.refl _, fun _ _ h => .inl h, fun _ _ h _ => h, fun _ o h => ⟨o, h⟩, fun i p d a e r => by
    have ho : Owned (vs.map some) (args.map some) a := owned_start (n := N.length) ⟨i, p, d, e, r⟩
    refine ⟨fun _ => ho, fun hp => ?_⟩
    have := hpin p d (List.mem_of_getElem? (getE e))
    rw [hp] at this; cases this⟩
  refine hrs c (L2.start N vs) B H (L2.start N vs) (argsE N.length args) sm0 fr0 _ ?_
  have stp : ∀ {σ' : L2.St} {env' : En} {B' H' : Hp}, Frm c σ' env' B' H' → Stp (Owned (vs.map some) (args.map some)) B H B' H' := fun fr => ⟨fr.grow, fr.new, fr.frame, fr.there⟩
  have outs : ∀ {σ' : L2.St} {env' : En} {B' H' : Hp} {os : List D}, Sm K mg (L2.start N vs) B' H' σ' env' → outsAt 0 args env' = some os → Outs K mg B' H' vs args os := fun sm' h => by
    refine outs_of sm' vs args 0 _ hal (fun j v e => ?_) h
    rw [Nat.zero_add]
    show (vs.map some ++ List.replicate (N.length - vs.length) none)[j]? = _
    have hj : j < (vs.map some).length := by simpa using (List.getElem?_eq_some_iff.mp e).1
    rw [List.getElem?_append_left hj, List.getElem?_map, e]
    rfl
  unfold runF at post
  cases e : m (argsE N.length args) with
  | stuck => rw [e] at post; exact post
  | exn x env' =>
    rw [e] at post
    cases e2 : outsAt 0 args env' with
    | none => simp only [e2] at post; exact post.elim
    | some os =>
      simp only [e2] at post
      exact fun cls d σ' B' H' sm' fr' ex => post cls d B' H' (stp fr') sm'.sub (outs sm' e2) ex
  | ok fl env' =>
    rw [e] at post
    cases fl with
    | bk => exact post.elim
    | ct => exact post.elim
    | nx =>
      cases e2 : outsAt 0 args env' with
      | none => simp only [e2] at post; exact post.elim
      | some os =>
        simp only [e2] at post
        exact fun σ' B' H' sm' fr' => post .non B' H' (stp fr') sm'.sub (outs sm' e2) .non
    | rt b d =>
      cases e2 : outsAt 0 args env' with
      | none => simp only [e2] at post; exact post.elim
      | some os =>
        simp only [e2] at post
        cases b with
        | false => exact fun v σ' B' H' sm' fr' r => post v B' H' (stp fr') sm'.sub (outs sm' e2) r
        | true => exact fun a σ' B' H' sm' fr' c1 hb h0 _ => post a B' H' (stp fr') sm'.sub (outs sm' e2) c1 hb h0
end

/-! ### calls -/
inductive Ar where
  | sh (d : D) | io (i : Nat)
inductive Ars (K : PySem.W.Frag) (mg : Str → Option Value) (σ : L2.St) (B : Hp) : List V → List Ar → Prop
  | nil : Ars K mg σ B [] []
  | sh {v : V} {d : D} {vs : List V} {as : List Ar} : Rep K mg B v d → Ars K mg σ B vs as → Ars K mg σ B (v :: vs) (.sh d :: as)
  | io {v : V} {i : Nat} {vs : List V} {as : List Ar} : σ[i]? = some (some v) → Ars K mg σ B vs as → Ars K mg σ B (v :: vs) (.io i :: as)
def RAr (K : PySem.W.Frag) (mg : Str → Option Value) : L2.St → Hp → List V → List Ar → Prop := fun σ B vs as => Ars K mg σ B vs as
structure SAr (X : Cx) (W : WX) (es : List Expr) (ta : TA) (m : M (List Ar)) : Prop where
  pa : PA X es ta
  rx : RX X.K X.mg W (RAr X.K X.mg) ta m
def rNil : M (List Ar) := M.pure []
def rSh (m : M D) (r : M (List Ar)) : M (List Ar) := m.bind fun a => r.bind fun as => M.pure (.sh a :: as)
def rIo (i : Nat) (r : M (List Ar)) : M (List Ar) := fun env => match getOwn env i with
  | some _ => (r.bind fun as => M.pure (.io i :: as)) env
  | none => .stuck
def slotsOf (env : En) : List Ar → Option (List Slot)
  | [] => some []
  | .sh d :: as => (slotsOf env as).map (.shr d :: ·)
  | .io i :: as => (getOwn env i).bind fun d => (slotsOf env as).map (.own true d :: ·)
def ioIx : List Ar → List Nat
  | [] => []
  | .sh _ :: as => ioIx as
  | .io i :: as => i :: ioIx as
def putOuts : List Ar → List D → En → Option En
  | [], [], env => some env
  | .sh _ :: as, os, env => putOuts as os env
  | .io i :: as, o :: os, env => match env[i]? with
    | some (some (.own p _)) => putOuts as os (env.set i (some (.own p o)))
    | _ => none
  | _, _, _ => none
def eCall (np : Nat) (mf : List Slot → Fin) (ma : M (List Ar)) : M D := ma.bind fun as env => if as.length = np ∧ (ioIx as).Nodup then match slotsOf env as with
    | none => .stuck
    | some args => match mf args with
      | .ret false d os => match putOuts as os env with
        | some env' => .ok d env'
        | none => .stuck
      | .exn x os => match putOuts as os env with
        | some env' => .exn x env'
        | none => .stuck
      | _ => .stuck
  else .stuck
def eCallN (np : Nat) (mf : List Slot → Fin) (ma : M (List Ar)) : M D := ma.bind fun as env => if as.length = np ∧ (ioIx as).Nodup then match slotsOf env as with
    | none => .stuck
    | some args => match mf args with
      | .ret true d os => match putOuts as os env with
        | some env' => .ok d env'
        | none => .stuck
      | .exn x os => match putOuts as os env with
        | some env' => .exn x env'
        | none => .stuck
      | _ => .stuck
  else .stuck
section
variable {X : Cx} {W : WX} {K : PySem.W.Frag} {mg : Str → Option Value} {e : Expr} {es : List Expr} {te : TE} {me : M D} {tr : TA} {mr : M (List Ar)} {pos pos' : Pos}
theorem Ars.mono {σ : L2.St} {B B' : Hp} (g : Same B B') : ∀ {vs : List V} {as : List Ar}, Ars K mg σ B vs as → Ars K mg σ B' vs as
  | _, _, .nil => .nil
  | _, _, .sh r s => .sh (r.mono g) (Ars.mono g s)
  | _, _, .io r s => .io r (Ars.mono g s)
theorem sr_nil : SAr X W [] tNil rNil := ⟨pa_nil, fun σ0 B H σ env sm Q post => post.val sm .nil⟩
theorem sr_sh (h : SE X W e te me) (r : SAr X W es tr mr) (hs : starEach (e :: es) X.env = (false, eval e X.env) :: starEach es X.env := by rfl) : SAr X W (e :: es) (tCons te tr) (rSh me mr) :=
  ⟨pa_cons h.pe r.pa hs, h.rx.bind2 (t3 := fun x xs σ H Q => Q (x :: xs) H) r.rx rd_monoR fun v w a b σ0 B H σ env sm r1 r2 Q post => post.val sm (.sh r1 r2)⟩
theorem sr_io (i : Nat) {x : Str} (r : SAr X W es tr mr) (hN : X.N[i]? = some x := by rfl) (hv : Vis X.env.scope x := by first | exact Or.inl rfl | exact Or.inr (Or.inl rfl) | exact Or.inr (Or.inr rfl)) (hd : (x == ("__debug__" : Str)) = false := by decide)
    (hcd : (x == ("__classdict__" : Str)) = false := by decide) (hs : starEach (.Name x pos' :: es) X.env = (false, eval (.Name x pos') X.env) :: starEach es X.env := by rfl) : SAr X W (.Name x pos' :: es) (tCons (tVar i) tr) (rIo i mr) := by
  refine ⟨pa_cons (pe_var hN hv hd hcd) r.pa hs, fun σ0 B H σ env sm Q post => ?_⟩
  unfold rIo at post
  cases e : getOwn env i with
  | none => rw [e] at post; exact post.elim
  | some d =>
    rw [e] at post
    obtain ⟨a, p, _, e1, _⟩ := sm.getOwn e
    refine ⟨.ref a, e1, ?_⟩
    exact r.rx.go sm post fun v as B1 H1 env1 sm1 g1 r1 post1 => post1.val sm1 (.io e1 r1)
/-- the callee's slots -/
theorem slots_of {σ : L2.St} {B H : Hp} {env : En} {σ0 : L2.St} (sm : Sm K mg σ0 B H σ env) : ∀ {vs : List V} {as : List Ar} {args : List Slot}, Ars K mg σ B vs as → slotsOf env as = some args →
    vs.length = args.length ∧ (∀ (i : Nat) (s : Slot), args[i]? = some s → ∃ v, vs[i]? = some v ∧ match s with
      | .shr d => Rep K mg B v d
      | .own p d => p = true ∧ ∃ j a p', as[i]? = some (.io j) ∧ v = .ref a ∧ σ[j]? = some (some v) ∧ env[j]? = some (some (.own p' d)) ∧ Cont K mg B H a d ∧ B a = none)
  | [], [], _, .nil, h => by cases h; exact ⟨rfl, fun i s e => by cases e⟩
  | v :: vs, .sh d :: as, args, .sh r rs, h => by
    have h : (slotsOf env as).map (.shr d :: ·) = some args := h
    cases e : slotsOf env as with
    | none => rw [e] at h; cases h
    | some args' =>
      rw [e] at h
      cases h
      obtain ⟨h1, h2⟩ := slots_of sm rs e
      refine ⟨by simp [h1], fun i s e => ?_⟩
      cases i with
      | zero => cases e; exact ⟨v, rfl, r⟩
      | succ i => exact h2 i s (by simpa using e)
  | v :: vs, .io j :: as, args, .io r rs, h => by
    have h : ((getOwn env j).bind fun d => (slotsOf env as).map (.own true d :: ·)) = some args := h
    cases e0 : getOwn env j with
    | none => rw [e0] at h; cases h
    | some d =>
      rw [e0] at h
      have h : (slotsOf env as).map (.own true d :: ·) = some args := h
      cases e : slotsOf env as with
      | none => rw [e] at h; cases h
      | some args' =>
        rw [e] at h
        cases h
        obtain ⟨h1, h2⟩ := slots_of sm rs e
        refine ⟨by simp [h1], fun i s e => ?_⟩
        cases i with
        | zero =>
          cases e
          obtain ⟨a, p, e1, e2, c, hb, _⟩ := sm.getOwn e0
          rw [r] at e2
          cases e2
          exact ⟨_, rfl, rfl, j, a, p, rfl, rfl, r, e1, c, hb⟩
        | succ i => exact h2 i s (by simpa using e)
theorem io_mem : ∀ {as : List Ar} {i j : Nat}, as[i]? = some (.io j) → j ∈ ioIx as
  | .sh _ :: as, 0, j, h => by cases h
  | .io _ :: as, 0, j, h => by cases h; exact List.mem_cons_self
  | .sh _ :: as, i + 1, j, h => io_mem (as := as) (i := i) (by simpa using h)
  | .io _ :: as, i + 1, j, h => List.mem_cons_of_mem _ (io_mem (as := as) (i := i) (by simpa using h))
theorem io_inj : ∀ {as : List Ar} {i i' j : Nat}, (ioIx as).Nodup → as[i]? = some (.io j) → as[i']? = some (.io j) → i = i'
  | [], i, i', j, _, h, _ => by cases h
  | .sh _ :: as, 0, _, j, _, h, _ => by cases h
  | .sh _ :: as, _, 0, j, _, _, h => by cases h
  | .io _ :: as, 0, 0, j, _, h, h' => rfl
  | .sh _ :: as, i + 1, i' + 1, j, hn, h, h' => by rw [io_inj (as := as) (i := i) (i' := i') hn (by simpa using h) (by simpa using h')]
  | .io k :: as, i + 1, i' + 1, j, hn, h, h' => by rw [io_inj (as := as) (i := i) (i' := i') (List.nodup_cons.mp hn).2 (by simpa using h) (by simpa using h')]
  | .io k :: as, 0, i' + 1, j, hn, h, h' => by
    cases h
    exact ((List.nodup_cons.mp hn).1 (io_mem (as := as) (i := i') (by simpa using h'))).elim
  | .io k :: as, i + 1, 0, j, hn, h, h' => by
    cases h'
    exact ((List.nodup_cons.mp hn).1 (io_mem (as := as) (i := i) (by simpa using h))).elim
theorem put_spec {σ : L2.St} {B B' H' : Hp} : ∀ {as : List Ar} {vs : List V} {args : List Slot} {env0 : En} {os : List D} {env env' : En}, Ars K mg σ B vs as → slotsOf env0 as = some args → Outs K mg B' H' vs args os → putOuts as os env = some env' →
    env'.length = env.length ∧ ∀ (j : Nat) (s : Slot), env'[j]? = some (some s) → (j ∉ ioIx as ∧ env[j]? = some (some s)) ∨ ∃ p d0 d, s = .own p d ∧ env[j]? = some (some (.own p d0)) ∧ ∃ a, σ[j]? = some (some (.ref a)) ∧ Cont K mg B' H' a d ∧ B' a = none
  | [], [], args, env0, os, env, env', .nil, hs, ho, hp => by
    cases hs
    cases os with
    | nil => cases hp; exact ⟨rfl, fun j s e => .inl ⟨by simp [ioIx], e⟩⟩
    | cons _ _ => exact ho.elim
  | .sh d :: as, v :: vs, args, env0, os, env, env', .sh r rs, hs, ho, hp => by
    have hs : (slotsOf env0 as).map (.shr d :: ·) = some args := hs
    cases e : slotsOf env0 as with
    | none => rw [e] at hs; cases hs
    | some args' =>
      rw [e] at hs
      cases hs
      exact put_spec (as := as) (vs := vs) (args := args') rs e ho hp
  | .io i :: as, v :: vs, args, env0, os, env, env', .io r rs, hs, ho, hp => by
    have hs : ((getOwn env0 i).bind fun d => (slotsOf env0 as).map (.own true d :: ·)) = some args := hs
    cases e0 : getOwn env0 i with
    | none => rw [e0] at hs; cases hs
    | some d =>
      rw [e0] at hs
      have hs : (slotsOf env0 as).map (.own true d :: ·) = some args := hs
      cases e : slotsOf env0 as with
      | none => rw [e] at hs; cases hs
      | some args' =>
        rw [e] at hs
        cases hs
        cases os with
        | nil => exact ho.elim
        | cons o os =>
          obtain ⟨⟨a, rfl, c, hb⟩, ho2⟩ := (show (∃ a, v = .ref a ∧ Cont K mg B' H' a o ∧ B' a = none) ∧ Outs K mg B' H' vs args' os from ho)
          unfold putOuts at hp
          cases e2 : env[i]? with
          | none => rw [e2] at hp; cases hp
          | some s =>
            rw [e2] at hp
            match s, e2, hp with
            | some (.own p dd), e2, hp =>
              obtain ⟨hl, ih⟩ := put_spec (as := as) (vs := vs) (args := args') rs e ho2 hp
              refine ⟨by rw [hl, List.length_set], fun j s ej => ?_⟩
              rcases ih j s ej with ⟨hn, ej⟩ | ⟨p', d0, d', rfl, ej, a', e4, c', hb'⟩
              · rcases get_set ej with ⟨rfl, z, _⟩ | ⟨ne, ej⟩
                · cases z
                  exact .inr ⟨p, dd, o, rfl, e2, a, r, c, hb⟩
                · refine .inl ⟨fun z => ?_, ej⟩
                  rcases List.mem_cons.mp z with z | z
                  · exact ne z.symm
                  · exact hn z
              · rcases get_set ej with ⟨rfl, z, _⟩ | ⟨ne, ej⟩
                · cases z
                  exact .inr ⟨p, dd, d', rfl, e2, a', e4, c', hb'⟩
                · exact .inr ⟨p', d0, d', rfl, ej, a', e4, c', hb'⟩
            | some (.shr _), e2, hp => cases hp
            | none, e2, hp => cases hp

/-- what a call needs, and what it gives back -/
theorem call_core {σ0 σ : L2.St} {B H : Hp} {env : En} (sm : Sm K mg σ0 B H σ env) {vs : List V} {as : List Ar} {args : List Slot} (r : Ars K mg σ B vs as) (hs : slotsOf env as = some args) (hn : (ioIx as).Nodup) :
    Sm K mg (vs.map some) B H (vs.map some) (args.map some) ∧ (∀ p d, Slot.own p d ∈ args → p = true) ∧ (∀ a, Owned (vs.map some) (args.map some) a → Owned σ env a) ∧
    ∀ os env', putOuts as os env = some env' → ∀ B' H', Stp (Owned (vs.map some) (args.map some)) B H B' H' → Sub B' H' → Outs K mg B' H' vs args os → Sm K mg σ0 B' H' σ env' ∧ OSub env env' := by
  obtain ⟨hl, hg⟩ := slots_of sm r hs
  have mapE : ∀ {α : Type} {l : List α} {i : Nat} {x : α}, (l.map some)[i]? = some (some x) → l[i]? = some x := fun {α l i x} h => by
    rw [List.getElem?_map] at h
    cases e : l[i]? with
    | none => rw [e] at h; cases h
    | some y => rw [e] at h; cases h; rfl
  have ow : ∀ a, Owned (vs.map some) (args.map some) a → ∃ (i j : Nat) (p' : Bool) (d : D), as[i]? = some (Ar.io j) ∧ σ[j]? = some (some (V.ref a)) ∧ env[j]? = some (some (Slot.own p' d)) := fun a ⟨i, p, d, e, rr⟩ => by
    obtain ⟨v, e1, hp, j, a', p', e2, e3, e4, e5, _⟩ := hg i _ (mapE e)
    have := mapE rr
    rw [e1] at this
    cases this
    exact ⟨i, j, p', d, e2, e4, e5⟩
  have ow2 : ∀ a, Owned (vs.map some) (args.map some) a → Owned σ env a := fun a h => by
    obtain ⟨i, j, p', d, _, e4, e5⟩ := ow a h
    exact ⟨j, p', d, e5, e4⟩
  refine ⟨⟨sm.sub, by simp [hl], fun i s e => ?_, fun i i' p d p' d' a e1 e2 r1 r2 => ?_⟩, fun p d hm => ?_, ow2, fun os env' hp B' H' stp sub outs => ?_⟩
  · obtain ⟨v, e1, h⟩ := hg i s (mapE e)
    refine ⟨v, by rw [List.getElem?_map, e1]; rfl, ?_⟩
    cases s with
    | shr d => exact h
    | own p d =>
      obtain ⟨hp, j, a, p', e2, rfl, e4, e5, c, hb⟩ := h
      exact ⟨a, rfl, c, hb, fun _ => by rw [List.getElem?_map, e1]; rfl⟩
  · obtain ⟨v1, f1, _, j1, a1, q1, g1, h1, k1, l1, _⟩ := hg i _ (mapE e1)
    obtain ⟨v2, f2, _, j2, a2, q2, g2, h2, k2, l2, _⟩ := hg i' _ (mapE e2)
    have z1 := mapE r1
    have z2 := mapE r2
    rw [f1] at z1; rw [f2] at z2
    cases z1; cases z2
    have hj : j1 = j2 := sm.sep j1 j2 _ _ _ _ a l1 l2 k1 k2
    subst hj
    exact io_inj hn g1 g2
  · obtain ⟨i, e⟩ := List.getElem?_of_mem hm
    obtain ⟨v, _, hp, _⟩ := hg i _ e
    exact hp
  · obtain ⟨hl', hput⟩ := put_spec r hs outs hp
    refine ⟨⟨sub, by rw [hl']; exact sm.len, fun j s e => ?_, fun j k p d p' d' a e1 e2 r1 r2 => ?_⟩, fun j p d e => ?_⟩
    · rcases hput j s e with ⟨hni, e0⟩ | ⟨p, d0, d, rfl, e0, a, e1, c, hb⟩
      · obtain ⟨v, e1, rr⟩ := sm.sl j s e0
        refine ⟨v, e1, ?_⟩
        cases s with
        | shr d => exact Rep.mono stp.grow rr
        | own p d =>
          obtain ⟨a, rfl, c, hb, hpin⟩ := rr
          have no : ¬ Owned (vs.map some) (args.map some) a := fun z => by
            obtain ⟨i, j', p', d', g1, g2, g3⟩ := ow a z
            have : j' = j := sm.sep j' j _ _ _ _ a g3 e0 g2 e1
            subst this
            exact hni (io_mem g1)
          obtain ⟨o, ho⟩ := c.there
          refine ⟨a, rfl, c.mono stp.grow (by rw [ho]; exact stp.frame a o ho no), ?_, hpin⟩
          cases q : B' a with
          | none => rfl
          | some u =>
            rcases stp.new a u q with z | z
            · rw [hb] at z; cases z
            · rw [ho] at z; cases z
      · obtain ⟨v, e2, a', rfl, c', hb', hpin⟩ := sm.sl j _ e0
        rw [e1] at e2
        cases e2
        exact ⟨.ref a, e1, a, rfl, c, hb, hpin⟩
    · have g : ∀ (j : Nat) (p : Bool) (d : D), env'[j]? = some (some (Slot.own p d)) → ∃ d0, env[j]? = some (some (Slot.own p d0)) := fun j p d e => by
        rcases hput j _ e with ⟨_, e0⟩ | ⟨p', d0, d', z, e0, _⟩
        · exact ⟨d, e0⟩
        · cases z; exact ⟨d0, e0⟩
      obtain ⟨d3, e3⟩ := g j p d e1
      obtain ⟨d4, e4⟩ := g k p' d' e2
      exact sm.sep j k p d3 p' d4 a e3 e4 r1 r2
    · rcases hput j _ e with ⟨_, e0⟩ | ⟨p', d0, d', z, e0, _⟩
      · exact ⟨d, e0⟩
      · cases z; exact ⟨d0, e0⟩
theorem Ars.length {σ : L2.St} {B : Hp} : ∀ {vs : List V} {as : List Ar}, Ars K mg σ B vs as → vs.length = as.length
  | _, _, .nil => rfl
  | _, _, .sh _ s => by simp [Ars.length s]
  | _, _, .io _ s => by simp [Ars.length s]
/-- what is raised in a def's body at E, in a try at W -/
theorem rx_call {np : Nat} {mf : List Slot → Fin} {E : L2.St → XK} (hE : ∀ σ cls d H, W cls d σ H → E σ cls d H) (h : RX K mg W (RAr K mg) tr mr) :
    RX K mg W (RD K mg) (tCallS (SpM K mg np mf) E tr) (eCall np mf mr) := by
  refine h.bind (t2 := fun vs σ H1 Q => SpM K mg np mf vs H1 Q (E σ)) fun vs as σ0 B H σ env sm r Q post => ?_
  by_cases hc : as.length = np ∧ (ioIx as).Nodup
  · rw [if_pos hc] at post
    cases es : slotsOf env as with
    | none => simp only [es] at post; exact post.elim
    | some args =>
      simp only [es] at post
      obtain ⟨sm', hpin, hown, hafter⟩ := call_core sm r es hc.2
      refine ⟨(Ars.length r).trans hc.1, B, args, sm', hpin, ?_⟩
      cases em : mf args with
      | stuck => simp only [em] at post; exact post.elim
      | ret b d os =>
        cases b with
        | true => simp only [em] at post; exact post.elim
        | false =>
          simp only [em] at post
          cases ep : putOuts as os env with
          | none => simp only [ep] at post; exact post.elim
          | some env' =>
            simp only [ep] at post
            intro v B' H' stp sub outs rep
            obtain ⟨sm2, os2⟩ := hafter os env' ep B' H' stp sub outs
            exact post v B' H' (stp.mono hown) sm2 os2 rep
      | exn x os =>
        simp only [em] at post
        cases ep : putOuts as os env with
        | none => simp only [ep] at post; exact post.elim
        | some env' =>
          simp only [ep] at post
          intro cls d B' H' stp sub outs ex
          obtain ⟨sm2, os2⟩ := hafter os env' ep B' H' stp sub outs
          exact hE _ _ _ _ (post cls d B' H' (stp.mono hown) sm2 os2 ex)
  · rw [if_neg hc] at post; exact post.elim
theorem rn_call {np : Nat} {mf : List Slot → Fin} {E : L2.St → XK} (hE : ∀ σ cls d H, W cls d σ H → E σ cls d H) (h : RX K mg W (RAr K mg) tr mr) :
    RN K mg W (tCallS (SpM K mg np mf) E tr) (eCallN np mf mr) := by
  intro σ0 B0 H0 σ env0 sm0 Q post0
  refine h.goN sm0 post0 fun vs as B H env sm g r post => ?_
  show SpM K mg np mf vs H Q (E σ)
  by_cases hc : as.length = np ∧ (ioIx as).Nodup
  · rw [if_pos hc] at post
    cases es : slotsOf env as with
    | none => simp only [es] at post; exact post.elim
    | some args =>
      simp only [es] at post
      obtain ⟨sm', hpin, hown, hafter⟩ := call_core sm r es hc.2
      refine ⟨(Ars.length r).trans hc.1, B, args, sm', hpin, ?_⟩
      cases em : mf args with
      | stuck => simp only [em] at post; exact post.elim
      | ret b d os =>
        cases b with
        | false => simp only [em] at post; exact post.elim
        | true =>
          simp only [em] at post
          cases ep : putOuts as os env with
          | none => simp only [ep] at post; exact post.elim
          | some env' =>
            simp only [ep] at post
            intro a B' H' stp sub outs c hb hn
            obtain ⟨sm2, os2⟩ := hafter os env' ep B' H' stp sub outs
            exact post a B' H' (stp.mono hown) sm2 os2 c hb hn
      | exn x os =>
        simp only [em] at post
        cases ep : putOuts as os env with
        | none => simp only [ep] at post; exact post.elim
        | some env' =>
          simp only [ep] at post
          intro cls d B' H' stp sub outs ex
          obtain ⟨sm2, os2⟩ := hafter os env' ep B' H' stp sub outs
          exact hE _ _ _ _ (post cls d B' H' (stp.mono hown) sm2 os2 ex)
  · rw [if_neg hc] at post; exact post.elim
section
variable {k : Nat} {f : Addr} {fd : FuncData} {ps : List Str} {x : Str} {p : Pos} {np : Nat} {mf : List Slot → Fin}
theorem se_call (F : FnOk X.prog X.w X.K X.mg X.base (L2.CX X.prog X.w) k f fd ps (SpM X.K X.mg np mf)) (hr : Room k X.A) (hm : X.mg x = some (.ref f)) (hk : PySem.W.keepIn X.K (.ref f) = true) (hb : Binds X.K fd ps []) (tk : Takes X W)
    (ha : SAr X W (e :: es) tr mr) (hg : Gl X x := by rfl) (hdb : (x == ("__debug__" : Str)) = false := by decide) (he : starEach (e :: es) X.env = (false, eval e X.env) :: starEach es X.env := by rfl) (hpl : (backTo pos (starEach es X.env)).any (·.1) = false := by rfl) :
    SE X W (.Call (.Name x p) (e :: es) [] pos) (tCallS (SpM X.K X.mg np mf) (WE W) tr) (eCall np mf mr) :=
  ⟨pe_callS F hr hg hm hk hb (fun σ => passAt tk σ) ha.pa hdb he hpl, rx_call (fun _ _ _ _ h => h) ha.rx⟩
theorem sn_call (F : FnOk X.prog X.w X.K X.mg X.base (L2.CX X.prog X.w) k f fd ps (SpM X.K X.mg np mf)) (hr : Room k X.A) (hm : X.mg x = some (.ref f)) (hk : PySem.W.keepIn X.K (.ref f) = true) (hb : Binds X.K fd ps []) (tk : Takes X W)
    (ha : SAr X W (e :: es) tr mr) (hg : Gl X x := by rfl) (hdb : (x == ("__debug__" : Str)) = false := by decide) (he : starEach (e :: es) X.env = (false, eval e X.env) :: starEach es X.env := by rfl) (hpl : (backTo pos (starEach es X.env)).any (·.1) = false := by rfl) :
    SN X W (.Call (.Name x p) (e :: es) [] pos) (tCallS (SpM X.K X.mg np mf) (WE W) tr) (eCallN np mf mr) :=
  ⟨pe_callS F hr hg hm hk hb (fun σ => passAt tk σ) ha.pa hdb he hpl, rn_call (fun _ _ _ _ h => h) ha.rx⟩
end
end
end Mi

/-! The mirror layer 9: list comprehensions. -/
namespace Mi
open PySem L2

def wipeE (env : En) : List Nat → En
  | [] => env
  | v :: vs => (wipeE env vs).set v none
/-- the slots vs as they were, if shared -/
def backE (env0 env : En) : List Nat → En
  | [] => env
  | v :: vs => (backE env0 env vs).set v (match env0[v]? with
    | some (some (.shr d)) => some (.shr d)
    | _ => none)
def lcL (g : D → En → Option En) (t : M Bool) (m : M D) (vs : List Nat) : List D → M (List D)
  | [], env => .ok [] env
  | x :: xs, env => match g x env with
    | none => .stuck
    | some env1 => match t env1 with
      | .ok false env2 => lcL g t m vs xs (wipeE env2 vs)
      | .ok true env2 => match m env2 with
        | .ok d env3 => match lcL g t m vs xs (wipeE env3 vs) with
          | .ok ds env4 => .ok (d :: ds) env4
          | _ => .stuck
        | _ => .stuck
      | _ => .stuck
def eLc (mi : M (List D)) (g : D → En → Option En) (t : M Bool) (m : M D) (vs : List Nat) : M D := mi.bind fun ds env => if ds.length ≤ 16777216 then match lcL g t m vs ds (wipeE env vs) with
    | .ok ys env' => .ok (.lst ys) (backE env env' vs)
    | _ => .stuck
  else .stuck
def W0 : WX := fun _ _ _ _ => False

section
variable {K : PySem.W.Frag} {mg : Str → Option Value} {σ0 σ : L2.St} {B H : Hp} {env : En}
theorem Sm.wipe (m : Sm K mg σ0 B H σ env) : ∀ vs : List Nat, Sm K mg σ0 B H (L2.wipe σ vs) (wipeE env vs)
  | [] => m
  | v :: vs => (Sm.wipe m vs).setNone v none
theorem wipeE_length (env : En) : ∀ vs : List Nat, (wipeE env vs).length = env.length
  | [] => rfl
  | v :: vs => by unfold wipeE; rw [List.length_set, wipeE_length env vs]
theorem wipeE_own {vs : List Nat} {i : Nat} {s : Slot} (h : (wipeE env vs)[i]? = some (some s)) : env[i]? = some (some s) ∧ i ∉ vs := by
  induction vs with
  | nil => exact ⟨h, by simp⟩
  | cons v vs ih =>
    unfold wipeE at h
    rcases get_set h with ⟨_, z, _⟩ | ⟨ne, e⟩
    · cases z
    · obtain ⟨h1, h2⟩ := ih e
      exact ⟨h1, fun z => by
        rcases List.mem_cons.mp z with z | z
        · exact ne z.symm
        · exact h2 z⟩
theorem wipe_get_ne {vs : List Nat} {i : Nat} (h : i ∉ vs) : (L2.wipe σ vs)[i]? = σ[i]? := by
  induction vs with
  | nil => rfl
  | cons v vs ih =>
    unfold L2.wipe
    rw [List.getElem?_set_ne (fun e => h (by rw [e]; exact List.mem_cons_self))]
    exact ih fun z => h (List.mem_cons_of_mem _ z)
theorem wipe_get_mem {vs : List Nat} {i : Nat} (h : i ∈ vs) (hl : i < σ.length) : (L2.wipe σ vs)[i]? = some none := by
  induction vs with
  | nil => cases h
  | cons v vs ih =>
    unfold L2.wipe
    by_cases e : v = i
    · subst e
      exact List.getElem?_set_self (by rw [wipe_length]; exact hl)
    · rw [List.getElem?_set_ne e]
      rcases List.mem_cons.mp h with z | z
      · exact (e z.symm).elim
      · exact ih z
/-- the target stored within the block: wiped it is what it was -/
theorem wipe_touch {σ' : L2.St} {T vs : List Nat} (hT : ∀ i ∈ T, i ∈ vs) (hl : σ'.length = σ.length) (h : ∀ i, i ∉ T → σ'[i]? = (L2.wipe σ vs)[i]?) : L2.wipe σ' vs = L2.wipe σ vs := by
  apply List.ext_getElem?
  intro i
  by_cases hv : i ∈ vs
  · by_cases hi : i < σ.length
    · rw [wipe_get_mem hv hi, wipe_get_mem hv (by rw [hl]; exact hi)]
    · rw [List.getElem?_eq_none (by rw [wipe_length]; omega), List.getElem?_eq_none (by rw [wipe_length]; omega)]
  · rw [wipe_get_ne hv, h i fun z => hv (hT i z)]
theorem wipe_wipe {vs : List Nat} : L2.wipe (L2.wipe σ vs) vs = L2.wipe σ vs := by
  apply List.ext_getElem?
  intro i
  by_cases hv : i ∈ vs
  · by_cases hi : i < σ.length
    · rw [wipe_get_mem hv hi, wipe_get_mem hv (by rw [wipe_length]; exact hi)]
    · rw [List.getElem?_eq_none (by rw [wipe_length, wipe_length]; omega), List.getElem?_eq_none (by rw [wipe_length]; omega)]
  · rw [wipe_get_ne hv]
theorem backE_length (env0 env : En) : ∀ vs : List Nat, (backE env0 env vs).length = env.length
  | [] => rfl
  | v :: vs => by unfold backE; rw [List.length_set, backE_length env0 env vs]
theorem backE_get {env0 env : En} {vs : List Nat} {i : Nat} {s : Slot} (h : (backE env0 env vs)[i]? = some (some s)) : (i ∉ vs ∧ env[i]? = some (some s)) ∨ (i ∈ vs ∧ env0[i]? = some (some s) ∧ ∃ d, s = .shr d) := by
  induction vs with
  | nil => exact .inl ⟨by simp, h⟩
  | cons v vs ih =>
    unfold backE at h
    rcases get_set h with ⟨rfl, z, _⟩ | ⟨ne, e⟩
    · refine .inr ⟨List.mem_cons_self, ?_⟩
      cases e0 : env0[v]? with
      | none => rw [e0] at z; cases z
      | some s0 =>
        rw [e0] at z
        match s0, e0, z with
        | some (.shr d), e0, z => cases z; exact ⟨rfl, d, rfl⟩
        | some (.own _ _), e0, z => cases z
        | none, e0, z => cases z
    · rcases ih e with ⟨h1, h2⟩ | ⟨h1, h2, h3⟩
      · exact .inl ⟨fun z => by
          rcases List.mem_cons.mp z with z | z
          · exact ne z.symm
          · exact h1 z, h2⟩
      · exact .inr ⟨List.mem_cons_of_mem _ h1, h2, h3⟩
theorem wipe_owned {vs : List Nat} {a : Addr} (h : Owned (L2.wipe σ vs) (wipeE env vs) a) : Owned σ env a := by
  obtain ⟨i, p, d, e, r⟩ := h
  obtain ⟨e1, hv⟩ := wipeE_own e
  exact ⟨i, p, d, e1, by rw [← wipe_get_ne hv]; exact r⟩
/-- behind the block -/
theorem Sm.back {vs : List Nat} {B' H' : Hp} {env' : En} (m0 : Sm K mg σ0 B H σ env) (m : Sm K mg σ0 B' H' (L2.wipe σ vs) env') (g : Same B B') (o : OSub (wipeE env vs) env') :
    Sm K mg σ0 B' H' σ (backE env env' vs) ∧ OSub env (backE env env' vs) := by
  refine ⟨⟨m.sub, by rw [backE_length, ← m.len, wipe_length], fun i s e => ?_, fun i j p d p' d' a e1 e2 r1 r2 => ?_⟩, fun i p d e => ?_⟩
  · rcases backE_get e with ⟨h1, h2⟩ | ⟨h1, h2, d, rfl⟩
    · obtain ⟨v, e1, r⟩ := m.sl i s h2
      exact ⟨v, by rw [← wipe_get_ne h1]; exact e1, r⟩
    · obtain ⟨v, e1, r⟩ := m0.sl i _ h2
      exact ⟨v, e1, Rep.mono g r⟩
  · rcases backE_get e1 with ⟨h1, h2⟩ | ⟨h1, h2, d, z⟩
    · rcases backE_get e2 with ⟨h3, h4⟩ | ⟨_, _, _, z⟩
      · exact m.sep i j p d p' d' a h2 h4 (by rw [wipe_get_ne h1]; exact r1) (by rw [wipe_get_ne h3]; exact r2)
      · cases z
    · cases z
  · rcases backE_get e with ⟨h1, h2⟩ | ⟨h1, h2, d, z⟩
    · obtain ⟨d0, e0⟩ := o i p d h2
      exact ⟨d0, (wipeE_own e0).1⟩
    · cases z
end
section
variable {K : PySem.W.Frag} {mg : Str → Option Value} {W : WX} {wi : TI} {mi : M (List D)} {T vs : List Nat} {g : TG} {gm : D → En → Option En} {tt : TT} {mt : M Bool} {te : TE} {me : M D}
theorem Stp.atD {O : Addr → Prop} {B H B' H' : Hp} {p : Addr} {o : HO} (s : Stp O B H B' H') (hp : H p = none) : Stp O B H B' (upd H' p o) :=
  ⟨s.grow, s.new, fun a u h n => by rw [upd_ne (ne_of_none h hp)]; exact s.frame a u h n, fun a u h => by rw [upd_ne (ne_of_none h hp)]; exact s.there a u h⟩
/-- an object that no slot holds changes -/
theorem Sm.atD {σ0 σ : L2.St} {B H : Hp} {env : En} {p : Addr} {o : HO} (m : Sm K mg σ0 B H σ env) (hb : B p = none) (hn : ¬ Owned σ env p) : Sm K mg σ0 B (upd H p o) σ env where
  sub := fun a u h => by rw [upd_ne (ne_of_none h hb)]; exact m.sub a u h
  len := m.len
  sl := fun i s e => by
    obtain ⟨v, e1, r⟩ := m.sl i s e
    refine ⟨v, e1, ?_⟩
    cases s with
    | shr d => exact r
    | own q d =>
      obtain ⟨a, rfl, c, hx, hp⟩ := r
      refine ⟨a, rfl, c.mono (Same.refl _) (upd_ne fun z => ?_), hx, hp⟩
      subst z
      exact hn ⟨i, q, d, e, e1⟩
  sep := m.sep
theorem rn_lc (hi : RX K mg W (RIt K mg) wi mi) (hg : RG K mg T g gm) (hT : ∀ i ∈ T, i ∈ vs) (ht : RX K mg W0 RB tt mt) (he : RX K mg W0 (RD K mg) te me) : RN K mg W (tLc wi g tt te vs) (eLc mi gm mt me vs) := by
  intro σ0 B H σ env sm Q post
  have hz : sizeLine = 16777216 := sizeLine_eq
  refine hi.goN sm post fun J ds B1 H1 env1 sm1 _ r1 post1 => ?_
  by_cases hds : ds.length ≤ 16777216
  · rw [if_pos hds] at post1
    cases el : lcL gm mt me vs ds (wipeE env1 vs) with
    | stuck => rw [el] at post1; exact post1.elim
    | exn x e => rw [el] at post1; exact post1.elim
    | ok total envF =>
      rw [el] at post1
      intro Dl hD
      have hB1 : B1 Dl = none := sm1.sub.none hD
      have hno : ∀ a, Owned σ env1 a → a ≠ Dl := fun a h z => by
        subst z
        obtain ⟨⟨o, ho⟩, _⟩ := sm1.own_there h
        rw [hD] at ho; cases ho
      have hnw : ∀ {env' : En} {a : Addr}, OSub (wipeE env1 vs) env' → Owned (L2.wipe σ vs) env' a → Owned σ env1 a := fun o h => wipe_owned (o.owned h)
      refine ⟨fun i m H' => m = ds.length - i ∧ i ≤ ds.length ∧ ∃ B' env' vacc acc ys, Sm K mg σ0 B' H' (L2.wipe σ vs) env' ∧ Stp (Owned σ env1) B1 H1 B' H' ∧ OSub (wipeE env1 vs) env' ∧ H' Dl = some (.lst vacc) ∧ Reps K mg B' vacc acc ∧ acc.length ≤ i ∧ B' Dl = none ∧
        lcL gm mt me vs (ds.drop i) env' = .ok ys envF ∧ total = acc ++ ys, ⟨ds.length, by omega, by omega, B1, wipeE env1 vs, [], [], total,
          (sm1.wipe vs).atD hB1 (fun z => hno _ (wipe_owned z) rfl), Stp.refl.atD hD, OSub.refl _, upd_same, .nil, by simp, hB1, el, rfl⟩, ?_⟩
      rintro i m H' ⟨rfl, hil, B', env', vacc, acc, ys, smw, stp, os, hDl, racc, hacc, hBD, hlc, htot⟩
      obtain ⟨hstop, hgo⟩ := r1 B' H' stp.grow smw.sub
      have nown : ∀ {e : En}, OSub (wipeE env1 vs) e → ¬ Owned (L2.wipe σ vs) e Dl := fun o z => hno _ (hnw o z) rfl
      by_cases hlt : i < ds.length
      · refine .inr ?_
        have hd : ds[i]? = some ds[i] := List.getElem?_eq_getElem hlt
        obtain ⟨go, yl⟩ := hgo i _ hd
        refine ⟨go, fun H2 => i + 1 ≤ ds.length ∧ ∃ B' env' vacc acc ys, Sm K mg σ0 B' H2 (L2.wipe σ vs) env' ∧ Stp (Owned σ env1) B1 H1 B' H2 ∧ OSub (wipeE env1 vs) env' ∧ H2 Dl = some (.lst vacc) ∧ Reps K mg B' vacc acc ∧ acc.length ≤ i + 1 ∧ B' Dl = none ∧
          lcL gm mt me vs (ds.drop (i + 1)) env' = .ok ys envF ∧ total = acc ++ ys, fun H2 ⟨h1, h2⟩ => ⟨ds.length - (i + 1), by omega, rfl, h1, h2⟩, fun x H2 hy => ?_⟩
        obtain ⟨B2, al, rx⟩ := yl x H2 hy
        have sm2 := smw.alloc al.g al.n al.s al.sb
        have stp2 : Stp (Owned σ env1) B1 H1 B2 H2 := stp.trans (Stp.alloc al.g al.n al.s) fun _ z => z
        have hD2 : H2 Dl = some (.lst vacc) := al.s _ _ hDl
        have hB2 : B2 Dl = none := by
          cases q : B2 Dl with
          | none => rfl
          | some u =>
            rcases al.n _ _ q with z | z
            · rw [hBD] at z; cases z
            · rw [hDl] at z; cases z
        have racc2 := racc.mono al.g
        rw [List.drop_eq_getElem_cons hlt] at hlc
        unfold lcL at hlc
        refine hg σ0 B2 H2 (L2.wipe σ vs) env' x _ sm2 rx _ ?_
        cases eg : gm ds[i] env' with
        | none => rw [eg] at hlc; cases hlc
        | some env2 =>
          rw [eg] at hlc
          intro σ2 smg keep touch
          have hw : L2.wipe σ2 vs = L2.wipe σ vs := wipe_touch hT (touch.1.trans (wipe_length _ _)) touch.2
          refine ⟨hw, ?_⟩
          have kow : ∀ {a : Addr}, Owned σ2 env2 a → Owned σ env1 a := fun z => hnw os (keep.owned z)
          have hlc : (match mt env2 with
            | .ok false env2 => lcL gm mt me vs (ds.drop (i + 1)) (wipeE env2 vs)
            | .ok true env2 => match me env2 with
              | .ok d env3 => match lcL gm mt me vs (ds.drop (i + 1)) (wipeE env3 vs) with
                | .ok ds env4 => Res.ok (d :: ds) env4
                | _ => Res.stuck
              | _ => Res.stuck
            | _ => Res.stuck) = Res.ok ys envF := hlc
          refine ht σ0 B2 H2 σ2 env2 smg _ ?_
          cases et : mt env2 with
          | stuck => rw [et] at hlc; cases hlc
          | exn x e => rw [et] at hlc; cases hlc
          | ok b env3 =>
            rw [et] at hlc
            intro b' B3 H3 s3 sm3 o3 r3
            have e : b' = b := r3
            subst e
            have stp3 : Stp (Owned σ env1) B1 H1 B3 H3 := stp2.trans s3 fun _ z => kow z
            have hD3 : H3 Dl = some (.lst vacc) := s3.frame _ _ hD2 fun z => hno _ (kow z) rfl
            have hB3 : B3 Dl = none := by
              cases q : B3 Dl with
              | none => rfl
              | some u =>
                rcases s3.new _ _ q with z | z
                · rw [hB2] at z; cases z
                · rw [hD2] at z; cases z
            have racc3 := racc2.mono s3.grow
            have k3 : Keep (L2.wipe σ vs) env' σ2 env3 := keep.trans o3.keep
            have next : ∀ {B4 H4 : Hp} {env4 : En}, Sm K mg σ0 B4 H4 σ2 env4 → Keep (L2.wipe σ vs) env' σ2 env4 → Sm K mg σ0 B4 H4 (L2.wipe σ vs) (wipeE env4 vs) ∧ OSub (wipeE env1 vs) (wipeE env4 vs) := fun {B4 H4 env4} m k => by
              refine ⟨by rw [← hw]; exact m.wipe vs, fun j p d e => ?_⟩
              obtain ⟨e1, _⟩ := wipeE_own e
              obtain ⟨d1, e2, _⟩ := k j p d e1
              exact os j p d1 e2
            cases b' with
            | false =>
              show _ ∧ _
              obtain ⟨n1, n2⟩ := next sm3 k3
              exact ⟨by omega, B3, wipeE env3 vs, vacc, acc, ys, n1, stp3, n2, hD3, racc3, by omega, hB3, hlc, htot⟩
            | true =>
              show te σ2 H3 _
              refine he σ0 B3 H3 σ2 env3 sm3 _ ?_
              have hlc : (match me env3 with
                | .ok d env3 => match lcL gm mt me vs (ds.drop (i + 1)) (wipeE env3 vs) with
                  | .ok ds env4 => Res.ok (d :: ds) env4
                  | _ => Res.stuck
                | _ => Res.stuck) = Res.ok ys envF := hlc
              cases ee : me env3 with
              | stuck => rw [ee] at hlc; cases hlc
              | exn x e => rw [ee] at hlc; cases hlc
              | ok d env4 =>
                rw [ee] at hlc
                intro y B4 H4 s4 sm4 o4 r4
                have hlc : (match lcL gm mt me vs (ds.drop (i + 1)) (wipeE env4 vs) with
                  | .ok ds env4 => Res.ok (d :: ds) env4
                  | _ => Res.stuck) = Res.ok ys envF := hlc
                cases er : lcL gm mt me vs (ds.drop (i + 1)) (wipeE env4 vs) with
                | stuck => rw [er] at hlc; cases hlc
                | exn x e => rw [er] at hlc; cases hlc
                | ok ys' envF' =>
                  rw [er] at hlc
                  cases hlc
                  have kow3 : ∀ {a : Addr}, Owned σ2 env3 a → Owned σ env1 a := fun z => hnw os (k3.owned z)
                  have stp4 : Stp (Owned σ env1) B1 H1 B4 H4 := stp3.trans s4 fun _ z => kow3 z
                  have hD4 : H4 Dl = some (.lst vacc) := s4.frame _ _ hD3 fun z => hno _ (kow3 z) rfl
                  have hB4 : B4 Dl = none := by
                    cases q : B4 Dl with
                    | none => rfl
                    | some u =>
                      rcases s4.new _ _ q with z | z
                      · rw [hB3] at z; cases z
                      · rw [hD3] at z; cases z
                  have racc4 := racc3.mono s4.grow
                  have k4 : Keep (L2.wipe σ vs) env' σ2 env4 := k3.trans o4.keep
                  refine ⟨vacc, hD4, by rw [racc4.length]; omega, by omega, B4, wipeE env4 vs, vacc ++ [y], acc ++ [d], ys', ?_, stp4.atD hD, (next sm4 k4).2, upd_same, racc4.append (.cons r4 .nil), by rw [List.length_append]; show acc.length + 1 ≤ i + 1; omega, hB4, er, by rw [htot, List.append_assoc]; rfl⟩
                  refine Sm.atD (next sm4 k4).1 hB4 fun z => ?_
                  exact hno _ (hnw (next sm4 k4).2 z) rfl
      · have e : i = ds.length := by omega
        subst e
        rw [List.drop_length] at hlc
        cases hlc
        rw [List.append_nil] at htot
        subst htot
        obtain ⟨smb, osb⟩ := sm1.back smw stp.grow os
        exact .inl ⟨hstop, post1 Dl B' H' stp smb osb (.lst hDl racc) hBD hD⟩
  · rw [if_neg hds] at post1; exact post1.elim
end
section
variable {X : Cx} {W : WX} {vs : List Nat} {elt tg iter c : Expr} {ifs : List Expr} {scope : Scope} {own : List (Str × Nat)} {pos spos : Pos} {wi : TI} {mi : M (List D)} {T : List Nat} {g : TG} {gm : D → En → Option En} {tt : TT} {mt : M Bool} {te : TE} {me : M D}
structure STs (X : Cx) (W : WX) (ifs : List Expr) (tt : TT) (m : M Bool) : Prop where
  pt : PTs X ifs tt
  rx : RX X.K X.mg W RB tt m
theorem sts_nil : STs X W [] tYes (M.pure true) := ⟨pts_nil, fun σ0 B H σ env sm Q post => post.val sm rfl⟩
theorem sts_one (h : ST X W c tt mt) : STs X W [c] tt mt := ⟨pts_one h.pt, h.rx⟩
theorem sn_lc (hc : X.calm = true) (hN : X.N.Nodup) (hi : SI X W tg iter wi mi) (ok : BlkOk X.N X.env.scope scope own)
    {fg : Shared → Hp → Addr → List (Str × Addr) → List Addr → TG} {ft : Shared → Hp → Addr → List (Str × Addr) → List Addr → TT} {fe : Shared → Hp → Addr → List (Str × Addr) → List Addr → TE} (hg : ∀ (s : Shared) (H : Hp) (C : Addr) (cl : List (Str × Addr)) (fp : List Addr), SG (X.blk s H scope (compEnvC scope cl C X.env) fp) tg T (fg s H C cl fp) gm) (ht : ∀ (s : Shared) (H : Hp) (C : Addr) (cl : List (Str × Addr)) (fp : List Addr), STs (X.blk s H scope (compEnvC scope cl C X.env) fp) W0 ifs (ft s H C cl fp) mt)
    (he : ∀ (s : Shared) (H : Hp) (C : Addr) (cl : List (Str × Addr)) (fp : List Addr), SE (X.blk s H scope (compEnvC scope cl C X.env) fp) W0 elt (fe s H C cl fp) me) (hT : ∀ i ∈ T, i ∈ vs) (hs : ∀ x, foldedSetIterable iter X.env x = pure x := by intro _; rfl) (hvs : own.map (·.2) = vs := by rfl)
    (hfg : ∀ (s : Shared) (H : Hp) (C : Addr) (cl : List (Str × Addr)) (fp : List Addr), fg s H C cl fp = fg X.s_0 X.H_0 0 [] [] := by intros; rfl) (hft : ∀ (s : Shared) (H : Hp) (C : Addr) (cl : List (Str × Addr)) (fp : List Addr), ft s H C cl fp = ft X.s_0 X.H_0 0 [] [] := by intros; rfl) (hfe : ∀ (s : Shared) (H : Hp) (C : Addr) (cl : List (Str × Addr)) (fp : List Addr), fe s H C cl fp = fe X.s_0 X.H_0 0 [] [] := by intros; rfl) :
    SN X W (.ListComp elt [⟨tg, iter, ifs, 0⟩] scope pos) (tLc wi (fg X.s_0 X.H_0 0 [] []) (ft X.s_0 X.H_0 0 [] []) (fe X.s_0 X.H_0 0 [] []) vs) (eLc mi gm mt me vs) := by
  subst hvs
  exact ⟨pe_lc hc hN hi.pi ok (fun s H C cl fp => by rw [← hfg s H C cl fp]; exact (hg s H C cl fp).pg) (fun s H C cl fp => by rw [← hft s H C cl fp]; exact (ht s H C cl fp).pt) (fun s H C cl fp => by rw [← hfe s H C cl fp]; exact (he s H C cl fp).pe) hs,
    rn_lc hi.rx (hg X.s_0 X.H_0 0 [] []).rg hT (ht X.s_0 X.H_0 0 [] []).rx (he X.s_0 X.H_0 0 [] []).rx⟩
/-- y = [..] on one line -/
theorem ss_setLcN {i : Nat} {y : Str} {py : Pos} (hc : X.calm = true) (hN : X.N.Nodup) (hy : X.N[i]? = some y) (hyl : X.env.scope.names.lookup y = some .local)
    (hsw : swapsWith (.ListComp elt [⟨tg, iter, ifs, 0⟩] scope pos) (some (.Name y py)) spos.line X.env = pure true) (hi : SI X W tg iter wi mi) (ok : BlkOk X.N X.env.scope scope own)
    {fg : Shared → Hp → Addr → List (Str × Addr) → List Addr → TG} {ft : Shared → Hp → Addr → List (Str × Addr) → List Addr → TT} {fe : Shared → Hp → Addr → List (Str × Addr) → List Addr → TE} (hg : ∀ (s : Shared) (H : Hp) (C : Addr) (cl : List (Str × Addr)) (fp : List Addr), SG (X.blk s H scope (compEnvC scope cl C X.env) fp) tg T (fg s H C cl fp) gm) (ht : ∀ (s : Shared) (H : Hp) (C : Addr) (cl : List (Str × Addr)) (fp : List Addr), STs (X.blk s H scope (compEnvC scope cl C X.env) fp) W0 ifs (ft s H C cl fp) mt)
    (he : ∀ (s : Shared) (H : Hp) (C : Addr) (cl : List (Str × Addr)) (fp : List Addr), SE (X.blk s H scope (compEnvC scope cl C X.env) fp) W0 elt (fe s H C cl fp) me) (hT : ∀ i ∈ T, i ∈ vs) (hs : ∀ x, foldedSetIterable iter X.env x = pure x := by intro _; rfl) (hvs : own.map (·.2) = vs := by rfl)
    (hfg : ∀ (s : Shared) (H : Hp) (C : Addr) (cl : List (Str × Addr)) (fp : List Addr), fg s H C cl fp = fg X.s_0 X.H_0 0 [] [] := by intros; rfl) (hft : ∀ (s : Shared) (H : Hp) (C : Addr) (cl : List (Str × Addr)) (fp : List Addr), ft s H C cl fp = ft X.s_0 X.H_0 0 [] [] := by intros; rfl) (hfe : ∀ (s : Shared) (H : Hp) (C : Addr) (cl : List (Str × Addr)) (fp : List Addr), fe s H C cl fp = fe X.s_0 X.H_0 0 [] [] := by intros; rfl) :
    SS X W (.Assign [.Name y py] (.ListComp elt [⟨tg, iter, ifs, 0⟩] scope pos) spos) (tAsg (tLc wi (fg X.s_0 X.H_0 0 [] []) (ft X.s_0 X.H_0 0 [] []) (fe X.s_0 X.H_0 0 [] []) vs) (gName i)) (mSetN i (eLc mi gm mt me vs)) := by
  subst hvs
  exact ⟨ps_setLc hc hN hy hyl hsw hi.pi ok (fun s H C cl fp => by rw [← hfg s H C cl fp]; exact (hg s H C cl fp).pg) (fun s H C cl fp => by rw [← hft s H C cl fp]; exact (ht s H C cl fp).pt) (fun s H C cl fp => by rw [← hfe s H C cl fp]; exact (he s H C cl fp).pe) hs,
    rs_setN (rn_lc hi.rx (hg X.s_0 X.H_0 0 [] []).rg hT (ht X.s_0 X.H_0 0 [] []).rx (he X.s_0 X.H_0 0 [] []).rx)⟩
theorem ss_setLc {i : Nat} {y : Str} {py : Pos} (hc : X.calm = true) (hN : X.N.Nodup) (hy : X.N[i]? = some y) (hyl : X.env.scope.names.lookup y = some .local)
    (hsw : swapsWith (.ListComp elt [⟨tg, iter, ifs, 0⟩] scope pos) (some (.Name y py)) spos.line X.env = pure true) (hi : SI X W tg iter wi mi) (ok : BlkOk X.N X.env.scope scope own)
    {fg : Shared → Hp → Addr → List (Str × Addr) → List Addr → TG} {ft : Shared → Hp → Addr → List (Str × Addr) → List Addr → TT} {fe : Shared → Hp → Addr → List (Str × Addr) → List Addr → TE} (hg : ∀ (s : Shared) (H : Hp) (C : Addr) (cl : List (Str × Addr)) (fp : List Addr), SG (X.blk s H scope (compEnvC scope cl C X.env) fp) tg T (fg s H C cl fp) gm) (ht : ∀ (s : Shared) (H : Hp) (C : Addr) (cl : List (Str × Addr)) (fp : List Addr), STs (X.blk s H scope (compEnvC scope cl C X.env) fp) W0 ifs (ft s H C cl fp) mt)
    (he : ∀ (s : Shared) (H : Hp) (C : Addr) (cl : List (Str × Addr)) (fp : List Addr), SE (X.blk s H scope (compEnvC scope cl C X.env) fp) W0 elt (fe s H C cl fp) me) (hT : ∀ i ∈ T, i ∈ vs) (hs : ∀ x, foldedSetIterable iter X.env x = pure x := by intro _; rfl) (hvs : own.map (·.2) = vs := by rfl)
    (hfg : ∀ (s : Shared) (H : Hp) (C : Addr) (cl : List (Str × Addr)) (fp : List Addr), fg s H C cl fp = fg X.s_0 X.H_0 0 [] [] := by intros; rfl) (hft : ∀ (s : Shared) (H : Hp) (C : Addr) (cl : List (Str × Addr)) (fp : List Addr), ft s H C cl fp = ft X.s_0 X.H_0 0 [] [] := by intros; rfl) (hfe : ∀ (s : Shared) (H : Hp) (C : Addr) (cl : List (Str × Addr)) (fp : List Addr), fe s H C cl fp = fe X.s_0 X.H_0 0 [] [] := by intros; rfl) :
    SS X W (.Assign [.Name y py] (.ListComp elt [⟨tg, iter, ifs, 0⟩] scope pos) spos) (tAsg (tLc wi (fg X.s_0 X.H_0 0 [] []) (ft X.s_0 X.H_0 0 [] []) (fe X.s_0 X.H_0 0 [] []) vs) (gName i)) (mSet i (eLc mi gm mt me vs)) := by
  subst hvs
  exact ⟨ps_setLc hc hN hy hyl hsw hi.pi ok (fun s H C cl fp => by rw [← hfg s H C cl fp]; exact (hg s H C cl fp).pg) (fun s H C cl fp => by rw [← hft s H C cl fp]; exact (ht s H C cl fp).pt) (fun s H C cl fp => by rw [← hfe s H C cl fp]; exact (he s H C cl fp).pe) hs,
    rs_set (rn_lc hi.rx (hg X.s_0 X.H_0 0 [] []).rg hT (ht X.s_0 X.H_0 0 [] []).rx (he X.s_0 X.H_0 0 [] []).rx).rx⟩
end
end Mi

/-! The mirror layer 10: built-ins, dicts, in, op=. -/
namespace Mi
open PySem L2

section
variable {X : Cx} {W : WX} {K : PySem.W.Frag} {mg : Str → Option Value} {e a b : Expr} {es : List Expr} {te ta tb : TE} {me ma mb : M D} {tr : TA} {mr : M (List D)} {pos pos' p : Pos}

/-! ### isinstance of a built-in type -/
def tyName : D → Option String
  | .non => some "NoneType"
  | .bl _ => some "bool"
  | .int _ => some "int"
  | .str _ => some "str"
  | .tup _ => some "tuple"
  | .ftp _ => some "tuple"
  | .lst _ => some "list"
  | .frz _ => some "list"
  | _ => none
def isTy (T : String) (d : D) : Option D := (tyName d).bind fun t => (kitB t T).map .bl
def eIsI (T : String) (m : M D) : M D := m.bind fun d => ofO (isTy T d)
theorem Rep.tyX {B H : Hp} {v : V} {d : D} {t : String} (s : Sub B H) (r : Rep K mg B v d) (h : tyName d = some t) : TyX K H v (.type t) := by
  cases r with
  | non => cases h; exact .base .non
  | bl b => cases h; exact .base (.bl b)
  | int b => cases h; exact .base (.int b)
  | str b => cases h; exact .base (.str b)
  | tup q r => cases h; exact .base (.tup (s.tup q))
  | ftp q r =>
    cases h
    rcases s.sqT q with (q | ⟨o, q⟩) | ⟨o, its, n, q, hc, _⟩
    · exact .base (.tup q)
    · exact .fTuple q
    · exact .kTuple q hc
  | lst q r => cases h; exact .base (.lst (s.lst q))
  | frz q r =>
    cases h
    rcases s.sqL q with (q | ⟨o, q⟩) | ⟨o, its, n, q, hc, _⟩
    · exact .base (.lst q)
    · exact .base (.frz q)
    · exact .kList q hc
  | dK _ _ _ => cases h
  | dT _ _ _ => cases h
  | ins _ _ _ _ => cases h
theorem se_isi (T : String) {x : Str} (h : SE X W e te me) (hm : X.mg "isinstance" = none) (hmT : X.mg x = none) (hv : bootBuiltins x = some (.type T)) (hg : Gl X "isinstance" := by rfl) (hgT : Gl X x := by rfl) (hn : x ≠ "__name__" := by decide) (hd : (x == ("__debug__" : Str)) = false := by decide)
    (hb : bootBuiltins "isinstance" = some (.builtin "isinstance") := by decide +kernel)
    (hs : starEach [e, .Name x p] X.env = (false, eval e X.env) :: starEach [.Name x p] X.env := by rfl) (hs2 : starEach [.Name x p] X.env = (false, eval (.Name x p) X.env) :: starEach [] X.env := by rfl) (hpl : (backTo pos (starEach [.Name x p] X.env)).any (·.1) = false := by rfl) :
    SE X W (.Call (.Name "isinstance" pos') [e, .Name x p] [] pos) (tCB (rIsi X.K) (tCons te (tCons (tC (.ty T)) tNil))) (eIsI T me) := by
  refine ⟨pe_callB call_isi hg hm hb (pa_cons h.pe (pa_cons (pe_bltn hgT hmT hv rfl hn hd) pa_nil hs2) hs) (by decide) (by decide) hs hpl, ?_⟩
  refine h.rx.bind (t2 := fun x σ H Q => rIsi X.K [x, .ty T] H Q) fun v d σ0 B H σ env sm r Q post => ?_
  cases e1 : isTy T d with
  | none => rw [e1] at post; exact post.elim
  | some z =>
    rw [e1] at post
    unfold isTy at e1
    cases e2 : tyName d with
    | none => rw [e2] at e1; cases e1
    | some t =>
      rw [e2] at e1
      have e1 : (kitB t T).map D.bl = some z := e1
      cases e3 : kitB t T with
      | none => rw [e3] at e1; cases e1
      | some c =>
        rw [e3] at e1
        cases e1
        exact ⟨v, .ty T, .type t, .type T, c, rfl, .ty T, Rep.tyX sm.sub r e2, kit_ty e3, post.val sm (Rep.bl _)⟩

/-! ### calls of built-ins by name -/
theorem sb_cb {x : Str} {id : String} {r : List V → Hp → VK → Prop} {f : List D → Option D} (hc : CallR X (.builtin id) r) (hf : RealC X.K X.mg r f) (hm : X.mg x = none) (ha : SA X W (e :: es) tr mr) (hv : bootBuiltins x = some (.builtin id) := by decide +kernel) (hg : Gl X x := by rfl) (hn : x ≠ "__name__" := by decide)
    (hdb : (x == ("__debug__" : Str)) = false := by decide) (he : starEach (e :: es) X.env = (false, eval e X.env) :: starEach es X.env := by rfl) (hpl : (backTo pos (starEach es X.env)).any (·.1) = false := by rfl) :
    SE X W (.Call (.Name x p) (e :: es) [] pos) (tCB r tr) (eCB f mr) := ⟨pe_callB hc hg hm hv ha.pa hn hdb he hpl, rx_cb hf ha.rx⟩
theorem sb_ty {x : Str} {T : String} {r : List V → Hp → VK → Prop} {f : List D → Option D} (hc : CallR X (.type T) r) (hf : RealC X.K X.mg r f) (hm : X.mg x = none) (ha : SA X W (e :: es) tr mr) (hv : bootBuiltins x = some (.type T) := by decide +kernel) (hg : Gl X x := by rfl) (hn : x ≠ "__name__" := by decide)
    (hdb : (x == ("__debug__" : Str)) = false := by decide) (he : starEach (e :: es) X.env = (false, eval e X.env) :: starEach es X.env := by rfl) (hpl : (backTo pos (starEach es X.env)).any (·.1) = false := by rfl) :
    SE X W (.Call (.Name x p) (e :: es) [] pos) (tCB r tr) (eCB f mr) := ⟨pe_callTy hc hg hm hv ha.pa hn hdb he hpl, rx_cb hf ha.rx⟩
def dInt : List D → Option D
  | [.int i] => some (.int i)
  | [.bl k] => some (.int (if k then 1 else 0))
  | _ => none
theorem re_int : RealC K mg (fun xs H Q => (∃ i, xs = [.int i] ∧ Q (.int i) H) ∨ ∃ k, xs = [.bl k] ∧ Q (.int (if k then 1 else 0)) H) dInt := by
  intro B H xs ds z s h1 e1 Q q
  unfold dInt at e1
  split at e1
  · cases e1
    match h1 with
    | .cons (.int i) .nil => exact .inl ⟨_, rfl, q _ B H (Al.refl s) (.int _)⟩
  · cases e1
    match h1 with
    | .cons (.bl i) .nil => exact .inr ⟨_, rfl, q _ B H (Al.refl s) (.int _)⟩
  · cases e1
def dStrI : List D → Option D
  | [.int i] => if i.natAbs.log2 < 1920 then some (.str (toString i)) else none
  | _ => none
theorem re_strI : RealC K mg (fun xs H Q => ∃ i, xs = [.int i] ∧ i.natAbs.log2 < 1920 ∧ Q (.str (toString i)) H) dStrI := by
  intro B H xs ds z s h1 e1 Q q
  unfold dStrI at e1
  split at e1
  · split at e1
    · rename_i hl
      cases e1
      match h1 with
      | .cons (.int i) .nil => exact ⟨_, rfl, hl, q _ B H (Al.refl s) (.str _)⟩
    · cases e1
  · cases e1
def dAbs : List D → Option D
  | [.int i] => some (.int (if i < 0 then -i else i))
  | _ => none
theorem re_abs : RealC K mg (fun xs H Q => ∃ i, xs = [.int i] ∧ Q (.int (if i < 0 then -i else i)) H) dAbs := by
  intro B H xs ds z s h1 e1 Q q
  unfold dAbs at e1
  split at e1
  · cases e1
    match h1 with
    | .cons (.int i) .nil => exact ⟨_, rfl, q _ B H (Al.refl s) (.int _)⟩
  · cases e1
def dMax2 : List D → Option D
  | [.int i, .int j] => some (.int (if j > i then j else i))
  | _ => none
theorem re_max2 : RealC K mg (fun xs H Q => ∃ i j, xs = [.int i, .int j] ∧ Q (.int (if j > i then j else i)) H) dMax2 := by
  intro B H xs ds z s h1 e1 Q q
  unfold dMax2 at e1
  split at e1
  · cases e1
    match h1 with
    | .cons (.int i) (.cons (.int j) .nil) => exact ⟨_, _, rfl, q _ B H (Al.refl s) (.int _)⟩
  · cases e1
def dMin2 : List D → Option D
  | [.int i, .int j] => some (.int (if j < i then j else i))
  | _ => none
theorem re_min2 : RealC K mg (fun xs H Q => ∃ i j, xs = [.int i, .int j] ∧ Q (.int (if j < i then j else i)) H) dMin2 := by
  intro B H xs ds z s h1 e1 Q q
  unfold dMin2 at e1
  split at e1
  · cases e1
    match h1 with
    | .cons (.int i) (.cons (.int j) .nil) => exact ⟨_, _, rfl, q _ B H (Al.refl s) (.int _)⟩
  · cases e1
/-- tuple(x) -/
def dTupOf : List D → Option D
  | [.lst xs] => some (.tup xs)
  | [.frz xs] => some (.tup xs)
  | [.tup xs] => some (.tup xs)
  | [.ftp xs] => some (.ftp xs)
  | _ => none
theorem re_tupOf : RealC K mg (fun xs H Q => ∃ p ys, xs = [.ref p] ∧ ((SqL K H p ys ∧ ∀ l, H l = none → Q (.ref l) (upd H l (.tup ys))) ∨ (SqT K H p ys ∧ Q (.ref p) H))) dTupOf := by
  intro B H xs ds z s h1 e1 Q q
  unfold dTupOf at e1
  split at e1
  · cases e1
    match h1 with
    | .cons (.lst p r) .nil => exact ⟨_, _, rfl, .inl ⟨.of (s.lst p), fun l hl => q _ _ _ (Al.upd s hl) (.tup upd_same (r.mono (Al.upd s hl).g))⟩⟩
  · cases e1
    match h1 with
    | .cons (.frz p r) .nil => exact ⟨_, _, rfl, .inl ⟨s.sqL p, fun l hl => q _ _ _ (Al.upd s hl) (.tup upd_same (r.mono (Al.upd s hl).g))⟩⟩
  · cases e1
    match h1 with
    | .cons (.tup p r) .nil => exact ⟨_, _, rfl, .inr ⟨.of (s.tup p), q _ B H (Al.refl s) (.tup p r)⟩⟩
  · cases e1
    match h1 with
    | .cons (.ftp p r) .nil => exact ⟨_, _, rfl, .inr ⟨s.sqT p, q _ B H (Al.refl s) (.ftp p r)⟩⟩
  · cases e1
/-- tuple(x), x a slot's own list -/
def eTupO (i : Nat) : M D := fun env => match getOwnL env i with
  | some xs => .ok (.tup xs) env
  | none => .stuck
theorem rx_tupO {i : Nat} : RX K mg W (RD K mg) (tCB (fun xs H Q => ∃ p ys, xs = [.ref p] ∧ ((SqL K H p ys ∧ ∀ l, H l = none → Q (.ref l) (upd H l (.tup ys))) ∨ (SqT K H p ys ∧ Q (.ref p) H))) (tCons (tVar i) tNil)) (eTupO i) := by
  intro σ0 B H σ env sm Q post
  unfold eTupO at post
  cases e : getOwnL env i with
  | none => rw [e] at post; exact post.elim
  | some xs =>
    rw [e] at post
    obtain ⟨a, p, _, e1, c, _⟩ := sm.getOwn (getOwnL_some e)
    obtain ⟨vs, hl, rs⟩ := c.lst_inv
    exact ⟨_, e1, _, _, rfl, .inl ⟨.of hl, fun l hn => post.al sm (Al.upd sm.sub hn) (.tup upd_same (rs.mono (Al.upd sm.sub hn).g))⟩⟩
/-- list(x): new -/
def dListOf : D → Option D
  | .lst xs => some (.lst xs)
  | .frz xs => some (.lst xs)
  | .tup xs => some (.lst xs)
  | .ftp xs => some (.lst xs)
  | _ => none
theorem rn_listOf (h : RX K mg W (RD K mg) te me) : RN K mg W (tCB (fun xs H Q => ∃ p ys, xs = [.ref p] ∧ (SqL K H p ys ∨ SqT K H p ys) ∧ ∀ l, H l = none → Q (.ref l) (upd H l (.lst ys))) (tCons te tNil)) (me.bind fun d => ofO (dListOf d)) := by
  intro σ0 B H σ env sm Q post
  refine h.goN sm post fun v d B1 H1 env1 sm1 g1 r1 post1 => ?_
  cases e1 : dListOf d with
  | none => rw [e1] at post1; exact post1.elim
  | some z =>
    rw [e1] at post1
    cases r1 with
    | lst p r => cases e1; exact ⟨_, _, rfl, .inl (.of (sm1.sub.lst p)), fun l hl => post1.new sm1 hl (.lst upd_same r)⟩
    | frz p r => cases e1; exact ⟨_, _, rfl, .inl (sm1.sub.sqL p), fun l hl => post1.new sm1 hl (.lst upd_same r)⟩
    | tup p r => cases e1; exact ⟨_, _, rfl, .inr (.of (sm1.sub.tup p)), fun l hl => post1.new sm1 hl (.lst upd_same r)⟩
    | ftp p r => cases e1; exact ⟨_, _, rfl, .inr (sm1.sub.sqT p), fun l hl => post1.new sm1 hl (.lst upd_same r)⟩
    | _ => cases e1

/-! ### join -/
def strsOf : List D → Option (List Str)
  | [] => some []
  | .str x :: ds => (strsOf ds).map (x :: ·)
  | _ :: _ => none
theorem strs_rep {B : Hp} : ∀ {vs : List V} {ds : List D} {ys : List Str}, strsOf ds = some ys → Reps K mg B vs ds → vs = ys.map V.str
  | [], [], _, h, .nil => by cases h; rfl
  | v :: vs, .str x :: ds, ys, h, .cons r rs => by
    have h : (strsOf ds).map (x :: ·) = some ys := h
    cases e : strsOf ds with
    | none => rw [e] at h; cases h
    | some ys' =>
      rw [e] at h
      cases h
      cases r
      rw [List.map_cons, ← strs_rep e rs]
def strsD : D → Option (List Str)
  | .lst ds => strsOf ds
  | .frz ds => strsOf ds
  | .tup ds => strsOf ds
  | .ftp ds => strsOf ds
  | _ => none
def joinY (a : Str) (ys : List Str) : Option D := if (ys.map Str.length).sum + ys.length * a.length ≤ 16777216 then some (.str (PySem.Txt.join a ys)) else none
def joinD (a : Str) (d : D) : Option D := (strsD d).bind (joinY a)
def eJoin (ma mb : M D) : M D := ma.bind fun d => match d with
  | .str a => mb.bind fun c => ofO (joinD a c)
  | _ => fun _ => .stuck
def rJoin (K : PySem.W.Frag) : V → List V → Hp → VK → Prop := fun x xs H Q => ∃ a p, ∃ ys : List Str, x = .str a ∧ xs = [.ref p] ∧ (SqL K H p (ys.map V.str) ∨ SqT K H p (ys.map V.str)) ∧
      (ys.map (·.length)).sum + ys.length * a.length ≤ 16777216 ∧ Q (.str (PySem.Txt.join a ys)) H
theorem rx_join (ha : RX K mg W (RD K mg) ta ma) (hb : RX K mg W (RD K mg) tb mb) : RX K mg W (RD K mg) (tM1 (rJoin K) ta tb) (eJoin ma mb) := by
  refine ha.bind (t2 := fun x σ H1 (Q : VK) => (∃ a, x = V.str a) ∧ tb σ H1 fun y H2 => rJoin K x [y] H2 Q) fun v d σ0 B H σ env sm r Q post => ?_
  have hd : ∃ a, d = .str a := by
    cases d <;> first | exact ⟨_, rfl⟩ | exact post.elim
  obtain ⟨a, rfl⟩ := hd
  cases r
  refine ⟨⟨a, rfl⟩, ?_⟩
  refine hb.go sm post fun w c B1 H1 env1 sm1 g1 r1 post1 => ?_
  have fin : ∀ {ds : List D} {vs : List V} {q : Addr}, (SqL K H1 q vs ∨ SqT K H1 q vs) → Reps K mg B1 vs ds → Post K mg W (RD K mg) σ0 σ env1 B1 H1 (ofO ((strsOf ds).bind (joinY a)) env1) Q → rJoin K (.str a) [.ref q] H1 Q := fun {ds vs q} hq rs pst => by
    cases e : strsOf ds with
    | none => rw [e] at pst; exact pst.elim
    | some ys =>
      rw [e] at pst
      have := strs_rep e rs
      subst this
      have pst : Post K mg W (RD K mg) σ0 σ env1 B1 H1 (ofO (joinY a ys) env1) Q := pst
      unfold joinY at pst
      by_cases hs : (ys.map Str.length).sum + ys.length * a.length ≤ 16777216
      · rw [if_pos hs] at pst
        exact ⟨a, q, ys, rfl, rfl, hq, hs, pst.val sm1 (Rep.str _)⟩
      · rw [if_neg hs] at pst; exact pst.elim
  cases r1 with
  | lst p r => exact fin (.inl (.of (sm1.sub.lst p))) r post1
  | frz p r => exact fin (.inl (sm1.sub.sqL p)) r post1
  | tup p r => exact fin (.inr (.of (sm1.sub.tup p))) r post1
  | ftp p r => exact fin (.inr (sm1.sub.sqT p)) r post1
  | _ => exact post1.elim
theorem se_join {apos : Pos} (ha : SE X W a ta ma) (hb : SE X W b tb mb) (hs : starEach [b] X.env = [(false, eval b X.env)] := by rfl) (hbase : attributeBase a "join" X.env (eval a X.env) = eval a X.env := by rfl) (hline : (apos.endLine == pos.line) = true := by rfl) :
    SE X W (.Call (.Attribute a "join" apos) [b] [] pos) (tM1 (rJoin X.K) ta tb) (eJoin ma mb) := ⟨pe_join ha.pe hb.pe hs hbase hline, rx_join ha.rx hb.rx⟩

/-! ### dicts -/
def eDGet (ma mb : M D) : M D := eOp (fun d k => (dGet d k).bind id) ma mb
theorem rx_dget (ha : RX K mg W (RD K mg) ta ma) (hb : RX K mg W (RD K mg) tb mb) : RX K mg W (RD K mg) (tDGet ta tb) (eDGet ma mb) :=
  ha.map2 (t3 := fun x y H2 (Q : VK) => ∃ a v, x = .ref a ∧ DGet H2 a y (some v) ∧ Q v H2) hb rd_monoR fun v w d k z σ B H s r1 r2 e Q q => by
    cases e1 : dGet d k with
    | none => rw [e1] at e; cases e
    | some o =>
      rw [e1] at e
      have e : o = some z := e
      subst e
      have hv : ∃ a, v = .ref a := by
        cases r1 <;> first | exact ⟨_, rfl⟩ | cases e1
      obtain ⟨a, rfl⟩ := hv
      obtain ⟨ov, hg, ho⟩ := dGet_rep s r1 r2 e1
      rcases ho with ⟨_, z'⟩ | ⟨u, z', rfl, ez, rr⟩
      · cases z'
      · cases ez
        exact ⟨a, u, rfl, hg, q u B H (Al.refl s) rr⟩
theorem se_dget (hu : X.A.units + 1 < cLine) (ha : SE X W a ta ma) (hb : SE X W b tb mb) (hs : NoSl b := by exact fun _ _ => rfl) : SE X W (.Subscript a b pos) (tDGet ta tb) (eDGet ma mb) := ⟨pe_dget hu ha.pe hb.pe hs, rx_dget ha.rx hb.rx⟩
theorem dGet_cont {B H : Hp} {q : Addr} {y : V} {d k : D} {o : Option D} (s : Sub B H) (c : Cont K mg B H q d) (r : Rep K mg B y k) (e : dGet d k = some o) :
    ∃ ov, DGet H q y ov ∧ ((ov = none ∧ o = none) ∨ ∃ v z, ov = some v ∧ o = some z ∧ Rep K mg B v z) := by
  cases d with
  | dK kvs =>
    have e : (toKey k).map (dLook kvs) = some o := e
    cases c with
    | @dK vs _ p q rs =>
      cases e1 : toKey k with
      | none => rw [e1] at e; cases e
      | some kk =>
        rw [e1] at e
        cases e
        have := toKey_rep e1 r
        subst this
        exact ⟨valV vs kk, .inl ⟨vs, kk, .inl p, rfl, rfl⟩, RKv.look ⟨q, rs⟩ kk⟩
  | dT kvs =>
    cases k with
    | tup ks =>
      have e : (toKeys ks).map (dLook kvs) = some o := e
      cases c with
      | @dT vs _ p q rs =>
        cases r with
        | tup p2 rs2 =>
          cases e1 : toKeys ks with
          | none => rw [e1] at e; cases e
          | some kk =>
            rw [e1] at e
            cases e
            have := toKeys_rep e1 rs2
            subst this
            exact ⟨valV vs kk, .inr ⟨vs, kk, _, .inl p, rfl, s.tup p2, rfl⟩, RKv.look ⟨q, rs⟩ kk⟩
    | _ => cases e
  | _ => cases e
def eDGetO (i : Nat) (mb : M D) : M D := fun env => match getOwn env i with
  | some _ => (mb.bind fun k env' => match (getOwn env' i).bind fun d => (dGet d k).bind id with
    | some z => .ok z env'
    | none => .stuck) env
  | none => .stuck
theorem rx_dgetO {i : Nat} (hb : RX K mg W (RD K mg) tb mb) : RX K mg W (RD K mg) (tDGet (tVar i) tb) (eDGetO i mb) := by
  intro σ0 B H σ env sm Q post
  unfold eDGetO at post
  cases e : getOwn env i with
  | none => rw [e] at post; exact post.elim
  | some d =>
    rw [e] at post
    obtain ⟨q, p, _, e1, _⟩ := sm.getOwn e
    refine ⟨.ref q, e1, ?_⟩
    refine hb.go sm post fun y k B1 H1 env1 sm1 g1 r1 post1 => ?_
    cases e2 : getOwn env1 i with
    | none => rw [e2] at post1; exact post1.elim
    | some d1 =>
      rw [e2] at post1
      obtain ⟨q', p', _, e3, c, _⟩ := sm1.getOwn e2
      rw [e1] at e3
      cases e3
      cases e4 : dGet d1 k with
      | none =>
        have post1 : Post K mg W (RD K mg) σ0 σ env1 B1 H1 (match ((dGet d1 k).bind id) with | some z => .ok z env1 | none => .stuck) Q := post1
        rw [e4] at post1; exact post1.elim
      | some o =>
        have post1 : Post K mg W (RD K mg) σ0 σ env1 B1 H1 (match ((dGet d1 k).bind id) with | some z => .ok z env1 | none => .stuck) Q := post1
        rw [e4] at post1
        obtain ⟨ov, hg, ho⟩ := dGet_cont sm1.sub c r1 e4
        rcases ho with ⟨_, rfl⟩ | ⟨u, z', rfl, rfl, rr⟩
        · exact post1.elim
        · exact ⟨q, u, rfl, hg, post1.val sm1 rr⟩
theorem se_dgetO {x : Str} (i : Nat) (hu : X.A.units + 1 < cLine) (hb : SE X W b tb mb) (hs : NoSl b := by exact fun _ _ => rfl) (hN : X.N[i]? = some x := by rfl) (hv : Vis X.env.scope x := by first | exact Or.inl rfl | exact Or.inr (Or.inl rfl) | exact Or.inr (Or.inr rfl)) (hd : (x == ("__debug__" : Str)) = false := by decide)
    (hcd : (x == ("__classdict__" : Str)) = false := by decide) : SE X W (.Subscript (.Name x pos') b pos) (tDGet (tVar i) tb) (eDGetO i mb) := ⟨pe_dget hu (pe_var hN hv hd hcd) hb.pe hs, rx_dgetO hb.rx⟩
/-- d[k] = v, d a slot's own dict -/
def dPut : D → D → D → Option D
  | .dK kvs, k, v => (toKey k).bind fun k => if kvs.length < 16777216 then some (.dK (dPutL kvs k v)) else none
  | .dT kvs, .tup ks, v => (toKeys ks).bind fun k => if kvs.length < 16777216 then some (.dT (dPutL kvs k v)) else none
  | _, _, _ => none
theorem dPut_cont {B H : Hp} {q : Addr} {y u : V} {d k z d' : D} (s : Sub B H) (c : Cont K mg B H q d) (r : Rep K mg B y k) (rz : Rep K mg B u z) (e : dPut d k z = some d') : ∃ o, DPut H q y u (upd H q o) ∧ Cont K mg B (upd H q o) q d' := by
  have hz : sizeLine = 16777216 := sizeLine_eq
  cases d with
  | dK kvs =>
    have e : ((toKey k).bind fun k => if kvs.length < 16777216 then some (D.dK (dPutL kvs k z)) else none) = some d' := e
    cases c with
    | @dK vs _ p qq rs =>
      cases e1 : toKey k with
      | none => rw [e1] at e; cases e
      | some kk =>
        rw [e1] at e
        have e : (if kvs.length < 16777216 then some (D.dK (dPutL kvs kk z)) else none) = some d' := e
        by_cases hl : kvs.length < 16777216
        · rw [if_pos hl] at e
          cases e
          have := toKey_rep e1 r
          subst this
          have rk : RKv K mg B vs kvs := ⟨qq, rs⟩
          have rp := rk.put kk rz
          exact ⟨_, .inl ⟨vs, kk, p, rfl, by rw [rk.length]; omega, rfl⟩, .dK upd_same rp.1 rp.2⟩
        · rw [if_neg hl] at e; cases e
  | dT kvs =>
    cases k with
    | tup ks =>
      have e : ((toKeys ks).bind fun k => if kvs.length < 16777216 then some (D.dT (dPutL kvs k z)) else none) = some d' := e
      cases c with
      | @dT vs _ p qq rs =>
        cases r with
        | tup p2 rs2 =>
          cases e1 : toKeys ks with
          | none => rw [e1] at e; cases e
          | some kk =>
            rw [e1] at e
            have e : (if kvs.length < 16777216 then some (D.dT (dPutL kvs kk z)) else none) = some d' := e
            by_cases hl : kvs.length < 16777216
            · rw [if_pos hl] at e
              cases e
              have := toKeys_rep e1 rs2
              subst this
              have rk : RKv K mg B vs kvs := ⟨qq, rs⟩
              have rp := rk.put kk rz
              exact ⟨_, .inr ⟨vs, kk, _, p, rfl, s.tup p2, by rw [rk.length]; omega, rfl⟩, .dT upd_same rp.1 rp.2⟩
            · rw [if_neg hl] at e; cases e
    | _ => cases e
  | _ => cases e
/-- the value, then the key -/
def mPut (i : Nat) (mk mv : M D) : M Fl := mv.bind fun v env => match getOwn env i with
  | some _ => (mk.bind fun k env' => match env'[i]? with
    | some (some (.own p d)) => match dPut d k v with
      | some d' => .ok .nx (env'.set i (some (.own p d')))
      | none => .stuck
    | _ => .stuck) env
  | none => .stuck
theorem rs_put {i : Nat} {tv tk : TE} {mv mk : M D} (hv : RX K mg W (RD K mg) tv mv) (hk : RX K mg W (RD K mg) tk mk) : RS K mg W (sDPut (tVar i) tk tv) (mPut i mk mv) := by
  intro c σ0 B H σ env sm fr D post
  refine hv.goS sm fr post fun v z B1 H1 env1 sm1 fr1 _ r1 post1 => ?_
  cases e : getOwn env1 i with
  | none => rw [e] at post1; exact post1.elim
  | some d0 =>
    rw [e] at post1
    obtain ⟨q, p, _, e1, _⟩ := sm1.getOwn e
    refine ⟨.ref q, e1, ?_⟩
    refine hk.goS sm1 fr1 post1 fun y k B2 H2 env2 sm2 fr2 g2 r2 post2 => ?_
    cases e2 : env2[i]? with
    | none => rw [e2] at post2; exact post2.elim
    | some s =>
      rw [e2] at post2
      match s, e2, post2 with
      | some (.own p d), e2, post2 =>
        have post2 : PostS K mg W c σ0 (match dPut d k z with | some d' => .ok .nx (env2.set i (some (.own p d'))) | none => .stuck) D := post2
        cases e3 : dPut d k z with
        | none => rw [e3] at post2; exact post2.elim
        | some d' =>
          rw [e3] at post2
          obtain ⟨v', e4, a', rfl, c2, hb, hp⟩ := sm2.sl i _ e2
          rw [e1] at e4
          cases e4
          obtain ⟨o, hput, c3⟩ := dPut_cont sm2.sub c2 r2 (r1.mono g2) e3
          exact ⟨q, _, rfl, hput, post2 σ B2 _ (sm2.write e2 e1 c3) (fr2.step (stp_write e2 e1) (osub_write e2).keep)⟩
theorem ss_put {x : Str} {v k : Expr} {tv tk : TE} {mv mk : M D} (i : Nat) (hu : X.A.units + 1 < cLine) (hv : SE X W v tv mv) (hk : SE X W k tk mk) (hN : X.N[i]? = some x := by rfl) (hvis : Vis X.env.scope x := by first | exact Or.inl rfl | exact Or.inr (Or.inl rfl) | exact Or.inr (Or.inr rfl)) (hd : (x == ("__debug__" : Str)) = false := by decide)
    (hcd : (x == ("__classdict__" : Str)) = false := by decide) {p1 p2 : Pos} (hs : swapsWith v (some (.Subscript (.Name x p2) k p1)) pos.line X.env = pure false := by rfl) : SS X W (.Assign [.Subscript (.Name x p2) k p1] v pos) (sDPut (tVar i) tk tv) (mPut i mk mv) :=
  ⟨ps_dput hu (pe_var hN hvis hd hcd) hk.pe hv.pe hs, rs_put hv.rx hk.rx⟩
/-- xs[i] = v, xs a slot's own list -/
def mPutL (i : Nat) (mk mv : M D) : M Fl := mv.bind fun v env => match getOwn env i with
  | some _ => (mk.bind fun k env' => match env'[i]?, k with
    | some (some (.own p (.lst xs))), .int j => match ixN xs.length j with
      | some n => .ok .nx (env'.set i (some (.own p (.lst (xs.set n v)))))
      | none => .stuck
    | _, _ => .stuck) env
  | none => .stuck
theorem rs_putL {i : Nat} {tv tk : TE} {mv mk : M D} (hv : RX K mg W (RD K mg) tv mv) (hk : RX K mg W (RD K mg) tk mk) : RS K mg W (tAsg tv (gSub (tVar i) tk rSetL)) (mPutL i mk mv) := by
  intro c σ0 B H σ env sm fr D post
  refine hv.goS sm fr post fun v z B1 H1 env1 sm1 fr1 _ r1 post1 => ?_
  cases e : getOwn env1 i with
  | none => rw [e] at post1; exact post1.elim
  | some d0 =>
    rw [e] at post1
    obtain ⟨q, p, _, e1, _⟩ := sm1.getOwn e
    refine ⟨.ref q, e1, ?_⟩
    refine hk.goS sm1 fr1 post1 fun y k B2 H2 env2 sm2 fr2 g2 r2 post2 => ?_
    cases e2 : env2[i]? with
    | none => rw [e2] at post2; exact post2.elim
    | some s =>
      rw [e2] at post2
      match s, e2, k, r2, post2 with
      | some (.own p (.lst xs)), e2, .int j, r2, post2 =>
        have post2 : PostS K mg W c σ0 (match ixN xs.length j with | some n => .ok .nx (env2.set i (some (.own p (.lst (xs.set n z))))) | none => .stuck) D := post2
        cases e3 : ixN xs.length j with
        | none => rw [e3] at post2; exact post2.elim
        | some n =>
          rw [e3] at post2
          obtain ⟨v', e4, a', rfl, c2, hb, hp⟩ := sm2.sl i _ e2
          rw [e1] at e4
          cases e4
          obtain ⟨vs, hl, rs⟩ := Cont.lst_inv c2
          cases r2
          exact ⟨q, vs, j, n, rfl, rfl, hl, by rw [rs.length]; exact e3, post2 σ B2 _ (sm2.write e2 e1 (.lst upd_same (rs.set n (r1.mono g2)))) (fr2.step (stp_write e2 e1) (osub_write e2).keep)⟩
/-- {} -/
theorem sn_dk0 : SN X W (.Dict [] [] pos) tDNewK (M.pure (.dK [])) := ⟨pe_dnewK, fun σ0 B H σ env sm Q post p hp => post.new sm hp (.dK upd_same rfl .nil)⟩
theorem sn_dt0 : SN X W (.Dict [] [] pos) tDNewT (M.pure (.dT [])) := ⟨pe_dnewT, fun σ0 B H σ env sm Q post p hp => post.new sm hp (.dT upd_same rfl .nil)⟩
end
end Mi

/-! The mirror layer 11: in, op=, dict displays. -/
namespace Mi
open PySem L2

section
variable {X : Cx} {W : WX} {K : PySem.W.Frag} {mg : Str → Option Value} {e a b : Expr} {es : List Expr} {te ta tb : TE} {me ma mb : M D} {tr : TA} {mr : M (List D)} {pos pos' p : Pos}
/-! ### in -/
def toV : D → Option V
  | .non => some .non
  | .bl b => some (.bl b)
  | .int i => some (.int i)
  | .str x => some (.str x)
  | _ => none
def toVs : List D → Option (List V)
  | [] => some []
  | d :: ds => (toV d).bind fun v => (toVs ds).map (v :: ·)
theorem toV_rep {B : Hp} {v u : V} {d : D} (h : toV d = some u) (r : Rep K mg B v d) : v = u ∧ flatV v = true := by
  cases d <;> first | (cases h; cases r; exact ⟨rfl, rfl⟩) | cases h
theorem toVs_rep {B : Hp} : ∀ {vs us : List V} {ds : List D}, toVs ds = some us → Reps K mg B vs ds → vs = us ∧ vs.all flatV = true
  | [], us, [], h, .nil => by cases h; exact ⟨rfl, rfl⟩
  | v :: vs, us, d :: ds, h, .cons r rs => by
    have h : ((toV d).bind fun v => (toVs ds).map (v :: ·)) = some us := h
    cases e1 : toV d with
    | none => rw [e1] at h; cases h
    | some u =>
      rw [e1] at h
      have h : (toVs ds).map (u :: ·) = some us := h
      cases e2 : toVs ds with
      | none => rw [e2] at h; cases h
      | some us' =>
        rw [e2] at h
        cases h
        obtain ⟨r1, r2⟩ := toV_rep e1 r
        obtain ⟨r3, r4⟩ := toVs_rep e2 rs
        subst r1 r3
        exact ⟨rfl, by rw [List.all_cons, r2, r4]; rfl⟩
def seqD : D → Option (List D)
  | .tup xs => some xs
  | .ftp xs => some xs
  | .lst xs => some xs
  | .frz xs => some xs
  | _ => none
def inS (x z : Str) : Bool := !(Builtin.Str.occurrences z x 0 z.length 1).isEmpty
def dIn : D → D → Option D
  | .str x, .str z => some (.bl (inS x z))
  | d, c => (seqD c).bind fun xs => (toV d).bind fun v => (toVs xs).map fun vs => .bl (inV v vs)
def dNotIn : D → D → Option D
  | .str x, .str z => some (.bl (!inS x z))
  | d, c => (seqD c).bind fun xs => (toV d).bind fun v => (toVs xs).map fun vs => .bl (!inV v vs)
def rInA (K : PySem.W.Frag) : R2 := fun x y H Q => (∃ i j, x = .str i ∧ y = .str j ∧ Q (.bl (!(Builtin.Str.occurrences j i 0 j.length 1).isEmpty)) H) ∨ rIn K false x y H Q
def rNotInA (K : PySem.W.Frag) : R2 := fun x y H Q => (∃ i j, x = .str i ∧ y = .str j ∧ Q (.bl (!(!(Builtin.Str.occurrences j i 0 j.length 1).isEmpty))) H) ∨ rIn K true x y H Q
theorem or_in {X : Cx} : OpR X (compareOp .In) (rInA X.K) := op_in_str.or op_in_seq
theorem or_notIn {X : Cx} : OpR X (compareOp .NotIn) (rNotInA X.K) := op_notIn_str.or op_notIn_seq
theorem seq_rep {B H : Hp} {v : V} {c : D} {xs : List D} (s : Sub B H) (h : seqD c = some xs) (r : Rep K mg B v c) : ∃ q vs, v = .ref q ∧ (SqL K H q vs ∨ SqT K H q vs) ∧ Reps K mg B vs xs := by
  cases r with
  | tup p r => cases h; exact ⟨_, _, rfl, .inr (.of (s.tup p)), r⟩
  | ftp p r => cases h; exact ⟨_, _, rfl, .inr (s.sqT p), r⟩
  | lst p r => cases h; exact ⟨_, _, rfl, .inl (.of (s.lst p)), r⟩
  | frz p r => cases h; exact ⟨_, _, rfl, .inl (s.sqL p), r⟩
  | _ => cases h
theorem in_seq {neg : Bool} {B H : Hp} {x y : V} {d c z : D} {f : V → List V → Bool} (hf : ∀ x xs, (if neg then !inV x xs else inV x xs) = f x xs) (s : Sub B H) (h1 : Rep K mg B x d) (h2 : Rep K mg B y c)
    (e1 : ((seqD c).bind fun xs => (toV d).bind fun v => (toVs xs).map fun vs => D.bl (f v vs)) = some z) {Q : VK} (q : ∀ v B' H', Al B H B' H' → Rep K mg B' v z → Q v H') : rIn K neg x y H Q := by
  cases e2 : seqD c with
  | none => rw [e2] at e1; cases e1
  | some xs =>
    rw [e2] at e1
    cases e3 : toV d with
    | none => rw [e3] at e1; cases e1
    | some v =>
      rw [e3] at e1
      have e1 : (toVs xs).map (fun vs => D.bl (f v vs)) = some z := e1
      cases e4 : toVs xs with
      | none => rw [e4] at e1; cases e1
      | some vs =>
        rw [e4] at e1
        cases e1
        obtain ⟨p, ws, rfl, hq, rs⟩ := seq_rep s e2 h2
        obtain ⟨rfl, r2⟩ := toV_rep e3 h1
        obtain ⟨rfl, r4⟩ := toVs_rep e4 rs
        refine ⟨p, ws, rfl, hq, r2, r4, ?_⟩
        rw [hf]
        exact q _ B H (Al.refl s) (.bl _)
theorem re_in : Real2 K mg (rInA K) dIn := by
  intro B H x y d c z s h1 h2 e1 Q q
  have go : ((seqD c).bind fun xs => (toV d).bind fun v => (toVs xs).map fun vs => D.bl (inV v vs)) = some z → rInA K x y H Q := fun e => .inr (in_seq (f := inV) (fun _ _ => rfl) s h1 h2 e q)
  cases d with
  | str i =>
    cases c with
    | str j => cases e1; cases h1; cases h2; exact .inl ⟨_, _, rfl, rfl, q _ B H (Al.refl s) (.bl _)⟩
    | _ => exact go e1
  | _ => exact go e1
theorem re_notIn : Real2 K mg (rNotInA K) dNotIn := by
  intro B H x y d c z s h1 h2 e1 Q q
  have go : ((seqD c).bind fun xs => (toV d).bind fun v => (toVs xs).map fun vs => D.bl (!inV v vs)) = some z → rNotInA K x y H Q := fun e => .inr (in_seq (f := fun v vs => !inV v vs) (fun _ _ => rfl) s h1 h2 e q)
  cases d with
  | str i =>
    cases c with
    | str j => cases e1; cases h1; cases h2; exact .inl ⟨_, _, rfl, rfl, q _ B H (Al.refl s) (.bl _)⟩
    | _ => exact go e1
  | _ => exact go e1
/-- e in xs, xs a slot's own list -/
def eInO (f : D → D → Option D) (ma : M D) (i : Nat) : M D := ma.bind fun d env => match getOwnL env i with
  | some xs => ofO (f d (.lst xs)) env
  | none => .stuck
theorem rx_inO {i : Nat} (ha : RX K mg W (RD K mg) ta ma) : RX K mg W (RD K mg) (tOp (rInA K) ta (tVar i)) (eInO dIn ma i) := by
  refine ha.bind (t2 := fun x σ H1 (Q : VK) => tVar i σ H1 fun y H2 => rInA K x y H2 Q) fun v d σ0 B H σ env sm r Q post => ?_
  cases e : getOwnL env i with
  | none => simp only [e] at post; exact post.elim
  | some xs =>
    simp only [e] at post
    obtain ⟨a, p, e0, e1, c, hb, _⟩ := sm.getOwn (getOwnL_some e)
    obtain ⟨vs, hl, rs⟩ := c.lst_inv
    refine ⟨.ref a, e1, ?_⟩
    cases e2 : dIn d (.lst xs) with
    | none => rw [e2] at post; exact post.elim
    | some z =>
      rw [e2] at post
      have sb : Sub (upd B a (.lst vs)) H := fun x u q => by
        by_cases ex : x = a
        · subst ex; rw [upd_same] at q; cases q; exact .inl hl
        · rw [upd_ne ex] at q; exact sm.sub x u q
      have hz : ∃ b, z = .bl b := by
        cases d <;> (simp only [dIn, seqD, toV, Option.bind_some, Option.bind_none] at e2) <;> first | cases e2 | (cases e3 : toVs xs with | none => (rw [e3] at e2; cases e2) | some us => (rw [e3] at e2; cases e2; exact ⟨_, rfl⟩))
      obtain ⟨b, rfl⟩ := hz
      refine re_in (mg := mg) (upd B a (.lst vs)) H v (.ref a) d (.lst xs) (.bl b) sb (r.mono (same_upd hb)) (.lst upd_same (rs.mono (same_upd hb))) e2 Q fun u B' H' al ru => ?_
      cases ru
      have al' : Al B H B H' := ⟨Same.refl _, fun _ _ h => .inl h, al.s, sm.sub.same al.s⟩
      exact post.al sm al' (Rep.bl _)
theorem rx_notInO {i : Nat} (ha : RX K mg W (RD K mg) ta ma) : RX K mg W (RD K mg) (tOp (rNotInA K) ta (tVar i)) (eInO dNotIn ma i) := by
  refine ha.bind (t2 := fun x σ H1 (Q : VK) => tVar i σ H1 fun y H2 => rNotInA K x y H2 Q) fun v d σ0 B H σ env sm r Q post => ?_
  cases e : getOwnL env i with
  | none => simp only [e] at post; exact post.elim
  | some xs =>
    simp only [e] at post
    obtain ⟨a, p, e0, e1, c, hb, _⟩ := sm.getOwn (getOwnL_some e)
    obtain ⟨vs, hl, rs⟩ := c.lst_inv
    refine ⟨.ref a, e1, ?_⟩
    cases e2 : dNotIn d (.lst xs) with
    | none => rw [e2] at post; exact post.elim
    | some z =>
      rw [e2] at post
      have sb : Sub (upd B a (.lst vs)) H := fun x u q => by
        by_cases ex : x = a
        · subst ex; rw [upd_same] at q; cases q; exact .inl hl
        · rw [upd_ne ex] at q; exact sm.sub x u q
      have hz : ∃ b, z = .bl b := by
        cases d <;> (simp only [dNotIn, seqD, toV, Option.bind_some, Option.bind_none] at e2) <;> first | cases e2 | (cases e3 : toVs xs with | none => (rw [e3] at e2; cases e2) | some us => (rw [e3] at e2; cases e2; exact ⟨_, rfl⟩))
      obtain ⟨b, rfl⟩ := hz
      refine re_notIn (mg := mg) (upd B a (.lst vs)) H v (.ref a) d (.lst xs) (.bl b) sb (r.mono (same_upd hb)) (.lst upd_same (rs.mono (same_upd hb))) e2 Q fun u B' H' al ru => ?_
      cases ru
      have al' : Al B H B H' := ⟨Same.refl _, fun _ _ h => .inl h, al.s, sm.sub.same al.s⟩
      exact post.al sm al' (Rep.bl _)

/-! ### x op= e -/
def mAug (i : Nat) (f : D → D → Option D) (m : M D) : M Fl := fun env => match env[i]? with
  | some (some (.shr a)) => (m.bind fun b env' => match f a b with
    | some c => .ok .nx (env'.set i (some (.shr c)))
    | none => .stuck) env
  | _ => .stuck
theorem rs_aug {i : Nat} {r : R2} {f : D → D → Option D} (hf : Real2 K mg r f) (h : RX K mg W (RD K mg) te me) : RS K mg W (tAug i te r) (mAug i f me) := by
  intro c σ0 B H σ env sm fr D post
  unfold mAug at post
  cases e : env[i]? with
  | none => rw [e] at post; exact post.elim
  | some s =>
    rw [e] at post
    match s, e, post with
    | some (.shr d), e, post =>
      obtain ⟨v, e1, rv⟩ := sm.sl i _ e
      refine ⟨v, e1, ?_⟩
      have rv : Rep K mg B v d := rv
      refine h.goS sm fr post fun w b B1 H1 env1 sm1 fr1 g1 r1 post1 => ?_
      cases e2 : f d b with
      | none => rw [e2] at post1; exact post1.elim
      | some z =>
        rw [e2] at post1
        refine hf B1 H1 v w d b z sm1.sub (rv.mono g1) r1 e2 _ fun u B2 H2 al ru => ?_
        have sm2 := sm1.alloc al.g al.n al.s al.sb
        have fr2 := fr1.step (Stp.alloc al.g al.n al.s) (Keep.refl _ _)
        exact post1 _ _ _ (sm2.setShr i ru) (fr2.keep keep_setShr)
theorem ss_aug {x : Str} {op : Operator} {r : R2} {f : D → D → Option D} (i : Nat) (hN : X.N.Nodup) (ho : OpR X (inplaceOp op) r) (hf : Real2 X.K X.mg r f) (h : SE X W e te me) (hi : X.N[i]? = some x := by rfl) (hx : Loc X.env.scope x := by first | exact Or.inl rfl | exact Or.inr rfl)
    (hw : X.fn x = true ∨ X.env.scope.names.lookup x = some .local := by first | exact .inl rfl | exact .inr rfl) : SS X W (.AugAssign (.Name x pos') op e pos) (tAug i te r) (mAug i f me) := ⟨ps_aug hN hi hx h.pe ho hw, rs_aug hf h.rx⟩
def rAddI (K : PySem.W.Frag) : R2 := fun x y H Q => rI0 (fun i j => .int (i + j)) x y H Q ∨ ∃ i j, x = .str i ∧ y = .str j ∧ i.length + j.length ≤ sizeLine ∧ Q (.str (i ++ j)) H
theorem oi_add {X : Cx} : OpR X (inplaceOp .Add) (rAddI X.K) := iop_add.or iop_add_str
def dAddI : D → D → Option D
  | .int i, .int j => some (.int (i + j))
  | .str x, .str y => if x.length + y.length ≤ 16777216 then some (.str (x ++ y)) else none
  | _, _ => none
theorem rei_add : Real2 K mg (rAddI K) dAddI := by
  intro B H x y d e z s h1 h2 e1 Q q
  have hz : sizeLine = 16777216 := sizeLine_eq
  unfold dAddI at e1
  split at e1
  · cases e1; cases h1; cases h2
    exact .inl ⟨_, _, rfl, rfl, q _ B H (Al.refl s) (.int _)⟩
  · split at e1
    · cases e1; cases h1; cases h2
      exact .inr ⟨_, _, rfl, rfl, by omega, q _ B H (Al.refl s) (.str _)⟩
    · cases e1
  · cases e1
theorem oi_mul {X : Cx} : OpR X (inplaceOp .Mult) (rI CMulW fun i j => .int (i * j)) := opI fun _ _ _ _ _ _ _ hc q => PyProof.Rows.imul_int q hc.ok
def dMulI : D → D → Option D
  | .int i, .int j => if smallMul i j then some (.int (i * j)) else none
  | _, _ => none
theorem rei_mul : Real2 K mg (rI CMulW fun i j => .int (i * j)) dMulI := realI fun d e z h => by
  unfold dMulI at h
  split at h
  · split at h
    · rename_i i j hs
      have hs' : i.natAbs.log2 + j.natAbs.log2 < 1000000 := of_decide_eq_true hs
      cases h
      exact ⟨_, _, rfl, rfl, hs', rfl⟩
    · cases h
  · cases h
theorem oi_div {X : Cx} : OpR X (inplaceOp .FloorDiv) (rI CDivG fun i j => .int (i.fdiv j)) := opI fun _ _ _ _ _ _ _ hc q => PyProof.Rows.ifloordiv_int hc.1 q (.inl (PyProof.noPylong_of_log2 hc.2))

/-! ### dict displays -/
def pDisp : List (M D × M D) → M (List (Key × D))
  | [] => M.pure []
  | (mk, mv) :: r => mk.bind fun k => mv.bind fun v => (pDisp r).bind fun ps => ofO ((toKey k).map fun k => (k, v) :: ps)
def eDisp (ms : List (M D × M D)) : M D := (pDisp ms).bind fun ps => ofO (if ps.length ≤ 15 then some (.dK (ps.foldl (fun acc kv => dPutL acc kv.1 kv.2) [])) else none)
end
section
variable {X : Cx} {W : WX} {K : PySem.W.Frag} {mg : Str → Option Value}
def RPs (K : PySem.W.Frag) (mg : Str → Option Value) : L2.St → Hp → List (V × V) → List (Key × D) → Prop := fun _ B vs ps => ∃ kvs : List (Key × V), vs = kvs.map (fun kv => (kV kv.1, kv.2)) ∧ RKv K mg B kvs ps
structure SPs (X : Cx) (W : WX) (pos : Pos) (keys : List (Option Expr)) (values : List Expr) (trs : List (TE × TE)) (ms : List (M D × M D)) : Prop where
  pp : PPs X pos keys values trs
  rx : RX X.K X.mg W (RPs X.K X.mg) (tPairs trs) (pDisp ms)
theorem sps_nil {pos : Pos} : SPs X W pos [] [] [] [] := ⟨pps_nil, fun σ0 B H σ env sm Q post => post.val sm ⟨[], rfl, .nil⟩⟩
theorem sps_cons {pos : Pos} {k v : Expr} {ks : List (Option Expr)} {vs : List Expr} {tk tv : TE} {mk mv : M D} {trs : List (TE × TE)} {ms : List (M D × M D)} (hk : SE X W k tk mk) (hv : SE X W v tv mv) (hr : SPs X W pos ks vs trs ms) :
    SPs X W pos (some k :: ks) (v :: vs) ((tk, tv) :: trs) ((mk, mv) :: ms) := by
  refine ⟨pps_cons hk.pe hv.pe hr.pp, fun σ0 B H σ env sm Q post => ?_⟩
  show tk σ H fun x H1 => tv σ H1 fun y H2 => tPairs trs σ H2 fun ps H3 => Q ((x, y) :: ps) H3
  refine hk.rx.go sm post fun x k B1 H1 env1 sm1 g1 r1 post1 => ?_
  refine hv.rx.go sm1 post1 fun y v B2 H2 env2 sm2 g2 r2 post2 => ?_
  refine hr.rx.go sm2 post2 fun ps qs B3 H3 env3 sm3 g3 r3 post3 => ?_
  cases e : toKey k with
  | none => rw [e] at post3; exact post3.elim
  | some kk =>
    rw [e] at post3
    obtain ⟨kvs, rfl, rk⟩ := r3
    refine post3.val sm3 ⟨(kk, y) :: kvs, ?_, .cons (Rep.mono g3 r2) rk⟩
    rw [List.map_cons, ← toKey_rep e r1]
theorem merge_rep {B : Hp} : ∀ {more : List (Key × V)} {ms : List (Key × D)} {vs : List (Key × V)} {ds : List (Key × D)}, RKv K mg B more ms → RKv K mg B vs ds → RKv K mg B (mergeK vs more) (ms.foldl (fun acc kv => dPutL acc kv.1 kv.2) ds) := by
  intro more ms vs ds h g
  induction more generalizing ms vs ds with
  | nil =>
    cases ms with
    | nil => exact g
    | cons _ _ => cases h.1
  | cons x more ih =>
    cases ms with
    | nil => cases h.1
    | cons y ms =>
      obtain ⟨k, v⟩ := x
      obtain ⟨k', d⟩ := y
      obtain ⟨e, r⟩ := h
      rw [List.map_cons, List.map_cons] at e
      injection e with e1 e2
      have e1 : k = k' := e1
      subst e1
      cases r with
      | cons r1 r2 => exact ih (ms := ms) (vs := putK vs k v) (ds := dPutL ds k d) ⟨e2, r2⟩ (g.put k r1)
theorem sn_disp {pos : Pos} {keys : List (Option Expr)} {values : List Expr} {trs : List (TE × TE)} {ms : List (M D × M D)} (hc : X.calm = true) (h : SPs X W pos keys values trs ms) (hall : keys.all (·.isSome) = true := by rfl) (hl : keys.length = values.length := by rfl) (h0 : keys ≠ [] := by exact fun z => by cases z) (h15 : keys.length ≤ 15 := by decide) : SN X W (.Dict keys values pos) (tDisp trs) (eDisp ms) := by
  refine ⟨pe_disp h.pp hall hl h0 h15, fun σ0 B H σ env sm Q post p hp => ?_⟩
  have hbp := sm.sub.none hp
  have hno : ¬ Owned σ env p := fun z => by
    obtain ⟨⟨o, ho⟩, _⟩ := sm.own_there z
    rw [hp] at ho; cases ho
  have sm1 : Sm X.K X.mg σ0 B (upd H p (.dK [])) σ env := sm.atD hbp hno
  have post0 : PostN X.K X.mg W σ0 σ env B H ((pDisp ms env).bind fun ps => ofO (if ps.length ≤ 15 then some (.dK (ps.foldl (fun acc kv => dPutL acc kv.1 kv.2) [])) else none)) Q := post
  refine h.rx σ0 B _ σ env sm1 _ ?_
  cases e : pDisp ms env with
  | stuck => rw [e] at post0; exact post0
  | exn x env' =>
    rw [e] at post0
    intro cls d B' H' s' m' o' ex
    exact post0 cls d B' H' ⟨s'.grow, fun a o q => by
      rcases s'.new a o q with z | z
      · exact .inl z
      · by_cases ea : a = p
        · subst ea; rw [upd_same] at z; cases z
        · rw [upd_ne ea] at z; exact .inr z, fun a o q n => s'.frame a o (by rw [upd_ne (ne_of_none q hp)]; exact q) n, fun a o q => s'.there a o (by rw [upd_ne (ne_of_none q hp)]; exact q)⟩ m' o' ex
  | ok ps env' =>
    rw [e] at post0
    intro vs B' H' s' m' o' ⟨kvs, ev, rk⟩
    have post1 : PostN X.K X.mg W σ0 σ env B H (ofO (if ps.length ≤ 15 then some (D.dK (ps.foldl (fun acc kv => dPutL acc kv.1 kv.2) [])) else none) env') Q := post0
    by_cases hl15 : ps.length ≤ 15
    · rw [if_pos hl15] at post1
      have hHp : H' p = some (.dK []) := s'.frame p _ upd_same hno
      have hB'p : B' p = none := by
        cases q : B' p with
        | none => rfl
        | some u =>
          rcases s'.new p u q with z | z
          · rw [hbp] at z; cases z
          · rw [upd_same] at z; cases z
      refine ⟨hHp, kvs, ev, by rw [rk.length]; exact hl15, ?_⟩
      have rm := merge_rep rk (RKv.nil (K := X.K) (mg := X.mg) (B := B') (κ := Key))
      have hno' : ¬ Owned σ env' p := fun z => hno (o'.owned z)
      refine post1 p B' _ ⟨s'.grow, fun a o q => ?_, fun a o q n => ?_, fun a o q => ?_⟩ (m'.atD hB'p hno') o' (.dK upd_same rm.1 rm.2) hB'p hp
      · rcases s'.new a o q with z | z
        · exact .inl z
        · by_cases ea : a = p
          · subst ea; exact .inr hp
          · rw [upd_ne ea] at z; exact .inr z
      · rw [upd_ne (ne_of_none q hp)]
        exact s'.frame a o (by rw [upd_ne (ne_of_none q hp)]; exact q) n
      · rw [upd_ne (ne_of_none q hp)]
        exact s'.there a o (by rw [upd_ne (ne_of_none q hp)]; exact q)
    · rw [if_neg hl15] at post1; exact post1.elim
end
end Mi

/-! The mirror layer 12: methods of texts; the law's end. -/
namespace Mi
open PySem L2
section
variable {X : Cx} {W : WX} {K : PySem.W.Frag} {mg : Str → Option Value} {o e : Expr} {to te : TE} {mo me : M D} {pos apos : Pos}
def RealM (K : PySem.W.Frag) (mg : Str → Option Value) (r : V → List V → Hp → VK → Prop) (f : Str → D → Option D) : Prop :=
  ∀ (B H : Hp) (a : Str) (y : V) (d z : D), Sub B H → Rep K mg B y d → f a d = some z → ∀ Q : VK, (∀ v B' H', Al B H B' H' → Rep K mg B' v z → Q v H') → r (.str a) [y] H Q
def eM1 (f : Str → D → Option D) (ma mb : M D) : M D := ma.bind fun d => match d with
  | .str a => mb.bind fun c => ofO (f a c)
  | _ => fun _ => .stuck
theorem rx_m1 {r : V → List V → Hp → VK → Prop} {f : Str → D → Option D} (hf : RealM K mg r f) (ho : RX K mg W (RD K mg) to mo) (he : RX K mg W (RD K mg) te me) : RX K mg W (RD K mg) (tM1 r to te) (eM1 f mo me) := by
  refine ho.bind (t2 := fun x σ H1 (Q : VK) => (∃ a, x = V.str a) ∧ te σ H1 fun y H2 => r x [y] H2 Q) fun v d σ0 B H σ env sm rr Q post => ?_
  have hd : ∃ a, d = .str a := by
    cases d <;> first | exact ⟨_, rfl⟩ | exact post.elim
  obtain ⟨a, rfl⟩ := hd
  cases rr
  refine ⟨⟨a, rfl⟩, ?_⟩
  refine he.go sm post fun w c B1 H1 env1 sm1 g1 r1 post1 => ?_
  cases e1 : f a c with
  | none => rw [e1] at post1; exact post1.elim
  | some z =>
    rw [e1] at post1
    exact hf B1 H1 a w c z sm1.sub r1 e1 Q fun u B' H' l ru => post1.al sm1 l ru
theorem se_m1 {id : String} {name : Str} {r : V → List V → Hp → VK → Prop} {f : Str → D → Option D} (slot : PySem.Slot "str" name id) (ty : typeOf (.builtin id) = pure (.type "method_descriptor")) (rule : MtR X id r) (hf : RealM X.K X.mg r f) (ho : SE X W o to mo) (he : SE X W e te me)
    (hs : starEach [e] X.env = [(false, eval e X.env)] := by rfl) (hbase : attributeBase o name X.env (eval o X.env) = eval o X.env := by rfl) (hline : (apos.endLine == pos.line) = true := by rfl) :
    SE X W (.Call (.Attribute o name apos) [e] [] pos) (tM1 r to te) (eM1 f mo me) := ⟨pe_m1 slot ty rule ho.pe he.pe hs hbase hline, rx_m1 hf ho.rx he.rx⟩
/-- s.index(t), found -/
def dSIndex (a : Str) : D → Option D
  | .str b => match Builtin.Str.occurrences a b 0 a.length 1 with
    | i :: _ => some (.int (i : Nat))
    | [] => none
  | _ => none
theorem re_sindex : RealM K mg (fun x xs H Q => ∃ a b i rest, x = .str a ∧ xs = [.str b] ∧ Builtin.Str.occurrences a b 0 a.length 1 = i :: rest ∧ Q (.int (i : Nat)) H) dSIndex := by
  intro B H a y d z s r e Q q
  cases d with
  | str b =>
    cases r
    have e : (match Builtin.Str.occurrences a b 0 a.length 1 with
      | i :: _ => some (D.int (i : Nat))
      | [] => none) = some z := e
    cases h : Builtin.Str.occurrences a b 0 a.length 1 with
    | nil => rw [h] at e; cases e
    | cons i rest =>
      rw [h] at e
      cases e
      exact ⟨a, b, i, rest, rfl, rfl, h, q _ B H (Al.refl s) (.int _)⟩
  | _ => cases e
end
section
variable {X : Cx} {W : WX} {e a : Expr} {te ta : TE} {me ma : M D} {pos pos' p apos : Pos} {x : Str} {tg : Expr}
theorem se_lenO (i : Nat) (hm : X.mg "len" = none) (hN : X.N[i]? = some x := by rfl) (hv : Vis X.env.scope x := by first | exact Or.inl rfl | exact Or.inr (Or.inl rfl) | exact Or.inr (Or.inr rfl)) (hd : (x == ("__debug__" : Str)) = false := by decide)
    (hcd : (x == ("__classdict__" : Str)) = false := by decide) (hg : Gl X "len" := by rfl) (hb : bootBuiltins "len" = some (.builtin "len") := by decide +kernel) (hs : starEach [.Name x p] X.env = (false, eval (.Name x p) X.env) :: starEach [] X.env := by rfl) :
    SE X W (.Call (.Name "len" pos') [.Name x p] [] pos) (tCB (fun xs H Q => ∃ x n, xs = [x] ∧ LenV X.K x H n ∧ Q (.int n) H) (tCons (tVar i) tNil)) (eLenO i) := ⟨pe_callB call_len hg hm hb (pa_cons (pe_var hN hv hd hcd) pa_nil hs) (by decide) (by decide) hs (by rfl), rx_lenO⟩
theorem se_tupO (i : Nat) (hm : X.mg "tuple" = none) (hN : X.N[i]? = some x := by rfl) (hv : Vis X.env.scope x := by first | exact Or.inl rfl | exact Or.inr (Or.inl rfl) | exact Or.inr (Or.inr rfl)) (hd : (x == ("__debug__" : Str)) = false := by decide)
    (hcd : (x == ("__classdict__" : Str)) = false := by decide) (hg : Gl X "tuple" := by rfl) (hb : bootBuiltins "tuple" = some (.type "tuple") := by decide +kernel) (hs : starEach [.Name x p] X.env = (false, eval (.Name x p) X.env) :: starEach [] X.env := by rfl) :
    SE X W (.Call (.Name "tuple" pos') [.Name x p] [] pos) (tCB (fun xs H Q => ∃ p ys, xs = [.ref p] ∧ ((SqL X.K H p ys ∧ ∀ l, H l = none → Q (.ref l) (upd H l (.tup ys))) ∨ (SqT X.K H p ys ∧ Q (.ref p) H))) (tCons (tVar i) tNil)) (eTupO i) := ⟨pe_callTy call_tuple_of hg hm hb (pa_cons (pe_var hN hv hd hcd) pa_nil hs) (by decide) (by decide) hs (by rfl), rx_tupO⟩
def eListOf (m : M D) : M D := m.bind fun d => ofO (dListOf d)
theorem sn_listOf (hm : X.mg "list" = none) (h : SE X W e te me) (hg : Gl X "list" := by rfl) (hb : bootBuiltins "list" = some (.type "list") := by decide +kernel) (hs : starEach [e] X.env = (false, eval e X.env) :: starEach [] X.env := by rfl) :
    SN X W (.Call (.Name "list" pos') [e] [] pos) (tCB (fun xs H Q => ∃ p ys, xs = [.ref p] ∧ (SqL X.K H p ys ∨ SqT X.K H p ys) ∧ ∀ l, H l = none → Q (.ref l) (upd H l (.lst ys))) (tCons te tNil)) (eListOf me) := ⟨pe_callTy call_list_of hg hm hb (pa_cons h.pe pa_nil hs) (by decide) (by decide) hs (by rfl), rn_listOf h.rx⟩
theorem si_s (h : SE X W e te me) : SI X W tg e (iStr te) (iS me) := ⟨pi_str h.pe, rx_is h.rx⟩
theorem se_inO (i : Nat) (h : SE X W a ta ma) (hN : X.N[i]? = some x := by rfl) (hv : Vis X.env.scope x := by first | exact Or.inl rfl | exact Or.inr (Or.inl rfl) | exact Or.inr (Or.inr rfl)) (hd : (x == ("__debug__" : Str)) = false := by decide)
    (hcd : (x == ("__classdict__" : Str)) = false := by decide) (hm : behindInMarks .In (.Name x p) = false := by with_unfolding_all rfl) : SE X W (.Compare a [.In] [.Name x p] pos) (tOp (rInA X.K) ta (tVar i)) (eInO dIn ma i) := ⟨pe_cmpR or_in h.pe (pe_var hN hv hd hcd) hm, rx_inO h.rx⟩
theorem se_notInO (i : Nat) (h : SE X W a ta ma) (hN : X.N[i]? = some x := by rfl) (hv : Vis X.env.scope x := by first | exact Or.inl rfl | exact Or.inr (Or.inl rfl) | exact Or.inr (Or.inr rfl)) (hd : (x == ("__debug__" : Str)) = false := by decide)
    (hcd : (x == ("__classdict__" : Str)) = false := by decide) (hm : behindInMarks .NotIn (.Name x p) = false := by with_unfolding_all rfl) : SE X W (.Compare a [.NotIn] [.Name x p] pos) (tOp (rNotInA X.K) ta (tVar i)) (eInO dNotIn ma i) := ⟨pe_cmpR or_notIn h.pe (pe_var hN hv hd hcd) hm, rx_notInO h.rx⟩
theorem st_inO (i : Nat) (h : SE X W a ta ma) (hN : X.N[i]? = some x := by rfl) (hv : Vis X.env.scope x := by first | exact Or.inl rfl | exact Or.inr (Or.inl rfl) | exact Or.inr (Or.inr rfl)) (hd : (x == ("__debug__" : Str)) = false := by decide)
    (hcd : (x == ("__classdict__" : Str)) = false := by decide) (hm : behindInMarks .In (.Name x p) = false := by with_unfolding_all rfl) : ST X W (.Compare a [.In] [.Name x p] pos) (tTest (tOp (rInA X.K) ta (tVar i))) (eTest (eInO dIn ma i)) := ⟨pt_cmpR or_in h.pe (pe_var hN hv hd hcd) hm, rx_tTest (rx_inO h.rx)⟩
theorem st_notInO (i : Nat) (h : SE X W a ta ma) (hN : X.N[i]? = some x := by rfl) (hv : Vis X.env.scope x := by first | exact Or.inl rfl | exact Or.inr (Or.inl rfl) | exact Or.inr (Or.inr rfl)) (hd : (x == ("__debug__" : Str)) = false := by decide)
    (hcd : (x == ("__classdict__" : Str)) = false := by decide) (hm : behindInMarks .NotIn (.Name x p) = false := by with_unfolding_all rfl) : ST X W (.Compare a [.NotIn] [.Name x p] pos) (tTest (tOp (rNotInA X.K) ta (tVar i))) (eTest (eInO dNotIn ma i)) := ⟨pt_cmpR or_notIn h.pe (pe_var hN hv hd hcd) hm, rx_tTest (rx_notInO h.rx)⟩
theorem ss_app {cpos : Pos} (i : Nat) (h : SE X W e te me) (hN : X.N[i]? = some x := by rfl) (hv : Vis X.env.scope x := by first | exact Or.inl rfl | exact Or.inr (Or.inl rfl) | exact Or.inr (Or.inr rfl)) (hd : (x == ("__debug__" : Str)) = false := by decide)
    (hcd : (x == ("__classdict__" : Str)) = false := by decide) (hbase : attributeBase (.Name x p) "append" X.env (eval (.Name x p) X.env) = eval (.Name x p) X.env := by rfl)
    (hfew : ((backTo cpos (starEach [e] X.env)).all (fun x => !x.1) && (backToKw cpos (keywordEach [] X.env)).all (fun x => x.1.isSome)
      && decide ([e].length + ([] : List Keyword).length + (if ([] : List Keyword).isEmpty then 0 else 1) < 30)) = true := by rfl)
    (hline : (apos.endLine == cpos.line) = true := by rfl) (hs : starEach [e] X.env = (false, eval e X.env) :: starEach [] X.env := by rfl) (hsw : swapsWith (.Call (.Attribute (.Name x p) "append" apos) [e] [] cpos) none pos.line X.env = pure false := by rfl) :
    SS X W (.Expr (.Call (.Attribute (.Name x p) "append" apos) [e] [] cpos) pos) (tDrop (tBM X.K "list" rAppend (tVar i) (tCons te tNil))) (mApp i me) :=
  ⟨ps_expr (pe_bm PySem.F.plainAttrs_list PySem.F.slot_list_append PySem.F.type_list_append (fun pins s σ H x xs v us Q I r1 r2 h => mt_append pins s σ H x xs v us Q I r1 r2 h) (pe_var hN hv hd hcd) (pa_cons h.pe pa_nil hs) hbase hfew hline hs (by rfl)) hsw, rs_app h.rx⟩
end
section
variable {X : Cx} {W : WX} {pos : Pos} {x : Str}
theorem se_gi {i : Int} {t : Tok} (hm : X.mg x = some (.int i t)) (hg : Gl X x := by rfl) (hd : (x == ("__debug__" : Str)) = false := by decide) : SE X W (.Name x pos) (tC (.int i)) (eC (.int i)) := se_g (.int i) hm ⟨t, rfl⟩ (fun _ => .int i) hg hd
theorem se_gs {z : Str} {t : Tok} (hm : X.mg x = some (.str z t)) (hg : Gl X x := by rfl) (hd : (x == ("__debug__" : Str)) = false := by decide) : SE X W (.Name x pos) (tC (.str z)) (eC (.str z)) := se_g (.str z) hm ⟨t, rfl⟩ (fun _ => .str z) hg hd
end
/-- the law's promise -/
def spLaw (n : Nat) (K : PySem.W.Frag) : Sp := fun vs H Q _ => ∃ (a : Addr) (ns : List Int), vs = [.ref a] ∧ ns.length ≤ n ∧ SqL K H a (ns.map V.int) ∧ ∀ H', Q (.bl true) H'
theorem reps_ints {K : PySem.W.Frag} {mg : Str → Option Value} {B : Hp} : ∀ ns : List Int, Reps K mg B (ns.map V.int) (ns.map D.int)
  | [] => .nil
  | n :: ns => .cons (.int n) (reps_ints ns)
theorem law_sp {n : Nat} {K : PySem.W.Frag} {mg : Str → Option Value} {mf : List Slot → Fin} (h : ∀ ns : List Int, ns.length ≤ n → mf [.shr (.frz (ns.map D.int))] = .ret false (.bl true) []) : ∀ vs H Q E, spLaw n K vs H Q E → SpM K mg 1 mf vs H Q E := by
  rintro vs H Q E ⟨a, ns, rfl, hn, hS, q⟩
  refine ⟨rfl, H, [.shr (.frz (ns.map D.int))], ⟨fun _ _ h => .inl h, rfl, fun i s e => ?_, fun i j p d p' d' a' e => ?_⟩, fun p d hm => ?_, ?_⟩
  · cases i with
    | zero => cases e; exact ⟨_, rfl, .frz hS (reps_ints ns)⟩
    | succ i => cases e
  · cases i with
    | zero => cases e
    | succ i => cases e
  · cases List.mem_singleton.mp hm
  · rw [h ns hn]
    intro v B' H' _ _ _ r
    cases r
    exact q H'
end Mi

/-! The mirror layer 13: instances, their fields, how they are made. -/
namespace Mi
open PySem L2
def fPut (f : Str) (z : D) : List (Str × D) → List (Str × D)
  | [] => [(f, z)]
  | (g, x) :: r => if g = f then (g, z) :: r else (g, x) :: fPut f z r
section
variable {K : PySem.W.Frag} {mg : Str → Option Value} {B : Hp} {f : Str}
theorem fld_look : ∀ {fs : List (Str × V)} {ds : List (Str × D)} {z : D}, fs.map Prod.fst = ds.map Prod.fst → Reps K mg B (fs.map Prod.snd) (ds.map Prod.snd) → ds.lookup f = some z → ∃ v, fs.lookup f = some v ∧ Rep K mg B v z
  | [], [], _, _, _, h => by cases h
  | (g, v) :: fs, (g', d) :: ds, z, e, r, h => by
    have e1 : g = g' := (List.cons.inj e).1
    have e2 := (List.cons.inj e).2
    subst e1
    cases r with
    | cons r0 rs =>
      by_cases c : f = g
      · have hb : (f == g) = true := beq_iff_eq.mpr c
        simp only [List.lookup, hb] at h ⊢
        cases h
        exact ⟨_, rfl, r0⟩
      · have hb : (f == g) = false := beq_eq_false_iff_ne.mpr c
        simp only [List.lookup, hb] at h ⊢
        exact fld_look e2 rs h
  | [], _ :: _, _, e, _, _ => by cases e
  | _ :: _, [], _, e, _, _ => by cases e
theorem fld_put : ∀ {fs : List (Str × V)} {ds : List (Str × D)} {v : V} {z : D}, fs.map Prod.fst = ds.map Prod.fst → Reps K mg B (fs.map Prod.snd) (ds.map Prod.snd) → Rep K mg B v z →
    (putF f v fs).map Prod.fst = (fPut f z ds).map Prod.fst ∧ Reps K mg B ((putF f v fs).map Prod.snd) ((fPut f z ds).map Prod.snd)
  | [], [], _, _, _, _, q => ⟨rfl, .cons q .nil⟩
  | (g, v0) :: fs, (g', d) :: ds, v, z, e, r, q => by
    have e1 : g = g' := (List.cons.inj e).1
    have e2 := (List.cons.inj e).2
    subst e1
    cases r with
    | cons r0 rs =>
      show ((if g = f then (g, v) :: fs else (g, v0) :: putF f v fs).map Prod.fst = (if g = f then (g, z) :: ds else (g, d) :: fPut f z ds).map Prod.fst) ∧ Reps K mg B ((if g = f then (g, v) :: fs else (g, v0) :: putF f v fs).map Prod.snd) ((if g = f then (g, z) :: ds else (g, d) :: fPut f z ds).map Prod.snd)
      by_cases c : g = f
      · rw [if_pos c, if_pos c]
        exact ⟨by rw [List.map_cons, List.map_cons, e2], .cons q rs⟩
      · rw [if_neg c, if_neg c]
        obtain ⟨h1, h2⟩ := fld_put e2 rs q
        exact ⟨by rw [List.map_cons, List.map_cons, h1], .cons r0 h2⟩
  | [], _ :: _, _, _, e, _, _ => by cases e
  | _ :: _, [], _, _, e, _, _ => by cases e
theorem putF_len : ∀ {fs : List (Str × V)} {ds : List (Str × D)}, fs.map Prod.fst = ds.map Prod.fst → fs.length = ds.length := fun h => by
  have := congrArg List.length h
  simpa using this
end
def fGet (c f : Str) : D → Option D
  | .ins c' fs => if c' = c then fs.lookup f else none
  | _ => none
def eFld (c f : Str) (m : M D) : M D := m.bind fun d => ofO (fGet c f d)
section
variable {X : Cx} {W : WX} {K : PySem.W.Frag} {mg : Str → Option Value} {e : Expr} {te : TE} {me : M D} {pos pos' p1 : Pos} {c f x : Str} {C : Addr}
theorem fGet_some {d z : D} (h : fGet c f d = some z) : ∃ fs, d = .ins c fs ∧ fs.lookup f = some z := by
  unfold fGet at h
  split at h
  · split at h
    · rename_i e; subst e; exact ⟨_, rfl, h⟩
    · cases h
  · cases h
theorem rx_fld (hc : mg c = some (.ref C)) (cl : Cls K C) (na : NoAttr K C f) (h : RX K mg W (RD K mg) te me) : RX K mg W (RD K mg) (tFld K te f) (eFld c f me) := by
  refine h.bind (t2 := fun x σ H Q => ∃ a C dx fs v, x = V.ref a ∧ H a = some (.ins C dx fs) ∧ Cls K C ∧ NoAttr K C f ∧ fs.lookup f = some v ∧ Q v H) fun v d σ0 B H σ env sm r Q post => ?_
  cases h1 : fGet c f d with
  | none => rw [h1] at post; exact post.elim
  | some z =>
    rw [h1] at post
    obtain ⟨ds, rfl, hl⟩ := fGet_some h1
    cases r with
    | ins hb hm hk rs =>
      rw [hc] at hm
      cases hm
      obtain ⟨v, e1, r1⟩ := fld_look hk rs hl
      rcases sm.sub _ _ hb with hh | ⟨hh, _⟩
      · exact ⟨_, _, _, _, v, rfl, hh, cl, na, e1, post.val sm r1⟩
      · exact hh.elim
theorem se_fld (hc : X.mg c = some (.ref C)) (cl : Cls X.K C) (na : NoAttr X.K C f) (h : SE X W e te me) (hb : attributeBase e f X.env (eval e X.env) = eval e X.env := by rfl) : SE X W (.Attribute e f pos) (tFld X.K te f) (eFld c f me) := ⟨pe_fld h.pe hb, rx_fld hc cl na h.rx⟩
def eFldO (c f : Str) (i : Nat) : M D := fun env => match getOwn env i with
  | some d => ofO (fGet c f d) env
  | none => .stuck
theorem se_fldO (i : Nat) (hc : X.mg c = some (.ref C)) (cl : Cls X.K C) (na : NoAttr X.K C f) (hN : X.N[i]? = some x := by rfl) (hv : Vis X.env.scope x := by first | exact Or.inl rfl | exact Or.inr (Or.inl rfl) | exact Or.inr (Or.inr rfl)) (hd : (x == ("__debug__" : Str)) = false := by decide)
    (hcd : (x == ("__classdict__" : Str)) = false := by decide) (hb : attributeBase (.Name x pos') f X.env (eval (.Name x pos') X.env) = eval (.Name x pos') X.env := by rfl) : SE X W (.Attribute (.Name x pos') f pos) (tFld X.K (tVar i) f) (eFldO c f i) := by
  refine ⟨pe_fld (pe_var hN hv hd hcd) hb, ?_⟩
  intro σ0 B H σ env sm Q post
  unfold eFldO at post
  cases e : getOwn env i with
  | none => rw [e] at post; exact post.elim
  | some d =>
    rw [e] at post
    have post : Post X.K X.mg W (RD X.K X.mg) σ0 σ env B H (ofO (fGet c f d) env) Q := post
    obtain ⟨a, p, _, e1, ct, _⟩ := sm.getOwn e
    refine ⟨.ref a, e1, ?_⟩
    cases h1 : fGet c f d with
    | none => rw [h1] at post; exact post.elim
    | some z =>
      rw [h1] at post
      have post2 : Post X.K X.mg W (RD X.K X.mg) σ0 σ env B H (.ok z env) Q := post
      obtain ⟨ds, rfl, hl⟩ := fGet_some h1
      cases ct with
      | ins hb hm hk rs =>
        rw [hc] at hm
        cases hm
        obtain ⟨v, e1, r1⟩ := fld_look hk rs hl
        exact ⟨_, _, _, _, v, rfl, hb, cl, na, e1, post2.val sm r1⟩
/-- self.f = e -/
def mFPut (i : Nat) (c f : Str) (m : M D) : M Fl := m.bind fun d env => match env[i]? with
  | some (some (.own p (.ins c' fs))) => if c' = c ∧ fs.length < 1000 then .ok .nx (env.set i (some (.own p (.ins c' (fPut f d fs))))) else .stuck
  | _ => .stuck
theorem rs_fput {i : Nat} (hc : mg c = some (.ref C)) (cl : Cls K C) (na : NoAttr K C f) (h : RX K mg W (RD K mg) te me) : RS K mg W (sFld K (tVar i) te f) (mFPut i c f me) := by
  intro cc σ0 B H σ env sm fr D post
  refine h.goS sm fr post fun v z B1 H1 env1 sm1 fr1 _ r1 post1 => ?_
  cases e1 : env1[i]? with
  | none => simp only [e1] at post1; exact post1.elim
  | some s =>
    simp only [e1] at post1
    match s, e1, post1 with
    | some (.own p (.ins c' fs)), e1, post1 =>
      by_cases h1 : c' = c ∧ fs.length < 1000
      · have post1 : PostS K mg W cc σ0 (if c' = c ∧ fs.length < 1000 then .ok .nx (env1.set i (some (.own p (.ins c' (fPut f z fs))))) else .stuck) D := post1
        have post3 : PostS K mg W cc σ0 (.ok .nx (env1.set i (some (.own p (.ins c' (fPut f z fs)))))) D := by
          rw [if_pos h1] at post1; exact post1
        obtain ⟨rfl, hlen⟩ := h1
        obtain ⟨v', e2, a, rfl, ct, hb, hp⟩ := sm1.sl i _ e1
        cases ct with
        | @ins C' dx _ gs _ hh hm hk rs =>
          rw [hc] at hm
          cases hm
          obtain ⟨k1, k2⟩ := fld_put (f := f) hk rs r1
          have c3 : Cont K mg B1 (upd H1 a (.ins C dx (putF f v gs))) a (.ins c' (fPut f z fs)) := .ins upd_same hc k1 k2
          exact ⟨.ref a, e2, a, _, _, _, rfl, hh, cl, na, by rw [putF_len hk]; exact hlen, post3 σ B1 _ (sm1.write e1 e2 c3) (fr1.step (stp_write e1 e2) (osub_write e1).keep)⟩
      · have post1 : PostS K mg W cc σ0 (if c' = c ∧ fs.length < 1000 then .ok .nx (env1.set i (some (.own p (.ins c' (fPut f z fs))))) else .stuck) D := post1
        rw [if_neg h1] at post1; exact post1.elim
theorem ss_fput (i : Nat) (hc : X.mg c = some (.ref C)) (cl : Cls X.K C) (na : NoAttr X.K C f) (h : SE X W e te me) (hN : X.N[i]? = some x := by rfl) (hv : Vis X.env.scope x := by first | exact Or.inl rfl | exact Or.inr (Or.inl rfl) | exact Or.inr (Or.inr rfl)) (hd : (x == ("__debug__" : Str)) = false := by decide)
    (hcd : (x == ("__classdict__" : Str)) = false := by decide) (hs : swapsWith e (some (.Attribute (.Name x p1) f pos')) pos.line X.env = pure false := by rfl) : SS X W (.Assign [.Attribute (.Name x p1) f pos'] e pos) (sFld X.K (tVar i) te f) (mFPut i c f me) :=
  ⟨ps_fld (pe_var hN hv hd hcd) h.pe hs, rs_fput hc cl na h.rx⟩
end
/-! ### C(..) -/
def newR (c : Str) (np : Nat) (mf : List Slot → Fin) (as : List Ar) (env : En) : Res D := if as.length + 1 = np ∧ ioIx as = [] then match slotsOf env as with
    | none => .stuck
    | some args => match mf (.own true (.ins c []) :: args) with
      | .ret false .non [d] => .ok d env
      | _ => .stuck
  else .stuck
def eNew (c : Str) (np : Nat) (mf : List Slot → Fin) (ma : M (List Ar)) : M D := ma.bind (newR c np mf)
section
variable {K : PySem.W.Frag} {mg : Str → Option Value} {W : WX} {c : Str} {C : Addr} {np : Nat} {mf : List Slot → Fin} {tr : TA} {mr : M (List Ar)}
theorem put_nil : ∀ {as : List Ar} {env : En}, ioIx as = [] → putOuts as [] env = some env
  | [], _, _ => rfl
  | .sh _ :: as, env, h => put_nil (as := as) h
  | .io _ :: as, _, h => by cases h
theorem slots_nil : ∀ {as : List Ar} {env : En} {args : List Slot}, ioIx as = [] → slotsOf env as = some args → ∀ p d, Slot.own p d ∉ args
  | [], _, _, _, h => by cases h; intro p d h; cases h
  | .sh z :: as, env, args, hn, h => by
    have h : (slotsOf env as).map (.shr z :: ·) = some args := h
    cases e : slotsOf env as with
    | none => rw [e] at h; cases h
    | some args' =>
      rw [e] at h
      cases h
      intro p d hm
      rcases List.mem_cons.mp hm with z | z
      · cases z
      · exact slots_nil (as := as) hn e p d z
  | .io _ :: as, _, _, h, _ => by cases h
theorem outs_nil {B H : Hp} : ∀ {vs : List V} {args : List Slot}, vs.length = args.length → (∀ p d, Slot.own p d ∉ args) → Outs K mg B H vs args []
  | [], [], _, _ => trivial
  | v :: vs, .shr _ :: as, h, n => outs_nil (vs := vs) (args := as) (by simpa using h) fun p d hm => n p d (List.mem_cons_of_mem _ hm)
  | _ :: _, .own p d :: _, _, n => (n p d List.mem_cons_self).elim
  | [], _ :: _, h, _ => by cases h
  | _ :: _, [], h, _ => by cases h
theorem rn_new (hc : mg c = some (.ref C)) (h : RX K mg W (RAr K mg) tr mr) : RN K mg W (tMake C (SpM K mg np mf) [] E0 tr) (eNew c np mf mr) := by
  intro σ0 B0 H0 σ env0 sm0 Q post0
  refine h.goN sm0 post0 fun vs as B H env sm g r post => ?_
  intro x dx hx hdx hne
  unfold newR at post
  by_cases hcnd : as.length + 1 = np ∧ ioIx as = []
  · rw [if_pos hcnd] at post
    obtain ⟨hnp, hio⟩ := hcnd
    cases es : slotsOf env as with
    | none => simp only [es] at post; exact post.elim
    | some args =>
      simp only [es] at post
      have hnd : (ioIx as).Nodup := by rw [hio]; exact List.nodup_nil
      obtain ⟨sm', _, _, hafter⟩ := call_core sm r es hnd
      have hno := slots_nil hio es
      have hlen : vs.length = args.length := by simpa using sm'.len
      have nB : ∀ a, H a = none → B a = none := fun a ha => by
        cases q : B a with
        | none => rfl
        | some o =>
          rcases sm.sub a o q with z | ⟨_, _, z⟩ <;> rw [ha] at z <;> cases z
      have hH : ∀ a, (∃ o, H a = some o) → (upd (upd H dx (.own x)) x (.ins C dx [])) a = H a := fun a ⟨o, ho⟩ => by
        rw [upd_ne (fun z => by rw [z, hx] at ho; cases ho), upd_ne (fun z => by rw [z, hdx] at ho; cases ho)]
      have hHn : ∀ a, (upd (upd H dx (.own x)) x (.ins C dx [])) a = none → H a = none := fun a ha => by
        cases q : H a with
        | none => rfl
        | some o => rw [hH a ⟨o, q⟩, q] at ha; cases ha
      have mapE : ∀ {α : Type} {l : List α} {i : Nat} {x : α}, (l.map some)[i]? = some (some x) → l[i]? = some x := fun {α l i x} h => by
        rw [List.getElem?_map] at h
        cases e : l[i]? with
        | none => rw [e] at h; cases h
        | some y => rw [e] at h; cases h; rfl
      have only : ∀ (i : Nat) (p : Bool) (d : D), (((Slot.own true (.ins c [])) :: args).map some)[i]? = some (some (Slot.own p d)) → i = 0 := fun i p d e => by
        cases i with
        | zero => rfl
        | succ i => exact (hno p d (List.mem_of_getElem? (mapE (l := args) (i := i) (by simpa using e)))).elim
      rw [List.append_nil]
      refine ⟨by rw [List.length_cons, Ars.length r]; exact hnp, B, .own true (.ins c []) :: args, ⟨fun a o q => ?_, by simp [hlen], fun i s e => ?_, fun i j p d p' d' a e1 e2 r1 r2 => by rw [only i p d e1, only j p' d' e2]⟩, fun p d hm => ?_, ?_⟩
      · rcases sm.sub a o q with z | ⟨k, ob, z⟩
        · exact .inl (by rw [hH a ⟨_, z⟩]; exact z)
        · exact .inr ⟨k, ob, by rw [hH a ⟨_, z⟩]; exact z⟩
      · cases i with
        | zero =>
          cases e
          exact ⟨.ref x, rfl, x, rfl, .ins upd_same hc rfl .nil, nB x hx, fun _ => rfl⟩
        | succ i =>
          obtain ⟨v, e1, h1⟩ := sm'.sl i s (by simpa using e)
          refine ⟨v, by simpa using e1, ?_⟩
          cases s with
          | shr d => exact h1
          | own p d => exact (hno p d (List.mem_of_getElem? (mapE (l := args) (i := i) (by simpa using e)))).elim
      · rcases List.mem_cons.mp hm with z | z
        · cases z; rfl
        · exact (hno p d z).elim
      · cases em : mf (.own true (.ins c []) :: args) with
        | stuck => simp only [em] at post; exact post.elim
        | exn _ _ => simp only [em] at post; exact post.elim
        | ret b z os =>
          simp only [em] at post
          match b, z, os, post with
          | false, .non, [d], post =>
            have post : PostN K mg W σ0 σ env B H (.ok d env) Q := post
            intro v B' H' stp sub outs rep
            cases rep
            refine ⟨rfl, ?_⟩
            obtain ⟨⟨a, ea, ct, hb⟩, _⟩ := (show (∃ a, V.ref x = V.ref a ∧ Cont K mg B' H' a d ∧ B' a = none) ∧ Outs K mg B' H' vs args [] from outs)
            cases ea
            have own0 : ∀ a, Owned ((V.ref x :: vs).map some) (((Slot.own true (.ins c [])) :: args).map some) a → a = x := fun a ⟨i, p, d, e1, e2⟩ => by
              have := only i p d e1
              subst this
              cases e2; rfl
            have stp2 : ∀ O : Addr → Prop, Stp O B H B' H' := fun O => ⟨stp.grow, fun a o q => (stp.new a o q).imp id (hHn a), fun a o q n => stp.frame a o (by rw [hH a ⟨o, q⟩]; exact q) (fun z => by
              have := own0 a z
              rw [this, hx] at q
              cases q), fun a o q => stp.there a o (by rw [hH a ⟨o, q⟩]; exact q)⟩
            obtain ⟨sm2, os2⟩ := hafter [] env (put_nil hio) B' H' (stp2 _) sub (outs_nil hlen hno)
            exact post x B' H' (stp2 _) sm2 os2 ct hb hx
  · rw [if_neg hcnd] at post; exact post.elim
end
section
variable {X : Cx} {W : WX} {c x : Str} {C f : Addr} {np k : Nat} {fd : FuncData} {ps : List Str} {mf : List Slot → Fin} {e : Expr} {es : List Expr} {tr : TA} {mr : M (List Ar)} {pos p : Pos}
theorem sn_new (M : Mk X.K C f) (F : FnOk X.prog X.w X.K X.mg X.base (L2.CX X.prog X.w) k f fd ps (SpM X.K X.mg np mf)) (hr : Room (k + 1) X.A) (hm : X.mg x = some (.ref C)) (hb : Binds X.K fd ps [])
    (ha : SAr X W (e :: es) tr mr) (hg : Gl X x := by rfl) (hdb : (x == ("__debug__" : Str)) = false := by decide) (he : starEach (e :: es) X.env = (false, eval e X.env) :: starEach es X.env := by rfl) (hpl : (backTo pos (starEach es X.env)).any (·.1) = false := by rfl) :
    SN X W (.Call (.Name x p) (e :: es) [] pos) (tMake C (SpM X.K X.mg np mf) [] E0 tr) (eNew x np mf mr) :=
  ⟨pe_make M F hr hg hm hb .nil (fun _ _ _ _ _ _ _ h => by
    obtain ⟨_, _, _, _, _, _, _, _, _, _, _, _, z⟩ := h
    exact z.elim) ha.pa hdb he hpl, rn_new hm ha.rx⟩
end
end Mi

/-! The mirror layer 14: list.index; a def that calls itself. -/
namespace Mi
open PySem L2
section
variable {P : Program} {w : World} {K : PySem.W.Frag} {mg : Str → Option Value} {base : Heap} {CX : CXT} {k : Nat} {f : Addr} {fd : FuncData} {ps : List Str} {np : Nat}
theorem fn_stuck : FnOk P w K mg base CX k f fd ps (SpM K mg np fun _ => .stuck) := by
  constructor
  · rintro vs H Q E ⟨_, B, args, _, _, h⟩
    exact (h : False).elim
  · intro A outer s H args us vs Q E _ _ _ _ h
    obtain ⟨_, B, args, _, _, h⟩ := h
    exact (h : False).elim
end
section
variable {X : Cx} {W : WX} {K : PySem.W.Frag} {mg : Str → Option Value} {o e : Expr} {to te : TE} {mo me : M D} {pos apos : Pos}
/-- xs.index(y), found -/
def dLIx (d c : D) : Option D := match d with
  | .lst xs => (toVs xs).bind fun us => (toV c).bind fun u => (us.findIdx? fun z => eqV z u).map fun j => .int (j : Nat)
  | .frz xs => (toVs xs).bind fun us => (toV c).bind fun u => (us.findIdx? fun z => eqV z u).map fun j => .int (j : Nat)
  | _ => none
theorem lix_core {B : Hp} {vs : List V} {ds : List D} {y : V} {c z : D} (rs : Reps K mg B vs ds) (r : Rep K mg B y c) (h : ((toVs ds).bind fun us => (toV c).bind fun u => (us.findIdx? fun z => eqV z u).map fun j => D.int (j : Nat)) = some z) :
    ∃ (j : Nat) (w : V), z = .int (j : Nat) ∧ flatV y = true ∧ vs.all flatV = true ∧ vs[j]? = some w ∧ eqV w y = true ∧ ∀ (m : Nat) (w' : V), m < j → vs[m]? = some w' → eqV w' y = false := by
  cases e1 : toVs ds with
  | none => rw [e1] at h; cases h
  | some us =>
    rw [e1] at h
    have h : ((toV c).bind fun u => (us.findIdx? fun z => eqV z u).map fun j => D.int (j : Nat)) = some z := h
    cases e2 : toV c with
    | none => rw [e2] at h; cases h
    | some u =>
      rw [e2] at h
      have h : ((us.findIdx? fun z => eqV z u).map fun j => D.int (j : Nat)) = some z := h
      cases e3 : us.findIdx? fun z => eqV z u with
      | none => rw [e3] at h; cases h
      | some j =>
        rw [e3] at h
        cases h
        obtain ⟨rfl, fy⟩ := toV_rep e2 r
        obtain ⟨rfl, fs⟩ := toVs_rep e1 rs
        obtain ⟨hj, h1, h2⟩ := List.findIdx?_eq_some_iff_getElem.mp e3
        refine ⟨j, vs[j], rfl, fy, fs, List.getElem?_eq_getElem hj, h1, fun m w' hm hw => ?_⟩
        have := h2 m hm
        rw [List.getElem?_eq_getElem (Nat.lt_trans hm hj)] at hw
        cases hw
        simpa using this
def isLs : D → Bool
  | .lst _ => true
  | .frz _ => true
  | _ => false
def eLIx (mo me : M D) : M D := mo.bind fun d => if isLs d = true then me.bind fun b => ofO (dLIx d b) else fun _ => .stuck
theorem rx_lix (ho : RX K mg W (RD K mg) to mo) (he : RX K mg W (RD K mg) te me) : RX K mg W (RD K mg) (tBM K "list" (rIndex K) to (tCons te tNil)) (eLIx mo me) := by
  refine ho.bind (R := RD K mg) (t2 := fun x σ H1 (Q : VK) => tyV K "list" x H1 ∧ tCons te tNil σ H1 fun xs H2 => rIndex K x xs H2 Q) (k := fun d => if isLs d = true then me.bind fun b => ofO (dLIx d b) else fun _ => .stuck) fun v d σ0 B H σ env sm rr Q post => ?_
  have key : ∀ {a : Addr} {vs : List V} {ds : List D}, Post K mg W (RD K mg) σ0 σ env B H (me.bind (fun b => ofO (dLIx d b)) env) Q → SqL K B a vs → Reps K mg B vs ds → v = .ref a → (∀ c, dLIx d c = ((toVs ds).bind fun us => (toV c).bind fun u => (us.findIdx? fun z => eqV z u).map fun j => D.int (j : Nat))) → tyV K "list" v H ∧ tCons te tNil σ H fun xs H2 => rIndex K v xs H2 Q := by
    intro a vs ds post hs rs ev hd
    subst ev
    refine ⟨.inl ⟨rfl, vs, sm.sub.sqL hs⟩, ?_⟩
    refine he.go sm post fun w c B1 H1 env1 sm1 g1 r1 post1 => ?_
    show rIndex K (.ref a) [w] H1 Q
    cases e1 : dLIx d c with
    | none => rw [e1] at post1; exact post1.elim
    | some z =>
      rw [e1] at post1
      obtain ⟨j, u, rfl, fy, fs, h1, h2, h3⟩ := lix_core (rs.mono g1) r1 ((hd c).symm.trans e1)
      exact ⟨a, vs, w, j, u, rfl, rfl, sm1.sub.sqL (sqL_mono g1 hs), fy, fs, h1, h2, h3, post1.val sm1 (.int _)⟩
  cases rr with
  | lst hb rs => exact key post (.inl (.inl hb)) rs rfl fun _ => rfl
  | frz hb rs => exact key post hb rs rfl fun _ => rfl
  | _ => exact (post : False).elim
end
section
variable {X : Cx} {W : WX} {o e : Expr} {to te : TE} {mo me : M D} {cpos apos : Pos}
theorem se_lix (ho : SE X W o to mo) (he : SE X W e te me) (hs : starEach [e] X.env = (false, eval e X.env) :: starEach [] X.env := by rfl) (hbase : attributeBase o "index" X.env (eval o X.env) = eval o X.env := by rfl)
    (hfew : ((backTo cpos (starEach [e] X.env)).all (fun x => !x.1) && (backToKw cpos (keywordEach [] X.env)).all (fun x => x.1.isSome)
      && decide ([e].length + ([] : List Keyword).length + (if ([] : List Keyword).isEmpty then 0 else 1) < 30)) = true := by rfl) (hline : (apos.endLine == cpos.line) = true := by rfl) :
    SE X W (.Call (.Attribute o "index" apos) [e] [] cpos) (tBM X.K "list" (rIndex X.K) to (tCons te tNil)) (eLIx mo me) :=
  ⟨pe_bm PySem.F.plainAttrs_list PySem.F.slot_list_index PySem.F.type_list_index mt_index ho.pe (pa_cons he.pe pa_nil hs) hbase hfew hline hs (by rfl), rx_lix ho.rx he.rx⟩
end
/-! ### tuples of the written part -/
section
variable {X : Cx} {W : WX} {x : Str} {a : Addr} {pos : Pos}
theorem rep_tuple {K : PySem.W.Frag} {mg : Str → Option Value} {a : Addr} {o : Obj} {its : Array Value} {n : Nat} {vs : List V} {ds : List D} (hk : K.lookup a = some o) (hc : o.cls = .type "tuple") (hd : o.data = .seq its n) (hz : its.size ≤ sizeLine) (hv : Vals vs its.toList) (h : ∀ B, Reps K mg B vs ds) :
    ∀ B, Rep K mg B (.ref a) (.ftp ds) := fun B => .ftp (.inr ⟨o, its, n, hk, hc, hd, hz, hv⟩) (h B)
theorem se_gr {d : D} (hm : X.mg x = some (.ref a)) (h : ∀ B, Rep X.K X.mg B (.ref a) d) (hg : Gl X x := by rfl) (hd : (x == ("__debug__" : Str)) = false := by decide) : SE X W (.Name x pos) (tC (.ref a)) (eC d) := se_g d hm rfl h hg hd
end
end Mi

/-! Values of the mirrors: plain rules. -/
namespace Mi
open PySem L2
section
variable {ma mb mc : M D} {env : En}
@[simp] theorem M.bind_ap {α β : Type} (m : M α) (k : α → M β) : M.bind m k env = (m env).bind k := rfl
@[simp] theorem M.pure_ap {α : Type} (a : α) : M.pure a env = .ok a env := rfl
@[simp] theorem eOp_ap (f : D → D → Option D) : eOp f ma mb env = (ma env).bind fun a e => (mb e).bind fun b e => ofO (f a b) e := rfl
@[simp] theorem eUn_ap (f : D → Option D) : eUn f ma env = (ma env).bind fun a e => ofO (f a) e := rfl
@[simp] theorem eTest_ap : eTest ma env = (ma env).bind fun a e => ofO (asB a) e := rfl
@[simp] theorem asB_bl (b : Bool) : asB (.bl b) = some b := rfl
@[simp] theorem eC_ap (d : D) : eC d env = .ok d env := rfl
@[simp] theorem aNil_ap : aNil env = .ok [] env := rfl
@[simp] theorem aCons_ap (m : M D) (r : M (List D)) : aCons m r env = (m env).bind fun a e => (r e).bind fun as e => .ok (a :: as) e := rfl
@[simp] theorem eCB_ap (f : List D → Option D) (m : M (List D)) : eCB f m env = (m env).bind fun as e => ofO (f as) e := rfl
@[simp] theorem bAnd_ap (m n : M Bool) : bAnd m n env = (m env).bind fun a e => if a = true then n e else .ok false e := by
  show (m env).bind _ = _
  congr 1; funext a e; cases a <;> rfl
@[simp] theorem bOr_ap (m n : M Bool) : bOr m n env = (m env).bind fun a e => if a = true then .ok true e else n e := by
  show (m env).bind _ = _
  congr 1; funext a e; cases a <;> rfl
@[simp] theorem bNot_ap (m : M Bool) : bNot m env = (m env).bind fun a e => .ok (!a) e := rfl
@[simp] theorem eAnd_ap : eAnd ma mb env = (ma env).bind fun d => match d with
  | .bl true => mb
  | .bl false => M.pure (.bl false)
  | _ => fun _ => .stuck := rfl
@[simp] theorem eOr_ap : eOr ma mb env = (ma env).bind fun d => match d with
  | .bl true => M.pure (.bl true)
  | .bl false => mb
  | _ => fun _ => .stuck := rfl
@[simp] theorem eNot_ap : eNot ma env = (ma env).bind fun d => match d with
  | .bl b => M.pure (.bl (!b))
  | _ => fun _ => .stuck := rfl
@[simp] theorem eIf_ap (t : M Bool) : eIf t ma mb env = (t env).bind fun c e => if c = true then ma e else mb e := by
  show (t env).bind _ = _
  congr 1; funext a e; cases a <;> rfl
@[simp] theorem eTup_ap (m : M (List D)) : eTup m env = (m env).bind fun as e => ofO (if as.length ≤ 16777216 then some (.tup as) else none) e := rfl
@[simp] theorem eLst_ap (m : M (List D)) : eLst m env = (m env).bind fun as e => ofO (if as.length ≤ 16777216 then some (.lst as) else none) e := rfl
@[simp] theorem mSet_ap (i : Nat) : mSet i ma env = (ma env).bind fun d e => .ok .nx (e.set i (some (.shr d))) := rfl
@[simp] theorem mSetN_ap (i : Nat) : mSetN i ma env = (ma env).bind fun d e => .ok .nx (e.set i (some (.own false d))) := rfl
@[simp] theorem mIf_ap (t : M Bool) (m n : M Fl) : mIf t m n env = (t env).bind fun c e => if c = true then m e else n e := by
  show (t env).bind _ = _
  congr 1; funext a e; cases a <;> rfl
@[simp] theorem mRet_ap : mRet ma env = (ma env).bind fun d e => .ok (.rt false d) e := rfl
@[simp] theorem mRetN_ap : mRetN ma env = (ma env).bind fun d e => .ok (.rt true d) e := rfl
@[simp] theorem mNx_ap : mNx env = .ok .nx env := rfl
@[simp] theorem rNil_ap : rNil env = .ok [] env := rfl
@[simp] theorem rSh_ap (r : M (List Ar)) : rSh ma r env = (ma env).bind fun a e => (r e).bind fun as e => .ok (.sh a :: as) e := rfl
def seqR (r : Res Fl) (n : M Fl) : Res Fl := match r with
  | .ok .nx env' => n env'
  | r => r
@[simp] theorem mSeq_ap (m n : M Fl) : mSeq m n env = seqR (m env) n := rfl
@[simp] theorem seqR_nx (n : M Fl) (e : En) : seqR (.ok .nx e) n = n e := rfl
@[simp] theorem seqR_rt (n : M Fl) (o : Bool) (d : D) (e : En) : seqR (.ok (.rt o d) e) n = .ok (.rt o d) e := rfl
@[simp] theorem seqR_ct (n : M Fl) (e : En) : seqR (.ok .ct e) n = .ok .ct e := rfl
@[simp] theorem seqR_bk (n : M Fl) (e : En) : seqR (.ok .bk e) n = .ok .bk e := rfl
@[simp] theorem eSl_ap (f : D → Option Int → Option Int → Option D) (m : M D) (ml mh : M (Option Int)) : eSl f m ml mh env = (m env).bind fun d e => (ml e).bind fun l e => (mh e).bind fun h e => ofO (f d l h) e := rfl
@[simp] theorem oNone_ap : oNone env = .ok none env := rfl
def oSomeF : D → M (Option Int)
  | .int i => M.pure (some i)
  | _ => fun _ => .stuck
@[simp] theorem oSome_ap : oSome ma env = (ma env).bind oSomeF := rfl
@[simp] theorem oSomeF_i (i : Int) : oSomeF (.int i) env = .ok (some i) env := rfl
end
/-! ### values -/
theorem ofString_inj {a b : String} : (Str.ofString a = Str.ofString b) ↔ a = b := by
  constructor
  · intro h
    rw [Str.ofString_eq_toList, Str.ofString_eq_toList] at h
    have h1 : a.toList.map Char.toNat = b.toList.map Char.toNat := by
      have := congrArg (fun s : Str => s.cps.toList) h
      simpa using this
    have h2 : a.toList = b.toList := List.map_inj_right (fun x y e => Char.toNat_inj.mp e) |>.mp h1
    exact String.toList_inj.mp h2
  · rintro rfl; rfl
@[simp] theorem dAdd_i (i j : Int) : dAdd (.int i) (.int j) = some (.int (i + j)) := rfl
@[simp] theorem dSub_i (i j : Int) : dSub (.int i) (.int j) = some (.int (i - j)) := rfl
theorem dDiv_i (i j : Int) (h : j ≠ 0) (h2 : j.natAbs.log2 < 9000) : dDiv (.int i) (.int j) = some (.int (i.fdiv j)) := if_pos ⟨h, h2⟩
theorem dMod_i (i j : Int) (h : j ≠ 0) : dMod (.int i) (.int j) = some (.int (i.fmod j)) := if_pos h
theorem log2_lt {n k : Nat} (h : n < 2 ^ k) (hk : 0 < k) : n.log2 < k := by
  by_cases h0 : n = 0
  · subst h0; simpa using hk
  · exact (Nat.log2_lt h0).mpr h
theorem dMul_i (i j : Int) (h1 : i.natAbs < 2 ^ 200) (h2 : j.natAbs < 2 ^ 200) : dMul (.int i) (.int j) = some (.int (i * j)) := by
  have a := log2_lt h1 (by decide)
  have b := log2_lt h2 (by decide)
  have c : smallMul i j = true := decide_eq_true (by omega)
  exact if_pos c
@[simp] theorem dOrd_i (f g) (i j : Int) : dOrd f g (.int i) (.int j) = some (.bl (f i j)) := rfl
@[simp] theorem dOrd_s (f g) (i j : Str) : dOrd f g (.str i) (.str j) = some (.bl (g i.cps.toList j.cps.toList)) := rfl
@[simp] theorem dOrd_b (f g) (i j : Bool) : dOrd f g (.bl i) (.bl j) = some (.bl (f (PyProof.Rows.b2i i) (PyProof.Rows.b2i j))) := rfl
theorem shp_int (i : Int) : SeqAt.shaped (.int i) = true := rfl
theorem strOk_of (s : String) : PyData.strOk (Str.ofString s) = true := by
  rw [Str.ofString_eq_toList]
  unfold PyData.strOk
  simp only [List.all_toArray, List.all_eq_true, List.mem_map, decide_eq_true_eq]
  rintro n ⟨c, _, rfl⟩
  have := c.valid
  unfold UInt32.isValidChar Nat.isValidChar at this
  unfold Char.toNat
  omega
theorem shp_str {i : Str} (h : PyData.strOk i = true) : SeqAt.shaped (.str i) = true := by
  unfold SeqAt.shaped
  rw [PyData.canLay0, h]; rfl
theorem shp_bl (i : Bool) : SeqAt.shaped (.bool i) = true := rfl
theorem shp_non : SeqAt.shaped .none = true := rfl
@[simp] theorem dEq_i (i j : Int) : dEq (.int i) (.int j) = some (.bl (decide (i = j))) := rfl
@[simp] theorem dNe_i (i j : Int) : dNe (.int i) (.int j) = some (.bl (!decide (i = j))) := rfl
theorem dEq_s {i j : Str} (h : PyData.strOk i = true) (h2 : PyData.strOk j = true) : dEq (.str i) (.str j) = some (.bl (decide (i = j))) := by
  unfold dEq
  rw [toPy, toPy, shp_str h, shp_str h2]; rfl
theorem dNe_s {i j : Str} (h : PyData.strOk i = true) (h2 : PyData.strOk j = true) : dNe (.str i) (.str j) = some (.bl (!decide (i = j))) := by
  unfold dNe
  rw [toPy, toPy, shp_str h, shp_str h2]; rfl
@[simp] theorem dEq_l (i j : String) : dEq (.str (Str.ofString i)) (.str (Str.ofString j)) = some (.bl (decide (i = j))) := by
  rw [dEq_s (strOk_of _) (strOk_of _), decide_eq_decide.mpr ofString_inj]
@[simp] theorem dNe_l (i j : String) : dNe (.str (Str.ofString i)) (.str (Str.ofString j)) = some (.bl (!decide (i = j))) := by
  rw [dNe_s (strOk_of _) (strOk_of _), decide_eq_decide.mpr ofString_inj]
@[simp] theorem dEq_b (i j : Bool) : dEq (.bl i) (.bl j) = some (.bl (i == j)) := by cases i <;> cases j <;> rfl
@[simp] theorem dNe_b (i j : Bool) : dNe (.bl i) (.bl j) = some (.bl (!(i == j))) := by cases i <;> cases j <;> rfl
@[simp] theorem dInt_i (i : Int) : dInt [.int i] = some (.int i) := rfl
@[simp] theorem dLen_l (xs : List D) : dLen [.lst xs] = some (.int xs.length) := rfl
@[simp] theorem dLen_f (xs : List D) : dLen [.frz xs] = some (.int xs.length) := rfl
@[simp] theorem dLen_t (xs : List D) : dLen [.tup xs] = some (.int xs.length) := rfl
theorem dLen_s (z : Str) (h : z.length ≤ 16777216) : dLen [.str z] = some (.int z.length) := if_pos h
@[simp] theorem toKey_s (s : Str) : toKey (.str s) = some (.inr s) := rfl
@[simp] theorem toKey_i (s : Int) : toKey (.int s) = some (.inl s) := rfl
theorem dLook_nil {κ : Type} [DecidableEq κ] (k : κ) : dLook ([] : List (κ × D)) k = none := rfl
theorem dLook_cons {κ : Type} [DecidableEq κ] (k k' : κ) (v : D) (r : List (κ × D)) : dLook ((k', v) :: r) k = if k' = k then some v else dLook r k := by
  unfold dLook
  rw [List.find?_cons]
  by_cases h : k' = k
  · simp [h]
  · simp [h]
/-! ### calls -/
def callR (np : Nat) (mf : List Slot → Fin) (as : List Ar) (env : En) : Res D := if as.length = np ∧ (ioIx as).Nodup then match slotsOf env as with
    | none => .stuck
    | some args => match mf args with
      | .ret false d os => match putOuts as os env with
        | some env' => .ok d env'
        | none => .stuck
      | .exn x os => match putOuts as os env with
        | some env' => .exn x env'
        | none => .stuck
      | _ => .stuck
  else .stuck
def callN (np : Nat) (mf : List Slot → Fin) (as : List Ar) (env : En) : Res D := if as.length = np ∧ (ioIx as).Nodup then match slotsOf env as with
    | none => .stuck
    | some args => match mf args with
      | .ret true d os => match putOuts as os env with
        | some env' => .ok d env'
        | none => .stuck
      | .exn x os => match putOuts as os env with
        | some env' => .exn x env'
        | none => .stuck
      | _ => .stuck
  else .stuck
section
variable {env : En}
@[simp] theorem eCall_ap (np : Nat) (mf : List Slot → Fin) (ma : M (List Ar)) : eCall np mf ma env = (ma env).bind (callR np mf) := rfl
@[simp] theorem eCallN_ap (np : Nat) (mf : List Slot → Fin) (ma : M (List Ar)) : eCallN np mf ma env = (ma env).bind (callN np mf) := rfl
def forF (g : D → En → Option En) (body : M Fl) (clr : List Nat) (ds : List D) (env : En) : Res Fl := forL g body clr ds env
@[simp] theorem mFor_ap (mi : M (List D)) (g : D → En → Option En) (body : M Fl) (clr : List Nat) : mFor mi g body clr env = (mi env).bind fun ds e => forL g body clr ds e := rfl
@[simp] theorem iL_ap (m : M D) : iL m env = (m env).bind fun d => match d with
  | .lst xs => M.pure xs
  | .frz xs => M.pure xs
  | _ => fun _ => .stuck := rfl
@[simp] theorem iS_ap (m : M D) : iS m env = (m env).bind fun d => match d with
  | .str z => M.pure (z.cps.toList.map fun c => .str ⟨#[c]⟩)
  | _ => fun _ => .stuck := rfl
def iR1F : List D → M (List D)
  | [.int j] => if small62 j then M.pure (rngD 0 j.toNat) else fun _ => .stuck
  | _ => fun _ => .stuck
def iR2F : List D → M (List D)
  | [.int i, .int j] => if small62 i && small62 j then M.pure (rngD i (j - i).toNat) else fun _ => .stuck
  | _ => fun _ => .stuck
@[simp] theorem iR1_ap (m : M (List D)) : iR1 m env = (m env).bind iR1F := rfl
@[simp] theorem iR2_ap (m : M (List D)) : iR2 m env = (m env).bind iR2F := rfl
theorem iR1F_ok {j : Int} (h : small62 j = true) : iR1F [.int j] env = .ok (rngD 0 j.toNat) env := by
  unfold iR1F
  dsimp only
  rw [if_pos h]
  rfl
theorem iR2F_ok {i j : Int} (h : small62 i = true) (g : small62 j = true) : iR2F [.int i, .int j] env = .ok (rngD i (j - i).toNat) env := by
  unfold iR2F
  dsimp only
  rw [h, g]
  rfl
theorem small_of {i : Int} (h : -1000000000 ≤ i) (h2 : i ≤ 1000000000) : small62 i = true := by
  unfold small62
  rw [Bool.and_eq_true]
  exact ⟨Nat.ble_eq_true_of_le (by omega), Nat.ble_eq_true_of_le (by omega)⟩
def lcR (g : D → En → Option En) (t : M Bool) (m : M D) (vs : List Nat) (ds : List D) (env : En) : Res D := if ds.length ≤ 16777216 then match lcL g t m vs ds (wipeE env vs) with
    | .ok ys env' => .ok (.lst ys) (backE env env' vs)
    | _ => .stuck
  else .stuck
@[simp] theorem eLc_ap (mi : M (List D)) (g : D → En → Option En) (t : M Bool) (m : M D) (vs : List Nat) : eLc mi g t m vs env = (mi env).bind (lcR g t m vs) := rfl
@[simp] theorem eJoin_ap (ma mb : M D) : eJoin ma mb env = (ma env).bind fun d e => match d with
  | .str a => (mb e).bind fun c => ofO (joinD a c)
  | _ => .stuck := by
  show (ma env).bind _ = _
  congr 1
  funext d e
  cases d <;> rfl
end
/-! ### loops -/
theorem forL_nil {g : D → En → Option En} {body : M Fl} {clr : List Nat} {env : En} : forL g body clr [] env = .ok .nx env := rfl
theorem forL_nx {g : D → En → Option En} {body : M Fl} {clr : List Nat} {env env1 env2 : En} {x : D} {xs : List D} (h : g x env = some env1) (h2 : body env1 = .ok .nx env2) : forL g body clr (x :: xs) env = forL g body clr xs (clrE clr env2) := by
  simp only [forL, h, h2]
theorem forL_rt {g : D → En → Option En} {body : M Fl} {clr : List Nat} {env env1 env2 : En} {x : D} {xs : List D} {o : Bool} {d : D} (h : g x env = some env1) (h2 : body env1 = .ok (.rt o d) env2) : forL g body clr (x :: xs) env = .ok (.rt o d) env2 := by
  simp only [forL, h, h2]
def Nx (r : Res Fl) (p : En → Prop) : Prop := match r with
  | .ok .nx e => p e
  | _ => False
@[simp] theorem Nx_ok {e : En} {p : En → Prop} : Nx (.ok .nx e) p = p e := rfl
theorem Nx_ex {r : Res Fl} {p : En → Prop} (h : Nx r p) : ∃ e, r = .ok .nx e ∧ p e := by
  unfold Nx at h
  split at h
  · exact ⟨_, rfl, h⟩
  · exact h.elim
def Tn (g : D → En → Option En) (body : M Fl) (x : D) (env : En) (p : En → Prop) : Prop := match g x env with
  | some e => Nx (body e) p
  | none => False
@[simp] theorem Tn_gN {i : Nat} {body : M Fl} {x : D} {env : En} {p : En → Prop} : Tn (gN i) body x env p = Nx (body (env.set i (some (.shr x)))) p := rfl
/-- a loop that goes through: P of what is left and of the slots -/
theorem forL_all {g : D → En → Option En} {body : M Fl} {clr : List Nat} (P : List D → En → Prop) (h : ∀ x xs env, P (x :: xs) env → Tn g body x env fun e => P xs (clrE clr e)) :
    ∀ (ds : List D) (env : En), P ds env → ∃ env', forL g body clr ds env = .ok .nx env' ∧ P [] env'
  | [], env, p => ⟨env, rfl, p⟩
  | x :: xs, env, p => by
    have t := h x xs env p
    unfold Tn at t
    split at t
    · rename_i e1 h1
      obtain ⟨e2, h2, p2⟩ := Nx_ex t
      rw [forL_nx h1 h2]
      exact forL_all P h xs _ p2
    · exact t.elim
/-! ### places -/
theorem atI_get {α : Type} (xs : List α) (i : Int) (h0 : 0 ≤ i) (h1 : i < xs.length) : atI xs i = xs[i.toNat]? := by
  unfold atI ixN
  rw [if_pos h0, if_pos h1]
  rfl
theorem dIx_l (xs : List D) (i : Int) (h0 : 0 ≤ i) (h1 : i < xs.length) : dIx (.lst xs) (.int i) = xs[i.toNat]? := atI_get xs i h0 h1
theorem dIx_s (z : Str) (i : Int) (hz : z.length ≤ 16777216) (h0 : 0 ≤ i) (h1 : i < z.length) : dIx (.str z) (.int i) = (z.cps.toList[i.toNat]?).map fun c => .str ⟨#[c]⟩ := by
  refine (if_pos hz).trans ?_
  rw [atI_get _ _ h0 h1]
end Mi

/-! Values of the mirrors: isinstance, texts, comprehensions. -/
namespace Mi
open PySem L2
@[simp] theorem kb1 : kitB "NoneType" "int" = some false := by decide +kernel
@[simp] theorem kb2 : kitB "bool" "int" = some true := by decide +kernel
@[simp] theorem kb3 : kitB "int" "int" = some true := by decide +kernel
@[simp] theorem kb4 : kitB "str" "int" = some false := by decide +kernel
@[simp] theorem kb5 : kitB "tuple" "int" = some false := by decide +kernel
@[simp] theorem kb6 : kitB "list" "int" = some false := by decide +kernel
@[simp] theorem kb11 : kitB "NoneType" "bool" = some false := by decide +kernel
@[simp] theorem kb12 : kitB "bool" "bool" = some true := by decide +kernel
@[simp] theorem kb13 : kitB "int" "bool" = some false := by decide +kernel
@[simp] theorem kb14 : kitB "str" "bool" = some false := by decide +kernel
@[simp] theorem kb15 : kitB "tuple" "bool" = some false := by decide +kernel
@[simp] theorem kb16 : kitB "list" "bool" = some false := by decide +kernel
@[simp] theorem kb21 : kitB "NoneType" "str" = some false := by decide +kernel
@[simp] theorem kb22 : kitB "bool" "str" = some false := by decide +kernel
@[simp] theorem kb23 : kitB "int" "str" = some false := by decide +kernel
@[simp] theorem kb24 : kitB "str" "str" = some true := by decide +kernel
@[simp] theorem kb25 : kitB "tuple" "str" = some false := by decide +kernel
@[simp] theorem kb26 : kitB "list" "str" = some false := by decide +kernel
@[simp] theorem kb31 : kitB "NoneType" "tuple" = some false := by decide +kernel
@[simp] theorem kb32 : kitB "bool" "tuple" = some false := by decide +kernel
@[simp] theorem kb33 : kitB "int" "tuple" = some false := by decide +kernel
@[simp] theorem kb34 : kitB "str" "tuple" = some false := by decide +kernel
@[simp] theorem kb35 : kitB "tuple" "tuple" = some true := by decide +kernel
@[simp] theorem kb36 : kitB "list" "tuple" = some false := by decide +kernel
@[simp] theorem kb41 : kitB "NoneType" "list" = some false := by decide +kernel
@[simp] theorem kb42 : kitB "bool" "list" = some false := by decide +kernel
@[simp] theorem kb43 : kitB "int" "list" = some false := by decide +kernel
@[simp] theorem kb44 : kitB "str" "list" = some false := by decide +kernel
@[simp] theorem kb45 : kitB "tuple" "list" = some false := by decide +kernel
@[simp] theorem kb46 : kitB "list" "list" = some true := by decide +kernel
section
variable {ma mb mc : M D} {env : En}
@[simp] theorem eIsI_ap (T : String) : eIsI T ma env = (ma env).bind fun d e => ofO (isTy T d) e := rfl
@[simp] theorem isTy_non (T : String) : isTy T .non = (kitB "NoneType" T).map .bl := rfl
@[simp] theorem isTy_bl (T : String) (b : Bool) : isTy T (.bl b) = (kitB "bool" T).map .bl := rfl
@[simp] theorem isTy_int (T : String) (b : Int) : isTy T (.int b) = (kitB "int" T).map .bl := rfl
@[simp] theorem isTy_str (T : String) (b : Str) : isTy T (.str b) = (kitB "str" T).map .bl := rfl
@[simp] theorem isTy_tup (T : String) (b : List D) : isTy T (.tup b) = (kitB "tuple" T).map .bl := rfl
@[simp] theorem isTy_lst (T : String) (b : List D) : isTy T (.lst b) = (kitB "list" T).map .bl := rfl
@[simp] theorem eChain_ap (f g : D → D → Option D) : eChain f g ma mb mc env = (ma env).bind fun a e => (mb e).bind fun b e => match f a b with
  | some (.bl true) => (mc e).bind fun c e => ofO (g b c) e
  | some (.bl false) => .ok (.bl false) e
  | _ => .stuck := rfl
end
theorem in_sign (c : Nat) (z : Str) : inS ⟨#[c]⟩ z = decide (c ∈ z.cps.toList) := StrLaws.found_one z c
/-- of signs that the text may have -/
def okC (c : Nat) : Prop := c = 10 ∨ (32 ≤ c ∧ c ≤ 36) ∨ (38 ≤ c ∧ c ≤ 126)
instance (c : Nat) : Decidable (okC c) := by unfold okC; exact inferInstance
def OkS (s : Str) : Prop := ∀ c ∈ s.cps.toList, okC c
instance (s : Str) : Decidable (OkS s) := by unfold OkS; exact inferInstance
theorem okC_lt {c : Nat} (h : okC c) : c < 0x110000 := by unfold okC at h; omega
theorem OkS.ok {s : Str} (h : OkS s) : PyData.strOk s = true := by
  unfold PyData.strOk
  rw [Array.all_eq_true']
  intro c hc
  exact decide_eq_true (okC_lt (h c (Array.mem_toList_iff.mpr hc)))
theorem strOk_one {c : Nat} (h : okC c) : PyData.strOk ⟨#[c]⟩ = true := by
  have : OkS ⟨#[c]⟩ := by
    intro d hd
    have : d = c := by simpa using hd
    rw [this]; exact h
  exact this.ok
theorem one_inj {c d : Nat} : ((⟨#[c]⟩ : Str) = ⟨#[d]⟩) ↔ c = d := by
  constructor
  · intro h
    have := congrArg (fun s : Str => s.cps.toList) h
    simpa using this
  · rintro rfl; rfl
theorem OkS.append {s t : Str} (h : OkS s) (g : OkS t) : OkS (s ++ t) := by
  intro c hc
  have e : (s ++ t).cps.toList = s.cps.toList ++ t.cps.toList := Array.toList_append
  rw [e] at hc
  rcases List.mem_append.mp hc with x | x
  · exact h c x
  · exact g c x
theorem len_append (s t : Str) : (s ++ t).length = s.length + t.length := Array.size_append
theorem str_len (s : Str) : s.length = s.cps.toList.length := Array.length_toList.symm
/-! joins -/
theorem join_go (xs : List Str) : ∀ acc : Array Nat, (xs.foldl (fun acc p => acc ++ (Str.ofString "").cps ++ p.cps) acc).toList = acc.toList ++ xs.flatMap fun x => x.cps.toList := by
  have e : (Str.ofString "").cps = #[] := by decide +kernel
  rw [e]
  induction xs with
  | nil => intro acc; simp
  | cons x xs ih => intro acc; rw [List.foldl_cons, ih]; simp
theorem join_cps (xs : List Str) : (Txt.join (Str.ofString "") xs).cps.toList = xs.flatMap fun x => x.cps.toList := by
  cases xs with
  | nil => rfl
  | cons x xs =>
    show (xs.foldl (fun acc p => acc ++ (Str.ofString "").cps ++ p.cps) x.cps).toList = _
    rw [join_go, List.flatMap_cons]
/-- all the items are texts of one sign that may be -/
theorem join_ones : ∀ (ds : List D), (∀ d ∈ ds, ∃ c, d = .str ⟨#[c]⟩ ∧ okC c) → ds.length ≤ 1000 → ∃ s, joinD (Str.ofString "") (.lst ds) = some (.str s) ∧ OkS s ∧ s.length = ds.length := by
  intro ds h hl
  have key : ∀ ds : List D, (∀ d ∈ ds, ∃ c, d = .str ⟨#[c]⟩ ∧ okC c) → ∃ cs : List Nat, strsOf ds = some (cs.map fun c => ⟨#[c]⟩) ∧ cs.length = ds.length ∧ ∀ c ∈ cs, okC c := by
    intro ds
    induction ds with
    | nil => intro _; exact ⟨[], rfl, rfl, by simp⟩
    | cons d ds ih =>
      intro h
      obtain ⟨c, rfl, hc⟩ := h d List.mem_cons_self
      obtain ⟨cs, e, l, o⟩ := ih fun x hx => h x (List.mem_cons_of_mem _ hx)
      refine ⟨c :: cs, ?_, by simp [l], ?_⟩
      · show (strsOf ds).map _ = _
        rw [e]; rfl
      · intro x hx
        rcases List.mem_cons.mp hx with rfl | hx
        · exact hc
        · exact o x hx
  obtain ⟨cs, e, l, o⟩ := key ds h
  have hc : (Txt.join (Str.ofString "") (cs.map fun c => ⟨#[c]⟩)).cps.toList = cs := by
    rw [join_cps]
    clear e l o
    induction cs with
    | nil => rfl
    | cons c cs ih => rw [List.map_cons, List.flatMap_cons, ih]; rfl
  have l1 : ((cs.map fun c => (⟨#[c]⟩ : Str)).map Str.length).sum = cs.length := by
    clear e l o hc
    induction cs with
    | nil => rfl
    | cons c cs ih => rw [List.map_cons, List.map_cons, List.sum_cons, ih, List.length_cons]; show 1 + _ = _; omega
  have l0 : (Str.ofString "").length = 0 := by decide +kernel
  refine ⟨_, ?_, fun c hx => o c (by rw [hc] at hx; exact hx), by rw [str_len, hc, l]⟩
  show (strsOf ds).bind _ = _
  rw [e]
  show joinY _ _ = _
  unfold joinY
  rw [l0, l1, if_pos (by omega)]
/-! comprehensions -/
def Lx (r : Res D) (p : D → En → Prop) : Prop := match r with
  | .ok d e => p d e
  | _ => False
@[simp] theorem Lx_ok {d : D} {e : En} {p : D → En → Prop} : Lx (.ok d e) p = p d e := rfl
theorem Lx_ex {r : Res D} {p : D → En → Prop} (h : Lx r p) : ∃ d e, r = .ok d e ∧ p d e := by
  unfold Lx at h
  split at h
  · exact ⟨_, _, rfl, h⟩
  · exact h.elim
/-- a comprehension over shared slots without a test -/
theorem lc_all {i : Nat} {m : M D} {vs : List Nat} (P : List D → En → Prop) (Q : D → Prop) (h : ∀ x xs env, P (x :: xs) env → Lx (m (env.set i (some (.shr x)))) fun d e => Q d ∧ P xs (wipeE e vs)) :
    ∀ (xs : List D) (env : En), P xs env → ∃ ds env', lcL (gN i) (M.pure true) m vs xs env = .ok ds env' ∧ P [] env' ∧ (∀ d ∈ ds, Q d) ∧ ds.length = xs.length
  | [], env, p => ⟨[], env, rfl, p, by simp, rfl⟩
  | x :: xs, env, p => by
    obtain ⟨d, e, h1, q, p2⟩ := Lx_ex (h x xs env p)
    obtain ⟨ds, env', h2, p3, h3, h4⟩ := lc_all P Q h xs _ p2
    refine ⟨d :: ds, env', ?_, p3, ?_, by simp [h4]⟩
    · simp only [lcL, gN, M.pure_ap, h1, h2]
    · intro y hy
      rcases List.mem_cons.mp hy with rfl | hy
      · exact q
      · exact h3 y hy
theorem dIx_all {P : D → Prop} {xs : List D} (h : ∀ x ∈ xs, P x) {i : Int} (h0 : 0 ≤ i) (h1 : i < xs.length) : ∃ z, dIx (.lst xs) (.int i) = some z ∧ P z := by
  refine ⟨xs[i.toNat]'(by omega), ?_, h _ (List.getElem_mem _)⟩
  rw [dIx_l xs i h0 h1, List.getElem?_eq_getElem]
theorem dIx_sign {z : Str} {i : Int} (hz : z.length ≤ 16777216) (h0 : 0 ≤ i) (h1 : i < z.length) : ∃ c, dIx (.str z) (.int i) = some (.str ⟨#[c]⟩) ∧ c ∈ z.cps.toList := by
  have h2 : i.toNat < z.cps.toList.length := by rw [← str_len]; omega
  refine ⟨z.cps.toList[i.toNat], ?_, List.getElem_mem _⟩
  rw [dIx_s z i hz h0 h1, List.getElem?_eq_getElem h2]
  rfl
end Mi

/-! Values of the mirrors: instances, targets that are tuples, slices. -/
namespace Mi
open PySem L2
section
variable {env : En} {m : M D}
@[simp] theorem eFld_ap (c f : Str) : eFld c f m env = (m env).bind fun d e => ofO (fGet c f d) e := rfl
@[simp] theorem eNew_ap (c : Str) (np : Nat) (mf : List Slot → Fin) (ma : M (List Ar)) : eNew c np mf ma env = (ma env).bind (newR c np mf) := rfl
@[simp] theorem iT_ap (m : M D) : iT m env = (m env).bind fun d => match d with
  | .tup xs => M.pure xs
  | .ftp xs => M.pure xs
  | _ => fun _ => .stuck := rfl
@[simp] theorem eIsN_ap : eIsN m env = (m env).bind fun a e => .ok (.bl (isNon a)) e := rfl
@[simp] theorem eNotN_ap : eNotN m env = (m env).bind fun a e => .ok (.bl (!isNon a)) e := rfl
end
@[simp] theorem isNon_non : isNon .non = true := rfl
@[simp] theorem isNon_i (i : Int) : isNon (.int i) = false := rfl
@[simp] theorem isNon_b (i : Bool) : isNon (.bl i) = false := rfl
@[simp] theorem isNon_s (i : Str) : isNon (.str i) = false := rfl
theorem sl_take (xs : List D) (m : Int) (h : 0 ≤ m) : dSlL (.lst xs) none (some m) = some (.lst (xs.take m.toNat)) := by
  obtain ⟨k, rfl⟩ := Int.eq_ofNat_of_zero_le h
  show some (D.lst (cutD _ _ _)) = _
  unfold cutD
  rw [HT.sIx_none, List.drop_zero, Nat.sub_zero, HT.sIx_nat]
  congr 2
  rw [List.take_eq_take_iff]
  show _ = min k _
  omega
theorem slT_drop1 (x : D) (xs : List D) : dSl (.tup (x :: xs)) (some 1) none = some (.tup xs) := by
  show some (D.tup (cutD _ _ _)) = _
  unfold cutD
  rw [HT.sIx_none, show HT.sIx (x :: xs).length 0 (some 1) = min 1 (xs.length + 1) from HT.sIx_nat _ 0 1]
  rw [show min 1 (xs.length + 1) = 1 by omega]
  show some (D.tup (List.take (xs.length + 1 - 1) xs)) = _
  rw [show xs.length + 1 - 1 = xs.length by omega, List.take_length]
/-- a comprehension without a test, any target -/
theorem lc_allG {g : D → En → Option En} {m : M D} {vs : List Nat} (P : List D → En → Prop) (Q : D → Prop) (h : ∀ x xs env, P (x :: xs) env → ∃ env1, g x env = some env1 ∧ Lx (m env1) fun d e => Q d ∧ P xs (wipeE e vs)) :
    ∀ (xs : List D) (env : En), P xs env → ∃ ds env', lcL g (M.pure true) m vs xs env = .ok ds env' ∧ P [] env' ∧ (∀ d ∈ ds, Q d) ∧ ds.length = xs.length
  | [], env, p => ⟨[], env, rfl, p, by simp, rfl⟩
  | x :: xs, env, p => by
    obtain ⟨env1, h0, hx⟩ := h x xs env p
    obtain ⟨d, e, h1, q, p2⟩ := Lx_ex hx
    obtain ⟨ds, env', h2, p3, h3, h4⟩ := lc_allG P Q h xs _ p2
    refine ⟨d :: ds, env', ?_, p3, ?_, by simp [h4]⟩
    · simp only [lcL, h0, M.pure_ap, h1, h2]
    · intro y hy
      rcases List.mem_cons.mp hy with rfl | hy
      · exact q
      · exact h3 y hy
/-- a pure one: each item's value told -/
theorem lc_map {g : D → En → Option En} {m : M D} {vs : List Nat} {env : En} (F : D → D) : ∀ (xs : List D), (∀ x ∈ xs, ∃ env1 env2, g x env = some env1 ∧ m env1 = .ok (F x) env2 ∧ wipeE env2 vs = env) → lcL g (M.pure true) m vs xs env = .ok (xs.map F) env
  | [], _ => rfl
  | x :: xs, h => by
    obtain ⟨env1, env2, h0, h1, h2⟩ := h x List.mem_cons_self
    have ih := lc_map F xs fun y hy => h y (List.mem_cons_of_mem _ hy)
    simp only [lcL, h0, M.pure_ap, h1, h2, ih, List.map_cons]
theorem dTupOf_l (xs : List D) : dTupOf [.lst xs] = some (.tup xs) := rfl
end Mi

namespace Mi
open PySem L2
/-! The text by places, the mirrors and the promises of its defs: printed by gen.py. -/
def top (i : Nat) : Stmt := PySem.Challenge.pw_manysides_k06_values_of_expressions.main.body.getD i (.Pass ⟨0, 0, 0, 0⟩)
abbrev s__law_draw : Stmt := top 25
abbrev N__law_draw : List Str := ["_law_cell", "_law_many", "_law_bound", "_law_numbers", "_law_seed", "_law_k", "_law_mixed"]
theorem sc__law_draw : FnScope N__law_draw ["_law_cell", "_law_many", "_law_bound"] (defScope s__law_draw) := ⟨rfl, rfl, rfl, by decide +kernel, rfl, by decide +kernel, by decide +kernel⟩
abbrev s__law_draws : Stmt := top 26
abbrev N__law_draws : List Str := ["_law_cells_here", "_law_numbers", "_law_cell"]
theorem sc__law_draws : FnScope N__law_draws ["_law_cells_here"] (defScope s__law_draws) := ⟨rfl, rfl, rfl, by decide +kernel, rfl, by decide +kernel, by decide +kernel⟩
abbrev s_Shape___init__ : Stmt := inClass (top 10) 0
abbrev N_Shape___init__ : List Str := ["self", "dims", "attrs"]
theorem sc_Shape___init__ : FnScope N_Shape___init__ ["self", "dims", "attrs"] (defScope s_Shape___init__) := ⟨rfl, rfl, rfl, by decide +kernel, rfl, by decide +kernel, by decide +kernel⟩
abbrev s__law_next : Stmt := top 27
abbrev N__law_next : List Str := ["_law_state", "_law_bound", "_law_number_here"]
theorem sc__law_next : FnScope N__law_next ["_law_state", "_law_bound"] (defScope s__law_next) := ⟨rfl, rfl, rfl, by decide +kernel, rfl, by decide +kernel, by decide +kernel⟩
abbrev s__law_shape : Stmt := top 31
abbrev N__law_shape : List Str := ["_law_state", "_law_dims", "_law_name", "_law_attrs", "_law_k", "_law_low"]
theorem sc__law_shape : FnScope N__law_shape ["_law_state"] (defScope s__law_shape) := ⟨rfl, rfl, rfl, by decide +kernel, rfl, by decide +kernel, by decide +kernel⟩
abbrev s__law_word : Stmt := top 28
abbrev N__law_word : List Str := ["_law_state", "_law_k"]
theorem sc__law_word : FnScope N__law_word ["_law_state"] (defScope s__law_word) := ⟨rfl, rfl, rfl, by decide +kernel, rfl, by decide +kernel, by decide +kernel⟩
abbrev s__law_number : Stmt := top 29
abbrev N__law_number : List Str := ["_law_state", "_law_choice"]
theorem sc__law_number : FnScope N__law_number ["_law_state"] (defScope s__law_number) := ⟨rfl, rfl, rfl, by decide +kernel, rfl, by decide +kernel, by decide +kernel⟩
abbrev s__law_thing : Stmt := top 30
abbrev N__law_thing : List Str := ["_law_state", "_law_kind"]
theorem sc__law_thing : FnScope N__law_thing ["_law_state", "_law_kind"] (defScope s__law_thing) := ⟨rfl, rfl, rfl, by decide +kernel, rfl, by decide +kernel, by decide +kernel⟩
abbrev s__law_leaf : Stmt := top 35
abbrev N__law_leaf : List Str := ["_law_state", "_law_shape_here", "_law_kind", "_law_names", "_law_choice", "_law_name", "_law_word_here"]
theorem sc__law_leaf : FnScope N__law_leaf ["_law_state", "_law_shape_here", "_law_kind"] (defScope s__law_leaf) := ⟨rfl, rfl, rfl, by decide +kernel, rfl, by decide +kernel, by decide +kernel⟩
abbrev s__law_expression : Stmt := top 37
abbrev N__law_expression : List Str := ["_law_state", "_law_shape_here", "_law_kind", "_law_depth", "_law_choice", "_law_word_here", "_law_parts"]
theorem sc__law_expression : FnScope N__law_expression ["_law_state", "_law_shape_here", "_law_kind", "_law_depth"] (defScope s__law_expression) := ⟨rfl, rfl, rfl, by decide +kernel, rfl, by decide +kernel, by decide +kernel⟩
abbrev s__law_flag : Stmt := top 36
abbrev N__law_flag : List Str := ["_law_state", "_law_shape_here", "_law_depth", "_law_choice", "_law_kind", "_law_word_here"]
theorem sc__law_flag : FnScope N__law_flag ["_law_state", "_law_shape_here", "_law_depth"] (defScope s__law_flag) := ⟨rfl, rfl, rfl, by decide +kernel, rfl, by decide +kernel, by decide +kernel⟩
abbrev s__law_place : Stmt := top 32
abbrev N__law_place : List Str := ["_law_state", "_law_dims", "_law_name", "_law_low", "_law_high", "_law_step"]
theorem sc__law_place : FnScope N__law_place ["_law_state", "_law_dims"] (defScope s__law_place) := ⟨rfl, rfl, rfl, by decide +kernel, rfl, by decide +kernel, by decide +kernel⟩
abbrev s__law_values : Stmt := top 33
abbrev N__law_values : List Str := ["_law_state", "_law_attrs", "_law_few", "_law_values_here", "_law_name", "_law_kind", "_law_value_here"]
theorem sc__law_values : FnScope N__law_values ["_law_state", "_law_attrs", "_law_few"] (defScope s__law_values) := ⟨rfl, rfl, rfl, by decide +kernel, rfl, by decide +kernel, by decide +kernel⟩
abbrev s__law_pair : Stmt := top 38
abbrev N__law_pair : List Str := ["_law_word_here", "_law_a", "_law_b", "_law_result"]
theorem sc__law_pair : FnScope N__law_pair ["_law_word_here", "_law_a", "_law_b"] (defScope s__law_pair) := ⟨rfl, rfl, rfl, by decide +kernel, rfl, by decide +kernel, by decide +kernel⟩
abbrev s__law_value : Stmt := top 39
abbrev N__law_value : List Str := ["_law_expression_here", "_law_shape_here", "_law_place_here", "_law_values_here", "_law_word_here", "_law_results", "_law_first", "_law_result", "_law_part", "_law_dim", "_law_name", "_law_kind"]
theorem sc__law_value : FnScope N__law_value ["_law_expression_here", "_law_shape_here", "_law_place_here", "_law_values_here"] (defScope s__law_value) := ⟨rfl, rfl, rfl, by decide +kernel, rfl, by decide +kernel, by decide +kernel⟩
abbrev s_decided : Stmt := top 20
abbrev N_decided : List Str := ["word", "a", "b", "ends"]
theorem sc_decided : FnScope N_decided ["word", "a", "b"] (defScope s_decided) := ⟨rfl, rfl, rfl, by decide +kernel, rfl, by decide +kernel, by decide +kernel⟩
abbrev s__single : Stmt := top 21
abbrev N__single : List Str := ["word", "value"]
theorem sc__single : FnScope N__single ["word", "value"] (defScope s__single) := ⟨rfl, rfl, rfl, by decide +kernel, rfl, by decide +kernel, by decide +kernel⟩
abbrev s_bounded : Stmt := top 17
abbrev N_bounded : List Str := ["number"]
theorem sc_bounded : FnScope N_bounded ["number"] (defScope s_bounded) := ⟨rfl, rfl, rfl, by decide +kernel, rfl, by decide +kernel, by decide +kernel⟩
abbrev s__arithmetic : Stmt := top 18
abbrev N__arithmetic : List Str := ["word", "a", "b"]
theorem sc__arithmetic : FnScope N__arithmetic ["word", "a", "b"] (defScope s__arithmetic) := ⟨rfl, rfl, rfl, by decide +kernel, rfl, by decide +kernel, by decide +kernel⟩
abbrev s_compared : Stmt := top 19
abbrev N_compared : List Str := ["word", "a", "b"]
theorem sc_compared : FnScope N_compared ["word", "a", "b"] (defScope s_compared) := ⟨rfl, rfl, rfl, by decide +kernel, rfl, by decide +kernel, by decide +kernel⟩
abbrev s__strict : Stmt := top 22
abbrev N__strict : List Str := ["word", "values", "text"]
theorem sc__strict : FnScope N__strict ["word", "values"] (defScope s__strict) := ⟨rfl, rfl, rfl, by decide +kernel, rfl, by decide +kernel, by decide +kernel⟩
abbrev s__index_of : Stmt := top 11
abbrev N__index_of : List Str := ["rows", "name", "at"]
theorem sc__index_of : FnScope N__index_of ["rows", "name"] (defScope s__index_of) := ⟨rfl, rfl, rfl, by decide +kernel, rfl, by decide +kernel, by decide +kernel⟩
abbrev s_attr_index : Stmt := top 13
abbrev N_attr_index : List Str := ["shape", "name"]
theorem sc_attr_index : FnScope N_attr_index ["shape", "name"] (defScope s_attr_index) := ⟨rfl, rfl, rfl, by decide +kernel, rfl, by decide +kernel, by decide +kernel⟩
abbrev s_dim_index : Stmt := top 12
abbrev N_dim_index : List Str := ["shape", "name"]
theorem sc_dim_index : FnScope N_dim_index ["shape", "name"] (defScope s_dim_index) := ⟨rfl, rfl, rfl, by decide +kernel, rfl, by decide +kernel, by decide +kernel⟩
abbrev s_value_of : Stmt := top 23
abbrev N_value_of : List Str := ["expression", "shape", "place", "values", "word", "results", "part"]
theorem sc_value_of : FnScope N_value_of ["expression", "shape", "place", "values"] (defScope s_value_of) := ⟨rfl, rfl, rfl, by decide +kernel, rfl, by decide +kernel, by decide +kernel⟩
abbrev s_is_text : Stmt := top 3
abbrev N_is_text : List Str := ["text", "char"]
theorem sc_is_text : FnScope N_is_text ["text"] (defScope s_is_text) := ⟨rfl, rfl, rfl, by decide +kernel, rfl, by decide +kernel, by decide +kernel⟩
abbrev s_is_integer : Stmt := top 7
abbrev N_is_integer : List Str := ["value"]
theorem sc_is_integer : FnScope N_is_integer ["value"] (defScope s_is_integer) := ⟨rfl, rfl, rfl, by decide +kernel, rfl, by decide +kernel, by decide +kernel⟩
abbrev s_is_value : Stmt := top 8
abbrev N_is_value : List Str := ["kind", "value"]
theorem sc_is_value : FnScope N_is_value ["kind", "value"] (defScope s_is_value) := ⟨rfl, rfl, rfl, by decide +kernel, rfl, by decide +kernel, by decide +kernel⟩
abbrev s_law : Stmt := top 40
abbrev N_law : List Str := ["_law_script", "_law_state", "_law_shape_here", "_law_turn", "_law_kind", "_law_expression_here", "_law_again", "_law_place_here", "_law_values_here", "_law_due", "_law_told"]
theorem sc_law : FnScope N_law ["_law_script"] (defScope s_law) := ⟨rfl, rfl, rfl, by decide +kernel, rfl, by decide +kernel, by decide +kernel⟩
/-! the mirrors -/
def k_ARITHMETIC : D := .ftp [(.str "add"), (.str "sub"), (.str "mul"), (.str "div"), (.str "mod")]
def k_COMPARISONS : D := .ftp [(.str "eq"), (.str "ne"), (.str "lt"), (.str "le"), (.str "gt"), (.str "ge")]
def b__law_draw : M Fl := (mSeq (mSetN 3 (eLst aNil)) (mSeq (mIf (eTest (eOp dGe (eV 0) (eOp dPow (eC (.int 10)) (eC (.int 18))))) (mSeq (mFor (iR1 (aCons (eV 1) aNil)) (gN 5) (mSeq (mApp 3 (eOp dMod (eCB dInt (aCons (eV 0) aNil)) (eV 2))) (mSet 0 (eOp dDiv (eV 0) (eV 2)))) []) (mRetO 3)) mNx) (mSeq (mSet 4 (eOp dMod (eCB dInt (aCons (eV 0) aNil)) (eC (.int 2147483647)))) (mSeq (mFor (iR1 (aCons (eV 1) aNil)) (gN 5) (mSeq (mSet 4 (eOp dMod (eCB dInt (aCons (eOp dAdd (eOp dAdd (eOp dMul (eV 4) (eC (.int 48271))) (eC (.int 12345))) (eV 5)) aNil)) (eC (.int 2147483647)))) (mSeq (mSet 6 (eOp dMod (eCB dInt (aCons (eOp dAdd (eOp dMul (eV 4) (eC (.int 69621))) (eOp dMul (eC (.int 977)) (eV 5))) aNil)) (eC (.int 2147483629)))) (mApp 3 (eOp dMod (eCB dInt (aCons (eOp dDiv (eV 6) (eC (.int 3))) aNil)) (eV 2))))) [5, 6]) (mRetO 3)))))
def m__law_draw : List Slot → Fin := runF 7 b__law_draw
def b__law_draws : M Fl := (mSeq (mSet 1 (eLst aNil)) (mSeq (mFor (iL (eV 0)) (gN 2) (mSet 1 (eOp dAdd (eV 1) (eCallN 3 m__law_draw (rSh (eV 2) (rSh (eC (.int 40)) (rSh (eOp dShl (eC (.int 1)) (eC (.int 20))) rNil)))))) [2]) (mRetN (eDisp (((eC (.str "numbers")), (eV 1)) :: (((eC (.str "at")), (eC (.int 0))) :: []))))))
def m__law_draws : List Slot → Fin := runF 3 b__law_draws
def b_Shape___init__ : M Fl := (mSeq (mFPut 0 "Shape" "dims" (eV 1)) (mFPut 0 "Shape" "attrs" (eV 2)))
def m_Shape___init__ : List Slot → Fin := runF 3 b_Shape___init__
def b__law_next : M Fl := (mSeq (mSet 2 (eOp dAdd (eOp dIx (eDGetO 0 (eC (.str "numbers"))) (eOp dMod (eCB dInt (aCons (eDGetO 0 (eC (.str "at"))) aNil)) (eCB dLen (aCons (eDGetO 0 (eC (.str "numbers"))) aNil)))) (eOp dDiv (eCB dInt (aCons (eDGetO 0 (eC (.str "at"))) aNil)) (eCB dLen (aCons (eDGetO 0 (eC (.str "numbers"))) aNil))))) (mSeq (mPut 0 (eC (.str "at")) (eOp dAdd (eDGetO 0 (eC (.str "at"))) (eC (.int 1)))) (mRet (eOp dMod (eCB dInt (aCons (eV 2) aNil)) (eV 1)))))
def m__law_next : List Slot → Fin := runF 3 b__law_next
def b__law_shape : M Fl := (mSeq (mSetN 1 (eLst aNil)) (mSeq (mFor (iL (eSl dSlL (eLst (aCons (eC (.str "x")) (aCons (eC (.str "y")) (aCons (eC (.str "z")) aNil)))) oNone (oSome (eOp dAdd (eC (.int 1)) (eCall 2 m__law_next (rIo 0 (rSh (eC (.int 3)) rNil))))))) (gN 2) (mSeq (mSet 5 (eOp dSub (eCall 2 m__law_next (rIo 0 (rSh (eC (.int 9)) rNil))) (eC (.int 5)))) (mApp 1 (eTup (aCons (eV 2) (aCons (eV 5) (aCons (eOp dAdd (eV 5) (eCall 2 m__law_next (rIo 0 (rSh (eC (.int 6)) rNil)))) (aCons (eOp dAdd (eC (.int 1)) (eCall 2 m__law_next (rIo 0 (rSh (eC (.int 4)) rNil)))) aNil))))))) [2, 5]) (mSeq (mSetN 3 (eLst aNil)) (mSeq (mFor (iR1 (aCons (eOp dAdd (eC (.int 1)) (eCall 2 m__law_next (rIo 0 (rSh (eC (.int 4)) rNil)))) aNil)) (gN 4) (mApp 3 (eTup (aCons (eOp dIx (eLst (aCons (eC (.str "a")) (aCons (eC (.str "b")) (aCons (eC (.str "c")) (aCons (eC (.str "d")) aNil))))) (eV 4)) (aCons (eOp dIx (eLst (aCons (eC (.str "int")) (aCons (eC (.str "flag")) (aCons (eC (.str "text")) (aCons (eC (.str "int")) aNil))))) (eOp dMod (eCB dInt (aCons (eOp dAdd (eV 4) (eCall 2 m__law_next (rIo 0 (rSh (eC (.int 3)) rNil)))) aNil)) (eC (.int 4)))) aNil)))) [4]) (mRetN (eNew "Shape" 3 m_Shape___init__ (rSh (eTupO 1) (rSh (eTupO 3) rNil))))))))
def m__law_shape : List Slot → Fin := runF 6 b__law_shape
def b__law_word : M Fl := (mRet (eJoin (eC (.str "")) (eLc (iR1 (aCons (eCall 2 m__law_next (rIo 0 (rSh (eC (.int 4)) rNil))) aNil)) (gN 1) (M.pure true) (eOp dIx (eC (.str "abXY z09{~.\n")) (eCall 2 m__law_next (rIo 0 (rSh (eC (.int 12)) rNil)))) [1])))
def m__law_word : List Slot → Fin := runF 2 b__law_word
def b__law_number : M Fl := (mSeq (mSet 1 (eCall 2 m__law_next (rIo 0 (rSh (eC (.int 9)) rNil)))) (mSeq (mIf (eTest (eOp dEq (eV 1) (eC (.int 0)))) (mRet (eOp dIx (eLst (aCons (eOp dSub (eOp dPow (eC (.int 10)) (eC (.int 30))) (eC (.int 1))) (aCons (eOp dSub (eC (.int 1)) (eOp dPow (eC (.int 10)) (eC (.int 30)))) (aCons (eOp dPow (eC (.int 10)) (eC (.int 15))) (aCons (eOp dSub (eC (.int 0)) (eOp dPow (eC (.int 10)) (eC (.int 15)))) (aCons (eOp dPow (eC (.int 10)) (eC (.int 29))) aNil)))))) (eCall 2 m__law_next (rIo 0 (rSh (eC (.int 5)) rNil))))) mNx) (mSeq (mIf (eTest (eOp dEq (eV 1) (eC (.int 1)))) (mRet (eOp dSub (eOp dMul (eCall 2 m__law_next (rIo 0 (rSh (eOp dShl (eC (.int 1)) (eC (.int 20))) rNil))) (eCall 2 m__law_next (rIo 0 (rSh (eOp dShl (eC (.int 1)) (eC (.int 20))) rNil)))) (eOp dShl (eC (.int 1)) (eC (.int 39))))) mNx) (mRet (eOp dSub (eCall 2 m__law_next (rIo 0 (rSh (eC (.int 13)) rNil))) (eC (.int 6)))))))
def m__law_number : List Slot → Fin := runF 2 b__law_number
def b__law_thing : M Fl := (mSeq (mIf (eTest (eOp dEq (eV 1) (eC (.str "int")))) (mRet (eCall 1 m__law_number (rIo 0 rNil))) mNx) (mSeq (mIf (eTest (eOp dEq (eV 1) (eC (.str "flag")))) (mRet (eOp dEq (eCall 2 m__law_next (rIo 0 (rSh (eC (.int 2)) rNil))) (eC (.int 1)))) mNx) (mSeq (mIf (eTest (eOp dEq (eCall 2 m__law_next (rIo 0 (rSh (eC (.int 12)) rNil))) (eC (.int 0)))) (mRet (eOp dMul (eOp dIx (eLst (aCons (eC (.str "~")) (aCons (eC (.str "ab")) (aCons (eC (.str " ")) aNil)))) (eCall 2 m__law_next (rIo 0 (rSh (eC (.int 3)) rNil)))) (eOp dIx (eLst (aCons (eC (.int 100)) (aCons (eC (.int 99)) (aCons (eC (.int 60)) aNil)))) (eCall 2 m__law_next (rIo 0 (rSh (eC (.int 3)) rNil)))))) mNx) (mRet (eCall 1 m__law_word (rIo 0 rNil))))))
def m__law_thing : List Slot → Fin := runF 2 b__law_thing
def b__law_leaf : M Fl := (mSeq (mSet 3 (eLc (iT (eFld "Shape" "attrs" (eV 1))) (gT [(gN 5), (gN 6)]) (eTest (eOp dEq (eV 6) (eV 2))) (eV 5) [5, 6])) (mSeq (mSet 4 (eCall 2 m__law_next (rIo 0 (rSh (eC (.int 6)) rNil)))) (mSeq (mIf (bAnd (eTest (eOp dLt (eV 4) (eC (.int 3)))) (eTest (eOp dGt (eCB dLen (aCons (eV 3) aNil)) (eC (.int 0))))) (mRet (eTup (aCons (eC (.str "attr")) (aCons (eOp dIx (eV 3) (eCall 2 m__law_next (rIo 0 (rSh (eCB dLen (aCons (eV 3) aNil)) rNil)))) aNil)))) mNx) (mSeq (mIf (bAnd (eTest (eOp dLt (eV 4) (eC (.int 4)))) (eTest (eOp dEq (eV 2) (eC (.str "int"))))) (mRet (eTup (aCons (eC (.str "dim")) (aCons (eOp dIx (eOp dIx (eFld "Shape" "dims" (eV 1)) (eCall 2 m__law_next (rIo 0 (rSh (eCB dLen (aCons (eFld "Shape" "dims" (eV 1)) aNil)) rNil)))) (eC (.int 0))) aNil)))) mNx) (mSeq (mIf (bAnd (eTest (eOp dEq (eV 4) (eC (.int 5)))) (eTest (eOp dEq (eCall 2 m__law_next (rIo 0 (rSh (eC (.int 3)) rNil))) (eC (.int 0))))) (mRet (eTup (aCons (eC (.str "value")) (aCons (eV 2) (aCons (eC .non) aNil))))) mNx) (mRet (eTup (aCons (eC (.str "value")) (aCons (eV 2) (aCons (eCall 2 m__law_thing (rIo 0 (rSh (eV 2) rNil))) aNil))))))))))
def m__law_leaf : List Slot → Fin := runF 7 b__law_leaf
def b__law_expression (m__law_expression m__law_flag : List Slot → Fin) : M Fl := (mSeq (mSet 4 (eCall 2 m__law_next (rIo 0 (rSh (eC (.int 10)) rNil)))) (mSeq (mIf (bOr (eTest (eOp dLe (eV 3) (eC (.int 0)))) (eTest (eOp dEq (eV 4) (eC (.int 0))))) (mRet (eCall 3 m__law_leaf (rIo 0 (rSh (eV 1) (rSh (eV 2) rNil))))) mNx) (mSeq (mIf (eTest (eOp dEq (eV 4) (eC (.int 1)))) (mSeq (mSet 6 (eTup (aCons (eCall 4 m__law_expression (rIo 0 (rSh (eV 1) (rSh (eV 2) (rSh (eOp dSub (eV 3) (eC (.int 1))) rNil))))) (aCons (eCall 4 m__law_expression (rIo 0 (rSh (eV 1) (rSh (eV 2) (rSh (eOp dSub (eV 3) (eC (.int 1))) rNil))))) aNil)))) (mRet (eOp dAdd (eTup (aCons (eC (.str "if")) (aCons (eCall 4 m__law_expression (rIo 0 (rSh (eV 1) (rSh (eC (.str "flag")) (rSh (eOp dSub (eV 3) (eC (.int 1))) rNil))))) aNil))) (eV 6)))) mNx) (mSeq (mIf (eTest (eOp dEq (eV 4) (eC (.int 2)))) (mRet (eTup (aCons (eC (.str "or else")) (aCons (eCall 4 m__law_expression (rIo 0 (rSh (eV 1) (rSh (eV 2) (rSh (eOp dSub (eV 3) (eC (.int 1))) rNil))))) (aCons (eCall 4 m__law_expression (rIo 0 (rSh (eV 1) (rSh (eV 2) (rSh (eOp dSub (eV 3) (eC (.int 1))) rNil))))) aNil))))) mNx) (mSeq (mIf (eTest (eOp dEq (eV 2) (eC (.str "flag")))) (mRet (eCall 3 m__law_flag (rIo 0 (rSh (eV 1) (rSh (eV 3) rNil))))) mNx) (mSeq (mIf (eTest (eOp dEq (eV 2) (eC (.str "text")))) (mRet (eTup (aCons (eC (.str "joined")) (aCons (eCall 4 m__law_expression (rIo 0 (rSh (eV 1) (rSh (eV 2) (rSh (eOp dSub (eV 3) (eC (.int 1))) rNil))))) (aCons (eCall 4 m__law_expression (rIo 0 (rSh (eV 1) (rSh (eV 2) (rSh (eOp dSub (eV 3) (eC (.int 1))) rNil))))) aNil))))) mNx) (mSeq (mIf (eTest (eOp dEq (eV 4) (eC (.int 3)))) (mRet (eTup (aCons (eC (.str "length")) (aCons (eCall 4 m__law_expression (rIo 0 (rSh (eV 1) (rSh (eC (.str "text")) (rSh (eOp dSub (eV 3) (eC (.int 1))) rNil))))) aNil)))) mNx) (mSeq (mIf (eTest (eOp dEq (eV 4) (eC (.int 4)))) (mRet (eTup (aCons (eOp dIx (eLst (aCons (eC (.str "neg")) (aCons (eC (.str "abs")) aNil))) (eCall 2 m__law_next (rIo 0 (rSh (eC (.int 2)) rNil)))) (aCons (eCall 4 m__law_expression (rIo 0 (rSh (eV 1) (rSh (eV 2) (rSh (eOp dSub (eV 3) (eC (.int 1))) rNil))))) aNil)))) mNx) (mSeq (mSet 5 (eOp dIx (eLst (aCons (eC (.str "add")) (aCons (eC (.str "sub")) (aCons (eC (.str "mul")) (aCons (eC (.str "div")) (aCons (eC (.str "mod")) aNil)))))) (eCall 2 m__law_next (rIo 0 (rSh (eC (.int 5)) rNil))))) (mRet (eTup (aCons (eV 5) (aCons (eCall 4 m__law_expression (rIo 0 (rSh (eV 1) (rSh (eV 2) (rSh (eOp dSub (eV 3) (eC (.int 1))) rNil))))) (aCons (eCall 4 m__law_expression (rIo 0 (rSh (eV 1) (rSh (eV 2) (rSh (eOp dSub (eV 3) (eC (.int 1))) rNil))))) aNil))))))))))))))
def b__law_flag (m__law_expression m__law_flag : List Slot → Fin) : M Fl := (mSeq (mSet 3 (eCall 2 m__law_next (rIo 0 (rSh (eC (.int 9)) rNil)))) (mSeq (mIf (eTest (eOp dEq (eV 3) (eC (.int 0)))) (mRet (eTup (aCons (eC (.str "not")) (aCons (eCall 4 m__law_expression (rIo 0 (rSh (eV 1) (rSh (eC (.str "flag")) (rSh (eOp dSub (eV 2) (eC (.int 1))) rNil))))) aNil)))) mNx) (mSeq (mIf (eTest (eOp dEq (eV 3) (eC (.int 1)))) (mRet (eTup (aCons (eC (.str "is missing")) (aCons (eCall 4 m__law_expression (rIo 0 (rSh (eV 1) (rSh (eOp dIx (eLst (aCons (eC (.str "int")) (aCons (eC (.str "flag")) (aCons (eC (.str "text")) aNil)))) (eCall 2 m__law_next (rIo 0 (rSh (eC (.int 3)) rNil)))) (rSh (eOp dSub (eV 2) (eC (.int 1))) rNil))))) aNil)))) mNx) (mSeq (mIf (eTest (eOp dLt (eV 3) (eC (.int 4)))) (mSeq (mSet 5 (eOp dIx (eLst (aCons (eC (.str "and")) (aCons (eC (.str "or")) aNil))) (eOp dSub (eV 3) (eC (.int 2))))) (mRet (eTup (aCons (eV 5) (aCons (eCall 4 m__law_expression (rIo 0 (rSh (eV 1) (rSh (eC (.str "flag")) (rSh (eOp dSub (eV 2) (eC (.int 1))) rNil))))) (aCons (eCall 4 m__law_expression (rIo 0 (rSh (eV 1) (rSh (eC (.str "flag")) (rSh (eOp dSub (eV 2) (eC (.int 1))) rNil))))) aNil)))))) mNx) (mSeq (mSet 4 (eOp dIx (eLst (aCons (eC (.str "int")) (aCons (eC (.str "int")) (aCons (eC (.str "int")) (aCons (eC (.str "text")) (aCons (eC (.str "flag")) aNil)))))) (eCall 2 m__law_next (rIo 0 (rSh (eC (.int 5)) rNil))))) (mSeq (mSet 5 (eOp dIx (eLst (aCons (eC (.str "eq")) (aCons (eC (.str "ne")) (aCons (eC (.str "lt")) (aCons (eC (.str "le")) (aCons (eC (.str "gt")) (aCons (eC (.str "ge")) aNil))))))) (eCall 2 m__law_next (rIo 0 (rSh (eC (.int 6)) rNil))))) (mRet (eTup (aCons (eV 5) (aCons (eCall 4 m__law_expression (rIo 0 (rSh (eV 1) (rSh (eV 4) (rSh (eOp dSub (eV 2) (eC (.int 1))) rNil))))) (aCons (eCall 4 m__law_expression (rIo 0 (rSh (eV 1) (rSh (eV 4) (rSh (eOp dSub (eV 2) (eC (.int 1))) rNil))))) aNil)))))))))))
def fam__law_expression : Nat → (List Slot → Fin) × (List Slot → Fin)
  | 0 => (fun _ => .stuck, fun _ => .stuck)
  | n + 1 => (runF 7 (b__law_expression (fam__law_expression n).1 (fam__law_expression n).2), runF 6 (b__law_flag (fam__law_expression n).1 (fam__law_expression n).2))
def m__law_expression (n : Nat) : List Slot → Fin := (fam__law_expression n).1
def m__law_flag (n : Nat) : List Slot → Fin := (fam__law_expression n).2
def b__law_place : M Fl := (mRet (eCB dTupOf (aCons (eLc (iT (eV 1)) (gT [(gN 2), (gN 3), (gN 4), (gN 5)]) (M.pure true) (eOp dAdd (eV 3) (eCall 2 m__law_next (rIo 0 (rSh (eOp dAdd (eOp dSub (eV 4) (eV 3)) (eC (.int 1))) rNil)))) [2, 3, 4, 5]) aNil)))
def m__law_place : List Slot → Fin := runF 6 b__law_place
def b__law_values : M Fl := (mSeq (mSetN 3 (eLst aNil)) (mSeq (mFor (iT (eV 1)) (gT [(gN 4), (gN 5)]) (mSeq (mSet 6 (eC .non)) (mSeq (mIf (eTest (eOp dGt (eCall 2 m__law_next (rIo 0 (rSh (eV 2) rNil))) (eC (.int 0)))) (mSet 6 (eCall 2 m__law_thing (rIo 0 (rSh (eV 5) rNil)))) mNx) (mApp 3 (eV 6)))) [4, 5, 6]) (mRet (eTupO 3))))
def m__law_values : List Slot → Fin := runF 7 b__law_values
def b__law_pair : M Fl := (mSeq (mIf (eTest (eOp dEq (eV 0) (eC (.str "joined")))) (mRet (eOp dIx (eLst (aCons (eOp dAdd (eV 1) (eV 2)) (aCons (eC .non) aNil))) (eCB dInt (aCons (eOp dGt (eCB dLen (aCons (eOp dAdd (eV 1) (eV 2)) aNil)) (eC (.int 200))) aNil)))) mNx) (mSeq (mIf (eTest (eOp dIn (eV 0) (eLst (aCons (eC (.str "eq")) (aCons (eC (.str "ne")) (aCons (eC (.str "lt")) (aCons (eC (.str "le")) (aCons (eC (.str "gt")) (aCons (eC (.str "ge")) aNil))))))))) (mRet (eDGet (eDisp (((eC (.str "eq")), (eOp dEq (eV 1) (eV 2))) :: (((eC (.str "ne")), (eOp dNe (eV 1) (eV 2))) :: (((eC (.str "lt")), (eOp dLt (eV 1) (eV 2))) :: (((eC (.str "le")), (eOp dLe (eV 1) (eV 2))) :: (((eC (.str "gt")), (eOp dGt (eV 1) (eV 2))) :: (((eC (.str "ge")), (eOp dGe (eV 1) (eV 2))) :: []))))))) (eV 0))) mNx) (mSeq (mIf (bAnd (eTest (eOp dIn (eV 0) (eLst (aCons (eC (.str "div")) (aCons (eC (.str "mod")) aNil))))) (eTest (eOp dEq (eV 2) (eC (.int 0))))) (mRet (eC .non)) mNx) (mSeq (mIf (eTest (eOp dEq (eV 0) (eC (.str "div")))) (mSet 3 (eOp dDiv (eV 1) (eV 2))) (mIf (eTest (eOp dEq (eV 0) (eC (.str "mod")))) (mSet 3 (eOp dSub (eV 1) (eOp dMul (eV 2) (eOp dDiv (eV 1) (eV 2))))) (mSet 3 (eDGet (eDisp (((eC (.str "add")), (eOp dAdd (eV 1) (eV 2))) :: (((eC (.str "sub")), (eOp dSub (eV 1) (eV 2))) :: (((eC (.str "mul")), (eOp dMul (eV 1) (eV 2))) :: [])))) (eV 0))))) (mRet (eOp dIx (eLst (aCons (eC .non) (aCons (eV 3) aNil))) (eCB dInt (aCons (eChain dLt dLt (eUn dNeg (eOp dPow (eC (.int 10)) (eC (.int 30)))) (eV 3) (eOp dPow (eC (.int 10)) (eC (.int 30)))) aNil))))))))
def m__law_pair : List Slot → Fin := runF 4 b__law_pair
def b__law_value (m__law_value : List Slot → Fin) : M Fl := (mSeq (mSet 4 (eOp dIx (eV 0) (eC (.int 0)))) (mSeq (mIf (eTest (eOp dEq (eV 4) (eC (.str "value")))) (mRet (eOp dIx (eV 0) (eC (.int 2)))) mNx) (mSeq (mIf (eTest (eOp dEq (eV 4) (eC (.str "attr")))) (mRet (eOp dIx (eV 3) (eLIx (eLc (iT (eFld "Shape" "attrs" (eV 1))) (gT [(gN 10), (gN 11)]) (M.pure true) (eV 10) [10, 11]) (eOp dIx (eV 0) (eC (.int 1)))))) mNx) (mSeq (mIf (eTest (eOp dEq (eV 4) (eC (.str "dim")))) (mRet (eOp dIx (eV 2) (eLIx (eLc (iT (eFld "Shape" "dims" (eV 1))) (gN 9) (M.pure true) (eOp dIx (eV 9) (eC (.int 0))) [9]) (eOp dIx (eV 0) (eC (.int 1)))))) mNx) (mSeq (mSet 5 (eLc (iT (eSl dSl (eV 0) (oSome (eC (.int 1))) oNone)) (gN 8) (M.pure true) (eCall 4 m__law_value (rSh (eV 8) (rSh (eV 1) (rSh (eV 2) (rSh (eV 3) rNil))))) [8])) (mSeq (mSet 6 (eOp dIx (eV 5) (eC (.int 0)))) (mSeq (mIf (eTest (eOp dEq (eV 4) (eC (.str "is missing")))) (mRet (eIsN (eV 6))) mNx) (mSeq (mIf (eTest (eOp dEq (eV 4) (eC (.str "or else")))) (mRet (eOp dIx (eLst (aCons (eV 6) (aCons (eOp dIx (eV 5) (eC (.int 1))) aNil))) (eCB dInt (aCons (eIsN (eV 6)) aNil)))) mNx) (mSeq (mIf (eTest (eOp dEq (eV 4) (eC (.str "if")))) (mSeq (mIf (eTest (eIsN (eV 6))) (mRet (eC .non)) mNx) (mRet (eOp dIx (eV 5) (eOp dSub (eC (.int 2)) (eCB dInt (aCons (eV 6) aNil)))))) mNx) (mSeq (mIf (eTest (eOp dIn (eV 4) (eLst (aCons (eC (.str "and")) (aCons (eC (.str "or")) aNil))))) (mFor (iL (eV 5)) (gN 7) (mIf (bAnd (eTest (eNotN (eV 7))) (eTest (eOp dEq (eV 7) (eOp dEq (eV 4) (eC (.str "or")))))) (mRet (eOp dEq (eV 4) (eC (.str "or")))) mNx) [7]) mNx) (mSeq (mIf (eTest (eOp dIn (eC .non) (eV 5))) (mRet (eC .non)) mNx) (mSeq (mIf (eTest (eOp dIn (eV 4) (eLst (aCons (eC (.str "and")) (aCons (eC (.str "or")) aNil))))) (mRet (eOp dEq (eV 4) (eC (.str "and")))) mNx) (mSeq (mIf (eTest (eOp dEq (eV 4) (eC (.str "not")))) (mRet (eNot (eV 6))) mNx) (mSeq (mIf (eTest (eOp dEq (eV 4) (eC (.str "neg")))) (mRet (eOp dSub (eC (.int 0)) (eV 6))) mNx) (mSeq (mIf (eTest (eOp dEq (eV 4) (eC (.str "abs")))) (mRet (eCB dMax2 (aCons (eV 6) (aCons (eOp dSub (eC (.int 0)) (eV 6)) aNil)))) mNx) (mSeq (mIf (eTest (eOp dEq (eV 4) (eC (.str "length")))) (mRet (eCB dLen (aCons (eV 6) aNil))) mNx) (mRet (eCall 3 m__law_pair (rSh (eV 4) (rSh (eV 6) (rSh (eOp dIx (eV 5) (eC (.int 1))) rNil)))))))))))))))))))))
def fam__law_value : Nat → (List Slot → Fin)
  | 0 => (fun _ => .stuck)
  | n + 1 => (runF 12 (b__law_value (fam__law_value n)))
def m__law_value (n : Nat) : List Slot → Fin := fam__law_value n
def b_decided : M Fl := (mSeq (mSet 3 (eOp dEq (eV 0) (eC (.str "or")))) (mSeq (mIf (bOr (eTest (eOp dEq (eV 1) (eV 3))) (eTest (eOp dEq (eV 2) (eV 3)))) (mRet (eV 3)) mNx) (mSeq (mIf (bOr (eTest (eIsN (eV 1))) (eTest (eIsN (eV 2)))) (mRet (eC .non)) mNx) (mRet (eNot (eV 3))))))
def m_decided : List Slot → Fin := runF 4 b_decided
def b__single : M Fl := (mSeq (mIf (eTest (eOp dEq (eV 0) (eC (.str "neg")))) (mRet (eUn dNeg (eV 1))) mNx) (mSeq (mIf (eTest (eOp dEq (eV 0) (eC (.str "abs")))) (mRet (eCB dAbs (aCons (eV 1) aNil))) mNx) (mRet (eIf (eTest (eOp dEq (eV 0) (eC (.str "not")))) (eNot (eV 1)) (eCB dLen (aCons (eV 1) aNil))))))
def m__single : List Slot → Fin := runF 2 b__single
def b_bounded : M Fl := (mRet (eIf (eTest (eChain dLt dLt (eUn dNeg (eC (.int 1000000000000000000000000000000))) (eV 0) (eC (.int 1000000000000000000000000000000)))) (eV 0) (eC .non)))
def m_bounded : List Slot → Fin := runF 1 b_bounded
def b__arithmetic : M Fl := (mSeq (mIf (eTest (eOp dEq (eV 0) (eC (.str "add")))) (mRet (eCall 1 m_bounded (rSh (eOp dAdd (eV 1) (eV 2)) rNil))) mNx) (mSeq (mIf (eTest (eOp dEq (eV 0) (eC (.str "sub")))) (mRet (eCall 1 m_bounded (rSh (eOp dSub (eV 1) (eV 2)) rNil))) mNx) (mSeq (mIf (eTest (eOp dEq (eV 0) (eC (.str "mul")))) (mRet (eCall 1 m_bounded (rSh (eOp dMul (eV 1) (eV 2)) rNil))) mNx) (mSeq (mIf (eTest (eOp dEq (eV 2) (eC (.int 0)))) (mRet (eC .non)) mNx) (mRet (eIf (eTest (eOp dEq (eV 0) (eC (.str "div")))) (eCall 1 m_bounded (rSh (eOp dDiv (eV 1) (eV 2)) rNil)) (eCall 1 m_bounded (rSh (eOp dMod (eV 1) (eV 2)) rNil))))))))
def m__arithmetic : List Slot → Fin := runF 3 b__arithmetic
def b_compared : M Fl := (mSeq (mIf (eTest (eOp dEq (eV 0) (eC (.str "eq")))) (mRet (eOp dEq (eV 1) (eV 2))) mNx) (mSeq (mIf (eTest (eOp dEq (eV 0) (eC (.str "ne")))) (mRet (eOp dNe (eV 1) (eV 2))) mNx) (mSeq (mIf (eTest (eOp dEq (eV 0) (eC (.str "lt")))) (mRet (eOp dLt (eV 1) (eV 2))) mNx) (mSeq (mIf (eTest (eOp dEq (eV 0) (eC (.str "le")))) (mRet (eOp dLe (eV 1) (eV 2))) mNx) (mRet (eIf (eTest (eOp dEq (eV 0) (eC (.str "gt")))) (eOp dGt (eV 1) (eV 2)) (eOp dGe (eV 1) (eV 2))))))))
def m_compared : List Slot → Fin := runF 3 b_compared
def b__strict : M Fl := (mSeq (mIf (eTest (eOp dEq (eCB dLen (aCons (eV 1) aNil)) (eC (.int 1)))) (mRet (eCall 2 m__single (rSh (eV 0) (rSh (eOp dIx (eV 1) (eC (.int 0))) rNil)))) mNx) (mSeq (mIf (eTest (eOp dIn (eV 0) (eC k_ARITHMETIC))) (mRet (eCall 3 m__arithmetic (rSh (eV 0) (rSh (eOp dIx (eV 1) (eC (.int 0))) (rSh (eOp dIx (eV 1) (eC (.int 1))) rNil))))) mNx) (mSeq (mIf (eTest (eOp dIn (eV 0) (eC k_COMPARISONS))) (mRet (eCall 3 m_compared (rSh (eV 0) (rSh (eOp dIx (eV 1) (eC (.int 0))) (rSh (eOp dIx (eV 1) (eC (.int 1))) rNil))))) mNx) (mSeq (mSet 2 (eOp dAdd (eOp dIx (eV 1) (eC (.int 0))) (eOp dIx (eV 1) (eC (.int 1))))) (mRet (eIf (eTest (eOp dLe (eCB dLen (aCons (eV 2) aNil)) (eC (.int 200)))) (eV 2) (eC .non)))))))
def m__strict : List Slot → Fin := runF 3 b__strict
def b__index_of : M Fl := (mSeq (mFor (iR1 (aCons (eCB dLen (aCons (eV 0) aNil)) aNil)) (gN 2) (mIf (eTest (eOp dEq (eOp dIx (eOp dIx (eV 0) (eV 2)) (eC (.int 0))) (eV 1))) (mRet (eV 2)) mNx) [2]) (mRet (eC .non)))
def m__index_of : List Slot → Fin := runF 3 b__index_of
def b_attr_index : M Fl := (mRet (eCall 2 m__index_of (rSh (eFld "Shape" "attrs" (eV 0)) (rSh (eV 1) rNil))))
def m_attr_index : List Slot → Fin := runF 2 b_attr_index
def b_dim_index : M Fl := (mRet (eCall 2 m__index_of (rSh (eFld "Shape" "dims" (eV 0)) (rSh (eV 1) rNil))))
def m_dim_index : List Slot → Fin := runF 2 b_dim_index
def b_value_of (m_value_of : List Slot → Fin) : M Fl := (mSeq (mSet 4 (eOp dIx (eV 0) (eC (.int 0)))) (mSeq (mIf (eTest (eOp dEq (eV 4) (eC (.str "value")))) (mRet (eOp dIx (eV 0) (eC (.int 2)))) mNx) (mSeq (mIf (eTest (eOp dEq (eV 4) (eC (.str "attr")))) (mRet (eOp dIx (eV 3) (eCall 2 m_attr_index (rSh (eV 1) (rSh (eOp dIx (eV 0) (eC (.int 1))) rNil))))) mNx) (mSeq (mIf (eTest (eOp dEq (eV 4) (eC (.str "dim")))) (mRet (eOp dIx (eV 2) (eCall 2 m_dim_index (rSh (eV 1) (rSh (eOp dIx (eV 0) (eC (.int 1))) rNil))))) mNx) (mSeq (mSet 5 (eLc (iT (eSl dSl (eV 0) (oSome (eC (.int 1))) oNone)) (gN 6) (M.pure true) (eCall 4 m_value_of (rSh (eV 6) (rSh (eV 1) (rSh (eV 2) (rSh (eV 3) rNil))))) [6])) (mSeq (mIf (eTest (eOp dEq (eV 4) (eC (.str "is missing")))) (mRet (eIsN (eOp dIx (eV 5) (eC (.int 0))))) mNx) (mSeq (mIf (eTest (eOp dIn (eV 4) (eTup (aCons (eC (.str "and")) (aCons (eC (.str "or")) aNil))))) (mRet (eCall 3 m_decided (rSh (eV 4) (rSh (eOp dIx (eV 5) (eC (.int 0))) (rSh (eOp dIx (eV 5) (eC (.int 1))) rNil))))) mNx) (mSeq (mIf (eTest (eOp dEq (eV 4) (eC (.str "if")))) (mSeq (mIf (eTest (eIsN (eOp dIx (eV 5) (eC (.int 0))))) (mRet (eC .non)) mNx) (mRet (eIf (eTest (eOp dIx (eV 5) (eC (.int 0)))) (eOp dIx (eV 5) (eC (.int 1))) (eOp dIx (eV 5) (eC (.int 2)))))) mNx) (mSeq (mIf (eTest (eOp dEq (eV 4) (eC (.str "or else")))) (mRet (eIf (eTest (eIsN (eOp dIx (eV 5) (eC (.int 0))))) (eOp dIx (eV 5) (eC (.int 1))) (eOp dIx (eV 5) (eC (.int 0))))) mNx) (mRet (eIf (eTest (eOp dIn (eC .non) (eV 5))) (eC .non) (eCall 2 m__strict (rSh (eV 4) (rSh (eV 5) rNil))))))))))))))
def fam_value_of : Nat → (List Slot → Fin)
  | 0 => (fun _ => .stuck)
  | n + 1 => (runF 7 (b_value_of (fam_value_of n)))
def m_value_of (n : Nat) : List Slot → Fin := fam_value_of n
def b_is_text : M Fl := (mSeq (mFor (iS (eV 0)) (gN 1) (mIf (bAnd (eTest (eOp dNotIn (eV 1) (eC (.str " !\"#$")))) (bAnd (eTest (eOp dNotIn (eV 1) (eC (.str "&'()*+,-./0123456789:;<=>?@ABCDEFGHIJKLMNOPQRSTUVWXYZ[\\]^_`abcdefghijklmnopqrstuvwxyz{|}~")))) (eTest (eOp dNe (eV 1) (eC (.str "\n")))))) (mRet (eC (.bl false))) mNx) [1]) (mRet (eC (.bl true))))
def m_is_text : List Slot → Fin := runF 2 b_is_text
def b_is_integer : M Fl := (mRet (eAnd (eIsI "int" (eV 0)) (eNot (eIsI "bool" (eV 0)))))
def m_is_integer : List Slot → Fin := runF 1 b_is_integer
def b_is_value : M Fl := (mSeq (mIf (eTest (eOp dEq (eV 0) (eC (.str "int")))) (mRet (eAnd (eCall 1 m_is_integer (rSh (eV 1) rNil)) (eChain dLt dLt (eUn dNeg (eC (.int 1000000000000000000000000000000))) (eV 1) (eC (.int 1000000000000000000000000000000))))) mNx) (mSeq (mIf (eTest (eOp dEq (eV 0) (eC (.str "flag")))) (mRet (eIsI "bool" (eV 1))) mNx) (mRet (eAnd (eIsI "str" (eV 1)) (eAnd (eOp dLe (eCB dLen (aCons (eV 1) aNil)) (eC (.int 200))) (eCall 1 m_is_text (rSh (eV 1) rNil)))))))
def m_is_value : List Slot → Fin := runF 2 b_is_value
def b_law : M Fl := (mSeq (mSetN 1 (eCallN 1 m__law_draws (rSh (eOp dAdd (eSl dSlL (eV 0) oNone (oSome (eC (.int 10)))) (eLst (aCons (eC (.int 6)) aNil))) rNil))) (mSeq (mSet 2 (eCallN 1 m__law_shape (rIo 1 rNil))) (mSeq (mFor (iR1 (aCons (eC (.int 9)) aNil)) (gN 3) (mSeq (mSet 4 (eOp dIx (eLst (aCons (eC (.str "int")) (aCons (eC (.str "flag")) (aCons (eC (.str "text")) aNil)))) (eOp dMod (eCB dInt (aCons (eV 3) aNil)) (eC (.int 3))))) (mSeq (mSet 5 (eCall 4 (m__law_expression 12) (rIo 1 (rSh (eV 2) (rSh (eV 4) (rSh (eC (.int 4)) rNil)))))) (mFor (iR1 (aCons (eC (.int 3)) aNil)) (gN 6) (mSeq (mSet 7 (eCall 2 m__law_place (rIo 1 (rSh (eFld "Shape" "dims" (eV 2)) rNil)))) (mSeq (mSet 8 (eCall 3 m__law_values (rIo 1 (rSh (eFld "Shape" "attrs" (eV 2)) (rSh (eC (.int 5)) rNil))))) (mSeq (mSet 9 (eCall 4 (m__law_value 8) (rSh (eV 5) (rSh (eV 2) (rSh (eV 7) (rSh (eV 8) rNil)))))) (mSeq (mSet 10 (eCall 4 (m_value_of 8) (rSh (eV 5) (rSh (eV 2) (rSh (eV 7) (rSh (eV 8) rNil)))))) (mSeq (mIf (bOr (eTest (eOp dNe (eV 10) (eV 9))) (eTest (eOp dNe (eIsN (eV 10)) (eIsN (eV 9))))) (mRet (eC (.bl false))) mNx) (mIf (bAnd (eTest (eNotN (eV 10))) (bNot (eTest (eCall 2 m_is_value (rSh (eV 4) (rSh (eV 10) rNil)))))) (mRet (eC (.bl false))) mNx)))))) [6]))) [3, 4, 5, 6, 7, 8, 9, 10]) (mRet (eC (.bl true))))))
def m_law : List Slot → Fin := runF 11 b_law
/-! what the top has left -/
structure Txt (K : PySem.W.Frag) (mg : Str → Option Value) where
  f__law_draw : Addr
  fd__law_draw : FuncData
  F__law_draw : Fun K "_law_draw" "_law_draw" s__law_draw f__law_draw fd__law_draw
  b__law_draw : Binds K fd__law_draw ["_law_cell", "_law_many", "_law_bound"] []
  m__law_draw : mg "_law_draw" = some (.ref f__law_draw)
  k__law_draw : PySem.W.keepIn K (.ref f__law_draw) = true
  f__law_draws : Addr
  fd__law_draws : FuncData
  F__law_draws : Fun K "_law_draws" "_law_draws" s__law_draws f__law_draws fd__law_draws
  b__law_draws : Binds K fd__law_draws ["_law_cells_here"] []
  m__law_draws : mg "_law_draws" = some (.ref f__law_draws)
  k__law_draws : PySem.W.keepIn K (.ref f__law_draws) = true
  f_Shape___init__ : Addr
  fd_Shape___init__ : FuncData
  F_Shape___init__ : Fun K "__init__" "Shape.__init__" s_Shape___init__ f_Shape___init__ fd_Shape___init__
  b_Shape___init__ : Binds K fd_Shape___init__ ["self", "dims", "attrs"] []
  f__law_next : Addr
  fd__law_next : FuncData
  F__law_next : Fun K "_law_next" "_law_next" s__law_next f__law_next fd__law_next
  b__law_next : Binds K fd__law_next ["_law_state", "_law_bound"] []
  m__law_next : mg "_law_next" = some (.ref f__law_next)
  k__law_next : PySem.W.keepIn K (.ref f__law_next) = true
  f__law_shape : Addr
  fd__law_shape : FuncData
  F__law_shape : Fun K "_law_shape" "_law_shape" s__law_shape f__law_shape fd__law_shape
  b__law_shape : Binds K fd__law_shape ["_law_state"] []
  m__law_shape : mg "_law_shape" = some (.ref f__law_shape)
  k__law_shape : PySem.W.keepIn K (.ref f__law_shape) = true
  f__law_word : Addr
  fd__law_word : FuncData
  F__law_word : Fun K "_law_word" "_law_word" s__law_word f__law_word fd__law_word
  b__law_word : Binds K fd__law_word ["_law_state"] []
  m__law_word : mg "_law_word" = some (.ref f__law_word)
  k__law_word : PySem.W.keepIn K (.ref f__law_word) = true
  f__law_number : Addr
  fd__law_number : FuncData
  F__law_number : Fun K "_law_number" "_law_number" s__law_number f__law_number fd__law_number
  b__law_number : Binds K fd__law_number ["_law_state"] []
  m__law_number : mg "_law_number" = some (.ref f__law_number)
  k__law_number : PySem.W.keepIn K (.ref f__law_number) = true
  f__law_thing : Addr
  fd__law_thing : FuncData
  F__law_thing : Fun K "_law_thing" "_law_thing" s__law_thing f__law_thing fd__law_thing
  b__law_thing : Binds K fd__law_thing ["_law_state", "_law_kind"] []
  m__law_thing : mg "_law_thing" = some (.ref f__law_thing)
  k__law_thing : PySem.W.keepIn K (.ref f__law_thing) = true
  f__law_leaf : Addr
  fd__law_leaf : FuncData
  F__law_leaf : Fun K "_law_leaf" "_law_leaf" s__law_leaf f__law_leaf fd__law_leaf
  b__law_leaf : Binds K fd__law_leaf ["_law_state", "_law_shape_here", "_law_kind"] []
  m__law_leaf : mg "_law_leaf" = some (.ref f__law_leaf)
  k__law_leaf : PySem.W.keepIn K (.ref f__law_leaf) = true
  f__law_expression : Addr
  fd__law_expression : FuncData
  F__law_expression : Fun K "_law_expression" "_law_expression" s__law_expression f__law_expression fd__law_expression
  b__law_expression : Binds K fd__law_expression ["_law_state", "_law_shape_here", "_law_kind", "_law_depth"] []
  m__law_expression : mg "_law_expression" = some (.ref f__law_expression)
  k__law_expression : PySem.W.keepIn K (.ref f__law_expression) = true
  f__law_flag : Addr
  fd__law_flag : FuncData
  F__law_flag : Fun K "_law_flag" "_law_flag" s__law_flag f__law_flag fd__law_flag
  b__law_flag : Binds K fd__law_flag ["_law_state", "_law_shape_here", "_law_depth"] []
  m__law_flag : mg "_law_flag" = some (.ref f__law_flag)
  k__law_flag : PySem.W.keepIn K (.ref f__law_flag) = true
  f__law_place : Addr
  fd__law_place : FuncData
  F__law_place : Fun K "_law_place" "_law_place" s__law_place f__law_place fd__law_place
  b__law_place : Binds K fd__law_place ["_law_state", "_law_dims"] []
  m__law_place : mg "_law_place" = some (.ref f__law_place)
  k__law_place : PySem.W.keepIn K (.ref f__law_place) = true
  f__law_values : Addr
  fd__law_values : FuncData
  F__law_values : Fun K "_law_values" "_law_values" s__law_values f__law_values fd__law_values
  b__law_values : Binds K fd__law_values ["_law_state", "_law_attrs", "_law_few"] []
  m__law_values : mg "_law_values" = some (.ref f__law_values)
  k__law_values : PySem.W.keepIn K (.ref f__law_values) = true
  f__law_pair : Addr
  fd__law_pair : FuncData
  F__law_pair : Fun K "_law_pair" "_law_pair" s__law_pair f__law_pair fd__law_pair
  b__law_pair : Binds K fd__law_pair ["_law_word_here", "_law_a", "_law_b"] []
  m__law_pair : mg "_law_pair" = some (.ref f__law_pair)
  k__law_pair : PySem.W.keepIn K (.ref f__law_pair) = true
  f__law_value : Addr
  fd__law_value : FuncData
  F__law_value : Fun K "_law_value" "_law_value" s__law_value f__law_value fd__law_value
  b__law_value : Binds K fd__law_value ["_law_expression_here", "_law_shape_here", "_law_place_here", "_law_values_here"] []
  m__law_value : mg "_law_value" = some (.ref f__law_value)
  k__law_value : PySem.W.keepIn K (.ref f__law_value) = true
  f_decided : Addr
  fd_decided : FuncData
  F_decided : Fun K "decided" "decided" s_decided f_decided fd_decided
  b_decided : Binds K fd_decided ["word", "a", "b"] []
  m_decided : mg "decided" = some (.ref f_decided)
  k_decided : PySem.W.keepIn K (.ref f_decided) = true
  f__single : Addr
  fd__single : FuncData
  F__single : Fun K "_single" "_single" s__single f__single fd__single
  b__single : Binds K fd__single ["word", "value"] []
  m__single : mg "_single" = some (.ref f__single)
  k__single : PySem.W.keepIn K (.ref f__single) = true
  f_bounded : Addr
  fd_bounded : FuncData
  F_bounded : Fun K "bounded" "bounded" s_bounded f_bounded fd_bounded
  b_bounded : Binds K fd_bounded ["number"] []
  m_bounded : mg "bounded" = some (.ref f_bounded)
  k_bounded : PySem.W.keepIn K (.ref f_bounded) = true
  f__arithmetic : Addr
  fd__arithmetic : FuncData
  F__arithmetic : Fun K "_arithmetic" "_arithmetic" s__arithmetic f__arithmetic fd__arithmetic
  b__arithmetic : Binds K fd__arithmetic ["word", "a", "b"] []
  m__arithmetic : mg "_arithmetic" = some (.ref f__arithmetic)
  k__arithmetic : PySem.W.keepIn K (.ref f__arithmetic) = true
  f_compared : Addr
  fd_compared : FuncData
  F_compared : Fun K "compared" "compared" s_compared f_compared fd_compared
  b_compared : Binds K fd_compared ["word", "a", "b"] []
  m_compared : mg "compared" = some (.ref f_compared)
  k_compared : PySem.W.keepIn K (.ref f_compared) = true
  f__strict : Addr
  fd__strict : FuncData
  F__strict : Fun K "_strict" "_strict" s__strict f__strict fd__strict
  b__strict : Binds K fd__strict ["word", "values"] []
  m__strict : mg "_strict" = some (.ref f__strict)
  k__strict : PySem.W.keepIn K (.ref f__strict) = true
  f__index_of : Addr
  fd__index_of : FuncData
  F__index_of : Fun K "_index_of" "_index_of" s__index_of f__index_of fd__index_of
  b__index_of : Binds K fd__index_of ["rows", "name"] []
  m__index_of : mg "_index_of" = some (.ref f__index_of)
  k__index_of : PySem.W.keepIn K (.ref f__index_of) = true
  f_attr_index : Addr
  fd_attr_index : FuncData
  F_attr_index : Fun K "attr_index" "attr_index" s_attr_index f_attr_index fd_attr_index
  b_attr_index : Binds K fd_attr_index ["shape", "name"] []
  m_attr_index : mg "attr_index" = some (.ref f_attr_index)
  k_attr_index : PySem.W.keepIn K (.ref f_attr_index) = true
  f_dim_index : Addr
  fd_dim_index : FuncData
  F_dim_index : Fun K "dim_index" "dim_index" s_dim_index f_dim_index fd_dim_index
  b_dim_index : Binds K fd_dim_index ["shape", "name"] []
  m_dim_index : mg "dim_index" = some (.ref f_dim_index)
  k_dim_index : PySem.W.keepIn K (.ref f_dim_index) = true
  f_value_of : Addr
  fd_value_of : FuncData
  F_value_of : Fun K "value_of" "value_of" s_value_of f_value_of fd_value_of
  b_value_of : Binds K fd_value_of ["expression", "shape", "place", "values"] []
  m_value_of : mg "value_of" = some (.ref f_value_of)
  k_value_of : PySem.W.keepIn K (.ref f_value_of) = true
  f_is_text : Addr
  fd_is_text : FuncData
  F_is_text : Fun K "is_text" "is_text" s_is_text f_is_text fd_is_text
  b_is_text : Binds K fd_is_text ["text"] []
  m_is_text : mg "is_text" = some (.ref f_is_text)
  k_is_text : PySem.W.keepIn K (.ref f_is_text) = true
  f_is_integer : Addr
  fd_is_integer : FuncData
  F_is_integer : Fun K "is_integer" "is_integer" s_is_integer f_is_integer fd_is_integer
  b_is_integer : Binds K fd_is_integer ["value"] []
  m_is_integer : mg "is_integer" = some (.ref f_is_integer)
  k_is_integer : PySem.W.keepIn K (.ref f_is_integer) = true
  f_is_value : Addr
  fd_is_value : FuncData
  F_is_value : Fun K "is_value" "is_value" s_is_value f_is_value fd_is_value
  b_is_value : Binds K fd_is_value ["kind", "value"] []
  m_is_value : mg "is_value" = some (.ref f_is_value)
  k_is_value : PySem.W.keepIn K (.ref f_is_value) = true
  f_law : Addr
  fd_law : FuncData
  F_law : Fun K "law" "law" s_law f_law fd_law
  b_law : Binds K fd_law ["_law_script"] []
  m_law : mg "law" = some (.ref f_law)
  k_law : PySem.W.keepIn K (.ref f_law) = true
  C_Shape : Addr
  cm_Shape : mg "Shape" = some (.ref C_Shape)
  cl_Shape : Cls K C_Shape
  mk_Shape : Mk K C_Shape f_Shape___init__
  na_Shape_attrs : NoAttr K C_Shape "attrs"
  na_Shape_dims : NoAttr K C_Shape "dims"
  t_BEFORE : Tok
  c_BEFORE : mg "BEFORE" = some (.str " !\"#$" t_BEFORE)
  t_BEHIND : Tok
  c_BEHIND : mg "BEHIND" = some (.str "&'()*+,-./0123456789:;<=>?@ABCDEFGHIJKLMNOPQRSTUVWXYZ[\\]^_`abcdefghijklmnopqrstuvwxyz{|}~" t_BEHIND)
  t_BOUND : Tok
  c_BOUND : mg "BOUND" = some (.int 1000000000000000000000000000000 t_BOUND)
  t_LONGEST : Tok
  c_LONGEST : mg "LONGEST" = some (.int 200 t_LONGEST)
  a_ARITHMETIC : Addr
  c_ARITHMETIC : mg "ARITHMETIC" = some (.ref a_ARITHMETIC)
  r_ARITHMETIC : ∀ B, Rep K mg B (.ref a_ARITHMETIC) k_ARITHMETIC
  a_COMPARISONS : Addr
  c_COMPARISONS : mg "COMPARISONS" = some (.ref a_COMPARISONS)
  r_COMPARISONS : ∀ B, Rep K mg B (.ref a_COMPARISONS) k_COMPARISONS
  n_abs : mg "abs" = none
  n_bool : mg "bool" = none
  n_int : mg "int" = none
  n_isinstance : mg "isinstance" = none
  n_len : mg "len" = none
  n_max : mg "max" = none
  n_range : mg "range" = none
  n_str : mg "str" = none
  n_tuple : mg "tuple" = none
section
variable {P : Program} {w : World} {K : PySem.W.Frag} {mg : Str → Option Value} {base : Heap}
theorem ok__law_draw (T : Txt K mg) : FnOk P w K mg base (L2.CX P w) 1 T.f__law_draw T.fd__law_draw ["_law_cell", "_law_many", "_law_bound"] (SpM K mg 3 m__law_draw) := by
  refine fn_m (k := 0) (N := N__law_draw) (m := b__law_draw) T.F__law_draw sc__law_draw ?_
  intro cdv A outer s H E hr
  unfold b__law_draw
  exact ⟨_, (sss_cons (ss_setN 3 sc__law_draw.nd (sn_lst sa_nil)) (sss_cons (ss_if (st_cmp or_ge re_ord (se_v 0) (se_op op_pow re_pow se_int se_int)) (sss_cons (ss_for [] (passes_of rfl) rfl (si_r1 T.n_range (sa_cons (se_v 1) sa_nil)) (sg_name 5 sc__law_draw.nd) (sss_cons (ss_app 3 (se_op op_modN re_mod (sb_ty call_int1 re_int T.n_int (sa_cons (se_v 0) sa_nil)) (se_v 2))) (sss_one (ss_set 0 sc__law_draw.nd (se_op op_fdivG re_div (se_v 0) (se_v 2)))))) (sss_one (ss_retO 3))) sss_nil) (sss_cons (ss_set 4 sc__law_draw.nd (se_op op_modN re_mod (sb_ty call_int1 re_int T.n_int (sa_cons (se_v 0) sa_nil)) se_int)) (sss_cons (ss_for [5, 6] (passes_of rfl) rfl (si_r1 T.n_range (sa_cons (se_v 1) sa_nil)) (sg_name 5 sc__law_draw.nd) (sss_cons (ss_set 4 sc__law_draw.nd (se_op op_modN re_mod (sb_ty call_int1 re_int T.n_int (sa_cons (se_op or_add re_add (se_op or_add re_add (se_op or_mul re_mul (se_v 4) se_int) se_int) (se_v 5)) sa_nil)) se_int)) (sss_cons (ss_set 6 sc__law_draw.nd (se_op op_modN re_mod (sb_ty call_int1 re_int T.n_int (sa_cons (se_op or_add re_add (se_op or_mul re_mul (se_v 4) se_int) (se_op or_mul re_mul se_int (se_v 5))) sa_nil)) se_int)) (sss_one (ss_app 3 (se_op op_modN re_mod (sb_ty call_int1 re_int T.n_int (sa_cons (se_op op_fdivG re_div (se_v 6) se_int) sa_nil)) (se_v 2))))))) (sss_one (ss_retO 3))))))⟩
theorem ok__law_draws (T : Txt K mg) : FnOk P w K mg base (L2.CX P w) 2 T.f__law_draws T.fd__law_draws ["_law_cells_here"] (SpM K mg 1 m__law_draws) := by
  refine fn_m (k := 1) (N := N__law_draws) (m := b__law_draws) T.F__law_draws sc__law_draws ?_
  intro cdv A outer s H E hr
  unfold b__law_draws
  exact ⟨_, (sss_cons (ss_set 1 sc__law_draws.nd (SN.se (sn_lst sa_nil))) (sss_cons (ss_for [2] (passes_of rfl) rfl (si_l (se_v 0)) (sg_name 2 sc__law_draws.nd) (sss_one (ss_set 1 sc__law_draws.nd (se_op or_add re_add (se_v 1) (SN.se (sn_call (ok__law_draw T) (hr.mono (by decide)) T.m__law_draw T.k__law_draw T.b__law_draw (takes_of rfl rfl rfl rfl) (sr_sh (se_v 2) (sr_sh se_int (sr_sh (se_op op_shl re_shl se_int se_int) sr_nil))))))))) (sss_one (ss_retN (sn_disp rfl (sps_cons se_str (se_v 1) (sps_cons se_str se_int sps_nil)))))))⟩
theorem ok_Shape___init__ (T : Txt K mg) : FnOk P w K mg base (L2.CX P w) 1 T.f_Shape___init__ T.fd_Shape___init__ ["self", "dims", "attrs"] (SpM K mg 3 m_Shape___init__) := by
  refine fn_m (k := 0) (N := N_Shape___init__) (m := b_Shape___init__) T.F_Shape___init__ sc_Shape___init__ ?_
  intro cdv A outer s H E hr
  unfold b_Shape___init__
  exact ⟨_, (sss_cons (ss_fput 0 T.cm_Shape T.cl_Shape T.na_Shape_dims (se_v 1)) (sss_one (ss_fput 0 T.cm_Shape T.cl_Shape T.na_Shape_attrs (se_v 2))))⟩
theorem ok__law_next (T : Txt K mg) : FnOk P w K mg base (L2.CX P w) 1 T.f__law_next T.fd__law_next ["_law_state", "_law_bound"] (SpM K mg 2 m__law_next) := by
  refine fn_m (k := 0) (N := N__law_next) (m := b__law_next) T.F__law_next sc__law_next ?_
  intro cdv A outer s H E hr
  unfold b__law_next
  exact ⟨_, (sss_cons (ss_set 2 sc__law_next.nd (se_op or_add re_add (se_ix (se_dgetO 0 (hu_of hr) se_str) (se_op op_modN re_mod (sb_ty call_int1 re_int T.n_int (sa_cons (se_dgetO 0 (hu_of hr) se_str) sa_nil)) (sb_cb call_len re_len T.n_len (sa_cons (se_dgetO 0 (hu_of hr) se_str) sa_nil)))) (se_op op_fdivG re_div (sb_ty call_int1 re_int T.n_int (sa_cons (se_dgetO 0 (hu_of hr) se_str) sa_nil)) (sb_cb call_len re_len T.n_len (sa_cons (se_dgetO 0 (hu_of hr) se_str) sa_nil))))) (sss_cons (ss_put 0 (hu_of hr) (se_op or_add re_add (se_dgetO 0 (hu_of hr) se_str) se_int) se_str) (sss_one (ss_ret (se_op op_modN re_mod (sb_ty call_int1 re_int T.n_int (sa_cons (se_v 2) sa_nil)) (se_v 1))))))⟩
theorem ok__law_shape (T : Txt K mg) : FnOk P w K mg base (L2.CX P w) 3 T.f__law_shape T.fd__law_shape ["_law_state"] (SpM K mg 1 m__law_shape) := by
  refine fn_m (k := 2) (N := N__law_shape) (m := b__law_shape) T.F__law_shape sc__law_shape ?_
  intro cdv A outer s H E hr
  unfold b__law_shape
  exact ⟨_, (sss_cons (ss_setN 1 sc__law_shape.nd (sn_lst sa_nil)) (sss_cons (ss_for [2, 5] (passes_of rfl) rfl (si_l (SN.se (sn_sl (SN.se (sn_lst (sa_cons se_str (sa_cons se_str (sa_cons se_str sa_nil))))) so_none (so_some (se_op or_add re_add se_int (se_call (ok__law_next T) (hr.mono (by decide)) T.m__law_next T.k__law_next T.b__law_next (takes_of rfl rfl rfl rfl) (sr_io 0 (sr_sh se_int sr_nil)))))))) (sg_name 2 sc__law_shape.nd) (sss_cons (ss_set 5 sc__law_shape.nd (se_op op_sub re_sub (se_call (ok__law_next T) (hr.mono (by decide)) T.m__law_next T.k__law_next T.b__law_next (takes_of rfl rfl rfl rfl) (sr_io 0 (sr_sh se_int sr_nil))) se_int)) (sss_one (ss_app 1 (se_tup (sa_cons (se_v 2) (sa_cons (se_v 5) (sa_cons (se_op or_add re_add (se_v 5) (se_call (ok__law_next T) (hr.mono (by decide)) T.m__law_next T.k__law_next T.b__law_next (takes_of rfl rfl rfl rfl) (sr_io 0 (sr_sh se_int sr_nil)))) (sa_cons (se_op or_add re_add se_int (se_call (ok__law_next T) (hr.mono (by decide)) T.m__law_next T.k__law_next T.b__law_next (takes_of rfl rfl rfl rfl) (sr_io 0 (sr_sh se_int sr_nil)))) sa_nil))))))))) (sss_cons (ss_setN 3 sc__law_shape.nd (sn_lst sa_nil)) (sss_cons (ss_for [4] (passes_of rfl) rfl (si_r1 T.n_range (sa_cons (se_op or_add re_add se_int (se_call (ok__law_next T) (hr.mono (by decide)) T.m__law_next T.k__law_next T.b__law_next (takes_of rfl rfl rfl rfl) (sr_io 0 (sr_sh se_int sr_nil)))) sa_nil)) (sg_name 4 sc__law_shape.nd) (sss_one (ss_app 3 (se_tup (sa_cons (se_ix (SN.se (sn_lst (sa_cons se_str (sa_cons se_str (sa_cons se_str (sa_cons se_str sa_nil)))))) (se_v 4)) (sa_cons (se_ix (SN.se (sn_lst (sa_cons se_str (sa_cons se_str (sa_cons se_str (sa_cons se_str sa_nil)))))) (se_op op_modN re_mod (sb_ty call_int1 re_int T.n_int (sa_cons (se_op or_add re_add (se_v 4) (se_call (ok__law_next T) (hr.mono (by decide)) T.m__law_next T.k__law_next T.b__law_next (takes_of rfl rfl rfl rfl) (sr_io 0 (sr_sh se_int sr_nil)))) sa_nil)) se_int)) sa_nil)))))) (sss_one (ss_retN (sn_new T.mk_Shape (ok_Shape___init__ T) (hr.mono (by decide)) T.cm_Shape T.b_Shape___init__ (sr_sh (se_tupO 1 T.n_tuple) (sr_sh (se_tupO 3 T.n_tuple) sr_nil)))))))))⟩
theorem ok__law_word (T : Txt K mg) : FnOk P w K mg base (L2.CX P w) 2 T.f__law_word T.fd__law_word ["_law_state"] (SpM K mg 1 m__law_word) := by
  refine fn_m (k := 1) (N := N__law_word) (m := b__law_word) T.F__law_word sc__law_word ?_
  intro cdv A outer s H E hr
  unfold b__law_word
  exact ⟨_, (sss_one (ss_ret (se_join se_str (SN.se (sn_lc rfl sc__law_word.nd (si_r1 T.n_range (sa_cons (se_call (ok__law_next T) (hr.mono (by decide)) T.m__law_next T.k__law_next T.b__law_next (takes_of rfl rfl rfl rfl) (sr_io 0 (sr_sh se_int sr_nil))) sa_nil)) (blkOk_by (own := [("_law_k", 1)]) (N := N__law_word) (sc := defScope s__law_word) (by decide +kernel)) (fun _ _ _ _ _ => (sg_name 1 sc__law_word.nd)) (fun _ _ _ _ _ => sts_nil) (fun _ _ _ _ _ => (se_ix se_str (se_call (ok__law_next T) (hr.mono (by decide)) T.m__law_next T.k__law_next T.b__law_next takes0 (sr_io 0 (sr_sh se_int sr_nil))))) (by decide))))))⟩
theorem ok__law_number (T : Txt K mg) : FnOk P w K mg base (L2.CX P w) 2 T.f__law_number T.fd__law_number ["_law_state"] (SpM K mg 1 m__law_number) := by
  refine fn_m (k := 1) (N := N__law_number) (m := b__law_number) T.F__law_number sc__law_number ?_
  intro cdv A outer s H E hr
  unfold b__law_number
  exact ⟨_, (sss_cons (ss_set 1 sc__law_number.nd (se_call (ok__law_next T) (hr.mono (by decide)) T.m__law_next T.k__law_next T.b__law_next (takes_of rfl rfl rfl rfl) (sr_io 0 (sr_sh se_int sr_nil)))) (sss_cons (ss_if (st_cmp (op_eqD hr.units) re_eq (se_v 1) se_int) (sss_one (ss_ret (se_ix (SN.se (sn_lst (sa_cons (se_op op_sub re_sub (se_op op_pow re_pow se_int se_int) se_int) (sa_cons (se_op op_sub re_sub se_int (se_op op_pow re_pow se_int se_int)) (sa_cons (se_op op_pow re_pow se_int se_int) (sa_cons (se_op op_sub re_sub se_int (se_op op_pow re_pow se_int se_int)) (sa_cons (se_op op_pow re_pow se_int se_int) sa_nil))))))) (se_call (ok__law_next T) (hr.mono (by decide)) T.m__law_next T.k__law_next T.b__law_next (takes_of rfl rfl rfl rfl) (sr_io 0 (sr_sh se_int sr_nil)))))) sss_nil) (sss_cons (ss_if (st_cmp (op_eqD hr.units) re_eq (se_v 1) se_int) (sss_one (ss_ret (se_op op_sub re_sub (se_op or_mul re_mul (se_call (ok__law_next T) (hr.mono (by decide)) T.m__law_next T.k__law_next T.b__law_next (takes_of rfl rfl rfl rfl) (sr_io 0 (sr_sh (se_op op_shl re_shl se_int se_int) sr_nil))) (se_call (ok__law_next T) (hr.mono (by decide)) T.m__law_next T.k__law_next T.b__law_next (takes_of rfl rfl rfl rfl) (sr_io 0 (sr_sh (se_op op_shl re_shl se_int se_int) sr_nil)))) (se_op op_shl re_shl se_int se_int)))) sss_nil) (sss_one (ss_ret (se_op op_sub re_sub (se_call (ok__law_next T) (hr.mono (by decide)) T.m__law_next T.k__law_next T.b__law_next (takes_of rfl rfl rfl rfl) (sr_io 0 (sr_sh se_int sr_nil))) se_int))))))⟩
theorem ok__law_thing (T : Txt K mg) : FnOk P w K mg base (L2.CX P w) 3 T.f__law_thing T.fd__law_thing ["_law_state", "_law_kind"] (SpM K mg 2 m__law_thing) := by
  refine fn_m (k := 2) (N := N__law_thing) (m := b__law_thing) T.F__law_thing sc__law_thing ?_
  intro cdv A outer s H E hr
  unfold b__law_thing
  exact ⟨_, (sss_cons (ss_if (st_cmp (op_eqD hr.units) re_eq (se_v 1) se_str) (sss_one (ss_ret (se_call (ok__law_number T) (hr.mono (by decide)) T.m__law_number T.k__law_number T.b__law_number (takes_of rfl rfl rfl rfl) (sr_io 0 sr_nil)))) sss_nil) (sss_cons (ss_if (st_cmp (op_eqD hr.units) re_eq (se_v 1) se_str) (sss_one (ss_ret (se_cmp (op_eqD hr.units) re_eq (se_call (ok__law_next T) (hr.mono (by decide)) T.m__law_next T.k__law_next T.b__law_next (takes_of rfl rfl rfl rfl) (sr_io 0 (sr_sh se_int sr_nil))) se_int))) sss_nil) (sss_cons (ss_if (st_cmp (op_eqD hr.units) re_eq (se_call (ok__law_next T) (hr.mono (by decide)) T.m__law_next T.k__law_next T.b__law_next (takes_of rfl rfl rfl rfl) (sr_io 0 (sr_sh se_int sr_nil))) se_int) (sss_one (ss_ret (se_op or_mul re_mul (se_ix (SN.se (sn_lst (sa_cons se_str (sa_cons se_str (sa_cons se_str sa_nil))))) (se_call (ok__law_next T) (hr.mono (by decide)) T.m__law_next T.k__law_next T.b__law_next (takes_of rfl rfl rfl rfl) (sr_io 0 (sr_sh se_int sr_nil)))) (se_ix (SN.se (sn_lst (sa_cons se_int (sa_cons se_int (sa_cons se_int sa_nil))))) (se_call (ok__law_next T) (hr.mono (by decide)) T.m__law_next T.k__law_next T.b__law_next (takes_of rfl rfl rfl rfl) (sr_io 0 (sr_sh se_int sr_nil))))))) sss_nil) (sss_one (ss_ret (se_call (ok__law_word T) (hr.mono (by decide)) T.m__law_word T.k__law_word T.b__law_word (takes_of rfl rfl rfl rfl) (sr_io 0 sr_nil)))))))⟩
theorem ok__law_leaf (T : Txt K mg) : FnOk P w K mg base (L2.CX P w) 4 T.f__law_leaf T.fd__law_leaf ["_law_state", "_law_shape_here", "_law_kind"] (SpM K mg 3 m__law_leaf) := by
  refine fn_m (k := 3) (N := N__law_leaf) (m := b__law_leaf) T.F__law_leaf sc__law_leaf ?_
  intro cdv A outer s H E hr
  unfold b__law_leaf
  exact ⟨_, (sss_cons (ss_setLc rfl sc__law_leaf.nd rfl rfl (sw_true rfl rfl rfl (by decide +kernel)) (si_t (se_fld T.cm_Shape T.cl_Shape T.na_Shape_attrs (se_v 1))) (blkOk_by (own := [("_law_name", 5), ("_law_word_here", 6)]) (N := N__law_leaf) (sc := defScope s__law_leaf) (by decide +kernel)) (fun _ _ _ _ _ => (sg_tup rfl (sgs_cons (sg_name 5 sc__law_leaf.nd) (sgs_cons (sg_name 6 sc__law_leaf.nd) sgs_nil)))) (fun _ _ _ _ _ => (sts_one (st_cmp (op_eqD hr.units) re_eq (se_v 6) (se_v 2)))) (fun _ _ _ _ _ => (se_v 5)) (by decide)) (sss_cons (ss_set 4 sc__law_leaf.nd (se_call (ok__law_next T) (hr.mono (by decide)) T.m__law_next T.k__law_next T.b__law_next (takes_of rfl rfl rfl rfl) (sr_io 0 (sr_sh se_int sr_nil)))) (sss_cons (ss_if (SW.st (sw_and (st_cmp or_lt re_ord (se_v 4) se_int) (sw_and1 (st_cmp or_gt re_ord (sb_cb call_len re_len T.n_len (sa_cons (se_v 3) sa_nil)) se_int)))) (sss_one (ss_ret (se_tup (sa_cons se_str (sa_cons (se_ix (se_v 3) (se_call (ok__law_next T) (hr.mono (by decide)) T.m__law_next T.k__law_next T.b__law_next (takes_of rfl rfl rfl rfl) (sr_io 0 (sr_sh (sb_cb call_len re_len T.n_len (sa_cons (se_v 3) sa_nil)) sr_nil)))) sa_nil))))) sss_nil) (sss_cons (ss_if (SW.st (sw_and (st_cmp or_lt re_ord (se_v 4) se_int) (sw_and1 (st_cmp (op_eqD hr.units) re_eq (se_v 2) se_str)))) (sss_one (ss_ret (se_tup (sa_cons se_str (sa_cons (se_ix (se_ix (se_fld T.cm_Shape T.cl_Shape T.na_Shape_dims (se_v 1)) (se_call (ok__law_next T) (hr.mono (by decide)) T.m__law_next T.k__law_next T.b__law_next (takes_of rfl rfl rfl rfl) (sr_io 0 (sr_sh (sb_cb call_len re_len T.n_len (sa_cons (se_fld T.cm_Shape T.cl_Shape T.na_Shape_dims (se_v 1)) sa_nil)) sr_nil)))) se_int) sa_nil))))) sss_nil) (sss_cons (ss_if (SW.st (sw_and (st_cmp (op_eqD hr.units) re_eq (se_v 4) se_int) (sw_and1 (st_cmp (op_eqD hr.units) re_eq (se_call (ok__law_next T) (hr.mono (by decide)) T.m__law_next T.k__law_next T.b__law_next (takes_of rfl rfl rfl rfl) (sr_io 0 (sr_sh se_int sr_nil))) se_int)))) (sss_one (ss_ret (se_tup (sa_cons se_str (sa_cons (se_v 2) (sa_cons se_non sa_nil)))))) sss_nil) (sss_one (ss_ret (se_tup (sa_cons se_str (sa_cons (se_v 2) (sa_cons (se_call (ok__law_thing T) (hr.mono (by decide)) T.m__law_thing T.k__law_thing T.b__law_thing (takes_of rfl rfl rfl rfl) (sr_io 0 (sr_sh (se_v 2) sr_nil))) sa_nil)))))))))))⟩
theorem oks__law_expression (T : Txt K mg) : ∀ n : Nat, FnOk P w K mg base (L2.CX P w) (4 + n) T.f__law_expression T.fd__law_expression ["_law_state", "_law_shape_here", "_law_kind", "_law_depth"] (SpM K mg 4 (m__law_expression n)) ∧ FnOk P w K mg base (L2.CX P w) (4 + n) T.f__law_flag T.fd__law_flag ["_law_state", "_law_shape_here", "_law_depth"] (SpM K mg 3 (m__law_flag n))
  | 0 => ⟨fn_stuck, fn_stuck⟩
  | n + 1 => by
    have ih := oks__law_expression T n
    have ih__law_expression := ih.1
    have ih__law_flag := ih.2
    have g__law_expression : FnOk P w K mg base (L2.CX P w) (4 + (n + 1)) T.f__law_expression T.fd__law_expression ["_law_state", "_law_shape_here", "_law_kind", "_law_depth"] (SpM K mg 4 (m__law_expression (n + 1))) := by
      refine fn_m (k := 4 + n) (N := N__law_expression) (m := b__law_expression (m__law_expression n) (m__law_flag n)) T.F__law_expression sc__law_expression ?_
      intro cdv A outer s H E hr
      unfold b__law_expression
      exact ⟨_, (sss_cons (ss_set 4 sc__law_expression.nd (se_call (ok__law_next T) (hr.mono (by omega)) T.m__law_next T.k__law_next T.b__law_next (takes_of rfl rfl rfl rfl) (sr_io 0 (sr_sh se_int sr_nil)))) (sss_cons (ss_if (SW.st (sw_or (st_cmp or_le re_ord (se_v 3) se_int) (sw_or1 (st_cmp (op_eqD hr.units) re_eq (se_v 4) se_int)))) (sss_one (ss_ret (se_call (ok__law_leaf T) (hr.mono (by omega)) T.m__law_leaf T.k__law_leaf T.b__law_leaf (takes_of rfl rfl rfl rfl) (sr_io 0 (sr_sh (se_v 1) (sr_sh (se_v 2) sr_nil)))))) sss_nil) (sss_cons (ss_if (st_cmp (op_eqD hr.units) re_eq (se_v 4) se_int) (sss_cons (ss_set 6 sc__law_expression.nd (se_tup (sa_cons (se_call ih__law_expression (hr.mono (by omega)) T.m__law_expression T.k__law_expression T.b__law_expression (takes_of rfl rfl rfl rfl) (sr_io 0 (sr_sh (se_v 1) (sr_sh (se_v 2) (sr_sh (se_op op_sub re_sub (se_v 3) se_int) sr_nil))))) (sa_cons (se_call ih__law_expression (hr.mono (by omega)) T.m__law_expression T.k__law_expression T.b__law_expression (takes_of rfl rfl rfl rfl) (sr_io 0 (sr_sh (se_v 1) (sr_sh (se_v 2) (sr_sh (se_op op_sub re_sub (se_v 3) se_int) sr_nil))))) sa_nil)))) (sss_one (ss_ret (se_op or_add re_add (se_tup (sa_cons se_str (sa_cons (se_call ih__law_expression (hr.mono (by omega)) T.m__law_expression T.k__law_expression T.b__law_expression (takes_of rfl rfl rfl rfl) (sr_io 0 (sr_sh (se_v 1) (sr_sh se_str (sr_sh (se_op op_sub re_sub (se_v 3) se_int) sr_nil))))) sa_nil))) (se_v 6))))) sss_nil) (sss_cons (ss_if (st_cmp (op_eqD hr.units) re_eq (se_v 4) se_int) (sss_one (ss_ret (se_tup (sa_cons se_str (sa_cons (se_call ih__law_expression (hr.mono (by omega)) T.m__law_expression T.k__law_expression T.b__law_expression (takes_of rfl rfl rfl rfl) (sr_io 0 (sr_sh (se_v 1) (sr_sh (se_v 2) (sr_sh (se_op op_sub re_sub (se_v 3) se_int) sr_nil))))) (sa_cons (se_call ih__law_expression (hr.mono (by omega)) T.m__law_expression T.k__law_expression T.b__law_expression (takes_of rfl rfl rfl rfl) (sr_io 0 (sr_sh (se_v 1) (sr_sh (se_v 2) (sr_sh (se_op op_sub re_sub (se_v 3) se_int) sr_nil))))) sa_nil)))))) sss_nil) (sss_cons (ss_if (st_cmp (op_eqD hr.units) re_eq (se_v 2) se_str) (sss_one (ss_ret (se_call ih__law_flag (hr.mono (by omega)) T.m__law_flag T.k__law_flag T.b__law_flag (takes_of rfl rfl rfl rfl) (sr_io 0 (sr_sh (se_v 1) (sr_sh (se_v 3) sr_nil)))))) sss_nil) (sss_cons (ss_if (st_cmp (op_eqD hr.units) re_eq (se_v 2) se_str) (sss_one (ss_ret (se_tup (sa_cons se_str (sa_cons (se_call ih__law_expression (hr.mono (by omega)) T.m__law_expression T.k__law_expression T.b__law_expression (takes_of rfl rfl rfl rfl) (sr_io 0 (sr_sh (se_v 1) (sr_sh (se_v 2) (sr_sh (se_op op_sub re_sub (se_v 3) se_int) sr_nil))))) (sa_cons (se_call ih__law_expression (hr.mono (by omega)) T.m__law_expression T.k__law_expression T.b__law_expression (takes_of rfl rfl rfl rfl) (sr_io 0 (sr_sh (se_v 1) (sr_sh (se_v 2) (sr_sh (se_op op_sub re_sub (se_v 3) se_int) sr_nil))))) sa_nil)))))) sss_nil) (sss_cons (ss_if (st_cmp (op_eqD hr.units) re_eq (se_v 4) se_int) (sss_one (ss_ret (se_tup (sa_cons se_str (sa_cons (se_call ih__law_expression (hr.mono (by omega)) T.m__law_expression T.k__law_expression T.b__law_expression (takes_of rfl rfl rfl rfl) (sr_io 0 (sr_sh (se_v 1) (sr_sh se_str (sr_sh (se_op op_sub re_sub (se_v 3) se_int) sr_nil))))) sa_nil))))) sss_nil) (sss_cons (ss_if (st_cmp (op_eqD hr.units) re_eq (se_v 4) se_int) (sss_one (ss_ret (se_tup (sa_cons (se_ix (SN.se (sn_lst (sa_cons se_str (sa_cons se_str sa_nil)))) (se_call (ok__law_next T) (hr.mono (by omega)) T.m__law_next T.k__law_next T.b__law_next (takes_of rfl rfl rfl rfl) (sr_io 0 (sr_sh se_int sr_nil)))) (sa_cons (se_call ih__law_expression (hr.mono (by omega)) T.m__law_expression T.k__law_expression T.b__law_expression (takes_of rfl rfl rfl rfl) (sr_io 0 (sr_sh (se_v 1) (sr_sh (se_v 2) (sr_sh (se_op op_sub re_sub (se_v 3) se_int) sr_nil))))) sa_nil))))) sss_nil) (sss_cons (ss_set 5 sc__law_expression.nd (se_ix (SN.se (sn_lst (sa_cons se_str (sa_cons se_str (sa_cons se_str (sa_cons se_str (sa_cons se_str sa_nil))))))) (se_call (ok__law_next T) (hr.mono (by omega)) T.m__law_next T.k__law_next T.b__law_next (takes_of rfl rfl rfl rfl) (sr_io 0 (sr_sh se_int sr_nil))))) (sss_one (ss_ret (se_tup (sa_cons (se_v 5) (sa_cons (se_call ih__law_expression (hr.mono (by omega)) T.m__law_expression T.k__law_expression T.b__law_expression (takes_of rfl rfl rfl rfl) (sr_io 0 (sr_sh (se_v 1) (sr_sh (se_v 2) (sr_sh (se_op op_sub re_sub (se_v 3) se_int) sr_nil))))) (sa_cons (se_call ih__law_expression (hr.mono (by omega)) T.m__law_expression T.k__law_expression T.b__law_expression (takes_of rfl rfl rfl rfl) (sr_io 0 (sr_sh (se_v 1) (sr_sh (se_v 2) (sr_sh (se_op op_sub re_sub (se_v 3) se_int) sr_nil))))) sa_nil)))))))))))))))⟩
    have g__law_flag : FnOk P w K mg base (L2.CX P w) (4 + (n + 1)) T.f__law_flag T.fd__law_flag ["_law_state", "_law_shape_here", "_law_depth"] (SpM K mg 3 (m__law_flag (n + 1))) := by
      refine fn_m (k := 4 + n) (N := N__law_flag) (m := b__law_flag (m__law_expression n) (m__law_flag n)) T.F__law_flag sc__law_flag ?_
      intro cdv A outer s H E hr
      unfold b__law_flag
      exact ⟨_, (sss_cons (ss_set 3 sc__law_flag.nd (se_call (ok__law_next T) (hr.mono (by omega)) T.m__law_next T.k__law_next T.b__law_next (takes_of rfl rfl rfl rfl) (sr_io 0 (sr_sh se_int sr_nil)))) (sss_cons (ss_if (st_cmp (op_eqD hr.units) re_eq (se_v 3) se_int) (sss_one (ss_ret (se_tup (sa_cons se_str (sa_cons (se_call ih__law_expression (hr.mono (by omega)) T.m__law_expression T.k__law_expression T.b__law_expression (takes_of rfl rfl rfl rfl) (sr_io 0 (sr_sh (se_v 1) (sr_sh se_str (sr_sh (se_op op_sub re_sub (se_v 2) se_int) sr_nil))))) sa_nil))))) sss_nil) (sss_cons (ss_if (st_cmp (op_eqD hr.units) re_eq (se_v 3) se_int) (sss_one (ss_ret (se_tup (sa_cons se_str (sa_cons (se_call ih__law_expression (hr.mono (by omega)) T.m__law_expression T.k__law_expression T.b__law_expression (takes_of rfl rfl rfl rfl) (sr_io 0 (sr_sh (se_v 1) (sr_sh (se_ix (SN.se (sn_lst (sa_cons se_str (sa_cons se_str (sa_cons se_str sa_nil))))) (se_call (ok__law_next T) (hr.mono (by omega)) T.m__law_next T.k__law_next T.b__law_next (takes_of rfl rfl rfl rfl) (sr_io 0 (sr_sh se_int sr_nil)))) (sr_sh (se_op op_sub re_sub (se_v 2) se_int) sr_nil))))) sa_nil))))) sss_nil) (sss_cons (ss_if (st_cmp or_lt re_ord (se_v 3) se_int) (sss_cons (ss_set 5 sc__law_flag.nd (se_ix (SN.se (sn_lst (sa_cons se_str (sa_cons se_str sa_nil)))) (se_op op_sub re_sub (se_v 3) se_int))) (sss_one (ss_ret (se_tup (sa_cons (se_v 5) (sa_cons (se_call ih__law_expression (hr.mono (by omega)) T.m__law_expression T.k__law_expression T.b__law_expression (takes_of rfl rfl rfl rfl) (sr_io 0 (sr_sh (se_v 1) (sr_sh se_str (sr_sh (se_op op_sub re_sub (se_v 2) se_int) sr_nil))))) (sa_cons (se_call ih__law_expression (hr.mono (by omega)) T.m__law_expression T.k__law_expression T.b__law_expression (takes_of rfl rfl rfl rfl) (sr_io 0 (sr_sh (se_v 1) (sr_sh se_str (sr_sh (se_op op_sub re_sub (se_v 2) se_int) sr_nil))))) sa_nil))))))) sss_nil) (sss_cons (ss_set 4 sc__law_flag.nd (se_ix (SN.se (sn_lst (sa_cons se_str (sa_cons se_str (sa_cons se_str (sa_cons se_str (sa_cons se_str sa_nil))))))) (se_call (ok__law_next T) (hr.mono (by omega)) T.m__law_next T.k__law_next T.b__law_next (takes_of rfl rfl rfl rfl) (sr_io 0 (sr_sh se_int sr_nil))))) (sss_cons (ss_set 5 sc__law_flag.nd (se_ix (SN.se (sn_lst (sa_cons se_str (sa_cons se_str (sa_cons se_str (sa_cons se_str (sa_cons se_str (sa_cons se_str sa_nil)))))))) (se_call (ok__law_next T) (hr.mono (by omega)) T.m__law_next T.k__law_next T.b__law_next (takes_of rfl rfl rfl rfl) (sr_io 0 (sr_sh se_int sr_nil))))) (sss_one (ss_ret (se_tup (sa_cons (se_v 5) (sa_cons (se_call ih__law_expression (hr.mono (by omega)) T.m__law_expression T.k__law_expression T.b__law_expression (takes_of rfl rfl rfl rfl) (sr_io 0 (sr_sh (se_v 1) (sr_sh (se_v 4) (sr_sh (se_op op_sub re_sub (se_v 2) se_int) sr_nil))))) (sa_cons (se_call ih__law_expression (hr.mono (by omega)) T.m__law_expression T.k__law_expression T.b__law_expression (takes_of rfl rfl rfl rfl) (sr_io 0 (sr_sh (se_v 1) (sr_sh (se_v 4) (sr_sh (se_op op_sub re_sub (se_v 2) se_int) sr_nil))))) sa_nil))))))))))))⟩
    exact ⟨g__law_expression, g__law_flag⟩
theorem ok__law_expression (T : Txt K mg) (n : Nat) : FnOk P w K mg base (L2.CX P w) (4 + n) T.f__law_expression T.fd__law_expression ["_law_state", "_law_shape_here", "_law_kind", "_law_depth"] (SpM K mg 4 (m__law_expression n)) := (oks__law_expression T n).1
theorem ok__law_flag (T : Txt K mg) (n : Nat) : FnOk P w K mg base (L2.CX P w) (4 + n) T.f__law_flag T.fd__law_flag ["_law_state", "_law_shape_here", "_law_depth"] (SpM K mg 3 (m__law_flag n)) := (oks__law_expression T n).2
theorem ok__law_place (T : Txt K mg) : FnOk P w K mg base (L2.CX P w) 2 T.f__law_place T.fd__law_place ["_law_state", "_law_dims"] (SpM K mg 2 m__law_place) := by
  refine fn_m (k := 1) (N := N__law_place) (m := b__law_place) T.F__law_place sc__law_place ?_
  intro cdv A outer s H E hr
  unfold b__law_place
  exact ⟨_, (sss_one (ss_ret (sb_ty call_tuple_of re_tupOf T.n_tuple (sa_cons (SN.se (sn_lc rfl sc__law_place.nd (si_t (se_v 1)) (blkOk_by (own := [("_law_name", 2), ("_law_low", 3), ("_law_high", 4), ("_law_step", 5)]) (N := N__law_place) (sc := defScope s__law_place) (by decide +kernel)) (fun _ _ _ _ _ => (sg_tup rfl (sgs_cons (sg_name 2 sc__law_place.nd) (sgs_cons (sg_name 3 sc__law_place.nd) (sgs_cons (sg_name 4 sc__law_place.nd) (sgs_cons (sg_name 5 sc__law_place.nd) sgs_nil)))))) (fun _ _ _ _ _ => sts_nil) (fun _ _ _ _ _ => (se_op or_add re_add (se_v 3) (se_call (ok__law_next T) (hr.mono (by decide)) T.m__law_next T.k__law_next T.b__law_next takes0 (sr_io 0 (sr_sh (se_op or_add re_add (se_op op_sub re_sub (se_v 4) (se_v 3)) se_int) sr_nil))))) (by decide))) sa_nil))))⟩
theorem ok__law_values (T : Txt K mg) : FnOk P w K mg base (L2.CX P w) 4 T.f__law_values T.fd__law_values ["_law_state", "_law_attrs", "_law_few"] (SpM K mg 3 m__law_values) := by
  refine fn_m (k := 3) (N := N__law_values) (m := b__law_values) T.F__law_values sc__law_values ?_
  intro cdv A outer s H E hr
  unfold b__law_values
  exact ⟨_, (sss_cons (ss_setN 3 sc__law_values.nd (sn_lst sa_nil)) (sss_cons (ss_for [4, 5, 6] (passes_of rfl) rfl (si_t (se_v 1)) (sg_tup rfl (sgs_cons (sg_name 4 sc__law_values.nd) (sgs_cons (sg_name 5 sc__law_values.nd) sgs_nil))) (sss_cons (ss_set 6 sc__law_values.nd se_non) (sss_cons (ss_if (st_cmp or_gt re_ord (se_call (ok__law_next T) (hr.mono (by decide)) T.m__law_next T.k__law_next T.b__law_next (takes_of rfl rfl rfl rfl) (sr_io 0 (sr_sh (se_v 2) sr_nil))) se_int) (sss_one (ss_set 6 sc__law_values.nd (se_call (ok__law_thing T) (hr.mono (by decide)) T.m__law_thing T.k__law_thing T.b__law_thing (takes_of rfl rfl rfl rfl) (sr_io 0 (sr_sh (se_v 5) sr_nil))))) sss_nil) (sss_one (ss_app 3 (se_v 6)))))) (sss_one (ss_ret (se_tupO 3 T.n_tuple)))))⟩
theorem ok__law_pair (T : Txt K mg) : FnOk P w K mg base (L2.CX P w) 1 T.f__law_pair T.fd__law_pair ["_law_word_here", "_law_a", "_law_b"] (SpM K mg 3 m__law_pair) := by
  refine fn_m (k := 0) (N := N__law_pair) (m := b__law_pair) T.F__law_pair sc__law_pair ?_
  intro cdv A outer s H E hr
  unfold b__law_pair
  exact ⟨_, (sss_cons (ss_if (st_cmp (op_eqD hr.units) re_eq (se_v 0) se_str) (sss_one (ss_ret (se_ix (SN.se (sn_lst (sa_cons (se_op or_add re_add (se_v 1) (se_v 2)) (sa_cons se_non sa_nil)))) (sb_ty call_int1 re_int T.n_int (sa_cons (se_cmp or_gt re_ord (sb_cb call_len re_len T.n_len (sa_cons (se_op or_add re_add (se_v 1) (se_v 2)) sa_nil)) se_int) sa_nil))))) sss_nil) (sss_cons (ss_if (st_cmp or_in re_in (se_v 0) (SN.se (sn_lst (sa_cons se_str (sa_cons se_str (sa_cons se_str (sa_cons se_str (sa_cons se_str (sa_cons se_str sa_nil))))))))) (sss_one (ss_ret (se_dget (hu_of hr) (SN.se (sn_disp rfl (sps_cons se_str (se_cmp (op_eqD hr.units) re_eq (se_v 1) (se_v 2)) (sps_cons se_str (se_cmp (op_neD hr.units) re_ne (se_v 1) (se_v 2)) (sps_cons se_str (se_cmp or_lt re_ord (se_v 1) (se_v 2)) (sps_cons se_str (se_cmp or_le re_ord (se_v 1) (se_v 2)) (sps_cons se_str (se_cmp or_gt re_ord (se_v 1) (se_v 2)) (sps_cons se_str (se_cmp or_ge re_ord (se_v 1) (se_v 2)) sps_nil)))))))) (se_v 0)))) sss_nil) (sss_cons (ss_if (SW.st (sw_and (st_cmp or_in re_in (se_v 0) (SN.se (sn_lst (sa_cons se_str (sa_cons se_str sa_nil))))) (sw_and1 (st_cmp (op_eqD hr.units) re_eq (se_v 2) se_int)))) (sss_one (ss_ret se_non)) sss_nil) (sss_cons (ss_if (st_cmp (op_eqD hr.units) re_eq (se_v 0) se_str) (sss_one (ss_set 3 sc__law_pair.nd (se_op op_fdivG re_div (se_v 1) (se_v 2)))) (sss_one (ss_if (st_cmp (op_eqD hr.units) re_eq (se_v 0) se_str) (sss_one (ss_set 3 sc__law_pair.nd (se_op op_sub re_sub (se_v 1) (se_op or_mul re_mul (se_v 2) (se_op op_fdivG re_div (se_v 1) (se_v 2)))))) (sss_one (ss_set 3 sc__law_pair.nd (se_dget (hu_of hr) (SN.se (sn_disp rfl (sps_cons se_str (se_op or_add re_add (se_v 1) (se_v 2)) (sps_cons se_str (se_op op_sub re_sub (se_v 1) (se_v 2)) (sps_cons se_str (se_op or_mul re_mul (se_v 1) (se_v 2)) sps_nil))))) (se_v 0))))))) (sss_one (ss_ret (se_ix (SN.se (sn_lst (sa_cons se_non (sa_cons (se_v 3) sa_nil)))) (sb_ty call_int1 re_int T.n_int (sa_cons (se_chain or_lt re_ord or_lt re_ord (se_un un_neg re_neg (se_op op_pow re_pow se_int se_int)) (se_v 3) (se_op op_pow re_pow se_int se_int)) sa_nil)))))))))⟩
theorem oks__law_value (T : Txt K mg) : ∀ n : Nat, FnOk P w K mg base (L2.CX P w) (1 + n) T.f__law_value T.fd__law_value ["_law_expression_here", "_law_shape_here", "_law_place_here", "_law_values_here"] (SpM K mg 4 (m__law_value n))
  | 0 => fn_stuck
  | n + 1 => by
    have ih := oks__law_value T n
    have ih__law_value := ih
    have g__law_value : FnOk P w K mg base (L2.CX P w) (1 + (n + 1)) T.f__law_value T.fd__law_value ["_law_expression_here", "_law_shape_here", "_law_place_here", "_law_values_here"] (SpM K mg 4 (m__law_value (n + 1))) := by
      refine fn_m (k := 1 + n) (N := N__law_value) (m := b__law_value (m__law_value n)) T.F__law_value sc__law_value ?_
      intro cdv A outer s H E hr
      unfold b__law_value
      exact ⟨_, (sss_cons (ss_set 4 sc__law_value.nd (se_ix (se_v 0) se_int)) (sss_cons (ss_if (st_cmp (op_eqD hr.units) re_eq (se_v 4) se_str) (sss_one (ss_ret (se_ix (se_v 0) se_int))) sss_nil) (sss_cons (ss_if (st_cmp (op_eqD hr.units) re_eq (se_v 4) se_str) (sss_one (ss_ret (se_ix (se_v 3) (se_lix (SN.se (sn_lc rfl sc__law_value.nd (si_t (se_fld T.cm_Shape T.cl_Shape T.na_Shape_attrs (se_v 1))) (blkOk_by (own := [("_law_name", 10), ("_law_kind", 11)]) (N := N__law_value) (sc := defScope s__law_value) (by decide +kernel)) (fun _ _ _ _ _ => (sg_tup rfl (sgs_cons (sg_name 10 sc__law_value.nd) (sgs_cons (sg_name 11 sc__law_value.nd) sgs_nil)))) (fun _ _ _ _ _ => sts_nil) (fun _ _ _ _ _ => (se_v 10)) (by decide))) (se_ix (se_v 0) se_int))))) sss_nil) (sss_cons (ss_if (st_cmp (op_eqD hr.units) re_eq (se_v 4) se_str) (sss_one (ss_ret (se_ix (se_v 2) (se_lix (SN.se (sn_lc rfl sc__law_value.nd (si_t (se_fld T.cm_Shape T.cl_Shape T.na_Shape_dims (se_v 1))) (blkOk_by (own := [("_law_dim", 9)]) (N := N__law_value) (sc := defScope s__law_value) (by decide +kernel)) (fun _ _ _ _ _ => (sg_name 9 sc__law_value.nd)) (fun _ _ _ _ _ => sts_nil) (fun _ _ _ _ _ => (se_ix (se_v 9) se_int)) (by decide))) (se_ix (se_v 0) se_int))))) sss_nil) (sss_cons (ss_setLc rfl sc__law_value.nd rfl rfl (sw_true rfl rfl rfl (by decide +kernel)) (si_t (se_sl (se_v 0) (so_some se_int) so_none)) (blkOk_by (own := [("_law_part", 8)]) (N := N__law_value) (sc := defScope s__law_value) (by decide +kernel)) (fun _ _ _ _ _ => (sg_name 8 sc__law_value.nd)) (fun _ _ _ _ _ => sts_nil) (fun _ _ _ _ _ => (se_call ih__law_value (hr.mono (by omega)) T.m__law_value T.k__law_value T.b__law_value takes0 (sr_sh (se_v 8) (sr_sh (se_v 1) (sr_sh (se_v 2) (sr_sh (se_v 3) sr_nil)))))) (by decide)) (sss_cons (ss_set 6 sc__law_value.nd (se_ix (se_v 5) se_int)) (sss_cons (ss_if (st_cmp (op_eqD hr.units) re_eq (se_v 4) se_str) (sss_one (ss_ret (se_isN (se_v 6)))) sss_nil) (sss_cons (ss_if (st_cmp (op_eqD hr.units) re_eq (se_v 4) se_str) (sss_one (ss_ret (se_ix (SN.se (sn_lst (sa_cons (se_v 6) (sa_cons (se_ix (se_v 5) se_int) sa_nil)))) (sb_ty call_int1 re_int T.n_int (sa_cons (se_isN (se_v 6)) sa_nil))))) sss_nil) (sss_cons (ss_if (st_cmp (op_eqD hr.units) re_eq (se_v 4) se_str) (sss_cons (ss_if (st_isN (se_v 6)) (sss_one (ss_ret se_non)) sss_nil) (sss_one (ss_ret (se_ix (se_v 5) (se_op op_sub re_sub se_int (sb_ty call_int1 re_int T.n_int (sa_cons (se_v 6) sa_nil))))))) sss_nil) (sss_cons (ss_if (st_cmp or_in re_in (se_v 4) (SN.se (sn_lst (sa_cons se_str (sa_cons se_str sa_nil))))) (sss_one (ss_for [7] (passes_of rfl) rfl (si_l (se_v 5)) (sg_name 7 sc__law_value.nd) (sss_one (ss_if (SW.st (sw_and (st_notN (se_v 7)) (sw_and1 (st_cmp (op_eqD hr.units) re_eq (se_v 7) (se_cmp (op_eqD hr.units) re_eq (se_v 4) se_str))))) (sss_one (ss_ret (se_cmp (op_eqD hr.units) re_eq (se_v 4) se_str))) sss_nil)))) sss_nil) (sss_cons (ss_if (st_cmp or_in re_in se_non (se_v 5)) (sss_one (ss_ret se_non)) sss_nil) (sss_cons (ss_if (st_cmp or_in re_in (se_v 4) (SN.se (sn_lst (sa_cons se_str (sa_cons se_str sa_nil))))) (sss_one (ss_ret (se_cmp (op_eqD hr.units) re_eq (se_v 4) se_str))) sss_nil) (sss_cons (ss_if (st_cmp (op_eqD hr.units) re_eq (se_v 4) se_str) (sss_one (ss_ret (se_not (se_v 6)))) sss_nil) (sss_cons (ss_if (st_cmp (op_eqD hr.units) re_eq (se_v 4) se_str) (sss_one (ss_ret (se_op op_sub re_sub se_int (se_v 6)))) sss_nil) (sss_cons (ss_if (st_cmp (op_eqD hr.units) re_eq (se_v 4) se_str) (sss_one (ss_ret (sb_cb (call_max2 rfl) re_max2 T.n_max (sa_cons (se_v 6) (sa_cons (se_op op_sub re_sub se_int (se_v 6)) sa_nil))))) sss_nil) (sss_cons (ss_if (st_cmp (op_eqD hr.units) re_eq (se_v 4) se_str) (sss_one (ss_ret (sb_cb call_len re_len T.n_len (sa_cons (se_v 6) sa_nil)))) sss_nil) (sss_one (ss_ret (se_call (ok__law_pair T) (hr.mono (by omega)) T.m__law_pair T.k__law_pair T.b__law_pair (takes_of rfl rfl rfl rfl) (sr_sh (se_v 4) (sr_sh (se_v 6) (sr_sh (se_ix (se_v 5) se_int) sr_nil))))))))))))))))))))))⟩
    exact g__law_value
theorem ok__law_value (T : Txt K mg) (n : Nat) : FnOk P w K mg base (L2.CX P w) (1 + n) T.f__law_value T.fd__law_value ["_law_expression_here", "_law_shape_here", "_law_place_here", "_law_values_here"] (SpM K mg 4 (m__law_value n)) := (oks__law_value T n)
theorem ok_decided (T : Txt K mg) : FnOk P w K mg base (L2.CX P w) 1 T.f_decided T.fd_decided ["word", "a", "b"] (SpM K mg 3 m_decided) := by
  refine fn_m (k := 0) (N := N_decided) (m := b_decided) T.F_decided sc_decided ?_
  intro cdv A outer s H E hr
  unfold b_decided
  exact ⟨_, (sss_cons (ss_set 3 sc_decided.nd (se_cmp (op_eqD hr.units) re_eq (se_v 0) se_str)) (sss_cons (ss_if (SW.st (sw_or (st_cmp (op_eqD hr.units) re_eq (se_v 1) (se_v 3)) (sw_or1 (st_cmp (op_eqD hr.units) re_eq (se_v 2) (se_v 3))))) (sss_one (ss_ret (se_v 3))) sss_nil) (sss_cons (ss_if (SW.st (sw_or (st_isN (se_v 1)) (sw_or1 (st_isN (se_v 2))))) (sss_one (ss_ret se_non)) sss_nil) (sss_one (ss_ret (se_not (se_v 3)))))))⟩
theorem ok__single (T : Txt K mg) : FnOk P w K mg base (L2.CX P w) 1 T.f__single T.fd__single ["word", "value"] (SpM K mg 2 m__single) := by
  refine fn_m (k := 0) (N := N__single) (m := b__single) T.F__single sc__single ?_
  intro cdv A outer s H E hr
  unfold b__single
  exact ⟨_, (sss_cons (ss_if (st_cmp (op_eqD hr.units) re_eq (se_v 0) se_str) (sss_one (ss_ret (se_un un_neg re_neg (se_v 1)))) sss_nil) (sss_cons (ss_if (st_cmp (op_eqD hr.units) re_eq (se_v 0) se_str) (sss_one (ss_ret (sb_cb call_abs re_abs T.n_abs (sa_cons (se_v 1) sa_nil)))) sss_nil) (sss_one (ss_ret (se_if (st_cmp (op_eqD hr.units) re_eq (se_v 0) se_str) (se_not (se_v 1)) (sb_cb call_len re_len T.n_len (sa_cons (se_v 1) sa_nil)))))))⟩
theorem ok_bounded (T : Txt K mg) : FnOk P w K mg base (L2.CX P w) 1 T.f_bounded T.fd_bounded ["number"] (SpM K mg 1 m_bounded) := by
  refine fn_m (k := 0) (N := N_bounded) (m := b_bounded) T.F_bounded sc_bounded ?_
  intro cdv A outer s H E hr
  unfold b_bounded
  exact ⟨_, (sss_one (ss_ret (se_if (st_chain or_lt re_ord or_lt re_ord (se_un un_neg re_neg (se_gi T.c_BOUND)) (se_v 0) (se_gi T.c_BOUND)) (se_v 0) se_non)))⟩
theorem ok__arithmetic (T : Txt K mg) : FnOk P w K mg base (L2.CX P w) 2 T.f__arithmetic T.fd__arithmetic ["word", "a", "b"] (SpM K mg 3 m__arithmetic) := by
  refine fn_m (k := 1) (N := N__arithmetic) (m := b__arithmetic) T.F__arithmetic sc__arithmetic ?_
  intro cdv A outer s H E hr
  unfold b__arithmetic
  exact ⟨_, (sss_cons (ss_if (st_cmp (op_eqD hr.units) re_eq (se_v 0) se_str) (sss_one (ss_ret (se_call (ok_bounded T) (hr.mono (by decide)) T.m_bounded T.k_bounded T.b_bounded (takes_of rfl rfl rfl rfl) (sr_sh (se_op or_add re_add (se_v 1) (se_v 2)) sr_nil)))) sss_nil) (sss_cons (ss_if (st_cmp (op_eqD hr.units) re_eq (se_v 0) se_str) (sss_one (ss_ret (se_call (ok_bounded T) (hr.mono (by decide)) T.m_bounded T.k_bounded T.b_bounded (takes_of rfl rfl rfl rfl) (sr_sh (se_op op_sub re_sub (se_v 1) (se_v 2)) sr_nil)))) sss_nil) (sss_cons (ss_if (st_cmp (op_eqD hr.units) re_eq (se_v 0) se_str) (sss_one (ss_ret (se_call (ok_bounded T) (hr.mono (by decide)) T.m_bounded T.k_bounded T.b_bounded (takes_of rfl rfl rfl rfl) (sr_sh (se_op or_mul re_mul (se_v 1) (se_v 2)) sr_nil)))) sss_nil) (sss_cons (ss_if (st_cmp (op_eqD hr.units) re_eq (se_v 2) se_int) (sss_one (ss_ret se_non)) sss_nil) (sss_one (ss_ret (se_if (st_cmp (op_eqD hr.units) re_eq (se_v 0) se_str) (se_call (ok_bounded T) (hr.mono (by decide)) T.m_bounded T.k_bounded T.b_bounded (takes_of rfl rfl rfl rfl) (sr_sh (se_op op_fdivG re_div (se_v 1) (se_v 2)) sr_nil)) (se_call (ok_bounded T) (hr.mono (by decide)) T.m_bounded T.k_bounded T.b_bounded (takes_of rfl rfl rfl rfl) (sr_sh (se_op op_modN re_mod (se_v 1) (se_v 2)) sr_nil)))))))))⟩
theorem ok_compared (T : Txt K mg) : FnOk P w K mg base (L2.CX P w) 1 T.f_compared T.fd_compared ["word", "a", "b"] (SpM K mg 3 m_compared) := by
  refine fn_m (k := 0) (N := N_compared) (m := b_compared) T.F_compared sc_compared ?_
  intro cdv A outer s H E hr
  unfold b_compared
  exact ⟨_, (sss_cons (ss_if (st_cmp (op_eqD hr.units) re_eq (se_v 0) se_str) (sss_one (ss_ret (se_cmp (op_eqD hr.units) re_eq (se_v 1) (se_v 2)))) sss_nil) (sss_cons (ss_if (st_cmp (op_eqD hr.units) re_eq (se_v 0) se_str) (sss_one (ss_ret (se_cmp (op_neD hr.units) re_ne (se_v 1) (se_v 2)))) sss_nil) (sss_cons (ss_if (st_cmp (op_eqD hr.units) re_eq (se_v 0) se_str) (sss_one (ss_ret (se_cmp or_lt re_ord (se_v 1) (se_v 2)))) sss_nil) (sss_cons (ss_if (st_cmp (op_eqD hr.units) re_eq (se_v 0) se_str) (sss_one (ss_ret (se_cmp or_le re_ord (se_v 1) (se_v 2)))) sss_nil) (sss_one (ss_ret (se_if (st_cmp (op_eqD hr.units) re_eq (se_v 0) se_str) (se_cmp or_gt re_ord (se_v 1) (se_v 2)) (se_cmp or_ge re_ord (se_v 1) (se_v 2)))))))))⟩
theorem ok__strict (T : Txt K mg) : FnOk P w K mg base (L2.CX P w) 3 T.f__strict T.fd__strict ["word", "values"] (SpM K mg 2 m__strict) := by
  refine fn_m (k := 2) (N := N__strict) (m := b__strict) T.F__strict sc__strict ?_
  intro cdv A outer s H E hr
  unfold b__strict
  exact ⟨_, (sss_cons (ss_if (st_cmp (op_eqD hr.units) re_eq (sb_cb call_len re_len T.n_len (sa_cons (se_v 1) sa_nil)) se_int) (sss_one (ss_ret (se_call (ok__single T) (hr.mono (by decide)) T.m__single T.k__single T.b__single (takes_of rfl rfl rfl rfl) (sr_sh (se_v 0) (sr_sh (se_ix (se_v 1) se_int) sr_nil))))) sss_nil) (sss_cons (ss_if (st_cmp or_in re_in (se_v 0) (se_gr T.c_ARITHMETIC T.r_ARITHMETIC)) (sss_one (ss_ret (se_call (ok__arithmetic T) (hr.mono (by decide)) T.m__arithmetic T.k__arithmetic T.b__arithmetic (takes_of rfl rfl rfl rfl) (sr_sh (se_v 0) (sr_sh (se_ix (se_v 1) se_int) (sr_sh (se_ix (se_v 1) se_int) sr_nil)))))) sss_nil) (sss_cons (ss_if (st_cmp or_in re_in (se_v 0) (se_gr T.c_COMPARISONS T.r_COMPARISONS)) (sss_one (ss_ret (se_call (ok_compared T) (hr.mono (by decide)) T.m_compared T.k_compared T.b_compared (takes_of rfl rfl rfl rfl) (sr_sh (se_v 0) (sr_sh (se_ix (se_v 1) se_int) (sr_sh (se_ix (se_v 1) se_int) sr_nil)))))) sss_nil) (sss_cons (ss_set 2 sc__strict.nd (se_op or_add re_add (se_ix (se_v 1) se_int) (se_ix (se_v 1) se_int))) (sss_one (ss_ret (se_if (st_cmp or_le re_ord (sb_cb call_len re_len T.n_len (sa_cons (se_v 2) sa_nil)) (se_gi T.c_LONGEST)) (se_v 2) se_non)))))))⟩
theorem ok__index_of (T : Txt K mg) : FnOk P w K mg base (L2.CX P w) 1 T.f__index_of T.fd__index_of ["rows", "name"] (SpM K mg 2 m__index_of) := by
  refine fn_m (k := 0) (N := N__index_of) (m := b__index_of) T.F__index_of sc__index_of ?_
  intro cdv A outer s H E hr
  unfold b__index_of
  exact ⟨_, (sss_cons (ss_for [2] (passes_of rfl) rfl (si_r1 T.n_range (sa_cons (sb_cb call_len re_len T.n_len (sa_cons (se_v 0) sa_nil)) sa_nil)) (sg_name 2 sc__index_of.nd) (sss_one (ss_if (st_cmp (op_eqD hr.units) re_eq (se_ix (se_ix (se_v 0) (se_v 2)) se_int) (se_v 1)) (sss_one (ss_ret (se_v 2))) sss_nil))) (sss_one (ss_ret se_non)))⟩
theorem ok_attr_index (T : Txt K mg) : FnOk P w K mg base (L2.CX P w) 2 T.f_attr_index T.fd_attr_index ["shape", "name"] (SpM K mg 2 m_attr_index) := by
  refine fn_m (k := 1) (N := N_attr_index) (m := b_attr_index) T.F_attr_index sc_attr_index ?_
  intro cdv A outer s H E hr
  unfold b_attr_index
  exact ⟨_, (sss_one (ss_ret (se_call (ok__index_of T) (hr.mono (by decide)) T.m__index_of T.k__index_of T.b__index_of (takes_of rfl rfl rfl rfl) (sr_sh (se_fld T.cm_Shape T.cl_Shape T.na_Shape_attrs (se_v 0)) (sr_sh (se_v 1) sr_nil)))))⟩
theorem ok_dim_index (T : Txt K mg) : FnOk P w K mg base (L2.CX P w) 2 T.f_dim_index T.fd_dim_index ["shape", "name"] (SpM K mg 2 m_dim_index) := by
  refine fn_m (k := 1) (N := N_dim_index) (m := b_dim_index) T.F_dim_index sc_dim_index ?_
  intro cdv A outer s H E hr
  unfold b_dim_index
  exact ⟨_, (sss_one (ss_ret (se_call (ok__index_of T) (hr.mono (by decide)) T.m__index_of T.k__index_of T.b__index_of (takes_of rfl rfl rfl rfl) (sr_sh (se_fld T.cm_Shape T.cl_Shape T.na_Shape_dims (se_v 0)) (sr_sh (se_v 1) sr_nil)))))⟩
theorem oks_value_of (T : Txt K mg) : ∀ n : Nat, FnOk P w K mg base (L2.CX P w) (3 + n) T.f_value_of T.fd_value_of ["expression", "shape", "place", "values"] (SpM K mg 4 (m_value_of n))
  | 0 => fn_stuck
  | n + 1 => by
    have ih := oks_value_of T n
    have ih_value_of := ih
    have g_value_of : FnOk P w K mg base (L2.CX P w) (3 + (n + 1)) T.f_value_of T.fd_value_of ["expression", "shape", "place", "values"] (SpM K mg 4 (m_value_of (n + 1))) := by
      refine fn_m (k := 3 + n) (N := N_value_of) (m := b_value_of (m_value_of n)) T.F_value_of sc_value_of ?_
      intro cdv A outer s H E hr
      unfold b_value_of
      exact ⟨_, (sss_cons (ss_set 4 sc_value_of.nd (se_ix (se_v 0) se_int)) (sss_cons (ss_if (st_cmp (op_eqD hr.units) re_eq (se_v 4) se_str) (sss_one (ss_ret (se_ix (se_v 0) se_int))) sss_nil) (sss_cons (ss_if (st_cmp (op_eqD hr.units) re_eq (se_v 4) se_str) (sss_one (ss_ret (se_ix (se_v 3) (se_call (ok_attr_index T) (hr.mono (by omega)) T.m_attr_index T.k_attr_index T.b_attr_index (takes_of rfl rfl rfl rfl) (sr_sh (se_v 1) (sr_sh (se_ix (se_v 0) se_int) sr_nil)))))) sss_nil) (sss_cons (ss_if (st_cmp (op_eqD hr.units) re_eq (se_v 4) se_str) (sss_one (ss_ret (se_ix (se_v 2) (se_call (ok_dim_index T) (hr.mono (by omega)) T.m_dim_index T.k_dim_index T.b_dim_index (takes_of rfl rfl rfl rfl) (sr_sh (se_v 1) (sr_sh (se_ix (se_v 0) se_int) sr_nil)))))) sss_nil) (sss_cons (ss_setLc rfl sc_value_of.nd rfl rfl (sw_true rfl rfl rfl (by decide +kernel)) (si_t (se_sl (se_v 0) (so_some se_int) so_none)) (blkOk_by (own := [("part", 6)]) (N := N_value_of) (sc := defScope s_value_of) (by decide +kernel)) (fun _ _ _ _ _ => (sg_name 6 sc_value_of.nd)) (fun _ _ _ _ _ => sts_nil) (fun _ _ _ _ _ => (se_call ih_value_of (hr.mono (by omega)) T.m_value_of T.k_value_of T.b_value_of takes0 (sr_sh (se_v 6) (sr_sh (se_v 1) (sr_sh (se_v 2) (sr_sh (se_v 3) sr_nil)))))) (by decide)) (sss_cons (ss_if (st_cmp (op_eqD hr.units) re_eq (se_v 4) se_str) (sss_one (ss_ret (se_isN (se_ix (se_v 5) se_int)))) sss_nil) (sss_cons (ss_if (st_cmp or_in re_in (se_v 4) (se_tup (sa_cons se_str (sa_cons se_str sa_nil)))) (sss_one (ss_ret (se_call (ok_decided T) (hr.mono (by omega)) T.m_decided T.k_decided T.b_decided (takes_of rfl rfl rfl rfl) (sr_sh (se_v 4) (sr_sh (se_ix (se_v 5) se_int) (sr_sh (se_ix (se_v 5) se_int) sr_nil)))))) sss_nil) (sss_cons (ss_if (st_cmp (op_eqD hr.units) re_eq (se_v 4) se_str) (sss_cons (ss_if (st_isN (se_ix (se_v 5) se_int)) (sss_one (ss_ret se_non)) sss_nil) (sss_one (ss_ret (se_if (st_val (se_ix (se_v 5) se_int)) (se_ix (se_v 5) se_int) (se_ix (se_v 5) se_int))))) sss_nil) (sss_cons (ss_if (st_cmp (op_eqD hr.units) re_eq (se_v 4) se_str) (sss_one (ss_ret (se_if (st_isN (se_ix (se_v 5) se_int)) (se_ix (se_v 5) se_int) (se_ix (se_v 5) se_int)))) sss_nil) (sss_one (ss_ret (se_if (st_cmp or_in re_in se_non (se_v 5)) se_non (se_call (ok__strict T) (hr.mono (by omega)) T.m__strict T.k__strict T.b__strict (takes_of rfl rfl rfl rfl) (sr_sh (se_v 4) (sr_sh (se_v 5) sr_nil)))))))))))))))⟩
    exact g_value_of
theorem ok_value_of (T : Txt K mg) (n : Nat) : FnOk P w K mg base (L2.CX P w) (3 + n) T.f_value_of T.fd_value_of ["expression", "shape", "place", "values"] (SpM K mg 4 (m_value_of n)) := (oks_value_of T n)
theorem ok_is_text (T : Txt K mg) : FnOk P w K mg base (L2.CX P w) 1 T.f_is_text T.fd_is_text ["text"] (SpM K mg 1 m_is_text) := by
  refine fn_m (k := 0) (N := N_is_text) (m := b_is_text) T.F_is_text sc_is_text ?_
  intro cdv A outer s H E hr
  unfold b_is_text
  exact ⟨_, (sss_cons (ss_for [1] (passes_of rfl) rfl (si_s (se_v 0)) (sg_name 1 sc_is_text.nd) (sss_one (ss_if (SW.st (sw_and (st_cmp or_notIn re_notIn (se_v 1) (se_gs T.c_BEFORE)) (sw_and (st_cmp or_notIn re_notIn (se_v 1) (se_gs T.c_BEHIND)) (sw_and1 (st_cmp (op_neD hr.units) re_ne (se_v 1) se_str))))) (sss_one (ss_ret se_bl)) sss_nil))) (sss_one (ss_ret se_bl)))⟩
theorem ok_is_integer (T : Txt K mg) : FnOk P w K mg base (L2.CX P w) 1 T.f_is_integer T.fd_is_integer ["value"] (SpM K mg 1 m_is_integer) := by
  refine fn_m (k := 0) (N := N_is_integer) (m := b_is_integer) T.F_is_integer sc_is_integer ?_
  intro cdv A outer s H E hr
  unfold b_is_integer
  exact ⟨_, (sss_one (ss_ret (se_and (se_isi "int" (se_v 0) T.n_isinstance T.n_int (by decide +kernel)) (se_one (se_not (se_isi "bool" (se_v 0) T.n_isinstance T.n_bool (by decide +kernel)))))))⟩
theorem ok_is_value (T : Txt K mg) : FnOk P w K mg base (L2.CX P w) 2 T.f_is_value T.fd_is_value ["kind", "value"] (SpM K mg 2 m_is_value) := by
  refine fn_m (k := 1) (N := N_is_value) (m := b_is_value) T.F_is_value sc_is_value ?_
  intro cdv A outer s H E hr
  unfold b_is_value
  exact ⟨_, (sss_cons (ss_if (st_cmp (op_eqD hr.units) re_eq (se_v 0) se_str) (sss_one (ss_ret (se_and (se_call (ok_is_integer T) (hr.mono (by decide)) T.m_is_integer T.k_is_integer T.b_is_integer (takes_of rfl rfl rfl rfl) (sr_sh (se_v 1) sr_nil)) (se_one (se_chain or_lt re_ord or_lt re_ord (se_un un_neg re_neg (se_gi T.c_BOUND)) (se_v 1) (se_gi T.c_BOUND)))))) sss_nil) (sss_cons (ss_if (st_cmp (op_eqD hr.units) re_eq (se_v 0) se_str) (sss_one (ss_ret (se_isi "bool" (se_v 1) T.n_isinstance T.n_bool (by decide +kernel)))) sss_nil) (sss_one (ss_ret (se_and (se_isi "str" (se_v 1) T.n_isinstance T.n_str (by decide +kernel)) (se_and (se_cmp or_le re_ord (sb_cb call_len re_len T.n_len (sa_cons (se_v 1) sa_nil)) (se_gi T.c_LONGEST)) (se_one (se_call (ok_is_text T) (hr.mono (by decide)) T.m_is_text T.k_is_text T.b_is_text (takes_of rfl rfl rfl rfl) (sr_sh (se_v 1) sr_nil)))))))))⟩
theorem ok_law (T : Txt K mg) : FnOk P w K mg base (L2.CX P w) 17 T.f_law T.fd_law ["_law_script"] (SpM K mg 1 m_law) := by
  refine fn_m (k := 16) (N := N_law) (m := b_law) T.F_law sc_law ?_
  intro cdv A outer s H E hr
  unfold b_law
  exact ⟨_, (sss_cons (ss_setN 1 sc_law.nd (sn_call (ok__law_draws T) (hr.mono (by decide)) T.m__law_draws T.k__law_draws T.b__law_draws (takes_of rfl rfl rfl rfl) (sr_sh (se_op or_add re_add (SN.se (sn_sl (se_v 0) so_none (so_some se_int))) (SN.se (sn_lst (sa_cons se_int sa_nil)))) sr_nil))) (sss_cons (ss_set 2 sc_law.nd (SN.se (sn_call (ok__law_shape T) (hr.mono (by decide)) T.m__law_shape T.k__law_shape T.b__law_shape (takes_of rfl rfl rfl rfl) (sr_io 1 sr_nil)))) (sss_cons (ss_for [3, 4, 5, 6, 7, 8, 9, 10] (passes_of rfl) rfl (si_r1 T.n_range (sa_cons se_int sa_nil)) (sg_name 3 sc_law.nd) (sss_cons (ss_set 4 sc_law.nd (se_ix (SN.se (sn_lst (sa_cons se_str (sa_cons se_str (sa_cons se_str sa_nil))))) (se_op op_modN re_mod (sb_ty call_int1 re_int T.n_int (sa_cons (se_v 3) sa_nil)) se_int))) (sss_cons (ss_set 5 sc_law.nd (se_call (ok__law_expression T 12) (hr.mono (by decide)) T.m__law_expression T.k__law_expression T.b__law_expression (takes_of rfl rfl rfl rfl) (sr_io 1 (sr_sh (se_v 2) (sr_sh (se_v 4) (sr_sh se_int sr_nil)))))) (sss_one (ss_for [6] (passes_of rfl) rfl (si_r1 T.n_range (sa_cons se_int sa_nil)) (sg_name 6 sc_law.nd) (sss_cons (ss_set 7 sc_law.nd (se_call (ok__law_place T) (hr.mono (by decide)) T.m__law_place T.k__law_place T.b__law_place (takes_of rfl rfl rfl rfl) (sr_io 1 (sr_sh (se_fld T.cm_Shape T.cl_Shape T.na_Shape_dims (se_v 2)) sr_nil)))) (sss_cons (ss_set 8 sc_law.nd (se_call (ok__law_values T) (hr.mono (by decide)) T.m__law_values T.k__law_values T.b__law_values (takes_of rfl rfl rfl rfl) (sr_io 1 (sr_sh (se_fld T.cm_Shape T.cl_Shape T.na_Shape_attrs (se_v 2)) (sr_sh se_int sr_nil))))) (sss_cons (ss_set 9 sc_law.nd (se_call (ok__law_value T 8) (hr.mono (by decide)) T.m__law_value T.k__law_value T.b__law_value (takes_of rfl rfl rfl rfl) (sr_sh (se_v 5) (sr_sh (se_v 2) (sr_sh (se_v 7) (sr_sh (se_v 8) sr_nil)))))) (sss_cons (ss_set 10 sc_law.nd (se_call (ok_value_of T 8) (hr.mono (by decide)) T.m_value_of T.k_value_of T.b_value_of (takes_of rfl rfl rfl rfl) (sr_sh (se_v 5) (sr_sh (se_v 2) (sr_sh (se_v 7) (sr_sh (se_v 8) sr_nil)))))) (sss_cons (ss_if (SW.st (sw_or (st_cmp (op_neD hr.units) re_ne (se_v 10) (se_v 9)) (sw_or1 (st_cmp (op_neD hr.units) re_ne (se_isN (se_v 10)) (se_isN (se_v 9)))))) (sss_one (ss_ret se_bl)) sss_nil) (sss_one (ss_if (SW.st (sw_and (st_notN (se_v 10)) (sw_and1 (st_not (st_val (se_call (ok_is_value T) (hr.mono (by decide)) T.m_is_value T.k_is_value T.b_is_value (takes_of rfl rfl rfl rfl) (sr_sh (se_v 4) (sr_sh (se_v 10) sr_nil)))))))) (sss_one (ss_ret se_bl)) sss_nil)))))))))))) (sss_one (ss_ret se_bl)))))⟩
end
theorem all_mk {l : PySem.W.OpenLaw} {w : World} {K : PySem.W.Frag} {h : Heap} {mg : Str → Option Value} {fa : Addr} (X : K.In h) (G : h.Ns mainGlobals mg) (hfa : mg "law" = some (.ref fa))
    {C_Shape : Addr} (aC_Shape : PySem.W.nsIn K mainGlobals "Shape" = some (some (.ref C_Shape)))
    (pg_Shape : PySem.W.plainGet K C_Shape Str.empty = true) (hd_Shape : PySem.W.hasDictIn K C_Shape = true) (po_Shape : PySem.W.plainOver K C_Shape = true) (sa_Shape : PySem.W.findIn K (.ref C_Shape) "__setattr__" = some (some (.builtin "object.__setattr__"))) (mk_Shape : PySem.W.makesIn K C_Shape = true) (kc_Shape : PySem.W.keepIn K (.ref C_Shape) = true)
    (na_Shape_attrs : PySem.W.findIn K (.ref C_Shape) "attrs" = some none)
    (na_Shape_dims : PySem.W.findIn K (.ref C_Shape) "dims" = some none)
    {f0 : Addr} {od0 an0 : Option Addr} {sl0 : Array (Option Value)} {oc0 kV0 dc0 pm0 cd0 ct0 : Value}
    (a0 : PySem.W.nsIn K mainGlobals "_law_draw" = some (some (.ref f0)))
    (l0 : K.lookup f0 = some ⟨oc0, od0, .func (PySem.W.fnOf "_law_draw" "_law_draw" (defArgs s__law_draw) (defBody s__law_draw) (defScope s__law_draw) .none kV0 dc0 pm0 an0 cd0 ct0), sl0⟩) (c0 : PySem.W.codeIn K cd0 "_law_draw" = true) (k0 : PySem.W.keepIn K (.ref f0) = true)
    {f1 : Addr} {od1 an1 : Option Addr} {sl1 : Array (Option Value)} {oc1 kV1 dc1 pm1 cd1 ct1 : Value}
    (a1 : PySem.W.nsIn K mainGlobals "_law_draws" = some (some (.ref f1)))
    (l1 : K.lookup f1 = some ⟨oc1, od1, .func (PySem.W.fnOf "_law_draws" "_law_draws" (defArgs s__law_draws) (defBody s__law_draws) (defScope s__law_draws) .none kV1 dc1 pm1 an1 cd1 ct1), sl1⟩) (c1 : PySem.W.codeIn K cd1 "_law_draws" = true) (k1 : PySem.W.keepIn K (.ref f1) = true)
    {f2 : Addr} {od2 an2 : Option Addr} {sl2 : Array (Option Value)} {oc2 kV2 dc2 pm2 cd2 ct2 : Value}
    (a2 : PySem.W.findIn K (.ref C_Shape) "__init__" = some (some (.ref f2))) (i2 : PySem.W.isFn K (.ref f2) = true)
    (l2 : K.lookup f2 = some ⟨oc2, od2, .func (PySem.W.fnOf "__init__" "Shape.__init__" (defArgs s_Shape___init__) (defBody s_Shape___init__) (defScope s_Shape___init__) .none kV2 dc2 pm2 an2 cd2 ct2), sl2⟩) (c2 : PySem.W.codeIn K cd2 "Shape.__init__" = true) (k2 : PySem.W.keepIn K (.ref f2) = true)
    {f3 : Addr} {od3 an3 : Option Addr} {sl3 : Array (Option Value)} {oc3 kV3 dc3 pm3 cd3 ct3 : Value}
    (a3 : PySem.W.nsIn K mainGlobals "_law_next" = some (some (.ref f3)))
    (l3 : K.lookup f3 = some ⟨oc3, od3, .func (PySem.W.fnOf "_law_next" "_law_next" (defArgs s__law_next) (defBody s__law_next) (defScope s__law_next) .none kV3 dc3 pm3 an3 cd3 ct3), sl3⟩) (c3 : PySem.W.codeIn K cd3 "_law_next" = true) (k3 : PySem.W.keepIn K (.ref f3) = true)
    {f4 : Addr} {od4 an4 : Option Addr} {sl4 : Array (Option Value)} {oc4 kV4 dc4 pm4 cd4 ct4 : Value}
    (a4 : PySem.W.nsIn K mainGlobals "_law_shape" = some (some (.ref f4)))
    (l4 : K.lookup f4 = some ⟨oc4, od4, .func (PySem.W.fnOf "_law_shape" "_law_shape" (defArgs s__law_shape) (defBody s__law_shape) (defScope s__law_shape) .none kV4 dc4 pm4 an4 cd4 ct4), sl4⟩) (c4 : PySem.W.codeIn K cd4 "_law_shape" = true) (k4 : PySem.W.keepIn K (.ref f4) = true)
    {f5 : Addr} {od5 an5 : Option Addr} {sl5 : Array (Option Value)} {oc5 kV5 dc5 pm5 cd5 ct5 : Value}
    (a5 : PySem.W.nsIn K mainGlobals "_law_word" = some (some (.ref f5)))
    (l5 : K.lookup f5 = some ⟨oc5, od5, .func (PySem.W.fnOf "_law_word" "_law_word" (defArgs s__law_word) (defBody s__law_word) (defScope s__law_word) .none kV5 dc5 pm5 an5 cd5 ct5), sl5⟩) (c5 : PySem.W.codeIn K cd5 "_law_word" = true) (k5 : PySem.W.keepIn K (.ref f5) = true)
    {f6 : Addr} {od6 an6 : Option Addr} {sl6 : Array (Option Value)} {oc6 kV6 dc6 pm6 cd6 ct6 : Value}
    (a6 : PySem.W.nsIn K mainGlobals "_law_number" = some (some (.ref f6)))
    (l6 : K.lookup f6 = some ⟨oc6, od6, .func (PySem.W.fnOf "_law_number" "_law_number" (defArgs s__law_number) (defBody s__law_number) (defScope s__law_number) .none kV6 dc6 pm6 an6 cd6 ct6), sl6⟩) (c6 : PySem.W.codeIn K cd6 "_law_number" = true) (k6 : PySem.W.keepIn K (.ref f6) = true)
    {f7 : Addr} {od7 an7 : Option Addr} {sl7 : Array (Option Value)} {oc7 kV7 dc7 pm7 cd7 ct7 : Value}
    (a7 : PySem.W.nsIn K mainGlobals "_law_thing" = some (some (.ref f7)))
    (l7 : K.lookup f7 = some ⟨oc7, od7, .func (PySem.W.fnOf "_law_thing" "_law_thing" (defArgs s__law_thing) (defBody s__law_thing) (defScope s__law_thing) .none kV7 dc7 pm7 an7 cd7 ct7), sl7⟩) (c7 : PySem.W.codeIn K cd7 "_law_thing" = true) (k7 : PySem.W.keepIn K (.ref f7) = true)
    {f8 : Addr} {od8 an8 : Option Addr} {sl8 : Array (Option Value)} {oc8 kV8 dc8 pm8 cd8 ct8 : Value}
    (a8 : PySem.W.nsIn K mainGlobals "_law_leaf" = some (some (.ref f8)))
    (l8 : K.lookup f8 = some ⟨oc8, od8, .func (PySem.W.fnOf "_law_leaf" "_law_leaf" (defArgs s__law_leaf) (defBody s__law_leaf) (defScope s__law_leaf) .none kV8 dc8 pm8 an8 cd8 ct8), sl8⟩) (c8 : PySem.W.codeIn K cd8 "_law_leaf" = true) (k8 : PySem.W.keepIn K (.ref f8) = true)
    {f9 : Addr} {od9 an9 : Option Addr} {sl9 : Array (Option Value)} {oc9 kV9 dc9 pm9 cd9 ct9 : Value}
    (a9 : PySem.W.nsIn K mainGlobals "_law_expression" = some (some (.ref f9)))
    (l9 : K.lookup f9 = some ⟨oc9, od9, .func (PySem.W.fnOf "_law_expression" "_law_expression" (defArgs s__law_expression) (defBody s__law_expression) (defScope s__law_expression) .none kV9 dc9 pm9 an9 cd9 ct9), sl9⟩) (c9 : PySem.W.codeIn K cd9 "_law_expression" = true) (k9 : PySem.W.keepIn K (.ref f9) = true)
    {f10 : Addr} {od10 an10 : Option Addr} {sl10 : Array (Option Value)} {oc10 kV10 dc10 pm10 cd10 ct10 : Value}
    (a10 : PySem.W.nsIn K mainGlobals "_law_flag" = some (some (.ref f10)))
    (l10 : K.lookup f10 = some ⟨oc10, od10, .func (PySem.W.fnOf "_law_flag" "_law_flag" (defArgs s__law_flag) (defBody s__law_flag) (defScope s__law_flag) .none kV10 dc10 pm10 an10 cd10 ct10), sl10⟩) (c10 : PySem.W.codeIn K cd10 "_law_flag" = true) (k10 : PySem.W.keepIn K (.ref f10) = true)
    {f11 : Addr} {od11 an11 : Option Addr} {sl11 : Array (Option Value)} {oc11 kV11 dc11 pm11 cd11 ct11 : Value}
    (a11 : PySem.W.nsIn K mainGlobals "_law_place" = some (some (.ref f11)))
    (l11 : K.lookup f11 = some ⟨oc11, od11, .func (PySem.W.fnOf "_law_place" "_law_place" (defArgs s__law_place) (defBody s__law_place) (defScope s__law_place) .none kV11 dc11 pm11 an11 cd11 ct11), sl11⟩) (c11 : PySem.W.codeIn K cd11 "_law_place" = true) (k11 : PySem.W.keepIn K (.ref f11) = true)
    {f12 : Addr} {od12 an12 : Option Addr} {sl12 : Array (Option Value)} {oc12 kV12 dc12 pm12 cd12 ct12 : Value}
    (a12 : PySem.W.nsIn K mainGlobals "_law_values" = some (some (.ref f12)))
    (l12 : K.lookup f12 = some ⟨oc12, od12, .func (PySem.W.fnOf "_law_values" "_law_values" (defArgs s__law_values) (defBody s__law_values) (defScope s__law_values) .none kV12 dc12 pm12 an12 cd12 ct12), sl12⟩) (c12 : PySem.W.codeIn K cd12 "_law_values" = true) (k12 : PySem.W.keepIn K (.ref f12) = true)
    {f13 : Addr} {od13 an13 : Option Addr} {sl13 : Array (Option Value)} {oc13 kV13 dc13 pm13 cd13 ct13 : Value}
    (a13 : PySem.W.nsIn K mainGlobals "_law_pair" = some (some (.ref f13)))
    (l13 : K.lookup f13 = some ⟨oc13, od13, .func (PySem.W.fnOf "_law_pair" "_law_pair" (defArgs s__law_pair) (defBody s__law_pair) (defScope s__law_pair) .none kV13 dc13 pm13 an13 cd13 ct13), sl13⟩) (c13 : PySem.W.codeIn K cd13 "_law_pair" = true) (k13 : PySem.W.keepIn K (.ref f13) = true)
    {f14 : Addr} {od14 an14 : Option Addr} {sl14 : Array (Option Value)} {oc14 kV14 dc14 pm14 cd14 ct14 : Value}
    (a14 : PySem.W.nsIn K mainGlobals "_law_value" = some (some (.ref f14)))
    (l14 : K.lookup f14 = some ⟨oc14, od14, .func (PySem.W.fnOf "_law_value" "_law_value" (defArgs s__law_value) (defBody s__law_value) (defScope s__law_value) .none kV14 dc14 pm14 an14 cd14 ct14), sl14⟩) (c14 : PySem.W.codeIn K cd14 "_law_value" = true) (k14 : PySem.W.keepIn K (.ref f14) = true)
    {f15 : Addr} {od15 an15 : Option Addr} {sl15 : Array (Option Value)} {oc15 kV15 dc15 pm15 cd15 ct15 : Value}
    (a15 : PySem.W.nsIn K mainGlobals "decided" = some (some (.ref f15)))
    (l15 : K.lookup f15 = some ⟨oc15, od15, .func (PySem.W.fnOf "decided" "decided" (defArgs s_decided) (defBody s_decided) (defScope s_decided) .none kV15 dc15 pm15 an15 cd15 ct15), sl15⟩) (c15 : PySem.W.codeIn K cd15 "decided" = true) (k15 : PySem.W.keepIn K (.ref f15) = true)
    {f16 : Addr} {od16 an16 : Option Addr} {sl16 : Array (Option Value)} {oc16 kV16 dc16 pm16 cd16 ct16 : Value}
    (a16 : PySem.W.nsIn K mainGlobals "_single" = some (some (.ref f16)))
    (l16 : K.lookup f16 = some ⟨oc16, od16, .func (PySem.W.fnOf "_single" "_single" (defArgs s__single) (defBody s__single) (defScope s__single) .none kV16 dc16 pm16 an16 cd16 ct16), sl16⟩) (c16 : PySem.W.codeIn K cd16 "_single" = true) (k16 : PySem.W.keepIn K (.ref f16) = true)
    {f17 : Addr} {od17 an17 : Option Addr} {sl17 : Array (Option Value)} {oc17 kV17 dc17 pm17 cd17 ct17 : Value}
    (a17 : PySem.W.nsIn K mainGlobals "bounded" = some (some (.ref f17)))
    (l17 : K.lookup f17 = some ⟨oc17, od17, .func (PySem.W.fnOf "bounded" "bounded" (defArgs s_bounded) (defBody s_bounded) (defScope s_bounded) .none kV17 dc17 pm17 an17 cd17 ct17), sl17⟩) (c17 : PySem.W.codeIn K cd17 "bounded" = true) (k17 : PySem.W.keepIn K (.ref f17) = true)
    {f18 : Addr} {od18 an18 : Option Addr} {sl18 : Array (Option Value)} {oc18 kV18 dc18 pm18 cd18 ct18 : Value}
    (a18 : PySem.W.nsIn K mainGlobals "_arithmetic" = some (some (.ref f18)))
    (l18 : K.lookup f18 = some ⟨oc18, od18, .func (PySem.W.fnOf "_arithmetic" "_arithmetic" (defArgs s__arithmetic) (defBody s__arithmetic) (defScope s__arithmetic) .none kV18 dc18 pm18 an18 cd18 ct18), sl18⟩) (c18 : PySem.W.codeIn K cd18 "_arithmetic" = true) (k18 : PySem.W.keepIn K (.ref f18) = true)
    {f19 : Addr} {od19 an19 : Option Addr} {sl19 : Array (Option Value)} {oc19 kV19 dc19 pm19 cd19 ct19 : Value}
    (a19 : PySem.W.nsIn K mainGlobals "compared" = some (some (.ref f19)))
    (l19 : K.lookup f19 = some ⟨oc19, od19, .func (PySem.W.fnOf "compared" "compared" (defArgs s_compared) (defBody s_compared) (defScope s_compared) .none kV19 dc19 pm19 an19 cd19 ct19), sl19⟩) (c19 : PySem.W.codeIn K cd19 "compared" = true) (k19 : PySem.W.keepIn K (.ref f19) = true)
    {f20 : Addr} {od20 an20 : Option Addr} {sl20 : Array (Option Value)} {oc20 kV20 dc20 pm20 cd20 ct20 : Value}
    (a20 : PySem.W.nsIn K mainGlobals "_strict" = some (some (.ref f20)))
    (l20 : K.lookup f20 = some ⟨oc20, od20, .func (PySem.W.fnOf "_strict" "_strict" (defArgs s__strict) (defBody s__strict) (defScope s__strict) .none kV20 dc20 pm20 an20 cd20 ct20), sl20⟩) (c20 : PySem.W.codeIn K cd20 "_strict" = true) (k20 : PySem.W.keepIn K (.ref f20) = true)
    {f21 : Addr} {od21 an21 : Option Addr} {sl21 : Array (Option Value)} {oc21 kV21 dc21 pm21 cd21 ct21 : Value}
    (a21 : PySem.W.nsIn K mainGlobals "_index_of" = some (some (.ref f21)))
    (l21 : K.lookup f21 = some ⟨oc21, od21, .func (PySem.W.fnOf "_index_of" "_index_of" (defArgs s__index_of) (defBody s__index_of) (defScope s__index_of) .none kV21 dc21 pm21 an21 cd21 ct21), sl21⟩) (c21 : PySem.W.codeIn K cd21 "_index_of" = true) (k21 : PySem.W.keepIn K (.ref f21) = true)
    {f22 : Addr} {od22 an22 : Option Addr} {sl22 : Array (Option Value)} {oc22 kV22 dc22 pm22 cd22 ct22 : Value}
    (a22 : PySem.W.nsIn K mainGlobals "attr_index" = some (some (.ref f22)))
    (l22 : K.lookup f22 = some ⟨oc22, od22, .func (PySem.W.fnOf "attr_index" "attr_index" (defArgs s_attr_index) (defBody s_attr_index) (defScope s_attr_index) .none kV22 dc22 pm22 an22 cd22 ct22), sl22⟩) (c22 : PySem.W.codeIn K cd22 "attr_index" = true) (k22 : PySem.W.keepIn K (.ref f22) = true)
    {f23 : Addr} {od23 an23 : Option Addr} {sl23 : Array (Option Value)} {oc23 kV23 dc23 pm23 cd23 ct23 : Value}
    (a23 : PySem.W.nsIn K mainGlobals "dim_index" = some (some (.ref f23)))
    (l23 : K.lookup f23 = some ⟨oc23, od23, .func (PySem.W.fnOf "dim_index" "dim_index" (defArgs s_dim_index) (defBody s_dim_index) (defScope s_dim_index) .none kV23 dc23 pm23 an23 cd23 ct23), sl23⟩) (c23 : PySem.W.codeIn K cd23 "dim_index" = true) (k23 : PySem.W.keepIn K (.ref f23) = true)
    {f24 : Addr} {od24 an24 : Option Addr} {sl24 : Array (Option Value)} {oc24 kV24 dc24 pm24 cd24 ct24 : Value}
    (a24 : PySem.W.nsIn K mainGlobals "value_of" = some (some (.ref f24)))
    (l24 : K.lookup f24 = some ⟨oc24, od24, .func (PySem.W.fnOf "value_of" "value_of" (defArgs s_value_of) (defBody s_value_of) (defScope s_value_of) .none kV24 dc24 pm24 an24 cd24 ct24), sl24⟩) (c24 : PySem.W.codeIn K cd24 "value_of" = true) (k24 : PySem.W.keepIn K (.ref f24) = true)
    {f25 : Addr} {od25 an25 : Option Addr} {sl25 : Array (Option Value)} {oc25 kV25 dc25 pm25 cd25 ct25 : Value}
    (a25 : PySem.W.nsIn K mainGlobals "is_text" = some (some (.ref f25)))
    (l25 : K.lookup f25 = some ⟨oc25, od25, .func (PySem.W.fnOf "is_text" "is_text" (defArgs s_is_text) (defBody s_is_text) (defScope s_is_text) .none kV25 dc25 pm25 an25 cd25 ct25), sl25⟩) (c25 : PySem.W.codeIn K cd25 "is_text" = true) (k25 : PySem.W.keepIn K (.ref f25) = true)
    {f26 : Addr} {od26 an26 : Option Addr} {sl26 : Array (Option Value)} {oc26 kV26 dc26 pm26 cd26 ct26 : Value}
    (a26 : PySem.W.nsIn K mainGlobals "is_integer" = some (some (.ref f26)))
    (l26 : K.lookup f26 = some ⟨oc26, od26, .func (PySem.W.fnOf "is_integer" "is_integer" (defArgs s_is_integer) (defBody s_is_integer) (defScope s_is_integer) .none kV26 dc26 pm26 an26 cd26 ct26), sl26⟩) (c26 : PySem.W.codeIn K cd26 "is_integer" = true) (k26 : PySem.W.keepIn K (.ref f26) = true)
    {f27 : Addr} {od27 an27 : Option Addr} {sl27 : Array (Option Value)} {oc27 kV27 dc27 pm27 cd27 ct27 : Value}
    (a27 : PySem.W.nsIn K mainGlobals "is_value" = some (some (.ref f27)))
    (l27 : K.lookup f27 = some ⟨oc27, od27, .func (PySem.W.fnOf "is_value" "is_value" (defArgs s_is_value) (defBody s_is_value) (defScope s_is_value) .none kV27 dc27 pm27 an27 cd27 ct27), sl27⟩) (c27 : PySem.W.codeIn K cd27 "is_value" = true) (k27 : PySem.W.keepIn K (.ref f27) = true)
    {f28 : Addr} {od28 an28 : Option Addr} {sl28 : Array (Option Value)} {oc28 kV28 dc28 pm28 cd28 ct28 : Value}
    (a28 : PySem.W.nsIn K mainGlobals "law" = some (some (.ref f28)))
    (l28 : K.lookup f28 = some ⟨oc28, od28, .func (PySem.W.fnOf "law" "law" (defArgs s_law) (defBody s_law) (defScope s_law) .none kV28 dc28 pm28 an28 cd28 ct28), sl28⟩) (c28 : PySem.W.codeIn K cd28 "law" = true) (k28 : PySem.W.keepIn K (.ref f28) = true)
    {t_BEFORE : Tok} (g_BEFORE : PySem.W.nsIn K mainGlobals "BEFORE" = some (some (.str " !\"#$" t_BEFORE)))
    {t_BEHIND : Tok} (g_BEHIND : PySem.W.nsIn K mainGlobals "BEHIND" = some (some (.str "&'()*+,-./0123456789:;<=>?@ABCDEFGHIJKLMNOPQRSTUVWXYZ[\\]^_`abcdefghijklmnopqrstuvwxyz{|}~" t_BEHIND)))
    {t_BOUND : Tok} (g_BOUND : PySem.W.nsIn K mainGlobals "BOUND" = some (some (.int 1000000000000000000000000000000 t_BOUND)))
    {t_LONGEST : Tok} (g_LONGEST : PySem.W.nsIn K mainGlobals "LONGEST" = some (some (.int 200 t_LONGEST)))
    {a_ARITHMETIC : Addr} {od_ARITHMETIC : Option Addr} {sl_ARITHMETIC : Array (Option Value)} {n_ARITHMETIC : Nat} {t_ARITHMETIC_0 t_ARITHMETIC_1 t_ARITHMETIC_2 t_ARITHMETIC_3 t_ARITHMETIC_4 : Tok} (g_ARITHMETIC : PySem.W.nsIn K mainGlobals "ARITHMETIC" = some (some (.ref a_ARITHMETIC))) (lt_ARITHMETIC : K.lookup a_ARITHMETIC = some ⟨.type "tuple", od_ARITHMETIC, .seq #[.str "add" t_ARITHMETIC_0, .str "sub" t_ARITHMETIC_1, .str "mul" t_ARITHMETIC_2, .str "div" t_ARITHMETIC_3, .str "mod" t_ARITHMETIC_4] n_ARITHMETIC, sl_ARITHMETIC⟩)
    {a_COMPARISONS : Addr} {od_COMPARISONS : Option Addr} {sl_COMPARISONS : Array (Option Value)} {n_COMPARISONS : Nat} {t_COMPARISONS_0 t_COMPARISONS_1 t_COMPARISONS_2 t_COMPARISONS_3 t_COMPARISONS_4 t_COMPARISONS_5 : Tok} (g_COMPARISONS : PySem.W.nsIn K mainGlobals "COMPARISONS" = some (some (.ref a_COMPARISONS))) (lt_COMPARISONS : K.lookup a_COMPARISONS = some ⟨.type "tuple", od_COMPARISONS, .seq #[.str "eq" t_COMPARISONS_0, .str "ne" t_COMPARISONS_1, .str "lt" t_COMPARISONS_2, .str "le" t_COMPARISONS_3, .str "gt" t_COMPARISONS_4, .str "ge" t_COMPARISONS_5] n_COMPARISONS, sl_COMPARISONS⟩)
    (n_abs : PySem.W.nsIn K mainGlobals "abs" = some none)
    (n_bool : PySem.W.nsIn K mainGlobals "bool" = some none)
    (n_int : PySem.W.nsIn K mainGlobals "int" = some none)
    (n_isinstance : PySem.W.nsIn K mainGlobals "isinstance" = some none)
    (n_len : PySem.W.nsIn K mainGlobals "len" = some none)
    (n_max : PySem.W.nsIn K mainGlobals "max" = some none)
    (n_range : PySem.W.nsIn K mainGlobals "range" = some none)
    (n_str : PySem.W.nsIn K mainGlobals "str" = some none)
    (n_tuple : PySem.W.nsIn K mainGlobals "tuple" = some none)
    (hlaw : ∀ ns : List Int, ns.length ≤ 63 → m_law [.shr (.frz (ns.map D.int))] = .ret false (.bl true) []) :
    ∃ fd : FuncData, (∀ (s : Shared) (v : Value), BindsTo s fd ⟨[v], []⟩ [("_law_script", v)]) ∧ ∀ base : Heap, K.In base → base.Ns mainGlobals mg → FnOk l.prog w K mg base (L2.CX l.prog w) 17 fa fd ["_law_script"] (spLaw 63 K) := by
  have e := hfa.symm.trans (PySem.W.mg_of X G a28)
  cases e
  let T : Txt K mg := {
    f__law_draw := f0, fd__law_draw := _, F__law_draw := fun_mk (st := s__law_draw) l0 c0 k0, b__law_draw := (fun_mk (st := s__law_draw) l0 c0 k0).binds (ps := ["_law_cell", "_law_many", "_law_bound"]) fun _ _ _ _ _ _ us hl => match us, hl with | [_, _, _], _ => rfl
    m__law_draw := PySem.W.mg_of X G a0, k__law_draw := k0
    f__law_draws := f1, fd__law_draws := _, F__law_draws := fun_mk (st := s__law_draws) l1 c1 k1, b__law_draws := (fun_mk (st := s__law_draws) l1 c1 k1).binds (ps := ["_law_cells_here"]) fun _ _ _ _ _ _ us hl => match us, hl with | [_], _ => rfl
    m__law_draws := PySem.W.mg_of X G a1, k__law_draws := k1
    f_Shape___init__ := f2, fd_Shape___init__ := _, F_Shape___init__ := fun_mk (st := s_Shape___init__) l2 c2 k2, b_Shape___init__ := (fun_mk (st := s_Shape___init__) l2 c2 k2).binds (ps := ["self", "dims", "attrs"]) fun _ _ _ _ _ _ us hl => match us, hl with | [_, _, _], _ => rfl
    f__law_next := f3, fd__law_next := _, F__law_next := fun_mk (st := s__law_next) l3 c3 k3, b__law_next := (fun_mk (st := s__law_next) l3 c3 k3).binds (ps := ["_law_state", "_law_bound"]) fun _ _ _ _ _ _ us hl => match us, hl with | [_, _], _ => rfl
    m__law_next := PySem.W.mg_of X G a3, k__law_next := k3
    f__law_shape := f4, fd__law_shape := _, F__law_shape := fun_mk (st := s__law_shape) l4 c4 k4, b__law_shape := (fun_mk (st := s__law_shape) l4 c4 k4).binds (ps := ["_law_state"]) fun _ _ _ _ _ _ us hl => match us, hl with | [_], _ => rfl
    m__law_shape := PySem.W.mg_of X G a4, k__law_shape := k4
    f__law_word := f5, fd__law_word := _, F__law_word := fun_mk (st := s__law_word) l5 c5 k5, b__law_word := (fun_mk (st := s__law_word) l5 c5 k5).binds (ps := ["_law_state"]) fun _ _ _ _ _ _ us hl => match us, hl with | [_], _ => rfl
    m__law_word := PySem.W.mg_of X G a5, k__law_word := k5
    f__law_number := f6, fd__law_number := _, F__law_number := fun_mk (st := s__law_number) l6 c6 k6, b__law_number := (fun_mk (st := s__law_number) l6 c6 k6).binds (ps := ["_law_state"]) fun _ _ _ _ _ _ us hl => match us, hl with | [_], _ => rfl
    m__law_number := PySem.W.mg_of X G a6, k__law_number := k6
    f__law_thing := f7, fd__law_thing := _, F__law_thing := fun_mk (st := s__law_thing) l7 c7 k7, b__law_thing := (fun_mk (st := s__law_thing) l7 c7 k7).binds (ps := ["_law_state", "_law_kind"]) fun _ _ _ _ _ _ us hl => match us, hl with | [_, _], _ => rfl
    m__law_thing := PySem.W.mg_of X G a7, k__law_thing := k7
    f__law_leaf := f8, fd__law_leaf := _, F__law_leaf := fun_mk (st := s__law_leaf) l8 c8 k8, b__law_leaf := (fun_mk (st := s__law_leaf) l8 c8 k8).binds (ps := ["_law_state", "_law_shape_here", "_law_kind"]) fun _ _ _ _ _ _ us hl => match us, hl with | [_, _, _], _ => rfl
    m__law_leaf := PySem.W.mg_of X G a8, k__law_leaf := k8
    f__law_expression := f9, fd__law_expression := _, F__law_expression := fun_mk (st := s__law_expression) l9 c9 k9, b__law_expression := (fun_mk (st := s__law_expression) l9 c9 k9).binds (ps := ["_law_state", "_law_shape_here", "_law_kind", "_law_depth"]) fun _ _ _ _ _ _ us hl => match us, hl with | [_, _, _, _], _ => rfl
    m__law_expression := PySem.W.mg_of X G a9, k__law_expression := k9
    f__law_flag := f10, fd__law_flag := _, F__law_flag := fun_mk (st := s__law_flag) l10 c10 k10, b__law_flag := (fun_mk (st := s__law_flag) l10 c10 k10).binds (ps := ["_law_state", "_law_shape_here", "_law_depth"]) fun _ _ _ _ _ _ us hl => match us, hl with | [_, _, _], _ => rfl
    m__law_flag := PySem.W.mg_of X G a10, k__law_flag := k10
    f__law_place := f11, fd__law_place := _, F__law_place := fun_mk (st := s__law_place) l11 c11 k11, b__law_place := (fun_mk (st := s__law_place) l11 c11 k11).binds (ps := ["_law_state", "_law_dims"]) fun _ _ _ _ _ _ us hl => match us, hl with | [_, _], _ => rfl
    m__law_place := PySem.W.mg_of X G a11, k__law_place := k11
    f__law_values := f12, fd__law_values := _, F__law_values := fun_mk (st := s__law_values) l12 c12 k12, b__law_values := (fun_mk (st := s__law_values) l12 c12 k12).binds (ps := ["_law_state", "_law_attrs", "_law_few"]) fun _ _ _ _ _ _ us hl => match us, hl with | [_, _, _], _ => rfl
    m__law_values := PySem.W.mg_of X G a12, k__law_values := k12
    f__law_pair := f13, fd__law_pair := _, F__law_pair := fun_mk (st := s__law_pair) l13 c13 k13, b__law_pair := (fun_mk (st := s__law_pair) l13 c13 k13).binds (ps := ["_law_word_here", "_law_a", "_law_b"]) fun _ _ _ _ _ _ us hl => match us, hl with | [_, _, _], _ => rfl
    m__law_pair := PySem.W.mg_of X G a13, k__law_pair := k13
    f__law_value := f14, fd__law_value := _, F__law_value := fun_mk (st := s__law_value) l14 c14 k14, b__law_value := (fun_mk (st := s__law_value) l14 c14 k14).binds (ps := ["_law_expression_here", "_law_shape_here", "_law_place_here", "_law_values_here"]) fun _ _ _ _ _ _ us hl => match us, hl with | [_, _, _, _], _ => rfl
    m__law_value := PySem.W.mg_of X G a14, k__law_value := k14
    f_decided := f15, fd_decided := _, F_decided := fun_mk (st := s_decided) l15 c15 k15, b_decided := (fun_mk (st := s_decided) l15 c15 k15).binds (ps := ["word", "a", "b"]) fun _ _ _ _ _ _ us hl => match us, hl with | [_, _, _], _ => rfl
    m_decided := PySem.W.mg_of X G a15, k_decided := k15
    f__single := f16, fd__single := _, F__single := fun_mk (st := s__single) l16 c16 k16, b__single := (fun_mk (st := s__single) l16 c16 k16).binds (ps := ["word", "value"]) fun _ _ _ _ _ _ us hl => match us, hl with | [_, _], _ => rfl
    m__single := PySem.W.mg_of X G a16, k__single := k16
    f_bounded := f17, fd_bounded := _, F_bounded := fun_mk (st := s_bounded) l17 c17 k17, b_bounded := (fun_mk (st := s_bounded) l17 c17 k17).binds (ps := ["number"]) fun _ _ _ _ _ _ us hl => match us, hl with | [_], _ => rfl
    m_bounded := PySem.W.mg_of X G a17, k_bounded := k17
    f__arithmetic := f18, fd__arithmetic := _, F__arithmetic := fun_mk (st := s__arithmetic) l18 c18 k18, b__arithmetic := (fun_mk (st := s__arithmetic) l18 c18 k18).binds (ps := ["word", "a", "b"]) fun _ _ _ _ _ _ us hl => match us, hl with | [_, _, _], _ => rfl
    m__arithmetic := PySem.W.mg_of X G a18, k__arithmetic := k18
    f_compared := f19, fd_compared := _, F_compared := fun_mk (st := s_compared) l19 c19 k19, b_compared := (fun_mk (st := s_compared) l19 c19 k19).binds (ps := ["word", "a", "b"]) fun _ _ _ _ _ _ us hl => match us, hl with | [_, _, _], _ => rfl
    m_compared := PySem.W.mg_of X G a19, k_compared := k19
    f__strict := f20, fd__strict := _, F__strict := fun_mk (st := s__strict) l20 c20 k20, b__strict := (fun_mk (st := s__strict) l20 c20 k20).binds (ps := ["word", "values"]) fun _ _ _ _ _ _ us hl => match us, hl with | [_, _], _ => rfl
    m__strict := PySem.W.mg_of X G a20, k__strict := k20
    f__index_of := f21, fd__index_of := _, F__index_of := fun_mk (st := s__index_of) l21 c21 k21, b__index_of := (fun_mk (st := s__index_of) l21 c21 k21).binds (ps := ["rows", "name"]) fun _ _ _ _ _ _ us hl => match us, hl with | [_, _], _ => rfl
    m__index_of := PySem.W.mg_of X G a21, k__index_of := k21
    f_attr_index := f22, fd_attr_index := _, F_attr_index := fun_mk (st := s_attr_index) l22 c22 k22, b_attr_index := (fun_mk (st := s_attr_index) l22 c22 k22).binds (ps := ["shape", "name"]) fun _ _ _ _ _ _ us hl => match us, hl with | [_, _], _ => rfl
    m_attr_index := PySem.W.mg_of X G a22, k_attr_index := k22
    f_dim_index := f23, fd_dim_index := _, F_dim_index := fun_mk (st := s_dim_index) l23 c23 k23, b_dim_index := (fun_mk (st := s_dim_index) l23 c23 k23).binds (ps := ["shape", "name"]) fun _ _ _ _ _ _ us hl => match us, hl with | [_, _], _ => rfl
    m_dim_index := PySem.W.mg_of X G a23, k_dim_index := k23
    f_value_of := f24, fd_value_of := _, F_value_of := fun_mk (st := s_value_of) l24 c24 k24, b_value_of := (fun_mk (st := s_value_of) l24 c24 k24).binds (ps := ["expression", "shape", "place", "values"]) fun _ _ _ _ _ _ us hl => match us, hl with | [_, _, _, _], _ => rfl
    m_value_of := PySem.W.mg_of X G a24, k_value_of := k24
    f_is_text := f25, fd_is_text := _, F_is_text := fun_mk (st := s_is_text) l25 c25 k25, b_is_text := (fun_mk (st := s_is_text) l25 c25 k25).binds (ps := ["text"]) fun _ _ _ _ _ _ us hl => match us, hl with | [_], _ => rfl
    m_is_text := PySem.W.mg_of X G a25, k_is_text := k25
    f_is_integer := f26, fd_is_integer := _, F_is_integer := fun_mk (st := s_is_integer) l26 c26 k26, b_is_integer := (fun_mk (st := s_is_integer) l26 c26 k26).binds (ps := ["value"]) fun _ _ _ _ _ _ us hl => match us, hl with | [_], _ => rfl
    m_is_integer := PySem.W.mg_of X G a26, k_is_integer := k26
    f_is_value := f27, fd_is_value := _, F_is_value := fun_mk (st := s_is_value) l27 c27 k27, b_is_value := (fun_mk (st := s_is_value) l27 c27 k27).binds (ps := ["kind", "value"]) fun _ _ _ _ _ _ us hl => match us, hl with | [_, _], _ => rfl
    m_is_value := PySem.W.mg_of X G a27, k_is_value := k27
    f_law := fa, fd_law := _, F_law := fun_mk (st := s_law) l28 c28 k28, b_law := (fun_mk (st := s_law) l28 c28 k28).binds (ps := ["_law_script"]) fun _ _ _ _ _ _ us hl => match us, hl with | [_], _ => rfl
    m_law := PySem.W.mg_of X G a28, k_law := k28
    C_Shape := C_Shape, cm_Shape := PySem.W.mg_of X G aC_Shape, cl_Shape := ⟨pg_Shape, hd_Shape, po_Shape, sa_Shape⟩
    mk_Shape := ⟨mk_Shape, a2, i2, kc_Shape⟩
    na_Shape_attrs := na_Shape_attrs
    na_Shape_dims := na_Shape_dims
    t_BEFORE := t_BEFORE, c_BEFORE := PySem.W.mg_of X G g_BEFORE
    t_BEHIND := t_BEHIND, c_BEHIND := PySem.W.mg_of X G g_BEHIND
    t_BOUND := t_BOUND, c_BOUND := PySem.W.mg_of X G g_BOUND
    t_LONGEST := t_LONGEST, c_LONGEST := PySem.W.mg_of X G g_LONGEST
    a_ARITHMETIC := a_ARITHMETIC, c_ARITHMETIC := PySem.W.mg_of X G g_ARITHMETIC, r_ARITHMETIC := rep_tuple (vs := [.str "add", .str "sub", .str "mul", .str "div", .str "mod"]) lt_ARITHMETIC rfl rfl (by rw [sizeLine_eq]; exact Nat.le_of_ble_eq_true rfl) (.cons ⟨_, rfl⟩ (.cons ⟨_, rfl⟩ (.cons ⟨_, rfl⟩ (.cons ⟨_, rfl⟩ (.cons ⟨_, rfl⟩ (.nil)))))) (fun _ => .cons (.str _) (.cons (.str _) (.cons (.str _) (.cons (.str _) (.cons (.str _) (.nil))))))
    a_COMPARISONS := a_COMPARISONS, c_COMPARISONS := PySem.W.mg_of X G g_COMPARISONS, r_COMPARISONS := rep_tuple (vs := [.str "eq", .str "ne", .str "lt", .str "le", .str "gt", .str "ge"]) lt_COMPARISONS rfl rfl (by rw [sizeLine_eq]; exact Nat.le_of_ble_eq_true rfl) (.cons ⟨_, rfl⟩ (.cons ⟨_, rfl⟩ (.cons ⟨_, rfl⟩ (.cons ⟨_, rfl⟩ (.cons ⟨_, rfl⟩ (.cons ⟨_, rfl⟩ (.nil))))))) (fun _ => .cons (.str _) (.cons (.str _) (.cons (.str _) (.cons (.str _) (.cons (.str _) (.cons (.str _) (.nil)))))))
    n_abs := PySem.W.mg_none_of X G n_abs
    n_bool := PySem.W.mg_none_of X G n_bool
    n_int := PySem.W.mg_none_of X G n_int
    n_isinstance := PySem.W.mg_none_of X G n_isinstance
    n_len := PySem.W.mg_none_of X G n_len
    n_max := PySem.W.mg_none_of X G n_max
    n_range := PySem.W.mg_none_of X G n_range
    n_str := PySem.W.mg_none_of X G n_str
    n_tuple := PySem.W.mg_none_of X G n_tuple
  }
  exact ⟨_, fun s v => .of_eq rfl, fun base _ _ => (ok_law T).imp (law_sp hlaw)⟩
theorem walk {l : PySem.W.OpenLaw} {q : Program} {loose : List Str} {XP : (Str → Option Value) → Heap → Prop} {YP : World → Heap → Prop} {d : DefRec} {K : Params → PySem.W.Frag} (hn : l.most = some 63) (hdf : d.params.defaults = [])
    (hY : ∀ (w : World) (h : Heap), YP w h → (K w.params).In h)
    (F : ∀ (w : World) (mg : Str → Option Value) (fa : Addr) (h : Heap), (K w.params).In h → h.Ns mainGlobals mg → mg d.name = some (.ref fa) →
      ∃ fd : FuncData, (∀ (s : Shared) (u : Value), BindsTo s fd ⟨[u], []⟩ [("_law_script", u)]) ∧ ∀ base : Heap, (K w.params).In base → base.Ns mainGlobals mg → FnOk l.prog w (K w.params) mg base (L2.CX l.prog w) 17 fa fd ["_law_script"] (spLaw 63 (K w.params))) :
    PySem.W.WalkO q loose XP YP l.row.toRowW d [] (fun f vs => PySem.call f vs) :=
  L2.walk_of (n := 63) (k := 17) (x := "_law_script") (CX := fun w => L2.CX l.prog w) (sp := fun w => spLaw 63 (K w.params)) hn (by decide) hdf ⟨rfl, by decide, by decide⟩ hY F (fun _ _ a ns hl _ hS => ⟨a, ns, rfl, hl, hS, fun _ => rfl⟩) fun _ _ _ _ _ h => by
    obtain ⟨_, _, _, _, _, _, _, _, _, _, _, _, z⟩ := h
    exact z.elim
end Mi

namespace Mi
open PySem L2
def stD (nums : List Int) (a : Nat) : D := .dK [(.inr (Str.ofString "numbers"), .lst (nums.map D.int)), (.inr (Str.ofString "at"), .int a)]
def nv (nums : List Int) (a : Nat) (b : Int) : Int := (nums.getD (((a : Int).fmod nums.length).toNat) 0 + (a : Int).fdiv nums.length).fmod b
theorem nv_ge {nums a b} (hb : 0 < b) : 0 ≤ nv nums a b := Int.fmod_nonneg_of_pos _ hb
theorem nv_lt {nums a b} (hb : 0 < b) : nv nums a b < b := Int.fmod_lt_of_pos _ hb
theorem next_eq {nums : List Int} {a : Nat} {b : Int} (h0 : 0 < nums.length) (hl : nums.length ≤ 100000) (hb : 0 < b) :
    m__law_next [.own true (stD nums a), .shr (.int b)] = .ret false (.int (nv nums a b)) [stD nums (a + 1)] := by
  have g1 : ∀ env : En, getOwn env 0 = some (stD nums a) → eDGetO 0 (eC (.str (Str.ofString "numbers"))) env = .ok (.lst (nums.map D.int)) env := by
    intro env h
    simp [eDGetO, h, stD, dGet, dLook_cons, ofString_inj]
  have g2 : ∀ env : En, getOwn env 0 = some (stD nums a) → eDGetO 0 (eC (.str (Str.ofString "at"))) env = .ok (.int a) env := by
    intro env h
    simp [eDGetO, h, stD, dGet, dLook_cons, ofString_inj]
  have k0 : (nums.length : Int) ≠ 0 := by omega
  have k1 : (nums.length : Int).natAbs.log2 < 9000 := Nat.lt_trans (log2_lt (k := 20) (by omega) (by decide)) (by decide)
  have k6 := dMod_i (a : Int) nums.length k0
  have k7 := dDiv_i (a : Int) nums.length k0 k1
  have k2 : 0 ≤ (a : Int).fmod nums.length := Int.fmod_nonneg_of_pos _ (by omega)
  have k3 : (a : Int).fmod nums.length < nums.length := Int.fmod_lt_of_pos _ (by omega)
  have k4 : dIx (.lst (nums.map D.int)) (.int ((a : Int).fmod nums.length)) = some (.int (nums.getD (((a : Int).fmod nums.length).toNat) 0)) := by
    rw [dIx_l _ _ k2 (by rw [List.length_map]; exact k3), List.getElem?_map, List.getD_eq_getElem?_getD, List.getElem?_eq_getElem (by omega)]
    rfl
  have k5 : b ≠ 0 := by omega
  have g3 : dPut (stD nums a) (.str (Str.ofString "at")) (.int ((a : Int) + 1)) = some (stD nums (a + 1)) := by
    simp [stD, dPut, dPutL, ofString_inj]
  simp [m__law_next, runF, b__law_next, argsE, g1, g2, g3, getOwn, k6, k7, k4, dMod_i, k5, mPut, eV, outsAt]
  simp [nv]

theorem rngD_drop (n : Nat) : rngD 0 n = (List.range n).map fun (k : Nat) => D.int (k : Int) := by
  unfold rngD; congr 1; funext k; rw [Int.zero_add]
theorem draw_eq (c b : Int) (hb : 0 < b) (hb2 : b.natAbs.log2 < 9000) : ∃ L : List Int, m__law_draw [.shr (.int c), .shr (.int 40), .shr (.int b)] = .ret true (.lst (L.map D.int)) [] ∧ L.length = 40 := by
  have k5 : b ≠ 0 := by omega
  have r40 : rngD 0 40 = (List.range 40).map fun (k : Nat) => D.int (k : Int) := rngD_drop 40
  have pw : dPow (.int 10) (.int 18) = some (.int 1000000000000000000) := rfl
  have s40 : small62 40 = true := by decide +kernel
  have kd : ∀ i, dDiv (.int i) (.int b) = some (.int (i.fdiv b)) := fun i => dDiv_i i b k5 hb2
  have km : ∀ i, dMod (.int i) (.int b) = some (.int (i.fmod b)) := fun i => dMod_i i b k5
  by_cases hc : (1000000000000000000 : Int) ≤ c
  · obtain ⟨env', h1, h2⟩ := forL_all (g := gN 5) (body := (mSeq (mApp 3 (eOp dMod (eCB dInt (aCons (eV 0) aNil)) (eV 2))) (mSet 0 (eOp dDiv (eV 0) (eV 2))))) (clr := [])
      (fun xs env => ∃ (L : List Int) (c : Int) (x5 : Option Slot), L.length + xs.length = 40 ∧ env = [some (.shr (.int c)), some (.shr (.int 40)), some (.shr (.int b)), some (.own false (.lst (L.map D.int))), none, x5, none])
      (by
        rintro x xs env ⟨L, c, x5, hL, rfl⟩
        have hL2 : L.length < 16777216 := by simp at hL; omega
        simp [mApp, getOwnL, getOwn, eV, km, kd, hL2, clrE]
        exact ⟨L ++ [c.fmod b], by simp at hL ⊢; omega, by simp⟩)
      ((List.range 40).map fun (k : Nat) => D.int (k : Int)) [some (.shr (.int c)), some (.shr (.int 40)), some (.shr (.int b)), some (.own false (.lst [])), none, none, none]
      ⟨[], c, none, by simp, rfl⟩
    obtain ⟨L, c', x5, hL, rfl⟩ := h2
    refine ⟨L, ?_, by simpa using hL⟩
    simp [m__law_draw, runF, b__law_draw, argsE, eV, pw, hc, iR1F_ok s40, r40, h1, mRetO, outsAt]
  · obtain ⟨env', h1, h2⟩ := forL_all (g := gN 5) (body := (mSeq (mSet 4 (eOp dMod (eCB dInt (aCons (eOp dAdd (eOp dAdd (eOp dMul (eV 4) (eC (.int 48271))) (eC (.int 12345))) (eV 5)) aNil)) (eC (.int 2147483647)))) (mSeq (mSet 6 (eOp dMod (eCB dInt (aCons (eOp dAdd (eOp dMul (eV 4) (eC (.int 69621))) (eOp dMul (eC (.int 977)) (eV 5))) aNil)) (eC (.int 2147483629)))) (mApp 3 (eOp dMod (eCB dInt (aCons (eOp dDiv (eV 6) (eC (.int 3))) aNil)) (eV 2)))))) (clr := [5, 6])
      (fun xs env => ∃ (L : List Int) (s : Int), L.length + xs.length = 40 ∧ (∀ x ∈ xs, ∃ k : Int, x = .int k ∧ 0 ≤ k ∧ k < 40) ∧ 0 ≤ s ∧ s < 2147483647 ∧ env = [some (.shr (.int c)), some (.shr (.int 40)), some (.shr (.int b)), some (.own false (.lst (L.map D.int))), some (.shr (.int s)), none, none])
      (by
        rintro x xs env ⟨L, s, hL, hx, hs0, hs1, rfl⟩
        have hL2 : L.length < 16777216 := by simp at hL; omega
        obtain ⟨k, rfl, hk0, hk1⟩ := hx x List.mem_cons_self
        have m1 : dMul (.int s) (.int 48271) = some (.int (s * 48271)) := dMul_i _ _ (by omega) (by omega)
        have a1 := Int.fmod_nonneg_of_pos (s * 48271 + 12345 + k) (show (0:Int) < 2147483647 by decide)
        have a2 := Int.fmod_lt_of_pos (s * 48271 + 12345 + k) (show (0:Int) < 2147483647 by decide)
        have d1 : ∀ i, dMod (.int i) (.int 2147483647) = some (.int (i.fmod 2147483647)) := fun i => dMod_i _ _ (by decide)
        have d2 : ∀ i, dMod (.int i) (.int 2147483629) = some (.int (i.fmod 2147483629)) := fun i => dMod_i _ _ (by decide)
        have d3 : ∀ i, dDiv (.int i) (.int 3) = some (.int (i.fdiv 3)) := fun i => dDiv_i _ _ (by decide) (by decide)
        have m2 : dMul (.int ((s * 48271 + 12345 + k).fmod 2147483647)) (.int 69621) = some (.int ((s * 48271 + 12345 + k).fmod 2147483647 * 69621)) := dMul_i _ _ (by omega) (by omega)
        have m3 : dMul (.int 977) (.int k) = some (.int (977 * k)) := dMul_i _ _ (by omega) (by omega)
        simp [mApp, getOwnL, getOwn, eV, km, d1, d2, d3, m1, m2, m3, hL2, clrE]
        exact ⟨L ++ [((((s * 48271 + 12345 + k).fmod 2147483647 * 69621 + 977 * k).fmod 2147483629).fdiv 3).fmod b], by simp at hL ⊢; omega, fun y hy => hx y (List.mem_cons_of_mem _ hy), _, a1, a2, by simp, rfl⟩)
      ((List.range 40).map fun (k : Nat) => D.int (k : Int)) [some (.shr (.int c)), some (.shr (.int 40)), some (.shr (.int b)), some (.own false (.lst [])), some (.shr (.int (c.fmod 2147483647))), none, none]
      ⟨[], c.fmod 2147483647, by simp, by
        intro x hx
        obtain ⟨k, hk, rfl⟩ := List.mem_map.mp hx
        have := List.mem_range.mp hk
        exact ⟨k, rfl, by omega, by omega⟩, Int.fmod_nonneg_of_pos _ (by decide), Int.fmod_lt_of_pos _ (by decide), rfl⟩
    obtain ⟨L, s, hL, _, _, _, rfl⟩ := h2
    have d1 : ∀ i, dMod (.int i) (.int 2147483647) = some (.int (i.fmod 2147483647)) := fun i => dMod_i _ _ (by decide)
    refine ⟨L, ?_, by simpa using hL⟩
    simp [m__law_draw, runF, b__law_draw, argsE, eV, pw, hc, iR1F_ok s40, r40, h1, mRetO, outsAt, d1]
theorem draws_eq (cs : List Int) (hcs : cs.length ≤ 100) : ∃ L : List Int, m__law_draws [.shr (.lst (cs.map D.int))] = .ret true (stD L 0) [] ∧ L.length = 40 * cs.length := by
  have sh : dShl (.int 1) (.int 20) = some (.int 1048576) := rfl
  obtain ⟨env', h1, h2⟩ := forL_all (g := gN 2) (body := (mSet 1 (eOp dAdd (eV 1) (eCallN 3 m__law_draw (rSh (eV 2) (rSh (eC (.int 40)) (rSh (eOp dShl (eC (.int 1)) (eC (.int 20))) rNil))))))) (clr := [2])
    (fun xs env => ∃ (L : List Int), L.length + 40 * xs.length = 40 * cs.length ∧ (∀ x ∈ xs, ∃ k : Int, x = .int k) ∧ env = [some (.shr (.lst (cs.map D.int))), some (.shr (.lst (L.map D.int))), none])
    (by
      rintro x xs env ⟨L, hL, hx, rfl⟩
      obtain ⟨k, rfl⟩ := hx x List.mem_cons_self
      obtain ⟨L2, e2, hL2⟩ := draw_eq k 1048576 (by decide) (by decide)
      have ha : dAdd (.lst (L.map D.int)) (.lst (L2.map D.int)) = some (.lst ((L ++ L2).map D.int)) := by
        simp at hL
        unfold dAdd
        simp only [List.length_map, List.map_append]
        exact if_pos (by omega)
      simp [eV, callN, ioIx, slotsOf, sh, e2, putOuts, ha, clrE]
      exact ⟨L ++ L2, by simp at hL ⊢; omega, fun y hy => hx y (List.mem_cons_of_mem _ hy), by simp⟩)
    (cs.map D.int) [some (.shr (.lst (cs.map D.int))), some (.shr (.lst [])), none]
    ⟨[], by simp, by
      intro x hx
      obtain ⟨k, _, rfl⟩ := List.mem_map.mp hx
      exact ⟨k, rfl⟩, rfl⟩
  obtain ⟨L, hL, _, rfl⟩ := h2
  refine ⟨L, ?_, by simpa using hL⟩
  simp [m__law_draws, runF, b__law_draws, argsE, eV, h1, outsAt, eDisp, pDisp, dPutL, stD, ofString_inj]
end Mi

namespace Mi
open PySem L2
/-! the draws -/
section
variable {L : List Int} (h0 : 0 < L.length) (hl : L.length ≤ 100000)
include h0 hl
theorem pick_eq {a : Nat} {b : Int} (hb : 0 < b) : m__law_next [.own true (stD L a), .shr (.int b)] = .ret false (.int (nv L a b)) [stD L (a + 1)] := next_eq h0 hl hb
theorem word_eq (a : Nat) : ∃ s a', m__law_word [.own true (stD L a)] = .ret false (.str s) [stD L a'] ∧ OkS s ∧ s.length ≤ 3 := by
  have n4 := next_eq (a := a) h0 hl (show (0 : Int) < 4 by decide)
  have g4 := nv_ge (nums := L) (a := a) (show (0 : Int) < 4 by decide)
  have u4 := nv_lt (nums := L) (a := a) (show (0 : Int) < 4 by decide)
  have sm : small62 (nv L a 4) = true := small_of (by omega) (by omega)
  have al : (Str.ofString "abXY z09{~.\n").length = 12 := by decide +kernel
  have ao : OkS (Str.ofString "abXY z09{~.\n") := by decide +kernel
  obtain ⟨ds, env', h1, ⟨a', h2⟩, h3, h4⟩ := lc_all (i := 1) (m := (eOp dIx (eC (.str "abXY z09{~.\n")) (eCall 2 m__law_next (rIo 0 (rSh (eC (.int 12)) rNil))))) (vs := [1])
    (fun xs env => ∃ a, env = [some (.own true (stD L a)), none]) (fun d => ∃ c, d = .str ⟨#[c]⟩ ∧ okC c)
    (by
      rintro x xs env ⟨a, rfl⟩
      have n12 := next_eq (a := a) h0 hl (show (0 : Int) < 12 by decide)
      obtain ⟨c, e1, e2⟩ := dIx_sign (z := Str.ofString "abXY z09{~.\n") (i := nv L a 12) (by rw [al]; decide) (nv_ge (by decide)) (by rw [al]; exact nv_lt (by decide))
      simp [callR, rIo, getOwn, ioIx, slotsOf, putOuts, n12, e1, wipeE]
      exact ⟨ao c e2, _, rfl⟩)
    (rngD 0 (nv L a 4).toNat) [some (.own true (stD L (a + 1))), none] ⟨_, rfl⟩
  subst h2
  have h5 : ds.length = (nv L a 4).toNat := by rw [h4, rngD_drop, List.length_map, List.length_range]
  obtain ⟨s, e1, e2, e3⟩ := join_ones ds h3 (by omega)
  refine ⟨s, a', ?_, e2, by omega⟩
  have l2 : (rngD 0 (nv L a 4).toNat).length ≤ 16777216 := by omega
  simp [m__law_word, runF, b__law_word, argsE, lcR, callR, rIo, getOwn, ioIx, slotsOf, putOuts, n4, iR1F_ok sm, h1, l2, wipeE, backE, e1, outsAt]
theorem number_eq (a : Nat) : ∃ n a', m__law_number [.own true (stD L a)] = .ret false (.int n) [stD L a'] ∧ -10 ^ 30 < n ∧ n < 10 ^ 30 := by
  have n9 := next_eq (a := a) h0 hl (show (0 : Int) < 9 by decide)
  have n5 := next_eq (a := a + 1) h0 hl (show (0 : Int) < 5 by decide)
  have nA := next_eq (a := a + 1) h0 hl (show (0 : Int) < 1048576 by decide)
  have nB := next_eq (a := a + 1 + 1) h0 hl (show (0 : Int) < 1048576 by decide)
  have nC := next_eq (a := a + 1) h0 hl (show (0 : Int) < 13 by decide)
  have p30 : dPow (.int 10) (.int 30) = some (.int 1000000000000000000000000000000) := rfl
  have p15 : dPow (.int 10) (.int 15) = some (.int 1000000000000000) := rfl
  have p29 : dPow (.int 10) (.int 29) = some (.int 100000000000000000000000000000) := rfl
  have s20 : dShl (.int 1) (.int 20) = some (.int 1048576) := rfl
  have s39 : dShl (.int 1) (.int 39) = some (.int 549755813888) := rfl
  by_cases c0 : nv L a 9 = 0
  · obtain ⟨z, e1, n, rfl, e2, e3⟩ := dIx_all (P := fun z => ∃ n, z = .int n ∧ -10 ^ 30 < n ∧ n < 10 ^ 30) (xs := [.int 999999999999999999999999999999, .int (-999999999999999999999999999999), .int 1000000000000000, .int (-1000000000000000), .int 100000000000000000000000000000]) (by
      intro x hx
      simp only [List.mem_cons, List.not_mem_nil, or_false] at hx
      rcases hx with rfl | rfl | rfl | rfl | rfl <;> exact ⟨_, rfl, by decide, by decide⟩) (i := nv L (a + 1) 5) (nv_ge (by decide)) (nv_lt (by decide))
    refine ⟨n, a + 1 + 1, ?_, e2, e3⟩
    simp [m__law_number, runF, b__law_number, argsE, callR, rIo, getOwn, ioIx, slotsOf, putOuts, n9, eV, c0, p30, p15, p29, n5, e1, outsAt]
  · by_cases c1 : nv L a 9 = 1
    · have a1 := nv_ge (nums := L) (a := a + 1) (show (0 : Int) < 1048576 by decide)
      have a2 := nv_lt (nums := L) (a := a + 1) (show (0 : Int) < 1048576 by decide)
      have b1 := nv_ge (nums := L) (a := a + 1 + 1) (show (0 : Int) < 1048576 by decide)
      have b2 := nv_lt (nums := L) (a := a + 1 + 1) (show (0 : Int) < 1048576 by decide)
      have mm := dMul_i (nv L (a + 1) 1048576) (nv L (a + 1 + 1) 1048576) (by omega) (by omega)
      have x1 : 0 ≤ nv L (a + 1) 1048576 * nv L (a + 1 + 1) 1048576 := Int.mul_nonneg a1 b1
      have x2 : nv L (a + 1) 1048576 * nv L (a + 1 + 1) 1048576 ≤ 1048576 * 1048576 := Int.mul_le_mul (by omega) (by omega) b1 (by decide)
      refine ⟨nv L (a + 1) 1048576 * nv L (a + 1 + 1) 1048576 - 549755813888, a + 1 + 1 + 1, ?_, by omega, by omega⟩
      simp [m__law_number, runF, b__law_number, argsE, callR, rIo, getOwn, ioIx, slotsOf, putOuts, n9, eV, c0, c1, s20, s39, nA, nB, mm, outsAt]
    · have a1 := nv_ge (nums := L) (a := a + 1) (show (0 : Int) < 13 by decide)
      have a2 := nv_lt (nums := L) (a := a + 1) (show (0 : Int) < 13 by decide)
      refine ⟨nv L (a + 1) 13 - 6, a + 1 + 1, ?_, by omega, by omega⟩
      simp [m__law_number, runF, b__law_number, argsE, callR, rIo, getOwn, ioIx, slotsOf, putOuts, n9, eV, c0, c1, nC, outsAt]
end
end Mi

namespace Mi
open PySem L2
theorem mul_OkS {s : Str} (h : OkS s) (n : Int) (hn : 2 ≤ n) (h2 : s.length ≠ 0) : OkS (Txt.mul s n) ∧ (Txt.mul s n).length = s.length * n.toNat := by
  have e : (Txt.mul s n).cps.toList = (List.replicate n.toNat s.cps.toList).flatten := by
    unfold Txt.mul
    rw [if_neg (by omega), if_neg (by simp; omega)]
    have key : ∀ (k : Nat) (acc : Array Nat), ((List.replicate k s.cps).foldl (· ++ ·) acc).toList = acc.toList ++ (List.replicate k s.cps.toList).flatten := by
      intro k
      induction k with
      | zero => intro acc; simp
      | succ k ih => intro acc; rw [List.replicate_succ, List.foldl_cons, ih, List.replicate_succ]; simp
    show ((List.replicate n.toNat s.cps).foldl (· ++ ·) #[]).toList = _
    rw [key]; simp
  constructor
  · intro c hc
    rw [e] at hc
    obtain ⟨l, hl, hc⟩ := List.mem_flatten.mp hc
    rw [(List.mem_replicate.mp hl).2] at hc
    exact h c hc
  · rw [str_len, e, str_len]; simp [Nat.mul_comm]
section
variable {L : List Int} (h0 : 0 < L.length) (hl : L.length ≤ 100000)
include h0 hl
theorem thing_int (a : Nat) : ∃ n a', m__law_thing [.own true (stD L a), .shr (.str (Str.ofString "int"))] = .ret false (.int n) [stD L a'] ∧ -10 ^ 30 < n ∧ n < 10 ^ 30 := by
  obtain ⟨n, a', e, h1, h2⟩ := number_eq h0 hl a
  refine ⟨n, a', ?_, h1, h2⟩
  simp [m__law_thing, runF, b__law_thing, argsE, callR, rIo, getOwn, ioIx, slotsOf, putOuts, eV, e, outsAt]
theorem thing_flag (a : Nat) : ∃ b a', m__law_thing [.own true (stD L a), .shr (.str (Str.ofString "flag"))] = .ret false (.bl b) [stD L a'] := by
  have n2 := next_eq (a := a) h0 hl (show (0 : Int) < 2 by decide)
  refine ⟨decide (nv L a 2 = 1), a + 1, ?_⟩
  simp [m__law_thing, runF, b__law_thing, argsE, callR, rIo, getOwn, ioIx, slotsOf, putOuts, eV, n2, outsAt]
theorem thing_text (a : Nat) : ∃ s a', m__law_thing [.own true (stD L a), .shr (.str (Str.ofString "text"))] = .ret false (.str s) [stD L a'] ∧ OkS s ∧ s.length ≤ 200 := by
  have n12 := next_eq (a := a) h0 hl (show (0 : Int) < 12 by decide)
  by_cases c : nv L a 12 = 0
  · have n3 := next_eq (a := a + 1) h0 hl (show (0 : Int) < 3 by decide)
    have n4 := next_eq (a := a + 1 + 1) h0 hl (show (0 : Int) < 3 by decide)
    obtain ⟨z, e1, s, rfl, e2, e3, e4⟩ := dIx_all (P := fun z => ∃ s : Str, z = .str s ∧ OkS s ∧ s.length ≠ 0 ∧ s.length ≤ 2) (xs := [.str (Str.ofString "~"), .str (Str.ofString "ab"), .str (Str.ofString " ")]) (by
      intro x hx
      simp only [List.mem_cons, List.not_mem_nil, or_false] at hx
      rcases hx with rfl | rfl | rfl <;> exact ⟨_, rfl, by decide +kernel, by decide +kernel, by decide +kernel⟩) (i := nv L (a + 1) 3) (nv_ge (by decide)) (nv_lt (by decide))
    obtain ⟨z, d1, n, rfl, d2, d3⟩ := dIx_all (P := fun z => ∃ n : Int, z = .int n ∧ 2 ≤ n ∧ n ≤ 100) (xs := [.int 100, .int 99, .int 60]) (by
      intro x hx
      simp only [List.mem_cons, List.not_mem_nil, or_false] at hx
      rcases hx with rfl | rfl | rfl <;> exact ⟨_, rfl, by decide, by decide⟩) (i := nv L (a + 1 + 1) 3) (nv_ge (by decide)) (nv_lt (by decide))
    obtain ⟨q1, q2⟩ := mul_OkS e2 n d2 e3
    have hle : s.length * n.toNat ≤ 2 * 100 := Nat.mul_le_mul e4 (by omega)
    have hm : dMul (.str s) (.int n) = some (.str (Txt.mul s n)) := if_pos ⟨by omega, by omega, by omega⟩
    refine ⟨Txt.mul s n, a + 1 + 1 + 1, ?_, q1, by rw [q2]; omega⟩
    simp [m__law_thing, runF, b__law_thing, argsE, callR, rIo, getOwn, ioIx, slotsOf, putOuts, eV, n12, c, n3, n4, e1, d1, hm, outsAt]
  · obtain ⟨s, a', e, h1, h2⟩ := word_eq h0 hl (a + 1)
    refine ⟨s, a', ?_, h1, by omega⟩
    simp [m__law_thing, runF, b__law_thing, argsE, callR, rIo, getOwn, ioIx, slotsOf, putOuts, eV, n12, c, e, outsAt]
end
/-! ### is_text, is_value -/
theorem is_text_eq {s : Str} (h : OkS s) : m_is_text [.shr (.str s)] = .ret false (.bl true) [] := by
  have b1 : (Str.ofString " !\"#$").cps.toList = [32, 33, 34, 35, 36] := by decide +kernel
  have b2 : (Str.ofString "&'()*+,-./0123456789:;<=>?@ABCDEFGHIJKLMNOPQRSTUVWXYZ[\\]^_`abcdefghijklmnopqrstuvwxyz{|}~").cps.toList = List.range' 38 89 := by decide +kernel
  have b3 : Str.ofString "\n" = ⟨#[10]⟩ := by decide +kernel
  obtain ⟨env', h1, h2⟩ := forL_all (g := gN 1) (body := (mIf (bAnd (eTest (eOp dNotIn (eV 1) (eC (.str " !\"#$")))) (bAnd (eTest (eOp dNotIn (eV 1) (eC (.str "&'()*+,-./0123456789:;<=>?@ABCDEFGHIJKLMNOPQRSTUVWXYZ[\\]^_`abcdefghijklmnopqrstuvwxyz{|}~")))) (eTest (eOp dNe (eV 1) (eC (.str "\n")))))) (mRet (eC (.bl false))) mNx)) (clr := [1])
    (fun xs env => (∀ x ∈ xs, ∃ c, x = .str ⟨#[c]⟩ ∧ okC c) ∧ env = [some (.shr (.str s)), none])
    (by
      rintro x xs env ⟨hx, rfl⟩
      obtain ⟨c, rfl, hc⟩ := hx x List.mem_cons_self
      have hr := fun y hy => hx y (List.mem_cons_of_mem _ hy)
      have i1 : dNotIn (.str ⟨#[c]⟩) (.str (Str.ofString " !\"#$")) = some (.bl (!decide (c ∈ [32, 33, 34, 35, 36]))) := by
        show some (D.bl (!inS _ _)) = _
        rw [in_sign, b1]
      have i2 : dNotIn (.str ⟨#[c]⟩) (.str (Str.ofString "&'()*+,-./0123456789:;<=>?@ABCDEFGHIJKLMNOPQRSTUVWXYZ[\\]^_`abcdefghijklmnopqrstuvwxyz{|}~")) = some (.bl (!decide (c ∈ List.range' 38 89))) := by
        show some (D.bl (!inS _ _)) = _
        rw [in_sign, b2]
      have i3 : dNe (.str ⟨#[c]⟩) (.str (Str.ofString "\n")) = some (.bl (!decide (c = 10))) := by
        rw [dNe_s (strOk_one hc) (strOk_of _), b3, decide_eq_decide.mpr one_inj]
      simp only [Tn_gN]
      by_cases m1 : c ∈ [32, 33, 34, 35, 36]
      · simp only [m1, decide_true, Bool.not_true] at i1
        simp [eV, i1, clrE]
        exact hr
      · by_cases m2 : c ∈ List.range' 38 89
        · simp only [m1, m2, decide_true, Bool.not_true, decide_false, Bool.not_false] at i1 i2
          simp [eV, i1, i2, clrE]
          exact hr
        · have m3 : c = 10 := by
            unfold okC at hc
            rw [List.mem_range'_1] at m2
            simp at m1
            omega
          simp only [m1, m2, m3, decide_true, Bool.not_true, decide_false, Bool.not_false] at i1 i2 i3
          subst m3
          simp [eV, i1, i2, i3, clrE]
          exact hr)
    (s.cps.toList.map fun c => .str ⟨#[c]⟩) [some (.shr (.str s)), none] ⟨by
      intro x hx
      obtain ⟨c, hc, rfl⟩ := List.mem_map.mp hx
      exact ⟨c, rfl, h c hc⟩, rfl⟩
  obtain ⟨_, rfl⟩ := h2
  simp [m_is_text, runF, b_is_text, argsE, eV, h1, outsAt]
/-- what the law may ask about -/
inductive Gd : D → Prop
  | non : Gd .non
  | bl (b : Bool) : Gd (.bl b)
  | int (i : Int) : Gd (.int i)
  | str {s : Str} (h : OkS s) (hl : s.length ≤ 10000) : Gd (.str s)
  | tup (xs : List D) : Gd (.tup xs)
  | lst (xs : List D) : Gd (.lst xs)
def Kd (k : String) : Prop := k = "int" ∨ k = "flag" ∨ k = "text"
theorem is_integer_eq {d : D} (h : Gd d) : ∃ b, m_is_integer [.shr d] = .ret false (.bl b) [] ∧ (b = true → ∃ i, d = .int i) ∧ (∀ i, d = .int i → b = true) := by
  cases h with
  | int i => exact ⟨true, by simp [m_is_integer, runF, b_is_integer, argsE, eV, outsAt], fun _ => ⟨i, rfl⟩, fun _ _ => rfl⟩
  | _ => exact ⟨false, by simp [m_is_integer, runF, b_is_integer, argsE, eV, outsAt], by simp, by simp⟩
end Mi

namespace Mi
open PySem L2
/-! ### shapes, places, values: what the law draws -/
structure Dm where
  n : String
  lo : Int
  hi : Int
  st : Int
def Dm.ok (d : Dm) : Prop := -5 ≤ d.lo ∧ d.lo ≤ d.hi ∧ d.hi ≤ d.lo + 5 ∧ d.lo ≤ 3 ∧ 1 ≤ d.st ∧ d.st ≤ 4
def dimD (d : Dm) : D := .tup [.str (Str.ofString d.n), .int d.lo, .int d.hi, .int d.st]
def abcd : List String := ["a", "b", "c", "d"]
def attrD (p : String × String) : D := .tup [.str (Str.ofString p.1), .str (Str.ofString p.2)]
def attrsD (ks : List String) : List D := (abcd.zip ks).map attrD
def shD (ds : List Dm) (ks : List String) : D := .ins (Str.ofString "Shape") [(Str.ofString "dims", .tup (ds.map dimD)), (Str.ofString "attrs", .tup (attrsD ks))]
structure ShOk (ds : List Dm) (ks : List String) : Prop where
  d1 : 1 ≤ ds.length
  d3 : ds.length ≤ 3
  dok : ∀ d ∈ ds, d.ok
  a1 : 1 ≤ ks.length
  a4 : ks.length ≤ 4
  kok : ∀ k ∈ ks, Kd k
theorem fGet_dims (ds : List Dm) (ks : List String) : fGet (Str.ofString "Shape") (Str.ofString "dims") (shD ds ks) = some (.tup (ds.map dimD)) := by
  simp [fGet, shD]
theorem fGet_attrs (ds : List Dm) (ks : List String) : fGet (Str.ofString "Shape") (Str.ofString "attrs") (shD ds ks) = some (.tup (attrsD ks)) := by
  have : (Str.ofString "attrs" == Str.ofString "dims") = false := by rw [beq_eq_false_iff_ne]; intro h; exact absurd (ofString_inj.mp h) (by decide)
  simp [fGet, shD, List.lookup, this]
theorem init_eq (x y : D) : m_Shape___init__ [.own true (.ins (Str.ofString "Shape") []), .shr x, .shr y] = .ret false .non [.ins (Str.ofString "Shape") [(Str.ofString "dims", x), (Str.ofString "attrs", y)]] := by
  simp [m_Shape___init__, runF, b_Shape___init__, argsE, mFPut, eV, fPut, ofString_inj, outsAt]
theorem attrsD_snoc (ks : List String) (k : String) (h : ks.length < 4) : attrsD (ks ++ [k]) = attrsD ks ++ [attrD (abcd.getD ks.length "", k)] := by
  match ks, h with
  | [], _ => rfl
  | [_], _ => rfl
  | [_, _], _ => rfl
  | [_, _, _], _ => rfl
  | _ :: _ :: _ :: _ :: _, h => simp only [List.length_cons] at h; omega
section
variable {L : List Int} (h0 : 0 < L.length) (hl : L.length ≤ 100000)
include h0 hl
theorem shape_eq (a : Nat) : ∃ ds ks a', m__law_shape [.own true (stD L a)] = .ret true (shD ds ks) [stD L a'] ∧ ShOk ds ks := by
  have n3 := next_eq (a := a) h0 hl (show (0 : Int) < 3 by decide)
  have g3 := nv_ge (nums := L) (a := a) (show (0 : Int) < 3 by decide)
  have u3 := nv_lt (nums := L) (a := a) (show (0 : Int) < 3 by decide)
  have sl : dSlL (.lst [.str (Str.ofString "x"), .str (Str.ofString "y"), .str (Str.ofString "z")]) none (some (1 + nv L a 3)) = some (.lst ([D.str (Str.ofString "x"), .str (Str.ofString "y"), .str (Str.ofString "z")].take (1 + nv L a 3).toNat)) := sl_take _ _ (by omega)
  have hxs : ∀ x ∈ [D.str (Str.ofString "x"), .str (Str.ofString "y"), .str (Str.ofString "z")].take (1 + nv L a 3).toNat, ∃ n, x = .str (Str.ofString n) := by
    intro x hx
    have := List.mem_of_mem_take hx
    simp only [List.mem_cons, List.not_mem_nil, or_false] at this
    rcases this with rfl | rfl | rfl <;> exact ⟨_, rfl⟩
  have hlen : ([D.str (Str.ofString "x"), .str (Str.ofString "y"), .str (Str.ofString "z")].take (1 + nv L a 3).toNat).length = (1 + nv L a 3).toNat := by
    rw [List.length_take]; simp only [List.length_cons, List.length_nil]; omega
  generalize [D.str (Str.ofString "x"), .str (Str.ofString "y"), .str (Str.ofString "z")].take (1 + nv L a 3).toNat = xs0 at sl hxs hlen
  have hm1 : 1 ≤ (1 + nv L a 3).toNat := by omega
  have hm3 : (1 + nv L a 3).toNat ≤ 3 := by omega
  generalize (1 + nv L a 3).toNat = m0 at hlen hm1 hm3
  obtain ⟨env', h1, _, a1, ds, hds, hdok, rfl⟩ := forL_all (g := gN 2) (body := (mSeq (mSet 5 (eOp dSub (eCall 2 m__law_next (rIo 0 (rSh (eC (.int 9)) rNil))) (eC (.int 5)))) (mApp 1 (eTup (aCons (eV 2) (aCons (eV 5) (aCons (eOp dAdd (eV 5) (eCall 2 m__law_next (rIo 0 (rSh (eC (.int 6)) rNil)))) (aCons (eOp dAdd (eC (.int 1)) (eCall 2 m__law_next (rIo 0 (rSh (eC (.int 4)) rNil)))) aNil)))))))) (clr := [2, 5])
    (fun xs env => (∀ x ∈ xs, ∃ n, x = .str (Str.ofString n)) ∧ ∃ a ds, List.length ds + xs.length = m0 ∧ (∀ d ∈ ds, Dm.ok d) ∧ env = [some (.own true (stD L a)), some (.own false (.lst (ds.map dimD))), none, none, none, none])
    (by
      rintro x xs env ⟨hx, a, ds, hds, hok, rfl⟩
      obtain ⟨n, rfl⟩ := hx _ List.mem_cons_self
      have hr := fun y hy => hx y (List.mem_cons_of_mem _ hy)
      have m9 := next_eq (a := a) h0 hl (show (0 : Int) < 9 by decide)
      have m6 := next_eq (a := a + 1) h0 hl (show (0 : Int) < 6 by decide)
      have m4 := next_eq (a := a + 1 + 1) h0 hl (show (0 : Int) < 4 by decide)
      have b9 := nv_ge (nums := L) (a := a) (show (0 : Int) < 9 by decide)
      have c9 := nv_lt (nums := L) (a := a) (show (0 : Int) < 9 by decide)
      have b6 := nv_ge (nums := L) (a := a + 1) (show (0 : Int) < 6 by decide)
      have c6 := nv_lt (nums := L) (a := a + 1) (show (0 : Int) < 6 by decide)
      have b4 := nv_ge (nums := L) (a := a + 1 + 1) (show (0 : Int) < 4 by decide)
      have c4 := nv_lt (nums := L) (a := a + 1 + 1) (show (0 : Int) < 4 by decide)
      have hl2 : ds.length < 16777216 := by omega
      simp [callR, rIo, getOwn, getOwnL, ioIx, slotsOf, putOuts, m9, m6, m4, eV, mApp, hl2, clrE]
      refine ⟨hr, _, ds ++ [⟨n, nv L a 9 - 5, nv L a 9 - 5 + nv L (a + 1) 6, 1 + nv L (a + 1 + 1) 4⟩], ?_, ?_, rfl, by simp [dimD]⟩
      · simp at hds ⊢; omega
      · intro d hd
        rcases List.mem_append.mp hd with h | h
        · exact hok d h
        · cases List.mem_singleton.mp h
          exact ⟨by show -5 ≤ nv L a 9 - 5; omega, by show nv L a 9 - 5 ≤ nv L a 9 - 5 + nv L (a + 1) 6; omega, by show nv L a 9 - 5 + nv L (a + 1) 6 ≤ nv L a 9 - 5 + 5; omega, by show nv L a 9 - 5 ≤ 3; omega, by show 1 ≤ 1 + nv L (a + 1 + 1) 4; omega, by show 1 + nv L (a + 1 + 1) 4 ≤ 4; omega⟩) xs0 [some (.own true (stD L (a + 1))), some (.own false (.lst [])), none, none, none, none] ⟨hxs, a + 1, [], by simp [hlen], by simp, rfl⟩
  have k4 := next_eq (a := a1) h0 hl (show (0 : Int) < 4 by decide)
  have g4 := nv_ge (nums := L) (a := a1) (show (0 : Int) < 4 by decide)
  have u4 := nv_lt (nums := L) (a := a1) (show (0 : Int) < 4 by decide)
  have s62 : small62 (1 + nv L a1 4) = true := small_of (by omega) (by omega)
  have hM1 : 1 ≤ (1 + nv L a1 4).toNat := by omega
  have hM4 : (1 + nv L a1 4).toNat ≤ 4 := by omega
  generalize hM : (1 + nv L a1 4).toNat = M at hM1 hM4
  have rg := rngD_drop M
  rw [List.range_eq_range'] at rg
  have i4 : ∀ i, dMod (.int i) (.int 4) = some (.int (i.fmod 4)) := fun i => dMod_i _ _ (by decide)
  obtain ⟨env2, h2, ks, a2, hks, hrest, hkok, rfl⟩ := forL_all (g := gN 4) (body := (mApp 3 (eTup (aCons (eOp dIx (eLst (aCons (eC (.str "a")) (aCons (eC (.str "b")) (aCons (eC (.str "c")) (aCons (eC (.str "d")) aNil))))) (eV 4)) (aCons (eOp dIx (eLst (aCons (eC (.str "int")) (aCons (eC (.str "flag")) (aCons (eC (.str "text")) (aCons (eC (.str "int")) aNil))))) (eOp dMod (eCB dInt (aCons (eOp dAdd (eV 4) (eCall 2 m__law_next (rIo 0 (rSh (eC (.int 3)) rNil)))) aNil)) (eC (.int 4)))) aNil))))) (clr := [4])
    (fun xs env => ∃ (ks : List String) (a : Nat), ks.length + xs.length = M ∧ xs = (List.range' ks.length xs.length).map (fun (k : Nat) => D.int (k : Int)) ∧ (∀ k ∈ ks, Kd k) ∧ env = [some (.own true (stD L a)), some (.own false (.lst (ds.map dimD))), none, some (.own false (.lst (attrsD ks))), none, none])
    (by
      rintro x xs env ⟨ks, a, hks, hx, hok, rfl⟩
      rw [List.length_cons, List.range'_succ, List.map_cons] at hx
      obtain ⟨rfl, hx2⟩ := List.cons.inj hx
      rw [List.length_cons] at hks
      have m3 := next_eq (a := a) h0 hl (show (0 : Int) < 3 by decide)
      have b3 := nv_ge (nums := L) (a := a) (show (0 : Int) < 3 by decide)
      have hk4 : ks.length < 4 := by omega
      have e1 : dIx (.lst [.str (Str.ofString "a"), .str (Str.ofString "b"), .str (Str.ofString "c"), .str (Str.ofString "d")]) (.int ks.length) = some (.str (Str.ofString (abcd.getD ks.length ""))) := by
        generalize ks.length = q at hk4
        match q, hk4 with
        | 0, _ => rfl
        | 1, _ => rfl
        | 2, _ => rfl
        | 3, _ => rfl
      obtain ⟨z, e2, k, rfl, e3⟩ := dIx_all (P := fun z => ∃ k, z = .str (Str.ofString k) ∧ Kd k) (xs := [.str (Str.ofString "int"), .str (Str.ofString "flag"), .str (Str.ofString "text"), .str (Str.ofString "int")]) (by
        intro x hx
        simp only [List.mem_cons, List.not_mem_nil, or_false] at hx
        rcases hx with rfl | rfl | rfl | rfl
        · exact ⟨_, rfl, .inl rfl⟩
        · exact ⟨_, rfl, .inr (.inl rfl)⟩
        · exact ⟨_, rfl, .inr (.inr rfl)⟩
        · exact ⟨_, rfl, .inl rfl⟩) (i := ((ks.length : Int) + nv L a 3).fmod 4) (Int.fmod_nonneg_of_pos _ (by decide)) (Int.fmod_lt_of_pos _ (by decide))
      have hl2 : (attrsD ks).length < 16777216 := by
        unfold attrsD
        rw [List.length_map, List.length_zip]
        have : abcd.length = 4 := rfl
        omega
      simp [callR, rIo, getOwn, getOwnL, ioIx, slotsOf, putOuts, m3, eV, mApp, hl2, clrE, e1, i4, e2]
      refine ⟨ks ++ [k], ?_, ?_, ?_, ⟨_, rfl⟩, by rw [attrsD_snoc ks k hk4]; simp [attrD]⟩
      · simp; omega
      · rw [List.length_append]; exact hx2
      · intro y hy
        rcases List.mem_append.mp hy with h | h
        · exact hok y h
        · cases List.mem_singleton.mp h; exact e3) (rngD 0 M) [some (.own true (stD L (a1 + 1))), some (.own false (.lst (ds.map dimD))), none, some (.own false (.lst [])), none, none] ⟨[], a1 + 1, by rw [rg]; simp, by rw [rg]; simp, by simp, rfl⟩
  refine ⟨ds, ks, a2, ?_, ⟨by simp at hds; omega, by simp at hds; omega, hdok, by simp at hks; omega, by simp at hks; omega, hkok⟩⟩
  simp [m__law_shape, runF, b__law_shape, argsE, callR, rIo, getOwn, getOwnL, ioIx, slotsOf, putOuts, n3, sl, h1, k4, iR1F_ok s62, hM]
  simp [h2, newR, ioIx, slotsOf, eTupO, getOwnL, getOwn, init_eq, outsAt, shD]
end
end Mi

namespace Mi
open PySem L2
/-- a value of a kind -/
def KV (k : String) (v : D) : Prop := (k = "int" ∧ ∃ i, v = .int i ∧ -10 ^ 30 < i ∧ i < 10 ^ 30) ∨ (k = "flag" ∧ ∃ b, v = .bl b) ∨ (k = "text" ∧ ∃ s, v = .str s ∧ OkS s ∧ s.length ≤ 200)
/-- or none -/
def VK (k : String) (v : D) : Prop := v = .non ∨ KV k v
inductive RkV : List String → List D → Prop
  | nil : RkV [] []
  | cons {k : String} {v : D} {ks : List String} {vs : List D} : VK k v → RkV ks vs → RkV (k :: ks) (v :: vs)
theorem RkV.snoc : ∀ {ks : List String} {vs : List D} {k : String} {v : D}, RkV ks vs → VK k v → RkV (ks ++ [k]) (vs ++ [v])
  | _, _, _, _, .nil, h => .cons h .nil
  | _, _, _, _, .cons h r, g => .cons h (RkV.snoc r g)
theorem RkV.length : ∀ {ks : List String} {vs : List D}, RkV ks vs → vs.length = ks.length
  | _, _, .nil => rfl
  | _, _, .cons _ r => by simp [RkV.length r]
theorem RkV.get : ∀ {ks : List String} {vs : List D} {i : Nat} {k : String}, RkV ks vs → ks[i]? = some k → ∃ v, vs[i]? = some v ∧ VK k v
  | _, _, _, _, .nil, h => by simp at h
  | _, _, 0, _, .cons h r, e => by cases e; exact ⟨_, rfl, h⟩
  | _, _, i + 1, _, .cons h r, e => RkV.get (i := i) r (by simpa using e)
section
variable {L : List Int} (h0 : 0 < L.length) (hl : L.length ≤ 100000)
include h0 hl
theorem thing_k {k : String} (hk : Kd k) (a : Nat) : ∃ d a', m__law_thing [.own true (stD L a), .shr (.str (Str.ofString k))] = .ret false d [stD L a'] ∧ KV k d := by
  rcases hk with rfl | rfl | rfl
  · obtain ⟨n, a', e, h1, h2⟩ := thing_int h0 hl a
    exact ⟨_, a', e, .inl ⟨rfl, n, rfl, h1, h2⟩⟩
  · obtain ⟨n, a', e⟩ := thing_flag h0 hl a
    exact ⟨_, a', e, .inr (.inl ⟨rfl, n, rfl⟩)⟩
  · obtain ⟨s, a', e, h1, h2⟩ := thing_text h0 hl a
    exact ⟨_, a', e, .inr (.inr ⟨rfl, s, rfl, h1, h2⟩)⟩
theorem place_eq {ds : List Dm} (hd : ∀ d ∈ ds, Dm.ok d) (hl3 : ds.length ≤ 1000) (a : Nat) : ∃ (ps : List D) (a' : Nat), m__law_place [.own true (stD L a), .shr (.tup (ds.map dimD))] = .ret false (.tup ps) [stD L a'] ∧ ps.length = ds.length ∧ ∀ p ∈ ps, ∃ i : Int, p = .int i ∧ -10 ≤ i ∧ i ≤ 10 := by
  obtain ⟨qs, env', h1, ⟨_, a', rfl⟩, h3, h4⟩ := lc_allG (g := gT [gN 2, gN 3, gN 4, gN 5]) (m := (eOp dAdd (eV 3) (eCall 2 m__law_next (rIo 0 (rSh (eOp dAdd (eOp dSub (eV 4) (eV 3)) (eC (.int 1))) rNil))))) (vs := [2, 3, 4, 5])
    (fun xs env => (∀ x ∈ xs, ∃ d, x = dimD d ∧ Dm.ok d) ∧ ∃ a : Nat, env = [some (.own true (stD L a)), some (.shr (.tup (ds.map dimD))), none, none, none, none]) (fun d => ∃ i : Int, d = .int i ∧ -10 ≤ i ∧ i ≤ 10)
    (by
      rintro x xs env ⟨hx, a, rfl⟩
      obtain ⟨d, rfl, hok⟩ := hx _ List.mem_cons_self
      have hr := fun y hy => hx y (List.mem_cons_of_mem _ hy)
      obtain ⟨o1, o2, o3, o4, _, _⟩ := hok
      have hb : 0 < d.hi - d.lo + 1 := by omega
      have n1 := next_eq (a := a) h0 hl hb
      have g1 := nv_ge (nums := L) (a := a) hb
      have u1 := nv_lt (nums := L) (a := a) hb
      refine ⟨_, rfl, ?_⟩
      simp [gN, eV, callR, rIo, getOwn, ioIx, slotsOf, putOuts, n1, wipeE]
      exact ⟨⟨by omega, by omega⟩, hr, _, rfl⟩) (ds.map dimD) [some (.own true (stD L a)), some (.shr (.tup (ds.map dimD))), none, none, none, none]
    ⟨by intro x hx; obtain ⟨d, hd1, rfl⟩ := List.mem_map.mp hx; exact ⟨d, rfl, hd d hd1⟩, a, rfl⟩
  refine ⟨qs, a', ?_, by rw [h4, List.length_map], h3⟩
  have l2 : ds.length ≤ 16777216 := by omega
  simp [m__law_place, runF, b__law_place, argsE, eV, lcR, l2, wipeE, backE, h1, dTupOf_l, outsAt]
theorem values_eq {ks : List String} (hk : ∀ k ∈ ks, Kd k) (h4 : ks.length ≤ 4) {few : Int} (hf : 0 < few) (a : Nat) : ∃ (vs : List D) (a' : Nat), m__law_values [.own true (stD L a), .shr (.tup (attrsD ks)), .shr (.int few)] = .ret false (.tup vs) [stD L a'] ∧ RkV ks vs := by
  have hz : (abcd.zip ks).map Prod.snd = ks := List.map_snd_zip (by show ks.length ≤ 4; exact h4)
  obtain ⟨env', h1, a', pre, rest, vs, hr, hpre, hv, rfl⟩ := forL_all (g := gT [gN 4, gN 5]) (body := (mSeq (mSet 6 (eC .non)) (mSeq (mIf (eTest (eOp dGt (eCall 2 m__law_next (rIo 0 (rSh (eV 2) rNil))) (eC (.int 0)))) (mSet 6 (eCall 2 m__law_thing (rIo 0 (rSh (eV 5) rNil)))) mNx) (mApp 3 (eV 6))))) (clr := [4, 5, 6])
    (fun xs env => ∃ (a : Nat) (pre rest : List (String × String)) (vs : List D), xs = rest.map attrD ∧ pre ++ rest = abcd.zip ks ∧ RkV (pre.map Prod.snd) vs ∧ env = [some (.own true (stD L a)), some (.shr (.tup (attrsD ks))), some (.shr (.int few)), some (.own false (.lst vs)), none, none, none])
    (by
      rintro x xs env ⟨a, pre, rest, vs, hr, hpre, hv, rfl⟩
      cases rest with
      | nil => cases hr
      | cons p rest =>
        obtain ⟨rfl, rfl⟩ := List.cons.inj hr
        have hkp : Kd p.2 := hk p.2 (by rw [← hz, ← hpre]; simp)
        have hvl : vs.length < 16777216 := by
          rw [hv.length, List.length_map]
          have := congrArg List.length hpre
          rw [List.length_append, List.length_zip] at this
          simp only [List.length_cons] at this
          omega
        have n1 := next_eq (a := a) h0 hl hf
        obtain ⟨d, a2, e1, e2⟩ := thing_k h0 hl hkp (a + 1)
        have hp2 : (pre ++ [p]) ++ rest = abcd.zip ks := by rw [← hpre]; simp
        by_cases c : 0 < nv L a few
        · simp [Tn, gT, gAll, gN, attrD, eV, callR, rIo, getOwn, getOwnL, ioIx, slotsOf, putOuts, n1, c, e1, mApp, hvl, clrE]
          exact ⟨_, pre ++ [p], rest, rfl, hp2, by rw [List.map_append]; exact hv.snoc (.inr e2), rfl⟩
        · simp [Tn, gT, gAll, gN, attrD, eV, callR, rIo, getOwn, getOwnL, ioIx, slotsOf, putOuts, n1, c, mApp, hvl, clrE]
          exact ⟨_, pre ++ [p], rest, rfl, hp2, by rw [List.map_append]; exact hv.snoc (.inl rfl), rfl⟩)
    (attrsD ks) [some (.own true (stD L a)), some (.shr (.tup (attrsD ks))), some (.shr (.int few)), some (.own false (.lst [])), none, none, none] ⟨a, [], abcd.zip ks, [], rfl, rfl, .nil, rfl⟩
  have hn : rest = [] := by
    cases rest with
    | nil => rfl
    | cons _ _ => cases hr
  subst hn
  rw [List.append_nil] at hpre
  rw [hpre, hz] at hv
  refine ⟨vs, a', ?_, hv⟩
  simp [m__law_values, runF, b__law_values, argsE, eV, h1, eTupO, getOwnL, getOwn, outsAt]
end
end Mi

namespace Mi
open PySem L2
theorem toVs_strs : ∀ ns : List String, toVs (ns.map fun n => D.str (Str.ofString n)) = some (ns.map fun n => V.str (Str.ofString n))
  | [] => rfl
  | n :: ns => by
    show ((toV (.str (Str.ofString n))).bind fun v => (toVs (ns.map _)).map (v :: ·)) = _
    rw [toVs_strs ns]; rfl
theorem inV_strs (w : String) : ∀ ns : List String, inV (.str (Str.ofString w)) (ns.map fun n => V.str (Str.ofString n)) = ns.any fun n => decide (n = w)
  | [] => rfl
  | n :: ns => by
    have ih := inV_strs w ns
    unfold inV at ih ⊢
    rw [List.map_cons, List.any_cons, List.any_cons, ih]
    congr 1
    show (Str.ofString n == Str.ofString w) = _
    by_cases c : n = w
    · subst c; simp
    · rw [decide_eq_false c, beq_eq_false_iff_ne]
      intro h
      exact c (ofString_inj.mp h)
theorem dIn_t (w : String) (ns : List String) : dIn (.str (Str.ofString w)) (.tup (ns.map fun n => D.str (Str.ofString n))) = some (.bl (ns.any fun n => decide (n = w))) := by
  simp only [dIn, seqD, toV, Option.bind_some, toVs_strs, Option.map_some, inV_strs]
theorem dIn_l (w : String) (ns : List String) : dIn (.str (Str.ofString w)) (.lst (ns.map fun n => D.str (Str.ofString n))) = some (.bl (ns.any fun n => decide (n = w))) := dIn_t w ns
theorem dIn_f (w : String) (ns : List String) : dIn (.str (Str.ofString w)) (.ftp (ns.map fun n => D.str (Str.ofString n))) = some (.bl (ns.any fun n => decide (n = w))) := dIn_t w ns
def bd (i : Int) : D := if -1000000000000000000000000000000 < i ∧ i < 1000000000000000000000000000000 then .int i else .non
theorem bounded_eq (i : Int) : m_bounded [.shr (.int i)] = .ret false (bd i) [] := by
  have ng : ∀ i, dNeg (.int i) = some (.int (-i)) := fun _ => rfl
  unfold bd
  by_cases c : -1000000000000000000000000000000 < i
  · by_cases d : i < 1000000000000000000000000000000
    · simp [m_bounded, runF, b_bounded, argsE, eV, outsAt, ng, c, d]
    · simp [m_bounded, runF, b_bounded, argsE, eV, outsAt, ng, c, d]
  · simp [m_bounded, runF, b_bounded, argsE, eV, outsAt, ng, c]
theorem bd_VK (i : Int) : VK "int" (bd i) := by
  unfold bd
  split
  · rename_i h; exact .inr (.inl ⟨rfl, i, rfl, h.1, h.2⟩)
  · exact .inl rfl
def ArW (w : String) : Prop := w = "add" ∨ w = "sub" ∨ w = "mul" ∨ w = "div" ∨ w = "mod"
def CmW (w : String) : Prop := w = "eq" ∨ w = "ne" ∨ w = "lt" ∨ w = "le" ∨ w = "gt" ∨ w = "ge"
/-- the choice of None or the number -/
theorem pick2 (x : D) (b : Bool) : dIx (.lst [.non, x]) (.int (if b then 1 else 0)) = some (if b then x else .non) := by
  cases b <;> rfl
theorem dInt_b (b : Bool) : dInt [.bl b] = some (.int (if b then 1 else 0)) := rfl
theorem fdiv_small (i j : Int) (h1 : -10 ^ 30 < i) (h2 : i < 10 ^ 30) : (i.fdiv j).natAbs < 2 ^ 200 := by
  have a := Int.natAbs_ediv_le_natAbs i j
  rw [Int.fdiv_eq_ediv]
  split <;> omega
theorem arith_eq {w : String} (hw : ArW w) {i j : Int} (i1 : -10 ^ 30 < i) (i2 : i < 10 ^ 30) (j1 : -10 ^ 30 < j) (j2 : j < 10 ^ 30) : ∃ v, VK "int" v ∧ m__arithmetic [.shr (.str (Str.ofString w)), .shr (.int i), .shr (.int j)] = .ret false v [] ∧ m__law_pair [.shr (.str (Str.ofString w)), .shr (.int i), .shr (.int j)] = .ret false v [] := by
  have p30 : dPow (.int 10) (.int 30) = some (.int 1000000000000000000000000000000) := rfl
  have ng : ∀ i, dNeg (.int i) = some (.int (-i)) := fun _ => rfl
  have c6 : ∀ w : String, dIn (.str (Str.ofString w)) (.lst [.str (Str.ofString "eq"), .str (Str.ofString "ne"), .str (Str.ofString "lt"), .str (Str.ofString "le"), .str (Str.ofString "gt"), .str (Str.ofString "ge")]) = some (.bl (["eq", "ne", "lt", "le", "gt", "ge"].any fun n => decide (n = w))) := fun w => dIn_l w ["eq", "ne", "lt", "le", "gt", "ge"]
  have c2 : ∀ w : String, dIn (.str (Str.ofString w)) (.lst [.str (Str.ofString "div"), .str (Str.ofString "mod")]) = some (.bl (["div", "mod"].any fun n => decide (n = w))) := fun w => dIn_l w ["div", "mod"]
  have mm : dMul (.int i) (.int j) = some (.int (i * j)) := dMul_i _ _ (by omega) (by omega)
  have z0 : ∀ x : D, dIx (.lst [.non, x]) (.int 0) = some .non := fun _ => rfl
  have z1 : ∀ x : D, dIx (.lst [.non, x]) (.int 1) = some x := fun _ => rfl
  have go : ∀ z : Int, (v : D) → (v = bd z) → VK "int" v := fun z v h => by rw [h]; exact bd_VK z
  rcases hw with rfl | rfl | rfl | rfl | rfl
  · refine ⟨bd (i + j), bd_VK _, by simp [m__arithmetic, runF, b__arithmetic, argsE, eV, outsAt, callR, ioIx, slotsOf, putOuts, bounded_eq], ?_⟩
    by_cases k1 : -1000000000000000000000000000000 < i + j
    · by_cases k3 : i + j < 1000000000000000000000000000000
      · simp [m__law_pair, runF, b__law_pair, argsE, eV, outsAt, c6, c2, eDGet, eDisp, pDisp, dPutL, ofString_inj, dGet, dLook_cons, mm, p30, ng, k1, k3, dInt_b, z0, z1, bd]
      · simp [m__law_pair, runF, b__law_pair, argsE, eV, outsAt, c6, c2, eDGet, eDisp, pDisp, dPutL, ofString_inj, dGet, dLook_cons, mm, p30, ng, k1, k3, dInt_b, z0, z1, bd]
    · simp [m__law_pair, runF, b__law_pair, argsE, eV, outsAt, c6, c2, eDGet, eDisp, pDisp, dPutL, ofString_inj, dGet, dLook_cons, mm, p30, ng, k1, dInt_b, z0, z1, bd]
  · refine ⟨bd (i - j), bd_VK _, by simp [m__arithmetic, runF, b__arithmetic, argsE, eV, outsAt, callR, ioIx, slotsOf, putOuts, bounded_eq], ?_⟩
    by_cases k1 : -1000000000000000000000000000000 < i - j
    · by_cases k3 : i - j < 1000000000000000000000000000000
      · simp [m__law_pair, runF, b__law_pair, argsE, eV, outsAt, c6, c2, eDGet, eDisp, pDisp, dPutL, ofString_inj, dGet, dLook_cons, mm, p30, ng, k1, k3, dInt_b, z0, z1, bd]
      · simp [m__law_pair, runF, b__law_pair, argsE, eV, outsAt, c6, c2, eDGet, eDisp, pDisp, dPutL, ofString_inj, dGet, dLook_cons, mm, p30, ng, k1, k3, dInt_b, z0, z1, bd]
    · simp [m__law_pair, runF, b__law_pair, argsE, eV, outsAt, c6, c2, eDGet, eDisp, pDisp, dPutL, ofString_inj, dGet, dLook_cons, mm, p30, ng, k1, dInt_b, z0, z1, bd]
  · refine ⟨bd (i * j), bd_VK _, by simp [m__arithmetic, runF, b__arithmetic, argsE, eV, outsAt, callR, ioIx, slotsOf, putOuts, bounded_eq, mm], ?_⟩
    by_cases k1 : -1000000000000000000000000000000 < i * j
    · by_cases k3 : i * j < 1000000000000000000000000000000
      · simp [m__law_pair, runF, b__law_pair, argsE, eV, outsAt, c6, c2, eDGet, eDisp, pDisp, dPutL, ofString_inj, dGet, dLook_cons, mm, p30, ng, mm, k1, k3, dInt_b, z0, z1, bd]
      · simp [m__law_pair, runF, b__law_pair, argsE, eV, outsAt, c6, c2, eDGet, eDisp, pDisp, dPutL, ofString_inj, dGet, dLook_cons, mm, p30, ng, mm, k1, k3, dInt_b, z0, z1, bd]
    · simp [m__law_pair, runF, b__law_pair, argsE, eV, outsAt, c6, c2, eDGet, eDisp, pDisp, dPutL, ofString_inj, dGet, dLook_cons, mm, p30, ng, mm, k1, dInt_b, z0, z1, bd]
  · by_cases j0 : j = 0
    · subst j0
      exact ⟨.non, .inl rfl, by simp [m__arithmetic, runF, b__arithmetic, argsE, eV, outsAt, callR, ioIx, slotsOf, putOuts, bounded_eq], by simp [m__law_pair, runF, b__law_pair, argsE, eV, outsAt, c6, c2, eDGet, eDisp, pDisp, dPutL, ofString_inj, dGet, dLook_cons, mm, p30, ng, dInt_b, z0, z1, bd]⟩
    · have dd := dDiv_i i j j0 (Nat.lt_trans (log2_lt (k := 200) (by omega) (by decide)) (by decide))
      refine ⟨bd (i.fdiv j), bd_VK _, by simp [m__arithmetic, runF, b__arithmetic, argsE, eV, outsAt, callR, ioIx, slotsOf, putOuts, bounded_eq, dd, j0], ?_⟩
      by_cases k1 : -1000000000000000000000000000000 < i.fdiv j
      · by_cases k3 : i.fdiv j < 1000000000000000000000000000000
        · simp [m__law_pair, runF, b__law_pair, argsE, eV, outsAt, c6, c2, eDGet, eDisp, pDisp, dPutL, ofString_inj, dGet, dLook_cons, mm, p30, ng, dd, j0, k1, k3, dInt_b, z0, z1, bd]
        · simp [m__law_pair, runF, b__law_pair, argsE, eV, outsAt, c6, c2, eDGet, eDisp, pDisp, dPutL, ofString_inj, dGet, dLook_cons, mm, p30, ng, dd, j0, k1, k3, dInt_b, z0, z1, bd]
      · simp [m__law_pair, runF, b__law_pair, argsE, eV, outsAt, c6, c2, eDGet, eDisp, pDisp, dPutL, ofString_inj, dGet, dLook_cons, mm, p30, ng, dd, j0, k1, dInt_b, z0, z1, bd]
  · by_cases j0 : j = 0
    · subst j0
      exact ⟨.non, .inl rfl, by simp [m__arithmetic, runF, b__arithmetic, argsE, eV, outsAt, callR, ioIx, slotsOf, putOuts, bounded_eq], by simp [m__law_pair, runF, b__law_pair, argsE, eV, outsAt, c6, c2, eDGet, eDisp, pDisp, dPutL, ofString_inj, dGet, dLook_cons, mm, p30, ng, dInt_b, z0, z1, bd]⟩
    · have dd := dDiv_i i j j0 (Nat.lt_trans (log2_lt (k := 200) (by omega) (by decide)) (by decide))
      have dm := dMod_i i j j0
      have m2 : dMul (.int j) (.int (i.fdiv j)) = some (.int (j * i.fdiv j)) := dMul_i _ _ (by omega) (fdiv_small i j i1 i2)
      have fm : i - j * i.fdiv j = i.fmod j := (Int.fmod_def i j).symm
      refine ⟨bd (i.fmod j), bd_VK _, by simp [m__arithmetic, runF, b__arithmetic, argsE, eV, outsAt, callR, ioIx, slotsOf, putOuts, bounded_eq, dd, j0, dm, m2, fm], ?_⟩
      by_cases k1 : -1000000000000000000000000000000 < i.fmod j
      · by_cases k3 : i.fmod j < 1000000000000000000000000000000
        · simp [m__law_pair, runF, b__law_pair, argsE, eV, outsAt, c6, c2, eDGet, eDisp, pDisp, dPutL, ofString_inj, dGet, dLook_cons, mm, p30, ng, dd, j0, dm, m2, fm, k1, k3, dInt_b, z0, z1, bd]
        · simp [m__law_pair, runF, b__law_pair, argsE, eV, outsAt, c6, c2, eDGet, eDisp, pDisp, dPutL, ofString_inj, dGet, dLook_cons, mm, p30, ng, dd, j0, dm, m2, fm, k1, k3, dInt_b, z0, z1, bd]
      · simp [m__law_pair, runF, b__law_pair, argsE, eV, outsAt, c6, c2, eDGet, eDisp, pDisp, dPutL, ofString_inj, dGet, dLook_cons, mm, p30, ng, dd, j0, dm, m2, fm, k1, dInt_b, z0, z1, bd]
end Mi

namespace Mi
open PySem L2
/-- all six tests of two values answer -/
theorem six_eq {x y : D} {b1 b2 b3 b4 b5 b6 : Bool} (e1 : dEq x y = some (.bl b1)) (e2 : dNe x y = some (.bl b2)) (e3 : dLt x y = some (.bl b3)) (e4 : dLe x y = some (.bl b4)) (e5 : dGt x y = some (.bl b5)) (e6 : dGe x y = some (.bl b6)) {w : String} (hw : CmW w) :
    ∃ b, m_compared [.shr (.str (Str.ofString w)), .shr x, .shr y] = .ret false (.bl b) [] ∧ m__law_pair [.shr (.str (Str.ofString w)), .shr x, .shr y] = .ret false (.bl b) [] := by
  have c6 : ∀ w : String, dIn (.str (Str.ofString w)) (.lst [.str (Str.ofString "eq"), .str (Str.ofString "ne"), .str (Str.ofString "lt"), .str (Str.ofString "le"), .str (Str.ofString "gt"), .str (Str.ofString "ge")]) = some (.bl (["eq", "ne", "lt", "le", "gt", "ge"].any fun n => decide (n = w))) := fun w => dIn_l w ["eq", "ne", "lt", "le", "gt", "ge"]
  rcases hw with rfl | rfl | rfl | rfl | rfl | rfl
  · exact ⟨b1, by simp [m_compared, runF, b_compared, argsE, eV, outsAt, e1, e2, e3, e4, e5, e6], by simp [m__law_pair, runF, b__law_pair, argsE, eV, outsAt, c6, eDGet, eDisp, pDisp, dPutL, ofString_inj, dGet, dLook_cons, e1, e2, e3, e4, e5, e6]⟩
  · exact ⟨b2, by simp [m_compared, runF, b_compared, argsE, eV, outsAt, e1, e2, e3, e4, e5, e6], by simp [m__law_pair, runF, b__law_pair, argsE, eV, outsAt, c6, eDGet, eDisp, pDisp, dPutL, ofString_inj, dGet, dLook_cons, e1, e2, e3, e4, e5, e6]⟩
  · exact ⟨b3, by simp [m_compared, runF, b_compared, argsE, eV, outsAt, e1, e2, e3, e4, e5, e6], by simp [m__law_pair, runF, b__law_pair, argsE, eV, outsAt, c6, eDGet, eDisp, pDisp, dPutL, ofString_inj, dGet, dLook_cons, e1, e2, e3, e4, e5, e6]⟩
  · exact ⟨b4, by simp [m_compared, runF, b_compared, argsE, eV, outsAt, e1, e2, e3, e4, e5, e6], by simp [m__law_pair, runF, b__law_pair, argsE, eV, outsAt, c6, eDGet, eDisp, pDisp, dPutL, ofString_inj, dGet, dLook_cons, e1, e2, e3, e4, e5, e6]⟩
  · exact ⟨b5, by simp [m_compared, runF, b_compared, argsE, eV, outsAt, e1, e2, e3, e4, e5, e6], by simp [m__law_pair, runF, b__law_pair, argsE, eV, outsAt, c6, eDGet, eDisp, pDisp, dPutL, ofString_inj, dGet, dLook_cons, e1, e2, e3, e4, e5, e6]⟩
  · exact ⟨b6, by simp [m_compared, runF, b_compared, argsE, eV, outsAt, e1, e2, e3, e4, e5, e6], by simp [m__law_pair, runF, b__law_pair, argsE, eV, outsAt, c6, eDGet, eDisp, pDisp, dPutL, ofString_inj, dGet, dLook_cons, e1, e2, e3, e4, e5, e6]⟩
theorem comp_eq {w k : String} (hw : CmW w) {x y : D} (hx : KV k x) (hy : KV k y) : ∃ b, m_compared [.shr (.str (Str.ofString w)), .shr x, .shr y] = .ret false (.bl b) [] ∧ m__law_pair [.shr (.str (Str.ofString w)), .shr x, .shr y] = .ret false (.bl b) [] := by
  rcases hx with ⟨rfl, i, rfl, _, _⟩ | ⟨rfl, i, rfl⟩ | ⟨rfl, i, rfl, o1, _⟩
  · rcases hy with ⟨_, j, rfl, _, _⟩ | ⟨h, _⟩ | ⟨h, _⟩
    · exact six_eq (dEq_i i j) (dNe_i i j) (dOrd_i _ _ i j) (dOrd_i _ _ i j) (dOrd_i _ _ i j) (dOrd_i _ _ i j) hw
    · exact absurd h (by decide)
    · exact absurd h (by decide)
  · rcases hy with ⟨h, _⟩ | ⟨_, j, rfl⟩ | ⟨h, _⟩
    · exact absurd h (by decide)
    · exact six_eq (dEq_b i j) (dNe_b i j) (dOrd_b _ _ i j) (dOrd_b _ _ i j) (dOrd_b _ _ i j) (dOrd_b _ _ i j) hw
    · exact absurd h (by decide)
  · rcases hy with ⟨h, _⟩ | ⟨h, _⟩ | ⟨_, j, rfl, o2, _⟩
    · exact absurd h (by decide)
    · exact absurd h (by decide)
    · exact six_eq (dEq_s o1.ok o2.ok) (dNe_s o1.ok o2.ok) (dOrd_s _ _ i j) (dOrd_s _ _ i j) (dOrd_s _ _ i j) (dOrd_s _ _ i j) hw
theorem joined_eq {s t : Str} (o1 : OkS s) (l1 : s.length ≤ 200) (o2 : OkS t) (l2 : t.length ≤ 200) : ∃ v, VK "text" v ∧ m__strict [.shr (.str (Str.ofString "joined")), .shr (.lst [.str s, .str t])] = .ret false v [] ∧ m__law_pair [.shr (.str (Str.ofString "joined")), .shr (.str s), .shr (.str t)] = .ret false v [] := by
  have ha : dAdd (.str s) (.str t) = some (.str (s ++ t)) := if_pos (by omega)
  have le : (s ++ t).length ≤ 400 := by rw [len_append]; omega
  have ln : dLen [.str (s ++ t)] = some (.int (s ++ t).length) := dLen_s _ (by omega)
  have z0 : ∀ x y : D, dIx (.lst [x, y]) (.int 0) = some x := fun _ _ => rfl
  have z1 : ∀ x y : D, dIx (.lst [x, y]) (.int 1) = some y := fun _ _ => rfl
  have a1 : dIn (.str (Str.ofString "joined")) k_ARITHMETIC = some (.bl false) := dIn_f "joined" ["add", "sub", "mul", "div", "mod"]
  have a2 : dIn (.str (Str.ofString "joined")) k_COMPARISONS = some (.bl false) := dIn_f "joined" ["eq", "ne", "lt", "le", "gt", "ge"]
  by_cases c : (s ++ t).length ≤ 200
  · have c1 : ((s ++ t).length : Int) ≤ 200 := by omega
    have c2 : ¬ (200 : Int) < ((s ++ t).length : Int) := by omega
    refine ⟨.str (s ++ t), .inr (.inr (.inr ⟨rfl, _, rfl, o1.append o2, c⟩)), ?_, ?_⟩
    · simp [m__strict, runF, b__strict, argsE, eV, outsAt, a1, a2, z0, z1, ha, ln, c1]
    · simp [m__law_pair, runF, b__law_pair, argsE, eV, outsAt, z0, z1, ha, ln, c1, c2, dInt_b]
  · have c1 : ¬ ((s ++ t).length : Int) ≤ 200 := by omega
    have c2 : (200 : Int) < ((s ++ t).length : Int) := by omega
    refine ⟨.non, .inl rfl, ?_, ?_⟩
    · simp [m__strict, runF, b__strict, argsE, eV, outsAt, a1, a2, z0, z1, ha, ln, c1]
    · simp [m__law_pair, runF, b__law_pair, argsE, eV, outsAt, z0, z1, ha, ln, c1, c2, dInt_b]
/-- strict words of two parts -/
theorem strict_ar {w : String} (hw : ArW w) {i j : Int} (i1 : -10 ^ 30 < i) (i2 : i < 10 ^ 30) (j1 : -10 ^ 30 < j) (j2 : j < 10 ^ 30) : ∃ v, VK "int" v ∧ m__strict [.shr (.str (Str.ofString w)), .shr (.lst [.int i, .int j])] = .ret false v [] ∧ m__law_pair [.shr (.str (Str.ofString w)), .shr (.int i), .shr (.int j)] = .ret false v [] := by
  obtain ⟨v, h1, h2, h3⟩ := arith_eq hw i1 i2 j1 j2
  have a1 : dIn (.str (Str.ofString w)) k_ARITHMETIC = some (.bl (["add", "sub", "mul", "div", "mod"].any fun n => decide (n = w))) := dIn_f w ["add", "sub", "mul", "div", "mod"]
  have a3 : (["add", "sub", "mul", "div", "mod"].any fun n => decide (n = w)) = true := by rcases hw with rfl | rfl | rfl | rfl | rfl <;> decide
  rw [a3] at a1
  have z0 : ∀ x y : D, dIx (.lst [x, y]) (.int 0) = some x := fun _ _ => rfl
  have z1 : ∀ x y : D, dIx (.lst [x, y]) (.int 1) = some y := fun _ _ => rfl
  exact ⟨v, h1, by simp [m__strict, runF, b__strict, argsE, eV, outsAt, a1, z0, z1, callR, ioIx, slotsOf, putOuts, h2], h3⟩
theorem strict_cm {w k : String} (hw : CmW w) {x y : D} (hx : KV k x) (hy : KV k y) : ∃ b, m__strict [.shr (.str (Str.ofString w)), .shr (.lst [x, y])] = .ret false (.bl b) [] ∧ m__law_pair [.shr (.str (Str.ofString w)), .shr x, .shr y] = .ret false (.bl b) [] := by
  obtain ⟨v, h2, h3⟩ := comp_eq hw hx hy
  have a1 : dIn (.str (Str.ofString w)) k_ARITHMETIC = some (.bl (["add", "sub", "mul", "div", "mod"].any fun n => decide (n = w))) := dIn_f w ["add", "sub", "mul", "div", "mod"]
  have a3 : (["add", "sub", "mul", "div", "mod"].any fun n => decide (n = w)) = false := by rcases hw with rfl | rfl | rfl | rfl | rfl | rfl <;> decide
  rw [a3] at a1
  have b1 : dIn (.str (Str.ofString w)) k_COMPARISONS = some (.bl (["eq", "ne", "lt", "le", "gt", "ge"].any fun n => decide (n = w))) := dIn_f w ["eq", "ne", "lt", "le", "gt", "ge"]
  have b3 : (["eq", "ne", "lt", "le", "gt", "ge"].any fun n => decide (n = w)) = true := by rcases hw with rfl | rfl | rfl | rfl | rfl | rfl <;> decide
  rw [b3] at b1
  have z0 : ∀ x y : D, dIx (.lst [x, y]) (.int 0) = some x := fun _ _ => rfl
  have z1 : ∀ x y : D, dIx (.lst [x, y]) (.int 1) = some y := fun _ _ => rfl
  exact ⟨v, by simp [m__strict, runF, b__strict, argsE, eV, outsAt, a1, b1, z0, z1, callR, ioIx, slotsOf, putOuts, h2], h3⟩
end Mi

namespace Mi
open PySem L2
inductive Ex (ds : List Dm) (ks : List String) : String → D → Nat → Prop
  | attr {j : Nat} {p : String × String} (n : Nat) (h : (abcd.zip ks)[j]? = some p) : Ex ds ks p.2 (.tup [.str (Str.ofString "attr"), .str (Str.ofString p.1)]) n
  | dim {j : Nat} {d : Dm} (n : Nat) (h : ds[j]? = some d) : Ex ds ks "int" (.tup [.str (Str.ofString "dim"), .str (Str.ofString d.n)]) n
  | value {k : String} {v : D} (n : Nat) (hk : Kd k) (h : VK k v) : Ex ds ks k (.tup [.str (Str.ofString "value"), .str (Str.ofString k), v]) n
  | nt {a : D} {n : Nat} : Ex ds ks "flag" a n → Ex ds ks "flag" (.tup [.str (Str.ofString "not"), a]) (n + 1)
  | mis {k : String} {a : D} {n : Nat} (hk : Kd k) : Ex ds ks k a n → Ex ds ks "flag" (.tup [.str (Str.ofString "is missing"), a]) (n + 1)
  | len {a : D} {n : Nat} : Ex ds ks "text" a n → Ex ds ks "int" (.tup [.str (Str.ofString "length"), a]) (n + 1)
  | sgn {w : String} {a : D} {n : Nat} (hw : w = "neg" ∨ w = "abs") : Ex ds ks "int" a n → Ex ds ks "int" (.tup [.str (Str.ofString w), a]) (n + 1)
  | dec {w : String} {a b : D} {n : Nat} (hw : w = "and" ∨ w = "or") : Ex ds ks "flag" a n → Ex ds ks "flag" b n → Ex ds ks "flag" (.tup [.str (Str.ofString w), a, b]) (n + 1)
  | cmp {w k : String} {a b : D} {n : Nat} (hw : CmW w) (hk : Kd k) : Ex ds ks k a n → Ex ds ks k b n → Ex ds ks "flag" (.tup [.str (Str.ofString w), a, b]) (n + 1)
  | join {a b : D} {n : Nat} : Ex ds ks "text" a n → Ex ds ks "text" b n → Ex ds ks "text" (.tup [.str (Str.ofString "joined"), a, b]) (n + 1)
  | ar {w : String} {a b : D} {n : Nat} (hw : ArW w) : Ex ds ks "int" a n → Ex ds ks "int" b n → Ex ds ks "int" (.tup [.str (Str.ofString w), a, b]) (n + 1)
  | els {k : String} {a b : D} {n : Nat} (hk : Kd k) : Ex ds ks k a n → Ex ds ks k b n → Ex ds ks k (.tup [.str (Str.ofString "or else"), a, b]) (n + 1)
  | cond {k : String} {c a b : D} {n : Nat} (hk : Kd k) : Ex ds ks "flag" c n → Ex ds ks k a n → Ex ds ks k b n → Ex ds ks k (.tup [.str (Str.ofString "if"), c, a, b]) (n + 1)
theorem Ex.mono {ds : List Dm} {ks : List String} : ∀ {k : String} {d : D} {n : Nat}, Ex ds ks k d n → Ex ds ks k d (n + 1)
  | _, _, _, .attr n h => .attr _ h
  | _, _, _, .dim n h => .dim _ h
  | _, _, _, .value n hk h => .value _ hk h
  | _, _, _, .nt a => .nt a.mono
  | _, _, _, .mis hk a => .mis hk a.mono
  | _, _, _, .len a => .len a.mono
  | _, _, _, .sgn hw a => .sgn hw a.mono
  | _, _, _, .dec hw a b => .dec hw a.mono b.mono
  | _, _, _, .cmp hw hk a b => .cmp hw hk a.mono b.mono
  | _, _, _, .join a b => .join a.mono b.mono
  | _, _, _, .ar hw a b => .ar hw a.mono b.mono
  | _, _, _, .els hk a b => .els hk a.mono b.mono
  | _, _, _, .cond hk c a b => .cond hk c.mono a.mono b.mono
section
variable {ds : List Dm} {ks : List String} {pl vs : List D}
def argV (ds : List Dm) (ks : List String) (pl vs : List D) (d : D) : List Slot := [.shr d, .shr (shD ds ks), .shr (.tup pl), .shr (.tup vs)]
/-- both tell v -/
def Both (ds : List Dm) (ks : List String) (pl vs : List D) (n : Nat) (d v : D) : Prop := fam_value_of n (argV ds ks pl vs d) = .ret false v [] ∧ fam__law_value n (argV ds ks pl vs d) = .ret false v []
theorem l1_0 (x : D) : dIx (.lst [x]) (.int 0) = some x := rfl
theorem l2_0 (x y : D) : dIx (.lst [x, y]) (.int 0) = some x := rfl
theorem l2_1 (x y : D) : dIx (.lst [x, y]) (.int 1) = some y := rfl
theorem l3_0 (x y z : D) : dIx (.lst [x, y, z]) (.int 0) = some x := rfl
theorem l3_1 (x y z : D) : dIx (.lst [x, y, z]) (.int 1) = some y := rfl
theorem l3_2 (x y z : D) : dIx (.lst [x, y, z]) (.int 2) = some z := rfl
theorem t_0 (x : D) (xs : List D) : dIx (.tup (x :: xs)) (.int 0) = some x := by
  show atI _ _ = _
  rw [atI_get _ _ (by decide) (by simp <;> omega)]; rfl
theorem t_1 (x y : D) (xs : List D) : dIx (.tup (x :: y :: xs)) (.int 1) = some y := by
  show atI _ _ = _
  rw [atI_get _ _ (by decide) (by simp <;> omega)]; rfl
theorem t_2 (x y z : D) (xs : List D) : dIx (.tup (x :: y :: z :: xs)) (.int 2) = some z := by
  show atI _ _ = _
  rw [atI_get _ _ (by decide) (by simp <;> omega)]; rfl
theorem ao_t (w : String) : dIn (.str (Str.ofString w)) (.tup [.str (Str.ofString "and"), .str (Str.ofString "or")]) = some (.bl (["and", "or"].any fun n => decide (n = w))) := dIn_t w ["and", "or"]
theorem ao_l (w : String) : dIn (.str (Str.ofString w)) (.lst [.str (Str.ofString "and"), .str (Str.ofString "or")]) = some (.bl (["and", "or"].any fun n => decide (n = w))) := dIn_l w ["and", "or"]
theorem sl1 (x : D) (xs : List D) : dSl (.tup (x :: xs)) (some 1) none = some (.tup xs) := slT_drop1 x xs
/-- is None in it -/
def flatD : D → Bool
  | .non => true
  | .bl _ => true
  | .int _ => true
  | .str _ => true
  | _ => false
theorem VK.flat {k : String} {v : D} (h : VK k v) : flatD v = true := by
  rcases h with rfl | ⟨_, _, rfl, _⟩ | ⟨_, _, rfl⟩ | ⟨_, _, rfl, _⟩ <;> rfl
theorem non_in1 {x : D} (hx : flatD x = true) : dIn .non (.lst [x]) = some (.bl (isNon x)) := by
  cases x <;> first | rfl | cases hx
theorem non_in2 {x y : D} (hx : flatD x = true) (hy : flatD y = true) : dIn .non (.lst [x, y]) = some (.bl (isNon x || isNon y)) := by
  cases x <;> first | (cases hx; done) | (cases y <;> first | (cases hy; done) | rfl)
theorem case_not {a x : D} {n : Nat} (hx : VK "flag" x) (h : Both ds ks pl vs n a x) : ∃ v, VK "flag" v ∧ Both ds ks pl vs (n + 1) (.tup [.str (Str.ofString "not"), a]) v := by
  obtain ⟨h1, h2⟩ := h
  unfold argV at h1 h2
  have ni := non_in1 hx.flat
  rcases hx with rfl | ⟨h, _⟩ | ⟨_, b, rfl⟩ | ⟨h, _⟩
  · exact ⟨.non, .inl rfl, by simp [fam_value_of, runF, b_value_of, argsE, argV, eV, t_0, t_1, t_2, sl1, lcR, lcL, gN, wipeE, backE, callR, ioIx, slotsOf, putOuts, ao_t, outsAt, l1_0, l2_0, l2_1, l3_0, l3_1, l3_2, h1, ni], by simp [fam__law_value, runF, b__law_value, argsE, argV, eV, t_0, t_1, t_2, sl1, lcR, lcL, gN, wipeE, backE, callR, ioIx, slotsOf, putOuts, ao_l, outsAt, l1_0, l2_0, l2_1, l3_0, l3_1, l3_2, forL, dInt_b, h2, ni]⟩
  · exact absurd h (by decide)
  · exact ⟨.bl (!b), .inr (.inr (.inl ⟨rfl, _, rfl⟩)), by simp [fam_value_of, runF, b_value_of, argsE, argV, eV, t_0, t_1, t_2, sl1, lcR, lcL, gN, wipeE, backE, callR, ioIx, slotsOf, putOuts, ao_t, outsAt, l1_0, l2_0, l2_1, l3_0, l3_1, l3_2, h1, ni, m__strict, b__strict, m__single, b__single], by simp [fam__law_value, runF, b__law_value, argsE, argV, eV, t_0, t_1, t_2, sl1, lcR, lcL, gN, wipeE, backE, callR, ioIx, slotsOf, putOuts, ao_l, outsAt, l1_0, l2_0, l2_1, l3_0, l3_1, l3_2, forL, dInt_b, h2, ni]⟩
  · exact absurd h (by decide)
theorem case_mis {a x : D} {n : Nat} (hx : flatD x = true) (h : Both ds ks pl vs n a x) : ∃ v, VK "flag" v ∧ Both ds ks pl vs (n + 1) (.tup [.str (Str.ofString "is missing"), a]) v := by
  obtain ⟨h1, h2⟩ := h
  unfold argV at h1 h2
  exact ⟨.bl (isNon x), .inr (.inr (.inl ⟨rfl, _, rfl⟩)), by simp [fam_value_of, runF, b_value_of, argsE, argV, eV, t_0, t_1, t_2, sl1, lcR, lcL, gN, wipeE, backE, callR, ioIx, slotsOf, putOuts, ao_t, outsAt, l1_0, l2_0, l2_1, l3_0, l3_1, l3_2, h1], by simp [fam__law_value, runF, b__law_value, argsE, argV, eV, t_0, t_1, t_2, sl1, lcR, lcL, gN, wipeE, backE, callR, ioIx, slotsOf, putOuts, ao_l, outsAt, l1_0, l2_0, l2_1, l3_0, l3_1, l3_2, forL, dInt_b, h2]⟩
theorem case_len {a x : D} {n : Nat} (hx : VK "text" x) (h : Both ds ks pl vs n a x) : ∃ v, VK "int" v ∧ Both ds ks pl vs (n + 1) (.tup [.str (Str.ofString "length"), a]) v := by
  obtain ⟨h1, h2⟩ := h
  unfold argV at h1 h2
  have ni := non_in1 hx.flat
  rcases hx with rfl | ⟨h, _⟩ | ⟨h, _⟩ | ⟨_, s, rfl, o, l⟩
  · exact ⟨.non, .inl rfl, by simp [fam_value_of, runF, b_value_of, argsE, argV, eV, t_0, t_1, t_2, sl1, lcR, lcL, gN, wipeE, backE, callR, ioIx, slotsOf, putOuts, ao_t, outsAt, l1_0, l2_0, l2_1, l3_0, l3_1, l3_2, h1, ni], by simp [fam__law_value, runF, b__law_value, argsE, argV, eV, t_0, t_1, t_2, sl1, lcR, lcL, gN, wipeE, backE, callR, ioIx, slotsOf, putOuts, ao_l, outsAt, l1_0, l2_0, l2_1, l3_0, l3_1, l3_2, forL, dInt_b, h2, ni]⟩
  · exact absurd h (by decide)
  · exact absurd h (by decide)
  · have ln : dLen [.str s] = some (.int s.length) := dLen_s s (by omega)
    exact ⟨.int s.length, .inr (.inl ⟨rfl, _, rfl, by omega, by omega⟩), by simp [fam_value_of, runF, b_value_of, argsE, argV, eV, t_0, t_1, t_2, sl1, lcR, lcL, gN, wipeE, backE, callR, ioIx, slotsOf, putOuts, ao_t, outsAt, l1_0, l2_0, l2_1, l3_0, l3_1, l3_2, h1, ni, ln, m__strict, b__strict, m__single, b__single], by simp [fam__law_value, runF, b__law_value, argsE, argV, eV, t_0, t_1, t_2, sl1, lcR, lcL, gN, wipeE, backE, callR, ioIx, slotsOf, putOuts, ao_l, outsAt, l1_0, l2_0, l2_1, l3_0, l3_1, l3_2, forL, dInt_b, h2, ni, ln]⟩
theorem case_sgn {w : String} {a x : D} {n : Nat} (hw : w = "neg" ∨ w = "abs") (hx : VK "int" x) (h : Both ds ks pl vs n a x) : ∃ v, VK "int" v ∧ Both ds ks pl vs (n + 1) (.tup [.str (Str.ofString w), a]) v := by
  obtain ⟨h1, h2⟩ := h
  unfold argV at h1 h2
  have ni := non_in1 hx.flat
  have ng : ∀ i, dNeg (.int i) = some (.int (-i)) := fun _ => rfl
  have ab : ∀ i, dAbs [.int i] = some (.int (if i < 0 then -i else i)) := fun _ => rfl
  have mx : ∀ i j, dMax2 [.int i, .int j] = some (.int (if j > i then j else i)) := fun _ _ => rfl
  rcases hx with rfl | ⟨_, i, rfl, i1, i2⟩ | ⟨h, _⟩ | ⟨h, _⟩
  · rcases hw with rfl | rfl
    · exact ⟨.non, .inl rfl, by simp [fam_value_of, runF, b_value_of, argsE, argV, eV, t_0, t_1, t_2, sl1, lcR, lcL, gN, wipeE, backE, callR, ioIx, slotsOf, putOuts, ao_t, outsAt, l1_0, l2_0, l2_1, l3_0, l3_1, l3_2, h1, ni], by simp [fam__law_value, runF, b__law_value, argsE, argV, eV, t_0, t_1, t_2, sl1, lcR, lcL, gN, wipeE, backE, callR, ioIx, slotsOf, putOuts, ao_l, outsAt, l1_0, l2_0, l2_1, l3_0, l3_1, l3_2, forL, dInt_b, h2, ni]⟩
    · exact ⟨.non, .inl rfl, by simp [fam_value_of, runF, b_value_of, argsE, argV, eV, t_0, t_1, t_2, sl1, lcR, lcL, gN, wipeE, backE, callR, ioIx, slotsOf, putOuts, ao_t, outsAt, l1_0, l2_0, l2_1, l3_0, l3_1, l3_2, h1, ni], by simp [fam__law_value, runF, b__law_value, argsE, argV, eV, t_0, t_1, t_2, sl1, lcR, lcL, gN, wipeE, backE, callR, ioIx, slotsOf, putOuts, ao_l, outsAt, l1_0, l2_0, l2_1, l3_0, l3_1, l3_2, forL, dInt_b, h2, ni]⟩
  · rcases hw with rfl | rfl
    · exact ⟨.int (-i), .inr (.inl ⟨rfl, _, rfl, by omega, by omega⟩), by simp [fam_value_of, runF, b_value_of, argsE, argV, eV, t_0, t_1, t_2, sl1, lcR, lcL, gN, wipeE, backE, callR, ioIx, slotsOf, putOuts, ao_t, outsAt, l1_0, l2_0, l2_1, l3_0, l3_1, l3_2, h1, ni, ng, m__strict, b__strict, m__single, b__single], by simp [fam__law_value, runF, b__law_value, argsE, argV, eV, t_0, t_1, t_2, sl1, lcR, lcL, gN, wipeE, backE, callR, ioIx, slotsOf, putOuts, ao_l, outsAt, l1_0, l2_0, l2_1, l3_0, l3_1, l3_2, forL, dInt_b, h2, ni]⟩
    · by_cases c : i < 0
      · have c2 : i < -i := by omega
        exact ⟨.int (-i), .inr (.inl ⟨rfl, _, rfl, by omega, by omega⟩), by simp [fam_value_of, runF, b_value_of, argsE, argV, eV, t_0, t_1, t_2, sl1, lcR, lcL, gN, wipeE, backE, callR, ioIx, slotsOf, putOuts, ao_t, outsAt, l1_0, l2_0, l2_1, l3_0, l3_1, l3_2, h1, ni, ab, c, m__strict, b__strict, m__single, b__single], by simp [fam__law_value, runF, b__law_value, argsE, argV, eV, t_0, t_1, t_2, sl1, lcR, lcL, gN, wipeE, backE, callR, ioIx, slotsOf, putOuts, ao_l, outsAt, l1_0, l2_0, l2_1, l3_0, l3_1, l3_2, forL, dInt_b, h2, ni, mx, c2]⟩
      · have c2 : ¬ i < -i := by omega
        exact ⟨.int i, .inr (.inl ⟨rfl, _, rfl, by omega, by omega⟩), by simp [fam_value_of, runF, b_value_of, argsE, argV, eV, t_0, t_1, t_2, sl1, lcR, lcL, gN, wipeE, backE, callR, ioIx, slotsOf, putOuts, ao_t, outsAt, l1_0, l2_0, l2_1, l3_0, l3_1, l3_2, h1, ni, ab, c, m__strict, b__strict, m__single, b__single], by simp [fam__law_value, runF, b__law_value, argsE, argV, eV, t_0, t_1, t_2, sl1, lcR, lcL, gN, wipeE, backE, callR, ioIx, slotsOf, putOuts, ao_l, outsAt, l1_0, l2_0, l2_1, l3_0, l3_1, l3_2, forL, dInt_b, h2, ni, mx, c2]⟩
  · exact absurd h (by decide)
  · exact absurd h (by decide)
end
end Mi

namespace Mi
open PySem L2
section
variable {ds : List Dm} {ks : List String} {pl vs : List D}
theorem nb1 (b : Bool) : dEq .non (.bl b) = some (.bl false) := rfl
theorem VK.nn {k : String} {v : D} (h : KV k v) : isNon v = false := by
  rcases h with ⟨_, _, rfl, _⟩ | ⟨_, _, rfl⟩ | ⟨_, _, rfl, _⟩ <;> rfl
theorem case_cmp {w k : String} {a b x y : D} {n : Nat} (hw : CmW w) (hx : VK k x) (hy : VK k y) (ha : Both ds ks pl vs n a x) (hb : Both ds ks pl vs n b y) : ∃ v, VK "flag" v ∧ Both ds ks pl vs (n + 1) (.tup [.str (Str.ofString w), a, b]) v := by
  obtain ⟨h1, h2⟩ := ha
  obtain ⟨g1, g2⟩ := hb
  unfold argV at h1 h2 g1 g2
  have ni := non_in2 hx.flat hy.flat
  by_cases nx : x = .non
  · subst nx
    rcases hw with rfl | rfl | rfl | rfl | rfl | rfl
    · exact ⟨.non, .inl rfl, by simp [fam_value_of, runF, b_value_of, argsE, argV, eV, t_0, t_1, t_2, sl1, lcR, lcL, gN, wipeE, backE, callR, ioIx, slotsOf, putOuts, ao_t, outsAt, l1_0, l2_0, l2_1, l3_0, l3_1, l3_2, h1, g1, ni], by simp [fam__law_value, runF, b__law_value, argsE, argV, eV, t_0, t_1, t_2, sl1, lcR, lcL, gN, wipeE, backE, callR, ioIx, slotsOf, putOuts, ao_l, outsAt, l1_0, l2_0, l2_1, l3_0, l3_1, l3_2, forL, dInt_b, h2, g2, ni]⟩
    · exact ⟨.non, .inl rfl, by simp [fam_value_of, runF, b_value_of, argsE, argV, eV, t_0, t_1, t_2, sl1, lcR, lcL, gN, wipeE, backE, callR, ioIx, slotsOf, putOuts, ao_t, outsAt, l1_0, l2_0, l2_1, l3_0, l3_1, l3_2, h1, g1, ni], by simp [fam__law_value, runF, b__law_value, argsE, argV, eV, t_0, t_1, t_2, sl1, lcR, lcL, gN, wipeE, backE, callR, ioIx, slotsOf, putOuts, ao_l, outsAt, l1_0, l2_0, l2_1, l3_0, l3_1, l3_2, forL, dInt_b, h2, g2, ni]⟩
    · exact ⟨.non, .inl rfl, by simp [fam_value_of, runF, b_value_of, argsE, argV, eV, t_0, t_1, t_2, sl1, lcR, lcL, gN, wipeE, backE, callR, ioIx, slotsOf, putOuts, ao_t, outsAt, l1_0, l2_0, l2_1, l3_0, l3_1, l3_2, h1, g1, ni], by simp [fam__law_value, runF, b__law_value, argsE, argV, eV, t_0, t_1, t_2, sl1, lcR, lcL, gN, wipeE, backE, callR, ioIx, slotsOf, putOuts, ao_l, outsAt, l1_0, l2_0, l2_1, l3_0, l3_1, l3_2, forL, dInt_b, h2, g2, ni]⟩
    · exact ⟨.non, .inl rfl, by simp [fam_value_of, runF, b_value_of, argsE, argV, eV, t_0, t_1, t_2, sl1, lcR, lcL, gN, wipeE, backE, callR, ioIx, slotsOf, putOuts, ao_t, outsAt, l1_0, l2_0, l2_1, l3_0, l3_1, l3_2, h1, g1, ni], by simp [fam__law_value, runF, b__law_value, argsE, argV, eV, t_0, t_1, t_2, sl1, lcR, lcL, gN, wipeE, backE, callR, ioIx, slotsOf, putOuts, ao_l, outsAt, l1_0, l2_0, l2_1, l3_0, l3_1, l3_2, forL, dInt_b, h2, g2, ni]⟩
    · exact ⟨.non, .inl rfl, by simp [fam_value_of, runF, b_value_of, argsE, argV, eV, t_0, t_1, t_2, sl1, lcR, lcL, gN, wipeE, backE, callR, ioIx, slotsOf, putOuts, ao_t, outsAt, l1_0, l2_0, l2_1, l3_0, l3_1, l3_2, h1, g1, ni], by simp [fam__law_value, runF, b__law_value, argsE, argV, eV, t_0, t_1, t_2, sl1, lcR, lcL, gN, wipeE, backE, callR, ioIx, slotsOf, putOuts, ao_l, outsAt, l1_0, l2_0, l2_1, l3_0, l3_1, l3_2, forL, dInt_b, h2, g2, ni]⟩
    · exact ⟨.non, .inl rfl, by simp [fam_value_of, runF, b_value_of, argsE, argV, eV, t_0, t_1, t_2, sl1, lcR, lcL, gN, wipeE, backE, callR, ioIx, slotsOf, putOuts, ao_t, outsAt, l1_0, l2_0, l2_1, l3_0, l3_1, l3_2, h1, g1, ni], by simp [fam__law_value, runF, b__law_value, argsE, argV, eV, t_0, t_1, t_2, sl1, lcR, lcL, gN, wipeE, backE, callR, ioIx, slotsOf, putOuts, ao_l, outsAt, l1_0, l2_0, l2_1, l3_0, l3_1, l3_2, forL, dInt_b, h2, g2, ni]⟩
  by_cases ny : y = .non
  · subst ny
    rcases hw with rfl | rfl | rfl | rfl | rfl | rfl
    · exact ⟨.non, .inl rfl, by simp [fam_value_of, runF, b_value_of, argsE, argV, eV, t_0, t_1, t_2, sl1, lcR, lcL, gN, wipeE, backE, callR, ioIx, slotsOf, putOuts, ao_t, outsAt, l1_0, l2_0, l2_1, l3_0, l3_1, l3_2, h1, g1, ni], by simp [fam__law_value, runF, b__law_value, argsE, argV, eV, t_0, t_1, t_2, sl1, lcR, lcL, gN, wipeE, backE, callR, ioIx, slotsOf, putOuts, ao_l, outsAt, l1_0, l2_0, l2_1, l3_0, l3_1, l3_2, forL, dInt_b, h2, g2, ni]⟩
    · exact ⟨.non, .inl rfl, by simp [fam_value_of, runF, b_value_of, argsE, argV, eV, t_0, t_1, t_2, sl1, lcR, lcL, gN, wipeE, backE, callR, ioIx, slotsOf, putOuts, ao_t, outsAt, l1_0, l2_0, l2_1, l3_0, l3_1, l3_2, h1, g1, ni], by simp [fam__law_value, runF, b__law_value, argsE, argV, eV, t_0, t_1, t_2, sl1, lcR, lcL, gN, wipeE, backE, callR, ioIx, slotsOf, putOuts, ao_l, outsAt, l1_0, l2_0, l2_1, l3_0, l3_1, l3_2, forL, dInt_b, h2, g2, ni]⟩
    · exact ⟨.non, .inl rfl, by simp [fam_value_of, runF, b_value_of, argsE, argV, eV, t_0, t_1, t_2, sl1, lcR, lcL, gN, wipeE, backE, callR, ioIx, slotsOf, putOuts, ao_t, outsAt, l1_0, l2_0, l2_1, l3_0, l3_1, l3_2, h1, g1, ni], by simp [fam__law_value, runF, b__law_value, argsE, argV, eV, t_0, t_1, t_2, sl1, lcR, lcL, gN, wipeE, backE, callR, ioIx, slotsOf, putOuts, ao_l, outsAt, l1_0, l2_0, l2_1, l3_0, l3_1, l3_2, forL, dInt_b, h2, g2, ni]⟩
    · exact ⟨.non, .inl rfl, by simp [fam_value_of, runF, b_value_of, argsE, argV, eV, t_0, t_1, t_2, sl1, lcR, lcL, gN, wipeE, backE, callR, ioIx, slotsOf, putOuts, ao_t, outsAt, l1_0, l2_0, l2_1, l3_0, l3_1, l3_2, h1, g1, ni], by simp [fam__law_value, runF, b__law_value, argsE, argV, eV, t_0, t_1, t_2, sl1, lcR, lcL, gN, wipeE, backE, callR, ioIx, slotsOf, putOuts, ao_l, outsAt, l1_0, l2_0, l2_1, l3_0, l3_1, l3_2, forL, dInt_b, h2, g2, ni]⟩
    · exact ⟨.non, .inl rfl, by simp [fam_value_of, runF, b_value_of, argsE, argV, eV, t_0, t_1, t_2, sl1, lcR, lcL, gN, wipeE, backE, callR, ioIx, slotsOf, putOuts, ao_t, outsAt, l1_0, l2_0, l2_1, l3_0, l3_1, l3_2, h1, g1, ni], by simp [fam__law_value, runF, b__law_value, argsE, argV, eV, t_0, t_1, t_2, sl1, lcR, lcL, gN, wipeE, backE, callR, ioIx, slotsOf, putOuts, ao_l, outsAt, l1_0, l2_0, l2_1, l3_0, l3_1, l3_2, forL, dInt_b, h2, g2, ni]⟩
    · exact ⟨.non, .inl rfl, by simp [fam_value_of, runF, b_value_of, argsE, argV, eV, t_0, t_1, t_2, sl1, lcR, lcL, gN, wipeE, backE, callR, ioIx, slotsOf, putOuts, ao_t, outsAt, l1_0, l2_0, l2_1, l3_0, l3_1, l3_2, h1, g1, ni], by simp [fam__law_value, runF, b__law_value, argsE, argV, eV, t_0, t_1, t_2, sl1, lcR, lcL, gN, wipeE, backE, callR, ioIx, slotsOf, putOuts, ao_l, outsAt, l1_0, l2_0, l2_1, l3_0, l3_1, l3_2, forL, dInt_b, h2, g2, ni]⟩
  have kx := hx.resolve_left nx
  have ky := hy.resolve_left ny
  rw [VK.nn kx, VK.nn ky] at ni
  obtain ⟨r, s1, s2⟩ := strict_cm hw kx ky
  rcases hw with rfl | rfl | rfl | rfl | rfl | rfl
  · exact ⟨.bl r, .inr (.inr (.inl ⟨rfl, _, rfl⟩)), by simp [fam_value_of, runF, b_value_of, argsE, argV, eV, t_0, t_1, t_2, sl1, lcR, lcL, gN, wipeE, backE, callR, ioIx, slotsOf, putOuts, ao_t, outsAt, l1_0, l2_0, l2_1, l3_0, l3_1, l3_2, h1, g1, ni, s1], by simp [fam__law_value, runF, b__law_value, argsE, argV, eV, t_0, t_1, t_2, sl1, lcR, lcL, gN, wipeE, backE, callR, ioIx, slotsOf, putOuts, ao_l, outsAt, l1_0, l2_0, l2_1, l3_0, l3_1, l3_2, forL, dInt_b, h2, g2, ni, s2]⟩
  · exact ⟨.bl r, .inr (.inr (.inl ⟨rfl, _, rfl⟩)), by simp [fam_value_of, runF, b_value_of, argsE, argV, eV, t_0, t_1, t_2, sl1, lcR, lcL, gN, wipeE, backE, callR, ioIx, slotsOf, putOuts, ao_t, outsAt, l1_0, l2_0, l2_1, l3_0, l3_1, l3_2, h1, g1, ni, s1], by simp [fam__law_value, runF, b__law_value, argsE, argV, eV, t_0, t_1, t_2, sl1, lcR, lcL, gN, wipeE, backE, callR, ioIx, slotsOf, putOuts, ao_l, outsAt, l1_0, l2_0, l2_1, l3_0, l3_1, l3_2, forL, dInt_b, h2, g2, ni, s2]⟩
  · exact ⟨.bl r, .inr (.inr (.inl ⟨rfl, _, rfl⟩)), by simp [fam_value_of, runF, b_value_of, argsE, argV, eV, t_0, t_1, t_2, sl1, lcR, lcL, gN, wipeE, backE, callR, ioIx, slotsOf, putOuts, ao_t, outsAt, l1_0, l2_0, l2_1, l3_0, l3_1, l3_2, h1, g1, ni, s1], by simp [fam__law_value, runF, b__law_value, argsE, argV, eV, t_0, t_1, t_2, sl1, lcR, lcL, gN, wipeE, backE, callR, ioIx, slotsOf, putOuts, ao_l, outsAt, l1_0, l2_0, l2_1, l3_0, l3_1, l3_2, forL, dInt_b, h2, g2, ni, s2]⟩
  · exact ⟨.bl r, .inr (.inr (.inl ⟨rfl, _, rfl⟩)), by simp [fam_value_of, runF, b_value_of, argsE, argV, eV, t_0, t_1, t_2, sl1, lcR, lcL, gN, wipeE, backE, callR, ioIx, slotsOf, putOuts, ao_t, outsAt, l1_0, l2_0, l2_1, l3_0, l3_1, l3_2, h1, g1, ni, s1], by simp [fam__law_value, runF, b__law_value, argsE, argV, eV, t_0, t_1, t_2, sl1, lcR, lcL, gN, wipeE, backE, callR, ioIx, slotsOf, putOuts, ao_l, outsAt, l1_0, l2_0, l2_1, l3_0, l3_1, l3_2, forL, dInt_b, h2, g2, ni, s2]⟩
  · exact ⟨.bl r, .inr (.inr (.inl ⟨rfl, _, rfl⟩)), by simp [fam_value_of, runF, b_value_of, argsE, argV, eV, t_0, t_1, t_2, sl1, lcR, lcL, gN, wipeE, backE, callR, ioIx, slotsOf, putOuts, ao_t, outsAt, l1_0, l2_0, l2_1, l3_0, l3_1, l3_2, h1, g1, ni, s1], by simp [fam__law_value, runF, b__law_value, argsE, argV, eV, t_0, t_1, t_2, sl1, lcR, lcL, gN, wipeE, backE, callR, ioIx, slotsOf, putOuts, ao_l, outsAt, l1_0, l2_0, l2_1, l3_0, l3_1, l3_2, forL, dInt_b, h2, g2, ni, s2]⟩
  · exact ⟨.bl r, .inr (.inr (.inl ⟨rfl, _, rfl⟩)), by simp [fam_value_of, runF, b_value_of, argsE, argV, eV, t_0, t_1, t_2, sl1, lcR, lcL, gN, wipeE, backE, callR, ioIx, slotsOf, putOuts, ao_t, outsAt, l1_0, l2_0, l2_1, l3_0, l3_1, l3_2, h1, g1, ni, s1], by simp [fam__law_value, runF, b__law_value, argsE, argV, eV, t_0, t_1, t_2, sl1, lcR, lcL, gN, wipeE, backE, callR, ioIx, slotsOf, putOuts, ao_l, outsAt, l1_0, l2_0, l2_1, l3_0, l3_1, l3_2, forL, dInt_b, h2, g2, ni, s2]⟩
theorem case_ar {w : String} {a b x y : D} {n : Nat} (hw : ArW w) (hx : VK "int" x) (hy : VK "int" y) (ha : Both ds ks pl vs n a x) (hb : Both ds ks pl vs n b y) : ∃ v, VK "int" v ∧ Both ds ks pl vs (n + 1) (.tup [.str (Str.ofString w), a, b]) v := by
  obtain ⟨h1, h2⟩ := ha
  obtain ⟨g1, g2⟩ := hb
  unfold argV at h1 h2 g1 g2
  have ni := non_in2 hx.flat hy.flat
  by_cases nx : x = .non
  · subst nx
    rcases hw with rfl | rfl | rfl | rfl | rfl
    · exact ⟨.non, .inl rfl, by simp [fam_value_of, runF, b_value_of, argsE, argV, eV, t_0, t_1, t_2, sl1, lcR, lcL, gN, wipeE, backE, callR, ioIx, slotsOf, putOuts, ao_t, outsAt, l1_0, l2_0, l2_1, l3_0, l3_1, l3_2, h1, g1, ni], by simp [fam__law_value, runF, b__law_value, argsE, argV, eV, t_0, t_1, t_2, sl1, lcR, lcL, gN, wipeE, backE, callR, ioIx, slotsOf, putOuts, ao_l, outsAt, l1_0, l2_0, l2_1, l3_0, l3_1, l3_2, forL, dInt_b, h2, g2, ni]⟩
    · exact ⟨.non, .inl rfl, by simp [fam_value_of, runF, b_value_of, argsE, argV, eV, t_0, t_1, t_2, sl1, lcR, lcL, gN, wipeE, backE, callR, ioIx, slotsOf, putOuts, ao_t, outsAt, l1_0, l2_0, l2_1, l3_0, l3_1, l3_2, h1, g1, ni], by simp [fam__law_value, runF, b__law_value, argsE, argV, eV, t_0, t_1, t_2, sl1, lcR, lcL, gN, wipeE, backE, callR, ioIx, slotsOf, putOuts, ao_l, outsAt, l1_0, l2_0, l2_1, l3_0, l3_1, l3_2, forL, dInt_b, h2, g2, ni]⟩
    · exact ⟨.non, .inl rfl, by simp [fam_value_of, runF, b_value_of, argsE, argV, eV, t_0, t_1, t_2, sl1, lcR, lcL, gN, wipeE, backE, callR, ioIx, slotsOf, putOuts, ao_t, outsAt, l1_0, l2_0, l2_1, l3_0, l3_1, l3_2, h1, g1, ni], by simp [fam__law_value, runF, b__law_value, argsE, argV, eV, t_0, t_1, t_2, sl1, lcR, lcL, gN, wipeE, backE, callR, ioIx, slotsOf, putOuts, ao_l, outsAt, l1_0, l2_0, l2_1, l3_0, l3_1, l3_2, forL, dInt_b, h2, g2, ni]⟩
    · exact ⟨.non, .inl rfl, by simp [fam_value_of, runF, b_value_of, argsE, argV, eV, t_0, t_1, t_2, sl1, lcR, lcL, gN, wipeE, backE, callR, ioIx, slotsOf, putOuts, ao_t, outsAt, l1_0, l2_0, l2_1, l3_0, l3_1, l3_2, h1, g1, ni], by simp [fam__law_value, runF, b__law_value, argsE, argV, eV, t_0, t_1, t_2, sl1, lcR, lcL, gN, wipeE, backE, callR, ioIx, slotsOf, putOuts, ao_l, outsAt, l1_0, l2_0, l2_1, l3_0, l3_1, l3_2, forL, dInt_b, h2, g2, ni]⟩
    · exact ⟨.non, .inl rfl, by simp [fam_value_of, runF, b_value_of, argsE, argV, eV, t_0, t_1, t_2, sl1, lcR, lcL, gN, wipeE, backE, callR, ioIx, slotsOf, putOuts, ao_t, outsAt, l1_0, l2_0, l2_1, l3_0, l3_1, l3_2, h1, g1, ni], by simp [fam__law_value, runF, b__law_value, argsE, argV, eV, t_0, t_1, t_2, sl1, lcR, lcL, gN, wipeE, backE, callR, ioIx, slotsOf, putOuts, ao_l, outsAt, l1_0, l2_0, l2_1, l3_0, l3_1, l3_2, forL, dInt_b, h2, g2, ni]⟩
  by_cases ny : y = .non
  · subst ny
    rcases hw with rfl | rfl | rfl | rfl | rfl
    · exact ⟨.non, .inl rfl, by simp [fam_value_of, runF, b_value_of, argsE, argV, eV, t_0, t_1, t_2, sl1, lcR, lcL, gN, wipeE, backE, callR, ioIx, slotsOf, putOuts, ao_t, outsAt, l1_0, l2_0, l2_1, l3_0, l3_1, l3_2, h1, g1, ni], by simp [fam__law_value, runF, b__law_value, argsE, argV, eV, t_0, t_1, t_2, sl1, lcR, lcL, gN, wipeE, backE, callR, ioIx, slotsOf, putOuts, ao_l, outsAt, l1_0, l2_0, l2_1, l3_0, l3_1, l3_2, forL, dInt_b, h2, g2, ni]⟩
    · exact ⟨.non, .inl rfl, by simp [fam_value_of, runF, b_value_of, argsE, argV, eV, t_0, t_1, t_2, sl1, lcR, lcL, gN, wipeE, backE, callR, ioIx, slotsOf, putOuts, ao_t, outsAt, l1_0, l2_0, l2_1, l3_0, l3_1, l3_2, h1, g1, ni], by simp [fam__law_value, runF, b__law_value, argsE, argV, eV, t_0, t_1, t_2, sl1, lcR, lcL, gN, wipeE, backE, callR, ioIx, slotsOf, putOuts, ao_l, outsAt, l1_0, l2_0, l2_1, l3_0, l3_1, l3_2, forL, dInt_b, h2, g2, ni]⟩
    · exact ⟨.non, .inl rfl, by simp [fam_value_of, runF, b_value_of, argsE, argV, eV, t_0, t_1, t_2, sl1, lcR, lcL, gN, wipeE, backE, callR, ioIx, slotsOf, putOuts, ao_t, outsAt, l1_0, l2_0, l2_1, l3_0, l3_1, l3_2, h1, g1, ni], by simp [fam__law_value, runF, b__law_value, argsE, argV, eV, t_0, t_1, t_2, sl1, lcR, lcL, gN, wipeE, backE, callR, ioIx, slotsOf, putOuts, ao_l, outsAt, l1_0, l2_0, l2_1, l3_0, l3_1, l3_2, forL, dInt_b, h2, g2, ni]⟩
    · exact ⟨.non, .inl rfl, by simp [fam_value_of, runF, b_value_of, argsE, argV, eV, t_0, t_1, t_2, sl1, lcR, lcL, gN, wipeE, backE, callR, ioIx, slotsOf, putOuts, ao_t, outsAt, l1_0, l2_0, l2_1, l3_0, l3_1, l3_2, h1, g1, ni], by simp [fam__law_value, runF, b__law_value, argsE, argV, eV, t_0, t_1, t_2, sl1, lcR, lcL, gN, wipeE, backE, callR, ioIx, slotsOf, putOuts, ao_l, outsAt, l1_0, l2_0, l2_1, l3_0, l3_1, l3_2, forL, dInt_b, h2, g2, ni]⟩
    · exact ⟨.non, .inl rfl, by simp [fam_value_of, runF, b_value_of, argsE, argV, eV, t_0, t_1, t_2, sl1, lcR, lcL, gN, wipeE, backE, callR, ioIx, slotsOf, putOuts, ao_t, outsAt, l1_0, l2_0, l2_1, l3_0, l3_1, l3_2, h1, g1, ni], by simp [fam__law_value, runF, b__law_value, argsE, argV, eV, t_0, t_1, t_2, sl1, lcR, lcL, gN, wipeE, backE, callR, ioIx, slotsOf, putOuts, ao_l, outsAt, l1_0, l2_0, l2_1, l3_0, l3_1, l3_2, forL, dInt_b, h2, g2, ni]⟩
  have kx := hx.resolve_left nx
  have ky := hy.resolve_left ny
  rw [VK.nn kx, VK.nn ky] at ni
  rcases kx with ⟨_, i, rfl, i1, i2⟩ | ⟨h, _⟩ | ⟨h, _⟩
  rotate_left
  · exact absurd h (by decide)
  · exact absurd h (by decide)
  rcases ky with ⟨_, j, rfl, j1, j2⟩ | ⟨h, _⟩ | ⟨h, _⟩
  rotate_left
  · exact absurd h (by decide)
  · exact absurd h (by decide)
  obtain ⟨r, hr, s1, s2⟩ := strict_ar hw i1 i2 j1 j2
  rcases hw with rfl | rfl | rfl | rfl | rfl
  · exact ⟨r, hr, by simp [fam_value_of, runF, b_value_of, argsE, argV, eV, t_0, t_1, t_2, sl1, lcR, lcL, gN, wipeE, backE, callR, ioIx, slotsOf, putOuts, ao_t, outsAt, l1_0, l2_0, l2_1, l3_0, l3_1, l3_2, h1, g1, ni, s1], by simp [fam__law_value, runF, b__law_value, argsE, argV, eV, t_0, t_1, t_2, sl1, lcR, lcL, gN, wipeE, backE, callR, ioIx, slotsOf, putOuts, ao_l, outsAt, l1_0, l2_0, l2_1, l3_0, l3_1, l3_2, forL, dInt_b, h2, g2, ni, s2]⟩
  · exact ⟨r, hr, by simp [fam_value_of, runF, b_value_of, argsE, argV, eV, t_0, t_1, t_2, sl1, lcR, lcL, gN, wipeE, backE, callR, ioIx, slotsOf, putOuts, ao_t, outsAt, l1_0, l2_0, l2_1, l3_0, l3_1, l3_2, h1, g1, ni, s1], by simp [fam__law_value, runF, b__law_value, argsE, argV, eV, t_0, t_1, t_2, sl1, lcR, lcL, gN, wipeE, backE, callR, ioIx, slotsOf, putOuts, ao_l, outsAt, l1_0, l2_0, l2_1, l3_0, l3_1, l3_2, forL, dInt_b, h2, g2, ni, s2]⟩
  · exact ⟨r, hr, by simp [fam_value_of, runF, b_value_of, argsE, argV, eV, t_0, t_1, t_2, sl1, lcR, lcL, gN, wipeE, backE, callR, ioIx, slotsOf, putOuts, ao_t, outsAt, l1_0, l2_0, l2_1, l3_0, l3_1, l3_2, h1, g1, ni, s1], by simp [fam__law_value, runF, b__law_value, argsE, argV, eV, t_0, t_1, t_2, sl1, lcR, lcL, gN, wipeE, backE, callR, ioIx, slotsOf, putOuts, ao_l, outsAt, l1_0, l2_0, l2_1, l3_0, l3_1, l3_2, forL, dInt_b, h2, g2, ni, s2]⟩
  · exact ⟨r, hr, by simp [fam_value_of, runF, b_value_of, argsE, argV, eV, t_0, t_1, t_2, sl1, lcR, lcL, gN, wipeE, backE, callR, ioIx, slotsOf, putOuts, ao_t, outsAt, l1_0, l2_0, l2_1, l3_0, l3_1, l3_2, h1, g1, ni, s1], by simp [fam__law_value, runF, b__law_value, argsE, argV, eV, t_0, t_1, t_2, sl1, lcR, lcL, gN, wipeE, backE, callR, ioIx, slotsOf, putOuts, ao_l, outsAt, l1_0, l2_0, l2_1, l3_0, l3_1, l3_2, forL, dInt_b, h2, g2, ni, s2]⟩
  · exact ⟨r, hr, by simp [fam_value_of, runF, b_value_of, argsE, argV, eV, t_0, t_1, t_2, sl1, lcR, lcL, gN, wipeE, backE, callR, ioIx, slotsOf, putOuts, ao_t, outsAt, l1_0, l2_0, l2_1, l3_0, l3_1, l3_2, h1, g1, ni, s1], by simp [fam__law_value, runF, b__law_value, argsE, argV, eV, t_0, t_1, t_2, sl1, lcR, lcL, gN, wipeE, backE, callR, ioIx, slotsOf, putOuts, ao_l, outsAt, l1_0, l2_0, l2_1, l3_0, l3_1, l3_2, forL, dInt_b, h2, g2, ni, s2]⟩
theorem case_join {a b x y : D} {n : Nat} (hx : VK "text" x) (hy : VK "text" y) (ha : Both ds ks pl vs n a x) (hb : Both ds ks pl vs n b y) : ∃ v, VK "text" v ∧ Both ds ks pl vs (n + 1) (.tup [.str (Str.ofString "joined"), a, b]) v := by
  obtain ⟨h1, h2⟩ := ha
  obtain ⟨g1, g2⟩ := hb
  unfold argV at h1 h2 g1 g2
  have ni := non_in2 hx.flat hy.flat
  by_cases nx : x = .non
  · subst nx
    exact ⟨.non, .inl rfl, by simp [fam_value_of, runF, b_value_of, argsE, argV, eV, t_0, t_1, t_2, sl1, lcR, lcL, gN, wipeE, backE, callR, ioIx, slotsOf, putOuts, ao_t, outsAt, l1_0, l2_0, l2_1, l3_0, l3_1, l3_2, h1, g1, ni], by simp [fam__law_value, runF, b__law_value, argsE, argV, eV, t_0, t_1, t_2, sl1, lcR, lcL, gN, wipeE, backE, callR, ioIx, slotsOf, putOuts, ao_l, outsAt, l1_0, l2_0, l2_1, l3_0, l3_1, l3_2, forL, dInt_b, h2, g2, ni]⟩
  by_cases ny : y = .non
  · subst ny
    exact ⟨.non, .inl rfl, by simp [fam_value_of, runF, b_value_of, argsE, argV, eV, t_0, t_1, t_2, sl1, lcR, lcL, gN, wipeE, backE, callR, ioIx, slotsOf, putOuts, ao_t, outsAt, l1_0, l2_0, l2_1, l3_0, l3_1, l3_2, h1, g1, ni], by simp [fam__law_value, runF, b__law_value, argsE, argV, eV, t_0, t_1, t_2, sl1, lcR, lcL, gN, wipeE, backE, callR, ioIx, slotsOf, putOuts, ao_l, outsAt, l1_0, l2_0, l2_1, l3_0, l3_1, l3_2, forL, dInt_b, h2, g2, ni]⟩
  have kx := hx.resolve_left nx
  have ky := hy.resolve_left ny
  rw [VK.nn kx, VK.nn ky] at ni
  rcases kx with ⟨h, _⟩ | ⟨h, _⟩ | ⟨_, s, rfl, o1, l1⟩
  · exact absurd h (by decide)
  · exact absurd h (by decide)
  rcases ky with ⟨h, _⟩ | ⟨h, _⟩ | ⟨_, u, rfl, o2, l2⟩
  · exact absurd h (by decide)
  · exact absurd h (by decide)
  obtain ⟨r, hr, s1, s2⟩ := joined_eq o1 l1 o2 l2
  exact ⟨r, hr, by simp [fam_value_of, runF, b_value_of, argsE, argV, eV, t_0, t_1, t_2, sl1, lcR, lcL, gN, wipeE, backE, callR, ioIx, slotsOf, putOuts, ao_t, outsAt, l1_0, l2_0, l2_1, l3_0, l3_1, l3_2, h1, g1, ni, s1], by simp [fam__law_value, runF, b__law_value, argsE, argV, eV, t_0, t_1, t_2, sl1, lcR, lcL, gN, wipeE, backE, callR, ioIx, slotsOf, putOuts, ao_l, outsAt, l1_0, l2_0, l2_1, l3_0, l3_1, l3_2, forL, dInt_b, h2, g2, ni, s2]⟩
theorem case_els {k : String} {a b x y : D} {n : Nat} (hx : VK k x) (hy : VK k y) (ha : Both ds ks pl vs n a x) (hb : Both ds ks pl vs n b y) : ∃ v, VK k v ∧ Both ds ks pl vs (n + 1) (.tup [.str (Str.ofString "or else"), a, b]) v := by
  obtain ⟨h1, h2⟩ := ha
  obtain ⟨g1, g2⟩ := hb
  unfold argV at h1 h2 g1 g2
  have ni := non_in2 hx.flat hy.flat
  by_cases nx : x = .non
  · subst nx
    exact ⟨y, hy, by simp [fam_value_of, runF, b_value_of, argsE, argV, eV, t_0, t_1, t_2, sl1, lcR, lcL, gN, wipeE, backE, callR, ioIx, slotsOf, putOuts, ao_t, outsAt, l1_0, l2_0, l2_1, l3_0, l3_1, l3_2, h1, g1, ni], by simp [fam__law_value, runF, b__law_value, argsE, argV, eV, t_0, t_1, t_2, sl1, lcR, lcL, gN, wipeE, backE, callR, ioIx, slotsOf, putOuts, ao_l, outsAt, l1_0, l2_0, l2_1, l3_0, l3_1, l3_2, forL, dInt_b, h2, g2, ni]⟩
  · have nn := VK.nn (hx.resolve_left nx)
    exact ⟨x, hx, by simp [fam_value_of, runF, b_value_of, argsE, argV, eV, t_0, t_1, t_2, sl1, lcR, lcL, gN, wipeE, backE, callR, ioIx, slotsOf, putOuts, ao_t, outsAt, l1_0, l2_0, l2_1, l3_0, l3_1, l3_2, h1, g1, ni, nn], by simp [fam__law_value, runF, b__law_value, argsE, argV, eV, t_0, t_1, t_2, sl1, lcR, lcL, gN, wipeE, backE, callR, ioIx, slotsOf, putOuts, ao_l, outsAt, l1_0, l2_0, l2_1, l3_0, l3_1, l3_2, forL, dInt_b, h2, g2, ni, nn]⟩
theorem case_cond {k : String} {c a b z x y : D} {n : Nat} (hz : VK "flag" z) (hx : VK k x) (hy : VK k y) (hc : Both ds ks pl vs n c z) (ha : Both ds ks pl vs n a x) (hb : Both ds ks pl vs n b y) : ∃ v, VK k v ∧ Both ds ks pl vs (n + 1) (.tup [.str (Str.ofString "if"), c, a, b]) v := by
  obtain ⟨h1, h2⟩ := ha
  obtain ⟨g1, g2⟩ := hb
  obtain ⟨f1, f2⟩ := hc
  unfold argV at h1 h2 g1 g2 f1 f2
  rcases hz with rfl | ⟨h, _⟩ | ⟨_, q, rfl⟩ | ⟨h, _⟩
  · exact ⟨.non, .inl rfl, by simp [fam_value_of, runF, b_value_of, argsE, argV, eV, t_0, t_1, t_2, sl1, lcR, lcL, gN, wipeE, backE, callR, ioIx, slotsOf, putOuts, ao_t, outsAt, l1_0, l2_0, l2_1, l3_0, l3_1, l3_2, h1, g1, f1], by simp [fam__law_value, runF, b__law_value, argsE, argV, eV, t_0, t_1, t_2, sl1, lcR, lcL, gN, wipeE, backE, callR, ioIx, slotsOf, putOuts, ao_l, outsAt, l1_0, l2_0, l2_1, l3_0, l3_1, l3_2, forL, dInt_b, h2, g2, f2]⟩
  · exact absurd h (by decide)
  · cases q
    · exact ⟨y, hy, by simp [fam_value_of, runF, b_value_of, argsE, argV, eV, t_0, t_1, t_2, sl1, lcR, lcL, gN, wipeE, backE, callR, ioIx, slotsOf, putOuts, ao_t, outsAt, l1_0, l2_0, l2_1, l3_0, l3_1, l3_2, h1, g1, f1], by simp [fam__law_value, runF, b__law_value, argsE, argV, eV, t_0, t_1, t_2, sl1, lcR, lcL, gN, wipeE, backE, callR, ioIx, slotsOf, putOuts, ao_l, outsAt, l1_0, l2_0, l2_1, l3_0, l3_1, l3_2, forL, dInt_b, h2, g2, f2]⟩
    · exact ⟨x, hx, by simp [fam_value_of, runF, b_value_of, argsE, argV, eV, t_0, t_1, t_2, sl1, lcR, lcL, gN, wipeE, backE, callR, ioIx, slotsOf, putOuts, ao_t, outsAt, l1_0, l2_0, l2_1, l3_0, l3_1, l3_2, h1, g1, f1], by simp [fam__law_value, runF, b__law_value, argsE, argV, eV, t_0, t_1, t_2, sl1, lcR, lcL, gN, wipeE, backE, callR, ioIx, slotsOf, putOuts, ao_l, outsAt, l1_0, l2_0, l2_1, l3_0, l3_1, l3_2, forL, dInt_b, h2, g2, f2]⟩
  · exact absurd h (by decide)
end
end Mi

namespace Mi
open PySem L2
section
variable {ds : List Dm} {ks : List String} {pl vs : List D}
theorem case_dec {w : String} {a b x y : D} {n : Nat} (hw : w = "and" ∨ w = "or") (hx : VK "flag" x) (hy : VK "flag" y) (ha : Both ds ks pl vs n a x) (hb : Both ds ks pl vs n b y) : ∃ v, VK "flag" v ∧ Both ds ks pl vs (n + 1) (.tup [.str (Str.ofString w), a, b]) v := by
  obtain ⟨h1, h2⟩ := ha
  obtain ⟨g1, g2⟩ := hb
  unfold argV at h1 h2 g1 g2
  have ni := non_in2 hx.flat hy.flat
  have fx : x = .non ∨ x = .bl true ∨ x = .bl false := by
    rcases hx with rfl | ⟨h, _⟩ | ⟨_, b, rfl⟩ | ⟨h, _⟩
    · exact .inl rfl
    · exact absurd h (by decide)
    · cases b
      · exact .inr (.inr rfl)
      · exact .inr (.inl rfl)
    · exact absurd h (by decide)
  have fy : y = .non ∨ y = .bl true ∨ y = .bl false := by
    rcases hy with rfl | ⟨h, _⟩ | ⟨_, b, rfl⟩ | ⟨h, _⟩
    · exact .inl rfl
    · exact absurd h (by decide)
    · cases b
      · exact .inr (.inr rfl)
      · exact .inr (.inl rfl)
    · exact absurd h (by decide)
  have vb : ∀ b, VK "flag" (.bl b) := fun b => .inr (.inr (.inl ⟨rfl, _, rfl⟩))
  clear hx hy
  rcases hw with rfl | rfl <;> rcases fx with rfl | rfl | rfl <;> rcases fy with rfl | rfl | rfl
  · exact ⟨.non, .inl rfl, by simp [fam_value_of, runF, b_value_of, argsE, argV, eV, t_0, t_1, t_2, sl1, lcR, lcL, gN, wipeE, backE, callR, ioIx, slotsOf, putOuts, ao_t, outsAt, l1_0, l2_0, l2_1, l3_0, l3_1, l3_2, h1, g1, ni, m_decided, b_decided, nb1], by simp [fam__law_value, runF, b__law_value, argsE, argV, eV, t_0, t_1, t_2, sl1, lcR, lcL, gN, wipeE, backE, callR, ioIx, slotsOf, putOuts, ao_l, outsAt, l1_0, l2_0, l2_1, l3_0, l3_1, l3_2, forL, clrE, dInt_b, h2, g2, ni, nb1]⟩
  · exact ⟨.non, .inl rfl, by simp [fam_value_of, runF, b_value_of, argsE, argV, eV, t_0, t_1, t_2, sl1, lcR, lcL, gN, wipeE, backE, callR, ioIx, slotsOf, putOuts, ao_t, outsAt, l1_0, l2_0, l2_1, l3_0, l3_1, l3_2, h1, g1, ni, m_decided, b_decided, nb1], by simp [fam__law_value, runF, b__law_value, argsE, argV, eV, t_0, t_1, t_2, sl1, lcR, lcL, gN, wipeE, backE, callR, ioIx, slotsOf, putOuts, ao_l, outsAt, l1_0, l2_0, l2_1, l3_0, l3_1, l3_2, forL, clrE, dInt_b, h2, g2, ni, nb1]⟩
  · exact ⟨.bl false, vb _, by simp [fam_value_of, runF, b_value_of, argsE, argV, eV, t_0, t_1, t_2, sl1, lcR, lcL, gN, wipeE, backE, callR, ioIx, slotsOf, putOuts, ao_t, outsAt, l1_0, l2_0, l2_1, l3_0, l3_1, l3_2, h1, g1, ni, m_decided, b_decided, nb1], by simp [fam__law_value, runF, b__law_value, argsE, argV, eV, t_0, t_1, t_2, sl1, lcR, lcL, gN, wipeE, backE, callR, ioIx, slotsOf, putOuts, ao_l, outsAt, l1_0, l2_0, l2_1, l3_0, l3_1, l3_2, forL, clrE, dInt_b, h2, g2, ni, nb1]⟩
  · exact ⟨.non, .inl rfl, by simp [fam_value_of, runF, b_value_of, argsE, argV, eV, t_0, t_1, t_2, sl1, lcR, lcL, gN, wipeE, backE, callR, ioIx, slotsOf, putOuts, ao_t, outsAt, l1_0, l2_0, l2_1, l3_0, l3_1, l3_2, h1, g1, ni, m_decided, b_decided, nb1], by simp [fam__law_value, runF, b__law_value, argsE, argV, eV, t_0, t_1, t_2, sl1, lcR, lcL, gN, wipeE, backE, callR, ioIx, slotsOf, putOuts, ao_l, outsAt, l1_0, l2_0, l2_1, l3_0, l3_1, l3_2, forL, clrE, dInt_b, h2, g2, ni, nb1]⟩
  · exact ⟨.bl true, vb _, by simp [fam_value_of, runF, b_value_of, argsE, argV, eV, t_0, t_1, t_2, sl1, lcR, lcL, gN, wipeE, backE, callR, ioIx, slotsOf, putOuts, ao_t, outsAt, l1_0, l2_0, l2_1, l3_0, l3_1, l3_2, h1, g1, ni, m_decided, b_decided, nb1], by simp [fam__law_value, runF, b__law_value, argsE, argV, eV, t_0, t_1, t_2, sl1, lcR, lcL, gN, wipeE, backE, callR, ioIx, slotsOf, putOuts, ao_l, outsAt, l1_0, l2_0, l2_1, l3_0, l3_1, l3_2, forL, clrE, dInt_b, h2, g2, ni, nb1]⟩
  · exact ⟨.bl false, vb _, by simp [fam_value_of, runF, b_value_of, argsE, argV, eV, t_0, t_1, t_2, sl1, lcR, lcL, gN, wipeE, backE, callR, ioIx, slotsOf, putOuts, ao_t, outsAt, l1_0, l2_0, l2_1, l3_0, l3_1, l3_2, h1, g1, ni, m_decided, b_decided, nb1], by simp [fam__law_value, runF, b__law_value, argsE, argV, eV, t_0, t_1, t_2, sl1, lcR, lcL, gN, wipeE, backE, callR, ioIx, slotsOf, putOuts, ao_l, outsAt, l1_0, l2_0, l2_1, l3_0, l3_1, l3_2, forL, clrE, dInt_b, h2, g2, ni, nb1]⟩
  · exact ⟨.bl false, vb _, by simp [fam_value_of, runF, b_value_of, argsE, argV, eV, t_0, t_1, t_2, sl1, lcR, lcL, gN, wipeE, backE, callR, ioIx, slotsOf, putOuts, ao_t, outsAt, l1_0, l2_0, l2_1, l3_0, l3_1, l3_2, h1, g1, ni, m_decided, b_decided, nb1], by simp [fam__law_value, runF, b__law_value, argsE, argV, eV, t_0, t_1, t_2, sl1, lcR, lcL, gN, wipeE, backE, callR, ioIx, slotsOf, putOuts, ao_l, outsAt, l1_0, l2_0, l2_1, l3_0, l3_1, l3_2, forL, clrE, dInt_b, h2, g2, ni, nb1]⟩
  · exact ⟨.bl false, vb _, by simp [fam_value_of, runF, b_value_of, argsE, argV, eV, t_0, t_1, t_2, sl1, lcR, lcL, gN, wipeE, backE, callR, ioIx, slotsOf, putOuts, ao_t, outsAt, l1_0, l2_0, l2_1, l3_0, l3_1, l3_2, h1, g1, ni, m_decided, b_decided, nb1], by simp [fam__law_value, runF, b__law_value, argsE, argV, eV, t_0, t_1, t_2, sl1, lcR, lcL, gN, wipeE, backE, callR, ioIx, slotsOf, putOuts, ao_l, outsAt, l1_0, l2_0, l2_1, l3_0, l3_1, l3_2, forL, clrE, dInt_b, h2, g2, ni, nb1]⟩
  · exact ⟨.bl false, vb _, by simp [fam_value_of, runF, b_value_of, argsE, argV, eV, t_0, t_1, t_2, sl1, lcR, lcL, gN, wipeE, backE, callR, ioIx, slotsOf, putOuts, ao_t, outsAt, l1_0, l2_0, l2_1, l3_0, l3_1, l3_2, h1, g1, ni, m_decided, b_decided, nb1], by simp [fam__law_value, runF, b__law_value, argsE, argV, eV, t_0, t_1, t_2, sl1, lcR, lcL, gN, wipeE, backE, callR, ioIx, slotsOf, putOuts, ao_l, outsAt, l1_0, l2_0, l2_1, l3_0, l3_1, l3_2, forL, clrE, dInt_b, h2, g2, ni, nb1]⟩
  · exact ⟨.non, .inl rfl, by simp [fam_value_of, runF, b_value_of, argsE, argV, eV, t_0, t_1, t_2, sl1, lcR, lcL, gN, wipeE, backE, callR, ioIx, slotsOf, putOuts, ao_t, outsAt, l1_0, l2_0, l2_1, l3_0, l3_1, l3_2, h1, g1, ni, m_decided, b_decided, nb1], by simp [fam__law_value, runF, b__law_value, argsE, argV, eV, t_0, t_1, t_2, sl1, lcR, lcL, gN, wipeE, backE, callR, ioIx, slotsOf, putOuts, ao_l, outsAt, l1_0, l2_0, l2_1, l3_0, l3_1, l3_2, forL, clrE, dInt_b, h2, g2, ni, nb1]⟩
  · exact ⟨.bl true, vb _, by simp [fam_value_of, runF, b_value_of, argsE, argV, eV, t_0, t_1, t_2, sl1, lcR, lcL, gN, wipeE, backE, callR, ioIx, slotsOf, putOuts, ao_t, outsAt, l1_0, l2_0, l2_1, l3_0, l3_1, l3_2, h1, g1, ni, m_decided, b_decided, nb1], by simp [fam__law_value, runF, b__law_value, argsE, argV, eV, t_0, t_1, t_2, sl1, lcR, lcL, gN, wipeE, backE, callR, ioIx, slotsOf, putOuts, ao_l, outsAt, l1_0, l2_0, l2_1, l3_0, l3_1, l3_2, forL, clrE, dInt_b, h2, g2, ni, nb1]⟩
  · exact ⟨.non, .inl rfl, by simp [fam_value_of, runF, b_value_of, argsE, argV, eV, t_0, t_1, t_2, sl1, lcR, lcL, gN, wipeE, backE, callR, ioIx, slotsOf, putOuts, ao_t, outsAt, l1_0, l2_0, l2_1, l3_0, l3_1, l3_2, h1, g1, ni, m_decided, b_decided, nb1], by simp [fam__law_value, runF, b__law_value, argsE, argV, eV, t_0, t_1, t_2, sl1, lcR, lcL, gN, wipeE, backE, callR, ioIx, slotsOf, putOuts, ao_l, outsAt, l1_0, l2_0, l2_1, l3_0, l3_1, l3_2, forL, clrE, dInt_b, h2, g2, ni, nb1]⟩
  · exact ⟨.bl true, vb _, by simp [fam_value_of, runF, b_value_of, argsE, argV, eV, t_0, t_1, t_2, sl1, lcR, lcL, gN, wipeE, backE, callR, ioIx, slotsOf, putOuts, ao_t, outsAt, l1_0, l2_0, l2_1, l3_0, l3_1, l3_2, h1, g1, ni, m_decided, b_decided, nb1], by simp [fam__law_value, runF, b__law_value, argsE, argV, eV, t_0, t_1, t_2, sl1, lcR, lcL, gN, wipeE, backE, callR, ioIx, slotsOf, putOuts, ao_l, outsAt, l1_0, l2_0, l2_1, l3_0, l3_1, l3_2, forL, clrE, dInt_b, h2, g2, ni, nb1]⟩
  · exact ⟨.bl true, vb _, by simp [fam_value_of, runF, b_value_of, argsE, argV, eV, t_0, t_1, t_2, sl1, lcR, lcL, gN, wipeE, backE, callR, ioIx, slotsOf, putOuts, ao_t, outsAt, l1_0, l2_0, l2_1, l3_0, l3_1, l3_2, h1, g1, ni, m_decided, b_decided, nb1], by simp [fam__law_value, runF, b__law_value, argsE, argV, eV, t_0, t_1, t_2, sl1, lcR, lcL, gN, wipeE, backE, callR, ioIx, slotsOf, putOuts, ao_l, outsAt, l1_0, l2_0, l2_1, l3_0, l3_1, l3_2, forL, clrE, dInt_b, h2, g2, ni, nb1]⟩
  · exact ⟨.bl true, vb _, by simp [fam_value_of, runF, b_value_of, argsE, argV, eV, t_0, t_1, t_2, sl1, lcR, lcL, gN, wipeE, backE, callR, ioIx, slotsOf, putOuts, ao_t, outsAt, l1_0, l2_0, l2_1, l3_0, l3_1, l3_2, h1, g1, ni, m_decided, b_decided, nb1], by simp [fam__law_value, runF, b__law_value, argsE, argV, eV, t_0, t_1, t_2, sl1, lcR, lcL, gN, wipeE, backE, callR, ioIx, slotsOf, putOuts, ao_l, outsAt, l1_0, l2_0, l2_1, l3_0, l3_1, l3_2, forL, clrE, dInt_b, h2, g2, ni, nb1]⟩
  · exact ⟨.non, .inl rfl, by simp [fam_value_of, runF, b_value_of, argsE, argV, eV, t_0, t_1, t_2, sl1, lcR, lcL, gN, wipeE, backE, callR, ioIx, slotsOf, putOuts, ao_t, outsAt, l1_0, l2_0, l2_1, l3_0, l3_1, l3_2, h1, g1, ni, m_decided, b_decided, nb1], by simp [fam__law_value, runF, b__law_value, argsE, argV, eV, t_0, t_1, t_2, sl1, lcR, lcL, gN, wipeE, backE, callR, ioIx, slotsOf, putOuts, ao_l, outsAt, l1_0, l2_0, l2_1, l3_0, l3_1, l3_2, forL, clrE, dInt_b, h2, g2, ni, nb1]⟩
  · exact ⟨.bl true, vb _, by simp [fam_value_of, runF, b_value_of, argsE, argV, eV, t_0, t_1, t_2, sl1, lcR, lcL, gN, wipeE, backE, callR, ioIx, slotsOf, putOuts, ao_t, outsAt, l1_0, l2_0, l2_1, l3_0, l3_1, l3_2, h1, g1, ni, m_decided, b_decided, nb1], by simp [fam__law_value, runF, b__law_value, argsE, argV, eV, t_0, t_1, t_2, sl1, lcR, lcL, gN, wipeE, backE, callR, ioIx, slotsOf, putOuts, ao_l, outsAt, l1_0, l2_0, l2_1, l3_0, l3_1, l3_2, forL, clrE, dInt_b, h2, g2, ni, nb1]⟩
  · exact ⟨.bl false, vb _, by simp [fam_value_of, runF, b_value_of, argsE, argV, eV, t_0, t_1, t_2, sl1, lcR, lcL, gN, wipeE, backE, callR, ioIx, slotsOf, putOuts, ao_t, outsAt, l1_0, l2_0, l2_1, l3_0, l3_1, l3_2, h1, g1, ni, m_decided, b_decided, nb1], by simp [fam__law_value, runF, b__law_value, argsE, argV, eV, t_0, t_1, t_2, sl1, lcR, lcL, gN, wipeE, backE, callR, ioIx, slotsOf, putOuts, ao_l, outsAt, l1_0, l2_0, l2_1, l3_0, l3_1, l3_2, forL, clrE, dInt_b, h2, g2, ni, nb1]⟩
end
end Mi

namespace Mi
open PySem L2
/-! ### the place of a name in rows -/
abbrev Row := String × List D
def rowsD (rs : List Row) : List D := rs.map fun r => .tup (.str (Str.ofString r.1) :: r.2)
structure First (rs : List Row) (n : String) (j : Nat) : Prop where
  at_ : ∃ t, rs[j]? = some (n, t)
  no : ∀ i, i < j → ∀ r, rs[i]? = some r → r.1 ≠ n
theorem first_idx : ∀ (rs : List Row) (n : String), (∃ r ∈ rs, r.1 = n) → ∃ j, First rs n j
  | [], _, h => by obtain ⟨_, h, _⟩ := h; cases h
  | r :: rs, n, h => by
    by_cases c : r.1 = n
    · refine ⟨0, ⟨r.2, by rw [List.getElem?_cons_zero, ← c]⟩, fun i hi => absurd hi (Nat.not_lt_zero i)⟩
    · obtain ⟨q, hq, e⟩ := h
      rcases List.mem_cons.mp hq with rfl | hq
      · exact absurd e c
      · obtain ⟨j, ⟨t, h1⟩, h2⟩ := first_idx rs n ⟨q, hq, e⟩
        refine ⟨j + 1, ⟨t, by rw [List.getElem?_cons_succ]; exact h1⟩, fun i hi r' hr => ?_⟩
        cases i with
        | zero => cases hr; exact c
        | succ i => exact h2 i (by omega) r' (by simpa using hr)
theorem dIx_t (xs : List D) (j : Nat) (h : j < xs.length) : dIx (.tup xs) (.int j) = xs[j]? := by
  show atI _ _ = _
  rw [atI_get _ _ (by omega) (by omega), Int.toNat_natCast]
theorem index_eq {rs : List Row} {n : String} {j : Nat} (h : First rs n j) (hl : rs.length ≤ 1000) : m__index_of [.shr (.tup (rowsD rs)), .shr (.str (Str.ofString n))] = .ret false (.int j) [] := by
  have hrl : (rowsD rs).length = rs.length := List.length_map ..
  have key : ∀ m i : Nat, i + m = rs.length → i ≤ j → ∃ e, forL (gN 2) (mIf (eTest (eOp dEq (eOp dIx (eOp dIx (eV 0) (eV 2)) (eC (.int 0))) (eV 1))) (mRet (eV 2)) mNx) [2] ((List.range' i m).map fun (k : Nat) => D.int (k : Int)) [some (.shr (.tup (rowsD rs))), some (.shr (.str (Str.ofString n))), none] = .ok (.rt false (.int j)) e := by
    intro m
    induction m with
    | zero =>
      intro i h1 h2
      obtain ⟨t, ht⟩ := h.at_
      obtain ⟨hlt, _⟩ := List.getElem?_eq_some_iff.mp ht
      omega
    | succ m ih =>
      intro i h1 h2
      rw [List.range'_succ, List.map_cons]
      have hi : i < rs.length := by omega
      have hx : dIx (.tup (rowsD rs)) (.int i) = some (.tup (.str (Str.ofString rs[i].1) :: rs[i].2)) := by
        rw [dIx_t _ _ (by rw [hrl]; exact hi), rowsD, List.getElem?_map, List.getElem?_eq_getElem hi]; rfl
      by_cases c : i = j
      · subst c
        obtain ⟨t, ht⟩ := h.at_
        rw [List.getElem?_eq_getElem hi] at ht
        have hn : rs[i].1 = n := by rw [Option.some.inj ht]
        refine ⟨_, forL_rt (env2 := [some (.shr (.tup (rowsD rs))), some (.shr (.str (Str.ofString n))), some (.shr (.int i))]) rfl ?_⟩
        simp [eV, hx, t_0, hn]
      · have hn : rs[i].1 ≠ n := h.no i (by omega) _ (List.getElem?_eq_getElem hi)
        rw [forL_nx (env2 := [some (.shr (.tup (rowsD rs))), some (.shr (.str (Str.ofString n))), some (.shr (.int i))]) rfl (by simp [eV, hx, t_0, hn])]
        exact ih (i + 1) (by omega) (by omega)
  obtain ⟨e, h1⟩ := key rs.length 0 (by omega) (Nat.zero_le _)
  have rg : rngD 0 rs.length = (List.range' 0 rs.length).map fun (k : Nat) => D.int (k : Int) := by
    rw [rngD_drop, List.range_eq_range']
  rw [← rg] at h1
  have s62 : small62 (rs.length : Int) = true := small_of (by omega) (by omega)
  simp [m__index_of, runF, b__index_of, argsE, eV, outsAt, hrl, iR1F_ok s62, h1]
theorem lix_eq {rs : List Row} {n : String} {j : Nat} (h : First rs n j) : dLIx (.lst (rs.map fun r => .str (Str.ofString r.1))) (.str (Str.ofString n)) = some (.int j) := by
  have hs := toVs_strs (rs.map Prod.fst)
  rw [List.map_map, List.map_map] at hs
  have hj : ((rs.map fun r => V.str (Str.ofString r.1)).findIdx? fun z => eqV z (.str (Str.ofString n))) = some j := by
    obtain ⟨t, ht⟩ := h.at_
    obtain ⟨hlt, ht2⟩ := List.getElem?_eq_some_iff.mp ht
    rw [List.findIdx?_eq_some_iff_getElem]
    refine ⟨by rw [List.length_map]; exact hlt, ?_, fun i hi => ?_⟩
    · rw [List.getElem_map, ht2]
      show (Str.ofString n == Str.ofString n) = true
      simp
    · rw [List.getElem_map]
      have := h.no i hi _ (List.getElem?_eq_getElem (by omega))
      show ¬ (Str.ofString _ == Str.ofString n) = true
      rw [beq_iff_eq]
      exact fun z => this (ofString_inj.mp z)
  show ((toVs (rs.map fun r => D.str (Str.ofString r.1))).bind fun us => (toV (.str (Str.ofString n))).bind fun u => (us.findIdx? fun z => eqV z u).map fun j => D.int (j : Nat)) = _
  rw [show toVs (rs.map fun r => D.str (Str.ofString r.1)) = some (rs.map fun r => V.str (Str.ofString r.1)) from hs]
  show (((rs.map fun r => V.str (Str.ofString r.1)).findIdx? fun z => eqV z (.str (Str.ofString n))).map fun j => D.int (j : Nat)) = _
  rw [hj]; rfl
@[simp] theorem eLIx_ap {mo me : M D} {env : En} : eLIx mo me env = (mo env).bind fun d => if isLs d = true then me.bind fun b => ofO (dLIx d b) else fun _ => .stuck := rfl
@[simp] theorem isLs_l (xs : List D) : isLs (.lst xs) = true := rfl
section
variable {ds : List Dm} {ks : List String} {pl vs : List D}
def attrR (ks : List String) : List Row := (abcd.zip ks).map fun p => (p.1, [D.str (Str.ofString p.2)])
def dimR (ds : List Dm) : List Row := ds.map fun d => (d.n, [D.int d.lo, .int d.hi, .int d.st])
theorem attrR_eq (ks : List String) : attrsD ks = rowsD (attrR ks) := by simp [attrsD, attrD, rowsD, attrR]
theorem dimR_eq (ds : List Dm) : ds.map dimD = rowsD (dimR ds) := by
  simp only [rowsD, dimR, List.map_map]; rfl
theorem attr_leaf (ok : ShOk ds ks) (hv : RkV ks vs) {j : Nat} {p : String × String} (h : (abcd.zip ks)[j]? = some p) (n : Nat) : ∃ v, VK p.2 v ∧ Both ds ks pl vs (n + 1) (.tup [.str (Str.ofString "attr"), .str (Str.ofString p.1)]) v := by
  obtain ⟨q1, q2⟩ := List.getElem?_zip_eq_some.mp h
  have hmem : ∃ r ∈ attrR ks, r.1 = p.1 := ⟨(p.1, [D.str (Str.ofString p.2)]), List.mem_map.mpr ⟨p, List.mem_of_getElem? h, rfl⟩, rfl⟩
  obtain ⟨i, hi⟩ := first_idx _ _ hmem
  have hij : i = j := by
    obtain ⟨t, ht⟩ := hi.at_
    unfold attrR at ht
    rw [List.getElem?_map] at ht
    obtain ⟨p', e1, e2⟩ := Option.map_eq_some_iff.mp ht
    obtain ⟨r1, _⟩ := List.getElem?_zip_eq_some.mp e1
    have e3 : p'.1 = p.1 := (Prod.mk.inj e2).1
    have hlt : i < abcd.length := (List.getElem?_eq_some_iff.mp r1).1
    exact (List.getElem?_inj hlt (by decide)).mp (by rw [r1, q1, e3])
  subst hij
  obtain ⟨v, hv1, hv2⟩ := hv.get q2
  have hlt : i < vs.length := (List.getElem?_eq_some_iff.mp hv1).1
  have hl : (attrR ks).length ≤ 1000 := by
    unfold attrR
    rw [List.length_map, List.length_zip]
    have := ok.a4
    omega
  have hx := index_eq hi hl
  have hy := lix_eq hi
  have hz : dIx (.tup vs) (.int i) = some v := by rw [dIx_t _ _ hlt, hv1]
  have fa := fGet_attrs ds ks
  rw [attrR_eq] at fa
  have ai : m_attr_index [.shr (shD ds ks), .shr (.str (Str.ofString p.1))] = .ret false (.int i) [] := by
    simp [m_attr_index, runF, b_attr_index, argsE, eV, fa, callR, ioIx, slotsOf, putOuts, hx, outsAt]
  have lm := lc_map (g := gT [gN 10, gN 11]) (m := eV 10) (vs := [10, 11]) (env := [some (.shr (.tup [.str (Str.ofString "attr"), .str (Str.ofString p.1)])), some (.shr (shD ds ks)), some (.shr (.tup pl)), some (.shr (.tup vs)), some (.shr (.str (Str.ofString "attr"))), none, none, none, none, none, none, none]) (fun d => match d with
    | .tup (x :: _) => x
    | x => x) (rowsD (attrR ks)) (by
      intro x hx
      unfold attrR rowsD at hx
      rw [List.map_map] at hx
      obtain ⟨q, _, rfl⟩ := List.mem_map.mp hx
      exact ⟨_, _, rfl, rfl, rfl⟩)
  have hmap : (rowsD (attrR ks)).map (fun d => match d with
    | .tup (x :: _) => x
    | x => x) = (attrR ks).map fun r => .str (Str.ofString r.1) := by
    unfold rowsD
    rw [List.map_map]; rfl
  rw [hmap] at lm
  have hl2 : (rowsD (attrR ks)).length ≤ 16777216 := by
    unfold rowsD
    rw [List.length_map]; omega
  refine ⟨v, hv2, ?_, ?_⟩
  · simp [fam_value_of, runF, b_value_of, argsE, argV, eV, t_0, t_1, callR, ioIx, slotsOf, putOuts, outsAt, ai, hz]
  · simp [fam__law_value, runF, b__law_value, argsE, argV, eV, t_0, t_1, fa, lcR, hl2, wipeE, backE, lm, hy, hz, outsAt]
theorem dim_leaf (ok : ShOk ds ks) (hp : pl.length = ds.length) (hp2 : ∀ p ∈ pl, ∃ i : Int, p = .int i ∧ -10 ≤ i ∧ i ≤ 10) {j : Nat} {d : Dm} (h : ds[j]? = some d) (n : Nat) : ∃ v, VK "int" v ∧ Both ds ks pl vs (n + 1) (.tup [.str (Str.ofString "dim"), .str (Str.ofString d.n)]) v := by
  have hmem : ∃ r ∈ dimR ds, r.1 = d.n := ⟨(d.n, [D.int d.lo, .int d.hi, .int d.st]), List.mem_map.mpr ⟨d, List.mem_of_getElem? h, rfl⟩, rfl⟩
  obtain ⟨i, hi⟩ := first_idx _ _ hmem
  have hil : i < pl.length := by
    obtain ⟨t, ht⟩ := hi.at_
    have := (List.getElem?_eq_some_iff.mp ht).1
    unfold dimR at this
    rw [List.length_map] at this
    omega
  obtain ⟨q, hq, q1, q2⟩ := hp2 pl[i] (List.getElem_mem hil)
  have hl : (dimR ds).length ≤ 1000 := by
    unfold dimR
    rw [List.length_map]
    have := ok.d3
    omega
  have hx := index_eq hi hl
  have hy := lix_eq hi
  have hz : dIx (.tup pl) (.int i) = some (.int q) := by rw [dIx_t _ _ hil, List.getElem?_eq_getElem hil, hq]
  have fa := fGet_dims ds ks
  rw [dimR_eq] at fa
  have ai : m_dim_index [.shr (shD ds ks), .shr (.str (Str.ofString d.n))] = .ret false (.int i) [] := by
    simp [m_dim_index, runF, b_dim_index, argsE, eV, fa, callR, ioIx, slotsOf, putOuts, hx, outsAt]
  have lm := lc_map (g := gN 9) (m := eOp dIx (eV 9) (eC (.int 0))) (vs := [9]) (env := [some (.shr (.tup [.str (Str.ofString "dim"), .str (Str.ofString d.n)])), some (.shr (shD ds ks)), some (.shr (.tup pl)), some (.shr (.tup vs)), some (.shr (.str (Str.ofString "dim"))), none, none, none, none, none, none, none]) (fun d => match d with
    | .tup (x :: _) => x
    | x => x) (rowsD (dimR ds)) (by
      intro x hx
      unfold rowsD at hx
      obtain ⟨q, _, rfl⟩ := List.mem_map.mp hx
      refine ⟨_, [some (.shr (.tup [.str (Str.ofString "dim"), .str (Str.ofString d.n)])), some (.shr (shD ds ks)), some (.shr (.tup pl)), some (.shr (.tup vs)), some (.shr (.str (Str.ofString "dim"))), none, none, none, none, some (.shr (.tup (.str (Str.ofString q.1) :: q.2))), none, none], rfl, ?_, rfl⟩
      simp [eV, t_0])
  have hmap : (rowsD (dimR ds)).map (fun d => match d with
    | .tup (x :: _) => x
    | x => x) = (dimR ds).map fun r => .str (Str.ofString r.1) := by
    unfold rowsD
    rw [List.map_map]; rfl
  rw [hmap] at lm
  have hl2 : (rowsD (dimR ds)).length ≤ 16777216 := by
    unfold rowsD
    rw [List.length_map]; omega
  refine ⟨.int q, .inr (.inl ⟨rfl, q, rfl, by omega, by omega⟩), ?_, ?_⟩
  · simp [fam_value_of, runF, b_value_of, argsE, argV, eV, t_0, t_1, callR, ioIx, slotsOf, putOuts, outsAt, ai, hz]
  · simp [fam__law_value, runF, b__law_value, argsE, argV, eV, t_0, t_1, fa, lcR, hl2, wipeE, backE, lm, hy, hz, outsAt]
theorem value_leaf {k : String} {v : D} (h : VK k v) (n : Nat) : ∃ u, VK k u ∧ Both ds ks pl vs (n + 1) (.tup [.str (Str.ofString "value"), .str (Str.ofString k), v]) u := by
  refine ⟨v, h, ?_, ?_⟩
  · simp [fam_value_of, runF, b_value_of, argsE, argV, eV, t_0, t_1, t_2, outsAt]
  · simp [fam__law_value, runF, b__law_value, argsE, argV, eV, t_0, t_1, t_2, outsAt]
end
end Mi

namespace Mi
open PySem L2
section
variable {ds : List Dm} {ks : List String} {pl vs : List D}
theorem val_eq (ok : ShOk ds ks) (hp : pl.length = ds.length) (hp2 : ∀ p ∈ pl, ∃ i : Int, p = .int i ∧ -10 ≤ i ∧ i ≤ 10) (hv : RkV ks vs) {k : String} {d : D} {n : Nat} (h : Ex ds ks k d n) : ∃ v, VK k v ∧ Both ds ks pl vs (n + 1) d v := by
  induction h with
  | attr n h => exact attr_leaf ok hv h n
  | dim n h => exact dim_leaf ok hp hp2 h n
  | value n hk h => exact value_leaf h n
  | nt _ ih => obtain ⟨x, hx, hb⟩ := ih; exact case_not hx hb
  | mis hk _ ih => obtain ⟨x, hx, hb⟩ := ih; exact case_mis hx.flat hb
  | len _ ih => obtain ⟨x, hx, hb⟩ := ih; exact case_len hx hb
  | sgn hw _ ih => obtain ⟨x, hx, hb⟩ := ih; exact case_sgn hw hx hb
  | dec hw _ _ ih ih2 => obtain ⟨x, hx, hb⟩ := ih; obtain ⟨y, hy, hc⟩ := ih2; exact case_dec hw hx hy hb hc
  | cmp hw hk _ _ ih ih2 => obtain ⟨x, hx, hb⟩ := ih; obtain ⟨y, hy, hc⟩ := ih2; exact case_cmp hw hx hy hb hc
  | join _ _ ih ih2 => obtain ⟨x, hx, hb⟩ := ih; obtain ⟨y, hy, hc⟩ := ih2; exact case_join hx hy hb hc
  | ar hw _ _ ih ih2 => obtain ⟨x, hx, hb⟩ := ih; obtain ⟨y, hy, hc⟩ := ih2; exact case_ar hw hx hy hb hc
  | els hk _ _ ih ih2 => obtain ⟨x, hx, hb⟩ := ih; obtain ⟨y, hy, hc⟩ := ih2; exact case_els hx hy hb hc
  | cond hk _ _ _ ih0 ih ih2 => obtain ⟨z, hz, ha⟩ := ih0; obtain ⟨x, hx, hb⟩ := ih; obtain ⟨y, hy, hc⟩ := ih2; exact case_cond hz hx hy ha hb hc
end
end Mi

namespace Mi
open PySem L2
/-- a comprehension with a test, pure -/
theorem lc_filter {g : D → En → Option En} {t : M Bool} {m : M D} {vs : List Nat} {env : En} (p : D → Bool) (F : D → D) : ∀ (xs : List D), (∀ x ∈ xs, ∃ env1, g x env = some env1 ∧ t env1 = .ok (p x) env1 ∧ m env1 = .ok (F x) env1 ∧ wipeE env1 vs = env) → lcL g t m vs xs env = .ok ((xs.filter p).map F) env
  | [], _ => rfl
  | x :: xs, h => by
    obtain ⟨env1, h0, h1, h2, h3⟩ := h x List.mem_cons_self
    have ih := lc_filter p F xs fun y hy => h y (List.mem_cons_of_mem _ hy)
    cases hp : p x with
    | true =>
      rw [hp] at h1
      simp only [lcL, h0, h1, h2, h3, ih, List.filter_cons, hp, if_true, List.map_cons]
    | false =>
      rw [hp] at h1
      simp only [lcL, h0, h1, h3, ih, List.filter_cons, hp]
      rfl
section
variable {L : List Int} (h0 : 0 < L.length) (hl : L.length ≤ 100000) {ds : List Dm} {ks : List String}
include h0 hl
theorem leaf_eq (ok : ShOk ds ks) {k : String} (hk : Kd k) (a : Nat) : ∃ e a', m__law_leaf [.own true (stD L a), .shr (shD ds ks), .shr (.str (Str.ofString k))] = .ret false e [stD L a'] ∧ ∀ n, Ex ds ks k e n := by
  have fa := fGet_attrs ds ks
  have fd := fGet_dims ds ks
  have hlen : (attrsD ks).length ≤ 4 := by
    unfold attrsD
    rw [List.length_map, List.length_zip]
    have : abcd.length = 4 := rfl
    omega
  have hl2 : (attrsD ks).length ≤ 16777216 := by omega
  have lf := lc_filter (g := gT [gN 5, gN 6]) (t := eTest (eOp dEq (eV 6) (eV 2))) (m := eV 5) (vs := [5, 6]) (env := [some (.own true (stD L a)), some (.shr (shD ds ks)), some (.shr (.str (Str.ofString k))), none, none, none, none]) (fun d => match d with
    | .tup [_, .str y] => decide (y = Str.ofString k)
    | _ => false) (fun d => match d with
    | .tup (x :: _) => x
    | x => x) (attrsD ks) (by
      intro x hx
      obtain ⟨q, _, rfl⟩ := List.mem_map.mp hx
      refine ⟨[some (.own true (stD L a)), some (.shr (shD ds ks)), some (.shr (.str (Str.ofString k))), none, none, some (.shr (.str (Str.ofString q.1))), some (.shr (.str (Str.ofString q.2)))], rfl, ?_, rfl, rfl⟩
      simp [eV, attrD, ofString_inj])
  have hnm : ∀ z ∈ ((attrsD ks).filter (fun d => match d with
    | .tup [_, .str y] => decide (y = Str.ofString k)
    | _ => false)).map (fun d => match d with
    | .tup (x :: _) => x
    | x => x), ∃ (j : Nat) (p : String × String), (abcd.zip ks)[j]? = some p ∧ p.2 = k ∧ z = .str (Str.ofString p.1) := by
    intro z hz
    obtain ⟨d, hd, rfl⟩ := List.mem_map.mp hz
    obtain ⟨hd1, hd2⟩ := List.mem_filter.mp hd
    obtain ⟨p, hp, rfl⟩ := List.mem_map.mp hd1
    obtain ⟨j, hj⟩ := List.getElem?_of_mem hp
    exact ⟨j, p, hj, ofString_inj.mp (of_decide_eq_true hd2), rfl⟩
  have hnl : (((attrsD ks).filter (fun d => match d with
    | .tup [_, .str y] => decide (y = Str.ofString k)
    | _ => false)).map (fun d => match d with
    | .tup (x :: _) => x
    | x => x)).length ≤ 4 := by
    rw [List.length_map]
    exact Nat.le_trans (List.length_filter_le _ _) hlen
  generalize ((attrsD ks).filter (fun d => match d with
    | .tup [_, .str y] => decide (y = Str.ofString k)
    | _ => false)).map (fun d => match d with
    | .tup (x :: _) => x
    | x => x) = nms at lf hnm hnl
  have n6 := next_eq (a := a) h0 hl (show (0 : Int) < 6 by decide)
  obtain ⟨th, a2, e2, kv2⟩ := thing_k h0 hl hk (a + 1)
  obtain ⟨th3, a3, e3, kv3⟩ := thing_k h0 hl hk (a + 1 + 1)
  have n3 := next_eq (a := a + 1) h0 hl (show (0 : Int) < 3 by decide)
  by_cases c1 : nv L a 6 < 3 ∧ 0 < nms.length
  · obtain ⟨c1, c2⟩ := c1
    have c2' : (0 : Int) < (nms.length : Int) := by omega
    have nn := next_eq (a := a + 1) h0 hl c2'
    obtain ⟨z, e1, j, p, hj, hk2, rfl⟩ := dIx_all (P := fun z => ∃ (j : Nat) (p : String × String), (abcd.zip ks)[j]? = some p ∧ p.2 = k ∧ z = .str (Str.ofString p.1)) hnm (i := nv L (a + 1) nms.length) (nv_ge c2') (nv_lt c2')
    refine ⟨.tup [.str (Str.ofString "attr"), .str (Str.ofString p.1)], a + 1 + 1, ?_, fun n => by rw [← hk2]; exact .attr n hj⟩
    simp [m__law_leaf, runF, b__law_leaf, argsE, eV, fa, lcR, hl2, wipeE, backE, lf, callR, rIo, getOwn, ioIx, slotsOf, putOuts, n6, c1, c2, nn, e1, outsAt]
  · have t1 : ∀ e : En, e[4]? = some (some (.shr (.int (nv L a 6)))) → e[3]? = some (some (.shr (.lst nms))) → bAnd (eTest (eOp dLt (eV 4) (eC (.int 3)))) (eTest (eOp dGt (eCB dLen (aCons (eV 3) aNil)) (eC (.int 0)))) e = .ok false e := by
      intro e he1 he2
      by_cases c2 : nv L a 6 < 3
      · have c3 : ¬ 0 < nms.length := fun z => c1 ⟨c2, z⟩
        simp [eV, he1, he2, c2, c3]
      · simp [eV, he1, he2, c2]
    by_cases c3 : nv L a 6 < 4 ∧ k = "int"
    · obtain ⟨c3, rfl⟩ := c3
      have dl : (0 : Int) < (ds.length : Int) := by have := ok.d1; omega
      have nd := next_eq (a := a + 1) h0 hl dl
      have hix : ∃ (j : Nat) (d : Dm), ds[j]? = some d ∧ dIx (.tup (ds.map dimD)) (.int (nv L (a + 1) ds.length)) = some (dimD d) := by
        have g1 := nv_ge (nums := L) (a := a + 1) dl
        have g2 := nv_lt (nums := L) (a := a + 1) dl
        have hj : (nv L (a + 1) ds.length).toNat < ds.length := by omega
        refine ⟨(nv L (a + 1) ds.length).toNat, ds[(nv L (a + 1) ds.length).toNat], List.getElem?_eq_getElem hj, ?_⟩
        show atI _ _ = _
        rw [atI_get _ _ g1 (by rw [List.length_map]; exact g2), List.getElem?_map, List.getElem?_eq_getElem hj]; rfl
      obtain ⟨j, d, hj, e1⟩ := hix
      refine ⟨.tup [.str (Str.ofString "dim"), .str (Str.ofString d.n)], a + 1 + 1, ?_, fun n => .dim n hj⟩
      have z0 : dIx (dimD d) (.int 0) = some (.str (Str.ofString d.n)) := t_0 _ _
      simp [m__law_leaf, runF, b__law_leaf, argsE, eV, fa, fd, lcR, hl2, wipeE, backE, lf, callR, rIo, getOwn, ioIx, slotsOf, putOuts, n6, -bAnd_ap, t1, outsAt]
      simp [eV, c3, fd, nd, e1, z0, callR, rIo, getOwn, ioIx, slotsOf, putOuts, outsAt]
    · have t2 : ∀ e : En, e[4]? = some (some (.shr (.int (nv L a 6)))) → e[2]? = some (some (.shr (.str (Str.ofString k)))) → bAnd (eTest (eOp dLt (eV 4) (eC (.int 4)))) (eTest (eOp dEq (eV 2) (eC (.str "int")))) e = .ok false e := by
        intro e he1 he2
        by_cases c2 : nv L a 6 < 4
        · have c4 : ¬ k = "int" := fun z => c3 ⟨c2, z⟩
          simp [eV, he1, he2, c2, c4]
        · simp [eV, he1, he2, c2]
      by_cases c5 : nv L a 6 = 5
      · by_cases c6 : nv L (a + 1) 3 = 0
        · refine ⟨.tup [.str (Str.ofString "value"), .str (Str.ofString k), .non], a + 1 + 1, ?_, fun n => .value n hk (.inl rfl)⟩
          simp [m__law_leaf, runF, b__law_leaf, argsE, eV, fa, fd, lcR, hl2, wipeE, backE, lf, callR, rIo, getOwn, ioIx, slotsOf, putOuts, n6, -bAnd_ap, t1, t2, outsAt]
          simp [eV, c5, c6, n3, callR, rIo, getOwn, ioIx, slotsOf, putOuts, outsAt]
        · refine ⟨.tup [.str (Str.ofString "value"), .str (Str.ofString k), th3], a3, ?_, fun n => .value n hk (.inr kv3)⟩
          simp [m__law_leaf, runF, b__law_leaf, argsE, eV, fa, fd, lcR, hl2, wipeE, backE, lf, callR, rIo, getOwn, ioIx, slotsOf, putOuts, n6, -bAnd_ap, t1, t2, outsAt]
          simp [eV, c5, c6, n3, e3, callR, rIo, getOwn, ioIx, slotsOf, putOuts, outsAt]
      · refine ⟨.tup [.str (Str.ofString "value"), .str (Str.ofString k), th], a2, ?_, fun n => .value n hk (.inr kv2)⟩
        simp [m__law_leaf, runF, b__law_leaf, argsE, eV, fa, fd, lcR, hl2, wipeE, backE, lf, callR, rIo, getOwn, ioIx, slotsOf, putOuts, n6, -bAnd_ap, t1, t2, outsAt]
        simp [eV, c5, e2, callR, rIo, getOwn, ioIx, slotsOf, putOuts, outsAt]
end
end Mi

namespace Mi
open PySem L2
section
variable {L : List Int} (h0 : 0 < L.length) (hl : L.length ≤ 100000) {ds : List Dm} {ks : List String}
def EP (L : List Int) (ds : List Dm) (ks : List String) (f q : Nat) : Prop := ∀ k, Kd k → ∀ a, ∃ e a', (fam__law_expression f).1 [.own true (stD L a), .shr (shD ds ks), .shr (.str (Str.ofString k)), .shr (.int q)] = .ret false e [stD L a'] ∧ Ex ds ks k e q
def FP (L : List Int) (ds : List Dm) (ks : List String) (f q : Nat) : Prop := ∀ a, ∃ e a', (fam__law_expression f).2 [.own true (stD L a), .shr (shD ds ks), .shr (.int q)] = .ret false e [stD L a'] ∧ Ex ds ks "flag" e q
include h0 hl
theorem flag_step {f q : Nat} (hE : EP L ds ks f q) : FP L ds ks (f + 1) (q + 1) := by
  intro a
  have n9 := next_eq (a := a) h0 hl (show (0 : Int) < 9 by decide)
  have g9 := nv_ge (nums := L) (a := a) (show (0 : Int) < 9 by decide)
  have u9 := nv_lt (nums := L) (a := a) (show (0 : Int) < 9 by decide)
  have fl : Kd "flag" := .inr (.inl rfl)
  by_cases c0 : nv L a 9 = 0
  · obtain ⟨e, a1, e1, x1⟩ := hE "flag" fl (a + 1)
    refine ⟨_, a1, ?_, .nt x1⟩
    simp [fam__law_expression, runF, b__law_flag, argsE, eV, callR, rIo, getOwn, ioIx, slotsOf, putOuts, n9, c0, e1, outsAt]
  by_cases c1 : nv L a 9 = 1
  · have n3 := next_eq (a := a + 1) h0 hl (show (0 : Int) < 3 by decide)
    obtain ⟨z, d1, k, rfl, hk⟩ := dIx_all (P := fun z => ∃ k, z = .str (Str.ofString k) ∧ Kd k) (xs := [.str (Str.ofString "int"), .str (Str.ofString "flag"), .str (Str.ofString "text")]) (by
        intro x hx
        simp only [List.mem_cons, List.not_mem_nil, or_false] at hx
        rcases hx with rfl | rfl | rfl
        · exact ⟨_, rfl, .inl rfl⟩
        · exact ⟨_, rfl, .inr (.inl rfl)⟩
        · exact ⟨_, rfl, .inr (.inr rfl)⟩) (i := nv L (a + 1) 3) (nv_ge (by decide)) (nv_lt (by decide))
    obtain ⟨e, a1, e1, x1⟩ := hE k hk (a + 1 + 1)
    refine ⟨_, a1, ?_, .mis hk x1⟩
    simp [fam__law_expression, runF, b__law_flag, argsE, eV, callR, rIo, getOwn, ioIx, slotsOf, putOuts, n9, c0, c1, n3, d1, e1, outsAt]
  by_cases c4 : nv L a 9 < 4
  · have hw : ∃ w, dIx (.lst [.str (Str.ofString "and"), .str (Str.ofString "or")]) (.int (nv L a 9 - 2)) = some (.str (Str.ofString w)) ∧ (w = "and" ∨ w = "or") := by
      have : nv L a 9 = 2 ∨ nv L a 9 = 3 := by omega
      rcases this with h | h
      · exact ⟨"and", by rw [h]; rfl, .inl rfl⟩
      · exact ⟨"or", by rw [h]; rfl, .inr rfl⟩
    obtain ⟨w, d1, hw⟩ := hw
    obtain ⟨e, a1, e1, x1⟩ := hE "flag" fl (a + 1)
    obtain ⟨e', a2, e2, x2⟩ := hE "flag" fl a1
    refine ⟨_, a2, ?_, .dec hw x1 x2⟩
    simp [fam__law_expression, runF, b__law_flag, argsE, eV, callR, rIo, getOwn, ioIx, slotsOf, putOuts, n9, c0, c1, c4, d1, e1, e2, outsAt]
  · have n5 := next_eq (a := a + 1) h0 hl (show (0 : Int) < 5 by decide)
    have n6 := next_eq (a := a + 1 + 1) h0 hl (show (0 : Int) < 6 by decide)
    obtain ⟨z, d1, k, rfl, hk⟩ := dIx_all (P := fun z => ∃ k, z = .str (Str.ofString k) ∧ Kd k) (xs := [.str (Str.ofString "int"), .str (Str.ofString "int"), .str (Str.ofString "int"), .str (Str.ofString "text"), .str (Str.ofString "flag")]) (by
        intro x hx
        simp only [List.mem_cons, List.not_mem_nil, or_false] at hx
        rcases hx with rfl | rfl | rfl | rfl | rfl
        · exact ⟨_, rfl, .inl rfl⟩
        · exact ⟨_, rfl, .inl rfl⟩
        · exact ⟨_, rfl, .inl rfl⟩
        · exact ⟨_, rfl, .inr (.inr rfl)⟩
        · exact ⟨_, rfl, .inr (.inl rfl)⟩) (i := nv L (a + 1) 5) (nv_ge (by decide)) (nv_lt (by decide))
    obtain ⟨z, d2, w, rfl, hw⟩ := dIx_all (P := fun z => ∃ w, z = .str (Str.ofString w) ∧ CmW w) (xs := [.str (Str.ofString "eq"), .str (Str.ofString "ne"), .str (Str.ofString "lt"), .str (Str.ofString "le"), .str (Str.ofString "gt"), .str (Str.ofString "ge")]) (by
        intro x hx
        simp only [List.mem_cons, List.not_mem_nil, or_false] at hx
        unfold CmW
        rcases hx with rfl | rfl | rfl | rfl | rfl | rfl <;> exact ⟨_, rfl, by simp⟩) (i := nv L (a + 1 + 1) 6) (nv_ge (by decide)) (nv_lt (by decide))
    obtain ⟨e, a1, e1, x1⟩ := hE k hk (a + 1 + 1 + 1)
    obtain ⟨e', a2, e2, x2⟩ := hE k hk a1
    refine ⟨_, a2, ?_, .cmp hw hk x1 x2⟩
    simp [fam__law_expression, runF, b__law_flag, argsE, eV, callR, rIo, getOwn, ioIx, slotsOf, putOuts, n9, c0, c1, c4, n5, n6, d1, d2, e1, e2, outsAt]
theorem expr_zero (ok : ShOk ds ks) (f : Nat) : EP L ds ks (f + 1) 0 := by
  intro k hk a
  have n10 := next_eq (a := a) h0 hl (show (0 : Int) < 10 by decide)
  obtain ⟨e, a1, e1, x1⟩ := leaf_eq h0 hl ok hk (a + 1)
  refine ⟨e, a1, ?_, x1 0⟩
  simp [fam__law_expression, runF, b__law_expression, argsE, eV, callR, rIo, getOwn, ioIx, slotsOf, putOuts, n10, e1, outsAt]
theorem expr_step (ok : ShOk ds ks) {f q : Nat} (hE : EP L ds ks f q) (hF : FP L ds ks f (q + 1)) : EP L ds ks (f + 1) (q + 1) := by
  intro k hk a
  have n10 := next_eq (a := a) h0 hl (show (0 : Int) < 10 by decide)
  have fl : Kd "flag" := .inr (.inl rfl)
  have tx : Kd "text" := .inr (.inr rfl)
  have it : Kd "int" := .inl rfl
  have nq : ¬ ((q : Int) + 1 ≤ 0) := by omega
  by_cases c0 : nv L a 10 = 0
  · obtain ⟨e, a1, e1, x1⟩ := leaf_eq h0 hl ok hk (a + 1)
    refine ⟨e, a1, ?_, x1 _⟩
    simp [fam__law_expression, runF, b__law_expression, argsE, eV, callR, rIo, getOwn, ioIx, slotsOf, putOuts, n10, c0, nq, e1, outsAt]
  by_cases c1 : nv L a 10 = 1
  · obtain ⟨e, a1, e1, x1⟩ := hE k hk (a + 1)
    obtain ⟨e', a2, e2, x2⟩ := hE k hk a1
    obtain ⟨e'', a3, e3, x3⟩ := hE "flag" fl a2
    have cat : dAdd (.tup [.str (Str.ofString "if"), e'']) (.tup [e, e']) = some (.tup [.str (Str.ofString "if"), e'', e, e']) := rfl
    refine ⟨_, a3, ?_, .cond hk x3 x1 x2⟩
    simp [fam__law_expression, runF, b__law_expression, argsE, eV, callR, rIo, getOwn, ioIx, slotsOf, putOuts, n10, c0, c1, nq, e1, e2, e3, cat, outsAt]
  by_cases c2 : nv L a 10 = 2
  · obtain ⟨e, a1, e1, x1⟩ := hE k hk (a + 1)
    obtain ⟨e', a2, e2, x2⟩ := hE k hk a1
    refine ⟨_, a2, ?_, .els hk x1 x2⟩
    simp [fam__law_expression, runF, b__law_expression, argsE, eV, callR, rIo, getOwn, ioIx, slotsOf, putOuts, n10, c0, c1, c2, nq, e1, e2, outsAt]
  rcases hk with rfl | rfl | rfl
  · by_cases c3 : nv L a 10 = 3
    · obtain ⟨e, a1, e1, x1⟩ := hE "text" tx (a + 1)
      refine ⟨_, a1, ?_, .len x1⟩
      simp [fam__law_expression, runF, b__law_expression, argsE, eV, callR, rIo, getOwn, ioIx, slotsOf, putOuts, n10, c0, c1, c2, c3, nq, e1, outsAt]
    by_cases c4 : nv L a 10 = 4
    · have n2 := next_eq (a := a + 1) h0 hl (show (0 : Int) < 2 by decide)
      obtain ⟨z, d1, w, rfl, hw⟩ := dIx_all (P := fun z => ∃ w, z = .str (Str.ofString w) ∧ (w = "neg" ∨ w = "abs")) (xs := [.str (Str.ofString "neg"), .str (Str.ofString "abs")]) (by
        intro x hx
        simp only [List.mem_cons, List.not_mem_nil, or_false] at hx
        rcases hx with rfl | rfl <;> exact ⟨_, rfl, by simp⟩) (i := nv L (a + 1) 2) (nv_ge (by decide)) (nv_lt (by decide))
      obtain ⟨e, a1, e1, x1⟩ := hE "int" it (a + 1 + 1)
      refine ⟨_, a1, ?_, .sgn hw x1⟩
      simp [fam__law_expression, runF, b__law_expression, argsE, eV, callR, rIo, getOwn, ioIx, slotsOf, putOuts, n10, c0, c1, c2, c3, c4, nq, n2, d1, e1, outsAt]
    · have n5 := next_eq (a := a + 1) h0 hl (show (0 : Int) < 5 by decide)
      obtain ⟨z, d1, w, rfl, hw⟩ := dIx_all (P := fun z => ∃ w, z = .str (Str.ofString w) ∧ ArW w) (xs := [.str (Str.ofString "add"), .str (Str.ofString "sub"), .str (Str.ofString "mul"), .str (Str.ofString "div"), .str (Str.ofString "mod")]) (by
        intro x hx
        simp only [List.mem_cons, List.not_mem_nil, or_false] at hx
        unfold ArW
        rcases hx with rfl | rfl | rfl | rfl | rfl <;> exact ⟨_, rfl, by simp⟩) (i := nv L (a + 1) 5) (nv_ge (by decide)) (nv_lt (by decide))
      obtain ⟨e, a1, e1, x1⟩ := hE "int" it (a + 1 + 1)
      obtain ⟨e', a2, e2, x2⟩ := hE "int" it a1
      refine ⟨_, a2, ?_, .ar hw x1 x2⟩
      simp [fam__law_expression, runF, b__law_expression, argsE, eV, callR, rIo, getOwn, ioIx, slotsOf, putOuts, n10, c0, c1, c2, c3, c4, nq, n5, d1, e1, e2, outsAt]
  · obtain ⟨e, a1, e1, x1⟩ := hF (a + 1)
    refine ⟨e, a1, ?_, x1⟩
    have e1' : (fam__law_expression f).2 [Slot.own true (stD L (a + 1)), Slot.shr (shD ds ks), Slot.shr (D.int ((q : Int) + 1))] = .ret false e [stD L a1] := e1
    simp [fam__law_expression, runF, b__law_expression, argsE, eV, callR, rIo, getOwn, ioIx, slotsOf, putOuts, n10, c0, c1, c2, nq, e1', outsAt]
  · obtain ⟨e, a1, e1, x1⟩ := hE "text" tx (a + 1)
    obtain ⟨e', a2, e2, x2⟩ := hE "text" tx a1
    refine ⟨_, a2, ?_, .join x1 x2⟩
    simp [fam__law_expression, runF, b__law_expression, argsE, eV, callR, rIo, getOwn, ioIx, slotsOf, putOuts, n10, c0, c1, c2, nq, e1, e2, outsAt]
theorem expr_all (ok : ShOk ds ks) : ∀ q f : Nat, 2 * q + 1 ≤ f → EP L ds ks f q
  | 0, f + 1, _ => expr_zero h0 hl ok f
  | q + 1, f + 2, h => expr_step h0 hl ok (expr_all ok q (f + 1) (by omega)) (flag_step h0 hl (expr_all ok q f (by omega)))
  | 0, 0, h => by omega
  | q + 1, 0, h => by omega
  | q + 1, 1, h => by omega
end
end Mi

namespace Mi
open PySem L2
theorem sl_frz (ns : List Int) (m : Nat) : dSlL (.frz (ns.map D.int)) none (some (m : Int)) = some (.lst ((ns.take m).map D.int)) := by
  show some (D.lst (cutD _ _ _)) = _
  unfold cutD
  rw [HT.sIx_none, List.drop_zero, Nat.sub_zero, HT.sIx_nat, List.map_take]
  congr 2
  rw [List.take_eq_take_iff]
  omega
theorem is_value_ok {k : String} {v : D} (h : KV k v) : m_is_value [.shr (.str (Str.ofString k)), .shr v] = .ret false (.bl true) [] := by
  have ng : ∀ i, dNeg (.int i) = some (.int (-i)) := fun _ => rfl
  rcases h with ⟨rfl, i, rfl, h1, h2⟩ | ⟨rfl, b, rfl⟩ | ⟨rfl, s, rfl, o, l⟩
  · have h1' : -1000000000000000000000000000000 < i := by omega
    have h2' : i < 1000000000000000000000000000000 := by omega
    have e : m_is_integer [.shr (.int i)] = .ret false (.bl true) [] := by simp [m_is_integer, runF, b_is_integer, argsE, eV, outsAt]
    simp [m_is_value, runF, b_is_value, argsE, eV, outsAt, callR, ioIx, slotsOf, putOuts, e, ng, h1', h2']
  · simp [m_is_value, runF, b_is_value, argsE, eV, outsAt]
  · have ln : dLen [.str s] = some (.int s.length) := dLen_s s (by omega)
    have c : (s.length : Int) ≤ 200 := by omega
    simp [m_is_value, runF, b_is_value, argsE, eV, outsAt, ln, c, callR, ioIx, slotsOf, putOuts, is_text_eq o]
theorem VK.ne {k : String} {v : D} (h : VK k v) : dNe v v = some (.bl false) := by
  rcases h with rfl | ⟨_, i, rfl, _⟩ | ⟨_, b, rfl⟩ | ⟨_, s, rfl, o, _⟩
  · rfl
  · simp
  · simp
  · rw [dNe_s o.ok o.ok]; simp
def inB : M Fl := (mSeq (mSet 7 (eCall 2 m__law_place (rIo 1 (rSh (eFld "Shape" "dims" (eV 2)) rNil)))) (mSeq (mSet 8 (eCall 3 m__law_values (rIo 1 (rSh (eFld "Shape" "attrs" (eV 2)) (rSh (eC (.int 5)) rNil))))) (mSeq (mSet 9 (eCall 4 (m__law_value 8) (rSh (eV 5) (rSh (eV 2) (rSh (eV 7) (rSh (eV 8) rNil)))))) (mSeq (mSet 10 (eCall 4 (m_value_of 8) (rSh (eV 5) (rSh (eV 2) (rSh (eV 7) (rSh (eV 8) rNil)))))) (mSeq (mIf (bOr (eTest (eOp dNe (eV 10) (eV 9))) (eTest (eOp dNe (eIsN (eV 10)) (eIsN (eV 9))))) (mRet (eC (.bl false))) mNx) (mIf (bAnd (eTest (eNotN (eV 10))) (bNot (eTest (eCall 2 m_is_value (rSh (eV 4) (rSh (eV 10) rNil)))))) (mRet (eC (.bl false))) mNx))))))
def ouB : M Fl := (mSeq (mSet 4 (eOp dIx (eLst (aCons (eC (.str "int")) (aCons (eC (.str "flag")) (aCons (eC (.str "text")) aNil)))) (eOp dMod (eCB dInt (aCons (eV 3) aNil)) (eC (.int 3))))) (mSeq (mSet 5 (eCall 4 (m__law_expression 12) (rIo 1 (rSh (eV 2) (rSh (eV 4) (rSh (eC (.int 4)) rNil)))))) (mFor (iR1 (aCons (eC (.int 3)) aNil)) (gN 6) inB [6])))
section
variable {L : List Int} (h0 : 0 < L.length) (hl : L.length ≤ 100000) {ds : List Dm} {ks : List String}
include h0 hl
theorem in_turn (ok : ShOk ds ks) {k : String} (hk : Kd k) {e : D} (he : Ex ds ks k e 4) (a : Nat) {s0 s3 s6 s7 s8 s9 s10 : Option Slot} : ∃ a' t7 t8 t9 t10, inB [s0, some (.own false (stD L a)), some (.shr (shD ds ks)), s3, some (.shr (.str (Str.ofString k))), some (.shr e), s6, s7, s8, s9, s10] = .ok .nx [s0, some (.own false (stD L a')), some (.shr (shD ds ks)), s3, some (.shr (.str (Str.ofString k))), some (.shr e), s6, t7, t8, t9, t10] := by
  obtain ⟨ps, a1, e1, p1, p2⟩ := place_eq h0 hl ok.dok (by have := ok.d3; omega) a
  obtain ⟨vs, a2, e2, r2⟩ := values_eq h0 hl ok.kok ok.a4 (show (0 : Int) < 5 by decide) a1
  obtain ⟨v, hv, b1, b2⟩ := val_eq ok p1 p2 r2 he.mono.mono.mono
  have b1' : m_value_of 8 [.shr e, .shr (shD ds ks), .shr (.tup ps), .shr (.tup vs)] = .ret false v [] := b1
  have b2' : m__law_value 8 [.shr e, .shr (shD ds ks), .shr (.tup ps), .shr (.tup vs)] = .ret false v [] := b2
  have fa := fGet_attrs ds ks
  have fd := fGet_dims ds ks
  have ne := hv.ne
  have nb : ∀ b : Bool, dNe (.bl b) (.bl b) = some (.bl false) := fun b => by simp
  refine ⟨a2, some (.shr (.tup ps)), some (.shr (.tup vs)), some (.shr v), some (.shr v), ?_⟩
  by_cases hn : v = .non
  · subst hn
    simp [inB, eV, fa, fd, callR, rIo, getOwn, ioIx, slotsOf, putOuts, e1, e2, b1', b2', ne]
  · have hkv := hv.resolve_left hn
    have nn := VK.nn hkv
    have iv := is_value_ok hkv
    simp [inB, eV, fa, fd, callR, rIo, getOwn, ioIx, slotsOf, putOuts, e1, e2, b1', b2', ne, nn, iv]
theorem in_loop (ok : ShOk ds ks) {k : String} (hk : Kd k) {e : D} (he : Ex ds ks k e 4) (a : Nat) {s0 s3 : Option Slot} : ∃ a' t6 t7 t8 t9 t10, forL (gN 6) inB [6] (rngD 0 3) [s0, some (.own false (stD L a)), some (.shr (shD ds ks)), s3, some (.shr (.str (Str.ofString k))), some (.shr e), none, none, none, none, none] = .ok .nx [s0, some (.own false (stD L a')), some (.shr (shD ds ks)), s3, some (.shr (.str (Str.ofString k))), some (.shr e), t6, t7, t8, t9, t10] := by
  obtain ⟨env', h1, a', t6, t7, t8, t9, t10, rfl⟩ := forL_all (g := gN 6) (body := inB) (clr := [6])
    (fun xs env => ∃ a t6 t7 t8 t9 t10, env = [s0, some (.own false (stD L a)), some (.shr (shD ds ks)), s3, some (.shr (.str (Str.ofString k))), some (.shr e), t6, t7, t8, t9, t10])
    (by
      rintro x xs env ⟨a, t6, t7, t8, t9, t10, rfl⟩
      obtain ⟨a', u7, u8, u9, u10, h⟩ := in_turn h0 hl ok hk he a (s0 := s0) (s3 := s3) (s6 := some (.shr x)) (s7 := t7) (s8 := t8) (s9 := t9) (s10 := t10)
      simp [h, clrE]
      exact ⟨_, rfl⟩) (rngD 0 3) [s0, some (.own false (stD L a)), some (.shr (shD ds ks)), s3, some (.shr (.str (Str.ofString k))), some (.shr e), none, none, none, none, none] ⟨a, none, none, none, none, none, rfl⟩
  exact ⟨a', t6, t7, t8, t9, t10, h1⟩
theorem ou_loop (ok : ShOk ds ks) (a : Nat) {s0 : Option Slot} : ∃ a', forL (gN 3) ouB [3, 4, 5, 6, 7, 8, 9, 10] (rngD 0 9) [s0, some (.own false (stD L a)), some (.shr (shD ds ks)), none, none, none, none, none, none, none, none] = .ok .nx [s0, some (.own false (stD L a')), some (.shr (shD ds ks)), none, none, none, none, none, none, none, none] := by
  have m3 : ∀ i, dMod (.int i) (.int 3) = some (.int (i.fmod 3)) := fun i => dMod_i _ _ (by decide)
  have s3 : small62 3 = true := small_of (by decide) (by decide)
  obtain ⟨env', h1, _, a', rfl⟩ := forL_all (g := gN 3) (body := ouB) (clr := [3, 4, 5, 6, 7, 8, 9, 10])
    (fun xs env => (∀ x ∈ xs, ∃ i : Int, x = .int i) ∧ ∃ a, env = [s0, some (.own false (stD L a)), some (.shr (shD ds ks)), none, none, none, none, none, none, none, none])
    (by
      rintro x xs env ⟨hx, a, rfl⟩
      obtain ⟨i, rfl⟩ := hx _ List.mem_cons_self
      have hr := fun y hy => hx y (List.mem_cons_of_mem _ hy)
      obtain ⟨z, d1, k, rfl, hk⟩ := dIx_all (P := fun z => ∃ k, z = .str (Str.ofString k) ∧ Kd k) (xs := [.str (Str.ofString "int"), .str (Str.ofString "flag"), .str (Str.ofString "text")]) (by
        intro x hx
        simp only [List.mem_cons, List.not_mem_nil, or_false] at hx
        rcases hx with rfl | rfl | rfl
        · exact ⟨_, rfl, .inl rfl⟩
        · exact ⟨_, rfl, .inr (.inl rfl)⟩
        · exact ⟨_, rfl, .inr (.inr rfl)⟩) (i := i.fmod 3) (Int.fmod_nonneg_of_pos _ (by decide)) (Int.fmod_lt_of_pos _ (by decide))
      obtain ⟨e, a1, e1, x1⟩ := expr_all h0 hl ok 4 12 (by decide) k hk a
      have e1' : m__law_expression 12 [.own true (stD L a), .shr (shD ds ks), .shr (.str (Str.ofString k)), .shr (.int 4)] = .ret false e [stD L a1] := e1
      obtain ⟨a2, t6, t7, t8, t9, t10, h⟩ := in_loop h0 hl ok hk x1 a1 (s0 := s0) (s3 := some (.shr (.int i)))
      simp [ouB, eV, m3, d1, callR, rIo, getOwn, ioIx, slotsOf, putOuts, e1', iR1F_ok s3, h, clrE]
      exact ⟨hr, _, rfl⟩) (rngD 0 9) [s0, some (.own false (stD L a)), some (.shr (shD ds ks)), none, none, none, none, none, none, none, none] ⟨by
        intro x hx
        rw [rngD_drop] at hx
        obtain ⟨j, _, rfl⟩ := List.mem_map.mp hx
        exact ⟨_, rfl⟩, a, rfl⟩
  exact ⟨a', h1⟩
end
theorem law_true : ∀ ns : List Int, ns.length ≤ 63 → m_law [.shr (.frz (ns.map D.int))] = .ret false (.bl true) [] := by
  intro ns hn
  have ce : dSlL (.frz (ns.map D.int)) none (some 10) = some (.lst ((ns.take 10).map D.int)) := sl_frz ns 10
  have ha : dAdd (.lst ((ns.take 10).map D.int)) (.lst [.int 6]) = some (.lst ((ns.take 10 ++ [6]).map D.int)) := by
    refine (if_pos ?_).trans (by rw [List.map_append]; rfl)
    simp only [List.length_map, List.length_take, List.length_cons, List.length_nil]; omega
  obtain ⟨L, e1, e2⟩ := draws_eq (ns.take 10 ++ [6]) (by simp; omega)
  have h0 : 0 < L.length := by rw [e2, List.length_append]; simp only [List.length_cons, List.length_nil]; omega
  have hl : L.length ≤ 100000 := by rw [e2, List.length_append, List.length_take]; simp only [List.length_cons, List.length_nil]; omega
  generalize (ns.take 10 ++ [6]).map D.int = Z at ha e1
  generalize (ns.take 10).map D.int = Y at ha ce
  obtain ⟨ds, ks, a1, s1, ok⟩ := shape_eq h0 hl 0
  have s9 : small62 9 = true := small_of (by decide) (by decide)
  obtain ⟨a2, h1⟩ := ou_loop h0 hl ok a1 (s0 := some (.shr (.frz (ns.map D.int))))
  simp only [ouB, inB] at h1
  simp [m_law, runF, b_law, argsE, eV, ce, ha, callN, callR, rIo, getOwn, ioIx, slotsOf, putOuts, e1, s1, iR1F_ok s9, h1, outsAt]
end Mi

open PySem PySem.W PyProof.Rows in
theorem PySem.Challenge.cw_manysides_k06_values_of_expressions_holds : PySem.Challenge.rw_manysides_k06_values_of_expressions.Holds := by
  w_on; o_law; k_head; (case hw => w_witness2)
  k_fill
  refine Mi.walk (l := PySem.Challenge.rw_manysides_k06_values_of_expressions) rfl rfl (fun w h Y => PySem.W.kIn_of Y) ?F
  case F =>
    intro w mg fa h KX G hmg
    refine' Mi.all_mk KX G hmg ?aC_Shape ?pg_Shape ?hd_Shape ?po_Shape ?sa_Shape ?mk_Shape ?kc_Shape ?na_Shape_attrs ?na_Shape_dims ?a0 ?l0 ?c0 ?k0 ?a1 ?l1 ?c1 ?k1 ?a2 ?i2 ?l2 ?c2 ?k2 ?a3 ?l3 ?c3 ?k3 ?a4 ?l4 ?c4 ?k4 ?a5 ?l5 ?c5 ?k5 ?a6 ?l6 ?c6 ?k6 ?a7 ?l7 ?c7 ?k7 ?a8 ?l8 ?c8 ?k8 ?a9 ?l9 ?c9 ?k9 ?a10 ?l10 ?c10 ?k10 ?a11 ?l11 ?c11 ?k11 ?a12 ?l12 ?c12 ?k12 ?a13 ?l13 ?c13 ?k13 ?a14 ?l14 ?c14 ?k14 ?a15 ?l15 ?c15 ?k15 ?a16 ?l16 ?c16 ?k16 ?a17 ?l17 ?c17 ?k17 ?a18 ?l18 ?c18 ?k18 ?a19 ?l19 ?c19 ?k19 ?a20 ?l20 ?c20 ?k20 ?a21 ?l21 ?c21 ?k21 ?a22 ?l22 ?c22 ?k22 ?a23 ?l23 ?c23 ?k23 ?a24 ?l24 ?c24 ?k24 ?a25 ?l25 ?c25 ?k25 ?a26 ?l26 ?c26 ?k26 ?a27 ?l27 ?c27 ?k27 ?a28 ?l28 ?c28 ?k28 ?g_BEFORE ?g_BEHIND ?g_BOUND ?g_LONGEST ?g_ARITHMETIC ?lt_ARITHMETIC ?g_COMPARISONS ?lt_COMPARISONS ?n_abs ?n_bool ?n_int ?n_isinstance ?n_len ?n_max ?n_range ?n_str ?n_tuple Mi.law_true
    (case aC_Shape => k_is)
    (case pg_Shape => k_is)
    (case hd_Shape => k_is)
    (case po_Shape => k_is)
    (case sa_Shape => k_is)
    (case mk_Shape => k_is)
    (case kc_Shape => k_is)
    (case na_Shape_attrs => k_is)
    (case na_Shape_dims => k_is)
    (case a0 => k_is)
    (case l0 => k_is)
    (case c0 => k_is)
    (case k0 => k_is)
    (case a1 => k_is)
    (case l1 => k_is)
    (case c1 => k_is)
    (case k1 => k_is)
    (case a2 => k_is)
    (case i2 => k_is)
    (case l2 => k_is)
    (case c2 => k_is)
    (case k2 => k_is)
    (case a3 => k_is)
    (case l3 => k_is)
    (case c3 => k_is)
    (case k3 => k_is)
    (case a4 => k_is)
    (case l4 => k_is)
    (case c4 => k_is)
    (case k4 => k_is)
    (case a5 => k_is)
    (case l5 => k_is)
    (case c5 => k_is)
    (case k5 => k_is)
    (case a6 => k_is)
    (case l6 => k_is)
    (case c6 => k_is)
    (case k6 => k_is)
    (case a7 => k_is)
    (case l7 => k_is)
    (case c7 => k_is)
    (case k7 => k_is)
    (case a8 => k_is)
    (case l8 => k_is)
    (case c8 => k_is)
    (case k8 => k_is)
    (case a9 => k_is)
    (case l9 => k_is)
    (case c9 => k_is)
    (case k9 => k_is)
    (case a10 => k_is)
    (case l10 => k_is)
    (case c10 => k_is)
    (case k10 => k_is)
    (case a11 => k_is)
    (case l11 => k_is)
    (case c11 => k_is)
    (case k11 => k_is)
    (case a12 => k_is)
    (case l12 => k_is)
    (case c12 => k_is)
    (case k12 => k_is)
    (case a13 => k_is)
    (case l13 => k_is)
    (case c13 => k_is)
    (case k13 => k_is)
    (case a14 => k_is)
    (case l14 => k_is)
    (case c14 => k_is)
    (case k14 => k_is)
    (case a15 => k_is)
    (case l15 => k_is)
    (case c15 => k_is)
    (case k15 => k_is)
    (case a16 => k_is)
    (case l16 => k_is)
    (case c16 => k_is)
    (case k16 => k_is)
    (case a17 => k_is)
    (case l17 => k_is)
    (case c17 => k_is)
    (case k17 => k_is)
    (case a18 => k_is)
    (case l18 => k_is)
    (case c18 => k_is)
    (case k18 => k_is)
    (case a19 => k_is)
    (case l19 => k_is)
    (case c19 => k_is)
    (case k19 => k_is)
    (case a20 => k_is)
    (case l20 => k_is)
    (case c20 => k_is)
    (case k20 => k_is)
    (case a21 => k_is)
    (case l21 => k_is)
    (case c21 => k_is)
    (case k21 => k_is)
    (case a22 => k_is)
    (case l22 => k_is)
    (case c22 => k_is)
    (case k22 => k_is)
    (case a23 => k_is)
    (case l23 => k_is)
    (case c23 => k_is)
    (case k23 => k_is)
    (case a24 => k_is)
    (case l24 => k_is)
    (case c24 => k_is)
    (case k24 => k_is)
    (case a25 => k_is)
    (case l25 => k_is)
    (case c25 => k_is)
    (case k25 => k_is)
    (case a26 => k_is)
    (case l26 => k_is)
    (case c26 => k_is)
    (case k26 => k_is)
    (case a27 => k_is)
    (case l27 => k_is)
    (case c27 => k_is)
    (case k27 => k_is)
    (case a28 => k_is)
    (case l28 => k_is)
    (case c28 => k_is)
    (case k28 => k_is)
    (case g_BEFORE => k_is)
    (case g_BEHIND => k_is)
    (case g_BOUND => k_is)
    (case g_LONGEST => k_is)
    (case g_ARITHMETIC => k_is)
    (case lt_ARITHMETIC => k_is)
    (case g_COMPARISONS => k_is)
    (case lt_COMPARISONS => k_is)
    (case n_abs => k_is)
    (case n_bool => k_is)
    (case n_int => k_is)
    (case n_isinstance => k_is)
    (case n_len => k_is)
    (case n_max => k_is)
    (case n_range => k_is)
    (case n_str => k_is)
    (case n_tuple => k_is)

