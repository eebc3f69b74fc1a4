import PyProof.Rows.All
import Wide.All
import OpenK.AllK
import Wide.FinOn
import HandS.Base
import HandS.Call
import HandS.List
import HandS.Comp
import HandS.Dict
import HandS.Iter
import HandS.Text
import HandS.Words
import HandS.Exc
import HandS.ExcOwn
import HandS.AnyAll
import HandS.IsInst
import HandS.TupAny
import HandS.TupLe
import HandS.Wide
import HandS.Codes
import HandS.TupLen
import HandS.Style
import HandS.Deep
import PyProof.Rows.RuleB_bool
import HandS.WordsExc
import HandS.CallSlots
import HandS.StrMore
import HandS.Replace
import HandS.Ends
import KE.KDictWalk
import HandS.ExcInit
import HandS.ClsMeth
import KE.KExcSuper
import KE.KExcIs
import HandS.ExcSuper
import HandS.ExcField
import HandS.TryMany
import KE.KDictCopyH
import HandS.WordsDict
import HandS.Defaults
import KE.DataMinMax
import KE.SortData
import KE.KDictOf
import HandS.DictComp
import KE.KEqDict
import PyProof.DictFindH
import HandS.OwnEq
import HandS.EndTab
import HandS.EndBits
import HandS.WrittenGet
import HandS.Rev
import HandS.Conv
import PySem.Challenge.RW_manysides_k05_kinds_of_expressions
set_option Elab.async false
set_option linter.all false
set_option maxRecDepth 100000
set_option maxHeartbeats 4000000
/-! The mirror layer 1: data, what stands for a datum, the slots, the mirror monad. -/
namespace Mi
open PySem L2

/-- the tables of code that may grow -/
class Tabs where
  ps : List Addr
/-! ### data -/
inductive D where
  | non | bl (b : Bool) | int (i : Int) | str (x : Str)
  | tup (xs : List D) | ftp (xs : List D) | lst (xs : List D) | frz (xs : List D)
  | dK (kvs : List (Key × D)) | dT (kvs : List (List Key × D))
  | ins (c : Str) (fs : List (Str × D))

section
variable (K : PySem.W.Frag) (mg : Str → Option Value)
mutual
/-- v stands for d, by what B knows (and the written part) -/
inductive Rep (B : Hp) : V → D → Prop
  | non : Rep B .non .non
  | bl (b : Bool) : Rep B (.bl b) (.bl b)
  | int (i : Int) : Rep B (.int i) (.int i)
  | str (x : Str) : Rep B (.str x) (.str x)
  | tup {a : Addr} {vs : List V} {ds : List D} : B a = some (.tup vs) → Reps B vs ds → Rep B (.ref a) (.tup ds)
  | ftp {a : Addr} {vs : List V} {ds : List D} : SqT K B a vs → Reps B vs ds → Rep B (.ref a) (.ftp ds)
  | lst {a : Addr} {vs : List V} {ds : List D} : B a = some (.lst vs) → Reps B vs ds → Rep B (.ref a) (.lst ds)
  | frz {a : Addr} {vs : List V} {ds : List D} : SqL K B a vs → Reps B vs ds → Rep B (.ref a) (.frz ds)
  | dK {a : Addr} {kvs : List (Key × V)} {ds : List (Key × D)} : B a = some (.dK kvs) → kvs.map Prod.fst = ds.map Prod.fst → Reps B (kvs.map Prod.snd) (ds.map Prod.snd) → Rep B (.ref a) (.dK ds)
  | dT {a : Addr} {kvs : List (List Key × V)} {ds : List (List Key × D)} : B a = some (.dT kvs) → kvs.map Prod.fst = ds.map Prod.fst → Reps B (kvs.map Prod.snd) (ds.map Prod.snd) → Rep B (.ref a) (.dT ds)
  | ins {a C dx : Addr} {c : Str} {fs : List (Str × V)} {ds : List (Str × D)} : B a = some (.ins C dx fs) → mg c = some (.ref C) → fs.map Prod.fst = ds.map Prod.fst → Reps B (fs.map Prod.snd) (ds.map Prod.snd) → Rep B (.ref a) (.ins c ds)
inductive Reps (B : Hp) : List V → List D → Prop
  | nil : Reps B [] []
  | cons {v : V} {vs : List V} {d : D} {ds : List D} : Rep B v d → Reps B vs ds → Reps B (v :: vs) (d :: ds)
end
end

section
variable {K : PySem.W.Frag} {mg : Str → Option Value} {B B' H H' : Hp}
theorem rd_mono (e : Same B B') {a : Addr} {u : HO} (h : Rd B a u) : Rd B' a u := by
  rcases h with h | ⟨o, h⟩
  · exact .inl (e _ _ h)
  · exact .inr ⟨o, e _ _ h⟩
theorem sqT_mono (e : Same B B') {a : Addr} {xs : List V} (h : SqT K B a xs) : SqT K B' a xs := by
  rcases h with h | h
  · exact .inl (rd_mono e h)
  · exact .inr h
theorem sqL_mono (e : Same B B') {a : Addr} {xs : List V} (h : SqL K B a xs) : SqL K B' a xs := by
  rcases h with h | h
  · exact .inl (rd_mono e h)
  · exact .inr h
mutual
theorem Rep.mono (e : Same B B') : ∀ {v : V} {d : D}, Rep K mg B v d → Rep K mg B' v d
  | _, _, .non => .non
  | _, _, .bl b => .bl b
  | _, _, .int b => .int b
  | _, _, .str b => .str b
  | _, _, .tup h r => .tup (e _ _ h) (Reps.mono e r)
  | _, _, .ftp h r => .ftp (sqT_mono e h) (Reps.mono e r)
  | _, _, .lst h r => .lst (e _ _ h) (Reps.mono e r)
  | _, _, .frz h r => .frz (sqL_mono e h) (Reps.mono e r)
  | _, _, .dK h k r => .dK (e _ _ h) k (Reps.mono e r)
  | _, _, .dT h k r => .dT (e _ _ h) k (Reps.mono e r)
  | _, _, .ins h m k r => .ins (e _ _ h) m k (Reps.mono e r)
theorem Reps.mono (e : Same B B') : ∀ {v : List V} {d : List D}, Reps K mg B v d → Reps K mg B' v d
  | _, _, .nil => .nil
  | _, _, .cons h r => .cons (Rep.mono e h) (Reps.mono e r)
end
theorem Reps.length : ∀ {v : List V} {d : List D}, Reps K mg B v d → v.length = d.length
  | _, _, .nil => rfl
  | _, _, .cons h r => by simp [Reps.length r]
theorem Reps.get : ∀ {v : List V} {d : List D} {i : Nat} {x : D}, Reps K mg B v d → d[i]? = some x → ∃ y, v[i]? = some y ∧ Rep K mg B y x
  | _, _, _, _, .nil, h => by simp at h
  | _, _, 0, _, .cons h r, e => by simp at e; subst e; exact ⟨_, rfl, h⟩
  | _, _, i + 1, x, .cons h r, e => by
    obtain ⟨y, e1, e2⟩ := Reps.get (i := i) (x := x) r (by simpa using e)
    exact ⟨y, by simpa using e1, e2⟩
theorem Reps.getV : ∀ {v : List V} {d : List D} {i : Nat} {y : V}, Reps K mg B v d → v[i]? = some y → ∃ x, d[i]? = some x ∧ Rep K mg B y x
  | _, _, _, _, .nil, h => by simp at h
  | _, _, 0, _, .cons h r, e => by simp at e; subst e; exact ⟨_, rfl, h⟩
  | _, _, i + 1, x, .cons h r, e => by
    obtain ⟨y, e1, e2⟩ := Reps.getV (i := i) (y := x) r (by simpa using e)
    exact ⟨y, by simpa using e1, e2⟩
theorem Reps.append : ∀ {v w : List V} {d e : List D}, Reps K mg B v d → Reps K mg B w e → Reps K mg B (v ++ w) (d ++ e)
  | _, _, _, _, .nil, h => h
  | _, _, _, _, .cons h r, s => .cons h (Reps.append r s)
theorem Reps.take : ∀ {v : List V} {d : List D} (n : Nat), Reps K mg B v d → Reps K mg B (v.take n) (d.take n)
  | _, _, 0, _ => .nil
  | _, _, _ + 1, .nil => .nil
  | _, _, n + 1, .cons h r => .cons h (Reps.take n r)
theorem Reps.drop : ∀ {v : List V} {d : List D} (n : Nat), Reps K mg B v d → Reps K mg B (v.drop n) (d.drop n)
  | _, _, 0, r => r
  | _, _, _ + 1, .nil => .nil
  | _, _, n + 1, .cons h r => Reps.drop n r
theorem Reps.reverse : ∀ {v : List V} {d : List D}, Reps K mg B v d → Reps K mg B v.reverse d.reverse
  | _, _, .nil => .nil
  | _, _, .cons h r => by
    rw [List.reverse_cons, List.reverse_cons]
    exact (Reps.reverse r).append (.cons h .nil)
theorem Reps.set : ∀ {v : List V} {d : List D} (i : Nat) {x : V} {y : D}, Reps K mg B v d → Rep K mg B x y → Reps K mg B (v.set i x) (d.set i y)
  | _, _, _, _, _, .nil, _ => .nil
  | _, _, 0, _, _, .cons h r, q => .cons q r
  | _, _, i + 1, _, _, .cons h r, q => .cons h (Reps.set i r q)
end

/-- the content of a container that one slot holds alone -/
inductive Cont (K : PySem.W.Frag) (mg : Str → Option Value) (B H : Hp) : Addr → D → Prop
  | lst {a : Addr} {vs : List V} {ds : List D} : H a = some (.lst vs) → Reps K mg B vs ds → Cont K mg B H a (.lst ds)
  | dK {a : Addr} {kvs : List (Key × V)} {ds : List (Key × D)} : H a = some (.dK kvs) → kvs.map Prod.fst = ds.map Prod.fst → Reps K mg B (kvs.map Prod.snd) (ds.map Prod.snd) → Cont K mg B H a (.dK ds)
  | dT {a : Addr} {kvs : List (List Key × V)} {ds : List (List Key × D)} : H a = some (.dT kvs) → kvs.map Prod.fst = ds.map Prod.fst → Reps K mg B (kvs.map Prod.snd) (ds.map Prod.snd) → Cont K mg B H a (.dT ds)
  | ins {a C dx : Addr} {c : Str} {fs : List (Str × V)} {ds : List (Str × D)} : H a = some (.ins C dx fs) → mg c = some (.ref C) → fs.map Prod.fst = ds.map Prod.fst → Reps K mg B (fs.map Prod.snd) (ds.map Prod.snd) → Cont K mg B H a (.ins c ds)
section
variable {K : PySem.W.Frag} {mg : Str → Option Value} {B B' H H' : Hp} {a : Addr} {d : D}
theorem Cont.there (c : Cont K mg B H a d) : ∃ o, H a = some o := by cases c <;> exact ⟨_, ‹_›⟩
theorem Cont.kind (c : Cont K mg B H a d) : ∃ o, H a = some o ∧ ∀ xs, o ≠ .tup xs := by
  cases c <;> exact ⟨_, ‹_›, fun _ z => by cases z⟩
theorem Cont.mono (e : Same B B') (h : H' a = H a) (c : Cont K mg B H a d) : Cont K mg B' H' a d := by
  cases c with
  | lst p r => exact .lst (h.trans p) (r.mono e)
  | dK p k r => exact .dK (h.trans p) k (r.mono e)
  | dT p k r => exact .dT (h.trans p) k (r.mono e)
  | ins p m k r => exact .ins (h.trans p) m k (r.mono e)
/-- frozen: B knows it from now on -/
theorem Cont.frz (c : Cont K mg B H a d) (hb : B a = none) : ∃ o, H a = some o ∧ Rep K mg (upd B a o) (.ref a) d := by
  have e : ∀ o, Same B (upd B a o) := fun o b u q => by rw [upd_ne (ne_of_none q hb)]; exact q
  cases c with
  | lst p r => exact ⟨_, p, .lst upd_same (r.mono (e _))⟩
  | dK p k r => exact ⟨_, p, .dK upd_same k (r.mono (e _))⟩
  | dT p k r => exact ⟨_, p, .dT upd_same k (r.mono (e _))⟩
  | ins p m k r => exact ⟨_, p, .ins upd_same m k (r.mono (e _))⟩
end

/-! ### slots -/
/-- a slot of the mirror: a shared datum; a container held alone (pin: the caller's, handed in) -/
inductive Slot where
  | shr (d : D) | own (pin : Bool) (d : D)
abbrev En := List (Option Slot)

section
variable [Tabs] (K : PySem.W.Frag) (mg : Str → Option Value)
def SlR (σ0 : St) (B H : Hp) (i : Nat) (v : V) : Slot → Prop
  | .shr d => Rep K mg B v d
  | .own pin d => ∃ a, v = .ref a ∧ Cont K mg B H a d ∧ B a = none ∧ (pin = true → σ0[i]? = some (some v))
/-- a dict -/
def isDct : HO → Prop
  | .dK _ => True
  | .dT _ => True
  | _ => False
/-- B is part of H (dicts may be locked) -/
def Sub (B H : Hp) : Prop := ∀ a o, B a = some o → H a = some o ∨ (isDct o ∧ ∃ ob, H a = some (.frz ob o))
/-- the tables that may grow are there -/
def TabsOk (B H : Hp) : Prop := ∀ P ∈ Tabs.ps, GxR.TabG H P ∧ B P = none
structure Sm (σ0 : St) (B H : Hp) (σ : St) (env : En) : Prop where
  tb : TabsOk B H
  sub : Sub B H
  len : σ.length = env.length
  sl : ∀ (i : Nat) (s : Slot), env[i]? = some (some s) → ∃ v, σ[i]? = some (some v) ∧ SlR K mg σ0 B H i v s
  sep : ∀ (i j : Nat) (p : Bool) (d : D) (p' : Bool) (d' : D) (a : Addr), env[i]? = some (some (Slot.own p d)) → env[j]? = some (some (Slot.own p' d')) → σ[i]? = some (some (V.ref a)) → σ[j]? = some (some (V.ref a)) → i = j
end
def Owned (σ : St) (env : En) (a : Addr) : Prop := ∃ (i : Nat) (p : Bool) (d : D), env[i]? = some (some (Slot.own p d)) ∧ σ[i]? = some (some (V.ref a))
def isTup : HO → Prop
  | .tup _ => True
  | _ => False
def isTbl : HO → Prop
  | .tbl _ => True
  | _ => False
theorem Cont.ntab {K : PySem.W.Frag} {mg : Str → Option Value} {B H : Hp} {a : Addr} {d : D} (c : Cont K mg B H a d) : ∃ o, H a = some o ∧ ¬ isTbl o := by
  cases c with
  | lst p _ => exact ⟨_, p, fun z => z⟩
  | dK p _ _ => exact ⟨_, p, fun z => z⟩
  | dT p _ _ => exact ⟨_, p, fun z => z⟩
  | ins p _ _ _ => exact ⟨_, p, fun z => z⟩
theorem Cont.kind3 {K : PySem.W.Frag} {mg : Str → Option Value} {B H : Hp} {a : Addr} {d : D} (c : Cont K mg B H a d) : ∃ o, H a = some o ∧ (∀ xs, o ≠ .tup xs) ∧ ¬ isTbl o := by
  obtain ⟨o, h, nt⟩ := c.ntab
  obtain ⟨o', h', nk⟩ := c.kind
  rw [h] at h'
  cases h'
  exact ⟨o, h, nk, nt⟩
/-- what stood at a as o stands, or is locked; or is a table that may have grown -/
def Kept (B' H' : Hp) (a : Addr) (o : HO) : Prop := H' a = some o ∨ (B' a = some o ∧ isDct o ∧ ∃ ob, H' a = some (.frz ob o)) ∨ (isTbl o ∧ ∃ ps, H' a = some (.tbl ps) ∧ TriplesOk ps.toList)
theorem Kept.monoB {B B1 H : Hp} {a : Addr} {o : HO} (h : Kept B H a o) (g : ∀ o, B a = some o → B1 a = some o) : Kept B1 H a o := h.imp id fun z => z.imp (fun ⟨q1, q2, q3⟩ => ⟨g _ q1, q2, q3⟩) id
theorem Kept.to {B B1 H H1 : Hp} {a : Addr} {o : HO} (h : Kept B H a o) (g : ∀ o, B a = some o → B1 a = some o) (k : ∀ u, H a = some u → H1 a = some u) : Kept B1 H1 a o := h.imp (k _) fun z => z.imp (fun ⟨q1, q2, ob, q3⟩ => ⟨g _ q1, q2, ob, k _ q3⟩) fun ⟨q1, ps, q2, q3⟩ => ⟨q1, ps, k _ q2, q3⟩
/-- from B, H to B', H': only what O tells may have changed -/
structure Stp (O : Addr → Prop) (B H B' H' : Hp) : Prop where
  grow : Same B B'
  new : ∀ a o, B' a = some o → B a = some o ∨ H a = none ∨ isTup o
  frame : ∀ a o, H a = some o → ¬ O a → Kept B' H' a o
  there : ∀ a o, H a = some o → ∃ o', H' a = some o'
  lk : ∀ a ob o, H a = some (.frz ob o) → H' a = some (.frz ob o)
theorem Stp.refl {O : Addr → Prop} {B H : Hp} : Stp O B H B H := ⟨Same.refl _, fun _ _ h => .inl h, fun _ _ h _ => .inl h, fun _ o h => ⟨o, h⟩, fun _ _ _ h => h⟩
theorem Stp.trans {O O' : Addr → Prop} {B H B1 H1 B2 H2 : Hp} (a : Stp O B H B1 H1) (b : Stp O' B1 H1 B2 H2) (ho : ∀ x, O' x → O x) : Stp O B H B2 H2 where
  grow := a.grow.trans b.grow
  new := fun x o h => by
    rcases b.new x o h with h | h | h
    · exact a.new x o h
    rotate_left
    · exact .inr (.inr h)
    · refine .inr (.inl ?_)
      cases q : H x with
      | none => rfl
      | some u =>
        obtain ⟨o', e⟩ := a.there x u q
        rw [h] at e; cases e
  frame := fun x o h n => by
    rcases a.frame x o h n with q | ⟨q1, q2, ob, q3⟩ | ⟨q1, ps, q2, q3⟩
    · exact b.frame x o q fun z => n (ho x z)
    · exact .inr (.inl ⟨b.grow _ _ q1, q2, ob, b.lk _ _ _ q3⟩)
    · rcases b.frame x _ q2 (fun z => n (ho x z)) with e | ⟨_, e, _⟩ | ⟨_, e⟩
      · exact .inr (.inr ⟨q1, ps, e, q3⟩)
      · exact e.elim
      · exact .inr (.inr ⟨q1, e⟩)
  lk := fun x ob o h => b.lk _ _ _ (a.lk _ _ _ h)
  there := fun x o h => by
    obtain ⟨o', e⟩ := a.there x o h
    exact b.there x o' e
theorem Stp.mono {O O' : Addr → Prop} {B H B' H' : Hp} (a : Stp O B H B' H') (ho : ∀ x, O x → O' x) : Stp O' B H B' H' :=
  ⟨a.grow, a.new, fun x o h n => a.frame x o h fun z => n (ho x z), a.there, a.lk⟩
/-- only new things -/
theorem Stp.alloc {O : Addr → Prop} {B H B' H' : Hp} (g : Same B B') (n : ∀ a o, B' a = some o → B a = some o ∨ H a = none ∨ isTup o) (s : Same H H') : Stp O B H B' H' := ⟨g, n, fun a o h _ => .inl (s a o h), fun a o h => ⟨o, s a o h⟩, fun a ob o h => s a _ h⟩
/-- ownership does not grow -/
def OSub (env env' : En) : Prop := ∀ (i : Nat) (p : Bool) (d : D), env'[i]? = some (some (Slot.own p d)) → ∃ d', env[i]? = some (some (Slot.own p d'))
theorem OSub.refl (env : En) : OSub env env := fun _ _ d h => ⟨d, h⟩
theorem OSub.trans {a b c : En} (h : OSub a b) (g : OSub b c) : OSub a c := fun i p d e => by
  obtain ⟨d', e'⟩ := g i p d e
  exact h i p d' e'
theorem OSub.owned {σ : St} {env env' : En} (h : OSub env env') {a : Addr} : Owned σ env' a → Owned σ env a := fun ⟨i, p, d, e, r⟩ => by
  obtain ⟨d', e'⟩ := h i p d e
  exact ⟨i, p, d', e', r⟩

section
variable [Tabs] {K : PySem.W.Frag} {mg : Str → Option Value} {σ0 : St} {B H B' H' : Hp} {σ : St} {env : En}
theorem Sub.rd (s : Sub B H) {a : Addr} {u : HO} (hu : ¬ isDct u) (h : Rd B a u) : Rd H a u := by
  rcases h with h | ⟨o, h⟩
  · rcases s _ _ h with e | ⟨_, ob, e⟩
    · exact .inl e
    · exact .inr ⟨ob, e⟩
  · rcases s _ _ h with e | ⟨z, _⟩
    · exact .inr ⟨o, e⟩
    · exact z.elim
theorem Sub.sqT (s : Sub B H) {a : Addr} {xs : List V} (h : SqT K B a xs) : SqT K H a xs := by
  rcases h with h | h
  · exact .inl (s.rd (fun z => z) h)
  · exact .inr h
theorem Sub.sqL (s : Sub B H) {a : Addr} {xs : List V} (h : SqL K B a xs) : SqL K H a xs := by
  rcases h with h | h
  · exact .inl (s.rd (fun z => z) h)
  · exact .inr h
theorem Sub.lst (s : Sub B H) {a : Addr} {xs : List V} (h : B a = some (.lst xs)) : H a = some (.lst xs) := by
  rcases s a _ h with q | ⟨z, _⟩
  · exact q
  · exact z.elim
theorem Sub.tup (s : Sub B H) {a : Addr} {xs : List V} (h : B a = some (.tup xs)) : H a = some (.tup xs) := by
  rcases s a _ h with q | ⟨z, _⟩
  · exact q
  · exact z.elim
theorem Sub.same (s : Sub B H) (e : Same H H') : Sub B H' := fun a o h => by
  rcases s a o h with q | ⟨z, ob, q⟩
  · exact .inl (e _ _ q)
  · exact .inr ⟨z, ob, e _ _ q⟩
/-- a new immutable thing at p, known to both -/
theorem Sub.upd (s : Sub B H) {p : Addr} {o : HO} (hp : H p = none) : Sub (upd B p o) (upd H p o) := fun a u h => by
  by_cases e : a = p
  · subst e; rw [upd_same] at h ⊢; exact .inl h
  · rw [upd_ne e] at h ⊢
    exact s a u h
theorem Sub.none (s : Sub B H) {p : Addr} (hp : H p = none) : B p = none := by
  cases q : B p with
  | none => rfl
  | some o =>
    rcases s p o q with e | ⟨_, ob, e⟩ <;> (rw [hp] at e; cases e)
theorem same_upd {p : Addr} {o : HO} (hp : H p = none) : Same H (upd H p o) := fun a u h => by rw [upd_ne (ne_of_none h hp)]; exact h
theorem new_upd {p : Addr} {o : HO} (hp : H p = none) : ∀ a u, upd B p o a = some u → B a = some u ∨ H a = none ∨ isTup u := fun a u h => by
  by_cases e : a = p
  · subst e; exact .inr (.inl hp)
  · rw [upd_ne e] at h; exact .inl h
/-- what stands there is no tuple: B' can't have it as one -/
theorem no_tup {B' H' : Hp} (sb : Sub B' H') {a : Addr} {o u : HO} (h : H' a = some o) (ho : ∀ xs, o ≠ .tup xs) (q : B' a = some u) (hu : isTup u) : False := by
  cases u with
  | tup xs =>
    rcases sb a _ q with z | ⟨z, _⟩
    · rw [h] at z; cases z; exact ho _ rfl
    · exact z
  | _ => exact hu
/-- what stands there is nobody's else, and stays -/
theorem Stp.frameO {O : Addr → Prop} {B H B' H' : Hp} (s : Stp O B H B' H') (sb : Sub B' H') {a : Addr} {o : HO} (hb : B a = none) (h : H a = some o) (hk : ∀ xs, o ≠ .tup xs) (n : ¬ O a) (ht : ¬ isTbl o := by exact fun z => z) : H' a = some o ∧ B' a = none := by
  rcases s.frame a o h n with e | ⟨q, hd, _⟩ | ⟨e, _⟩
  rotate_left 2
  · exact absurd e (ht)
  · refine ⟨e, ?_⟩
    cases q : B' a with
    | none => rfl
    | some u =>
      rcases s.new a u q with z | z | z
      · rw [hb] at z; cases z
      · rw [h] at z; cases z
      · exact (no_tup sb e hk q z).elim
  · rcases s.new a o q with z | z | z
    · rw [hb] at z; cases z
    · rw [h] at z; cases z
    · cases o <;> first | exact z.elim | exact hd.elim
theorem Stp.frameN {O : Addr → Prop} {B H B' H' : Hp} (s : Stp O B H B' H') {a : Addr} {o : HO} (h : H a = some o) (hd : ¬ isDct o) (n : ¬ O a) (ht : ¬ isTbl o := by exact fun z => z) : H' a = some o := (s.frame a o h n).elim id fun z => z.elim (fun ⟨_, z, _⟩ => absurd z hd) fun ⟨z, _⟩ => absurd z ht
theorem Stp.tab {O : Addr → Prop} {B H B' H' : Hp} (s : Stp O B H B' H') {P : Addr} (h : GxR.TabG H P) (n : ¬ O P) : GxR.TabG H' P := by
  obtain ⟨ps, e, t⟩ := h
  rcases s.frame P _ e n with q | ⟨_, q, _⟩ | ⟨_, q⟩
  · exact ⟨ps, q, t⟩
  · exact q.elim
  · exact q
theorem TabG.same {P : Addr} {H H' : Hp} (h : GxR.TabG H P) (s : ∀ o, H P = some o → H' P = some o) : GxR.TabG H' P := by
  obtain ⟨ps, e, t⟩ := h
  exact ⟨ps, s _ e, t⟩
theorem TabG.ne {P a : Addr} {H : Hp} {o : HO} (h : GxR.TabG H P) (ha : H a = some o) (ho : ¬ isTbl o) : P ≠ a := fun e => by
  obtain ⟨ps, q, t⟩ := h
  rw [e, ha] at q
  cases q
  exact ho True.intro
theorem TabG.upd {P p : Addr} {H : Hp} {o : HO} (h : GxR.TabG H P) (hp : P ≠ p) : GxR.TabG (L2.upd H p o) P := h.elim fun ps ⟨e, t⟩ => ⟨ps, by rw [upd_ne hp]; exact e, t⟩
theorem tab_none {P : Addr} {B H B' H' : Hp} (h : GxR.TabG H P) (hb : B P = none) (n : ∀ o, B' P = some o → B P = some o ∨ H P = none ∨ isTup o) (sb : Sub B' H') (h' : GxR.TabG H' P) : B' P = none := by
  cases q : B' P with
  | none => rfl
  | some u =>
    obtain ⟨ps, e, _⟩ := h
    obtain ⟨ps', e', _⟩ := h'
    rcases n u q with z | z | z
    · rw [hb] at z; cases z
    · rw [e] at z; cases z
    · exact (no_tup sb e' (fun _ z => by cases z) q z).elim
theorem Sm.tab_no (m : Sm K mg σ0 B H σ env) {P : Addr} (hP : P ∈ Tabs.ps) : ¬ Owned σ env P := fun ⟨i, p, d, e, r⟩ => by
  obtain ⟨v, e1, a, rfl, c, hb, hp⟩ := m.sl i _ e
  rw [r] at e1
  cases e1
  obtain ⟨o, h, nt⟩ := c.ntab
  exact TabG.ne (m.tb P hP).1 h nt rfl
/-- only new things were made -/
theorem Sm.alloc (m : Sm K mg σ0 B H σ env) (g : Same B B') (n : ∀ a o, B' a = some o → B a = some o ∨ H a = none ∨ isTup o) (s : Same H H') (sb : Sub B' H') : Sm K mg σ0 B' H' σ env where
  tb := fun P hP => ⟨TabG.same (m.tb P hP).1 fun o e => s _ _ e, tab_none (m.tb P hP).1 (m.tb P hP).2 (n P) sb (TabG.same (m.tb P hP).1 fun o e => s _ _ e)⟩
  sub := sb
  len := m.len
  sl := fun i sl e => by
    obtain ⟨v, e1, r⟩ := m.sl i sl e
    refine ⟨v, e1, ?_⟩
    cases sl with
    | shr d => exact Rep.mono g r
    | own pin d =>
      obtain ⟨a, rfl, c, hb, hp⟩ := r
      obtain ⟨o, ho, hk⟩ := c.kind
      refine ⟨a, rfl, c.mono g (by rw [ho]; exact s _ _ ho), ?_, hp⟩
      cases q : B' a with
      | none => rfl
      | some u =>
        rcases n a u q with z | z | z
        · rw [hb] at z; cases z
        · rw [ho] at z; cases z
        · exact (no_tup sb (s _ _ ho) hk q z).elim
  sep := m.sep
end

/-! ### the mirror monad -/
/-- an error: its class, its place -/
structure Xn where
  cls : Str
  place : Int
inductive Res (α : Type) where
  | stuck | exn (x : Xn) (env : En) | ok (a : α) (env : En)
abbrev M (α : Type) := En → Res α
def Res.bind {α β : Type} (r : Res α) (k : α → M β) : Res β := match r with
  | .stuck => .stuck
  | .exn x env => .exn x env
  | .ok a env => k a env
def M.bind {α β : Type} (m : M α) (k : α → M β) : M β := fun env => (m env).bind k
def M.pure {α : Type} (a : α) : M α := fun env => .ok a env
@[simp] theorem Res.bind_ok {α β : Type} (a : α) (env : En) (k : α → M β) : (Res.ok a env).bind k = k a env := Eq.trans rfl rfl
@[simp] theorem Res.bind_stuck {α β : Type} (k : α → M β) : (Res.stuck : Res α).bind k = .stuck := rfl
@[simp] theorem Res.bind_exn {α β : Type} (x : Xn) (env : En) (k : α → M β) : (Res.exn x env : Res α).bind k = .exn x env := rfl
def ofO {α : Type} (o : Option α) : M α := fun env => match o with
  | some a => .ok a env
  | none => .stuck
@[simp] theorem ofO_some {α : Type} (a : α) (env : En) : ofO (some a) env = .ok a env := rfl
@[simp] theorem ofO_none {α : Type} (env : En) : (ofO none : M α) env = .stuck := rfl

/-- how an error lies: its class, its own dict -/
def ExR (mg : Str → Option Value) (x : Xn) (cls : Value) (d : Option Addr) (H : Hp) : Prop :=
  ∃ C dx, cls = .ref C ∧ mg x.cls = some (.ref C) ∧ d = some dx ∧ H dx = some (.xd [("name", .str x.cls), ("place", .int x.place)])

section
variable [Tabs] (K : PySem.W.Frag) (mg : Str → Option Value) (W : WX) {α β : Type}
def Post (R : St → Hp → β → α → Prop) (σ0 σ : St) (env : En) (B H : Hp) (r : Res α) (Q : β → Hp → Prop) : Prop :=
  match r with
  | .stuck => False
  | .ok a env' => ∀ v B' H', Stp (Owned σ env) B H B' H' → Sm K mg σ0 B' H' σ env' → OSub env env' → R σ B' v a → Q v H'
  | .exn x env' => ∀ cls d B' H', Stp (Owned σ env) B H B' H' → Sm K mg σ0 B' H' σ env' → OSub env env' → ExR mg x cls d H' → W cls d σ H'
/-- the reading t does what m tells -/
def RX (R : St → Hp → β → α → Prop) (t : St → Hp → (β → Hp → Prop) → Prop) (m : M α) : Prop :=
  ∀ σ0 B H σ env, Sm K mg σ0 B H σ env → ∀ Q : β → Hp → Prop, Post K mg W R σ0 σ env B H (m env) Q → t σ H Q
end
section
variable [Tabs] {K : PySem.W.Frag} {mg : Str → Option Value} {W : WX} {α β γ δ : Type} {R : St → Hp → β → α → Prop} {R2 : St → Hp → δ → γ → Prop}
theorem Post.rebase {σ0 σ : St} {env env1 : En} {B H B1 H1 : Hp} {r : Res α} {Q : β → Hp → Prop} (h : Post K mg W R σ0 σ env B H r Q) (s : Stp (Owned σ env) B H B1 H1) (o : OSub env env1) : Post K mg W R σ0 σ env1 B1 H1 r Q := by
  cases r with
  | stuck => exact h
  | ok a env' => exact fun v B' H' s' m' o' r' => h v B' H' (s.trans s' fun x z => o.owned z) m' (o.trans o') r'
  | exn x env' => exact fun c d B' H' s' m' o' r' => h c d B' H' (s.trans s' fun x z => o.owned z) m' (o.trans o') r'
theorem Post.imp {σ0 σ : St} {env : En} {B H : Hp} {r : Res α} {Q Q' : β → Hp → Prop} (h : Post K mg W R σ0 σ env B H r Q) (q : ∀ v H', Q v H' → Q' v H') : Post K mg W R σ0 σ env B H r Q' := by
  cases r with
  | stuck => exact h
  | ok a env' => exact fun v B' H' s' m' o' r' => q _ _ (h v B' H' s' m' o' r')
  | exn x env' => exact h
theorem Post.val {σ0 σ : St} {env : En} {B H : Hp} {a : α} {Q : β → Hp → Prop} {v : β} (h : Post K mg W R σ0 σ env B H (.ok a env) Q) (m : Sm K mg σ0 B H σ env) (r : R σ B v a) : Q v H := h v B H Stp.refl m (OSub.refl _) r
/-- something was made -/
theorem Post.make {σ0 σ : St} {env : En} {B H B' H' : Hp} {a : α} {Q : β → Hp → Prop} {v : β} (h : Post K mg W R σ0 σ env B H (.ok a env) Q) (m : Sm K mg σ0 B H σ env) (g : Same B B') (n : ∀ a o, B' a = some o → B a = some o ∨ H a = none ∨ isTup o) (s : Same H H') (sb : Sub B' H') (r : R σ B' v a) : Q v H' :=
  h v B' H' (Stp.alloc g n s) (m.alloc g n s sb) (OSub.refl _) r
/-- go on behind t -/
theorem RX.go {t : L2.St → Hp → (β → Hp → Prop) → Prop} {m : M α} {k : α → M γ} {Q' : δ → Hp → Prop} {Q : β → Hp → Prop} {σ0 σ : L2.St} {B H : Hp} {env : En} (h : RX K mg W R t m) (sm : Sm K mg σ0 B H σ env)
    (post : Post K mg W R2 σ0 σ env B H ((m env).bind k) Q') (cont : ∀ v a B1 H1 env1, Sm K mg σ0 B1 H1 σ env1 → Same B B1 → R σ B1 v a → Post K mg W R2 σ0 σ env1 B1 H1 (k a env1) Q' → Q v H1) : t σ H Q := by
  refine h σ0 B H σ env sm _ ?_
  cases e : m env with
  | stuck => rw [e] at post; exact post
  | exn x env' => rw [e] at post; exact post
  | ok a env' =>
    rw [e] at post
    intro v B1 H1 s1 m1 o1 r1
    exact cont v a B1 H1 env' m1 s1.grow r1 (Post.rebase post s1 o1)
theorem RX.bind {t1 : St → Hp → (β → Hp → Prop) → Prop} {t2 : β → St → Hp → (δ → Hp → Prop) → Prop} {m : M α} {k : α → M γ} (h1 : RX K mg W R t1 m)
    (h2 : ∀ v a σ0 B H σ env, Sm K mg σ0 B H σ env → R σ B v a → ∀ Q, Post K mg W R2 σ0 σ env B H (k a env) Q → t2 v σ H Q) :
    RX K mg W R2 (fun σ H Q => t1 σ H fun v H1 => t2 v σ H1 Q) (m.bind k) := by
  intro σ0 B H σ env sm Q post
  refine h1 σ0 B H σ env sm _ ?_
  unfold M.bind at post
  cases e : m env with
  | stuck => rw [e] at post; exact post
  | exn x env' => rw [e] at post; exact post
  | ok a env' =>
    rw [e] at post
    intro v B1 H1 s1 m1 o1 r1
    exact h2 v a σ0 B1 H1 σ env' m1 r1 Q (Post.rebase post s1 o1)
end
end Mi

/-! The mirror layer 2: expressions. -/
namespace Mi
open PySem L2
variable [Tabs]

def RD (K : PySem.W.Frag) (mg : Str → Option Value) : L2.St → Hp → V → D → Prop := fun _ B v d => Rep K mg B v d
def RDs (K : PySem.W.Frag) (mg : Str → Option Value) : L2.St → Hp → List V → List D → Prop := fun _ B v d => Reps K mg B v d
def RB : L2.St → Hp → Bool → Bool → Prop := fun _ _ a b => a = b
def RO : L2.St → Hp → Option Int → Option Int → Prop := fun _ _ a b => a = b

/-- an expression does what m tells -/
structure SE (X : Cx) (W : WX) (e : Expr) (te : TE) (m : M D) : Prop where
  pe : PE X e te
  rx : RX X.K X.mg W (RD X.K X.mg) te m
structure ST (X : Cx) (W : WX) (e : Expr) (tt : TT) (m : M Bool) : Prop where
  pt : PT X e tt
  rx : RX X.K X.mg W RB tt m
structure SW (X : Cx) (W : WX) (e : Expr) (tt : TT) (m : M Bool) : Prop where
  pw : PW X e tt
  rx : RX X.K X.mg W RB tt m
structure SA (X : Cx) (W : WX) (es : List Expr) (ta : TA) (m : M (List D)) : Prop where
  pa : PA X es ta
  rx : RX X.K X.mg W (RDs X.K X.mg) ta m
structure SO (X : Cx) (W : WX) (e : Option Expr) (to : TO) (m : M (Option Int)) : Prop where
  po : PO X e to
  rx : RX X.K X.mg W RO to m

/-- only new things were made -/
structure Al (B H B' H' : Hp) : Prop where
  g : Same B B'
  n : ∀ a o, B' a = some o → B a = some o ∨ H a = none ∨ isTup o
  s : Same H H'
  sb : Sub B' H'
theorem Al.refl {B H : Hp} (s : Sub B H) : Al B H B H := ⟨Same.refl _, fun _ _ h => .inl h, Same.refl _, s⟩
theorem Al.upd {B H : Hp} (s : Sub B H) {p : Addr} {o : HO} (hp : H p = none) : Al B H (upd B p o) (upd H p o) :=
  ⟨same_upd (s.none hp), new_upd hp, same_upd hp, s.upd hp⟩

section
variable {K : PySem.W.Frag} {mg : Str → Option Value} {W : WX} {α β γ δ ε ζ : Type} {R : L2.St → Hp → β → α → Prop} {R2 : L2.St → Hp → δ → γ → Prop} {R3 : L2.St → Hp → ζ → ε → Prop}
theorem Post.al {σ0 σ : L2.St} {env : En} {B H B' H' : Hp} {a : α} {Q : β → Hp → Prop} {v : β} (h : Post K mg W R σ0 σ env B H (.ok a env) Q) (m : Sm K mg σ0 B H σ env) (l : Al B H B' H') (r : R σ B' v a) : Q v H' :=
  h.make m l.g l.n l.s l.sb r
theorem RX.bind2 {t1 : L2.St → Hp → (β → Hp → Prop) → Prop} {t2 : L2.St → Hp → (δ → Hp → Prop) → Prop} {t3 : β → δ → L2.St → Hp → (ζ → Hp → Prop) → Prop} {m1 : M α} {m2 : M γ} {k : α → γ → M ε}
    (h1 : RX K mg W R t1 m1) (h2 : RX K mg W R2 t2 m2) (mono : ∀ σ B B' v a, R σ B v a → Same B B' → R σ B' v a)
    (h3 : ∀ v w a b σ0 B H σ env, Sm K mg σ0 B H σ env → R σ B v a → R2 σ B w b → ∀ Q, Post K mg W R3 σ0 σ env B H (k a b env) Q → t3 v w σ H Q) :
    RX K mg W R3 (fun σ H Q => t1 σ H fun v H1 => t2 σ H1 fun w H2 => t3 v w σ H2 Q) (m1.bind fun a => m2.bind fun b => k a b) := by
  refine h1.bind (t2 := fun v σ H Q => t2 σ H fun w H2 => t3 v w σ H2 Q) fun v a σ0 B H σ env sm r1 Q post => ?_
  refine h2 σ0 B H σ env sm _ ?_
  have post : Post K mg W R3 σ0 σ env B H ((m2 env).bind fun b => k a b) Q := post
  cases e : m2 env with
  | stuck => rw [e] at post; exact post
  | exn x env' => rw [e] at post; exact post
  | ok b env' =>
    rw [e] at post
    intro w B1 H1 s1 m1 o1 r2
    exact h3 v w a b σ0 B1 H1 σ env' m1 (mono _ _ _ _ _ r1 s1.grow) r2 Q (Post.rebase post s1 o1)
theorem rd_monoR : ∀ (σ : L2.St) (B B' : Hp) (v : V) (a : D), RD K mg σ B v a → Same B B' → RD K mg σ B' v a := fun _ _ _ _ _ h e => Rep.mono e h
theorem rds_monoR : ∀ (σ : L2.St) (B B' : Hp) (v : List V) (a : List D), RDs K mg σ B v a → Same B B' → RDs K mg σ B' v a := fun _ _ _ _ _ h e => Reps.mono e h
theorem rb_monoR : ∀ (σ : L2.St) (B B' : Hp) (v a : Bool), RB σ B v a → Same B B' → RB σ B' v a := fun _ _ _ _ _ h _ => h
theorem ro_monoR : ∀ (σ : L2.St) (B B' : Hp) (v a : Option Int), RO σ B v a → Same B B' → RO σ B' v a := fun _ _ _ _ _ h _ => h
/-- a step that is a value -/
theorem RX.map {t1 : L2.St → Hp → (β → Hp → Prop) → Prop} {t2 : β → Hp → (δ → Hp → Prop) → Prop} {m : M α} {f : α → Option γ} (h1 : RX K mg W R t1 m)
    (h2 : ∀ v a c σ B H, Sub B H → R σ B v a → f a = some c → ∀ Q : δ → Hp → Prop, (∀ w B' H', Al B H B' H' → R2 σ B' w c → Q w H') → t2 v H Q) :
    RX K mg W R2 (fun σ H Q => t1 σ H fun v H1 => t2 v H1 Q) (m.bind fun a => ofO (f a)) := by
  refine h1.bind (t2 := fun v _ H Q => t2 v H Q) fun v a σ0 B H σ env sm r Q post => ?_
  cases e : f a with
  | none => rw [e] at post; exact post.elim
  | some c =>
    rw [e] at post
    exact h2 v a c σ B H sm.sub r e Q fun w B' H' l r' => post.al sm l r'
theorem RX.map2 {t1 : L2.St → Hp → (β → Hp → Prop) → Prop} {t2 : L2.St → Hp → (δ → Hp → Prop) → Prop} {t3 : β → δ → Hp → (ζ → Hp → Prop) → Prop} {m1 : M α} {m2 : M γ} {f : α → γ → Option ε}
    (h1 : RX K mg W R t1 m1) (h2 : RX K mg W R2 t2 m2) (mono : ∀ σ B B' v a, R σ B v a → Same B B' → R σ B' v a)
    (h3 : ∀ v w a b c σ B H, Sub B H → R σ B v a → R2 σ B w b → f a b = some c → ∀ Q : ζ → Hp → Prop, (∀ u B' H', Al B H B' H' → R3 σ B' u c → Q u H') → t3 v w H Q) :
    RX K mg W R3 (fun σ H Q => t1 σ H fun v H1 => t2 σ H1 fun w H2 => t3 v w H2 Q) (m1.bind fun a => m2.bind fun b => ofO (f a b)) := by
  refine h1.bind2 (t3 := fun v w _ H Q => t3 v w H Q) h2 mono fun v w a b σ0 B H σ env sm r1 r2 Q post => ?_
  cases e : f a b with
  | none => rw [e] at post; exact post.elim
  | some c =>
    rw [e] at post
    exact h3 v w a b c σ B H sm.sub r1 r2 e Q fun u B' H' l r' => post.al sm l r'
end

/-! ### names and constants -/
def eV (i : Nat) : M D := fun env => match env[i]? with
  | some (some (.shr d)) => .ok d env
  | _ => .stuck
def eC (d : D) : M D := fun env => .ok d env
section
variable {X : Cx} {W : WX} {pos : Pos} {a b c : Expr} {ta tb tc : TE} {ma mb mc : M D}
theorem rx_var {K mg} {i : Nat} : RX K mg W (RD K mg) (tVar i) (eV i) := by
  intro σ0 B H σ env sm Q post
  unfold eV at post
  cases e : env[i]? with
  | none => rw [e] at post; exact post.elim
  | some s =>
    cases s with
    | none => rw [e] at post; exact post.elim
    | some s =>
      cases s with
      | own p d => rw [e] at post; exact post.elim
      | shr d =>
        rw [e] at post
        obtain ⟨v, e1, r⟩ := sm.sl i _ e
        exact ⟨v, e1, post.val sm r⟩
theorem rx_c {K mg} {v : V} {d : D} (h : ∀ B, Rep K mg B v d) : RX K mg W (RD K mg) (tC v) (eC d) := fun σ0 B H σ env sm Q post => post.val sm (h B)
theorem se_v (i : Nat) {x : Str} (hN : X.N[i]? = some x := by rfl) (hv : Vis X.env.scope x := by first | exact Or.inl rfl | exact Or.inr (Or.inl rfl) | exact Or.inr (Or.inr rfl)) (hd : (x == ("__debug__" : Str)) = false := by decide)
    (hcd : (x == ("__classdict__" : Str)) = false := by decide) : SE X W (.Name x pos) (tVar i) (eV i) := ⟨pe_var hN hv hd hcd, rx_var⟩
theorem se_int {i j} : SE X W (.Constant (.int i) j pos) (tC (.int i)) (eC (.int i)) := ⟨pe_int, rx_c fun _ => .int i⟩
theorem se_bl {i j} : SE X W (.Constant (.bool i) j pos) (tC (.bl i)) (eC (.bl i)) := ⟨pe_bl, rx_c fun _ => .bl i⟩
theorem se_str {i j} : SE X W (.Constant (.str i) j pos) (tC (.str i)) (eC (.str i)) := ⟨pe_str, rx_c fun _ => .str i⟩
theorem se_non {j} : SE X W (.Constant .none j pos) (tC .non) (eC .non) := ⟨pe_non, rx_c fun _ => .non⟩
/-- a module's constant -/
theorem se_g {x : Str} {v : V} {u : Value} (d : D) (hm : X.mg x = some u) (r : RelV v u) (h : ∀ B, Rep X.K X.mg B v d) (hg : Gl X x := by rfl) (hd : (x == ("__debug__" : Str)) = false := by decide) : SE X W (.Name x pos) (tC v) (eC d) := ⟨pe_glob hg hm r hd, rx_c h⟩

/-! ### operators -/
def Real2 (K : PySem.W.Frag) (mg : Str → Option Value) (r : R2) (f : D → D → Option D) : Prop :=
  ∀ (B H : Hp) (x y : V) (d e z : D), Sub B H → Rep K mg B x d → Rep K mg B y e → f d e = some z → ∀ Q : VK, (∀ v B' H', Al B H B' H' → Rep K mg B' v z → Q v H') → r x y H Q
def Real1 (K : PySem.W.Frag) (mg : Str → Option Value) (r : V → Hp → VK → Prop) (f : D → Option D) : Prop :=
  ∀ (B H : Hp) (x : V) (d z : D), Sub B H → Rep K mg B x d → f d = some z → ∀ Q : VK, (∀ v B' H', Al B H B' H' → Rep K mg B' v z → Q v H') → r x H Q
def RealC (K : PySem.W.Frag) (mg : Str → Option Value) (r : List V → Hp → VK → Prop) (f : List D → Option D) : Prop :=
  ∀ (B H : Hp) (x : List V) (d : List D) (z : D), Sub B H → Reps K mg B x d → f d = some z → ∀ Q : VK, (∀ v B' H', Al B H B' H' → Rep K mg B' v z → Q v H') → r x H Q
def eOp (f : D → D → Option D) (ma mb : M D) : M D := ma.bind fun a => mb.bind fun b => ofO (f a b)
def eUn (f : D → Option D) (ma : M D) : M D := ma.bind fun a => ofO (f a)
theorem rx_op {r : R2} {f : D → D → Option D} {K mg} (hf : Real2 K mg r f) (ha : RX K mg W (RD K mg) ta ma) (hb : RX K mg W (RD K mg) tb mb) : RX K mg W (RD K mg) (tOp r ta tb) (eOp f ma mb) :=
  ha.map2 (t3 := fun v w H Q => r v w H Q) hb rd_monoR fun v w a b c σ B H s r1 r2 e Q q => hf B H v w a b c s r1 r2 e Q fun u B' H' l r' => q u B' H' l r'
theorem rx_un {r : V → Hp → VK → Prop} {f : D → Option D} {K mg} (hf : Real1 K mg r f) (ha : RX K mg W (RD K mg) ta ma) : RX K mg W (RD K mg) (tUn r ta) (eUn f ma) :=
  ha.map (t2 := fun v H Q => r v H Q) fun v a c σ B H s r1 e Q q => hf B H v a c s r1 e Q fun u B' H' l r' => q u B' H' l r'
theorem se_op {op : Operator} {r : R2} {f : D → D → Option D} (ho : OpR X (binaryOp op) r) (hf : Real2 X.K X.mg r f) (ha : SE X W a ta ma) (hb : SE X W b tb mb) : SE X W (.BinOp a op b pos) (tOp r ta tb) (eOp f ma mb) :=
  ⟨pe_op ho ha.pe hb.pe, rx_op hf ha.rx hb.rx⟩
theorem se_un {op : UnaryOp} {r : V → Hp → VK → Prop} {f : D → Option D} (ho : UnR X (unaryOp op) r) (hf : Real1 X.K X.mg r f) (ha : SE X W a ta ma) : SE X W (.UnaryOp op a pos) (tUn r ta) (eUn f ma) :=
  ⟨pe_un ho ha.pe, rx_un hf ha.rx⟩
theorem se_cmp {op : CmpOp} {r : R2} {f : D → D → Option D} (ho : OpR X (compareOp op) r) (hf : Real2 X.K X.mg r f) (ha : SE X W a ta ma) (hb : SE X W b tb mb) (hm : behindInMarks op b = false := by first | exact nomark _ | with_unfolding_all rfl) : SE X W (.Compare a [op] [b] pos) (tOp r ta tb) (eOp f ma mb) :=
  ⟨pe_cmpR ho ha.pe hb.pe hm, rx_op hf ha.rx hb.rx⟩

/-! ### tests -/
def asB : D → Option Bool
  | .bl b => some b
  | _ => none
def eTest (m : M D) : M Bool := m.bind fun a => ofO (asB a)
theorem asB_some {d : D} {c : Bool} (h : asB d = some c) : d = .bl c := by
  cases d <;> first | (cases h; rfl) | cases h
theorem Rep.bl_inv {K mg} {B : Hp} {v : V} {c : Bool} (h : Rep K mg B v (.bl c)) : v = .bl c := by cases h; rfl
theorem Rep.int_inv {K mg} {B : Hp} {v : V} {c : Int} (h : Rep K mg B v (.int c)) : v = .int c := by cases h; rfl
theorem Rep.str_inv {K mg} {B : Hp} {v : V} {c : Str} (h : Rep K mg B v (.str c)) : v = .str c := by cases h; rfl
theorem Rep.non_inv {K mg} {B : Hp} {v : V} (h : Rep K mg B v .non) : v = .non := by cases h; rfl
theorem rx_tB {K mg} {te : TE} {m : M D} (h : RX K mg W (RD K mg) te m) : RX K mg W RB (tB te) (eTest m) :=
  h.map (t2 := fun x H Q => ∃ c, x = .bl c ∧ Q c H) fun v a c σ B H s r e Q q => by
    have := asB_some e
    subst this
    exact ⟨c, Rep.bl_inv r, q c B H (Al.refl s) rfl⟩
theorem rx_tTest {K mg} {te : TE} {m : M D} (h : RX K mg W (RD K mg) te m) : RX K mg W RB (tTest te) (eTest m) := rx_tB h
theorem st_val {e : Expr} {te : TE} {m : M D} (h : SE X W e te m) (he : ∀ whole, isTrue e X.env whole = (do let v ← whole; standAt e.pos; holding [v] (truthy v)) := by intro _; rfl) : ST X W e (tB te) (eTest m) := ⟨pt_val h.pe he, rx_tB h.rx⟩
theorem st_cmp {op : CmpOp} {r : R2} {f : D → D → Option D} (ho : OpR X (compareOp op) r) (hf : Real2 X.K X.mg r f) (ha : SE X W a ta ma) (hb : SE X W b tb mb) (hm : behindInMarks op b = false := by first | exact nomark _ | with_unfolding_all rfl) : ST X W (.Compare a [op] [b] pos) (tTest (tOp r ta tb)) (eTest (eOp f ma mb)) :=
  ⟨pt_cmpR ho ha.pe hb.pe hm, rx_tTest (rx_op hf ha.rx hb.rx)⟩
/-- a op b op' c -/
def eChain (f g : D → D → Option D) (ma mb mc : M D) : M D := ma.bind fun a => mb.bind fun b => fun env => match f a b with
  | some (.bl true) => (mc.bind fun c => ofO (g b c)) env
  | some (.bl false) => .ok (.bl false) env
  | _ => .stuck
theorem rx_chain {K mg} {r r' : R2} {f g : D → D → Option D} (hf : Real2 K mg r f) (hg : Real2 K mg r' g) (ha : RX K mg W (RD K mg) ta ma) (hb : RX K mg W (RD K mg) tb mb) (hc : RX K mg W (RD K mg) tc mc) :
    RX K mg W (RD K mg) (tChain r r' ta tb tc) (eChain f g ma mb mc) := by
  refine ha.bind2 (t3 := fun x y σ H Q => r x y H fun z H3 => ∃ k, z = .bl k ∧ (if k = true then tc σ H3 fun w' H4 => r' y w' H4 Q else Q (.bl false) H3)) hb rd_monoR fun v w a b σ0 B H σ env sm r1 r2 Q post => ?_
  cases e : f a b with
  | none => rw [e] at post; exact post.elim
  | some z =>
    rw [e] at post
    refine hf B H v w a b z sm.sub r1 r2 e _ fun u B' H' l r3 => ?_
    cases z with
    | bl k =>
      refine ⟨k, Rep.bl_inv r3, ?_⟩
      cases k with
      | false =>
        have post : Post K mg W (RD K mg) σ0 σ env B H (.ok (.bl false) env) Q := post
        exact post.al sm l (Rep.bl false)
      | true =>
        have post : Post K mg W (RD K mg) σ0 σ env B H ((mc.bind fun c => ofO (g b c)) env) Q := post
        have sm' := sm.alloc l.g l.n l.s l.sb
        have post' := post.rebase (Stp.alloc l.g l.n l.s) (OSub.refl _)
        refine hc.go (R2 := RD K mg) (Q' := Q) (k := fun c => ofO (g b c)) sm' post' fun x c B1 H1 env1 sm1 g1 r1 post1 => ?_
        cases e' : g b c with
        | none => rw [e'] at post1; exact post1.elim
        | some z' =>
          rw [e'] at post1
          exact hg B1 H1 w x b c z' sm1.sub (r2.mono (l.g.trans g1)) r1 e' Q fun u B2 H2 l2 r4 => post1.al sm1 l2 r4
    | _ => exact post.elim
end
end Mi

/-! The mirror layer 3: operators. -/
namespace Mi
open PySem L2
variable [Tabs]

section
variable {K : PySem.W.Frag} {mg : Str → Option Value} {B B' H H' : Hp}
/-! ### to one side -/
theorem Real2.val {r : R2} {f : D → D → Option D} (h : ∀ (B H : Hp) (x y : V) (d e z : D), Sub B H → Rep K mg B x d → Rep K mg B y e → f d e = some z → ∃ v, (∀ B, Rep K mg B v z) ∧ ∀ Q : VK, Q v H → r x y H Q) : Real2 K mg r f :=
  fun B H x y d e z s h1 h2 e1 Q q => by
    obtain ⟨v, r1, r2⟩ := h B H x y d e z s h1 h2 e1
    exact r2 Q (q v B H (Al.refl s) (r1 B))

def dAdd : D → D → Option D
  | .int i, .int j => some (.int (i + j))
  | .str x, .str y => if x.length + y.length ≤ 16777216 then some (.str (x ++ y)) else none
  | .tup x, .tup y => if x.length + y.length ≤ 16777216 then some (.tup (x ++ y)) else none
  | .lst x, .lst y => if x.length + y.length ≤ 16777216 then some (.lst (x ++ y)) else none
  | _, _ => none
def rAddA (K : PySem.W.Frag) : R2 := fun x y H Q => rI0 (fun i j => .int (i + j)) x y H Q ∨ ((∃ i j, x = .str i ∧ y = .str j ∧ i.length + j.length ≤ sizeLine ∧ Q (.str (i ++ j)) H) ∨ (rCatA K x y H Q ∨ rCat x y H Q))
theorem or_add {X : Cx} : OpR X (binaryOp .Add) (rAddA X.K) := op_add.or (op_add_str.or (op_catA.or op_cat))
theorem re_add : Real2 K mg (rAddA K) dAdd := by
  intro B H x y d e z s h1 h2 e1 Q q
  have hz : sizeLine = 16777216 := sizeLine_eq
  unfold dAdd at e1
  split at e1
  · cases e1; cases h1; cases h2
    exact .inl ⟨_, _, rfl, rfl, q _ B H (Al.refl s) (.int _)⟩
  · split at e1
    · cases e1; cases h1; cases h2
      exact .inr (.inl ⟨_, _, rfl, rfl, by omega, q _ B H (Al.refl s) (.str _)⟩)
    · cases e1
  · split at e1
    · rename_i hl
      cases e1
      cases h1 with
      | tup p1 r1 =>
        cases h2 with
        | tup p2 r2 =>
          have l1 := r1.length
          have l2 := r2.length
          refine .inr (.inr (.inl ⟨_, _, _, _, rfl, rfl, SqT.of (s.tup p1), SqT.of (s.tup p2), by omega, fun e => ?_, fun _ e => ?_, fun _ _ p hp => ?_⟩))
          · subst e
            cases r1
            exact q _ B H (Al.refl s) (.tup p2 r2)
          · subst e
            cases r2
            rw [List.append_nil] at q
            exact q _ B H (Al.refl s) (.tup p1 r1)
          · exact q _ _ _ (Al.upd s hp) (.tup upd_same ((r1.append r2).mono (Al.upd s hp).g))
    · cases e1
  · split at e1
    · rename_i hl
      cases e1
      cases h1 with
      | lst p1 r1 =>
        cases h2 with
        | lst p2 r2 =>
          have l1 := r1.length
          have l2 := r2.length
          refine .inr (.inr (.inr ⟨_, _, _, _, rfl, rfl, s.lst p1, s.lst p2, by omega, fun p hp => ?_⟩))
          exact q _ _ _ (Al.upd s hp) (.lst upd_same ((r1.append r2).mono (Al.upd s hp).g))
    · cases e1
  · cases e1

def dSub : D → D → Option D
  | .int i, .int j => some (.int (i - j))
  | _, _ => none
theorem re_sub : Real2 K mg (rI0 fun i j => .int (i - j)) dSub := by
  intro B H x y d e z s h1 h2 e1 Q q
  unfold dSub at e1
  split at e1
  · cases e1; cases h1; cases h2
    exact ⟨_, _, rfl, rfl, q _ B H (Al.refl s) (.int _)⟩
  · cases e1

/-- a text times an int -/
def rMulS : R2 := fun x y H Q => ∃ z n, x = .str z ∧ y = .int n ∧ PySem.MulOk z n ∧ Q (.str (PySem.Txt.mul z n)) H
theorem op_mulS {X : Cx} : OpR X (binaryOp .Mult) rMulS := by
  intro pins s σ H x y v u Q I rx ry h
  obtain ⟨z, n, rfl, rfl, hk, q⟩ := h
  obtain ⟨t, rfl⟩ := rx
  obtain ⟨t', rfl⟩ := ry
  exact PySem.SB.mul hk fun t' k => ⟨.str _, H, I.tok _, ⟨_, rfl⟩, q⟩
theorem mulOk_small {z : Str} {n : Int} (h0 : -1000000 ≤ n) (h1 : n ≤ 1000000) (h2 : z.length * n.toNat ≤ 1000000) : PySem.MulOk z n := by
  refine ⟨?_, fun hn _ hg => ?_, fun hn _ => ?_⟩
  · rw [Bool.or_eq_false_iff]
    exact ⟨decide_eq_false (by omega), decide_eq_false (by omega)⟩
  · have : (z.length : Int) * n ≤ 1000000 := by
      have e : ((z.length * n.toNat : Nat) : Int) = (z.length : Int) * n := by rw [Int.natCast_mul, Int.toNat_of_nonneg (by omega)]
      omega
    have h3 : ((2 : Int) ^ 63 - 1) / n < (z.length : Int) := hg
    have h4 : (2 : Int) ^ 63 - 1 < (((2 : Int) ^ 63 - 1) / n + 1) * n := Int.lt_mul_of_ediv_lt (by omega) (by omega)
    have h5 : (((2 : Int) ^ 63 - 1) / n + 1) * n ≤ (z.length : Int) * n := Int.mul_le_mul_of_nonneg_right (by omega) (by omega)
    omega
  · have hz : sizeLine = 16777216 := sizeLine_eq
    have : ¬ (z.length * n.toNat > 1000000) := by omega
    unfold Builtin.Str.tooLong
    first
      | (refine decide_eq_false ?_; omega)
      | (simp; omega)
def smallMul (i j : Int) : Bool := decide (i.natAbs.log2 + j.natAbs.log2 < 1000000)
def dMul : D → D → Option D
  | .int i, .int j => if smallMul i j then some (.int (i * j)) else none
  | .str z, .int n => if -1000000 ≤ n ∧ n ≤ 1000000 ∧ z.length * n.toNat ≤ 1000000 then some (.str (PySem.Txt.mul z n)) else none
  | _, _ => none
def rMulA : R2 := fun x y H Q => rI CMulW (fun i j => .int (i * j)) x y H Q ∨ rMulS x y H Q
theorem or_mul {X : Cx} : OpR X (binaryOp .Mult) rMulA := op_mulW.or op_mulS
theorem re_mul : Real2 K mg rMulA dMul := by
  intro B H x y d e z s h1 h2 e1 Q q
  unfold dMul at e1
  split at e1
  · split at e1
    · rename_i i j hs
      have hs' : i.natAbs.log2 + j.natAbs.log2 < 1000000 := of_decide_eq_true hs
      cases e1; cases h1; cases h2
      exact .inl ⟨_, _, rfl, rfl, hs', q _ B H (Al.refl s) (.int _)⟩
    · cases e1
  · split at e1
    · rename_i hs
      cases e1; cases h1; cases h2
      exact .inr ⟨_, _, rfl, rfl, mulOk_small hs.1 hs.2.1 hs.2.2, q _ B H (Al.refl s) (.str _)⟩
    · cases e1
  · cases e1

/-! ### division, powers, shifts -/
def CDivG (_ j : Int) : Prop := j ≠ 0 ∧ j.natAbs.log2 < 9000
theorem op_fdivG {X : Cx} : OpR X (binaryOp .FloorDiv) (rI CDivG fun i j => .int (i.fdiv j)) := opI fun _ _ _ _ _ _ _ hc q => PyProof.Rows.floordiv_int hc.1 q (.inl (PyProof.noPylong_of_log2 hc.2))
theorem realI {C : Int → Int → Prop} {g : Int → Int → Int} {f : D → D → Option D} (h : ∀ d e z, f d e = some z → ∃ i j, d = .int i ∧ e = .int j ∧ C i j ∧ z = .int (g i j)) : Real2 K mg (rI C fun i j => .int (g i j)) f := by
  intro B H x y d e z s h1 h2 e1 Q q
  obtain ⟨i, j, rfl, rfl, hc, rfl⟩ := h d e z e1
  cases h1; cases h2
  exact ⟨_, _, rfl, rfl, hc, q _ B H (Al.refl s) (.int _)⟩
def dDiv : D → D → Option D
  | .int i, .int j => if j ≠ 0 ∧ j.natAbs.log2 < 9000 then some (.int (i.fdiv j)) else none
  | _, _ => none
theorem re_div : Real2 K mg (rI CDivG fun i j => .int (i.fdiv j)) dDiv := realI fun d e z h => by
  unfold dDiv at h
  split at h
  · split at h
    · rename_i hs
      cases h
      exact ⟨_, _, rfl, rfl, hs, rfl⟩
    · cases h
  · cases h
def dMod : D → D → Option D
  | .int i, .int j => if j ≠ 0 then some (.int (i.fmod j)) else none
  | _, _ => none
theorem re_mod : Real2 K mg (rI (fun _ j => j ≠ 0) fun i j => .int (i.fmod j)) dMod := realI fun d e z h => by
  unfold dMod at h
  split at h
  · split at h
    · rename_i hs
      cases h
      exact ⟨_, _, rfl, rfl, hs, rfl⟩
    · cases h
  · cases h
def smallPow (i j : Int) : Bool := decide (0 ≤ j) && decide (j ≤ 1000000) && decide (i.natAbs < 2 ^ 64)
theorem smallPow_ok {i j : Int} (h : smallPow i j = true) : CPow i j := by
  unfold smallPow at h
  rw [Bool.and_eq_true, Bool.and_eq_true] at h
  exact ⟨of_decide_eq_true h.1.1, of_decide_eq_true h.1.2, of_decide_eq_true h.2⟩
def dPow : D → D → Option D
  | .int i, .int j => if smallPow i j then some (.int (i ^ j.toNat)) else none
  | _, _ => none
theorem re_pow : Real2 K mg (rI CPow fun i j => .int (i ^ j.toNat)) dPow := realI fun d e z h => by
  unfold dPow at h
  split at h
  · split at h
    · rename_i hs
      cases h
      exact ⟨_, _, rfl, rfl, smallPow_ok hs, rfl⟩
    · cases h
  · cases h
def dShl : D → D → Option D
  | .int i, .int j => if smallPow i j then some (.int (i * 2 ^ j.toNat)) else none
  | _, _ => none
theorem re_shl : Real2 K mg (rI CPow fun i j => .int (i * 2 ^ j.toNat)) dShl := realI fun d e z h => by
  unfold dShl at h
  split at h
  · split at h
    · rename_i hs
      cases h
      exact ⟨_, _, rfl, rfl, smallPow_ok hs, rfl⟩
    · cases h
  · cases h
def dNeg : D → Option D
  | .int i => some (.int (-i))
  | _ => none
theorem re_neg : Real1 K mg (rU fun i => .int (-i)) dNeg := by
  intro B H x d z s h1 e1 Q q
  unfold dNeg at e1
  split at e1
  · cases e1; cases h1
    exact ⟨_, rfl, q _ B H (Al.refl s) (.int _)⟩
  · cases e1

/-! ### comparisons -/
def rBl (f : Int → Int → Bool) : R2 := fun x y H Q => ∃ a b, x = .bl a ∧ y = .bl b ∧ Q (.bl (f (PyProof.Rows.b2i a) (PyProof.Rows.b2i b))) H
theorem opBl {X : Cx} {op : CmpOp} {f : Int → Int → Bool} (rule : ∀ (p q : Bool) (s : Shared) (Q : Value → Shared → Prop) (E : Value → Shared → Prop), Q (.bool (f (PyProof.Rows.b2i p) (PyProof.Rows.b2i q))) s → wpAny (model X.prog X.w) X.A (compareOp op (.bool p) (.bool q)) Q E s) :
    OpR X (compareOp op) (rBl f) := by
  intro pins s σ H x y v u Q I rx ry h
  obtain ⟨a, b, rfl, rfl, q⟩ := h
  cases (show v = Value.bool a from rx)
  cases (show u = Value.bool b from ry)
  exact rule a b s _ _ ⟨.bl _, H, I, rfl, q⟩
theorem op_ltB {X : Cx} : OpR X (compareOp .Lt) (rBl fun a b => decide (a < b)) := opBl fun _ _ _ _ _ q => PyProof.Rows.lt_bool q
theorem op_leB {X : Cx} : OpR X (compareOp .LtE) (rBl fun a b => decide (a ≤ b)) := opBl fun _ _ _ _ _ q => PyProof.Rows.le_bool q
theorem op_gtB {X : Cx} : OpR X (compareOp .Gt) (rBl fun a b => decide (b < a)) := opBl fun _ _ _ _ _ q => PyProof.Rows.gt_bool q
theorem op_geB {X : Cx} : OpR X (compareOp .GtE) (rBl fun a b => decide (b ≤ a)) := opBl fun _ _ _ _ _ q => PyProof.Rows.ge_bool q
def rStr (f : List Nat → List Nat → Bool) : R2 := fun x y H Q => ∃ i j, x = .str i ∧ y = .str j ∧ Q (.bl (f i.cps.toList j.cps.toList)) H
/-- an order: on ints, truth values, texts -/
def rOrd (fi : Int → Int → Bool) (fs : List Nat → List Nat → Bool) : R2 := fun x y H Q => rI0 (fun i j => .bl (fi i j)) x y H Q ∨ (rStr fs x y H Q ∨ rBl fi x y H Q)
def dOrd (fi : Int → Int → Bool) (fs : List Nat → List Nat → Bool) : D → D → Option D
  | .int i, .int j => some (.bl (fi i j))
  | .str i, .str j => some (.bl (fs i.cps.toList j.cps.toList))
  | .bl i, .bl j => some (.bl (fi (PyProof.Rows.b2i i) (PyProof.Rows.b2i j)))
  | _, _ => none
theorem re_ord {fi : Int → Int → Bool} {fs : List Nat → List Nat → Bool} : Real2 K mg (rOrd fi fs) (dOrd fi fs) := by
  intro B H x y d e z s h1 h2 e1 Q q
  unfold dOrd at e1
  split at e1
  · cases e1; cases h1; cases h2
    exact .inl ⟨_, _, rfl, rfl, q _ B H (Al.refl s) (.bl _)⟩
  · cases e1; cases h1; cases h2
    exact .inr (.inl ⟨_, _, rfl, rfl, q _ B H (Al.refl s) (.bl _)⟩)
  · cases e1; cases h1; cases h2
    exact .inr (.inr ⟨_, _, rfl, rfl, q _ B H (Al.refl s) (.bl _)⟩)
  · cases e1
abbrev dLt := dOrd (fun i j => decide (i < j)) (fun x y => decide (x < y))
abbrev dLe := dOrd (fun i j => decide (i ≤ j)) (fun x y => !decide (y < x))
abbrev dGt := dOrd (fun i j => decide (j < i)) (fun x y => decide (y < x))
abbrev dGe := dOrd (fun i j => decide (j ≤ i)) (fun x y => !decide (x < y))
theorem or_lt {X : Cx} : OpR X (compareOp .Lt) (rOrd (fun i j => decide (i < j)) (fun x y => decide (x < y))) := op_lt.or (op_lt_str.or op_ltB)
theorem or_le {X : Cx} : OpR X (compareOp .LtE) (rOrd (fun i j => decide (i ≤ j)) (fun x y => !decide (y < x))) := op_le.or (op_le_str.or op_leB)
theorem or_gt {X : Cx} : OpR X (compareOp .Gt) (rOrd (fun i j => decide (j < i)) (fun x y => decide (y < x))) := op_gt.or (op_gt_str.or op_gtB)
theorem or_ge {X : Cx} : OpR X (compareOp .GtE) (rOrd (fun i j => decide (j ≤ i)) (fun x y => !decide (x < y))) := op_ge.or (op_ge_str.or op_geB)

/-! ### == of data -/
mutual
def toPy : D → PyData
  | .non => .none
  | .bl b => .bool b
  | .int i => .int i
  | .str x => .str x
  | .tup xs => .tuple (toPys xs)
  | .ftp xs => .tuple (toPys xs)
  | .lst xs => .list (toPys xs)
  | .frz xs => .list (toPys xs)
  | .dK _ => .dict []
  | .dT _ => .dict []
  | .ins _ _ => .dict []
def toPys : List D → List PyData
  | [] => []
  | x :: xs => toPy x :: toPys xs
end
mutual
theorem Rep.dp (s : Sub B H) : ∀ {v : V} {d : D}, Rep K mg B v d → (toPy d).canLay0 = true → Dp K H v (toPy d)
  | _, _, .non, _ => .non
  | _, _, .bl b, _ => .bl b
  | _, _, .int b, _ => .int b
  | _, _, .str b, _ => .str b
  | _, _, .tup (ds := ds) h r, c => by
    rw [toPy] at c ⊢
    exact .tup (.of (s.tup h)) (Reps.dp s r c)
  | _, _, .ftp (ds := ds) h r, c => by
    rw [toPy] at c ⊢
    exact .tup (s.sqT h) (Reps.dp s r c)
  | _, _, .lst (ds := ds) h r, c => by
    rw [toPy] at c ⊢
    exact .lst (.of (s.lst h)) (Reps.dp s r c)
  | _, _, .frz (ds := ds) h r, c => by
    rw [toPy] at c ⊢
    exact .lst (s.sqL h) (Reps.dp s r c)
  | _, _, .dK h k r, c => by rw [toPy] at c; cases c
  | _, _, .dT h k r, c => by rw [toPy] at c; cases c
  | _, _, .ins h m k r, c => by rw [toPy] at c; cases c
theorem Reps.dp (s : Sub B H) : ∀ {v : List V} {d : List D}, Reps K mg B v d → PyData.canLayAll0 (toPys d) = true → DpAll K H v (toPys d)
  | _, _, .nil, _ => by rw [toPys]; exact .nil
  | _, _, .cons h r, c => by
    rw [toPys] at c ⊢
    have c' : ((toPy _).canLay0 && PyData.canLayAll0 (toPys _)) = true := c
    rw [Bool.and_eq_true] at c'
    exact .cons (Rep.dp s h c'.1) (Reps.dp s r c'.2)
end
def dEq (d e : D) : Option D := if SeqAt.shaped (toPy d) && SeqAt.shaped (toPy e) then some (.bl (PyData.eqv (toPy d) (toPy e))) else none
def dNe (d e : D) : Option D := if SeqAt.shaped (toPy d) && SeqAt.shaped (toPy e) then some (.bl (!PyData.eqv (toPy d) (toPy e))) else none
theorem re_eq : Real2 K mg (rEqD K) dEq := by
  intro B H x y d e z s h1 h2 e1 Q q
  unfold dEq at e1
  split at e1
  · rename_i hs
    rw [Bool.and_eq_true] at hs
    cases e1
    exact ⟨_, _, h1.dp s (SeqAt.canLay_of_shaped hs.1), h2.dp s (SeqAt.canLay_of_shaped hs.2), hs.1, hs.2, q _ B H (Al.refl s) (.bl _)⟩
  · cases e1
theorem re_ne : Real2 K mg (rNeD K) dNe := by
  intro B H x y d e z s h1 h2 e1 Q q
  unfold dNe at e1
  split at e1
  · rename_i hs
    rw [Bool.and_eq_true] at hs
    cases e1
    exact ⟨_, _, h1.dp s (SeqAt.canLay_of_shaped hs.1), h2.dp s (SeqAt.canLay_of_shaped hs.2), hs.1, hs.2, q _ B H (Al.refl s) (.bl _)⟩
  · cases e1

/-! ### is None; is, of truth values -/
def isNon : D → Bool
  | .non => true
  | _ => false
theorem Rep.isNon {v : V} {d : D} (h : Rep K mg B v d) : decide (v = .non) = isNon d := by cases h <;> rfl
def dIsN (d _e : D) : Option D := some (.bl (isNon d))
def dNotN (d _e : D) : Option D := some (.bl (!isNon d))
/-- a is None -/
def rIsN0 : R2 := fun x y H Q => y = .non ∧ Q (.bl (decide (x = .non))) H
def rNotN0 : R2 := fun x y H Q => y = .non ∧ Q (.bl (!decide (x = .non))) H
def eIsN (m : M D) : M D := m.bind fun a => M.pure (.bl (isNon a))
def eNotN (m : M D) : M D := m.bind fun a => M.pure (.bl (!isNon a))
def dIs : D → D → Option D
  | .bl a, .bl b => some (.bl (decide (a = b)))
  | _, _ => none
def dIsNot : D → D → Option D
  | .bl a, .bl b => some (.bl (!decide (a = b)))
  | _, _ => none
theorem re_is : Real2 K mg rIsB dIs := by
  intro B H x y d e z s h1 h2 e1 Q q
  unfold dIs at e1
  split at e1
  · cases e1; cases h1; cases h2
    exact ⟨_, _, rfl, rfl, q _ B H (Al.refl s) (.bl _)⟩
  · cases e1
theorem re_isNot : Real2 K mg rNotB dIsNot := by
  intro B H x y d e z s h1 h2 e1 Q q
  unfold dIsNot at e1
  split at e1
  · cases e1; cases h1; cases h2
    exact ⟨_, _, rfl, rfl, q _ B H (Al.refl s) (.bl _)⟩
  · cases e1
end
section
variable {X : Cx} {W : WX} {pos pos' : Pos} {a b c : Expr} {ta tb tc : TE} {ma mb mc : M D} {j : Nat}
theorem rx_isN {K mg} (h : RX K mg W (RD K mg) ta ma) : RX K mg W (RD K mg) (tIsN ta) (eIsN ma) :=
  h.bind (t2 := fun x _ H1 Q => Q (V.bl (decide (x = .non))) H1) fun v a σ0 B H σ env sm r Q post => by
    have post : Post K mg W (RD K mg) σ0 σ env B H (.ok (.bl (isNon a)) env) Q := post
    rw [Rep.isNon r]
    exact post.val sm (Rep.bl _)
theorem rx_notN {K mg} (h : RX K mg W (RD K mg) ta ma) : RX K mg W (RD K mg) (tNotN ta) (eNotN ma) :=
  h.bind (t2 := fun x _ H1 Q => Q (V.bl (!decide (x = .non))) H1) fun v a σ0 B H σ env sm r Q post => by
    have post : Post K mg W (RD K mg) σ0 σ env B H (.ok (.bl (!isNon a)) env) Q := post
    rw [Rep.isNon r]
    exact post.val sm (Rep.bl _)
theorem se_isN (h : SE X W a ta ma) : SE X W (.Compare a [.Is] [.Constant .none j pos'] pos) (tIsN ta) (eIsN ma) := ⟨pe_cmp (pc_isN h.pe), rx_isN h.rx⟩
theorem se_notN (h : SE X W a ta ma) : SE X W (.Compare a [.IsNot] [.Constant .none j pos'] pos) (tNotN ta) (eNotN ma) := ⟨pe_cmp (pc_notN h.pe), rx_notN h.rx⟩
theorem st_isN (h : SE X W a ta ma) : ST X W (.Compare a [.Is] [.Constant .none j pos'] pos) (tB (tIsN ta)) (eTest (eIsN ma)) := ⟨pt_cmp (pc_isN h.pe), rx_tB (rx_isN h.rx)⟩
theorem st_notN (h : SE X W a ta ma) : ST X W (.Compare a [.IsNot] [.Constant .none j pos'] pos) (tB (tNotN ta)) (eTest (eNotN ma)) := ⟨pt_cmp (pc_notN h.pe), rx_tB (rx_notN h.rx)⟩
theorem se_chain {op op' : CmpOp} {r r' : R2} {f g : D → D → Option D} (ho : OpR X (compareOp op) r) (hf : Real2 X.K X.mg r f) (ho' : OpR X (compareOp op') r') (hg : Real2 X.K X.mg r' g) (ha : SE X W a ta ma) (hb : SE X W b tb mb) (hc : SE X W c tc mc)
    (hm : lastMarks [op, op'] [b, c] = false := by with_unfolding_all rfl) : SE X W (.Compare a [op, op'] [b, c] pos) (tChain r r' ta tb tc) (eChain f g ma mb mc) := ⟨pe_chain ho ho' ha.pe hb.pe hc.pe hm, rx_chain hf hg ha.rx hb.rx hc.rx⟩
theorem st_chain {op op' : CmpOp} {r r' : R2} {f g : D → D → Option D} (ho : OpR X (compareOp op) r) (hf : Real2 X.K X.mg r f) (ho' : OpR X (compareOp op') r') (hg : Real2 X.K X.mg r' g) (ha : SE X W a ta ma) (hb : SE X W b tb mb) (hc : SE X W c tc mc)
    (hm : lastMarks [op, op'] [b, c] = false := by with_unfolding_all rfl) : ST X W (.Compare a [op, op'] [b, c] pos) (tTest (tChain r r' ta tb tc)) (eTest (eChain f g ma mb mc)) := ⟨pt_chain ho ho' ha.pe hb.pe hc.pe hm, rx_tTest (rx_chain hf hg ha.rx hb.rx hc.rx)⟩

/-! ### and, or, not, if else -/
def bAnd (m n : M Bool) : M Bool := m.bind fun a => if a = true then n else M.pure false
def bOr (m n : M Bool) : M Bool := m.bind fun a => if a = true then M.pure true else n
def bNot (m : M Bool) : M Bool := m.bind fun a => M.pure (!a)
def eAnd (m n : M D) : M D := m.bind fun d => match d with
  | .bl true => n
  | .bl false => M.pure (.bl false)
  | _ => fun _ => .stuck
def eOr (m n : M D) : M D := m.bind fun d => match d with
  | .bl true => M.pure (.bl true)
  | .bl false => n
  | _ => fun _ => .stuck
def eNot (m : M D) : M D := m.bind fun d => match d with
  | .bl b => M.pure (.bl (!b))
  | _ => fun _ => .stuck
def eIf (t : M Bool) (m n : M D) : M D := t.bind fun c => if c = true then m else n
variable {tt tu : TT} {mt mu : M Bool} {rest : List Expr} {op : BoolOp}
theorem rx_and {K mg} (h1 : RX K mg W RB tt mt) (h2 : RX K mg W RB tu mu) : RX K mg W RB (tAnd tt tu) (bAnd mt mu) :=
  h1.bind (t2 := fun c σ H1 Q => if c = true then tu σ H1 Q else Q false H1) fun v a σ0 B H σ env sm r Q post => by
    have e : v = a := r
    subst e
    cases v with
    | true => exact h2 σ0 B H σ env sm Q post
    | false => exact post.val sm rfl
theorem rx_or {K mg} (h1 : RX K mg W RB tt mt) (h2 : RX K mg W RB tu mu) : RX K mg W RB (tOr tt tu) (bOr mt mu) :=
  h1.bind (t2 := fun c σ H1 Q => if c = true then Q true H1 else tu σ H1 Q) fun v a σ0 B H σ env sm r Q post => by
    have e : v = a := r
    subst e
    cases v with
    | false => exact h2 σ0 B H σ env sm Q post
    | true => exact post.val sm rfl
theorem rx_not {K mg} (h1 : RX K mg W RB tt mt) : RX K mg W RB (tNot tt) (bNot mt) :=
  h1.bind (t2 := fun c σ H1 Q => Q (!c) H1) fun v a σ0 B H σ env sm r Q post => by
    have e : v = a := r
    subst e
    exact post.val sm rfl
theorem SW.st (h : SW X W a tt mt) : ST X W a tt mt := ⟨h.pw.pt, h.rx⟩
theorem sw_and1 (h : ST X W a tt mt) : SW X W (.BoolOp .And [a] pos) tt mt := ⟨pw_and1 h.pt, h.rx⟩
theorem sw_or1 (h : ST X W a tt mt) : SW X W (.BoolOp .Or [a] pos) tt mt := ⟨pw_or1 h.pt, h.rx⟩
theorem sw_and (h : ST X W a tt mt) (g : SW X W (.BoolOp .And (b :: rest) pos) tu mu) : SW X W (.BoolOp .And (a :: b :: rest) pos) (tAnd tt tu) (bAnd mt mu) := ⟨pw_and h.pt g.pw, rx_and h.rx g.rx⟩
theorem sw_or (h : ST X W a tt mt) (g : SW X W (.BoolOp .Or (b :: rest) pos) tu mu) : SW X W (.BoolOp .Or (a :: b :: rest) pos) (tOr tt tu) (bOr mt mu) := ⟨pw_or h.pt g.pw, rx_or h.rx g.rx⟩
theorem st_not (h : ST X W a tt mt) : ST X W (.UnaryOp .Not a pos) (tNot tt) (bNot mt) := ⟨pt_not h.pt, rx_not h.rx⟩
theorem se_one (h : SE X W a ta ma) : SE X W (.BoolOp op [a] pos) ta ma := ⟨pe_one h.pe, h.rx⟩
theorem se_and (h : SE X W a ta ma) (g : SE X W (.BoolOp .And (b :: rest) pos) tb mb) : SE X W (.BoolOp .And (a :: b :: rest) pos) (tAndV ta tb) (eAnd ma mb) := by
  refine ⟨pe_and h.pe g.pe, h.rx.bind (t2 := fun x σ H1 Q => ∃ c, x = .bl c ∧ if c = true then tb σ H1 Q else Q (.bl false) H1) fun v d σ0 B H σ env sm r Q post => ?_⟩
  cases d with
  | bl c =>
    refine ⟨c, Rep.bl_inv r, ?_⟩
    cases c with
    | true => exact g.rx σ0 B H σ env sm Q post
    | false => exact post.val sm (Rep.bl _)
  | _ => exact post.elim
theorem se_or (h : SE X W a ta ma) (g : SE X W (.BoolOp .Or (b :: rest) pos) tb mb) : SE X W (.BoolOp .Or (a :: b :: rest) pos) (tOrV ta tb) (eOr ma mb) := by
  refine ⟨pe_or h.pe g.pe, h.rx.bind (t2 := fun x σ H1 Q => ∃ c, x = .bl c ∧ if c = true then Q (.bl true) H1 else tb σ H1 Q) fun v d σ0 B H σ env sm r Q post => ?_⟩
  cases d with
  | bl c =>
    refine ⟨c, Rep.bl_inv r, ?_⟩
    cases c with
    | true => exact post.val sm (Rep.bl _)
    | false => exact g.rx σ0 B H σ env sm Q post
  | _ => exact post.elim
theorem se_not (h : SE X W a ta ma) : SE X W (.UnaryOp .Not a pos) (tNotV ta) (eNot ma) := by
  refine ⟨pe_not h.pe, h.rx.bind (t2 := fun x σ H1 Q => ∃ c, x = V.bl c ∧ Q (V.bl (!c)) H1) fun v d σ0 B H σ env sm r Q post => ?_⟩
  cases d with
  | bl c => exact ⟨c, Rep.bl_inv r, post.val sm (Rep.bl _)⟩
  | _ => exact post.elim
theorem se_if {c : Expr} (h : ST X W c tt mt) (h1 : SE X W a ta ma) (h2 : SE X W b tb mb) : SE X W (.IfExp c a b pos) (tIf tt ta tb) (eIf mt ma mb) := by
  refine ⟨pe_ifExp h.pt h1.pe h2.pe, h.rx.bind (t2 := fun c σ H1 Q => if c = true then ta σ H1 Q else tb σ H1 Q) fun v d σ0 B H σ env sm r Q post => ?_⟩
  have e : v = d := r
  subst e
  cases v with
  | true => exact h1.rx σ0 B H σ env sm Q post
  | false => exact h2.rx σ0 B H σ env sm Q post
end
end Mi

/-! The mirror layer 4: new containers, displays, subscripts, slices, len, isinstance, join. -/
namespace Mi
open PySem L2
variable [Tabs]

section
variable (K : PySem.W.Frag) (mg : Str → Option Value) (W : WX)
/-- a new container comes -/
def PostN (σ0 σ : L2.St) (env : En) (B H : Hp) (r : Res D) (Q : VK) : Prop :=
  match r with
  | .stuck => False
  | .ok d env' => ∀ a B' H', Stp (Owned σ env) B H B' H' → Sm K mg σ0 B' H' σ env' → OSub env env' → Cont K mg B' H' a d → B' a = none → H a = none → Q (.ref a) H'
  | .exn x env' => ∀ cls d B' H', Stp (Owned σ env) B H B' H' → Sm K mg σ0 B' H' σ env' → OSub env env' → ExR mg x cls d H' → W cls d σ H'
def RN (t : TE) (m : M D) : Prop := ∀ σ0 B H σ env, Sm K mg σ0 B H σ env → ∀ Q : VK, PostN K mg W σ0 σ env B H (m env) Q → t σ H Q
end
structure SN (X : Cx) (W : WX) (e : Expr) (te : TE) (m : M D) : Prop where
  pe : PE X e te
  rn : RN X.K X.mg W te m
section
variable {K : PySem.W.Frag} {mg : Str → Option Value} {W : WX} {α β : Type} {R : L2.St → Hp → β → α → Prop}
theorem PostN.rebase {σ0 σ : L2.St} {env env1 : En} {B H B1 H1 : Hp} {r : Res D} {Q : VK} (h : PostN K mg W σ0 σ env B H r Q) (s : Stp (Owned σ env) B H B1 H1) (o : OSub env env1) : PostN K mg W σ0 σ env1 B1 H1 r Q := by
  cases r with
  | stuck => exact h
  | ok a env' =>
    intro v B' H' s' m' o' r' hb hn
    refine h v B' H' (s.trans s' fun x z => o.owned z) m' (o.trans o') r' hb ?_
    cases q : H v with
    | none => rfl
    | some u =>
      obtain ⟨o', e⟩ := s.there v u q
      rw [hn] at e; cases e
  | exn x env' => exact fun c d B' H' s' m' o' r' => h c d B' H' (s.trans s' fun x z => o.owned z) m' (o.trans o') r'
theorem RX.goN {t : L2.St → Hp → (β → Hp → Prop) → Prop} {m : M α} {k : α → M D} {Q' : VK} {Q : β → Hp → Prop} {σ0 σ : L2.St} {B H : Hp} {env : En} (h : RX K mg W R t m) (sm : Sm K mg σ0 B H σ env)
    (post : PostN K mg W σ0 σ env B H ((m env).bind k) Q') (cont : ∀ v a B1 H1 env1, Sm K mg σ0 B1 H1 σ env1 → Same B B1 → R σ B1 v a → PostN K mg W σ0 σ env1 B1 H1 (k a env1) Q' → Q v H1) : t σ H Q := by
  refine h σ0 B H σ env sm _ ?_
  cases e : m env with
  | stuck => rw [e] at post; exact post
  | exn x env' => rw [e] at post; exact post
  | ok a env' =>
    rw [e] at post
    intro v B1 H1 s1 m1 o1 r1
    exact cont v a B1 H1 env' m1 s1.grow r1 (PostN.rebase post s1 o1)
/-- a new object at p, nobody else's -/
theorem PostN.new {σ0 σ : L2.St} {env : En} {B H : Hp} {d : D} {Q : VK} {p : Addr} {o : HO} (h : PostN K mg W σ0 σ env B H (.ok d env) Q) (m : Sm K mg σ0 B H σ env) (hp : H p = none) (c : Cont K mg B (upd H p o) p d) : Q (.ref p) (upd H p o) := by
  have sb : Sub B (upd H p o) := m.sub.same (same_upd hp)
  exact h p B _ (Stp.alloc (Same.refl _) (fun _ _ q => .inl q) (same_upd hp)) (m.alloc (Same.refl _) (fun _ _ q => .inl q) (same_upd hp) sb) (OSub.refl _) c (m.sub.none hp) hp
theorem Sm.own_there {σ0 σ : L2.St} {env : En} {B H : Hp} (m : Sm K mg σ0 B H σ env) {a : Addr} (h : Owned σ env a) : (∃ o, H a = some o) ∧ B a = none := by
  obtain ⟨i, p, d, e, r⟩ := h
  obtain ⟨v, e1, a', e2, c, hb, _⟩ := m.sl i _ e
  rw [r] at e1
  cases e1
  cases e2
  exact ⟨c.there, hb⟩
/-- a container that no slot holds is frozen -/
theorem Sm.freeze {σ0 σ : L2.St} {env : En} {B H : Hp} (m : Sm K mg σ0 B H σ env) {a : Addr} {o : HO} (ho : H a = some o) (hb : B a = none) (hn : ¬ Owned σ env a) (nt : ¬ isTbl o) : Sm K mg σ0 (upd B a o) H σ env where
  tb := fun P hP => ⟨(m.tb P hP).1, by rw [upd_ne (TabG.ne (m.tb P hP).1 ho nt)]; exact (m.tb P hP).2⟩
  sub := fun x u q => by
    by_cases e : x = a
    · subst e; rw [upd_same] at q; cases q; exact .inl ho
    · rw [upd_ne e] at q; exact m.sub x u q
  len := m.len
  sl := fun i s e => by
    obtain ⟨v, e1, r⟩ := m.sl i s e
    refine ⟨v, e1, ?_⟩
    cases s with
    | shr d => exact Rep.mono (same_upd hb) r
    | own pin d =>
      obtain ⟨x, rfl, c, hx, hp⟩ := r
      refine ⟨x, rfl, c.mono (same_upd hb) rfl, ?_, hp⟩
      rw [upd_ne]
      · exact hx
      · intro z; subst z
        exact hn ⟨i, pin, d, e, e1⟩
  sep := m.sep
theorem RN.rx {t : TE} {m : M D} (h : RN K mg W t m) : RX K mg W (RD K mg) t m := by
  intro σ0 B H σ env sm Q post
  refine h σ0 B H σ env sm Q ?_
  cases e : m env with
  | stuck => rw [e] at post; exact post
  | exn x env' => rw [e] at post; exact post
  | ok d env' =>
    rw [e] at post
    intro a B' H' s' m' o' c hb hn
    obtain ⟨o, ho, r⟩ := c.frz hb
    have nt : ¬ isTbl o := by
      obtain ⟨o2, h2, nt⟩ := c.ntab
      rw [ho] at h2
      cases h2
      exact nt
    have nown : ¬ Owned σ env' a := fun z => by
      obtain ⟨⟨u, e1⟩, _⟩ := sm.own_there (o'.owned z)
      rw [hn] at e1; cases e1
    refine post (.ref a) (upd B' a o) H' ⟨s'.grow.trans (same_upd hb), fun x u q => ?_, fun a' o'' h' n' => (s'.frame a' o'' h' n').monoB fun o q => same_upd hb _ _ q, s'.there, s'.lk⟩ (m'.freeze ho hb nown nt) o' r
    by_cases ex : x = a
    · subst ex; exact .inr (.inl hn)
    · rw [upd_ne ex] at q; exact s'.new x u q
theorem SN.se {X : Cx} {e : Expr} {te : TE} {m : M D} (h : SN X W e te m) : SE X W e te m := ⟨h.pe, h.rn.rx⟩
end

/-! ### arguments, displays -/
def aNil : M (List D) := M.pure []
def aCons (m : M D) (r : M (List D)) : M (List D) := m.bind fun a => r.bind fun as => M.pure (a :: as)
def eTup (m : M (List D)) : M D := m.bind fun as => ofO (if as.length ≤ 16777216 then some (.tup as) else none)
def eLst (m : M (List D)) : M D := m.bind fun as => ofO (if as.length ≤ 16777216 then some (.lst as) else none)
section
variable {X : Cx} {W : WX} {pos : Pos} {e : Expr} {es : List Expr} {te : TE} {ta tr : TA} {me : M D} {ma mr : M (List D)} {K : PySem.W.Frag} {mg : Str → Option Value}
theorem rx_nil : RX K mg W (RDs K mg) tNil aNil := fun σ0 B H σ env sm Q post => post.val sm .nil
theorem rx_cons (h : RX K mg W (RD K mg) te me) (r : RX K mg W (RDs K mg) tr mr) : RX K mg W (RDs K mg) (tCons te tr) (aCons me mr) :=
  h.bind2 (t3 := fun x xs σ H Q => Q (x :: xs) H) r rd_monoR fun v w a b σ0 B H σ env sm r1 r2 Q post => post.val sm (.cons r1 r2)
theorem sa_nil : SA X W [] tNil aNil := ⟨pa_nil, rx_nil⟩
theorem sa_cons (h : SE X W e te me) (r : SA X W es tr mr) (hs : starEach (e :: es) X.env = (false, eval e X.env) :: starEach es X.env := by rfl) : SA X W (e :: es) (tCons te tr) (aCons me mr) := ⟨pa_cons h.pe r.pa hs, rx_cons h.rx r.rx⟩
theorem rx_tup (h : RX K mg W (RDs K mg) ta ma) : RX K mg W (RD K mg) (tTup ta) (eTup ma) :=
  h.bind (t2 := fun xs σ H Q => xs.length ≤ sizeLine ∧ ∀ p, H p = none → Q (V.ref p) (upd H p (.tup xs))) fun v a σ0 B H σ env sm r Q post => by
    have hz : sizeLine = 16777216 := sizeLine_eq
    have hl := Reps.length r
    by_cases c : a.length ≤ 16777216
    · rw [if_pos c] at post
      exact ⟨by omega, fun p hp => post.al sm (Al.upd sm.sub hp) (.tup upd_same (Reps.mono (Al.upd sm.sub hp).g r))⟩
    · rw [if_neg c] at post; exact post.elim
theorem se_tup (h : SA X W es ta ma) {n} : SE X W (.Tuple es n pos) (tTup ta) (eTup ma) := ⟨pe_tup h.pa, rx_tup h.rx⟩
theorem sn_lst (h : SA X W es ta ma) : SN X W (.List es pos) (tLst ta) (eLst ma) := by
  refine ⟨pe_lst h.pa, fun σ0 B H σ env sm Q post => h.rx.goN sm post fun v a B1 H1 env1 sm1 g1 r1 post1 => ?_⟩
  have hz : sizeLine = 16777216 := sizeLine_eq
  have hl := Reps.length r1
  by_cases c : a.length ≤ 16777216
  · rw [if_pos c] at post1
    exact ⟨by omega, fun p hp => post1.new sm1 hp (.lst upd_same r1)⟩
  · rw [if_neg c] at post1; exact post1.elim

/-! ### subscripts -/
def dIx : D → D → Option D
  | .tup xs, .int i => atI xs i
  | .ftp xs, .int i => atI xs i
  | .lst xs, .int i => atI xs i
  | .frz xs, .int i => atI xs i
  | .str z, .int i => if z.length ≤ 16777216 then (atI z.cps.toList i).map fun c => .str ⟨#[c]⟩ else none
  | _, _ => none
theorem Reps.at {B : Hp} {vs : List V} {ds : List D} {i : Int} {z : D} (r : Reps K mg B vs ds) (h : atI ds i = some z) : ∃ v, atI vs i = some v ∧ Rep K mg B v z := by
  unfold atI at h ⊢
  rw [r.length]
  cases e : ixN ds.length i with
  | none => rw [e] at h; cases h
  | some j =>
    rw [e] at h
    exact r.get h
theorem re_ix : Real2 K mg (rIx K) dIx := by
  intro B H x y d e z s h1 h2 e1 Q q
  have hz : sizeLine = 16777216 := sizeLine_eq
  unfold dIx at e1
  split at e1
  · cases h2
    cases h1 with
    | tup p r =>
      obtain ⟨v, e2, r2⟩ := r.at e1
      exact .inr (.inl ⟨_, _, _, v, rfl, rfl, .of (s.tup p), e2, q v B H (Al.refl s) r2⟩)
  · cases h2
    cases h1 with
    | ftp p r =>
      obtain ⟨v, e2, r2⟩ := r.at e1
      exact .inr (.inl ⟨_, _, _, v, rfl, rfl, s.sqT p, e2, q v B H (Al.refl s) r2⟩)
  · cases h2
    cases h1 with
    | lst p r =>
      obtain ⟨v, e2, r2⟩ := r.at e1
      exact .inl ⟨_, _, _, v, rfl, rfl, .of (s.lst p), e2, q v B H (Al.refl s) r2⟩
  · cases h2
    cases h1 with
    | frz p r =>
      obtain ⟨v, e2, r2⟩ := r.at e1
      exact .inl ⟨_, _, _, v, rfl, rfl, s.sqL p, e2, q v B H (Al.refl s) r2⟩
  · split at e1
    · rename_i zz i hl
      cases h2; cases h1
      cases e2 : atI zz.cps.toList i with
      | none => rw [e2] at e1; cases e1
      | some c =>
        rw [e2] at e1
        cases e1
        exact .inr (.inr ⟨zz, i, c, rfl, rfl, by omega, e2, q _ B H (Al.refl s) (.str _)⟩)
    · cases e1
  · cases e1
theorem se_ix {a b : Expr} {ta tb : TE} {ma mb : M D} (ha : SE X W a ta ma) (hb : SE X W b tb mb) (hs : PlainIx b := by exact fun _ _ => rfl) : SE X W (.Subscript a b pos) (tOp (rIx X.K) ta tb) (eOp dIx ma mb) := ⟨pe_ix ix_seq ha.pe hb.pe hs, rx_op re_ix ha.rx hb.rx⟩
/-- a slot's own container -/
def getOwn (env : En) (i : Nat) : Option D := match env[i]? with
  | some (some (.own _ d)) => some d
  | _ => none
def getOwnL (env : En) (i : Nat) : Option (List D) := match getOwn env i with
  | some (.lst xs) => some xs
  | _ => none
theorem getOwn_some {env : En} {i : Nat} {d : D} (h : getOwn env i = some d) : ∃ p, env[i]? = some (some (.own p d)) := by
  unfold getOwn at h
  split at h
  · rename_i p d' e; cases h; exact ⟨p, e⟩
  · cases h
theorem getOwnL_some {env : En} {i : Nat} {ds : List D} (h : getOwnL env i = some ds) : getOwn env i = some (.lst ds) := by
  unfold getOwnL at h
  split at h
  · rename_i e; cases h; exact e
  · cases h
theorem Sm.getOwn {σ0 σ : L2.St} {env : En} {B H : Hp} (m : Sm K mg σ0 B H σ env) {i : Nat} {d : D} (h : Mi.getOwn env i = some d) : ∃ a p, env[i]? = some (some (.own p d)) ∧ σ[i]? = some (some (.ref a)) ∧ Cont K mg B H a d ∧ B a = none ∧ (p = true → σ0[i]? = some (some (.ref a))) := by
  obtain ⟨p, e⟩ := getOwn_some h
  obtain ⟨v, e1, a, rfl, c, hb, hp⟩ := m.sl i _ e
  exact ⟨a, p, e, e1, c, hb, hp⟩
theorem Cont.lst_inv {B H : Hp} {a : Addr} {ds : List D} (c : Cont K mg B H a (.lst ds)) : ∃ vs, H a = some (.lst vs) ∧ Reps K mg B vs ds := by
  cases c with
  | lst p r => exact ⟨_, p, r⟩
def eIxO (i : Nat) (mb : M D) : M D := fun env => match getOwn env i with
  | some _ => (mb.bind fun k env' => match getOwnL env' i, k with
    | some xs, .int j => ofO (atI xs j) env'
    | _, _ => .stuck) env
  | none => .stuck
theorem se_ixO {b : Expr} {tb : TE} {mb : M D} {x : Str} {pos' : Pos} (i : Nat) (hb : SE X W b tb mb) (hN : X.N[i]? = some x := by rfl) (hv : Vis X.env.scope x := by first | exact Or.inl rfl | exact Or.inr (Or.inl rfl) | exact Or.inr (Or.inr rfl)) (hd : (x == ("__debug__" : Str)) = false := by decide)
    (hcd : (x == ("__classdict__" : Str)) = false := by decide) (hs : PlainIx b := by exact fun _ _ => rfl) : SE X W (.Subscript (.Name x pos') b pos) (tOp (rIx X.K) (tVar i) tb) (eIxO i mb) := by
  refine ⟨pe_ix ix_seq (pe_var hN hv hd hcd) hb.pe hs, ?_⟩
  intro σ0 B H σ env sm Q post
  unfold eIxO at post
  cases e : getOwn env i with
  | none => rw [e] at post; exact post.elim
  | some d =>
    rw [e] at post
    obtain ⟨a, p, _, e1, _⟩ := sm.getOwn e
    refine ⟨.ref a, e1, ?_⟩
    refine hb.rx.go sm post fun v k B1 H1 env1 sm1 g1 r1 post1 => ?_
    cases e2 : getOwnL env1 i with
    | none => rw [e2] at post1; exact post1.elim
    | some xs =>
      rw [e2] at post1
      cases k with
      | int j =>
        cases r1
        obtain ⟨a', p', _, e3, c, _⟩ := sm1.getOwn (getOwnL_some e2)
        rw [e1] at e3
        cases e3
        obtain ⟨vs, hl, rs⟩ := c.lst_inv
        cases e4 : atI xs j with
        | none =>
          have post1 : Post X.K X.mg W (RD X.K X.mg) σ0 σ env1 B1 H1 (ofO (atI xs j) env1) Q := post1
          rw [e4] at post1; exact post1.elim
        | some z =>
          have post1 : Post X.K X.mg W (RD X.K X.mg) σ0 σ env1 B1 H1 (ofO (atI xs j) env1) Q := post1
          rw [e4] at post1
          obtain ⟨w, e5, r2⟩ := rs.at e4
          exact .inl ⟨_, _, _, w, rfl, rfl, .of hl, e5, post1.val sm1 r2⟩
      | _ => exact post1.elim

/-! ### slices -/
def oNone : M (Option Int) := M.pure none
def oSome (m : M D) : M (Option Int) := m.bind fun d => match d with
  | .int i => M.pure (some i)
  | _ => fun _ => .stuck
def cutD (xs : List D) (lo hi : Option Int) : List D := (xs.drop (HT.sIx xs.length 0 lo)).take (HT.sIx xs.length xs.length hi - HT.sIx xs.length 0 lo)
theorem rx_onone : RX K mg W RO tNoPart oNone := fun σ0 B H σ env sm Q post => post.val sm rfl
theorem rx_osome (h : RX K mg W (RD K mg) te me) : RX K mg W RO (tPart te) (oSome me) :=
  h.bind (t2 := fun x σ H Q => ∃ i, x = V.int i ∧ Q (some i) H) fun v d σ0 B H σ env sm r Q post => by
    cases d with
    | int i => exact ⟨i, Rep.int_inv r, post.val sm rfl⟩
    | _ => exact post.elim
theorem so_none : SO X W none tNoPart oNone := ⟨po_none, rx_onone⟩
theorem so_some (h : SE X W e te me) : SO X W (some e) (tPart te) (oSome me) := ⟨po_some h.pe, rx_osome h.rx⟩
theorem Reps.cut {B : Hp} {vs : List V} {ds : List D} (r : Reps K mg B vs ds) (lo hi : Option Int) : Reps K mg B (cutV vs lo hi) (cutD ds lo hi) := by
  unfold cutV cutD
  rw [r.length]
  exact (r.drop _).take _
/-- a slice: of a text (shared), of a tuple (shared), of a list (new) -/
def dSl : D → Option Int → Option Int → Option D
  | .str z, lo, hi => if z.length ≤ 16777216 then some (.str (cutS z lo hi)) else none
  | .tup xs, lo, hi => some (.tup (cutD xs lo hi))
  | _, _, _ => none
def dSlL : D → Option Int → Option Int → Option D
  | .lst xs, lo, hi => some (.lst (cutD xs lo hi))
  | .frz xs, lo, hi => some (.lst (cutD xs lo hi))
  | _, _, _ => none
def eSl (f : D → Option Int → Option Int → Option D) (m : M D) (ml mh : M (Option Int)) : M D := m.bind fun d => ml.bind fun l => mh.bind fun h => ofO (f d l h)
def rSlST (K : PySem.W.Frag) : V → Option Int → Option Int → Hp → VK → Prop := fun x lo hi H Q => rSlS x lo hi H Q ∨ rSlA K x lo hi H Q
theorem sl_st : L2.SlR X (rSlST X.K) := sl_str.or sl_tupA
variable {lo hi : Option Expr} {tl th : TO} {ml mh : M (Option Int)} {p2 : Pos}
theorem se_sl (h : SE X W e te me) (hl : SO X W lo tl ml) (hh : SO X W hi th mh) : SE X W (.Subscript e (.Slice lo hi none p2) pos) (tSl (rSlST X.K) te tl th) (eSl dSl me ml mh) := by
  refine ⟨pe_slice sl_st h.pe hl.po hh.po, ?_⟩
  refine h.rx.bind2 (t3 := fun x l σ H Q => th σ H fun u H3 => rSlST X.K x l u H3 Q) hl.rx rd_monoR fun v w d l σ0 B H σ env sm r1 r2 Q post => ?_
  refine hh.rx.go sm post fun u hh' B1 H1 env1 sm1 g1 r3 post1 => ?_
  have e1 : w = l := r2
  have e2 : u = hh' := r3
  subst e1 e2
  have hz : sizeLine = 16777216 := sizeLine_eq
  have r1' := Rep.mono g1 r1
  cases e3 : dSl d w u with
  | none => rw [e3] at post1; exact post1.elim
  | some z =>
    rw [e3] at post1
    unfold dSl at e3
    split at e3
    · split at e3
      · rename_i zz lo hi hl
        cases e3; cases r1'
        exact .inl ⟨_, rfl, by omega, post1.val sm1 (Rep.str _)⟩
      · cases e3
    · cases e3
      cases r1' with
      | @tup aa vs _ p r =>
        refine .inr ⟨_, _, rfl, .of (sm1.sub.tup p), fun hw => ?_, fun _ p' hp => ?_⟩
        · have hc : cutV vs w u = vs := by
            unfold cutV
            rw [hw.1, hw.2]
            simp
          have rc := r.cut w u
          rw [hc] at rc
          exact post1.val sm1 (Rep.tup p rc)
        · exact post1.al sm1 (Al.upd sm1.sub hp) (.tup upd_same ((r.cut _ _).mono (Al.upd sm1.sub hp).g))
    · cases e3
theorem sn_sl (h : SE X W e te me) (hl : SO X W lo tl ml) (hh : SO X W hi th mh) : SN X W (.Subscript e (.Slice lo hi none p2) pos) (tSl (rSlL X.K) te tl th) (eSl dSlL me ml mh) := by
  refine ⟨pe_slice sl_list h.pe hl.po hh.po, fun σ0 B H σ env sm Q post => ?_⟩
  refine h.rx.goN sm post fun x d B1 H1 env1 sm1 g1 r1 post1 => ?_
  refine hl.rx.goN sm1 post1 fun w l B2 H2 env2 sm2 g2 r2 post2 => ?_
  refine hh.rx.goN sm2 post2 fun u hh' B3 H3 env3 sm3 g3 r3 post3 => ?_
  have e1 : w = l := r2
  have e2 : u = hh' := r3
  subst e1 e2
  have r1' := Rep.mono (g2.trans g3) r1
  cases e3 : dSlL d w u with
  | none => rw [e3] at post3; exact post3.elim
  | some z =>
    rw [e3] at post3
    unfold dSlL at e3
    split at e3
    · cases e3
      cases r1' with
      | lst p r => exact ⟨_, _, rfl, .of (sm3.sub.lst p), fun p' hp => post3.new sm3 hp (.lst upd_same (r.cut _ _))⟩
    · cases e3
      cases r1' with
      | frz p r => exact ⟨_, _, rfl, sm3.sub.sqL p, fun p' hp => post3.new sm3 hp (.lst upd_same (r.cut _ _))⟩
    · cases e3

/-! ### built-ins by their names -/
def eCB (f : List D → Option D) (m : M (List D)) : M D := m.bind fun as => ofO (f as)
theorem rx_cb {r : List V → Hp → VK → Prop} {f : List D → Option D} (hf : RealC K mg r f) (h : RX K mg W (RDs K mg) ta ma) : RX K mg W (RD K mg) (tCB r ta) (eCB f ma) :=
  h.map (t2 := fun v H Q => r v H Q) fun v a c σ B H s r1 e Q q => hf B H v a c s r1 e Q fun u B' H' l r' => q u B' H' l r'
def dLen : List D → Option D
  | [.str z] => if z.length ≤ 16777216 then some (.int z.length) else none
  | [.tup xs] => some (.int xs.length)
  | [.ftp xs] => some (.int xs.length)
  | [.lst xs] => some (.int xs.length)
  | [.frz xs] => some (.int xs.length)
  | _ => none
theorem re_len : RealC K mg (fun xs H Q => ∃ x n, xs = [x] ∧ LenV K x H n ∧ Q (.int n) H) dLen := by
  intro B H xs ds z s h1 e1 Q q
  have hz : sizeLine = 16777216 := sizeLine_eq
  unfold dLen at e1
  split at e1
  · split at e1
    · rename_i zz hl
      cases e1
      cases h1 with
      | cons r rs =>
        cases rs; cases r
        exact ⟨_, _, rfl, (show zz.length ≤ sizeLine ∧ zz.length = zz.length from ⟨by omega, rfl⟩), q _ B H (Al.refl s) (.int _)⟩
    · cases e1
  · cases e1
    cases h1 with
    | cons r rs =>
      cases rs
      cases r with
      | tup p r => exact ⟨_, _, rfl, .inr ⟨_, .of (s.tup p), r.length.symm⟩, q _ B H (Al.refl s) (.int _)⟩
  · cases e1
    cases h1 with
    | cons r rs =>
      cases rs
      cases r with
      | ftp p r => exact ⟨_, _, rfl, .inr ⟨_, s.sqT p, r.length.symm⟩, q _ B H (Al.refl s) (.int _)⟩
  · cases e1
    cases h1 with
    | cons r rs =>
      cases rs
      cases r with
      | lst p r => exact ⟨_, _, rfl, .inl ⟨_, .of (s.lst p), r.length.symm⟩, q _ B H (Al.refl s) (.int _)⟩
  · cases e1
    cases h1 with
    | cons r rs =>
      cases rs
      cases r with
      | frz p r => exact ⟨_, _, rfl, .inl ⟨_, s.sqL p, r.length.symm⟩, q _ B H (Al.refl s) (.int _)⟩
  · cases e1
theorem se_cb {x : Str} {v : Value} {p : Pos} {r : List V → Hp → VK → Prop} {f : List D → Option D} (hc : CallR X v r) (hf : RealC X.K X.mg r f) (hm : X.mg x = none) (hv : bootBuiltins x = some v) (ha : SA X W (e :: es) ta ma)
    (hp : PE X (.Call (.Name x p) (e :: es) [] pos) (tCB r ta)) : SE X W (.Call (.Name x p) (e :: es) [] pos) (tCB r ta) (eCB f ma) := ⟨hp, rx_cb hf ha.rx⟩
/-- len of a slot's own list -/
def eLenO (i : Nat) : M D := fun env => match getOwnL env i with
  | some xs => .ok (.int xs.length) env
  | none => .stuck
theorem rx_lenO {i : Nat} : RX K mg W (RD K mg) (tCB (fun xs H Q => ∃ x n, xs = [x] ∧ LenV K x H n ∧ Q (.int n) H) (tCons (tVar i) tNil)) (eLenO i) := by
  intro σ0 B H σ env sm Q post
  unfold eLenO at post
  cases e : getOwnL env i with
  | none => rw [e] at post; exact post.elim
  | some xs =>
    rw [e] at post
    obtain ⟨a, p, _, e1, c, _⟩ := sm.getOwn (getOwnL_some e)
    obtain ⟨vs, hl, rs⟩ := c.lst_inv
    exact ⟨_, e1, _, _, rfl, .inl ⟨vs, .of hl, rs.length.symm⟩, post.val sm (Rep.int _)⟩
end
end Mi

/-! The mirror layer 5: statements. -/
namespace Mi
open PySem L2
variable [Tabs]

inductive Fl where
  | nx | bk | ct | rt (own : Bool) (d : D)

/-- where a def's body was entered: the shared part, the heap, the containers handed in; Bs: what is to stay known -/
structure Ent where
  B0 : Hp
  Bs : Hp
  Ls : Hp
  H0 : Hp
  O0 : Addr → Prop
  ok : ∀ a, O0 a → (∀ o, B0 a = some o → isTup o) ∧ ∃ o, H0 a = some o
structure Frm (c : Ent) (σ : L2.St) (env : En) (B H : Hp) : Prop where
  grow : Same c.B0 B
  growS : Same c.Bs B
  new : ∀ a o, B a = some o → c.B0 a = some o ∨ c.H0 a = none ∨ isTup o
  frame : ∀ a o, c.H0 a = some o → ¬ c.O0 a → Kept B H a o
  there : ∀ a o, c.H0 a = some o → ∃ o', H a = some o'
  lk : ∀ a ob o, c.H0 a = some (.frz ob o) → H a = some (.frz ob o)
  lkS : ∀ a ob o, c.Ls a = some (.frz ob o) → H a = some (.frz ob o)
  own : ∀ (i : Nat) (p : Bool) (d : D) (a : Addr), env[i]? = some (some (Slot.own p d)) → σ[i]? = some (some (V.ref a)) → (p = true → c.O0 a) ∧ (p = false → c.H0 a = none)
/-- what was held is held still by the same -/
def Keep (σ : L2.St) (env : En) (σ' : L2.St) (env' : En) : Prop := ∀ (i : Nat) (p : Bool) (d : D), env'[i]? = some (some (Slot.own p d)) → ∃ d', env[i]? = some (some (Slot.own p d')) ∧ σ'[i]? = σ[i]?
theorem Keep.refl (σ : L2.St) (env : En) : Keep σ env σ env := fun _ _ d h => ⟨d, h, rfl⟩
theorem Keep.trans {σ σ1 σ2 : L2.St} {a b c : En} (h : Keep σ a σ1 b) (g : Keep σ1 b σ2 c) : Keep σ a σ2 c := fun i p d e => by
  obtain ⟨d1, e1, r1⟩ := g i p d e
  obtain ⟨d2, e2, r2⟩ := h i p d1 e1
  exact ⟨d2, e2, r1.trans r2⟩
theorem OSub.keep {σ : L2.St} {env env' : En} (h : OSub env env') : Keep σ env σ env' := fun i p d e => by
  obtain ⟨d', e'⟩ := h i p d e
  exact ⟨d', e', rfl⟩
theorem Keep.owned {σ σ' : L2.St} {env env' : En} (h : Keep σ env σ' env') {a : Addr} : Owned σ' env' a → Owned σ env a := fun ⟨i, p, d, e, r⟩ => by
  obtain ⟨d', e', r'⟩ := h i p d e
  exact ⟨i, p, d', e', by rw [← r']; exact r⟩
theorem Frm.step {c : Ent} {σ σ' : L2.St} {env env' : En} {B H B' H' : Hp} (f : Frm c σ env B H) (s : Stp (Owned σ env) B H B' H') (k : Keep σ env σ' env') : Frm c σ' env' B' H' where
  grow := f.grow.trans s.grow
  growS := f.growS.trans s.grow
  new := fun a o h => by
    rcases s.new a o h with q | q | q
    · exact f.new a o q
    rotate_left
    · exact .inr (.inr q)
    · refine .inr (.inl ?_)
      cases e : c.H0 a with
      | none => rfl
      | some u =>
        obtain ⟨o', e'⟩ := f.there a u e
        rw [q] at e'; cases e'
  frame := fun a o h n => by
    have no : ¬ Owned σ env a := fun ⟨i, p, d, e, r⟩ => by
      have g := f.own i p d a e r
      cases p with
      | true => exact n (g.1 rfl)
      | false => rw [g.2 rfl] at h; cases h
    rcases f.frame a o h n with q | ⟨q1, q2, ob, q3⟩ | ⟨q1, ps, q2, q3⟩
    · exact s.frame a o q no
    · exact .inr (.inl ⟨s.grow _ _ q1, q2, ob, s.lk _ _ _ q3⟩)
    · rcases s.frame a _ q2 no with e | ⟨_, e, _⟩ | ⟨_, e⟩
      · exact .inr (.inr ⟨q1, ps, e, q3⟩)
      · exact e.elim
      · exact .inr (.inr ⟨q1, e⟩)
  lk := fun a ob o h => s.lk _ _ _ (f.lk _ _ _ h)
  lkS := fun a ob o h => s.lk _ _ _ (f.lkS _ _ _ h)
  there := fun a o h => by
    obtain ⟨o', e⟩ := f.there a o h
    exact s.there a o' e
  own := fun i p d a e r => by
    obtain ⟨d', e', r'⟩ := k i p d e
    exact f.own i p d' a e' (by rw [← r']; exact r)
theorem Frm.keep {c : Ent} {σ σ' : L2.St} {env env' : En} {B H : Hp} (f : Frm c σ env B H) (k : Keep σ env σ' env') : Frm c σ' env' B H := f.step Stp.refl k
def LkIn (L H : Hp) : Prop := ∀ a ob o, L a = some (.frz ob o) → H a = some (.frz ob o)
theorem LkIn.refl (H : Hp) : LkIn H H := fun _ _ _ h => h
theorem Frm.bs {c : Ent} {σ : L2.St} {env : En} {B H B1 L1 : Hp} (f : Frm c σ env B H) (h : Same B1 B) (l : LkIn L1 H) : Frm { c with Bs := B1, Ls := L1 } σ env B H := ⟨f.grow, h, f.new, f.frame, f.there, f.lk, l, f.own⟩
theorem Frm.unbs {c : Ent} {σ : L2.St} {env : En} {B H B1 L1 : Hp} (f : Frm { c with Bs := B1, Ls := L1 } σ env B H) (h : Same c.Bs B1) (l : LkIn c.Ls L1) : Frm c σ env B H := ⟨f.grow, h.trans f.growS, f.new, f.frame, f.there, f.lk, fun a ob o q => f.lkS a ob o (l a ob o q), f.own⟩

section
variable (K : PySem.W.Frag) (mg : Str → Option Value) (W : WX)
def PostS (c : Ent) (σ0 : L2.St) (r : Res Fl) (D : Ends) : Prop :=
  match r with
  | .stuck => False
  | .ok .nx env' => ∀ σ' B' H', Sm K mg σ0 B' H' σ' env' → Frm c σ' env' B' H' → D.nx σ' H'
  | .ok .bk env' => ∀ σ' B' H', Sm K mg σ0 B' H' σ' env' → Frm c σ' env' B' H' → D.bk σ' H'
  | .ok .ct env' => ∀ σ' B' H', Sm K mg σ0 B' H' σ' env' → Frm c σ' env' B' H' → D.ct σ' H'
  | .ok (.rt false d) env' => ∀ v σ' B' H', Sm K mg σ0 B' H' σ' env' → Frm c σ' env' B' H' → Rep K mg B' v d → D.rt v H'
  | .ok (.rt true d) env' => ∀ a σ' B' H', Sm K mg σ0 B' H' σ' env' → Frm c σ' env' B' H' → Cont K mg B' H' a d → B' a = none → c.H0 a = none → ¬ Owned σ' env' a → D.rt (.ref a) H'
  | .exn x env' => ∀ cls d σ' B' H', Sm K mg σ0 B' H' σ' env' → Frm c σ' env' B' H' → ExR mg x cls d H' → W cls d σ' H'
def RS (ts : TS) (m : M Fl) : Prop := ∀ c σ0 B H σ env, Sm K mg σ0 B H σ env → Frm c σ env B H → ∀ D, PostS K mg W c σ0 (m env) D → ts D σ H
def PostG (T : List Nat) (σ0 σ : L2.St) (env : En) (B H : Hp) (r : Option En) (Q : L2.St → Hp → Prop) : Prop :=
  match r with
  | some env' => ∀ σ', Sm K mg σ0 B H σ' env' → Keep σ env σ' env' → (σ'.length = σ.length ∧ ∀ i, i ∉ T → σ'[i]? = σ[i]?) → Q σ' H
  | none => False
/-- T: the slots that the target may touch -/
def RG (T : List Nat) (g : TG) (m : D → En → Option En) : Prop := ∀ σ0 B H σ env v d, Sm K mg σ0 B H σ env → Rep K mg B v d → ∀ Q, PostG K mg T σ0 σ env B H (m d env) Q → g v σ H Q
end
structure SS (X : Cx) (W : WX) (st : Stmt) (ts : TS) (m : M Fl) : Prop where
  ps : PS X st ts
  rs : RS X.K X.mg W ts m
structure SSs (X : Cx) (W : WX) (st : List Stmt) (ts : TS) (m : M Fl) : Prop where
  ps : PSs X st ts
  rs : RS X.K X.mg W ts m
structure SG (X : Cx) (tg : Expr) (T : List Nat) (g : TG) (m : D → En → Option En) : Prop where
  pg : PG X tg g
  rg : RG X.K X.mg T g m

section
variable {K : PySem.W.Frag} {mg : Str → Option Value} {W : WX} {α β : Type} {R : L2.St → Hp → β → α → Prop} {c : Ent} {σ0 σ : L2.St} {B H : Hp} {env : En}
theorem PostS.imp {r : Res Fl} {D D' : Ends} (h : PostS K mg W c σ0 r D) (h1 : ∀ σ H, D.nx σ H → D'.nx σ H) (h2 : ∀ σ H, D.bk σ H → D'.bk σ H) (h3 : ∀ σ H, D.ct σ H → D'.ct σ H) (h4 : ∀ v H, D.rt v H → D'.rt v H) : PostS K mg W c σ0 r D' := by
  cases r with
  | stuck => exact h
  | exn x env' => exact h
  | ok f env' =>
    cases f with
    | nx => exact fun s B H a b => h1 _ _ (h s B H a b)
    | bk => exact fun s B H a b => h2 _ _ (h s B H a b)
    | ct => exact fun s B H a b => h3 _ _ (h s B H a b)
    | rt o d =>
      cases o with
      | false => exact fun v s B H a b r => h4 _ _ (h v s B H a b r)
      | true => exact fun v s B H a b c e f g => h4 _ _ (h v s B H a b c e f g)
theorem PostS.bs {r : Res Fl} {D : Ends} {B1 L1 : Hp} (h : PostS K mg W c σ0 r D) (e : Same c.Bs B1) (l : LkIn c.Ls L1) : PostS K mg W { c with Bs := B1, Ls := L1 } σ0 r D := by
  cases r with
  | stuck => exact h
  | exn x env' => exact fun cls d s B H a b => h cls d s B H a (b.unbs e l)
  | ok f env' =>
    cases f with
    | nx => exact fun s B H a b => h s B H a (b.unbs e l)
    | bk => exact fun s B H a b => h s B H a (b.unbs e l)
    | ct => exact fun s B H a b => h s B H a (b.unbs e l)
    | rt o d =>
      cases o with
      | false => exact fun v s B H a b => h v s B H a (b.unbs e l)
      | true => exact fun v s B H a b => h v s B H a (b.unbs e l)
theorem RX.goS {t : L2.St → Hp → (β → Hp → Prop) → Prop} {m : M α} {k : α → M Fl} {D : Ends} {Q : β → Hp → Prop} (h : RX K mg W R t m) (sm : Sm K mg σ0 B H σ env) (fr : Frm c σ env B H)
    (post : PostS K mg W c σ0 ((m env).bind k) D) (cont : ∀ v a B1 H1 env1, Sm K mg σ0 B1 H1 σ env1 → Frm c σ env1 B1 H1 → Same B B1 → R σ B1 v a → PostS K mg W c σ0 (k a env1) D → Q v H1) : t σ H Q := by
  refine h σ0 B H σ env sm _ ?_
  cases e : m env with
  | stuck => rw [e] at post; exact post
  | exn x env' =>
    rw [e] at post
    exact fun cls d B' H' s' m' o' r' => post cls d σ B' H' m' (fr.step s' o'.keep) r'
  | ok a env' =>
    rw [e] at post
    exact fun v B1 H1 s1 m1 o1 r1 => cont v a B1 H1 env' m1 (fr.step s1 o1.keep) s1.grow r1 post
theorem RN.goS {t : TE} {m : M D} {k : D → M Fl} {D : Ends} {Q : VK} (h : RN K mg W t m) (sm : Sm K mg σ0 B H σ env) (fr : Frm c σ env B H)
    (post : PostS K mg W c σ0 ((m env).bind k) D) (cont : ∀ a d B1 H1 env1, Sm K mg σ0 B1 H1 σ env1 → Frm c σ env1 B1 H1 → Cont K mg B1 H1 a d → B1 a = none → c.H0 a = none → ¬ Owned σ env1 a → PostS K mg W c σ0 (k d env1) D → Q (.ref a) H1) : t σ H Q := by
  refine h σ0 B H σ env sm _ ?_
  cases e : m env with
  | stuck => rw [e] at post; exact post
  | exn x env' =>
    rw [e] at post
    exact fun cls d B' H' s' m' o' r' => post cls d σ B' H' m' (fr.step s' o'.keep) r'
  | ok a env' =>
    rw [e] at post
    intro v B1 H1 s1 m1 o1 r1 hb hn
    refine cont v a B1 H1 env' m1 (fr.step s1 o1.keep) r1 hb ?_ (fun z => ?_) post
    · cases q : c.H0 v with
      | none => rfl
      | some u =>
        obtain ⟨o', e'⟩ := fr.there v u q
        rw [hn] at e'; cases e'
    · obtain ⟨⟨u, e1⟩, _⟩ := sm.own_there (o1.owned z)
      rw [hn] at e1; cases e1

/-! ### slots set -/
theorem get_set {α : Type} {l : List α} {i j : Nat} {x y : α} (h : (l.set i x)[j]? = some y) : (i = j ∧ y = x ∧ i < l.length) ∨ (i ≠ j ∧ l[j]? = some y) := by
  by_cases e : i = j
  · subst e
    by_cases hl : i < l.length
    · rw [List.getElem?_set_self hl] at h
      exact .inl ⟨rfl, (Option.some.inj h).symm, hl⟩
    · rw [List.getElem?_eq_none (by rw [List.length_set]; omega)] at h; cases h
  · rw [List.getElem?_set_ne e] at h
    exact .inr ⟨e, h⟩
theorem Sm.setShr (m : Sm K mg σ0 B H σ env) (i : Nat) {v : V} {d : D} (r : Rep K mg B v d) : Sm K mg σ0 B H (σ.set i (some v)) (env.set i (some (.shr d))) where
  tb := m.tb
  sub := m.sub
  len := by rw [List.length_set, List.length_set]; exact m.len
  sl := fun j s e => by
    rcases get_set e with ⟨rfl, e1, hl⟩ | ⟨ne, e1⟩
    · cases e1
      exact ⟨v, List.getElem?_set_self (by rw [m.len]; exact hl), r⟩
    · obtain ⟨u, e2, r2⟩ := m.sl j s e1
      exact ⟨u, by rw [List.getElem?_set_ne ne]; exact e2, r2⟩
  sep := fun j k p d p' d' a e1 e2 r1 r2 => by
    rcases get_set e1 with ⟨_, z, _⟩ | ⟨n1, e1⟩
    · cases z
    · rcases get_set e2 with ⟨_, z, _⟩ | ⟨n2, e2⟩
      · cases z
      · rw [List.getElem?_set_ne n1] at r1
        rw [List.getElem?_set_ne n2] at r2
        exact m.sep j k p d p' d' a e1 e2 r1 r2
theorem keep_setShr {i : Nat} {v : Option V} {d : D} : Keep σ env (σ.set i v) (env.set i (some (.shr d))) := fun j p d' e => by
  rcases get_set e with ⟨_, z, _⟩ | ⟨n, e⟩
  · cases z
  · exact ⟨d', e, List.getElem?_set_ne n⟩
/-- a slot forgotten -/
theorem Sm.setNone (m : Sm K mg σ0 B H σ env) (i : Nat) (x : Option V) : Sm K mg σ0 B H (σ.set i x) (env.set i none) where
  tb := m.tb
  sub := m.sub
  len := by rw [List.length_set, List.length_set]; exact m.len
  sl := fun j s e => by
    rcases get_set e with ⟨rfl, e1, hl⟩ | ⟨ne, e1⟩
    · cases e1
    · obtain ⟨u, e2, r2⟩ := m.sl j s e1
      exact ⟨u, by rw [List.getElem?_set_ne ne]; exact e2, r2⟩
  sep := fun j k p d p' d' a e1 e2 r1 r2 => by
    rcases get_set e1 with ⟨_, z, _⟩ | ⟨n1, e1⟩
    · cases z
    · rcases get_set e2 with ⟨_, z, _⟩ | ⟨n2, e2⟩
      · cases z
      · rw [List.getElem?_set_ne n1] at r1
        rw [List.getElem?_set_ne n2] at r2
        exact m.sep j k p d p' d' a e1 e2 r1 r2
theorem keep_setNone {i : Nat} {v : Option V} : Keep σ env (σ.set i v) (env.set i none) := fun j p d' e => by
  rcases get_set e with ⟨_, z, _⟩ | ⟨n, e⟩
  · cases z
  · exact ⟨d', e, List.getElem?_set_ne n⟩
theorem Sm.forget (m : Sm K mg σ0 B H σ env) (i : Nat) : Sm K mg σ0 B H σ (env.set i none) where
  tb := m.tb
  sub := m.sub
  len := by rw [List.length_set]; exact m.len
  sl := fun j s e => by
    rcases get_set e with ⟨rfl, e1, hl⟩ | ⟨ne, e1⟩
    · cases e1
    · exact m.sl j s e1
  sep := fun j k p d p' d' a e1 e2 r1 r2 => by
    rcases get_set e1 with ⟨_, z, _⟩ | ⟨n1, e1⟩
    · cases z
    · rcases get_set e2 with ⟨_, z, _⟩ | ⟨n2, e2⟩
      · cases z
      · exact m.sep j k p d p' d' a e1 e2 r1 r2
theorem keep_forget {i : Nat} : Keep σ env σ (env.set i none) := fun j p d' e => by
  rcases get_set e with ⟨_, z, _⟩ | ⟨n, e⟩
  · cases z
  · exact ⟨d', e, rfl⟩
def clrE : List Nat → En → En
  | [], env => env
  | i :: is, env => clrE is (env.set i none)
theorem Sm.clr : ∀ (is : List Nat) {env : En}, Sm K mg σ0 B H σ env → Sm K mg σ0 B H σ (clrE is env)
  | [], _, m => m
  | i :: is, _, m => Sm.clr is (m.forget i)
theorem keep_clr : ∀ (is : List Nat) {env : En}, Keep σ env σ (clrE is env)
  | [], env => Keep.refl σ env
  | i :: is, env => keep_forget.trans (keep_clr is)
/-- a new container at slot i -/
theorem Sm.setOwn (m : Sm K mg σ0 B H σ env) (i : Nat) {a : Addr} {d : D} (r : Cont K mg B H a d) (hb : B a = none) (hn : ¬ Owned σ env a) : Sm K mg σ0 B H (σ.set i (some (.ref a))) (env.set i (some (.own false d))) where
  tb := m.tb
  sub := m.sub
  len := by rw [List.length_set, List.length_set]; exact m.len
  sl := fun j s e => by
    rcases get_set e with ⟨rfl, e1, hl⟩ | ⟨ne, e1⟩
    · cases e1
      exact ⟨.ref a, List.getElem?_set_self (by rw [m.len]; exact hl), a, rfl, r, hb, fun z => by cases z⟩
    · obtain ⟨u, e2, r2⟩ := m.sl j s e1
      exact ⟨u, by rw [List.getElem?_set_ne ne]; exact e2, r2⟩
  sep := fun j k p d p' d' x e1 e2 r1 r2 => by
    rcases get_set e1 with ⟨z1, w1, l1⟩ | ⟨n1, e1⟩
    · subst z1
      rw [List.getElem?_set_self (by rw [m.len]; exact l1)] at r1
      cases r1
      rcases get_set e2 with ⟨z2, _, _⟩ | ⟨n2, e2⟩
      · exact z2
      · rw [List.getElem?_set_ne n2] at r2
        exact (hn ⟨k, p', d', e2, r2⟩).elim
    · rw [List.getElem?_set_ne n1] at r1
      rcases get_set e2 with ⟨z2, _, l2⟩ | ⟨n2, e2⟩
      · subst z2
        rw [List.getElem?_set_self (by rw [m.len]; exact l2)] at r2
        cases r2
        exact (hn ⟨j, p, d, e1, r1⟩).elim
      · rw [List.getElem?_set_ne n2] at r2
        exact m.sep j k p d p' d' x e1 e2 r1 r2
theorem Frm.setOwn (f : Frm c σ env B H) (i : Nat) {a : Addr} {d : D} (h0 : c.H0 a = none) : Frm c (σ.set i (some (.ref a))) (env.set i (some (.own false d))) B H :=
  ⟨f.grow, f.growS, f.new, f.frame, f.there, f.lk, f.lkS, fun j p d' x e r => by
    rcases get_set e with ⟨z, w, l⟩ | ⟨n, e⟩
    · subst z; cases w
      rcases get_set r with ⟨_, w, _⟩ | ⟨n, _⟩
      · cases w
        exact ⟨fun z => (by cases z), fun _ => h0⟩
      · exact (n rfl).elim
    · rw [List.getElem?_set_ne n] at r
      exact f.own j p d' x e r⟩
/-- the content of slot i's container changes -/
theorem Sm.write (m : Sm K mg σ0 B H σ env) {i : Nat} {p : Bool} {d d' : D} {a : Addr} {o : HO} (he : env[i]? = some (some (.own p d))) (hr : σ[i]? = some (some (.ref a))) (hc : Cont K mg B (upd H a o) a d') : Sm K mg σ0 B (upd H a o) σ (env.set i (some (.own p d'))) where
  tb := fun P hP => by
    obtain ⟨_, e2, a', rfl, c, hb, hp⟩ := m.sl i _ he
    rw [hr] at e2
    cases e2
    obtain ⟨o', ho, nt⟩ := c.ntab
    exact ⟨TabG.upd (m.tb P hP).1 (TabG.ne (m.tb P hP).1 ho nt), (m.tb P hP).2⟩
  sub := fun x u q => by
    obtain ⟨_, hb⟩ := m.own_there ⟨i, p, d, he, hr⟩
    rw [upd_ne (fun z => by subst z; rw [hb] at q; cases q)]
    exact m.sub x u q
  len := by rw [List.length_set]; exact m.len
  sl := fun j s e => by
    rcases get_set e with ⟨rfl, e1, hl⟩ | ⟨ne, e1⟩
    · cases e1
      obtain ⟨v, e2, a', rfl, c, hb, hp⟩ := m.sl i _ he
      rw [hr] at e2
      cases e2
      exact ⟨.ref a, hr, a, rfl, hc, hb, hp⟩
    · obtain ⟨u, e2, r2⟩ := m.sl j s e1
      refine ⟨u, e2, ?_⟩
      cases s with
      | shr d => exact r2
      | own p' d2 =>
        obtain ⟨x, rfl, c, hb, hp⟩ := r2
        refine ⟨x, rfl, c.mono (Same.refl _) (upd_ne ?_), hb, hp⟩
        intro z
        subst z
        exact ne (m.sep i j p d p' d2 x he e1 hr e2)
  sep := fun j k p1 d1 p2 d2 x e1 e2 r1 r2 => by
    have g : ∀ (j : Nat) (p1 : Bool) (d1 : D), (env.set i (some (Slot.own p d')))[j]? = some (some (Slot.own p1 d1)) → ∃ d3, env[j]? = some (some (Slot.own p1 d3)) := fun j p1 d1 e => by
      rcases get_set e with ⟨z, w, l⟩ | ⟨n, e⟩
      · subst z; cases w; exact ⟨d, he⟩
      · exact ⟨d1, e⟩
    obtain ⟨d3, e3⟩ := g j p1 d1 e1
    obtain ⟨d4, e4⟩ := g k p2 d2 e2
    exact m.sep j k p1 d3 p2 d4 x e3 e4 r1 r2
theorem osub_write {i : Nat} {p : Bool} {d d' : D} (he : env[i]? = some (some (.own p d))) : OSub env (env.set i (some (.own p d'))) := fun j q d2 e => by
  rcases get_set e with ⟨z, w, l⟩ | ⟨n, e⟩
  · subst z; cases w; exact ⟨d, he⟩
  · exact ⟨d2, e⟩
theorem stp_write (m : Sm K mg σ0 B H σ env) {i : Nat} {p : Bool} {d : D} {a : Addr} {o : HO} (he : env[i]? = some (some (.own p d))) (hr : σ[i]? = some (some (.ref a))) : Stp (Owned σ env) B H B (upd H a o) where
  grow := Same.refl _
  new := fun _ _ h => .inl h
  frame := fun x u h n => by
    refine .inl ?_
    rw [upd_ne]
    · exact h
    · intro z; subst z; exact n ⟨i, p, d, he, hr⟩
  lk := fun x ob u h => by
    rw [upd_ne]
    · exact h
    · intro z; subst z
      obtain ⟨v, e1, y, rfl, c, _⟩ := m.sl i _ he
      rw [hr] at e1
      cases e1
      cases c <;> (rename_i q _ _; first | (rw [h] at q; cases q) | skip)
      all_goals (simp_all)
  there := fun x u h => by
    by_cases e : x = a
    · subst e; exact ⟨o, upd_same⟩
    · exact ⟨u, by rw [upd_ne e]; exact h⟩
end
end Mi

/-! The mirror layer 6: statements' rules, defs, calls. -/
namespace Mi
open PySem L2
variable [Tabs]

/-! ### statements -/
def mSeq (m n : M Fl) : M Fl := fun env => match m env with
  | .ok .nx env' => n env'
  | r => r
def mNx : M Fl := fun env => .ok .nx env
def mBk : M Fl := fun env => .ok .bk env
def mCt : M Fl := fun env => .ok .ct env
def mSet (i : Nat) (m : M D) : M Fl := m.bind fun d env => .ok .nx (env.set i (some (.shr d)))
def mSetN (i : Nat) (m : M D) : M Fl := m.bind fun d env => .ok .nx (env.set i (some (.own false d)))
def mAsg (m : M D) (g : D → En → Option En) : M Fl := m.bind fun d env => match g d env with
  | some env' => .ok .nx env'
  | none => .stuck
def mIf (t : M Bool) (m n : M Fl) : M Fl := t.bind fun c => if c = true then m else n
def mRet (m : M D) : M Fl := m.bind fun d env => .ok (.rt false d) env
def mRetN (m : M D) : M Fl := m.bind fun d env => .ok (.rt true d) env
def mRetO (i : Nat) : M Fl := fun env => match env[i]? with
  | some (some (.own false d)) => .ok (.rt true d) (env.set i none)
  | _ => .stuck
def mDrop (m : M D) : M Fl := m.bind fun _ => mNx
def mFrz (i : Nat) (m : M Fl) : M Fl := fun env => match env[i]? with
  | some (some (.own false d)) => m (env.set i (some (.shr d)))
  | _ => .stuck
section
variable {X : Cx} {W : WX} {st : Stmt} {rest : List Stmt} {t u : TS} {mt mu : M Fl} {e : Expr} {te : TE} {me : M D} {pos pos' : Pos} {K : PySem.W.Frag} {mg : Str → Option Value} {tc : TT} {mc : M Bool}
theorem rs_seq (h : RS K mg W t mt) (g : RS K mg W u mu) : RS K mg W (tSeq t u) (mSeq mt mu) := by
  intro c σ0 B H σ env sm fr D post
  refine h c σ0 B H σ env sm fr { D with nx := u D } ?_
  unfold mSeq at post
  cases e : mt env with
  | stuck => rw [e] at post; exact post
  | exn x env' => rw [e] at post; exact post
  | ok f env' =>
    rw [e] at post
    cases f with
    | nx => exact fun σ' B' H' sm' fr' => g c σ0 B' H' σ' env' sm' fr' D post
    | bk => exact post
    | ct => exact post
    | rt o d => cases o <;> exact post
theorem sss_nil : SSs X W [] tNext mNx := ⟨pss_nil, fun c σ0 B H σ env sm fr D post => post σ B H sm fr⟩
theorem sss_cons (h : SS X W st t mt) (g : SSs X W rest u mu) : SSs X W (st :: rest) (tSeq t u) (mSeq mt mu) := ⟨pss_cons h.ps g.ps, rs_seq h.rs g.rs⟩
theorem sss_one (h : SS X W st t mt) : SSs X W [st] t mt := ⟨pss_one h.ps, h.rs⟩
theorem ss_pass : SS X W (.Pass pos) tNext mNx := ⟨ps_pass, fun c σ0 B H σ env sm fr D post => post σ B H sm fr⟩
theorem ss_break : SS X W (.Break pos) tBreak mBk := ⟨ps_break, fun c σ0 B H σ env sm fr D post => post σ B H sm fr⟩
theorem ss_cont : SS X W (.Continue pos) tCont mCt := ⟨ps_continue, fun c σ0 B H σ env sm fr D post => post σ B H sm fr⟩
theorem ss_never : SS X W st tNever (fun _ => .stuck) := ⟨ps_never, fun c σ0 B H σ env sm fr D post => post.elim⟩
theorem sss_never {sts : List Stmt} : SSs X W sts tNever (fun _ => .stuck) := ⟨pss_never, fun c σ0 B H σ env sm fr D post => post.elim⟩
theorem rs_set {i : Nat} (h : RX K mg W (RD K mg) te me) : RS K mg W (tAsg te (gName i)) (mSet i me) := by
  intro c σ0 B H σ env sm fr D post
  exact h.goS sm fr post fun v d B1 H1 env1 sm1 fr1 _ r1 post1 => post1 _ _ _ (sm1.setShr i r1) (fr1.keep keep_setShr)
theorem rs_setN {i : Nat} (h : RN K mg W te me) : RS K mg W (tAsg te (gName i)) (mSetN i me) := by
  intro c σ0 B H σ env sm fr D post
  exact h.goS sm fr post fun a d B1 H1 env1 sm1 fr1 c1 hb h0 hn post1 => post1 _ _ _ (sm1.setOwn i c1 hb hn) (fr1.setOwn i h0)
theorem ss_set (i : Nat) {x : Str} (hN : X.N.Nodup) (h : SE X W e te me) (hi : X.N[i]? = some x := by rfl) (hx : Loc X.env.scope x := by first | exact Or.inl rfl | exact Or.inr rfl) (hs : swapsWith e (some (.Name x pos')) pos.line X.env = pure false := by rfl)
    (hf : X.fn x = true ∨ X.env.scope.names.lookup x = some .local := by first | exact .inl rfl | exact .inr rfl) : SS X W (.Assign [.Name x pos'] e pos) (tAsg te (gName i)) (mSet i me) := ⟨ps_set hN hi hx h.pe hs hf, rs_set h.rx⟩
theorem ss_setN (i : Nat) {x : Str} (hN : X.N.Nodup) (h : SN X W e te me) (hi : X.N[i]? = some x := by rfl) (hx : Loc X.env.scope x := by first | exact Or.inl rfl | exact Or.inr rfl) (hs : swapsWith e (some (.Name x pos')) pos.line X.env = pure false := by rfl)
    (hf : X.fn x = true ∨ X.env.scope.names.lookup x = some .local := by first | exact .inl rfl | exact .inr rfl) : SS X W (.Assign [.Name x pos'] e pos) (tAsg te (gName i)) (mSetN i me) := ⟨ps_set hN hi hx h.pe hs hf, rs_setN h.rn⟩
theorem rs_asg {T : List Nat} {g : TG} {m : D → En → Option En} (h : RX K mg W (RD K mg) te me) (hg : RG K mg T g m) : RS K mg W (tAsg te g) (mAsg me m) := by
  intro c σ0 B H σ env sm fr D post
  refine h.goS sm fr post fun v d B1 H1 env1 sm1 fr1 _ r1 post1 => ?_
  refine hg σ0 B1 H1 σ env1 v d sm1 r1 _ ?_
  cases e : m d env1 with
  | none => rw [e] at post1; exact post1
  | some env' =>
    rw [e] at post1
    exact fun σ' sm' k _ => post1 σ' _ _ sm' (fr1.keep k)
theorem ss_asg {tg : Expr} {T : List Nat} {g : TG} {m : D → En → Option En} (h : SE X W e te me) (hg : SG X tg T g m) (hs : swapsWithSole [tg] e pos.line X.env = pure false := by rfl) (hw : swappedStores [tg] e X.env = pure none := by rfl)
    (h1 : (assignEach [tg] X.env).map (·.2) = [assign tg X.env] := by rfl) : SS X W (.Assign [tg] e pos) (tAsg te g) (mAsg me m) := ⟨ps_asg h.pe hg.pg hs hw h1, rs_asg h.rx hg.rg⟩
theorem rs_if (h : RX K mg W RB tc mc) (h1 : RS K mg W t mt) (h2 : RS K mg W u mu) : RS K mg W (tIfS tc t u) (mIf mc mt mu) := by
  intro c σ0 B H σ env sm fr D post
  refine h.goS sm fr post fun v b B1 H1 env1 sm1 fr1 _ r1 post1 => ?_
  have e : v = b := r1
  subst e
  cases v with
  | true => exact h1 c σ0 B1 H1 σ env1 sm1 fr1 D post1
  | false => exact h2 c σ0 B1 H1 σ env1 sm1 fr1 D post1
theorem ss_if {cc : Expr} {a b : List Stmt} (h : ST X W cc tc mc) (h1 : SSs X W a t mt) (h2 : SSs X W b u mu) : SS X W (.If cc a b pos) (tIfS tc t u) (mIf mc mt mu) := ⟨ps_if h.pt h1.ps h2.ps, rs_if h.rx h1.rs h2.rs⟩
theorem ss_ret (h : SE X W e te me) : SS X W (.Return (some e) pos) (tRet te) (mRet me) :=
  ⟨ps_ret h.pe, fun c σ0 B H σ env sm fr D post => h.rx.goS sm fr post fun v d B1 H1 env1 sm1 fr1 _ r1 post1 => post1 v σ B1 H1 sm1 fr1 r1⟩
theorem ss_retN (h : SN X W e te me) : SS X W (.Return (some e) pos) (tRet te) (mRetN me) :=
  ⟨ps_ret h.pe, fun c σ0 B H σ env sm fr D post => h.rn.goS sm fr post fun a d B1 H1 env1 sm1 fr1 c1 hb h0 hn post1 => post1 a σ B1 H1 sm1 fr1 c1 hb h0 hn⟩
theorem ss_ret0 : SS X W (.Return none pos) tRetN (mRet (eC .non)) := ⟨ps_retN, fun c σ0 B H σ env sm fr D post => post .non σ B H sm fr .non⟩
/-- return of a slot's own container -/
theorem ss_retO (i : Nat) {x : Str} (hN : X.N[i]? = some x := by rfl) (hv : Vis X.env.scope x := by first | exact Or.inl rfl | exact Or.inr (Or.inl rfl) | exact Or.inr (Or.inr rfl)) (hd : (x == ("__debug__" : Str)) = false := by decide)
    (hcd : (x == ("__classdict__" : Str)) = false := by decide) : SS X W (.Return (some (.Name x pos')) pos) (tRet (tVar i)) (mRetO i) := by
  refine ⟨ps_ret (pe_var hN hv hd hcd), fun c σ0 B H σ env sm fr D post => ?_⟩
  unfold mRetO at post
  cases e : env[i]? with
  | none => rw [e] at post; exact post.elim
  | some s =>
    rw [e] at post
    cases s with
    | none => exact post.elim
    | some s =>
      cases s with
      | shr d => exact post.elim
      | own p d =>
        cases p with
        | true => exact post.elim
        | false =>
          obtain ⟨v, e1, a, rfl, c1, hb, _⟩ := sm.sl i _ e
          refine ⟨.ref a, e1, ?_⟩
          refine post a σ B H (sm.forget i) (fr.keep keep_forget) c1 hb ((fr.own i false d a e e1).2 rfl) ?_
          rintro ⟨j, p, d', ej, rj⟩
          rcases get_set ej with ⟨_, z, _⟩ | ⟨n, ej⟩
          · cases z
          · exact n (sm.sep i j false d p d' a e ej e1 rj)
theorem ss_expr (h : SE X W e te me) (hs : swapsWith e none pos.line X.env = pure false := by rfl) : SS X W (.Expr e pos) (tDrop te) (mDrop me) :=
  ⟨ps_expr h.pe hs, fun c σ0 B H σ env sm fr D post => h.rx.goS sm fr post fun v d B1 H1 env1 sm1 fr1 _ r1 post1 => post1 σ B1 H1 sm1 fr1⟩
/-- a slot's container is shared from here on (nothing happens in the program) -/
theorem rs_frz {i : Nat} (h : RS K mg W t mt) : RS K mg W t (mFrz i mt) := by
  intro c σ0 B H σ env sm fr D post
  unfold mFrz at post
  cases e : env[i]? with
  | none => rw [e] at post; exact post.elim
  | some s =>
    rw [e] at post
    cases s with
    | none => exact post.elim
    | some s =>
      cases s with
      | shr d => exact post.elim
      | own p d =>
        cases p with
        | true => exact post.elim
        | false =>
          obtain ⟨v, e1, a, rfl, c1, hb, _⟩ := sm.sl i _ e
          obtain ⟨o, ho, r⟩ := c1.frz hb
          have nt : ¬ isTbl o := by
            obtain ⟨o2, h2, nt⟩ := c1.ntab
            rw [ho] at h2
            cases h2
            exact nt
          have h0 := (fr.own i false d a e e1).2 rfl
          have sm1 := sm.forget i
          have nown : ¬ Owned σ (env.set i none) a := by
            rintro ⟨j, p, d', ej, rj⟩
            rcases get_set ej with ⟨_, z, _⟩ | ⟨n, ej⟩
            · cases z
            · exact n (sm.sep i j false d p d' a e ej e1 rj)
          have sm2 := (sm1.freeze ho hb nown nt).setShr i r
          have es : (env.set i none).set i (some (.shr d)) = env.set i (some (.shr d)) := by rw [List.set_set]
          have eσ : σ.set i (some (.ref a)) = σ := by
            obtain ⟨hl, ev⟩ := List.getElem?_eq_some_iff.mp e1
            rw [← ev, List.set_getElem_self]
          rw [es, eσ] at sm2
          have fr1 : Frm c σ (env.set i (some (.shr d))) (upd B a o) H :=
            ⟨fr.grow.trans (same_upd hb), fr.growS.trans (same_upd hb), fun x u q => by
              by_cases ex : x = a
              · subst ex; exact .inr (.inl h0)
              · rw [upd_ne ex] at q; exact fr.new x u q, fun a' o'' h' n' => (fr.frame a' o'' h' n').monoB fun o q => same_upd hb _ _ q, fr.there, fr.lk, fr.lkS, fun j p d' x ej rj => by
              rcases get_set ej with ⟨_, z, _⟩ | ⟨n, ej⟩
              · cases z
              · exact fr.own j p d' x ej rj⟩
          exact h c σ0 _ H σ _ sm2 fr1 D post
theorem sss_frz (i : Nat) {sts : List Stmt} (h : SSs X W sts t mt) : SSs X W sts t (mFrz i mt) := ⟨h.ps, rs_frz h.rs⟩
end

/-! ### targets -/
def gN (i : Nat) : D → En → Option En := fun d env => some (env.set i (some (.shr d)))
def gAll : List (D → En → Option En) → List D → En → Option En
  | [], [], env => some env
  | g :: gs, d :: ds, env => (g d env).bind (gAll gs ds)
  | _, _, _ => none
theorem gAll_len : ∀ {gs : List (D → En → Option En)} {ds : List D} {env env' : En}, gAll gs ds env = some env' → gs.length = ds.length
  | [], [], _, _, _ => rfl
  | g :: gs, d :: ds, env, env', h => by
    have h : (g d env).bind (gAll gs ds) = some env' := h
    cases e : g d env with
    | none => rw [e] at h; cases h
    | some e2 =>
      rw [e] at h
      rw [List.length_cons, List.length_cons, gAll_len (gs := gs) (ds := ds) (env := e2) (env' := env') h]
  | [], _ :: _, _, _, h => by cases h
  | _ :: _, [], _, _, h => by cases h
def gT (gs : List (D → En → Option En)) : D → En → Option En
  | .tup ds, env => gAll gs ds env
  | _, _ => none
section
variable {X : Cx} {pos : Pos} {K : PySem.W.Frag} {mg : Str → Option Value}
theorem rg_name {i : Nat} : RG K mg [i] (gName i) (gN i) := fun σ0 B H σ env v d sm r Q post => post _ (sm.setShr i r) keep_setShr ⟨List.length_set .., fun j hj => List.getElem?_set_ne fun e => hj (by rw [e]; exact List.mem_cons_self)⟩
theorem sg_name (i : Nat) {x : Str} (hN : X.N.Nodup) (hi : X.N[i]? = some x := by rfl) (hx : Loc X.env.scope x := by first | exact Or.inl rfl | exact Or.inr rfl) (hf : X.fn x = true ∨ X.env.scope.names.lookup x = some .local := by first | exact .inl rfl | exact .inr rfl) : SG X (.Name x pos) [i] (gName i) (gN i) := ⟨pg_name hN hi hx hf, rg_name⟩
def RGs (K : PySem.W.Frag) (mg : Str → Option Value) (T : List Nat) (g : TGs) (ms : List (D → En → Option En)) : Prop := ∀ σ0 B H σ env vs ds, Sm K mg σ0 B H σ env → Reps K mg B vs ds → ∀ Q, PostG K mg T σ0 σ env B H (gAll ms ds env) Q → g vs σ H Q
structure SGs (X : Cx) (ts : List Expr) (T : List Nat) (g : TGs) (ms : List (D → En → Option En)) : Prop where
  pg : PGs X ts g
  rg : RGs X.K X.mg T g ms
theorem sgs_nil : SGs X [] [] gNil [] := ⟨pgs_nil, fun σ0 B H σ env vs ds sm r Q post => by
  cases r with
  | nil => exact ⟨rfl, post σ sm (Keep.refl _ _) ⟨rfl, fun _ _ => rfl⟩⟩
  | cons _ _ => exact post.elim⟩
theorem sgs_cons {e : Expr} {es : List Expr} {T U : List Nat} {t : TG} {u : TGs} {m : D → En → Option En} {ms : List (D → En → Option En)} (h1 : SG X e T t m) (h2 : SGs X es U u ms)
    (hs : (assignEach (e :: es) X.env).map (·.2) = assign e X.env :: (assignEach es X.env).map (·.2) := by rfl) : SGs X (e :: es) (T ++ U) (gCons t u) (m :: ms) := by
  refine ⟨pgs_cons h1.pg h2.pg hs, fun σ0 B H σ env vs ds sm r Q post => ?_⟩
  cases r with
  | nil => exact post.elim
  | @cons v vs d ds r1 r2 =>
    refine ⟨v, vs, rfl, ?_⟩
    have post : PostG X.K X.mg (T ++ U) σ0 σ env B H ((m d env).bind (gAll ms ds)) Q := post
    refine h1.rg σ0 B H σ env v d sm r1 _ ?_
    cases e : m d env with
    | none => rw [e] at post; exact post
    | some env' =>
      rw [e] at post
      intro σ' sm' k t1
      refine h2.rg σ0 B H σ' env' vs ds sm' r2 Q ?_
      have post : PostG X.K X.mg (T ++ U) σ0 σ env B H (gAll ms ds env') Q := post
      cases e2 : gAll ms ds env' with
      | none => rw [e2] at post; exact post
      | some env2 =>
        rw [e2] at post
        exact fun σ2 sm2 k2 t2 => post σ2 sm2 (k.trans k2) ⟨t2.1.trans t1.1, fun i hi => (t2.2 i fun z => hi (List.mem_append_right _ z)).trans (t1.2 i fun z => hi (List.mem_append_left _ z))⟩
theorem sg_tup {es : List Expr} {k : Nat} {T : List Nat} {t : TGs} {n : Nat} {ms : List (D → En → Option En)} (hc : X.calm = true) (h : SGs X es T t ms) (hn : (assignEach es X.env).length = n := by rfl) (hl : ms.length = n := by rfl) (hst : (assignEach es X.env).findIdx? (·.1) = none := by rfl) :
    SG X (.Tuple es k pos) T (gTup X.K n t) (gT ms) := by
  refine ⟨pg_tup hc h.pg hn hst, fun σ0 B H σ env v d sm r Q post => ?_⟩
  cases r with
  | @tup a vs ds p rs =>
    have post : PostG X.K X.mg T σ0 σ env B H (gAll ms ds env) Q := post
    have hlen : ms.length = ds.length := by
      cases e : gAll ms ds env with
      | none => rw [e] at post; exact post.elim
      | some env' => exact gAll_len e
    exact ⟨a, vs, rfl, .of (sm.sub.tup p), by rw [rs.length, ← hlen, hl], h.rg σ0 B H σ env vs ds sm rs Q post⟩
  | _ => exact post.elim
end
end Mi

/-! The mirror layer 7: loops, stores. -/
namespace Mi
open PySem L2
variable [Tabs]

/-! ### what is walked -/
/-- J walks things that stand for ds -/
def ItR (K : PySem.W.Frag) (mg : Str → Option Value) (J : It) (B : Hp) (ds : List D) : Prop := ∀ B' H, Same B B' → Sub B' H →
  J.stop ds.length H ∧ ∀ i d, ds[i]? = some d → J.go i H ∧ ∀ x H', J.yld i H x H' → ∃ B'', Al B' H B'' H' ∧ Rep K mg B'' x d
def RIt (K : PySem.W.Frag) (mg : Str → Option Value) : L2.St → Hp → It → List D → Prop := fun _ B J ds => ItR K mg J B ds
/-- .. as long as what is locked in L stays so -/
def ItH (K : PySem.W.Frag) (mg : Str → Option Value) (J : It) (B L : Hp) (ds : List D) : Prop := ∀ B' H, Same B B' → Sub B' H → LkIn L H →
  J.stop ds.length H ∧ ∀ i d, ds[i]? = some d → J.go i H ∧ ∀ x H', J.yld i H x H' → ∃ B'', Al B' H B'' H' ∧ Rep K mg B'' x d
section
variable (K : PySem.W.Frag) (mg : Str → Option Value) (W : WX)
def PostI (σ0 σ : L2.St) (env : En) (B H : Hp) (r : Res (List D)) (Q : It → Hp → Prop) : Prop :=
  match r with
  | .stuck => False
  | .ok ds env' => ∀ J B' H', Stp (Owned σ env) B H B' H' → Sm K mg σ0 B' H' σ env' → OSub env env' → ItH K mg J B' H' ds → Q J H'
  | .exn x env' => ∀ cls d B' H', Stp (Owned σ env) B H B' H' → Sm K mg σ0 B' H' σ env' → OSub env env' → ExR mg x cls d H' → W cls d σ H'
def RI (wi : TI) (m : M (List D)) : Prop := ∀ σ0 B H σ env, Sm K mg σ0 B H σ env → ∀ Q, PostI K mg W σ0 σ env B H (m env) Q → wi σ H Q
end
structure SI (X : Cx) (W : WX) (tg e : Expr) (wi : TI) (m : M (List D)) : Prop where
  pi : PI X tg e wi
  rx : RI X.K X.mg W wi m
theorem RX.ri {K : PySem.W.Frag} {mg : Str → Option Value} {W : WX} {wi : TI} {m : M (List D)} (h : RX K mg W (RIt K mg) wi m) : RI K mg W wi m := fun σ0 B H σ env sm Q post => by
  refine h σ0 B H σ env sm Q ?_
  cases e : m env with
  | stuck => rw [e] at post; exact post
  | exn x env' => rw [e] at post; exact post
  | ok ds env' =>
    rw [e] at post
    exact fun J B' H' s m o r => post J B' H' s m o fun B2 H2 g sb _ => r B2 H2 g sb
theorem RI.goS {K : PySem.W.Frag} {mg : Str → Option Value} {W : WX} {wi : TI} {m : M (List D)} {c : Ent} {σ0 σ : L2.St} {B H : Hp} {env : En} {k : List D → M Fl} {D : Ends} {Q : It → Hp → Prop} (h : RI K mg W wi m) (sm : Sm K mg σ0 B H σ env) (fr : Frm c σ env B H)
    (post : PostS K mg W c σ0 ((m env).bind k) D) (cont : ∀ J ds B1 H1 env1, Sm K mg σ0 B1 H1 σ env1 → Frm c σ env1 B1 H1 → Same B B1 → ItH K mg J B1 H1 ds → PostS K mg W c σ0 (k ds env1) D → Q J H1) : wi σ H Q := by
  refine h σ0 B H σ env sm _ ?_
  cases e : m env with
  | stuck => rw [e] at post; exact post
  | exn x env' =>
    rw [e] at post
    exact fun cls d B' H' s' m' o' r' => post cls d σ B' H' m' (fr.step s' o'.keep) r'
  | ok ds env' =>
    rw [e] at post
    exact fun J B1 H1 s1 m1 o1 r1 => cont J ds B1 H1 env' m1 (fr.step s1 o1.keep) s1.grow r1 post
theorem RI.goN {K : PySem.W.Frag} {mg : Str → Option Value} {W : WX} {wi : TI} {m : M (List D)} {σ0 σ : L2.St} {B H : Hp} {env : En} {k : List D → M D} {Q' : VK} {Q : It → Hp → Prop} (h : RI K mg W wi m) (sm : Sm K mg σ0 B H σ env)
    (post : PostN K mg W σ0 σ env B H ((m env).bind k) Q') (cont : ∀ J ds B1 H1 env1, Sm K mg σ0 B1 H1 σ env1 → Same B B1 → ItH K mg J B1 H1 ds → PostN K mg W σ0 σ env1 B1 H1 (k ds env1) Q' → Q J H1) : wi σ H Q := by
  refine h σ0 B H σ env sm _ ?_
  cases e : m env with
  | stuck => rw [e] at post; exact post
  | exn x env' => rw [e] at post; exact post
  | ok ds env' =>
    rw [e] at post
    exact fun J B1 H1 s1 m1 o1 r1 => cont J ds B1 H1 env' m1 s1.grow r1 (PostN.rebase post s1 o1)
def iL (m : M D) : M (List D) := m.bind fun d => match d with
  | .lst xs => M.pure xs
  | .frz xs => M.pure xs
  | _ => fun _ => .stuck
def iT (m : M D) : M (List D) := m.bind fun d => match d with
  | .tup xs => M.pure xs
  | .ftp xs => M.pure xs
  | _ => fun _ => .stuck
def iS (m : M D) : M (List D) := m.bind fun d => match d with
  | .str z => M.pure (z.cps.toList.map fun c => .str ⟨#[c]⟩)
  | _ => fun _ => .stuck
def rngD (lo : Int) (n : Nat) : List D := (List.range n).map fun (k : Nat) => D.int (lo + (k : Int))
def small62 (i : Int) : Bool := Nat.ble (-i).toNat 4611686018427387904 && Nat.ble (i.toNat + 1) 4611686018427387904
def iR1 (m : M (List D)) : M (List D) := m.bind fun d => match d with
  | [.int j] => if small62 j then M.pure (rngD 0 j.toNat) else fun _ => .stuck
  | _ => fun _ => .stuck
def iR2 (m : M (List D)) : M (List D) := m.bind fun d => match d with
  | [.int i, .int j] => if small62 i && small62 j then M.pure (rngD i (j - i).toNat) else fun _ => .stuck
  | _ => fun _ => .stuck
section
variable {X : Cx} {W : WX} {tg e : Expr} {te : TE} {me : M D} {K : PySem.W.Frag} {mg : Str → Option Value} {ta : TA} {ma : M (List D)} {es : List Expr} {pos p : Pos}
theorem itr_list {B : Hp} {a : Addr} {vs : List V} {ds : List D} (h : SqL K B a vs) (r : Reps K mg B vs ds) : ItR K mg (Itl K a) B ds := by
  intro B' H g s
  have hH := s.sqL (sqL_mono g h)
  refine ⟨⟨vs, hH, by rw [r.length]; exact Nat.le_refl _⟩, fun i d hd => ?_⟩
  obtain ⟨y, e1, r1⟩ := r.get hd
  refine ⟨⟨vs, y, hH, e1⟩, fun x H' ⟨e2, hx⟩ => ?_⟩
  subst e2
  have := hx vs hH
  rw [e1] at this
  cases this
  exact ⟨B', Al.refl s, r1.mono g⟩
theorem itr_tup {B : Hp} {a : Addr} {vs : List V} {ds : List D} (h : SqT K B a vs) (r : Reps K mg B vs ds) : ItR K mg (Itt K a) B ds := by
  intro B' H g s
  have hH := s.sqT (sqT_mono g h)
  refine ⟨⟨vs, hH, by rw [r.length]; exact Nat.le_refl _⟩, fun i d hd => ?_⟩
  obtain ⟨y, e1, r1⟩ := r.get hd
  refine ⟨⟨vs, y, hH, e1⟩, fun x H' ⟨e2, hx⟩ => ?_⟩
  subst e2
  have := hx vs hH
  rw [e1] at this
  cases this
  exact ⟨B', Al.refl s, r1.mono g⟩
theorem rngD_len (lo : Int) (n : Nat) : (rngD lo n).length = n := by unfold rngD; rw [List.length_map, List.length_range]
theorem rngD_get {lo : Int} {n i : Nat} {d : D} (h : (rngD lo n)[i]? = some d) : i < n ∧ d = .int (lo + i) := by
  unfold rngD at h
  rw [List.getElem?_map] at h
  cases e : (List.range n)[i]? with
  | none => rw [e] at h; cases h
  | some k =>
    rw [e] at h
    cases h
    obtain ⟨hl, hk⟩ := List.getElem?_eq_some_iff.mp e
    rw [List.length_range] at hl
    rw [List.getElem_range] at hk
    subst hk
    exact ⟨hl, rfl⟩
theorem itr_rng {B : Hp} {lo : Int} {n : Nat} : ItR K mg (Itr lo n) B (rngD lo n) := by
  intro B' H g s
  refine ⟨by rw [rngD_len]; exact Nat.le_refl _, fun i d hd => ?_⟩
  obtain ⟨hl, rfl⟩ := rngD_get hd
  refine ⟨hl, fun x H' ⟨e2, hx⟩ => ?_⟩
  subst e2 hx
  exact ⟨B', Al.refl s, .int _⟩
theorem itr_str {B : Hp} {z : Str} : ItR K mg (Its z) B (z.cps.toList.map fun c => .str ⟨#[c]⟩) := by
  intro B' H g s
  refine ⟨by rw [List.length_map, Array.length_toList]; exact Nat.le_refl _, fun i d hd => ?_⟩
  rw [List.getElem?_map] at hd
  cases e : z.cps.toList[i]? with
  | none => rw [e] at hd; cases hd
  | some k =>
    rw [e] at hd
    cases hd
    have e' : z.cps[i]? = some k := by rw [← Array.getElem?_toList]; exact e
    obtain ⟨hl, _⟩ := Array.getElem?_eq_some_iff.mp e'
    refine ⟨hl, fun x H' ⟨e2, c, ec, hx⟩ => ?_⟩
    subst e2 hx
    rw [e'] at ec
    cases ec
    exact ⟨B', Al.refl s, .str _⟩
theorem rx_il (h : RX K mg W (RD K mg) te me) : RX K mg W (RIt K mg) (iList K te) (iL me) :=
  h.bind (t2 := fun x _ H1 R => ∃ a, x = V.ref a ∧ (∃ xs, SqL K H1 a xs) ∧ R (Itl K a) H1) fun v d σ0 B H σ env sm r Q post => by
    cases r with
    | lst p rs => exact ⟨_, rfl, ⟨_, .of (sm.sub.lst p)⟩, post.val sm (itr_list (.of p) rs)⟩
    | frz p rs => exact ⟨_, rfl, ⟨_, sm.sub.sqL p⟩, post.val sm (itr_list p rs)⟩
    | _ => exact post.elim
theorem rx_it (h : RX K mg W (RD K mg) te me) : RX K mg W (RIt K mg) (iTup K te) (iT me) :=
  h.bind (t2 := fun x _ H1 R => ∃ a, x = V.ref a ∧ (∃ xs, SqT K H1 a xs) ∧ R (Itt K a) H1) fun v d σ0 B H σ env sm r Q post => by
    cases r with
    | tup p rs => exact ⟨_, rfl, ⟨_, .of (sm.sub.tup p)⟩, post.val sm (itr_tup (.of p) rs)⟩
    | ftp p rs => exact ⟨_, rfl, ⟨_, sm.sub.sqT p⟩, post.val sm (itr_tup p rs)⟩
    | _ => exact post.elim
theorem rx_is (h : RX K mg W (RD K mg) te me) : RX K mg W (RIt K mg) (iStr te) (iS me) :=
  h.bind (t2 := fun v _ H1 R => ∃ x, v = V.str x ∧ R (Its x) H1) fun v d σ0 B H σ env sm r Q post => by
    cases r with
    | str z => exact ⟨z, rfl, post.val sm itr_str⟩
    | _ => exact post.elim
theorem small62_ok {i : Int} (h : small62 i = true) : -(2 ^ 62) ≤ i ∧ i < 2 ^ 62 := by
  unfold small62 at h
  rw [Bool.and_eq_true] at h
  have a := Nat.le_of_ble_eq_true h.1
  have b := Nat.le_of_ble_eq_true h.2
  constructor <;> omega
theorem rx_ir1 (h : RX K mg W (RDs K mg) ta ma) : RX K mg W (RIt K mg) (iRng1 ta) (iR1 ma) :=
  h.bind (t2 := fun vs _ H1 R => ∃ j : Int, vs = [V.int j] ∧ -(2 ^ 62) ≤ j ∧ j < 2 ^ 62 ∧ R (Itr 0 j.toNat) H1) fun v d σ0 B H σ env sm r Q post => by
    match d, r, post with
    | [.int j], .cons (.int _) .nil, post =>
      by_cases hs : small62 j = true
      · have post : Post K mg W (RIt K mg) σ0 σ env B H ((if small62 j then M.pure (rngD 0 j.toNat) else fun _ => .stuck : M (List D)) env) Q := post
        rw [if_pos hs] at post
        exact ⟨j, rfl, (small62_ok hs).1, (small62_ok hs).2, post.val sm itr_rng⟩
      · have post : Post K mg W (RIt K mg) σ0 σ env B H ((if small62 j then M.pure (rngD 0 j.toNat) else fun _ => .stuck : M (List D)) env) Q := post
        rw [if_neg hs] at post
        exact post.elim
theorem rx_ir2 (h : RX K mg W (RDs K mg) ta ma) : RX K mg W (RIt K mg) (iRng2 ta) (iR2 ma) :=
  h.bind (t2 := fun vs _ H1 R => ∃ i j : Int, vs = [V.int i, V.int j] ∧ (-(2 ^ 62) ≤ i ∧ i < 2 ^ 62 ∧ -(2 ^ 62) ≤ j ∧ j < 2 ^ 62) ∧ R (Itr i (j - i).toNat) H1) fun v d σ0 B H σ env sm r Q post => by
    match d, r, post with
    | [.int i, .int j], .cons (.int _) (.cons (.int _) .nil), post =>
      by_cases hs : (small62 i && small62 j) = true
      · have post : Post K mg W (RIt K mg) σ0 σ env B H ((if small62 i && small62 j then M.pure (rngD i (j - i).toNat) else fun _ => .stuck : M (List D)) env) Q := post
        rw [if_pos hs] at post
        rw [Bool.and_eq_true] at hs
        exact ⟨i, j, rfl, ⟨(small62_ok hs.1).1, (small62_ok hs.1).2, (small62_ok hs.2).1, (small62_ok hs.2).2⟩, post.val sm itr_rng⟩
      · have post : Post K mg W (RIt K mg) σ0 σ env B H ((if small62 i && small62 j then M.pure (rngD i (j - i).toNat) else fun _ => .stuck : M (List D)) env) Q := post
        rw [if_neg hs] at post
        exact post.elim
theorem si_l (h : SE X W e te me) : SI X W tg e (iList X.K te) (iL me) := ⟨pi_list h.pe, (rx_il h.rx).ri⟩
theorem si_t (h : SE X W e te me) : SI X W tg e (iTup X.K te) (iT me) := ⟨pi_tup h.pe, (rx_it h.rx).ri⟩
theorem si_r1 {a : Expr} (hm : X.mg "range" = none) (ha : SA X W [a] ta ma) (hg : Gl X "range" := by rfl) (hs : starEach [a] X.env = [(false, eval a X.env)] := by rfl) : SI X W tg (.Call (.Name "range" p) [a] [] pos) (iRng1 ta) (iR1 ma) := ⟨pi_range1 hg hm ha.pa hs, (rx_ir1 ha.rx).ri⟩
theorem si_r2 {a b : Expr} (hm : X.mg "range" = none) (ha : SA X W [a, b] ta ma) (hg : Gl X "range" := by rfl) (hs : starEach [a, b] X.env = [(false, eval a X.env), (false, eval b X.env)] := by rfl) (hs2 : starEach [b] X.env = [(false, eval b X.env)] := by rfl) :
    SI X W tg (.Call (.Name "range" p) [a, b] [] pos) (iRng2 ta) (iR2 ma) := ⟨pi_range2 hg hm ha.pa hs hs2, (rx_ir2 ha.rx).ri⟩
end

/-! ### for -/
def forL (g : D → En → Option En) (body : M Fl) (clr : List Nat) : List D → M Fl
  | [], env => .ok .nx env
  | x :: xs, env => match g x env with
    | none => .stuck
    | some env1 => match body env1 with
      | .ok .nx env2 => forL g body clr xs (clrE clr env2)
      | .ok .ct env2 => forL g body clr xs (clrE clr env2)
      | .ok .bk env2 => .ok .nx (clrE clr env2)
      | .ok (.rt o d) env2 => .ok (.rt o d) env2
      | .exn x env2 => .exn x env2
      | .stuck => .stuck
def mFor (mi : M (List D)) (g : D → En → Option En) (body : M Fl) (clr : List Nat) : M Fl := mi.bind fun ds => forL g body clr ds
section
variable {X : Cx} {W : WX} {tg iter : Expr} {K : PySem.W.Frag} {mg : Str → Option Value} {wi : TI} {mi : M (List D)} {g : TG} {gm : D → En → Option En} {tb : TS} {mb : M Fl} {body : List Stmt} {pos : Pos}
theorem rs_for {T : List Nat} (hi : RI K mg W wi mi) (hg : RG K mg T g gm) (hb : RS K mg W tb mb) (clr : List Nat) : RS K mg W (tFor wi g tb) (mFor mi gm mb clr) := by
  intro c σ0 B H σ env sm fr D post
  refine hi.goS sm fr post fun J ds B1 H1 env1 sm1 fr1 _ r1 post1 => ?_
  refine ⟨fun i m σ' H' => m = ds.length - i ∧ i ≤ ds.length ∧ ∃ B' env', Sm K mg σ0 B' H' σ' env' ∧ Frm c σ' env' B' H' ∧ Same B1 B' ∧ LkIn H1 H' ∧ PostS K mg W c σ0 (forL gm mb clr (ds.drop i) env') D, ⟨ds.length, by omega, by omega, B1, env1, sm1, fr1, Same.refl _, LkIn.refl _, post1⟩, ?_⟩
  rintro i m σ' H' ⟨rfl, hil, B', env', sm', fr', g1, l1, post'⟩
  obtain ⟨hstop, hgo⟩ := r1 B' H' g1 sm'.sub l1
  by_cases hlt : i < ds.length
  · refine .inr ?_
    have hd : ds[i]? = some ds[i] := List.getElem?_eq_getElem hlt
    obtain ⟨go, yl⟩ := hgo i _ hd
    refine ⟨go, fun σ2 H2 => i + 1 ≤ ds.length ∧ ∃ B2 env2, Sm K mg σ0 B2 H2 σ2 env2 ∧ Frm c σ2 env2 B2 H2 ∧ Same B1 B2 ∧ LkIn H1 H2 ∧ PostS K mg W c σ0 (forL gm mb clr (ds.drop (i + 1)) env2) D, fun σ2 H2 ⟨h1, h2⟩ => ⟨ds.length - (i + 1), by omega, rfl, h1, h2⟩, fun x H2 hy => ?_⟩
    obtain ⟨B2, al, rx⟩ := yl x H2 hy
    have sm2 := sm'.alloc al.g al.n al.s al.sb
    have fr2 := fr'.step (Stp.alloc al.g al.n al.s) (Keep.refl _ _)
    rw [List.drop_eq_getElem_cons hlt] at post'
    refine hg σ0 B2 H2 σ' env' x _ sm2 rx _ ?_
    unfold forL at post'
    cases e : gm ds[i] env' with
    | none => rw [e] at post'; exact post'
    | some env3 =>
      rw [e] at post'
      intro σ3 sm3 k3 _
      have fr3 := fr2.keep k3
      have g3 : Same B1 B2 := g1.trans al.g
      have hc : Same c.Bs B2 := fr3.growS
      have hlk : LkIn c.Ls H2 := fr3.lkS
      have l2 : LkIn H1 H2 := fun a ob o q => al.s _ _ (l1 a ob o q)
      refine hb { c with Bs := B2, Ls := H2 } σ0 B2 H2 σ3 env3 sm3 (fr3.bs (Same.refl _) (LkIn.refl _)) _ ?_
      have post' : PostS K mg W c σ0 (match mb env3 with
        | .ok .nx env2 => forL gm mb clr (ds.drop (i + 1)) (clrE clr env2)
        | .ok .ct env2 => forL gm mb clr (ds.drop (i + 1)) (clrE clr env2)
        | .ok .bk env2 => .ok .nx (clrE clr env2)
        | .ok (.rt o d) env2 => .ok (.rt o d) env2
        | .exn x env2 => .exn x env2
        | .stuck => .stuck) D := post'
      cases e2 : mb env3 with
      | stuck => rw [e2] at post'; exact post'
      | exn y env4 =>
        rw [e2] at post'
        exact fun cls d s B H a b => post' cls d s B H a (b.unbs hc hlk)
      | ok f env4 =>
        rw [e2] at post'
        cases f with
        | nx => exact fun s B H a b => ⟨by omega, B, clrE clr env4, a.clr clr, (b.unbs hc hlk).keep (keep_clr clr), g3.trans b.growS, fun a' ob o q => b.lkS a' ob o (l2 a' ob o q), post'⟩
        | ct => exact fun s B H a b => ⟨by omega, B, clrE clr env4, a.clr clr, (b.unbs hc hlk).keep (keep_clr clr), g3.trans b.growS, fun a' ob o q => b.lkS a' ob o (l2 a' ob o q), post'⟩
        | bk => exact fun s B H a b => post' s B H (a.clr clr) ((b.unbs hc hlk).keep (keep_clr clr))
        | rt o d =>
          cases o with
          | false => exact fun v s B H a b => post' v s B H a (b.unbs hc hlk)
          | true => exact fun v s B H a b => post' v s B H a (b.unbs hc hlk)
  · have e : i = ds.length := by omega
    subst e
    rw [List.drop_length] at post'
    exact .inl ⟨hstop, post' σ' B' H' sm' fr'⟩
theorem ss_for {T : List Nat} (clr : List Nat) (hp : PassesOwn (model X.prog X.w) X.A X.env X.xe) (hc : X.calm = true) (hi : SI X W tg iter wi mi) (hg : SG X tg T g gm) (hb : SSs X W body tb mb) (hs : ∀ x, foldedSetIterable iter X.env x = pure x := by intro _; rfl) :
    SS X W (.For tg iter body [] pos) (tFor wi g tb) (mFor mi gm mb clr) := ⟨ps_for hp hc hi.pi hg.pg hb.ps hs, rs_for hi.rx hg.rg hb.rs clr⟩
end

/-! ### stores into a slot's own container -/
def mApp (i : Nat) (m : M D) : M Fl := fun env => match getOwnL env i with
  | some _ => (m.bind fun d env' => match env'[i]? with
    | some (some (.own p (.lst xs))) => if xs.length < 16777216 then .ok .nx (env'.set i (some (.own p (.lst (xs ++ [d]))))) else .stuck
    | _ => .stuck) env
  | none => .stuck
section
variable {X : Cx} {W : WX} {e : Expr} {te : TE} {me : M D} {K : PySem.W.Frag} {mg : Str → Option Value} {pos : Pos}
theorem rs_app {i : Nat} (h : RX K mg W (RD K mg) te me) : RS K mg W (tDrop (tBM K "list" rAppend (tVar i) (tCons te tNil))) (mApp i me) := by
  intro c σ0 B H σ env sm fr D post
  have hz : sizeLine = 16777216 := sizeLine_eq
  unfold mApp at post
  cases e : getOwnL env i with
  | none => rw [e] at post; exact post.elim
  | some d0 =>
    rw [e] at post
    obtain ⟨a, p, e0, e1, c0, _⟩ := sm.getOwn (getOwnL_some e)
    obtain ⟨vs, hl, _⟩ := c0.lst_inv
    refine ⟨.ref a, e1, .inl ⟨rfl, _, SqL.of hl⟩, ?_⟩
    refine h.goS sm fr post fun v d B1 H1 env1 sm1 fr1 _ r1 post1 => ?_
    cases e2 : env1[i]? with
    | none => rw [e2] at post1; exact post1.elim
    | some s =>
      rw [e2] at post1
      match s, e2, post1 with
      | some (.own p (.lst xs)), e2, post1 =>
        have post1 : PostS K mg W c σ0 (if xs.length < 16777216 then .ok .nx (env1.set i (some (.own p (.lst (xs ++ [d]))))) else .stuck) D := post1
        by_cases hs : xs.length < 16777216
        · rw [if_pos hs] at post1
          obtain ⟨v', e3, a', rfl, c1, hb, hp⟩ := sm1.sl i _ e2
          rw [e1] at e3
          cases e3
          obtain ⟨vs1, hl1, rs⟩ := Cont.lst_inv c1
          refine ⟨a, vs1, v, rfl, rfl, hl1, by rw [rs.length]; omega, ?_⟩
          exact post1 σ B1 _ (sm1.write e2 e1 (.lst upd_same (rs.append (.cons r1 .nil)))) (fr1.step (stp_write sm1 e2 e1) (osub_write e2).keep)
        · rw [if_neg hs] at post1; exact post1.elim
end

/-! ### dicts -/
def toKey : D → Option Key
  | .int i => some (.inl i)
  | .str x => some (.inr x)
  | _ => none
def toKeys : List D → Option (List Key)
  | [] => some []
  | d :: ds => (toKey d).bind fun k => (toKeys ds).map (k :: ·)
theorem toKey_rep {K : PySem.W.Frag} {mg : Str → Option Value} {B : Hp} {v : V} {d : D} {k : Key} (h : toKey d = some k) (r : Rep K mg B v d) : v = kV k := by
  unfold toKey at h
  split at h
  · cases h; cases r; rfl
  · cases h; cases r; rfl
  · cases h
theorem toKeys_rep {K : PySem.W.Frag} {mg : Str → Option Value} {B : Hp} : ∀ {vs : List V} {ds : List D} {ks : List Key}, toKeys ds = some ks → Reps K mg B vs ds → vs = ks.map kV
  | [], [], _, h, .nil => by cases h; rfl
  | v :: vs, d :: ds, ks, h, .cons r rs => by
    unfold toKeys at h
    cases e1 : toKey d with
    | none => rw [e1] at h; cases h
    | some k =>
      rw [e1] at h
      cases e2 : toKeys ds with
      | none => rw [e2] at h; cases h
      | some ks' =>
        rw [e2] at h
        cases h
        rw [List.map_cons, ← toKeys_rep e2 rs, ← toKey_rep e1 r]
section
variable {κ : Type} [DecidableEq κ]
def dLook (kvs : List (κ × D)) (k : κ) : Option D := (kvs.find? fun kv => decide (kv.1 = k)).map (·.2)
def dPutL (kvs : List (κ × D)) (k : κ) (v : D) : List (κ × D) :=
  if (kvs.any fun kv => decide (kv.1 = k)) = true then kvs.map (fun kv => if kv.1 = k then (kv.1, v) else kv) else kvs ++ [(k, v)]
def dDropL (kvs : List (κ × D)) (k : κ) : List (κ × D) := kvs.filter fun kv => decide (kv.1 ≠ k)
variable {K : PySem.W.Frag} {mg : Str → Option Value} {B : Hp}
/-- the pairs of a dict, in order -/
def RKv (K : PySem.W.Frag) (mg : Str → Option Value) (B : Hp) (vs : List (κ × V)) (ds : List (κ × D)) : Prop := vs.map Prod.fst = ds.map Prod.fst ∧ Reps K mg B (vs.map Prod.snd) (ds.map Prod.snd)
theorem RKv.nil : RKv K mg B ([] : List (κ × V)) [] := ⟨rfl, .nil⟩
theorem RKv.cons {k : κ} {v : V} {d : D} {vs : List (κ × V)} {ds : List (κ × D)} (r : Rep K mg B v d) (h : RKv K mg B vs ds) : RKv K mg B ((k, v) :: vs) ((k, d) :: ds) := ⟨by rw [List.map_cons, List.map_cons, h.1], .cons r h.2⟩
theorem RKv.length {vs : List (κ × V)} {ds : List (κ × D)} (h : RKv K mg B vs ds) : vs.length = ds.length := by
  have := congrArg List.length h.1
  simpa using this
theorem RKv.ind {P : List (κ × V) → List (κ × D) → Prop} (h0 : P [] []) (h1 : ∀ k v d vs ds, Rep K mg B v d → RKv K mg B vs ds → P vs ds → P ((k, v) :: vs) ((k, d) :: ds)) : ∀ {vs : List (κ × V)} {ds : List (κ × D)}, RKv K mg B vs ds → P vs ds
  | [], [], _ => h0
  | (k, v) :: vs, (k', d) :: ds, h => by
    obtain ⟨e, r⟩ := h
    rw [List.map_cons, List.map_cons] at e
    injection e with e1 e2
    have e1 : k = k' := e1
    subst e1
    cases r with
    | cons r1 r2 => exact h1 k v d vs ds r1 ⟨e2, r2⟩ (RKv.ind h0 h1 ⟨e2, r2⟩)
  | [], _ :: _, h => by cases h.1
  | _ :: _, [], h => by cases h.1
theorem RKv.look {vs : List (κ × V)} {ds : List (κ × D)} (h : RKv K mg B vs ds) (k : κ) : (valV vs k = none ∧ dLook ds k = none) ∨ ∃ v d, valV vs k = some v ∧ dLook ds k = some d ∧ Rep K mg B v d := by
  refine RKv.ind (P := fun vs ds => (valV vs k = none ∧ dLook ds k = none) ∨ ∃ v d, valV vs k = some v ∧ dLook ds k = some d ∧ Rep K mg B v d) (.inl ⟨rfl, rfl⟩) (fun k' v d vs ds r h ih => ?_) h
  unfold valV dLook at ih ⊢
  by_cases e : k' = k
  · refine .inr ⟨v, d, ?_, ?_, r⟩
    · rw [List.find?_cons_of_pos (by simpa using e)]; rfl
    · rw [List.find?_cons_of_pos (by simpa using e)]; rfl
  · rw [List.find?_cons_of_neg (by simpa using e), List.find?_cons_of_neg (by simpa using e)]
    exact ih
theorem RKv.any {vs : List (κ × V)} {ds : List (κ × D)} (h : RKv K mg B vs ds) (k : κ) : (vs.any fun kv => decide (kv.1 = k)) = (ds.any fun kv => decide (kv.1 = k)) :=
  RKv.ind (P := fun vs ds => (vs.any fun kv => decide (kv.1 = k)) = (ds.any fun kv => decide (kv.1 = k))) rfl (fun k' v d vs ds r h ih => by rw [List.any_cons, List.any_cons, ih]) h
theorem RKv.append {vs ws : List (κ × V)} {ds es : List (κ × D)} (h : RKv K mg B vs ds) (g : RKv K mg B ws es) : RKv K mg B (vs ++ ws) (ds ++ es) := by
  refine ⟨by rw [List.map_append, List.map_append, h.1, g.1], ?_⟩
  rw [List.map_append, List.map_append]
  exact h.2.append g.2
theorem RKv.put {vs : List (κ × V)} {ds : List (κ × D)} (h : RKv K mg B vs ds) (k : κ) {v : V} {d : D} (r : Rep K mg B v d) : RKv K mg B (putK vs k v) (dPutL ds k d) := by
  unfold putK dPutL
  rw [h.any k]
  by_cases c : (ds.any fun kv => decide (kv.1 = k)) = true
  · rw [if_pos c, if_pos c]
    refine RKv.ind (P := fun vs ds => RKv K mg B (vs.map fun kv => if kv.1 = k then (kv.1, v) else kv) (ds.map fun kv => if kv.1 = k then (kv.1, d) else kv)) .nil (fun k' v' d' vs ds r' h ih => ?_) h
    rw [List.map_cons, List.map_cons]
    by_cases e : k' = k
    · rw [if_pos e, if_pos e]; exact .cons r ih
    · rw [if_neg e, if_neg e]; exact .cons r' ih
  · rw [if_neg c, if_neg c]
    exact h.append (.cons r .nil)
theorem RKv.drop {vs : List (κ × V)} {ds : List (κ × D)} (h : RKv K mg B vs ds) (k : κ) : RKv K mg B (dropK vs k) (dDropL ds k) := by
  unfold dropK dDropL
  refine RKv.ind (P := fun vs ds => RKv K mg B (vs.filter fun kv => decide (kv.1 ≠ k)) (ds.filter fun kv => decide (kv.1 ≠ k))) .nil (fun k' v' d' vs ds r' h ih => ?_) h
  by_cases e : k' = k
  · rw [List.filter_cons_of_neg (by simpa using e), List.filter_cons_of_neg (by simpa using e)]; exact ih
  · rw [List.filter_cons_of_pos (by simpa using e), List.filter_cons_of_pos (by simpa using e)]; exact .cons r' ih
end
/-- what a dict holds at a key -/
def dGet : D → D → Option (Option D)
  | .dK kvs, k => (toKey k).map (dLook kvs)
  | .dT kvs, .tup ks => (toKeys ks).map (dLook kvs)
  | _, _ => none
theorem dGet_rep {K : PySem.W.Frag} {mg : Str → Option Value} {B H : Hp} {a : Addr} {y : V} {d k : D} {o : Option D} (s : Sub B H) (h : Rep K mg B (.ref a) d) (r : Rep K mg B y k) (e : dGet d k = some o) :
    ∃ ov, DGet H a y ov ∧ ((ov = none ∧ o = none) ∨ ∃ v z, ov = some v ∧ o = some z ∧ Rep K mg B v z) := by
  cases d with
  | dK kvs =>
    have e : (toKey k).map (dLook kvs) = some o := e
    cases h with
    | @dK a vs _ p q rs =>
      cases e1 : toKey k with
      | none => rw [e1] at e; cases e
      | some kk =>
        rw [e1] at e
        cases e
        have := toKey_rep e1 r
        subst this
        have hr : Rd H a (.dK vs) := by
          rcases s _ _ p with h | ⟨_, ob, h⟩
          · exact .inl h
          · exact .inr ⟨ob, h⟩
        exact ⟨valV vs kk, .inl ⟨vs, kk, hr, rfl, rfl⟩, RKv.look ⟨q, rs⟩ kk⟩
  | dT kvs =>
    cases k with
    | tup ks =>
      have e : (toKeys ks).map (dLook kvs) = some o := e
      cases h with
      | @dT a vs _ p q rs =>
        cases r with
        | tup p2 rs2 =>
          cases e1 : toKeys ks with
          | none => rw [e1] at e; cases e
          | some kk =>
            rw [e1] at e
            cases e
            have := toKeys_rep e1 rs2
            subst this
            have hr : Rd H a (.dT vs) := by
              rcases s _ _ p with h | ⟨_, ob, h⟩
              · exact .inl h
              · exact .inr ⟨ob, h⟩
            exact ⟨valV vs kk, .inr ⟨vs, kk, _, hr, rfl, s.tup p2, rfl⟩, RKv.look ⟨q, rs⟩ kk⟩
    | _ => cases e
  | _ => cases e
end Mi

/-! The mirror layer 8: defs and calls. -/
namespace Mi
open PySem L2
variable [Tabs]

inductive Fin where
  | stuck | ret (own : Bool) (d : D) (outs : List D) | exn (x : Xn) (outs : List D)
def argsE (n : Nat) (args : List Slot) : En := args.map some ++ List.replicate (n - args.length) none
/-- what the containers handed in hold at the end -/
def outsAt : Nat → List Slot → En → Option (List D)
  | _, [], _ => some []
  | i, .shr _ :: as, env => outsAt (i + 1) as env
  | i, .own _ _ :: as, env => match env[i]? with
    | some (some (.own true d)) => (outsAt (i + 1) as env).map (d :: ·)
    | _ => none
def runF (n : Nat) (m : M Fl) (args : List Slot) : Fin := match m (argsE n args) with
  | .ok .nx env => match outsAt 0 args env with
    | some os => .ret false .non os
    | none => .stuck
  | .ok (.rt b d) env => match outsAt 0 args env with
    | some os => .ret b d os
    | none => .stuck
  | .exn x env => match outsAt 0 args env with
    | some os => .exn x os
    | none => .stuck
  | _ => .stuck
section
variable (K : PySem.W.Frag) (mg : Str → Option Value)
def Outs (B H : Hp) : List V → List Slot → List D → Prop
  | [], [], [] => True
  | _ :: vs, .shr _ :: as, os => Outs B H vs as os
  | v :: vs, .own _ _ :: as, o :: os => (∃ a, v = .ref a ∧ Cont K mg B H a o ∧ B a = none) ∧ Outs B H vs as os
  | _, _, _ => False
def PostF (B H : Hp) (vs : List V) (args : List Slot) (r : Fin) (Q : VK) (E : XK) : Prop := match r with
  | .stuck => False
  | .ret false d outs => ∀ v B' H', Stp (Owned (vs.map some) (args.map some)) B H B' H' → Sub B' H' → Outs K mg B' H' vs args outs → Rep K mg B' v d → Q v H'
  | .ret true d outs => ∀ a B' H', Stp (Owned (vs.map some) (args.map some)) B H B' H' → Sub B' H' → Outs K mg B' H' vs args outs → Cont K mg B' H' a d → B' a = none → H a = none → Q (.ref a) H'
  | .exn x outs => ∀ cls d B' H', Stp (Owned (vs.map some) (args.map some)) B H B' H' → Sub B' H' → Outs K mg B' H' vs args outs → ExR mg x cls d H' → E cls d H'
/-- the promise: what the mirror tells -/
def SpM (np : Nat) (mf : List Slot → Fin) : Sp := fun vs H Q E => vs.length = np ∧ ∃ B args, Sm K mg (vs.map some) B H (vs.map some) (args.map some) ∧ (∀ p d, Slot.own p d ∈ args → p = true) ∧ PostF K mg B H vs args (mf args) Q E
end
section
variable {K : PySem.W.Frag} {mg : Str → Option Value}
theorem outs_of {σ0 σ : L2.St} {B H : Hp} {env : En} (sm : Sm K mg σ0 B H σ env) : ∀ (vs : List V) (as : List Slot) (i : Nat) (os : List D), vs.length = as.length → (∀ j v, vs[j]? = some v → σ0[i + j]? = some (some v)) → outsAt i as env = some os → Outs K mg B H vs as os
  | [], [], i, os, _, _, h => by cases h; trivial
  | v :: vs, .shr _ :: as, i, os, hl, hv, h => by
    have h : outsAt (i + 1) as env = some os := h
    refine outs_of sm vs as (i + 1) os (by simpa using hl) (fun j w e => ?_) h
    have := hv (j + 1) w (by simpa using e)
    rw [show i + 1 + j = i + (j + 1) by omega]
    exact this
  | v :: vs, .own _ _ :: as, i, os, hl, hv, h => by
    unfold outsAt at h
    cases e : env[i]? with
    | none => rw [e] at h; cases h
    | some s =>
      rw [e] at h
      match s, e, h with
      | some (.own true d), e, h =>
        have h : (outsAt (i + 1) as env).map (d :: ·) = some os := h
        cases e2 : outsAt (i + 1) as env with
        | none => rw [e2] at h; cases h
        | some os' =>
          rw [e2] at h
          cases h
          obtain ⟨w, e1, a, rfl, c, hb, hp⟩ := sm.sl i _ e
          have h0 := hv 0 v rfl
          rw [Nat.add_zero, hp rfl] at h0
          cases h0
          refine ⟨⟨a, rfl, c, hb⟩, outs_of sm vs as (i + 1) os' (by simpa using hl) (fun j w e => ?_) e2⟩
          have := hv (j + 1) w (by simpa using e)
          rw [show i + 1 + j = i + (j + 1) by omega]
          exact this
      | some (.own false d), e, h => cases h
      | some (.shr d), e, h => cases h
      | none, e, h => cases h
  | [], _ :: _, _, _, h, _, _ => by cases h
  | _ :: _, [], _, _, h, _, _ => by cases h
theorem getE {α : Type} {l : List α} {n : Nat} {i : Nat} {x : α} (h : (l.map some ++ List.replicate n none)[i]? = some (some x)) : l[i]? = some x := by
  by_cases c : i < l.length
  · rw [List.getElem?_append_left (by simpa using c), List.getElem?_map] at h
    cases e : l[i]? with
    | none => rw [e] at h; cases h
    | some y => rw [e] at h; cases h; rfl
  · rw [List.getElem?_append_right (by simpa using c)] at h
    rw [List.getElem?_replicate] at h
    split at h <;> cases h
theorem Sm.start {B H : Hp} {vs : List V} {args : List Slot} {n : Nat} (m : Sm K mg (vs.map some) B H (vs.map some) (args.map some)) :
    Sm K mg (vs.map some ++ List.replicate (n - vs.length) none) B H (vs.map some ++ List.replicate (n - vs.length) none) (argsE n args) := by
  have hl : vs.length = args.length := by simpa using m.len
  have sg : ∀ (i : Nat) (v : V), (vs.map some)[i]? = some (some v) → (vs.map some ++ List.replicate (n - vs.length) none)[i]? = some (some v) := fun i v e => by
    have hi : i < (vs.map some).length := (List.getElem?_eq_some_iff.mp e).1
    rw [List.getElem?_append_left hi]; exact e
  have eg : ∀ (i : Nat) (s : Slot), (argsE n args)[i]? = some (some s) → (args.map some)[i]? = some (some s) := fun i s e => by
    have := getE e
    rw [List.getElem?_map, this]; rfl
  refine ⟨m.tb, m.sub, by unfold argsE; simp [hl], fun i s e => ?_, fun i j p d p' d' a e1 e2 r1 r2 => ?_⟩
  · obtain ⟨v, e1, r⟩ := m.sl i s (eg i s e)
    refine ⟨v, sg i v e1, ?_⟩
    cases s with
    | shr d => exact r
    | own p d =>
      obtain ⟨a, rfl, c, hb, hp⟩ := r
      exact ⟨a, rfl, c, hb, fun z => sg i _ (hp z)⟩
  · have q : ∀ (i : Nat) (a : Addr), (vs.map some ++ List.replicate (n - vs.length) none)[i]? = some (some (V.ref a)) → (vs.map some)[i]? = some (some (V.ref a)) := fun i a e => by
      have := getE e
      rw [List.getElem?_map, this]; rfl
    exact m.sep i j p d p' d' a (eg i _ e1) (eg j _ e2) (q i a r1) (q j a r2)
theorem owned_start {vs : List V} {args : List Slot} {n : Nat} {a : Addr} (h : Owned (vs.map some ++ List.replicate (n - vs.length) none) (argsE n args) a) : Owned (vs.map some) (args.map some) a := by
  obtain ⟨i, p, d, e, r⟩ := h
  refine ⟨i, p, d, ?_, ?_⟩
  · have := getE e
    rw [List.getElem?_map, this]; rfl
  · have := getE r
    rw [List.getElem?_map, this]; rfl
end
section
variable {P : Program} {w : World} {K : PySem.W.Frag} {mg : Str → Option Value} {base : Heap}
theorem core_m {N : List Str} {np : Nat} {m : M Fl} {ts : TS} {vs : List V} {H : Hp} {Q : VK} {E : XK} (hrs : RS K mg (fun cls d _ H => E cls d H) ts m) (h : SpM K mg np (runF N.length m) vs H Q E) : ts { nx := fun _ H' => Q .non H', rt := Q } (L2.start N vs) H := by
  obtain ⟨hlen, B, args, sm, hpin, post⟩ := h
  have hal : vs.length = args.length := by simpa using sm.len
  let c : Ent := ⟨B, B, H, H, Owned (vs.map some) (args.map some), fun a h => by
    obtain ⟨⟨u, e1⟩, hb⟩ := sm.own_there h
    exact ⟨fun o q => (by rw [hb] at q; cases q), u, e1⟩⟩
  have sm0 := sm.start (n := N.length)
  have fr0 : Frm c (L2.start N vs) (argsE N.length args) B H := ⟨Same.refl _, Same.refl _, fun _ _ h => .inl h, fun _ _ h _ => .inl h, fun _ o h => ⟨o, h⟩, fun _ _ _ h => h, fun _ _ _ h => h, fun i p d a e r => by
    have ho : Owned (vs.map some) (args.map some) a := owned_start (n := N.length) ⟨i, p, d, e, r⟩
    refine ⟨fun _ => ho, fun hp => ?_⟩
    have := hpin p d (List.mem_of_getElem? (getE e))
    rw [hp] at this; cases this⟩
  refine hrs c (L2.start N vs) B H (L2.start N vs) (argsE N.length args) sm0 fr0 _ ?_
  have stp : ∀ {σ' : L2.St} {env' : En} {B' H' : Hp}, Frm c σ' env' B' H' → Stp (Owned (vs.map some) (args.map some)) B H B' H' := fun fr => ⟨fr.grow, fr.new, fr.frame, fr.there, fr.lk⟩
  have outs : ∀ {σ' : L2.St} {env' : En} {B' H' : Hp} {os : List D}, Sm K mg (L2.start N vs) B' H' σ' env' → outsAt 0 args env' = some os → Outs K mg B' H' vs args os := fun sm' h => by
    refine outs_of sm' vs args 0 _ hal (fun j v e => ?_) h
    rw [Nat.zero_add]
    show (vs.map some ++ List.replicate (N.length - vs.length) none)[j]? = _
    have hj : j < (vs.map some).length := by simpa using (List.getElem?_eq_some_iff.mp e).1
    rw [List.getElem?_append_left hj, List.getElem?_map, e]
    rfl
  unfold runF at post
  cases e : m (argsE N.length args) with
  | stuck => rw [e] at post; exact post
  | exn x env' =>
    rw [e] at post
    cases e2 : outsAt 0 args env' with
    | none => simp only [e2] at post; exact post.elim
    | some os =>
      simp only [e2] at post
      exact fun cls d σ' B' H' sm' fr' ex => post cls d B' H' (stp fr') sm'.sub (outs sm' e2) ex
  | ok fl env' =>
    rw [e] at post
    cases fl with
    | bk => exact post.elim
    | ct => exact post.elim
    | nx =>
      cases e2 : outsAt 0 args env' with
      | none => simp only [e2] at post; exact post.elim
      | some os =>
        simp only [e2] at post
        exact fun σ' B' H' sm' fr' => post .non B' H' (stp fr') sm'.sub (outs sm' e2) .non
    | rt b d =>
      cases e2 : outsAt 0 args env' with
      | none => simp only [e2] at post; exact post.elim
      | some os =>
        simp only [e2] at post
        cases b with
        | false => exact fun v σ' B' H' sm' fr' r => post v B' H' (stp fr') sm'.sub (outs sm' e2) r
        | true => exact fun a σ' B' H' sm' fr' c1 hb h0 _ => post a B' H' (stp fr') sm'.sub (outs sm' e2) c1 hb h0
/-- THE RULE for a def -/
theorem fn_m {x qual : Str} {st : Stmt} {f : Addr} {fd : FuncData} {N ps : List Str} {k : Nat} {m : M Fl} (F : Fun K x qual st f fd) (S : FnScope N ps (defScope st))
    (body : ∀ (cdv : Value) (A : Around) (outer : List PySem.Env) (s : Shared) (H : Hp) (E : XK), Room k (A.deeper (PyProof.Rows.envOfC qual (defScope st) s.heap.objs.size f cdv)) →
      ∃ ts, SSs (cxOf (L2.CX P w) P w K mg base N qual (defScope st) f cdv A outer s H E) (fun cls d _ H => E cls d H) (defBody st) ts m) :
    FnOk P w K mg base (L2.CX P w) (k + 1) f fd ps (SpM K mg ps.length (runF N.length m)) := by
  refine F.okX S (fun vs H Q E h => h.1) fun cdv A outer s H vs Q E hr h => ?_
  obtain ⟨ts, hps, hrs⟩ := body cdv A outer s H E hr
  exact ⟨ts, hps, core_m hrs h⟩
/-- a def whose code object is known -/
structure FunC (K : PySem.W.Frag) (x qual : Str) (st : Stmt) (f : Addr) (fd : FuncData) (c : Addr) : Prop where
  ex : ∃ oc od kV doc pm an ct osl, fd = PySem.W.fnOf x qual (defArgs st) (defBody st) (defScope st) .none kV doc pm an (.ref c) ct ∧ K.lookup f = some ⟨oc, od, .func fd, osl⟩ ∧ PySem.W.codeIn K (.ref c) qual = true
theorem fn_mC {x qual : Str} {st : Stmt} {f c : Addr} {fd : FuncData} {N ps : List Str} {k : Nat} {m : M Fl} (F : FunC K x qual st f fd c) (S : FnScope N ps (defScope st))
    (body : ∀ (A : Around) (outer : List PySem.Env) (s : Shared) (H : Hp) (E : XK), Room k (A.deeper (PyProof.Rows.envOfC qual (defScope st) s.heap.objs.size f (.ref c))) →
      ∃ ts, SSs (cxOf (L2.CX P w) P w K mg base N qual (defScope st) f (.ref c) A outer s H E) (fun cls d _ H => E cls d H) (defBody st) ts m) :
    FnOk P w K mg base (L2.CX P w) (k + 1) f fd ps (SpM K mg ps.length (runF N.length m)) := by
  obtain ⟨oc, od, kV, doc, pm, an, ct, osl, rfl, lk, hcd⟩ := F.ex
  refine fn_of lk hcd S (fun vs H Q E h => h.1) fun A outer s H vs Q E hr h => ?_
  obtain ⟨ts, hps, hrs⟩ := body A outer s H E hr
  exact ⟨ts, hps, core_m hrs h⟩
end

/-! ### calls -/
inductive Ar where
  | sh (d : D) | io (i : Nat)
inductive Ars (K : PySem.W.Frag) (mg : Str → Option Value) (σ : L2.St) (B : Hp) : List V → List Ar → Prop
  | nil : Ars K mg σ B [] []
  | sh {v : V} {d : D} {vs : List V} {as : List Ar} : Rep K mg B v d → Ars K mg σ B vs as → Ars K mg σ B (v :: vs) (.sh d :: as)
  | io {v : V} {i : Nat} {vs : List V} {as : List Ar} : σ[i]? = some (some v) → Ars K mg σ B vs as → Ars K mg σ B (v :: vs) (.io i :: as)
def RAr (K : PySem.W.Frag) (mg : Str → Option Value) : L2.St → Hp → List V → List Ar → Prop := fun σ B vs as => Ars K mg σ B vs as
structure SAr (X : Cx) (W : WX) (es : List Expr) (ta : TA) (m : M (List Ar)) : Prop where
  pa : PA X es ta
  rx : RX X.K X.mg W (RAr X.K X.mg) ta m
def rNil : M (List Ar) := M.pure []
def rSh (m : M D) (r : M (List Ar)) : M (List Ar) := m.bind fun a => r.bind fun as => M.pure (.sh a :: as)
def rIo (i : Nat) (r : M (List Ar)) : M (List Ar) := fun env => match getOwn env i with
  | some _ => (r.bind fun as => M.pure (.io i :: as)) env
  | none => .stuck
def slotsOf (env : En) : List Ar → Option (List Slot)
  | [] => some []
  | .sh d :: as => (slotsOf env as).map (.shr d :: ·)
  | .io i :: as => (getOwn env i).bind fun d => (slotsOf env as).map (.own true d :: ·)
def ioIx : List Ar → List Nat
  | [] => []
  | .sh _ :: as => ioIx as
  | .io i :: as => i :: ioIx as
def putOuts : List Ar → List D → En → Option En
  | [], [], env => some env
  | .sh _ :: as, os, env => putOuts as os env
  | .io i :: as, o :: os, env => match env[i]? with
    | some (some (.own p _)) => putOuts as os (env.set i (some (.own p o)))
    | _ => none
  | _, _, _ => none
def eCall (np : Nat) (mf : List Slot → Fin) (ma : M (List Ar)) : M D := ma.bind fun as env => if as.length = np ∧ (ioIx as).Nodup then match slotsOf env as with
    | none => .stuck
    | some args => match mf args with
      | .ret false d os => match putOuts as os env with
        | some env' => .ok d env'
        | none => .stuck
      | .exn x os => match putOuts as os env with
        | some env' => .exn x env'
        | none => .stuck
      | _ => .stuck
  else .stuck
def eCallN (np : Nat) (mf : List Slot → Fin) (ma : M (List Ar)) : M D := ma.bind fun as env => if as.length = np ∧ (ioIx as).Nodup then match slotsOf env as with
    | none => .stuck
    | some args => match mf args with
      | .ret true d os => match putOuts as os env with
        | some env' => .ok d env'
        | none => .stuck
      | .exn x os => match putOuts as os env with
        | some env' => .exn x env'
        | none => .stuck
      | _ => .stuck
  else .stuck
section
variable {X : Cx} {W : WX} {K : PySem.W.Frag} {mg : Str → Option Value} {e : Expr} {es : List Expr} {te : TE} {me : M D} {tr : TA} {mr : M (List Ar)} {pos pos' : Pos}
theorem Ars.mono {σ : L2.St} {B B' : Hp} (g : Same B B') : ∀ {vs : List V} {as : List Ar}, Ars K mg σ B vs as → Ars K mg σ B' vs as
  | _, _, .nil => .nil
  | _, _, .sh r s => .sh (r.mono g) (Ars.mono g s)
  | _, _, .io r s => .io r (Ars.mono g s)
theorem sr_nil : SAr X W [] tNil rNil := ⟨pa_nil, fun σ0 B H σ env sm Q post => post.val sm .nil⟩
theorem sr_sh (h : SE X W e te me) (r : SAr X W es tr mr) (hs : starEach (e :: es) X.env = (false, eval e X.env) :: starEach es X.env := by rfl) : SAr X W (e :: es) (tCons te tr) (rSh me mr) :=
  ⟨pa_cons h.pe r.pa hs, h.rx.bind2 (t3 := fun x xs σ H Q => Q (x :: xs) H) r.rx rd_monoR fun v w a b σ0 B H σ env sm r1 r2 Q post => post.val sm (.sh r1 r2)⟩
theorem sr_io (i : Nat) {x : Str} (r : SAr X W es tr mr) (hN : X.N[i]? = some x := by rfl) (hv : Vis X.env.scope x := by first | exact Or.inl rfl | exact Or.inr (Or.inl rfl) | exact Or.inr (Or.inr rfl)) (hd : (x == ("__debug__" : Str)) = false := by decide)
    (hcd : (x == ("__classdict__" : Str)) = false := by decide) (hs : starEach (.Name x pos' :: es) X.env = (false, eval (.Name x pos') X.env) :: starEach es X.env := by rfl) : SAr X W (.Name x pos' :: es) (tCons (tVar i) tr) (rIo i mr) := by
  refine ⟨pa_cons (pe_var hN hv hd hcd) r.pa hs, fun σ0 B H σ env sm Q post => ?_⟩
  unfold rIo at post
  cases e : getOwn env i with
  | none => rw [e] at post; exact post.elim
  | some d =>
    rw [e] at post
    obtain ⟨a, p, _, e1, _⟩ := sm.getOwn e
    refine ⟨.ref a, e1, ?_⟩
    exact r.rx.go sm post fun v as B1 H1 env1 sm1 g1 r1 post1 => post1.val sm1 (.io e1 r1)
/-- the callee's slots -/
theorem slots_of {σ : L2.St} {B H : Hp} {env : En} {σ0 : L2.St} (sm : Sm K mg σ0 B H σ env) : ∀ {vs : List V} {as : List Ar} {args : List Slot}, Ars K mg σ B vs as → slotsOf env as = some args →
    vs.length = args.length ∧ (∀ (i : Nat) (s : Slot), args[i]? = some s → ∃ v, vs[i]? = some v ∧ match s with
      | .shr d => Rep K mg B v d
      | .own p d => p = true ∧ ∃ j a p', as[i]? = some (.io j) ∧ v = .ref a ∧ σ[j]? = some (some v) ∧ env[j]? = some (some (.own p' d)) ∧ Cont K mg B H a d ∧ B a = none)
  | [], [], _, .nil, h => by cases h; exact ⟨rfl, fun i s e => by cases e⟩
  | v :: vs, .sh d :: as, args, .sh r rs, h => by
    have h : (slotsOf env as).map (.shr d :: ·) = some args := h
    cases e : slotsOf env as with
    | none => rw [e] at h; cases h
    | some args' =>
      rw [e] at h
      cases h
      obtain ⟨h1, h2⟩ := slots_of sm rs e
      refine ⟨by simp [h1], fun i s e => ?_⟩
      cases i with
      | zero => cases e; exact ⟨v, rfl, r⟩
      | succ i => exact h2 i s (by simpa using e)
  | v :: vs, .io j :: as, args, .io r rs, h => by
    have h : ((getOwn env j).bind fun d => (slotsOf env as).map (.own true d :: ·)) = some args := h
    cases e0 : getOwn env j with
    | none => rw [e0] at h; cases h
    | some d =>
      rw [e0] at h
      have h : (slotsOf env as).map (.own true d :: ·) = some args := h
      cases e : slotsOf env as with
      | none => rw [e] at h; cases h
      | some args' =>
        rw [e] at h
        cases h
        obtain ⟨h1, h2⟩ := slots_of sm rs e
        refine ⟨by simp [h1], fun i s e => ?_⟩
        cases i with
        | zero =>
          cases e
          obtain ⟨a, p, e1, e2, c, hb, _⟩ := sm.getOwn e0
          rw [r] at e2
          cases e2
          exact ⟨_, rfl, rfl, j, a, p, rfl, rfl, r, e1, c, hb⟩
        | succ i => exact h2 i s (by simpa using e)
theorem io_mem : ∀ {as : List Ar} {i j : Nat}, as[i]? = some (.io j) → j ∈ ioIx as
  | .sh _ :: as, 0, j, h => by cases h
  | .io _ :: as, 0, j, h => by cases h; exact List.mem_cons_self
  | .sh _ :: as, i + 1, j, h => io_mem (as := as) (i := i) (by simpa using h)
  | .io _ :: as, i + 1, j, h => List.mem_cons_of_mem _ (io_mem (as := as) (i := i) (by simpa using h))
theorem io_inj : ∀ {as : List Ar} {i i' j : Nat}, (ioIx as).Nodup → as[i]? = some (.io j) → as[i']? = some (.io j) → i = i'
  | [], i, i', j, _, h, _ => by cases h
  | .sh _ :: as, 0, _, j, _, h, _ => by cases h
  | .sh _ :: as, _, 0, j, _, _, h => by cases h
  | .io _ :: as, 0, 0, j, _, h, h' => rfl
  | .sh _ :: as, i + 1, i' + 1, j, hn, h, h' => by rw [io_inj (as := as) (i := i) (i' := i') hn (by simpa using h) (by simpa using h')]
  | .io k :: as, i + 1, i' + 1, j, hn, h, h' => by rw [io_inj (as := as) (i := i) (i' := i') (List.nodup_cons.mp hn).2 (by simpa using h) (by simpa using h')]
  | .io k :: as, 0, i' + 1, j, hn, h, h' => by
    cases h
    exact ((List.nodup_cons.mp hn).1 (io_mem (as := as) (i := i') (by simpa using h'))).elim
  | .io k :: as, i + 1, 0, j, hn, h, h' => by
    cases h'
    exact ((List.nodup_cons.mp hn).1 (io_mem (as := as) (i := i) (by simpa using h))).elim
theorem put_spec {σ : L2.St} {B B' H' : Hp} : ∀ {as : List Ar} {vs : List V} {args : List Slot} {env0 : En} {os : List D} {env env' : En}, Ars K mg σ B vs as → slotsOf env0 as = some args → Outs K mg B' H' vs args os → putOuts as os env = some env' →
    env'.length = env.length ∧ ∀ (j : Nat) (s : Slot), env'[j]? = some (some s) → (j ∉ ioIx as ∧ env[j]? = some (some s)) ∨ ∃ p d0 d, s = .own p d ∧ env[j]? = some (some (.own p d0)) ∧ ∃ a, σ[j]? = some (some (.ref a)) ∧ Cont K mg B' H' a d ∧ B' a = none
  | [], [], args, env0, os, env, env', .nil, hs, ho, hp => by
    cases hs
    cases os with
    | nil => cases hp; exact ⟨rfl, fun j s e => .inl ⟨by simp [ioIx], e⟩⟩
    | cons _ _ => exact ho.elim
  | .sh d :: as, v :: vs, args, env0, os, env, env', .sh r rs, hs, ho, hp => by
    have hs : (slotsOf env0 as).map (.shr d :: ·) = some args := hs
    cases e : slotsOf env0 as with
    | none => rw [e] at hs; cases hs
    | some args' =>
      rw [e] at hs
      cases hs
      exact put_spec (as := as) (vs := vs) (args := args') rs e ho hp
  | .io i :: as, v :: vs, args, env0, os, env, env', .io r rs, hs, ho, hp => by
    have hs : ((getOwn env0 i).bind fun d => (slotsOf env0 as).map (.own true d :: ·)) = some args := hs
    cases e0 : getOwn env0 i with
    | none => rw [e0] at hs; cases hs
    | some d =>
      rw [e0] at hs
      have hs : (slotsOf env0 as).map (.own true d :: ·) = some args := hs
      cases e : slotsOf env0 as with
      | none => rw [e] at hs; cases hs
      | some args' =>
        rw [e] at hs
        cases hs
        cases os with
        | nil => exact ho.elim
        | cons o os =>
          obtain ⟨⟨a, rfl, c, hb⟩, ho2⟩ := (show (∃ a, v = .ref a ∧ Cont K mg B' H' a o ∧ B' a = none) ∧ Outs K mg B' H' vs args' os from ho)
          unfold putOuts at hp
          cases e2 : env[i]? with
          | none => rw [e2] at hp; cases hp
          | some s =>
            rw [e2] at hp
            match s, e2, hp with
            | some (.own p dd), e2, hp =>
              obtain ⟨hl, ih⟩ := put_spec (as := as) (vs := vs) (args := args') rs e ho2 hp
              refine ⟨by rw [hl, List.length_set], fun j s ej => ?_⟩
              rcases ih j s ej with ⟨hn, ej⟩ | ⟨p', d0, d', rfl, ej, a', e4, c', hb'⟩
              · rcases get_set ej with ⟨rfl, z, _⟩ | ⟨ne, ej⟩
                · cases z
                  exact .inr ⟨p, dd, o, rfl, e2, a, r, c, hb⟩
                · refine .inl ⟨fun z => ?_, ej⟩
                  rcases List.mem_cons.mp z with z | z
                  · exact ne z.symm
                  · exact hn z
              · rcases get_set ej with ⟨rfl, z, _⟩ | ⟨ne, ej⟩
                · cases z
                  exact .inr ⟨p, dd, d', rfl, e2, a', e4, c', hb'⟩
                · exact .inr ⟨p', d0, d', rfl, ej, a', e4, c', hb'⟩
            | some (.shr _), e2, hp => cases hp
            | none, e2, hp => cases hp

/-- what a call needs, and what it gives back -/
theorem call_core {σ0 σ : L2.St} {B H : Hp} {env : En} (sm : Sm K mg σ0 B H σ env) {vs : List V} {as : List Ar} {args : List Slot} (r : Ars K mg σ B vs as) (hs : slotsOf env as = some args) (hn : (ioIx as).Nodup) :
    Sm K mg (vs.map some) B H (vs.map some) (args.map some) ∧ (∀ p d, Slot.own p d ∈ args → p = true) ∧ (∀ a, Owned (vs.map some) (args.map some) a → Owned σ env a) ∧
    ∀ os env', putOuts as os env = some env' → ∀ B' H', Stp (Owned (vs.map some) (args.map some)) B H B' H' → Sub B' H' → Outs K mg B' H' vs args os → Sm K mg σ0 B' H' σ env' ∧ OSub env env' := by
  obtain ⟨hl, hg⟩ := slots_of sm r hs
  have mapE : ∀ {α : Type} {l : List α} {i : Nat} {x : α}, (l.map some)[i]? = some (some x) → l[i]? = some x := fun {α l i x} h => by
    rw [List.getElem?_map] at h
    cases e : l[i]? with
    | none => rw [e] at h; cases h
    | some y => rw [e] at h; cases h; rfl
  have ow : ∀ a, Owned (vs.map some) (args.map some) a → ∃ (i j : Nat) (p' : Bool) (d : D), as[i]? = some (Ar.io j) ∧ σ[j]? = some (some (V.ref a)) ∧ env[j]? = some (some (Slot.own p' d)) := fun a ⟨i, p, d, e, rr⟩ => by
    obtain ⟨v, e1, hp, j, a', p', e2, e3, e4, e5, _⟩ := hg i _ (mapE e)
    have := mapE rr
    rw [e1] at this
    cases this
    exact ⟨i, j, p', d, e2, e4, e5⟩
  have ow2 : ∀ a, Owned (vs.map some) (args.map some) a → Owned σ env a := fun a h => by
    obtain ⟨i, j, p', d, _, e4, e5⟩ := ow a h
    exact ⟨j, p', d, e5, e4⟩
  refine ⟨⟨sm.tb, sm.sub, by simp [hl], fun i s e => ?_, fun i i' p d p' d' a e1 e2 r1 r2 => ?_⟩, fun p d hm => ?_, ow2, fun os env' hp B' H' stp sub outs => ?_⟩
  · obtain ⟨v, e1, h⟩ := hg i s (mapE e)
    refine ⟨v, by rw [List.getElem?_map, e1]; rfl, ?_⟩
    cases s with
    | shr d => exact h
    | own p d =>
      obtain ⟨hp, j, a, p', e2, rfl, e4, e5, c, hb⟩ := h
      exact ⟨a, rfl, c, hb, fun _ => by rw [List.getElem?_map, e1]; rfl⟩
  · obtain ⟨v1, f1, _, j1, a1, q1, g1, h1, k1, l1, _⟩ := hg i _ (mapE e1)
    obtain ⟨v2, f2, _, j2, a2, q2, g2, h2, k2, l2, _⟩ := hg i' _ (mapE e2)
    have z1 := mapE r1
    have z2 := mapE r2
    rw [f1] at z1; rw [f2] at z2
    cases z1; cases z2
    have hj : j1 = j2 := sm.sep j1 j2 _ _ _ _ a l1 l2 k1 k2
    subst hj
    exact io_inj hn g1 g2
  · obtain ⟨i, e⟩ := List.getElem?_of_mem hm
    obtain ⟨v, _, hp, _⟩ := hg i _ e
    exact hp
  · obtain ⟨hl', hput⟩ := put_spec r hs outs hp
    refine ⟨⟨fun P hP => ⟨stp.tab (sm.tb P hP).1 fun z => sm.tab_no hP (ow2 P z), tab_none (sm.tb P hP).1 (sm.tb P hP).2 (stp.new P) sub (stp.tab (sm.tb P hP).1 fun z => sm.tab_no hP (ow2 P z))⟩, sub, by rw [hl']; exact sm.len, fun j s e => ?_, fun j k p d p' d' a e1 e2 r1 r2 => ?_⟩, fun j p d e => ?_⟩
    · rcases hput j s e with ⟨hni, e0⟩ | ⟨p, d0, d, rfl, e0, a, e1, c, hb⟩
      · obtain ⟨v, e1, rr⟩ := sm.sl j s e0
        refine ⟨v, e1, ?_⟩
        cases s with
        | shr d => exact Rep.mono stp.grow rr
        | own p d =>
          obtain ⟨a, rfl, c, hb, hpin⟩ := rr
          have no : ¬ Owned (vs.map some) (args.map some) a := fun z => by
            obtain ⟨i, j', p', d', g1, g2, g3⟩ := ow a z
            have : j' = j := sm.sep j' j _ _ _ _ a g3 e0 g2 e1
            subst this
            exact hni (io_mem g1)
          obtain ⟨o, ho, hk, nt⟩ := c.kind3
          obtain ⟨k1, k2⟩ := stp.frameO sub hb ho hk no nt
          exact ⟨a, rfl, c.mono stp.grow (by rw [ho]; exact k1), k2, hpin⟩
      · obtain ⟨v, e2, a', rfl, c', hb', hpin⟩ := sm.sl j _ e0
        rw [e1] at e2
        cases e2
        exact ⟨.ref a, e1, a, rfl, c, hb, hpin⟩
    · have g : ∀ (j : Nat) (p : Bool) (d : D), env'[j]? = some (some (Slot.own p d)) → ∃ d0, env[j]? = some (some (Slot.own p d0)) := fun j p d e => by
        rcases hput j _ e with ⟨_, e0⟩ | ⟨p', d0, d', z, e0, _⟩
        · exact ⟨d, e0⟩
        · cases z; exact ⟨d0, e0⟩
      obtain ⟨d3, e3⟩ := g j p d e1
      obtain ⟨d4, e4⟩ := g k p' d' e2
      exact sm.sep j k p d3 p' d4 a e3 e4 r1 r2
    · rcases hput j _ e with ⟨_, e0⟩ | ⟨p', d0, d', z, e0, _⟩
      · exact ⟨d, e0⟩
      · cases z; exact ⟨d0, e0⟩
theorem Ars.length {σ : L2.St} {B : Hp} : ∀ {vs : List V} {as : List Ar}, Ars K mg σ B vs as → vs.length = as.length
  | _, _, .nil => rfl
  | _, _, .sh _ s => by simp [Ars.length s]
  | _, _, .io _ s => by simp [Ars.length s]
/-- what is raised in a def's body at E, in a try at W -/
theorem rx_call {np : Nat} {mf : List Slot → Fin} {E : L2.St → XK} (hE : ∀ σ cls d H, W cls d σ H → E σ cls d H) (h : RX K mg W (RAr K mg) tr mr) :
    RX K mg W (RD K mg) (tCallS (SpM K mg np mf) E tr) (eCall np mf mr) := by
  refine h.bind (t2 := fun vs σ H1 Q => SpM K mg np mf vs H1 Q (E σ)) fun vs as σ0 B H σ env sm r Q post => ?_
  by_cases hc : as.length = np ∧ (ioIx as).Nodup
  · rw [if_pos hc] at post
    cases es : slotsOf env as with
    | none => simp only [es] at post; exact post.elim
    | some args =>
      simp only [es] at post
      obtain ⟨sm', hpin, hown, hafter⟩ := call_core sm r es hc.2
      refine ⟨(Ars.length r).trans hc.1, B, args, sm', hpin, ?_⟩
      cases em : mf args with
      | stuck => simp only [em] at post; exact post.elim
      | ret b d os =>
        cases b with
        | true => simp only [em] at post; exact post.elim
        | false =>
          simp only [em] at post
          cases ep : putOuts as os env with
          | none => simp only [ep] at post; exact post.elim
          | some env' =>
            simp only [ep] at post
            intro v B' H' stp sub outs rep
            obtain ⟨sm2, os2⟩ := hafter os env' ep B' H' stp sub outs
            exact post v B' H' (stp.mono hown) sm2 os2 rep
      | exn x os =>
        simp only [em] at post
        cases ep : putOuts as os env with
        | none => simp only [ep] at post; exact post.elim
        | some env' =>
          simp only [ep] at post
          intro cls d B' H' stp sub outs ex
          obtain ⟨sm2, os2⟩ := hafter os env' ep B' H' stp sub outs
          exact hE _ _ _ _ (post cls d B' H' (stp.mono hown) sm2 os2 ex)
  · rw [if_neg hc] at post; exact post.elim
theorem rn_call {np : Nat} {mf : List Slot → Fin} {E : L2.St → XK} (hE : ∀ σ cls d H, W cls d σ H → E σ cls d H) (h : RX K mg W (RAr K mg) tr mr) :
    RN K mg W (tCallS (SpM K mg np mf) E tr) (eCallN np mf mr) := by
  intro σ0 B0 H0 σ env0 sm0 Q post0
  refine h.goN sm0 post0 fun vs as B H env sm g r post => ?_
  show SpM K mg np mf vs H Q (E σ)
  by_cases hc : as.length = np ∧ (ioIx as).Nodup
  · rw [if_pos hc] at post
    cases es : slotsOf env as with
    | none => simp only [es] at post; exact post.elim
    | some args =>
      simp only [es] at post
      obtain ⟨sm', hpin, hown, hafter⟩ := call_core sm r es hc.2
      refine ⟨(Ars.length r).trans hc.1, B, args, sm', hpin, ?_⟩
      cases em : mf args with
      | stuck => simp only [em] at post; exact post.elim
      | ret b d os =>
        cases b with
        | false => simp only [em] at post; exact post.elim
        | true =>
          simp only [em] at post
          cases ep : putOuts as os env with
          | none => simp only [ep] at post; exact post.elim
          | some env' =>
            simp only [ep] at post
            intro a B' H' stp sub outs c hb hn
            obtain ⟨sm2, os2⟩ := hafter os env' ep B' H' stp sub outs
            exact post a B' H' (stp.mono hown) sm2 os2 c hb hn
      | exn x os =>
        simp only [em] at post
        cases ep : putOuts as os env with
        | none => simp only [ep] at post; exact post.elim
        | some env' =>
          simp only [ep] at post
          intro cls d B' H' stp sub outs ex
          obtain ⟨sm2, os2⟩ := hafter os env' ep B' H' stp sub outs
          exact hE _ _ _ _ (post cls d B' H' (stp.mono hown) sm2 os2 ex)
  · rw [if_neg hc] at post; exact post.elim
section
variable {k : Nat} {f : Addr} {fd : FuncData} {ps : List Str} {x : Str} {p : Pos} {np : Nat} {mf : List Slot → Fin}
theorem se_call (F : FnOk X.prog X.w X.K X.mg X.base (L2.CX X.prog X.w) k f fd ps (SpM X.K X.mg np mf)) (hr : Room k X.A) (hm : X.mg x = some (.ref f)) (hk : PySem.W.keepIn X.K (.ref f) = true) (hb : Binds X.K fd ps []) (tk : Takes X W)
    (ha : SAr X W (e :: es) tr mr) (hg : Gl X x := by rfl) (hdb : (x == ("__debug__" : Str)) = false := by decide) (he : starEach (e :: es) X.env = (false, eval e X.env) :: starEach es X.env := by rfl) (hpl : (backTo pos (starEach es X.env)).any (·.1) = false := by rfl) :
    SE X W (.Call (.Name x p) (e :: es) [] pos) (tCallS (SpM X.K X.mg np mf) (WE W) tr) (eCall np mf mr) :=
  ⟨pe_callS F hr hg hm hk hb (fun σ => passAt tk σ) ha.pa hdb he hpl, rx_call (fun _ _ _ _ h => h) ha.rx⟩
theorem sn_call (F : FnOk X.prog X.w X.K X.mg X.base (L2.CX X.prog X.w) k f fd ps (SpM X.K X.mg np mf)) (hr : Room k X.A) (hm : X.mg x = some (.ref f)) (hk : PySem.W.keepIn X.K (.ref f) = true) (hb : Binds X.K fd ps []) (tk : Takes X W)
    (ha : SAr X W (e :: es) tr mr) (hg : Gl X x := by rfl) (hdb : (x == ("__debug__" : Str)) = false := by decide) (he : starEach (e :: es) X.env = (false, eval e X.env) :: starEach es X.env := by rfl) (hpl : (backTo pos (starEach es X.env)).any (·.1) = false := by rfl) :
    SN X W (.Call (.Name x p) (e :: es) [] pos) (tCallS (SpM X.K X.mg np mf) (WE W) tr) (eCallN np mf mr) :=
  ⟨pe_callS F hr hg hm hk hb (fun σ => passAt tk σ) ha.pa hdb he hpl, rn_call (fun _ _ _ _ h => h) ha.rx⟩
end
end
end Mi

/-! The mirror layer 9: list comprehensions. -/
namespace Mi
open PySem L2
variable [Tabs]

def wipeE (env : En) : List Nat → En
  | [] => env
  | v :: vs => (wipeE env vs).set v none
/-- the slots vs as they were, if shared -/
def backE (env0 env : En) : List Nat → En
  | [] => env
  | v :: vs => (backE env0 env vs).set v (match env0[v]? with
    | some (some (.shr d)) => some (.shr d)
    | _ => none)
def lcL (g : D → En → Option En) (t : M Bool) (m : M D) (vs : List Nat) : List D → M (List D)
  | [], env => .ok [] env
  | x :: xs, env => match g x env with
    | none => .stuck
    | some env1 => match t env1 with
      | .ok false env2 => lcL g t m vs xs (wipeE env2 vs)
      | .ok true env2 => match m env2 with
        | .ok d env3 => match lcL g t m vs xs (wipeE env3 vs) with
          | .ok ds env4 => .ok (d :: ds) env4
          | _ => .stuck
        | _ => .stuck
      | _ => .stuck
def eLc (mi : M (List D)) (g : D → En → Option En) (t : M Bool) (m : M D) (vs : List Nat) : M D := mi.bind fun ds env => if ds.length ≤ 16777216 then match lcL g t m vs ds (wipeE env vs) with
    | .ok ys env' => .ok (.lst ys) (backE env env' vs)
    | _ => .stuck
  else .stuck
def W0 : WX := fun _ _ _ _ => False

section
variable {K : PySem.W.Frag} {mg : Str → Option Value} {σ0 σ : L2.St} {B H : Hp} {env : En}
theorem Sm.wipe (m : Sm K mg σ0 B H σ env) : ∀ vs : List Nat, Sm K mg σ0 B H (L2.wipe σ vs) (wipeE env vs)
  | [] => m
  | v :: vs => (Sm.wipe m vs).setNone v none
theorem wipeE_length (env : En) : ∀ vs : List Nat, (wipeE env vs).length = env.length
  | [] => rfl
  | v :: vs => by unfold wipeE; rw [List.length_set, wipeE_length env vs]
theorem wipeE_own {vs : List Nat} {i : Nat} {s : Slot} (h : (wipeE env vs)[i]? = some (some s)) : env[i]? = some (some s) ∧ i ∉ vs := by
  induction vs with
  | nil => exact ⟨h, by simp⟩
  | cons v vs ih =>
    unfold wipeE at h
    rcases get_set h with ⟨_, z, _⟩ | ⟨ne, e⟩
    · cases z
    · obtain ⟨h1, h2⟩ := ih e
      exact ⟨h1, fun z => by
        rcases List.mem_cons.mp z with z | z
        · exact ne z.symm
        · exact h2 z⟩
theorem wipe_get_ne {vs : List Nat} {i : Nat} (h : i ∉ vs) : (L2.wipe σ vs)[i]? = σ[i]? := by
  induction vs with
  | nil => rfl
  | cons v vs ih =>
    unfold L2.wipe
    rw [List.getElem?_set_ne (fun e => h (by rw [e]; exact List.mem_cons_self))]
    exact ih fun z => h (List.mem_cons_of_mem _ z)
theorem wipe_get_mem {vs : List Nat} {i : Nat} (h : i ∈ vs) (hl : i < σ.length) : (L2.wipe σ vs)[i]? = some none := by
  induction vs with
  | nil => cases h
  | cons v vs ih =>
    unfold L2.wipe
    by_cases e : v = i
    · subst e
      exact List.getElem?_set_self (by rw [wipe_length]; exact hl)
    · rw [List.getElem?_set_ne e]
      rcases List.mem_cons.mp h with z | z
      · exact (e z.symm).elim
      · exact ih z
/-- the target stored within the block: wiped it is what it was -/
theorem wipe_touch {σ' : L2.St} {T vs : List Nat} (hT : ∀ i ∈ T, i ∈ vs) (hl : σ'.length = σ.length) (h : ∀ i, i ∉ T → σ'[i]? = (L2.wipe σ vs)[i]?) : L2.wipe σ' vs = L2.wipe σ vs := by
  apply List.ext_getElem?
  intro i
  by_cases hv : i ∈ vs
  · by_cases hi : i < σ.length
    · rw [wipe_get_mem hv hi, wipe_get_mem hv (by rw [hl]; exact hi)]
    · rw [List.getElem?_eq_none (by rw [wipe_length]; omega), List.getElem?_eq_none (by rw [wipe_length]; omega)]
  · rw [wipe_get_ne hv, h i fun z => hv (hT i z)]
theorem wipe_wipe {vs : List Nat} : L2.wipe (L2.wipe σ vs) vs = L2.wipe σ vs := by
  apply List.ext_getElem?
  intro i
  by_cases hv : i ∈ vs
  · by_cases hi : i < σ.length
    · rw [wipe_get_mem hv hi, wipe_get_mem hv (by rw [wipe_length]; exact hi)]
    · rw [List.getElem?_eq_none (by rw [wipe_length, wipe_length]; omega), List.getElem?_eq_none (by rw [wipe_length]; omega)]
  · rw [wipe_get_ne hv]
theorem backE_length (env0 env : En) : ∀ vs : List Nat, (backE env0 env vs).length = env.length
  | [] => rfl
  | v :: vs => by unfold backE; rw [List.length_set, backE_length env0 env vs]
theorem backE_get {env0 env : En} {vs : List Nat} {i : Nat} {s : Slot} (h : (backE env0 env vs)[i]? = some (some s)) : (i ∉ vs ∧ env[i]? = some (some s)) ∨ (i ∈ vs ∧ env0[i]? = some (some s) ∧ ∃ d, s = .shr d) := by
  induction vs with
  | nil => exact .inl ⟨by simp, h⟩
  | cons v vs ih =>
    unfold backE at h
    rcases get_set h with ⟨rfl, z, _⟩ | ⟨ne, e⟩
    · refine .inr ⟨List.mem_cons_self, ?_⟩
      cases e0 : env0[v]? with
      | none => rw [e0] at z; cases z
      | some s0 =>
        rw [e0] at z
        match s0, e0, z with
        | some (.shr d), e0, z => cases z; exact ⟨rfl, d, rfl⟩
        | some (.own _ _), e0, z => cases z
        | none, e0, z => cases z
    · rcases ih e with ⟨h1, h2⟩ | ⟨h1, h2, h3⟩
      · exact .inl ⟨fun z => by
          rcases List.mem_cons.mp z with z | z
          · exact ne z.symm
          · exact h1 z, h2⟩
      · exact .inr ⟨List.mem_cons_of_mem _ h1, h2, h3⟩
theorem wipe_owned {vs : List Nat} {a : Addr} (h : Owned (L2.wipe σ vs) (wipeE env vs) a) : Owned σ env a := by
  obtain ⟨i, p, d, e, r⟩ := h
  obtain ⟨e1, hv⟩ := wipeE_own e
  exact ⟨i, p, d, e1, by rw [← wipe_get_ne hv]; exact r⟩
/-- behind the block -/
theorem Sm.back {vs : List Nat} {B' H' : Hp} {env' : En} (m0 : Sm K mg σ0 B H σ env) (m : Sm K mg σ0 B' H' (L2.wipe σ vs) env') (g : Same B B') (o : OSub (wipeE env vs) env') :
    Sm K mg σ0 B' H' σ (backE env env' vs) ∧ OSub env (backE env env' vs) := by
  refine ⟨⟨m.tb, m.sub, by rw [backE_length, ← m.len, wipe_length], fun i s e => ?_, fun i j p d p' d' a e1 e2 r1 r2 => ?_⟩, fun i p d e => ?_⟩
  · rcases backE_get e with ⟨h1, h2⟩ | ⟨h1, h2, d, rfl⟩
    · obtain ⟨v, e1, r⟩ := m.sl i s h2
      exact ⟨v, by rw [← wipe_get_ne h1]; exact e1, r⟩
    · obtain ⟨v, e1, r⟩ := m0.sl i _ h2
      exact ⟨v, e1, Rep.mono g r⟩
  · rcases backE_get e1 with ⟨h1, h2⟩ | ⟨h1, h2, d, z⟩
    · rcases backE_get e2 with ⟨h3, h4⟩ | ⟨_, _, _, z⟩
      · exact m.sep i j p d p' d' a h2 h4 (by rw [wipe_get_ne h1]; exact r1) (by rw [wipe_get_ne h3]; exact r2)
      · cases z
    · cases z
  · rcases backE_get e with ⟨h1, h2⟩ | ⟨h1, h2, d, z⟩
    · obtain ⟨d0, e0⟩ := o i p d h2
      exact ⟨d0, (wipeE_own e0).1⟩
    · cases z
end
section
variable {K : PySem.W.Frag} {mg : Str → Option Value} {W : WX} {wi : TI} {mi : M (List D)} {T vs : List Nat} {g : TG} {gm : D → En → Option En} {tt : TT} {mt : M Bool} {te : TE} {me : M D}
theorem Stp.atD {O : Addr → Prop} {B H B' H' : Hp} {p : Addr} {o : HO} (s : Stp O B H B' H') (hp : H p = none) : Stp O B H B' (upd H' p o) :=
  ⟨s.grow, s.new, fun a u h n => (s.frame a u h n).to (fun _ q => q) fun _ q => by rw [upd_ne (ne_of_none h hp)]; exact q, fun a u h => by rw [upd_ne (ne_of_none h hp)]; exact s.there a u h, fun a ob u h => by rw [upd_ne (ne_of_none h hp)]; exact s.lk a ob u h⟩
/-- an object that no slot holds changes -/
theorem Sm.atD {σ0 σ : L2.St} {B H : Hp} {env : En} {p : Addr} {o : HO} (m : Sm K mg σ0 B H σ env) (hb : B p = none) (hn : ¬ Owned σ env p) (ht : ∀ ps, H p ≠ some (.tbl ps)) : Sm K mg σ0 B (upd H p o) σ env where
  tb := fun P hP => ⟨TabG.upd (m.tb P hP).1 fun e => by
    obtain ⟨ps, q, _⟩ := (m.tb P hP).1
    rw [e] at q
    exact ht ps q, (m.tb P hP).2⟩
  sub := fun a u h => by rw [upd_ne (ne_of_none h hb)]; exact m.sub a u h
  len := m.len
  sl := fun i s e => by
    obtain ⟨v, e1, r⟩ := m.sl i s e
    refine ⟨v, e1, ?_⟩
    cases s with
    | shr d => exact r
    | own q d =>
      obtain ⟨a, rfl, c, hx, hp⟩ := r
      refine ⟨a, rfl, c.mono (Same.refl _) (upd_ne fun z => ?_), hx, hp⟩
      subst z
      exact hn ⟨i, q, d, e, e1⟩
  sep := m.sep
theorem rn_lc (hi : RI K mg W wi mi) (hg : RG K mg T g gm) (hT : ∀ i ∈ T, i ∈ vs) (ht : RX K mg W0 RB tt mt) (he : RX K mg W0 (RD K mg) te me) : RN K mg W (tLc wi g tt te vs) (eLc mi gm mt me vs) := by
  intro σ0 B H σ env sm Q post
  have hz : sizeLine = 16777216 := sizeLine_eq
  refine hi.goN sm post fun J ds B1 H1 env1 sm1 _ r1 post1 => ?_
  by_cases hds : ds.length ≤ 16777216
  · rw [if_pos hds] at post1
    cases el : lcL gm mt me vs ds (wipeE env1 vs) with
    | stuck => rw [el] at post1; exact post1.elim
    | exn x e => rw [el] at post1; exact post1.elim
    | ok total envF =>
      rw [el] at post1
      intro Dl hD
      have hB1 : B1 Dl = none := sm1.sub.none hD
      have hno : ∀ a, Owned σ env1 a → a ≠ Dl := fun a h z => by
        subst z
        obtain ⟨⟨o, ho⟩, _⟩ := sm1.own_there h
        rw [hD] at ho; cases ho
      have hnw : ∀ {env' : En} {a : Addr}, OSub (wipeE env1 vs) env' → Owned (L2.wipe σ vs) env' a → Owned σ env1 a := fun o h => wipe_owned (o.owned h)
      refine ⟨fun i m H' => m = ds.length - i ∧ i ≤ ds.length ∧ ∃ B' env' vacc acc ys, Sm K mg σ0 B' H' (L2.wipe σ vs) env' ∧ Stp (Owned σ env1) B1 H1 B' H' ∧ OSub (wipeE env1 vs) env' ∧ H' Dl = some (.lst vacc) ∧ Reps K mg B' vacc acc ∧ acc.length ≤ i ∧ B' Dl = none ∧
        lcL gm mt me vs (ds.drop i) env' = .ok ys envF ∧ total = acc ++ ys, ⟨ds.length, by omega, by omega, B1, wipeE env1 vs, [], [], total,
          (sm1.wipe vs).atD hB1 (fun z => hno _ (wipe_owned z) rfl) (fun _ z => by rw [hD] at z; cases z), Stp.refl.atD hD, OSub.refl _, upd_same, .nil, by simp, hB1, el, rfl⟩, ?_⟩
      rintro i m H' ⟨rfl, hil, B', env', vacc, acc, ys, smw, stp, os, hDl, racc, hacc, hBD, hlc, htot⟩
      obtain ⟨hstop, hgo⟩ := r1 B' H' stp.grow smw.sub stp.lk
      have nown : ∀ {e : En}, OSub (wipeE env1 vs) e → ¬ Owned (L2.wipe σ vs) e Dl := fun o z => hno _ (hnw o z) rfl
      by_cases hlt : i < ds.length
      · refine .inr ?_
        have hd : ds[i]? = some ds[i] := List.getElem?_eq_getElem hlt
        obtain ⟨go, yl⟩ := hgo i _ hd
        refine ⟨go, fun H2 => i + 1 ≤ ds.length ∧ ∃ B' env' vacc acc ys, Sm K mg σ0 B' H2 (L2.wipe σ vs) env' ∧ Stp (Owned σ env1) B1 H1 B' H2 ∧ OSub (wipeE env1 vs) env' ∧ H2 Dl = some (.lst vacc) ∧ Reps K mg B' vacc acc ∧ acc.length ≤ i + 1 ∧ B' Dl = none ∧
          lcL gm mt me vs (ds.drop (i + 1)) env' = .ok ys envF ∧ total = acc ++ ys, fun H2 ⟨h1, h2⟩ => ⟨ds.length - (i + 1), by omega, rfl, h1, h2⟩, fun x H2 hy => ?_⟩
        obtain ⟨B2, al, rx⟩ := yl x H2 hy
        have sm2 := smw.alloc al.g al.n al.s al.sb
        have stp2 : Stp (Owned σ env1) B1 H1 B2 H2 := stp.trans (Stp.alloc al.g al.n al.s) fun _ z => z
        have hD2 : H2 Dl = some (.lst vacc) := al.s _ _ hDl
        have hB2 : B2 Dl = none := by
          cases q : B2 Dl with
          | none => rfl
          | some u =>
            rcases al.n _ _ q with z | z | z
            · rw [hBD] at z; cases z
            · rw [hDl] at z; cases z
            · exact (no_tup al.sb hD2 (fun _ z => by cases z) q z).elim
        have racc2 := racc.mono al.g
        rw [List.drop_eq_getElem_cons hlt] at hlc
        unfold lcL at hlc
        refine hg σ0 B2 H2 (L2.wipe σ vs) env' x _ sm2 rx _ ?_
        cases eg : gm ds[i] env' with
        | none => rw [eg] at hlc; cases hlc
        | some env2 =>
          rw [eg] at hlc
          intro σ2 smg keep touch
          have hw : L2.wipe σ2 vs = L2.wipe σ vs := wipe_touch hT (touch.1.trans (wipe_length _ _)) touch.2
          refine ⟨hw, ?_⟩
          have kow : ∀ {a : Addr}, Owned σ2 env2 a → Owned σ env1 a := fun z => hnw os (keep.owned z)
          have hlc : (match mt env2 with
            | .ok false env2 => lcL gm mt me vs (ds.drop (i + 1)) (wipeE env2 vs)
            | .ok true env2 => match me env2 with
              | .ok d env3 => match lcL gm mt me vs (ds.drop (i + 1)) (wipeE env3 vs) with
                | .ok ds env4 => Res.ok (d :: ds) env4
                | _ => Res.stuck
              | _ => Res.stuck
            | _ => Res.stuck) = Res.ok ys envF := hlc
          refine ht σ0 B2 H2 σ2 env2 smg _ ?_
          cases et : mt env2 with
          | stuck => rw [et] at hlc; cases hlc
          | exn x e => rw [et] at hlc; cases hlc
          | ok b env3 =>
            rw [et] at hlc
            intro b' B3 H3 s3 sm3 o3 r3
            have e : b' = b := r3
            subst e
            have stp3 : Stp (Owned σ env1) B1 H1 B3 H3 := stp2.trans s3 fun _ z => kow z
            have hD3 : H3 Dl = some (.lst vacc) := s3.frameN hD2 (fun z => z) fun z => hno _ (kow z) rfl
            have hB3 : B3 Dl = none := by
              cases q : B3 Dl with
              | none => rfl
              | some u =>
                rcases s3.new _ _ q with z | z | z
                · rw [hB2] at z; cases z
                · rw [hD2] at z; cases z
                · exact (no_tup sm3.sub hD3 (fun _ z => by cases z) q z).elim
            have racc3 := racc2.mono s3.grow
            have k3 : Keep (L2.wipe σ vs) env' σ2 env3 := keep.trans o3.keep
            have next : ∀ {B4 H4 : Hp} {env4 : En}, Sm K mg σ0 B4 H4 σ2 env4 → Keep (L2.wipe σ vs) env' σ2 env4 → Sm K mg σ0 B4 H4 (L2.wipe σ vs) (wipeE env4 vs) ∧ OSub (wipeE env1 vs) (wipeE env4 vs) := fun {B4 H4 env4} m k => by
              refine ⟨by rw [← hw]; exact m.wipe vs, fun j p d e => ?_⟩
              obtain ⟨e1, _⟩ := wipeE_own e
              obtain ⟨d1, e2, _⟩ := k j p d e1
              exact os j p d1 e2
            cases b' with
            | false =>
              show _ ∧ _
              obtain ⟨n1, n2⟩ := next sm3 k3
              exact ⟨by omega, B3, wipeE env3 vs, vacc, acc, ys, n1, stp3, n2, hD3, racc3, by omega, hB3, hlc, htot⟩
            | true =>
              show te σ2 H3 _
              refine he σ0 B3 H3 σ2 env3 sm3 _ ?_
              have hlc : (match me env3 with
                | .ok d env3 => match lcL gm mt me vs (ds.drop (i + 1)) (wipeE env3 vs) with
                  | .ok ds env4 => Res.ok (d :: ds) env4
                  | _ => Res.stuck
                | _ => Res.stuck) = Res.ok ys envF := hlc
              cases ee : me env3 with
              | stuck => rw [ee] at hlc; cases hlc
              | exn x e => rw [ee] at hlc; cases hlc
              | ok d env4 =>
                rw [ee] at hlc
                intro y B4 H4 s4 sm4 o4 r4
                have hlc : (match lcL gm mt me vs (ds.drop (i + 1)) (wipeE env4 vs) with
                  | .ok ds env4 => Res.ok (d :: ds) env4
                  | _ => Res.stuck) = Res.ok ys envF := hlc
                cases er : lcL gm mt me vs (ds.drop (i + 1)) (wipeE env4 vs) with
                | stuck => rw [er] at hlc; cases hlc
                | exn x e => rw [er] at hlc; cases hlc
                | ok ys' envF' =>
                  rw [er] at hlc
                  cases hlc
                  have kow3 : ∀ {a : Addr}, Owned σ2 env3 a → Owned σ env1 a := fun z => hnw os (k3.owned z)
                  have stp4 : Stp (Owned σ env1) B1 H1 B4 H4 := stp3.trans s4 fun _ z => kow3 z
                  have hD4 : H4 Dl = some (.lst vacc) := s4.frameN hD3 (fun z => z) fun z => hno _ (kow3 z) rfl
                  have hB4 : B4 Dl = none := by
                    cases q : B4 Dl with
                    | none => rfl
                    | some u =>
                      rcases s4.new _ _ q with z | z | z
                      · rw [hB3] at z; cases z
                      · rw [hD3] at z; cases z
                      · exact (no_tup sm4.sub hD4 (fun _ z => by cases z) q z).elim
                  have racc4 := racc3.mono s4.grow
                  have k4 : Keep (L2.wipe σ vs) env' σ2 env4 := k3.trans o4.keep
                  refine ⟨vacc, hD4, by rw [racc4.length]; omega, by omega, B4, wipeE env4 vs, vacc ++ [y], acc ++ [d], ys', ?_, stp4.atD hD, (next sm4 k4).2, upd_same, racc4.append (.cons r4 .nil), by rw [List.length_append]; show acc.length + 1 ≤ i + 1; omega, hB4, er, by rw [htot, List.append_assoc]; rfl⟩
                  refine Sm.atD (next sm4 k4).1 hB4 (ht := fun _ z => by rw [hD4] at z; cases z) fun z => ?_
                  exact hno _ (hnw (next sm4 k4).2 z) rfl
      · have e : i = ds.length := by omega
        subst e
        rw [List.drop_length] at hlc
        cases hlc
        rw [List.append_nil] at htot
        subst htot
        obtain ⟨smb, osb⟩ := sm1.back smw stp.grow os
        exact .inl ⟨hstop, post1 Dl B' H' stp smb osb (.lst hDl racc) hBD hD⟩
  · rw [if_neg hds] at post1; exact post1.elim
end
section
variable {X : Cx} {W : WX} {vs : List Nat} {elt tg iter c : Expr} {ifs : List Expr} {scope : Scope} {own : List (Str × Nat)} {pos spos : Pos} {wi : TI} {mi : M (List D)} {T : List Nat} {g : TG} {gm : D → En → Option En} {tt : TT} {mt : M Bool} {te : TE} {me : M D}
structure STs (X : Cx) (W : WX) (ifs : List Expr) (tt : TT) (m : M Bool) : Prop where
  pt : PTs X ifs tt
  rx : RX X.K X.mg W RB tt m
theorem sts_nil : STs X W [] tYes (M.pure true) := ⟨pts_nil, fun σ0 B H σ env sm Q post => post.val sm rfl⟩
theorem sts_one (h : ST X W c tt mt) : STs X W [c] tt mt := ⟨pts_one h.pt, h.rx⟩
theorem sn_lc (hc : X.calm = true) (hN : X.N.Nodup) (hi : SI X W tg iter wi mi) (ok : BlkOk X.N X.env.scope scope own)
    {fg : Shared → Hp → Addr → List (Str × Addr) → List Addr → TG} {ft : Shared → Hp → Addr → List (Str × Addr) → List Addr → TT} {fe : Shared → Hp → Addr → List (Str × Addr) → List Addr → TE} (hg : ∀ (s : Shared) (H : Hp) (C : Addr) (cl : List (Str × Addr)) (fp : List Addr), SG (X.blk s H scope (compEnvC scope cl C X.env) fp) tg T (fg s H C cl fp) gm) (ht : ∀ (s : Shared) (H : Hp) (C : Addr) (cl : List (Str × Addr)) (fp : List Addr), STs (X.blk s H scope (compEnvC scope cl C X.env) fp) W0 ifs (ft s H C cl fp) mt)
    (he : ∀ (s : Shared) (H : Hp) (C : Addr) (cl : List (Str × Addr)) (fp : List Addr), SE (X.blk s H scope (compEnvC scope cl C X.env) fp) W0 elt (fe s H C cl fp) me) (hT : ∀ i ∈ T, i ∈ vs) (hs : ∀ x, foldedSetIterable iter X.env x = pure x := by intro _; rfl) (hvs : own.map (·.2) = vs := by rfl)
    (hfg : ∀ (s : Shared) (H : Hp) (C : Addr) (cl : List (Str × Addr)) (fp : List Addr), fg s H C cl fp = fg X.s_0 X.H_0 0 [] [] := by intros; rfl) (hft : ∀ (s : Shared) (H : Hp) (C : Addr) (cl : List (Str × Addr)) (fp : List Addr), ft s H C cl fp = ft X.s_0 X.H_0 0 [] [] := by intros; rfl) (hfe : ∀ (s : Shared) (H : Hp) (C : Addr) (cl : List (Str × Addr)) (fp : List Addr), fe s H C cl fp = fe X.s_0 X.H_0 0 [] [] := by intros; rfl) :
    SN X W (.ListComp elt [⟨tg, iter, ifs, 0⟩] scope pos) (tLc wi (fg X.s_0 X.H_0 0 [] []) (ft X.s_0 X.H_0 0 [] []) (fe X.s_0 X.H_0 0 [] []) vs) (eLc mi gm mt me vs) := by
  subst hvs
  exact ⟨pe_lc hc hN hi.pi ok (fun s H C cl fp => by rw [← hfg s H C cl fp]; exact (hg s H C cl fp).pg) (fun s H C cl fp => by rw [← hft s H C cl fp]; exact (ht s H C cl fp).pt) (fun s H C cl fp => by rw [← hfe s H C cl fp]; exact (he s H C cl fp).pe) hs,
    rn_lc hi.rx (hg X.s_0 X.H_0 0 [] []).rg hT (ht X.s_0 X.H_0 0 [] []).rx (he X.s_0 X.H_0 0 [] []).rx⟩
/-- y = [..] on one line -/
theorem ss_setLcN {i : Nat} {y : Str} {py : Pos} (hc : X.calm = true) (hN : X.N.Nodup) (hy : X.N[i]? = some y) (hyl : X.env.scope.names.lookup y = some .local)
    (hsw : swapsWith (.ListComp elt [⟨tg, iter, ifs, 0⟩] scope pos) (some (.Name y py)) spos.line X.env = pure true) (hi : SI X W tg iter wi mi) (ok : BlkOk X.N X.env.scope scope own)
    {fg : Shared → Hp → Addr → List (Str × Addr) → List Addr → TG} {ft : Shared → Hp → Addr → List (Str × Addr) → List Addr → TT} {fe : Shared → Hp → Addr → List (Str × Addr) → List Addr → TE} (hg : ∀ (s : Shared) (H : Hp) (C : Addr) (cl : List (Str × Addr)) (fp : List Addr), SG (X.blk s H scope (compEnvC scope cl C X.env) fp) tg T (fg s H C cl fp) gm) (ht : ∀ (s : Shared) (H : Hp) (C : Addr) (cl : List (Str × Addr)) (fp : List Addr), STs (X.blk s H scope (compEnvC scope cl C X.env) fp) W0 ifs (ft s H C cl fp) mt)
    (he : ∀ (s : Shared) (H : Hp) (C : Addr) (cl : List (Str × Addr)) (fp : List Addr), SE (X.blk s H scope (compEnvC scope cl C X.env) fp) W0 elt (fe s H C cl fp) me) (hT : ∀ i ∈ T, i ∈ vs) (hs : ∀ x, foldedSetIterable iter X.env x = pure x := by intro _; rfl) (hvs : own.map (·.2) = vs := by rfl)
    (hfg : ∀ (s : Shared) (H : Hp) (C : Addr) (cl : List (Str × Addr)) (fp : List Addr), fg s H C cl fp = fg X.s_0 X.H_0 0 [] [] := by intros; rfl) (hft : ∀ (s : Shared) (H : Hp) (C : Addr) (cl : List (Str × Addr)) (fp : List Addr), ft s H C cl fp = ft X.s_0 X.H_0 0 [] [] := by intros; rfl) (hfe : ∀ (s : Shared) (H : Hp) (C : Addr) (cl : List (Str × Addr)) (fp : List Addr), fe s H C cl fp = fe X.s_0 X.H_0 0 [] [] := by intros; rfl) :
    SS X W (.Assign [.Name y py] (.ListComp elt [⟨tg, iter, ifs, 0⟩] scope pos) spos) (tAsg (tLc wi (fg X.s_0 X.H_0 0 [] []) (ft X.s_0 X.H_0 0 [] []) (fe X.s_0 X.H_0 0 [] []) vs) (gName i)) (mSetN i (eLc mi gm mt me vs)) := by
  subst hvs
  exact ⟨ps_setLc hc hN hy hyl hsw hi.pi ok (fun s H C cl fp => by rw [← hfg s H C cl fp]; exact (hg s H C cl fp).pg) (fun s H C cl fp => by rw [← hft s H C cl fp]; exact (ht s H C cl fp).pt) (fun s H C cl fp => by rw [← hfe s H C cl fp]; exact (he s H C cl fp).pe) hs,
    rs_setN (rn_lc hi.rx (hg X.s_0 X.H_0 0 [] []).rg hT (ht X.s_0 X.H_0 0 [] []).rx (he X.s_0 X.H_0 0 [] []).rx)⟩
theorem ss_setLc {i : Nat} {y : Str} {py : Pos} (hc : X.calm = true) (hN : X.N.Nodup) (hy : X.N[i]? = some y) (hyl : X.env.scope.names.lookup y = some .local)
    (hsw : swapsWith (.ListComp elt [⟨tg, iter, ifs, 0⟩] scope pos) (some (.Name y py)) spos.line X.env = pure true) (hi : SI X W tg iter wi mi) (ok : BlkOk X.N X.env.scope scope own)
    {fg : Shared → Hp → Addr → List (Str × Addr) → List Addr → TG} {ft : Shared → Hp → Addr → List (Str × Addr) → List Addr → TT} {fe : Shared → Hp → Addr → List (Str × Addr) → List Addr → TE} (hg : ∀ (s : Shared) (H : Hp) (C : Addr) (cl : List (Str × Addr)) (fp : List Addr), SG (X.blk s H scope (compEnvC scope cl C X.env) fp) tg T (fg s H C cl fp) gm) (ht : ∀ (s : Shared) (H : Hp) (C : Addr) (cl : List (Str × Addr)) (fp : List Addr), STs (X.blk s H scope (compEnvC scope cl C X.env) fp) W0 ifs (ft s H C cl fp) mt)
    (he : ∀ (s : Shared) (H : Hp) (C : Addr) (cl : List (Str × Addr)) (fp : List Addr), SE (X.blk s H scope (compEnvC scope cl C X.env) fp) W0 elt (fe s H C cl fp) me) (hT : ∀ i ∈ T, i ∈ vs) (hs : ∀ x, foldedSetIterable iter X.env x = pure x := by intro _; rfl) (hvs : own.map (·.2) = vs := by rfl)
    (hfg : ∀ (s : Shared) (H : Hp) (C : Addr) (cl : List (Str × Addr)) (fp : List Addr), fg s H C cl fp = fg X.s_0 X.H_0 0 [] [] := by intros; rfl) (hft : ∀ (s : Shared) (H : Hp) (C : Addr) (cl : List (Str × Addr)) (fp : List Addr), ft s H C cl fp = ft X.s_0 X.H_0 0 [] [] := by intros; rfl) (hfe : ∀ (s : Shared) (H : Hp) (C : Addr) (cl : List (Str × Addr)) (fp : List Addr), fe s H C cl fp = fe X.s_0 X.H_0 0 [] [] := by intros; rfl) :
    SS X W (.Assign [.Name y py] (.ListComp elt [⟨tg, iter, ifs, 0⟩] scope pos) spos) (tAsg (tLc wi (fg X.s_0 X.H_0 0 [] []) (ft X.s_0 X.H_0 0 [] []) (fe X.s_0 X.H_0 0 [] []) vs) (gName i)) (mSet i (eLc mi gm mt me vs)) := by
  subst hvs
  exact ⟨ps_setLc hc hN hy hyl hsw hi.pi ok (fun s H C cl fp => by rw [← hfg s H C cl fp]; exact (hg s H C cl fp).pg) (fun s H C cl fp => by rw [← hft s H C cl fp]; exact (ht s H C cl fp).pt) (fun s H C cl fp => by rw [← hfe s H C cl fp]; exact (he s H C cl fp).pe) hs,
    rs_set (rn_lc hi.rx (hg X.s_0 X.H_0 0 [] []).rg hT (ht X.s_0 X.H_0 0 [] []).rx (he X.s_0 X.H_0 0 [] []).rx).rx⟩
end
end Mi

/-! The mirror layer 10: built-ins, dicts, in, op=. -/
namespace Mi
open PySem L2
variable [Tabs]

section
variable {X : Cx} {W : WX} {K : PySem.W.Frag} {mg : Str → Option Value} {e a b : Expr} {es : List Expr} {te ta tb : TE} {me ma mb : M D} {tr : TA} {mr : M (List D)} {pos pos' p : Pos}

/-! ### isinstance of a built-in type -/
def tyName : D → Option String
  | .non => some "NoneType"
  | .bl _ => some "bool"
  | .int _ => some "int"
  | .str _ => some "str"
  | .tup _ => some "tuple"
  | .ftp _ => some "tuple"
  | .lst _ => some "list"
  | .frz _ => some "list"
  | _ => none
def isTy (T : String) (d : D) : Option D := (tyName d).bind fun t => (kitB t T).map .bl
def eIsI (T : String) (m : M D) : M D := m.bind fun d => ofO (isTy T d)
theorem Rep.tyX {B H : Hp} {v : V} {d : D} {t : String} (s : Sub B H) (r : Rep K mg B v d) (h : tyName d = some t) : TyX K H v (.type t) := by
  cases r with
  | non => cases h; exact .base .non
  | bl b => cases h; exact .base (.bl b)
  | int b => cases h; exact .base (.int b)
  | str b => cases h; exact .base (.str b)
  | tup q r => cases h; exact .base (.tup (s.tup q))
  | ftp q r =>
    cases h
    rcases s.sqT q with (q | ⟨o, q⟩) | ⟨o, its, n, q, hc, _⟩
    · exact .base (.tup q)
    · exact .fTuple q
    · exact .kTuple q hc
  | lst q r => cases h; exact .base (.lst (s.lst q))
  | frz q r =>
    cases h
    rcases s.sqL q with (q | ⟨o, q⟩) | ⟨o, its, n, q, hc, _⟩
    · exact .base (.lst q)
    · exact .base (.frz q)
    · exact .kList q hc
  | dK _ _ _ => cases h
  | dT _ _ _ => cases h
  | ins _ _ _ _ => cases h
theorem se_isi (T : String) {x : Str} (h : SE X W e te me) (hm : X.mg "isinstance" = none) (hmT : X.mg x = none) (hv : bootBuiltins x = some (.type T)) (hg : Gl X "isinstance" := by rfl) (hgT : Gl X x := by rfl) (hn : x ≠ "__name__" := by decide) (hd : (x == ("__debug__" : Str)) = false := by decide)
    (hb : bootBuiltins "isinstance" = some (.builtin "isinstance") := by decide +kernel)
    (hs : starEach [e, .Name x p] X.env = (false, eval e X.env) :: starEach [.Name x p] X.env := by rfl) (hs2 : starEach [.Name x p] X.env = (false, eval (.Name x p) X.env) :: starEach [] X.env := by rfl) (hpl : (backTo pos (starEach [.Name x p] X.env)).any (·.1) = false := by rfl) :
    SE X W (.Call (.Name "isinstance" pos') [e, .Name x p] [] pos) (tCB (rIsi X.K) (tCons te (tCons (tC (.ty T)) tNil))) (eIsI T me) := by
  refine ⟨pe_callB call_isi hg hm hb (pa_cons h.pe (pa_cons (pe_bltn hgT hmT hv rfl hn hd) pa_nil hs2) hs) (by decide) (by decide) hs hpl, ?_⟩
  refine h.rx.bind (t2 := fun x σ H Q => rIsi X.K [x, .ty T] H Q) fun v d σ0 B H σ env sm r Q post => ?_
  cases e1 : isTy T d with
  | none => rw [e1] at post; exact post.elim
  | some z =>
    rw [e1] at post
    unfold isTy at e1
    cases e2 : tyName d with
    | none => rw [e2] at e1; cases e1
    | some t =>
      rw [e2] at e1
      have e1 : (kitB t T).map D.bl = some z := e1
      cases e3 : kitB t T with
      | none => rw [e3] at e1; cases e1
      | some c =>
        rw [e3] at e1
        cases e1
        exact ⟨v, .ty T, .type t, .type T, c, rfl, .ty T, Rep.tyX sm.sub r e2, kit_ty e3, post.val sm (Rep.bl _)⟩

/-! ### calls of built-ins by name -/
theorem sb_cb {x : Str} {id : String} {r : List V → Hp → VK → Prop} {f : List D → Option D} (hc : CallR X (.builtin id) r) (hf : RealC X.K X.mg r f) (hm : X.mg x = none) (ha : SA X W (e :: es) tr mr) (hv : bootBuiltins x = some (.builtin id) := by decide +kernel) (hg : Gl X x := by rfl) (hn : x ≠ "__name__" := by decide)
    (hdb : (x == ("__debug__" : Str)) = false := by decide) (he : starEach (e :: es) X.env = (false, eval e X.env) :: starEach es X.env := by rfl) (hpl : (backTo pos (starEach es X.env)).any (·.1) = false := by rfl) :
    SE X W (.Call (.Name x p) (e :: es) [] pos) (tCB r tr) (eCB f mr) := ⟨pe_callB hc hg hm hv ha.pa hn hdb he hpl, rx_cb hf ha.rx⟩
theorem sb_ty {x : Str} {T : String} {r : List V → Hp → VK → Prop} {f : List D → Option D} (hc : CallR X (.type T) r) (hf : RealC X.K X.mg r f) (hm : X.mg x = none) (ha : SA X W (e :: es) tr mr) (hv : bootBuiltins x = some (.type T) := by decide +kernel) (hg : Gl X x := by rfl) (hn : x ≠ "__name__" := by decide)
    (hdb : (x == ("__debug__" : Str)) = false := by decide) (he : starEach (e :: es) X.env = (false, eval e X.env) :: starEach es X.env := by rfl) (hpl : (backTo pos (starEach es X.env)).any (·.1) = false := by rfl) :
    SE X W (.Call (.Name x p) (e :: es) [] pos) (tCB r tr) (eCB f mr) := ⟨pe_callTy hc hg hm hv ha.pa hn hdb he hpl, rx_cb hf ha.rx⟩
def dInt : List D → Option D
  | [.int i] => some (.int i)
  | [.bl k] => some (.int (if k then 1 else 0))
  | _ => none
theorem re_int : RealC K mg (fun xs H Q => (∃ i, xs = [.int i] ∧ Q (.int i) H) ∨ ∃ k, xs = [.bl k] ∧ Q (.int (if k then 1 else 0)) H) dInt := by
  intro B H xs ds z s h1 e1 Q q
  unfold dInt at e1
  split at e1
  · cases e1
    match h1 with
    | .cons (.int i) .nil => exact .inl ⟨_, rfl, q _ B H (Al.refl s) (.int _)⟩
  · cases e1
    match h1 with
    | .cons (.bl i) .nil => exact .inr ⟨_, rfl, q _ B H (Al.refl s) (.int _)⟩
  · cases e1
def dStrI : List D → Option D
  | [.int i] => if i.natAbs.log2 < 1920 then some (.str (toString i)) else none
  | _ => none
theorem re_strI : RealC K mg (fun xs H Q => ∃ i, xs = [.int i] ∧ i.natAbs.log2 < 1920 ∧ Q (.str (toString i)) H) dStrI := by
  intro B H xs ds z s h1 e1 Q q
  unfold dStrI at e1
  split at e1
  · split at e1
    · rename_i hl
      cases e1
      match h1 with
      | .cons (.int i) .nil => exact ⟨_, rfl, hl, q _ B H (Al.refl s) (.str _)⟩
    · cases e1
  · cases e1
def dAbs : List D → Option D
  | [.int i] => some (.int (if i < 0 then -i else i))
  | _ => none
theorem re_abs : RealC K mg (fun xs H Q => ∃ i, xs = [.int i] ∧ Q (.int (if i < 0 then -i else i)) H) dAbs := by
  intro B H xs ds z s h1 e1 Q q
  unfold dAbs at e1
  split at e1
  · cases e1
    match h1 with
    | .cons (.int i) .nil => exact ⟨_, rfl, q _ B H (Al.refl s) (.int _)⟩
  · cases e1
def dMax2 : List D → Option D
  | [.int i, .int j] => some (.int (if j > i then j else i))
  | _ => none
theorem re_max2 : RealC K mg (fun xs H Q => ∃ i j, xs = [.int i, .int j] ∧ Q (.int (if j > i then j else i)) H) dMax2 := by
  intro B H xs ds z s h1 e1 Q q
  unfold dMax2 at e1
  split at e1
  · cases e1
    match h1 with
    | .cons (.int i) (.cons (.int j) .nil) => exact ⟨_, _, rfl, q _ B H (Al.refl s) (.int _)⟩
  · cases e1
def dMin2 : List D → Option D
  | [.int i, .int j] => some (.int (if j < i then j else i))
  | _ => none
theorem re_min2 : RealC K mg (fun xs H Q => ∃ i j, xs = [.int i, .int j] ∧ Q (.int (if j < i then j else i)) H) dMin2 := by
  intro B H xs ds z s h1 e1 Q q
  unfold dMin2 at e1
  split at e1
  · cases e1
    match h1 with
    | .cons (.int i) (.cons (.int j) .nil) => exact ⟨_, _, rfl, q _ B H (Al.refl s) (.int _)⟩
  · cases e1
/-- tuple(x) -/
def dTupOf : List D → Option D
  | [.lst xs] => some (.tup xs)
  | [.frz xs] => some (.tup xs)
  | [.tup xs] => some (.tup xs)
  | [.ftp xs] => some (.ftp xs)
  | _ => none
theorem re_tupOf : RealC K mg (fun xs H Q => ∃ p ys, xs = [.ref p] ∧ ((SqL K H p ys ∧ ∀ l, H l = none → Q (.ref l) (upd H l (.tup ys))) ∨ (SqT K H p ys ∧ Q (.ref p) H))) dTupOf := by
  intro B H xs ds z s h1 e1 Q q
  unfold dTupOf at e1
  split at e1
  · cases e1
    match h1 with
    | .cons (.lst p r) .nil => exact ⟨_, _, rfl, .inl ⟨.of (s.lst p), fun l hl => q _ _ _ (Al.upd s hl) (.tup upd_same (r.mono (Al.upd s hl).g))⟩⟩
  · cases e1
    match h1 with
    | .cons (.frz p r) .nil => exact ⟨_, _, rfl, .inl ⟨s.sqL p, fun l hl => q _ _ _ (Al.upd s hl) (.tup upd_same (r.mono (Al.upd s hl).g))⟩⟩
  · cases e1
    match h1 with
    | .cons (.tup p r) .nil => exact ⟨_, _, rfl, .inr ⟨.of (s.tup p), q _ B H (Al.refl s) (.tup p r)⟩⟩
  · cases e1
    match h1 with
    | .cons (.ftp p r) .nil => exact ⟨_, _, rfl, .inr ⟨s.sqT p, q _ B H (Al.refl s) (.ftp p r)⟩⟩
  · cases e1
/-- tuple(x), x a slot's own list -/
def eTupO (i : Nat) : M D := fun env => match getOwnL env i with
  | some xs => .ok (.tup xs) env
  | none => .stuck
theorem rx_tupO {i : Nat} : RX K mg W (RD K mg) (tCB (fun xs H Q => ∃ p ys, xs = [.ref p] ∧ ((SqL K H p ys ∧ ∀ l, H l = none → Q (.ref l) (upd H l (.tup ys))) ∨ (SqT K H p ys ∧ Q (.ref p) H))) (tCons (tVar i) tNil)) (eTupO i) := by
  intro σ0 B H σ env sm Q post
  unfold eTupO at post
  cases e : getOwnL env i with
  | none => rw [e] at post; exact post.elim
  | some xs =>
    rw [e] at post
    obtain ⟨a, p, _, e1, c, _⟩ := sm.getOwn (getOwnL_some e)
    obtain ⟨vs, hl, rs⟩ := c.lst_inv
    exact ⟨_, e1, _, _, rfl, .inl ⟨.of hl, fun l hn => post.al sm (Al.upd sm.sub hn) (.tup upd_same (rs.mono (Al.upd sm.sub hn).g))⟩⟩
/-- list(x): new -/
def dListOf : D → Option D
  | .lst xs => some (.lst xs)
  | .frz xs => some (.lst xs)
  | .tup xs => some (.lst xs)
  | .ftp xs => some (.lst xs)
  | _ => none
theorem rn_listOf (h : RX K mg W (RD K mg) te me) : RN K mg W (tCB (fun xs H Q => ∃ p ys, xs = [.ref p] ∧ (SqL K H p ys ∨ SqT K H p ys) ∧ ∀ l, H l = none → Q (.ref l) (upd H l (.lst ys))) (tCons te tNil)) (me.bind fun d => ofO (dListOf d)) := by
  intro σ0 B H σ env sm Q post
  refine h.goN sm post fun v d B1 H1 env1 sm1 g1 r1 post1 => ?_
  cases e1 : dListOf d with
  | none => rw [e1] at post1; exact post1.elim
  | some z =>
    rw [e1] at post1
    cases r1 with
    | lst p r => cases e1; exact ⟨_, _, rfl, .inl (.of (sm1.sub.lst p)), fun l hl => post1.new sm1 hl (.lst upd_same r)⟩
    | frz p r => cases e1; exact ⟨_, _, rfl, .inl (sm1.sub.sqL p), fun l hl => post1.new sm1 hl (.lst upd_same r)⟩
    | tup p r => cases e1; exact ⟨_, _, rfl, .inr (.of (sm1.sub.tup p)), fun l hl => post1.new sm1 hl (.lst upd_same r)⟩
    | ftp p r => cases e1; exact ⟨_, _, rfl, .inr (sm1.sub.sqT p), fun l hl => post1.new sm1 hl (.lst upd_same r)⟩
    | _ => cases e1

/-! ### join -/
def strsOf : List D → Option (List Str)
  | [] => some []
  | .str x :: ds => (strsOf ds).map (x :: ·)
  | _ :: _ => none
theorem strs_rep {B : Hp} : ∀ {vs : List V} {ds : List D} {ys : List Str}, strsOf ds = some ys → Reps K mg B vs ds → vs = ys.map V.str
  | [], [], _, h, .nil => by cases h; rfl
  | v :: vs, .str x :: ds, ys, h, .cons r rs => by
    have h : (strsOf ds).map (x :: ·) = some ys := h
    cases e : strsOf ds with
    | none => rw [e] at h; cases h
    | some ys' =>
      rw [e] at h
      cases h
      cases r
      rw [List.map_cons, ← strs_rep e rs]
def strsD : D → Option (List Str)
  | .lst ds => strsOf ds
  | .frz ds => strsOf ds
  | .tup ds => strsOf ds
  | .ftp ds => strsOf ds
  | _ => none
def joinY (a : Str) (ys : List Str) : Option D := if (ys.map Str.length).sum + ys.length * a.length ≤ 16777216 then some (.str (PySem.Txt.join a ys)) else none
def joinD (a : Str) (d : D) : Option D := (strsD d).bind (joinY a)
def eJoin (ma mb : M D) : M D := ma.bind fun d => match d with
  | .str a => mb.bind fun c => ofO (joinD a c)
  | _ => fun _ => .stuck
def rJoin (K : PySem.W.Frag) : V → List V → Hp → VK → Prop := fun x xs H Q => ∃ a p, ∃ ys : List Str, x = .str a ∧ xs = [.ref p] ∧ (SqL K H p (ys.map V.str) ∨ SqT K H p (ys.map V.str)) ∧
      (ys.map (·.length)).sum + ys.length * a.length ≤ 16777216 ∧ Q (.str (PySem.Txt.join a ys)) H
theorem rx_join (ha : RX K mg W (RD K mg) ta ma) (hb : RX K mg W (RD K mg) tb mb) : RX K mg W (RD K mg) (tM1 (rJoin K) ta tb) (eJoin ma mb) := by
  refine ha.bind (t2 := fun x σ H1 (Q : VK) => (∃ a, x = V.str a) ∧ tb σ H1 fun y H2 => rJoin K x [y] H2 Q) fun v d σ0 B H σ env sm r Q post => ?_
  have hd : ∃ a, d = .str a := by
    cases d <;> first | exact ⟨_, rfl⟩ | exact post.elim
  obtain ⟨a, rfl⟩ := hd
  cases r
  refine ⟨⟨a, rfl⟩, ?_⟩
  refine hb.go sm post fun w c B1 H1 env1 sm1 g1 r1 post1 => ?_
  have fin : ∀ {ds : List D} {vs : List V} {q : Addr}, (SqL K H1 q vs ∨ SqT K H1 q vs) → Reps K mg B1 vs ds → Post K mg W (RD K mg) σ0 σ env1 B1 H1 (ofO ((strsOf ds).bind (joinY a)) env1) Q → rJoin K (.str a) [.ref q] H1 Q := fun {ds vs q} hq rs pst => by
    cases e : strsOf ds with
    | none => rw [e] at pst; exact pst.elim
    | some ys =>
      rw [e] at pst
      have := strs_rep e rs
      subst this
      have pst : Post K mg W (RD K mg) σ0 σ env1 B1 H1 (ofO (joinY a ys) env1) Q := pst
      unfold joinY at pst
      by_cases hs : (ys.map Str.length).sum + ys.length * a.length ≤ 16777216
      · rw [if_pos hs] at pst
        exact ⟨a, q, ys, rfl, rfl, hq, hs, pst.val sm1 (Rep.str _)⟩
      · rw [if_neg hs] at pst; exact pst.elim
  cases r1 with
  | lst p r => exact fin (.inl (.of (sm1.sub.lst p))) r post1
  | frz p r => exact fin (.inl (sm1.sub.sqL p)) r post1
  | tup p r => exact fin (.inr (.of (sm1.sub.tup p))) r post1
  | ftp p r => exact fin (.inr (sm1.sub.sqT p)) r post1
  | _ => exact post1.elim
theorem se_join {apos : Pos} (ha : SE X W a ta ma) (hb : SE X W b tb mb) (hs : starEach [b] X.env = [(false, eval b X.env)] := by rfl) (hbase : attributeBase a "join" X.env (eval a X.env) = eval a X.env := by rfl) (hline : (apos.endLine == pos.line) = true := by rfl) :
    SE X W (.Call (.Attribute a "join" apos) [b] [] pos) (tM1 (rJoin X.K) ta tb) (eJoin ma mb) := ⟨pe_join ha.pe hb.pe hs hbase hline, rx_join ha.rx hb.rx⟩

/-! ### dicts -/
def eDGet (ma mb : M D) : M D := eOp (fun d k => (dGet d k).bind id) ma mb
theorem rx_dget (ha : RX K mg W (RD K mg) ta ma) (hb : RX K mg W (RD K mg) tb mb) : RX K mg W (RD K mg) (tDGet ta tb) (eDGet ma mb) :=
  ha.map2 (t3 := fun x y H2 (Q : VK) => ∃ a v, x = .ref a ∧ DGet H2 a y (some v) ∧ Q v H2) hb rd_monoR fun v w d k z σ B H s r1 r2 e Q q => by
    cases e1 : dGet d k with
    | none => rw [e1] at e; cases e
    | some o =>
      rw [e1] at e
      have e : o = some z := e
      subst e
      have hv : ∃ a, v = .ref a := by
        cases r1 <;> first | exact ⟨_, rfl⟩ | cases e1
      obtain ⟨a, rfl⟩ := hv
      obtain ⟨ov, hg, ho⟩ := dGet_rep s r1 r2 e1
      rcases ho with ⟨_, z'⟩ | ⟨u, z', rfl, ez, rr⟩
      · cases z'
      · cases ez
        exact ⟨a, u, rfl, hg, q u B H (Al.refl s) rr⟩
theorem se_dget (hu : X.A.units + 1 < cLine) (ha : SE X W a ta ma) (hb : SE X W b tb mb) (hs : NoSl b := by exact fun _ _ => rfl) : SE X W (.Subscript a b pos) (tDGet ta tb) (eDGet ma mb) := ⟨pe_dget hu ha.pe hb.pe hs, rx_dget ha.rx hb.rx⟩
theorem dGet_cont {B H : Hp} {q : Addr} {y : V} {d k : D} {o : Option D} (s : Sub B H) (c : Cont K mg B H q d) (r : Rep K mg B y k) (e : dGet d k = some o) :
    ∃ ov, DGet H q y ov ∧ ((ov = none ∧ o = none) ∨ ∃ v z, ov = some v ∧ o = some z ∧ Rep K mg B v z) := by
  cases d with
  | dK kvs =>
    have e : (toKey k).map (dLook kvs) = some o := e
    cases c with
    | @dK vs _ p q rs =>
      cases e1 : toKey k with
      | none => rw [e1] at e; cases e
      | some kk =>
        rw [e1] at e
        cases e
        have := toKey_rep e1 r
        subst this
        exact ⟨valV vs kk, .inl ⟨vs, kk, .inl p, rfl, rfl⟩, RKv.look ⟨q, rs⟩ kk⟩
  | dT kvs =>
    cases k with
    | tup ks =>
      have e : (toKeys ks).map (dLook kvs) = some o := e
      cases c with
      | @dT vs _ p q rs =>
        cases r with
        | tup p2 rs2 =>
          cases e1 : toKeys ks with
          | none => rw [e1] at e; cases e
          | some kk =>
            rw [e1] at e
            cases e
            have := toKeys_rep e1 rs2
            subst this
            exact ⟨valV vs kk, .inr ⟨vs, kk, _, .inl p, rfl, s.tup p2, rfl⟩, RKv.look ⟨q, rs⟩ kk⟩
    | _ => cases e
  | _ => cases e
def eDGetO (i : Nat) (mb : M D) : M D := fun env => match getOwn env i with
  | some _ => (mb.bind fun k env' => match (getOwn env' i).bind fun d => (dGet d k).bind id with
    | some z => .ok z env'
    | none => .stuck) env
  | none => .stuck
theorem rx_dgetO {i : Nat} (hb : RX K mg W (RD K mg) tb mb) : RX K mg W (RD K mg) (tDGet (tVar i) tb) (eDGetO i mb) := by
  intro σ0 B H σ env sm Q post
  unfold eDGetO at post
  cases e : getOwn env i with
  | none => rw [e] at post; exact post.elim
  | some d =>
    rw [e] at post
    obtain ⟨q, p, _, e1, _⟩ := sm.getOwn e
    refine ⟨.ref q, e1, ?_⟩
    refine hb.go sm post fun y k B1 H1 env1 sm1 g1 r1 post1 => ?_
    cases e2 : getOwn env1 i with
    | none => rw [e2] at post1; exact post1.elim
    | some d1 =>
      rw [e2] at post1
      obtain ⟨q', p', _, e3, c, _⟩ := sm1.getOwn e2
      rw [e1] at e3
      cases e3
      cases e4 : dGet d1 k with
      | none =>
        have post1 : Post K mg W (RD K mg) σ0 σ env1 B1 H1 (match ((dGet d1 k).bind id) with | some z => .ok z env1 | none => .stuck) Q := post1
        rw [e4] at post1; exact post1.elim
      | some o =>
        have post1 : Post K mg W (RD K mg) σ0 σ env1 B1 H1 (match ((dGet d1 k).bind id) with | some z => .ok z env1 | none => .stuck) Q := post1
        rw [e4] at post1
        obtain ⟨ov, hg, ho⟩ := dGet_cont sm1.sub c r1 e4
        rcases ho with ⟨_, rfl⟩ | ⟨u, z', rfl, rfl, rr⟩
        · exact post1.elim
        · exact ⟨q, u, rfl, hg, post1.val sm1 rr⟩
theorem se_dgetO {x : Str} (i : Nat) (hu : X.A.units + 1 < cLine) (hb : SE X W b tb mb) (hs : NoSl b := by exact fun _ _ => rfl) (hN : X.N[i]? = some x := by rfl) (hv : Vis X.env.scope x := by first | exact Or.inl rfl | exact Or.inr (Or.inl rfl) | exact Or.inr (Or.inr rfl)) (hd : (x == ("__debug__" : Str)) = false := by decide)
    (hcd : (x == ("__classdict__" : Str)) = false := by decide) : SE X W (.Subscript (.Name x pos') b pos) (tDGet (tVar i) tb) (eDGetO i mb) := ⟨pe_dget hu (pe_var hN hv hd hcd) hb.pe hs, rx_dgetO hb.rx⟩
/-- d[k] = v, d a slot's own dict -/
def dPut : D → D → D → Option D
  | .dK kvs, k, v => (toKey k).bind fun k => if kvs.length < 16777216 then some (.dK (dPutL kvs k v)) else none
  | .dT kvs, .tup ks, v => (toKeys ks).bind fun k => if kvs.length < 16777216 then some (.dT (dPutL kvs k v)) else none
  | _, _, _ => none
theorem dPut_cont {B H : Hp} {q : Addr} {y u : V} {d k z d' : D} (s : Sub B H) (c : Cont K mg B H q d) (r : Rep K mg B y k) (rz : Rep K mg B u z) (e : dPut d k z = some d') : ∃ o, DPut H q y u (upd H q o) ∧ Cont K mg B (upd H q o) q d' := by
  have hz : sizeLine = 16777216 := sizeLine_eq
  cases d with
  | dK kvs =>
    have e : ((toKey k).bind fun k => if kvs.length < 16777216 then some (D.dK (dPutL kvs k z)) else none) = some d' := e
    cases c with
    | @dK vs _ p qq rs =>
      cases e1 : toKey k with
      | none => rw [e1] at e; cases e
      | some kk =>
        rw [e1] at e
        have e : (if kvs.length < 16777216 then some (D.dK (dPutL kvs kk z)) else none) = some d' := e
        by_cases hl : kvs.length < 16777216
        · rw [if_pos hl] at e
          cases e
          have := toKey_rep e1 r
          subst this
          have rk : RKv K mg B vs kvs := ⟨qq, rs⟩
          have rp := rk.put kk rz
          exact ⟨_, .inl ⟨vs, kk, p, rfl, by rw [rk.length]; omega, rfl⟩, .dK upd_same rp.1 rp.2⟩
        · rw [if_neg hl] at e; cases e
  | dT kvs =>
    cases k with
    | tup ks =>
      have e : ((toKeys ks).bind fun k => if kvs.length < 16777216 then some (D.dT (dPutL kvs k z)) else none) = some d' := e
      cases c with
      | @dT vs _ p qq rs =>
        cases r with
        | tup p2 rs2 =>
          cases e1 : toKeys ks with
          | none => rw [e1] at e; cases e
          | some kk =>
            rw [e1] at e
            have e : (if kvs.length < 16777216 then some (D.dT (dPutL kvs kk z)) else none) = some d' := e
            by_cases hl : kvs.length < 16777216
            · rw [if_pos hl] at e
              cases e
              have := toKeys_rep e1 rs2
              subst this
              have rk : RKv K mg B vs kvs := ⟨qq, rs⟩
              have rp := rk.put kk rz
              exact ⟨_, .inr ⟨vs, kk, _, p, rfl, s.tup p2, by rw [rk.length]; omega, rfl⟩, .dT upd_same rp.1 rp.2⟩
            · rw [if_neg hl] at e; cases e
    | _ => cases e
  | _ => cases e
/-- the value, then the key -/
def mPut (i : Nat) (mk mv : M D) : M Fl := mv.bind fun v env => match getOwn env i with
  | some _ => (mk.bind fun k env' => match env'[i]? with
    | some (some (.own p d)) => match dPut d k v with
      | some d' => .ok .nx (env'.set i (some (.own p d')))
      | none => .stuck
    | _ => .stuck) env
  | none => .stuck
theorem rs_put {i : Nat} {tv tk : TE} {mv mk : M D} (hv : RX K mg W (RD K mg) tv mv) (hk : RX K mg W (RD K mg) tk mk) : RS K mg W (sDPut (tVar i) tk tv) (mPut i mk mv) := by
  intro c σ0 B H σ env sm fr D post
  refine hv.goS sm fr post fun v z B1 H1 env1 sm1 fr1 _ r1 post1 => ?_
  cases e : getOwn env1 i with
  | none => rw [e] at post1; exact post1.elim
  | some d0 =>
    rw [e] at post1
    obtain ⟨q, p, _, e1, _⟩ := sm1.getOwn e
    refine ⟨.ref q, e1, ?_⟩
    refine hk.goS sm1 fr1 post1 fun y k B2 H2 env2 sm2 fr2 g2 r2 post2 => ?_
    cases e2 : env2[i]? with
    | none => rw [e2] at post2; exact post2.elim
    | some s =>
      rw [e2] at post2
      match s, e2, post2 with
      | some (.own p d), e2, post2 =>
        have post2 : PostS K mg W c σ0 (match dPut d k z with | some d' => .ok .nx (env2.set i (some (.own p d'))) | none => .stuck) D := post2
        cases e3 : dPut d k z with
        | none => rw [e3] at post2; exact post2.elim
        | some d' =>
          rw [e3] at post2
          obtain ⟨v', e4, a', rfl, c2, hb, hp⟩ := sm2.sl i _ e2
          rw [e1] at e4
          cases e4
          obtain ⟨o, hput, c3⟩ := dPut_cont sm2.sub c2 r2 (r1.mono g2) e3
          exact ⟨q, _, rfl, hput, post2 σ B2 _ (sm2.write e2 e1 c3) (fr2.step (stp_write sm2 e2 e1) (osub_write e2).keep)⟩
theorem ss_put {x : Str} {v k : Expr} {tv tk : TE} {mv mk : M D} (i : Nat) (hu : X.A.units + 1 < cLine) (hv : SE X W v tv mv) (hk : SE X W k tk mk) (hN : X.N[i]? = some x := by rfl) (hvis : Vis X.env.scope x := by first | exact Or.inl rfl | exact Or.inr (Or.inl rfl) | exact Or.inr (Or.inr rfl)) (hd : (x == ("__debug__" : Str)) = false := by decide)
    (hcd : (x == ("__classdict__" : Str)) = false := by decide) {p1 p2 : Pos} (hs : swapsWith v (some (.Subscript (.Name x p2) k p1)) pos.line X.env = pure false := by rfl) : SS X W (.Assign [.Subscript (.Name x p2) k p1] v pos) (sDPut (tVar i) tk tv) (mPut i mk mv) :=
  ⟨ps_dput hu (pe_var hN hvis hd hcd) hk.pe hv.pe hs, rs_put hv.rx hk.rx⟩
/-- xs[i] = v, xs a slot's own list -/
def mPutL (i : Nat) (mk mv : M D) : M Fl := mv.bind fun v env => match getOwn env i with
  | some _ => (mk.bind fun k env' => match env'[i]?, k with
    | some (some (.own p (.lst xs))), .int j => match ixN xs.length j with
      | some n => .ok .nx (env'.set i (some (.own p (.lst (xs.set n v)))))
      | none => .stuck
    | _, _ => .stuck) env
  | none => .stuck
theorem rs_putL {i : Nat} {tv tk : TE} {mv mk : M D} (hv : RX K mg W (RD K mg) tv mv) (hk : RX K mg W (RD K mg) tk mk) : RS K mg W (tAsg tv (gSub (tVar i) tk rSetL)) (mPutL i mk mv) := by
  intro c σ0 B H σ env sm fr D post
  refine hv.goS sm fr post fun v z B1 H1 env1 sm1 fr1 _ r1 post1 => ?_
  cases e : getOwn env1 i with
  | none => rw [e] at post1; exact post1.elim
  | some d0 =>
    rw [e] at post1
    obtain ⟨q, p, _, e1, _⟩ := sm1.getOwn e
    refine ⟨.ref q, e1, ?_⟩
    refine hk.goS sm1 fr1 post1 fun y k B2 H2 env2 sm2 fr2 g2 r2 post2 => ?_
    cases e2 : env2[i]? with
    | none => rw [e2] at post2; exact post2.elim
    | some s =>
      rw [e2] at post2
      match s, e2, k, r2, post2 with
      | some (.own p (.lst xs)), e2, .int j, r2, post2 =>
        have post2 : PostS K mg W c σ0 (match ixN xs.length j with | some n => .ok .nx (env2.set i (some (.own p (.lst (xs.set n z))))) | none => .stuck) D := post2
        cases e3 : ixN xs.length j with
        | none => rw [e3] at post2; exact post2.elim
        | some n =>
          rw [e3] at post2
          obtain ⟨v', e4, a', rfl, c2, hb, hp⟩ := sm2.sl i _ e2
          rw [e1] at e4
          cases e4
          obtain ⟨vs, hl, rs⟩ := Cont.lst_inv c2
          cases r2
          exact ⟨q, vs, j, n, rfl, rfl, hl, by rw [rs.length]; exact e3, post2 σ B2 _ (sm2.write e2 e1 (.lst upd_same (rs.set n (r1.mono g2)))) (fr2.step (stp_write sm2 e2 e1) (osub_write e2).keep)⟩
/-- {} -/
theorem sn_dk0 : SN X W (.Dict [] [] pos) tDNewK (M.pure (.dK [])) := ⟨pe_dnewK, fun σ0 B H σ env sm Q post p hp => post.new sm hp (.dK upd_same rfl .nil)⟩
theorem sn_dt0 : SN X W (.Dict [] [] pos) tDNewT (M.pure (.dT [])) := ⟨pe_dnewT, fun σ0 B H σ env sm Q post p hp => post.new sm hp (.dT upd_same rfl .nil)⟩
end
end Mi

/-! The mirror layer 11: in, op=, dict displays. -/
namespace Mi
open PySem L2
variable [Tabs]

section
variable {X : Cx} {W : WX} {K : PySem.W.Frag} {mg : Str → Option Value} {e a b : Expr} {es : List Expr} {te ta tb : TE} {me ma mb : M D} {tr : TA} {mr : M (List D)} {pos pos' p : Pos}
/-! ### in -/
def toV : D → Option V
  | .non => some .non
  | .bl b => some (.bl b)
  | .int i => some (.int i)
  | .str x => some (.str x)
  | _ => none
def toVs : List D → Option (List V)
  | [] => some []
  | d :: ds => (toV d).bind fun v => (toVs ds).map (v :: ·)
theorem toV_rep {B : Hp} {v u : V} {d : D} (h : toV d = some u) (r : Rep K mg B v d) : v = u ∧ flatV v = true := by
  cases d <;> first | (cases h; cases r; exact ⟨rfl, rfl⟩) | cases h
theorem toVs_rep {B : Hp} : ∀ {vs us : List V} {ds : List D}, toVs ds = some us → Reps K mg B vs ds → vs = us ∧ vs.all flatV = true
  | [], us, [], h, .nil => by cases h; exact ⟨rfl, rfl⟩
  | v :: vs, us, d :: ds, h, .cons r rs => by
    have h : ((toV d).bind fun v => (toVs ds).map (v :: ·)) = some us := h
    cases e1 : toV d with
    | none => rw [e1] at h; cases h
    | some u =>
      rw [e1] at h
      have h : (toVs ds).map (u :: ·) = some us := h
      cases e2 : toVs ds with
      | none => rw [e2] at h; cases h
      | some us' =>
        rw [e2] at h
        cases h
        obtain ⟨r1, r2⟩ := toV_rep e1 r
        obtain ⟨r3, r4⟩ := toVs_rep e2 rs
        subst r1 r3
        exact ⟨rfl, by rw [List.all_cons, r2, r4]; rfl⟩
def seqD : D → Option (List D)
  | .tup xs => some xs
  | .ftp xs => some xs
  | .lst xs => some xs
  | .frz xs => some xs
  | _ => none
def inS (x z : Str) : Bool := !(Builtin.Str.occurrences z x 0 z.length 1).isEmpty
def dIn : D → D → Option D
  | .str x, .str z => some (.bl (inS x z))
  | d, c => (seqD c).bind fun xs => (toV d).bind fun v => (toVs xs).map fun vs => .bl (inV v vs)
def dNotIn : D → D → Option D
  | .str x, .str z => some (.bl (!inS x z))
  | d, c => (seqD c).bind fun xs => (toV d).bind fun v => (toVs xs).map fun vs => .bl (!inV v vs)
def rInA (K : PySem.W.Frag) : R2 := fun x y H Q => (∃ i j, x = .str i ∧ y = .str j ∧ Q (.bl (!(Builtin.Str.occurrences j i 0 j.length 1).isEmpty)) H) ∨ rIn K false x y H Q
def rNotInA (K : PySem.W.Frag) : R2 := fun x y H Q => (∃ i j, x = .str i ∧ y = .str j ∧ Q (.bl (!(!(Builtin.Str.occurrences j i 0 j.length 1).isEmpty))) H) ∨ rIn K true x y H Q
theorem or_in {X : Cx} : OpR X (compareOp .In) (rInA X.K) := op_in_str.or op_in_seq
theorem or_notIn {X : Cx} : OpR X (compareOp .NotIn) (rNotInA X.K) := op_notIn_str.or op_notIn_seq
theorem seq_rep {B H : Hp} {v : V} {c : D} {xs : List D} (s : Sub B H) (h : seqD c = some xs) (r : Rep K mg B v c) : ∃ q vs, v = .ref q ∧ (SqL K H q vs ∨ SqT K H q vs) ∧ Reps K mg B vs xs := by
  cases r with
  | tup p r => cases h; exact ⟨_, _, rfl, .inr (.of (s.tup p)), r⟩
  | ftp p r => cases h; exact ⟨_, _, rfl, .inr (s.sqT p), r⟩
  | lst p r => cases h; exact ⟨_, _, rfl, .inl (.of (s.lst p)), r⟩
  | frz p r => cases h; exact ⟨_, _, rfl, .inl (s.sqL p), r⟩
  | _ => cases h
theorem in_seq {neg : Bool} {B H : Hp} {x y : V} {d c z : D} {f : V → List V → Bool} (hf : ∀ x xs, (if neg then !inV x xs else inV x xs) = f x xs) (s : Sub B H) (h1 : Rep K mg B x d) (h2 : Rep K mg B y c)
    (e1 : ((seqD c).bind fun xs => (toV d).bind fun v => (toVs xs).map fun vs => D.bl (f v vs)) = some z) {Q : VK} (q : ∀ v B' H', Al B H B' H' → Rep K mg B' v z → Q v H') : rIn K neg x y H Q := by
  cases e2 : seqD c with
  | none => rw [e2] at e1; cases e1
  | some xs =>
    rw [e2] at e1
    cases e3 : toV d with
    | none => rw [e3] at e1; cases e1
    | some v =>
      rw [e3] at e1
      have e1 : (toVs xs).map (fun vs => D.bl (f v vs)) = some z := e1
      cases e4 : toVs xs with
      | none => rw [e4] at e1; cases e1
      | some vs =>
        rw [e4] at e1
        cases e1
        obtain ⟨p, ws, rfl, hq, rs⟩ := seq_rep s e2 h2
        obtain ⟨rfl, r2⟩ := toV_rep e3 h1
        obtain ⟨rfl, r4⟩ := toVs_rep e4 rs
        refine ⟨p, ws, rfl, hq, r2, r4, ?_⟩
        rw [hf]
        exact q _ B H (Al.refl s) (.bl _)
theorem re_in : Real2 K mg (rInA K) dIn := by
  intro B H x y d c z s h1 h2 e1 Q q
  have go : ((seqD c).bind fun xs => (toV d).bind fun v => (toVs xs).map fun vs => D.bl (inV v vs)) = some z → rInA K x y H Q := fun e => .inr (in_seq (f := inV) (fun _ _ => rfl) s h1 h2 e q)
  cases d with
  | str i =>
    cases c with
    | str j => cases e1; cases h1; cases h2; exact .inl ⟨_, _, rfl, rfl, q _ B H (Al.refl s) (.bl _)⟩
    | _ => exact go e1
  | _ => exact go e1
theorem re_notIn : Real2 K mg (rNotInA K) dNotIn := by
  intro B H x y d c z s h1 h2 e1 Q q
  have go : ((seqD c).bind fun xs => (toV d).bind fun v => (toVs xs).map fun vs => D.bl (!inV v vs)) = some z → rNotInA K x y H Q := fun e => .inr (in_seq (f := fun v vs => !inV v vs) (fun _ _ => rfl) s h1 h2 e q)
  cases d with
  | str i =>
    cases c with
    | str j => cases e1; cases h1; cases h2; exact .inl ⟨_, _, rfl, rfl, q _ B H (Al.refl s) (.bl _)⟩
    | _ => exact go e1
  | _ => exact go e1
/-- e in xs, xs a slot's own list -/
def eInO (f : D → D → Option D) (ma : M D) (i : Nat) : M D := ma.bind fun d env => match getOwnL env i with
  | some xs => ofO (f d (.lst xs)) env
  | none => .stuck
theorem rx_inO {i : Nat} (ha : RX K mg W (RD K mg) ta ma) : RX K mg W (RD K mg) (tOp (rInA K) ta (tVar i)) (eInO dIn ma i) := by
  refine ha.bind (t2 := fun x σ H1 (Q : VK) => tVar i σ H1 fun y H2 => rInA K x y H2 Q) fun v d σ0 B H σ env sm r Q post => ?_
  cases e : getOwnL env i with
  | none => simp only [e] at post; exact post.elim
  | some xs =>
    simp only [e] at post
    obtain ⟨a, p, e0, e1, c, hb, _⟩ := sm.getOwn (getOwnL_some e)
    obtain ⟨vs, hl, rs⟩ := c.lst_inv
    refine ⟨.ref a, e1, ?_⟩
    cases e2 : dIn d (.lst xs) with
    | none => rw [e2] at post; exact post.elim
    | some z =>
      rw [e2] at post
      have sb : Sub (upd B a (.lst vs)) H := fun x u q => by
        by_cases ex : x = a
        · subst ex; rw [upd_same] at q; cases q; exact .inl hl
        · rw [upd_ne ex] at q; exact sm.sub x u q
      have hz : ∃ b, z = .bl b := by
        cases d <;> (simp only [dIn, seqD, toV, Option.bind_some, Option.bind_none] at e2) <;> first | cases e2 | (cases e3 : toVs xs with | none => (rw [e3] at e2; cases e2) | some us => (rw [e3] at e2; cases e2; exact ⟨_, rfl⟩))
      obtain ⟨b, rfl⟩ := hz
      refine re_in (mg := mg) (upd B a (.lst vs)) H v (.ref a) d (.lst xs) (.bl b) sb (r.mono (same_upd hb)) (.lst upd_same (rs.mono (same_upd hb))) e2 Q fun u B' H' al ru => ?_
      cases ru
      have al' : Al B H B H' := ⟨Same.refl _, fun _ _ h => .inl h, al.s, sm.sub.same al.s⟩
      exact post.al sm al' (Rep.bl _)
theorem rx_notInO {i : Nat} (ha : RX K mg W (RD K mg) ta ma) : RX K mg W (RD K mg) (tOp (rNotInA K) ta (tVar i)) (eInO dNotIn ma i) := by
  refine ha.bind (t2 := fun x σ H1 (Q : VK) => tVar i σ H1 fun y H2 => rNotInA K x y H2 Q) fun v d σ0 B H σ env sm r Q post => ?_
  cases e : getOwnL env i with
  | none => simp only [e] at post; exact post.elim
  | some xs =>
    simp only [e] at post
    obtain ⟨a, p, e0, e1, c, hb, _⟩ := sm.getOwn (getOwnL_some e)
    obtain ⟨vs, hl, rs⟩ := c.lst_inv
    refine ⟨.ref a, e1, ?_⟩
    cases e2 : dNotIn d (.lst xs) with
    | none => rw [e2] at post; exact post.elim
    | some z =>
      rw [e2] at post
      have sb : Sub (upd B a (.lst vs)) H := fun x u q => by
        by_cases ex : x = a
        · subst ex; rw [upd_same] at q; cases q; exact .inl hl
        · rw [upd_ne ex] at q; exact sm.sub x u q
      have hz : ∃ b, z = .bl b := by
        cases d <;> (simp only [dNotIn, seqD, toV, Option.bind_some, Option.bind_none] at e2) <;> first | cases e2 | (cases e3 : toVs xs with | none => (rw [e3] at e2; cases e2) | some us => (rw [e3] at e2; cases e2; exact ⟨_, rfl⟩))
      obtain ⟨b, rfl⟩ := hz
      refine re_notIn (mg := mg) (upd B a (.lst vs)) H v (.ref a) d (.lst xs) (.bl b) sb (r.mono (same_upd hb)) (.lst upd_same (rs.mono (same_upd hb))) e2 Q fun u B' H' al ru => ?_
      cases ru
      have al' : Al B H B H' := ⟨Same.refl _, fun _ _ h => .inl h, al.s, sm.sub.same al.s⟩
      exact post.al sm al' (Rep.bl _)

/-! ### x op= e -/
def mAug (i : Nat) (f : D → D → Option D) (m : M D) : M Fl := fun env => match env[i]? with
  | some (some (.shr a)) => (m.bind fun b env' => match f a b with
    | some c => .ok .nx (env'.set i (some (.shr c)))
    | none => .stuck) env
  | _ => .stuck
theorem rs_aug {i : Nat} {r : R2} {f : D → D → Option D} (hf : Real2 K mg r f) (h : RX K mg W (RD K mg) te me) : RS K mg W (tAug i te r) (mAug i f me) := by
  intro c σ0 B H σ env sm fr D post
  unfold mAug at post
  cases e : env[i]? with
  | none => rw [e] at post; exact post.elim
  | some s =>
    rw [e] at post
    match s, e, post with
    | some (.shr d), e, post =>
      obtain ⟨v, e1, rv⟩ := sm.sl i _ e
      refine ⟨v, e1, ?_⟩
      have rv : Rep K mg B v d := rv
      refine h.goS sm fr post fun w b B1 H1 env1 sm1 fr1 g1 r1 post1 => ?_
      cases e2 : f d b with
      | none => rw [e2] at post1; exact post1.elim
      | some z =>
        rw [e2] at post1
        refine hf B1 H1 v w d b z sm1.sub (rv.mono g1) r1 e2 _ fun u B2 H2 al ru => ?_
        have sm2 := sm1.alloc al.g al.n al.s al.sb
        have fr2 := fr1.step (Stp.alloc al.g al.n al.s) (Keep.refl _ _)
        exact post1 _ _ _ (sm2.setShr i ru) (fr2.keep keep_setShr)
theorem ss_aug {x : Str} {op : Operator} {r : R2} {f : D → D → Option D} (i : Nat) (hN : X.N.Nodup) (ho : OpR X (inplaceOp op) r) (hf : Real2 X.K X.mg r f) (h : SE X W e te me) (hi : X.N[i]? = some x := by rfl) (hx : Loc X.env.scope x := by first | exact Or.inl rfl | exact Or.inr rfl)
    (hw : X.fn x = true ∨ X.env.scope.names.lookup x = some .local := by first | exact .inl rfl | exact .inr rfl) : SS X W (.AugAssign (.Name x pos') op e pos) (tAug i te r) (mAug i f me) := ⟨ps_aug hN hi hx h.pe ho hw, rs_aug hf h.rx⟩
def rAddI (K : PySem.W.Frag) : R2 := fun x y H Q => rI0 (fun i j => .int (i + j)) x y H Q ∨ ∃ i j, x = .str i ∧ y = .str j ∧ i.length + j.length ≤ sizeLine ∧ Q (.str (i ++ j)) H
theorem oi_add {X : Cx} : OpR X (inplaceOp .Add) (rAddI X.K) := iop_add.or iop_add_str
def dAddI : D → D → Option D
  | .int i, .int j => some (.int (i + j))
  | .str x, .str y => if x.length + y.length ≤ 16777216 then some (.str (x ++ y)) else none
  | _, _ => none
theorem rei_add : Real2 K mg (rAddI K) dAddI := by
  intro B H x y d e z s h1 h2 e1 Q q
  have hz : sizeLine = 16777216 := sizeLine_eq
  unfold dAddI at e1
  split at e1
  · cases e1; cases h1; cases h2
    exact .inl ⟨_, _, rfl, rfl, q _ B H (Al.refl s) (.int _)⟩
  · split at e1
    · cases e1; cases h1; cases h2
      exact .inr ⟨_, _, rfl, rfl, by omega, q _ B H (Al.refl s) (.str _)⟩
    · cases e1
  · cases e1
theorem oi_mul {X : Cx} : OpR X (inplaceOp .Mult) (rI CMulW fun i j => .int (i * j)) := opI fun _ _ _ _ _ _ _ hc q => PyProof.Rows.imul_int q hc.ok
def dMulI : D → D → Option D
  | .int i, .int j => if smallMul i j then some (.int (i * j)) else none
  | _, _ => none
theorem rei_mul : Real2 K mg (rI CMulW fun i j => .int (i * j)) dMulI := realI fun d e z h => by
  unfold dMulI at h
  split at h
  · split at h
    · rename_i i j hs
      have hs' : i.natAbs.log2 + j.natAbs.log2 < 1000000 := of_decide_eq_true hs
      cases h
      exact ⟨_, _, rfl, rfl, hs', rfl⟩
    · cases h
  · cases h
theorem oi_div {X : Cx} : OpR X (inplaceOp .FloorDiv) (rI CDivG fun i j => .int (i.fdiv j)) := opI fun _ _ _ _ _ _ _ hc q => PyProof.Rows.ifloordiv_int hc.1 q (.inl (PyProof.noPylong_of_log2 hc.2))

/-! ### dict displays -/
def pDisp : List (M D × M D) → M (List (Key × D))
  | [] => M.pure []
  | (mk, mv) :: r => mk.bind fun k => mv.bind fun v => (pDisp r).bind fun ps => ofO ((toKey k).map fun k => (k, v) :: ps)
def eDisp (ms : List (M D × M D)) : M D := (pDisp ms).bind fun ps => ofO (if ps.length ≤ 15 then some (.dK (ps.foldl (fun acc kv => dPutL acc kv.1 kv.2) [])) else none)
end
section
variable {X : Cx} {W : WX} {K : PySem.W.Frag} {mg : Str → Option Value}
def RPs (K : PySem.W.Frag) (mg : Str → Option Value) : L2.St → Hp → List (V × V) → List (Key × D) → Prop := fun _ B vs ps => ∃ kvs : List (Key × V), vs = kvs.map (fun kv => (kV kv.1, kv.2)) ∧ RKv K mg B kvs ps
structure SPs (X : Cx) (W : WX) (pos : Pos) (keys : List (Option Expr)) (values : List Expr) (trs : List (TE × TE)) (ms : List (M D × M D)) : Prop where
  pp : PPs X pos keys values trs
  rx : RX X.K X.mg W (RPs X.K X.mg) (tPairs trs) (pDisp ms)
theorem sps_nil {pos : Pos} : SPs X W pos [] [] [] [] := ⟨pps_nil, fun σ0 B H σ env sm Q post => post.val sm ⟨[], rfl, .nil⟩⟩
theorem sps_cons {pos : Pos} {k v : Expr} {ks : List (Option Expr)} {vs : List Expr} {tk tv : TE} {mk mv : M D} {trs : List (TE × TE)} {ms : List (M D × M D)} (hk : SE X W k tk mk) (hv : SE X W v tv mv) (hr : SPs X W pos ks vs trs ms) :
    SPs X W pos (some k :: ks) (v :: vs) ((tk, tv) :: trs) ((mk, mv) :: ms) := by
  refine ⟨pps_cons hk.pe hv.pe hr.pp, fun σ0 B H σ env sm Q post => ?_⟩
  show tk σ H fun x H1 => tv σ H1 fun y H2 => tPairs trs σ H2 fun ps H3 => Q ((x, y) :: ps) H3
  refine hk.rx.go sm post fun x k B1 H1 env1 sm1 g1 r1 post1 => ?_
  refine hv.rx.go sm1 post1 fun y v B2 H2 env2 sm2 g2 r2 post2 => ?_
  refine hr.rx.go sm2 post2 fun ps qs B3 H3 env3 sm3 g3 r3 post3 => ?_
  cases e : toKey k with
  | none => rw [e] at post3; exact post3.elim
  | some kk =>
    rw [e] at post3
    obtain ⟨kvs, rfl, rk⟩ := r3
    refine post3.val sm3 ⟨(kk, y) :: kvs, ?_, .cons (Rep.mono g3 r2) rk⟩
    rw [List.map_cons, ← toKey_rep e r1]
theorem merge_rep {B : Hp} : ∀ {more : List (Key × V)} {ms : List (Key × D)} {vs : List (Key × V)} {ds : List (Key × D)}, RKv K mg B more ms → RKv K mg B vs ds → RKv K mg B (mergeK vs more) (ms.foldl (fun acc kv => dPutL acc kv.1 kv.2) ds) := by
  intro more ms vs ds h g
  induction more generalizing ms vs ds with
  | nil =>
    cases ms with
    | nil => exact g
    | cons _ _ => cases h.1
  | cons x more ih =>
    cases ms with
    | nil => cases h.1
    | cons y ms =>
      obtain ⟨k, v⟩ := x
      obtain ⟨k', d⟩ := y
      obtain ⟨e, r⟩ := h
      rw [List.map_cons, List.map_cons] at e
      injection e with e1 e2
      have e1 : k = k' := e1
      subst e1
      cases r with
      | cons r1 r2 => exact ih (ms := ms) (vs := putK vs k v) (ds := dPutL ds k d) ⟨e2, r2⟩ (g.put k r1)
theorem sn_disp {pos : Pos} {keys : List (Option Expr)} {values : List Expr} {trs : List (TE × TE)} {ms : List (M D × M D)} (hc : X.calm = true) (h : SPs X W pos keys values trs ms) (hall : keys.all (·.isSome) = true := by rfl) (hl : keys.length = values.length := by rfl) (h0 : keys ≠ [] := by exact fun z => by cases z) (h15 : keys.length ≤ 15 := by decide) : SN X W (.Dict keys values pos) (tDisp trs) (eDisp ms) := by
  refine ⟨pe_disp h.pp hall hl h0 h15, fun σ0 B H σ env sm Q post p hp => ?_⟩
  have hbp := sm.sub.none hp
  have hno : ¬ Owned σ env p := fun z => by
    obtain ⟨⟨o, ho⟩, _⟩ := sm.own_there z
    rw [hp] at ho; cases ho
  have sm1 : Sm X.K X.mg σ0 B (upd H p (.dK [])) σ env := sm.atD hbp hno (fun _ z => by rw [hp] at z; cases z)
  have post0 : PostN X.K X.mg W σ0 σ env B H ((pDisp ms env).bind fun ps => ofO (if ps.length ≤ 15 then some (.dK (ps.foldl (fun acc kv => dPutL acc kv.1 kv.2) [])) else none)) Q := post
  refine h.rx σ0 B _ σ env sm1 _ ?_
  cases e : pDisp ms env with
  | stuck => rw [e] at post0; exact post0
  | exn x env' =>
    rw [e] at post0
    intro cls d B' H' s' m' o' ex
    exact post0 cls d B' H' ⟨s'.grow, fun a o q => by
      rcases s'.new a o q with z | z | z
      · exact .inl z
      · by_cases ea : a = p
        · subst ea; rw [upd_same] at z; cases z
        · rw [upd_ne ea] at z; exact .inr (.inl z)
      · exact .inr (.inr z), fun a o q n => s'.frame a o (by rw [upd_ne (ne_of_none q hp)]; exact q) n, fun a o q => s'.there a o (by rw [upd_ne (ne_of_none q hp)]; exact q), fun a ob o q => s'.lk a ob o (by rw [upd_ne (ne_of_none q hp)]; exact q)⟩ m' o' ex
  | ok ps env' =>
    rw [e] at post0
    intro vs B' H' s' m' o' ⟨kvs, ev, rk⟩
    have post1 : PostN X.K X.mg W σ0 σ env B H (ofO (if ps.length ≤ 15 then some (D.dK (ps.foldl (fun acc kv => dPutL acc kv.1 kv.2) [])) else none) env') Q := post0
    by_cases hl15 : ps.length ≤ 15
    · rw [if_pos hl15] at post1
      have hHp : H' p = some (.dK []) := (s'.frameO m'.sub hbp upd_same (fun _ z => by cases z) hno).1
      have hB'p : B' p = none := by
        cases q : B' p with
        | none => rfl
        | some u =>
          rcases s'.new p u q with z | z | z
          · rw [hbp] at z; cases z
          · rw [upd_same] at z; cases z
          · exact (no_tup m'.sub hHp (fun _ z => by cases z) q z).elim
      refine ⟨hHp, kvs, ev, by rw [rk.length]; exact hl15, ?_⟩
      have rm := merge_rep rk (RKv.nil (K := X.K) (mg := X.mg) (B := B') (κ := Key))
      have hno' : ¬ Owned σ env' p := fun z => hno (o'.owned z)
      refine post1 p B' _ ⟨s'.grow, fun a o q => ?_, fun a o q n => ?_, fun a o q => ?_, fun a ob o q => ?_⟩ (m'.atD hB'p hno' (fun _ z => by rw [hHp] at z; cases z)) o' (.dK upd_same rm.1 rm.2) hB'p hp
      · rcases s'.new a o q with z | z | z
        · exact .inl z
        · by_cases ea : a = p
          · subst ea; exact .inr (.inl hp)
          · rw [upd_ne ea] at z; exact .inr (.inl z)
        · exact .inr (.inr z)
      · exact (s'.frame a o (by rw [upd_ne (ne_of_none q hp)]; exact q) n).to (fun _ z => z) fun _ z => by rw [upd_ne (ne_of_none q hp)]; exact z
      · rw [upd_ne (ne_of_none q hp)]
        exact s'.there a o (by rw [upd_ne (ne_of_none q hp)]; exact q)
      · rw [upd_ne (ne_of_none q hp)]
        exact s'.lk a ob o (by rw [upd_ne (ne_of_none q hp)]; exact q)
    · rw [if_neg hl15] at post1; exact post1.elim
end
end Mi

/-! The mirror layer 12: methods of texts; the law's end. -/
namespace Mi
open PySem L2
variable [Tabs]
section
variable {X : Cx} {W : WX} {K : PySem.W.Frag} {mg : Str → Option Value} {o e : Expr} {to te : TE} {mo me : M D} {pos apos : Pos}
def RealM (K : PySem.W.Frag) (mg : Str → Option Value) (r : V → List V → Hp → VK → Prop) (f : Str → D → Option D) : Prop :=
  ∀ (B H : Hp) (a : Str) (y : V) (d z : D), Sub B H → Rep K mg B y d → f a d = some z → ∀ Q : VK, (∀ v B' H', Al B H B' H' → Rep K mg B' v z → Q v H') → r (.str a) [y] H Q
def eM1 (f : Str → D → Option D) (ma mb : M D) : M D := ma.bind fun d => match d with
  | .str a => mb.bind fun c => ofO (f a c)
  | _ => fun _ => .stuck
theorem rx_m1 {r : V → List V → Hp → VK → Prop} {f : Str → D → Option D} (hf : RealM K mg r f) (ho : RX K mg W (RD K mg) to mo) (he : RX K mg W (RD K mg) te me) : RX K mg W (RD K mg) (tM1 r to te) (eM1 f mo me) := by
  refine ho.bind (t2 := fun x σ H1 (Q : VK) => (∃ a, x = V.str a) ∧ te σ H1 fun y H2 => r x [y] H2 Q) fun v d σ0 B H σ env sm rr Q post => ?_
  have hd : ∃ a, d = .str a := by
    cases d <;> first | exact ⟨_, rfl⟩ | exact post.elim
  obtain ⟨a, rfl⟩ := hd
  cases rr
  refine ⟨⟨a, rfl⟩, ?_⟩
  refine he.go sm post fun w c B1 H1 env1 sm1 g1 r1 post1 => ?_
  cases e1 : f a c with
  | none => rw [e1] at post1; exact post1.elim
  | some z =>
    rw [e1] at post1
    exact hf B1 H1 a w c z sm1.sub r1 e1 Q fun u B' H' l ru => post1.al sm1 l ru
theorem se_m1 {id : String} {name : Str} {r : V → List V → Hp → VK → Prop} {f : Str → D → Option D} (slot : PySem.Slot "str" name id) (ty : typeOf (.builtin id) = pure (.type "method_descriptor")) (rule : MtR X id r) (hf : RealM X.K X.mg r f) (ho : SE X W o to mo) (he : SE X W e te me)
    (hs : starEach [e] X.env = [(false, eval e X.env)] := by rfl) (hbase : attributeBase o name X.env (eval o X.env) = eval o X.env := by rfl) (hline : (apos.endLine == pos.line) = true := by rfl) :
    SE X W (.Call (.Attribute o name apos) [e] [] pos) (tM1 r to te) (eM1 f mo me) := ⟨pe_m1 slot ty rule ho.pe he.pe hs hbase hline, rx_m1 hf ho.rx he.rx⟩
/-- s.index(t), found -/
def dSIndex (a : Str) : D → Option D
  | .str b => match Builtin.Str.occurrences a b 0 a.length 1 with
    | i :: _ => some (.int (i : Nat))
    | [] => none
  | _ => none
theorem re_sindex : RealM K mg (fun x xs H Q => ∃ a b i rest, x = .str a ∧ xs = [.str b] ∧ Builtin.Str.occurrences a b 0 a.length 1 = i :: rest ∧ Q (.int (i : Nat)) H) dSIndex := by
  intro B H a y d z s r e Q q
  cases d with
  | str b =>
    cases r
    have e : (match Builtin.Str.occurrences a b 0 a.length 1 with
      | i :: _ => some (D.int (i : Nat))
      | [] => none) = some z := e
    cases h : Builtin.Str.occurrences a b 0 a.length 1 with
    | nil => rw [h] at e; cases e
    | cons i rest =>
      rw [h] at e
      cases e
      exact ⟨a, b, i, rest, rfl, rfl, h, q _ B H (Al.refl s) (.int _)⟩
  | _ => cases e
end
section
variable {X : Cx} {W : WX} {e a : Expr} {te ta : TE} {me ma : M D} {pos pos' p apos : Pos} {x : Str} {tg : Expr}
theorem se_lenO (i : Nat) (hm : X.mg "len" = none) (hN : X.N[i]? = some x := by rfl) (hv : Vis X.env.scope x := by first | exact Or.inl rfl | exact Or.inr (Or.inl rfl) | exact Or.inr (Or.inr rfl)) (hd : (x == ("__debug__" : Str)) = false := by decide)
    (hcd : (x == ("__classdict__" : Str)) = false := by decide) (hg : Gl X "len" := by rfl) (hb : bootBuiltins "len" = some (.builtin "len") := by decide +kernel) (hs : starEach [.Name x p] X.env = (false, eval (.Name x p) X.env) :: starEach [] X.env := by rfl) :
    SE X W (.Call (.Name "len" pos') [.Name x p] [] pos) (tCB (fun xs H Q => ∃ x n, xs = [x] ∧ LenV X.K x H n ∧ Q (.int n) H) (tCons (tVar i) tNil)) (eLenO i) := ⟨pe_callB call_len hg hm hb (pa_cons (pe_var hN hv hd hcd) pa_nil hs) (by decide) (by decide) hs (by rfl), rx_lenO⟩
theorem se_tupO (i : Nat) (hm : X.mg "tuple" = none) (hN : X.N[i]? = some x := by rfl) (hv : Vis X.env.scope x := by first | exact Or.inl rfl | exact Or.inr (Or.inl rfl) | exact Or.inr (Or.inr rfl)) (hd : (x == ("__debug__" : Str)) = false := by decide)
    (hcd : (x == ("__classdict__" : Str)) = false := by decide) (hg : Gl X "tuple" := by rfl) (hb : bootBuiltins "tuple" = some (.type "tuple") := by decide +kernel) (hs : starEach [.Name x p] X.env = (false, eval (.Name x p) X.env) :: starEach [] X.env := by rfl) :
    SE X W (.Call (.Name "tuple" pos') [.Name x p] [] pos) (tCB (fun xs H Q => ∃ p ys, xs = [.ref p] ∧ ((SqL X.K H p ys ∧ ∀ l, H l = none → Q (.ref l) (upd H l (.tup ys))) ∨ (SqT X.K H p ys ∧ Q (.ref p) H))) (tCons (tVar i) tNil)) (eTupO i) := ⟨pe_callTy call_tuple_of hg hm hb (pa_cons (pe_var hN hv hd hcd) pa_nil hs) (by decide) (by decide) hs (by rfl), rx_tupO⟩
def eListOf (m : M D) : M D := m.bind fun d => ofO (dListOf d)
theorem sn_listOf (hm : X.mg "list" = none) (h : SE X W e te me) (hg : Gl X "list" := by rfl) (hb : bootBuiltins "list" = some (.type "list") := by decide +kernel) (hs : starEach [e] X.env = (false, eval e X.env) :: starEach [] X.env := by rfl) :
    SN X W (.Call (.Name "list" pos') [e] [] pos) (tCB (fun xs H Q => ∃ p ys, xs = [.ref p] ∧ (SqL X.K H p ys ∨ SqT X.K H p ys) ∧ ∀ l, H l = none → Q (.ref l) (upd H l (.lst ys))) (tCons te tNil)) (eListOf me) := ⟨pe_callTy call_list_of hg hm hb (pa_cons h.pe pa_nil hs) (by decide) (by decide) hs (by rfl), rn_listOf h.rx⟩
theorem si_s (h : SE X W e te me) : SI X W tg e (iStr te) (iS me) := ⟨pi_str h.pe, (rx_is h.rx).ri⟩
theorem se_inO (i : Nat) (h : SE X W a ta ma) (hN : X.N[i]? = some x := by rfl) (hv : Vis X.env.scope x := by first | exact Or.inl rfl | exact Or.inr (Or.inl rfl) | exact Or.inr (Or.inr rfl)) (hd : (x == ("__debug__" : Str)) = false := by decide)
    (hcd : (x == ("__classdict__" : Str)) = false := by decide) (hm : behindInMarks .In (.Name x p) = false := by with_unfolding_all rfl) : SE X W (.Compare a [.In] [.Name x p] pos) (tOp (rInA X.K) ta (tVar i)) (eInO dIn ma i) := ⟨pe_cmpR or_in h.pe (pe_var hN hv hd hcd) hm, rx_inO h.rx⟩
theorem se_notInO (i : Nat) (h : SE X W a ta ma) (hN : X.N[i]? = some x := by rfl) (hv : Vis X.env.scope x := by first | exact Or.inl rfl | exact Or.inr (Or.inl rfl) | exact Or.inr (Or.inr rfl)) (hd : (x == ("__debug__" : Str)) = false := by decide)
    (hcd : (x == ("__classdict__" : Str)) = false := by decide) (hm : behindInMarks .NotIn (.Name x p) = false := by with_unfolding_all rfl) : SE X W (.Compare a [.NotIn] [.Name x p] pos) (tOp (rNotInA X.K) ta (tVar i)) (eInO dNotIn ma i) := ⟨pe_cmpR or_notIn h.pe (pe_var hN hv hd hcd) hm, rx_notInO h.rx⟩
theorem st_inO (i : Nat) (h : SE X W a ta ma) (hN : X.N[i]? = some x := by rfl) (hv : Vis X.env.scope x := by first | exact Or.inl rfl | exact Or.inr (Or.inl rfl) | exact Or.inr (Or.inr rfl)) (hd : (x == ("__debug__" : Str)) = false := by decide)
    (hcd : (x == ("__classdict__" : Str)) = false := by decide) (hm : behindInMarks .In (.Name x p) = false := by with_unfolding_all rfl) : ST X W (.Compare a [.In] [.Name x p] pos) (tTest (tOp (rInA X.K) ta (tVar i))) (eTest (eInO dIn ma i)) := ⟨pt_cmpR or_in h.pe (pe_var hN hv hd hcd) hm, rx_tTest (rx_inO h.rx)⟩
theorem st_notInO (i : Nat) (h : SE X W a ta ma) (hN : X.N[i]? = some x := by rfl) (hv : Vis X.env.scope x := by first | exact Or.inl rfl | exact Or.inr (Or.inl rfl) | exact Or.inr (Or.inr rfl)) (hd : (x == ("__debug__" : Str)) = false := by decide)
    (hcd : (x == ("__classdict__" : Str)) = false := by decide) (hm : behindInMarks .NotIn (.Name x p) = false := by with_unfolding_all rfl) : ST X W (.Compare a [.NotIn] [.Name x p] pos) (tTest (tOp (rNotInA X.K) ta (tVar i))) (eTest (eInO dNotIn ma i)) := ⟨pt_cmpR or_notIn h.pe (pe_var hN hv hd hcd) hm, rx_tTest (rx_notInO h.rx)⟩
theorem ss_app {cpos : Pos} (i : Nat) (h : SE X W e te me) (hN : X.N[i]? = some x := by rfl) (hv : Vis X.env.scope x := by first | exact Or.inl rfl | exact Or.inr (Or.inl rfl) | exact Or.inr (Or.inr rfl)) (hd : (x == ("__debug__" : Str)) = false := by decide)
    (hcd : (x == ("__classdict__" : Str)) = false := by decide) (hbase : attributeBase (.Name x p) "append" X.env (eval (.Name x p) X.env) = eval (.Name x p) X.env := by rfl)
    (hfew : ((backTo cpos (starEach [e] X.env)).all (fun x => !x.1) && (backToKw cpos (keywordEach [] X.env)).all (fun x => x.1.isSome)
      && decide ([e].length + ([] : List Keyword).length + (if ([] : List Keyword).isEmpty then 0 else 1) < 30)) = true := by rfl)
    (hline : (apos.endLine == cpos.line) = true := by rfl) (hs : starEach [e] X.env = (false, eval e X.env) :: starEach [] X.env := by rfl) (hsw : swapsWith (.Call (.Attribute (.Name x p) "append" apos) [e] [] cpos) none pos.line X.env = pure false := by rfl) :
    SS X W (.Expr (.Call (.Attribute (.Name x p) "append" apos) [e] [] cpos) pos) (tDrop (tBM X.K "list" rAppend (tVar i) (tCons te tNil))) (mApp i me) :=
  ⟨ps_expr (pe_bm PySem.F.plainAttrs_list PySem.F.slot_list_append PySem.F.type_list_append (fun pins s σ H x xs v us Q I r1 r2 h => mt_append pins s σ H x xs v us Q I r1 r2 h) (pe_var hN hv hd hcd) (pa_cons h.pe pa_nil hs) hbase hfew hline hs (by rfl)) hsw, rs_app h.rx⟩
end
section
variable {X : Cx} {W : WX} {pos : Pos} {x : Str}
theorem se_gi {i : Int} {t : Tok} (hm : X.mg x = some (.int i t)) (hg : Gl X x := by rfl) (hd : (x == ("__debug__" : Str)) = false := by decide) : SE X W (.Name x pos) (tC (.int i)) (eC (.int i)) := se_g (.int i) hm ⟨t, rfl⟩ (fun _ => .int i) hg hd
theorem se_gs {z : Str} {t : Tok} (hm : X.mg x = some (.str z t)) (hg : Gl X x := by rfl) (hd : (x == ("__debug__" : Str)) = false := by decide) : SE X W (.Name x pos) (tC (.str z)) (eC (.str z)) := se_g (.str z) hm ⟨t, rfl⟩ (fun _ => .str z) hg hd
end
/-- the law's promise -/
def spLaw (n : Nat) (K : PySem.W.Frag) : Sp := fun vs H Q _ => ∃ (a : Addr) (ns : List Int), vs = [.ref a] ∧ ns.length ≤ n ∧ SqL K H a (ns.map V.int) ∧ (∀ P ∈ Tabs.ps, GxR.TabG H P) ∧ ∀ H', Q (.bl true) H'
theorem reps_ints {K : PySem.W.Frag} {mg : Str → Option Value} {B : Hp} : ∀ ns : List Int, Reps K mg B (ns.map V.int) (ns.map D.int)
  | [] => .nil
  | n :: ns => .cons (.int n) (reps_ints ns)
/-- without the tables -/
def noT (H : Hp) : Hp := fun a => match H a with
  | some (.tbl _) => none
  | o => o
theorem noT_some {H : Hp} {a : Addr} {o : HO} (h : noT H a = some o) : H a = some o := by
  unfold noT at h
  split at h
  · cases h
  · exact h
theorem noT_sql {K : PySem.W.Frag} {H : Hp} {a : Addr} {xs : List V} (h : SqL K H a xs) : SqL K (noT H) a xs := by
  rcases h with (h | ⟨o, h⟩) | h
  · exact .inl (.inl (by unfold noT; rw [h]))
  · exact .inl (.inr ⟨o, by unfold noT; rw [h]⟩)
  · exact .inr h
theorem law_sp {n : Nat} {K : PySem.W.Frag} {mg : Str → Option Value} {mf : List Slot → Fin} (h : ∀ ns : List Int, ns.length ≤ n → mf [.shr (.frz (ns.map D.int))] = .ret false (.bl true) []) : ∀ vs H Q E, spLaw n K vs H Q E → SpM K mg 1 mf vs H Q E := by
  rintro vs H Q E ⟨a, ns, rfl, hn, hS, tb, q⟩
  refine ⟨rfl, noT H, [.shr (.frz (ns.map D.int))], ⟨fun P hP => ⟨tb P hP, by obtain ⟨ps, e, _⟩ := tb P hP; unfold noT; rw [e]⟩, fun _ _ h => .inl (noT_some h), rfl, fun i s e => ?_, fun i j p d p' d' a' e => ?_⟩, fun p d hm => ?_, ?_⟩
  · cases i with
    | zero => cases e; exact ⟨_, rfl, .frz (noT_sql hS) (reps_ints ns)⟩
    | succ i => cases e
  · cases i with
    | zero => cases e
    | succ i => cases e
  · cases List.mem_singleton.mp hm
  · rw [h ns hn]
    intro v B' H' _ _ _ r
    cases r
    exact q H'
end Mi

/-! The mirror layer 13: instances, their fields, how they are made. -/
namespace Mi
open PySem L2
variable [Tabs]
def fPut (f : Str) (z : D) : List (Str × D) → List (Str × D)
  | [] => [(f, z)]
  | (g, x) :: r => if g = f then (g, z) :: r else (g, x) :: fPut f z r
section
variable {K : PySem.W.Frag} {mg : Str → Option Value} {B : Hp} {f : Str}
theorem fld_look : ∀ {fs : List (Str × V)} {ds : List (Str × D)} {z : D}, fs.map Prod.fst = ds.map Prod.fst → Reps K mg B (fs.map Prod.snd) (ds.map Prod.snd) → ds.lookup f = some z → ∃ v, fs.lookup f = some v ∧ Rep K mg B v z
  | [], [], _, _, _, h => by cases h
  | (g, v) :: fs, (g', d) :: ds, z, e, r, h => by
    have e1 : g = g' := (List.cons.inj e).1
    have e2 := (List.cons.inj e).2
    subst e1
    cases r with
    | cons r0 rs =>
      by_cases c : f = g
      · have hb : (f == g) = true := beq_iff_eq.mpr c
        simp only [List.lookup, hb] at h ⊢
        cases h
        exact ⟨_, rfl, r0⟩
      · have hb : (f == g) = false := beq_eq_false_iff_ne.mpr c
        simp only [List.lookup, hb] at h ⊢
        exact fld_look e2 rs h
  | [], _ :: _, _, e, _, _ => by cases e
  | _ :: _, [], _, e, _, _ => by cases e
theorem fld_put : ∀ {fs : List (Str × V)} {ds : List (Str × D)} {v : V} {z : D}, fs.map Prod.fst = ds.map Prod.fst → Reps K mg B (fs.map Prod.snd) (ds.map Prod.snd) → Rep K mg B v z →
    (putF f v fs).map Prod.fst = (fPut f z ds).map Prod.fst ∧ Reps K mg B ((putF f v fs).map Prod.snd) ((fPut f z ds).map Prod.snd)
  | [], [], _, _, _, _, q => ⟨rfl, .cons q .nil⟩
  | (g, v0) :: fs, (g', d) :: ds, v, z, e, r, q => by
    have e1 : g = g' := (List.cons.inj e).1
    have e2 := (List.cons.inj e).2
    subst e1
    cases r with
    | cons r0 rs =>
      show ((if g = f then (g, v) :: fs else (g, v0) :: putF f v fs).map Prod.fst = (if g = f then (g, z) :: ds else (g, d) :: fPut f z ds).map Prod.fst) ∧ Reps K mg B ((if g = f then (g, v) :: fs else (g, v0) :: putF f v fs).map Prod.snd) ((if g = f then (g, z) :: ds else (g, d) :: fPut f z ds).map Prod.snd)
      by_cases c : g = f
      · rw [if_pos c, if_pos c]
        exact ⟨by rw [List.map_cons, List.map_cons, e2], .cons q rs⟩
      · rw [if_neg c, if_neg c]
        obtain ⟨h1, h2⟩ := fld_put e2 rs q
        exact ⟨by rw [List.map_cons, List.map_cons, h1], .cons r0 h2⟩
  | [], _ :: _, _, _, e, _, _ => by cases e
  | _ :: _, [], _, _, e, _, _ => by cases e
theorem putF_len : ∀ {fs : List (Str × V)} {ds : List (Str × D)}, fs.map Prod.fst = ds.map Prod.fst → fs.length = ds.length := fun h => by
  have := congrArg List.length h
  simpa using this
end
def fGet (c f : Str) : D → Option D
  | .ins c' fs => if c' = c then fs.lookup f else none
  | _ => none
def eFld (c f : Str) (m : M D) : M D := m.bind fun d => ofO (fGet c f d)
section
variable {X : Cx} {W : WX} {K : PySem.W.Frag} {mg : Str → Option Value} {e : Expr} {te : TE} {me : M D} {pos pos' p1 : Pos} {c f x : Str} {C : Addr}
theorem fGet_some {d z : D} (h : fGet c f d = some z) : ∃ fs, d = .ins c fs ∧ fs.lookup f = some z := by
  unfold fGet at h
  split at h
  · split at h
    · rename_i e; subst e; exact ⟨_, rfl, h⟩
    · cases h
  · cases h
theorem rx_fld (hc : mg c = some (.ref C)) (cl : Cls K C) (na : NoAttr K C f) (h : RX K mg W (RD K mg) te me) : RX K mg W (RD K mg) (tFld K te f) (eFld c f me) := by
  refine h.bind (t2 := fun x σ H Q => ∃ a C dx fs v, x = V.ref a ∧ H a = some (.ins C dx fs) ∧ Cls K C ∧ NoAttr K C f ∧ fs.lookup f = some v ∧ Q v H) fun v d σ0 B H σ env sm r Q post => ?_
  cases h1 : fGet c f d with
  | none => rw [h1] at post; exact post.elim
  | some z =>
    rw [h1] at post
    obtain ⟨ds, rfl, hl⟩ := fGet_some h1
    cases r with
    | ins hb hm hk rs =>
      rw [hc] at hm
      cases hm
      obtain ⟨v, e1, r1⟩ := fld_look hk rs hl
      rcases sm.sub _ _ hb with hh | ⟨hh, _⟩
      · exact ⟨_, _, _, _, v, rfl, hh, cl, na, e1, post.val sm r1⟩
      · exact hh.elim
theorem se_fld (hc : X.mg c = some (.ref C)) (cl : Cls X.K C) (na : NoAttr X.K C f) (h : SE X W e te me) (hb : attributeBase e f X.env (eval e X.env) = eval e X.env := by rfl) : SE X W (.Attribute e f pos) (tFld X.K te f) (eFld c f me) := ⟨pe_fld h.pe hb, rx_fld hc cl na h.rx⟩
def eFldO (c f : Str) (i : Nat) : M D := fun env => match getOwn env i with
  | some d => ofO (fGet c f d) env
  | none => .stuck
theorem se_fldO (i : Nat) (hc : X.mg c = some (.ref C)) (cl : Cls X.K C) (na : NoAttr X.K C f) (hN : X.N[i]? = some x := by rfl) (hv : Vis X.env.scope x := by first | exact Or.inl rfl | exact Or.inr (Or.inl rfl) | exact Or.inr (Or.inr rfl)) (hd : (x == ("__debug__" : Str)) = false := by decide)
    (hcd : (x == ("__classdict__" : Str)) = false := by decide) (hb : attributeBase (.Name x pos') f X.env (eval (.Name x pos') X.env) = eval (.Name x pos') X.env := by rfl) : SE X W (.Attribute (.Name x pos') f pos) (tFld X.K (tVar i) f) (eFldO c f i) := by
  refine ⟨pe_fld (pe_var hN hv hd hcd) hb, ?_⟩
  intro σ0 B H σ env sm Q post
  unfold eFldO at post
  cases e : getOwn env i with
  | none => rw [e] at post; exact post.elim
  | some d =>
    rw [e] at post
    have post : Post X.K X.mg W (RD X.K X.mg) σ0 σ env B H (ofO (fGet c f d) env) Q := post
    obtain ⟨a, p, _, e1, ct, _⟩ := sm.getOwn e
    refine ⟨.ref a, e1, ?_⟩
    cases h1 : fGet c f d with
    | none => rw [h1] at post; exact post.elim
    | some z =>
      rw [h1] at post
      have post2 : Post X.K X.mg W (RD X.K X.mg) σ0 σ env B H (.ok z env) Q := post
      obtain ⟨ds, rfl, hl⟩ := fGet_some h1
      cases ct with
      | ins hb hm hk rs =>
        rw [hc] at hm
        cases hm
        obtain ⟨v, e1, r1⟩ := fld_look hk rs hl
        exact ⟨_, _, _, _, v, rfl, hb, cl, na, e1, post2.val sm r1⟩
/-- self.f = e -/
def mFPut (i : Nat) (c f : Str) (m : M D) : M Fl := m.bind fun d env => match env[i]? with
  | some (some (.own p (.ins c' fs))) => if c' = c ∧ fs.length < 1000 then .ok .nx (env.set i (some (.own p (.ins c' (fPut f d fs))))) else .stuck
  | _ => .stuck
theorem rs_fput {i : Nat} (hc : mg c = some (.ref C)) (cl : Cls K C) (na : NoAttr K C f) (h : RX K mg W (RD K mg) te me) : RS K mg W (sFld K (tVar i) te f) (mFPut i c f me) := by
  intro cc σ0 B H σ env sm fr D post
  refine h.goS sm fr post fun v z B1 H1 env1 sm1 fr1 _ r1 post1 => ?_
  cases e1 : env1[i]? with
  | none => simp only [e1] at post1; exact post1.elim
  | some s =>
    simp only [e1] at post1
    match s, e1, post1 with
    | some (.own p (.ins c' fs)), e1, post1 =>
      by_cases h1 : c' = c ∧ fs.length < 1000
      · have post1 : PostS K mg W cc σ0 (if c' = c ∧ fs.length < 1000 then .ok .nx (env1.set i (some (.own p (.ins c' (fPut f z fs))))) else .stuck) D := post1
        have post3 : PostS K mg W cc σ0 (.ok .nx (env1.set i (some (.own p (.ins c' (fPut f z fs)))))) D := by
          rw [if_pos h1] at post1; exact post1
        obtain ⟨rfl, hlen⟩ := h1
        obtain ⟨v', e2, a, rfl, ct, hb, hp⟩ := sm1.sl i _ e1
        cases ct with
        | @ins C' dx _ gs _ hh hm hk rs =>
          rw [hc] at hm
          cases hm
          obtain ⟨k1, k2⟩ := fld_put (f := f) hk rs r1
          have c3 : Cont K mg B1 (upd H1 a (.ins C dx (putF f v gs))) a (.ins c' (fPut f z fs)) := .ins upd_same hc k1 k2
          exact ⟨.ref a, e2, a, _, _, _, rfl, hh, cl, na, by rw [putF_len hk]; exact hlen, post3 σ B1 _ (sm1.write e1 e2 c3) (fr1.step (stp_write sm1 e1 e2) (osub_write e1).keep)⟩
      · have post1 : PostS K mg W cc σ0 (if c' = c ∧ fs.length < 1000 then .ok .nx (env1.set i (some (.own p (.ins c' (fPut f z fs))))) else .stuck) D := post1
        rw [if_neg h1] at post1; exact post1.elim
theorem ss_fput (i : Nat) (hc : X.mg c = some (.ref C)) (cl : Cls X.K C) (na : NoAttr X.K C f) (h : SE X W e te me) (hN : X.N[i]? = some x := by rfl) (hv : Vis X.env.scope x := by first | exact Or.inl rfl | exact Or.inr (Or.inl rfl) | exact Or.inr (Or.inr rfl)) (hd : (x == ("__debug__" : Str)) = false := by decide)
    (hcd : (x == ("__classdict__" : Str)) = false := by decide) (hs : swapsWith e (some (.Attribute (.Name x p1) f pos')) pos.line X.env = pure false := by rfl) : SS X W (.Assign [.Attribute (.Name x p1) f pos'] e pos) (sFld X.K (tVar i) te f) (mFPut i c f me) :=
  ⟨ps_fld (pe_var hN hv hd hcd) h.pe hs, rs_fput hc cl na h.rx⟩
end
/-! ### C(..) -/
def newR (c : Str) (np : Nat) (mf : List Slot → Fin) (as : List Ar) (env : En) : Res D := if as.length + 1 = np ∧ ioIx as = [] then match slotsOf env as with
    | none => .stuck
    | some args => match mf (.own true (.ins c []) :: args) with
      | .ret false .non [d] => .ok d env
      | _ => .stuck
  else .stuck
def eNew (c : Str) (np : Nat) (mf : List Slot → Fin) (ma : M (List Ar)) : M D := ma.bind (newR c np mf)
section
variable {K : PySem.W.Frag} {mg : Str → Option Value} {W : WX} {c : Str} {C : Addr} {np : Nat} {mf : List Slot → Fin} {tr : TA} {mr : M (List Ar)}
theorem put_nil : ∀ {as : List Ar} {env : En}, ioIx as = [] → putOuts as [] env = some env
  | [], _, _ => rfl
  | .sh _ :: as, env, h => put_nil (as := as) h
  | .io _ :: as, _, h => by cases h
theorem slots_nil : ∀ {as : List Ar} {env : En} {args : List Slot}, ioIx as = [] → slotsOf env as = some args → ∀ p d, Slot.own p d ∉ args
  | [], _, _, _, h => by cases h; intro p d h; cases h
  | .sh z :: as, env, args, hn, h => by
    have h : (slotsOf env as).map (.shr z :: ·) = some args := h
    cases e : slotsOf env as with
    | none => rw [e] at h; cases h
    | some args' =>
      rw [e] at h
      cases h
      intro p d hm
      rcases List.mem_cons.mp hm with z | z
      · cases z
      · exact slots_nil (as := as) hn e p d z
  | .io _ :: as, _, _, h, _ => by cases h
theorem outs_nil {B H : Hp} : ∀ {vs : List V} {args : List Slot}, vs.length = args.length → (∀ p d, Slot.own p d ∉ args) → Outs K mg B H vs args []
  | [], [], _, _ => trivial
  | v :: vs, .shr _ :: as, h, n => outs_nil (vs := vs) (args := as) (by simpa using h) fun p d hm => n p d (List.mem_cons_of_mem _ hm)
  | _ :: _, .own p d :: _, _, n => (n p d List.mem_cons_self).elim
  | [], _ :: _, h, _ => by cases h
  | _ :: _, [], h, _ => by cases h
theorem rn_new (hc : mg c = some (.ref C)) (h : RX K mg W (RAr K mg) tr mr) : RN K mg W (tMake C (SpM K mg np mf) [] E0 tr) (eNew c np mf mr) := by
  intro σ0 B0 H0 σ env0 sm0 Q post0
  refine h.goN sm0 post0 fun vs as B H env sm g r post => ?_
  intro x dx hx hdx hne
  unfold newR at post
  by_cases hcnd : as.length + 1 = np ∧ ioIx as = []
  · rw [if_pos hcnd] at post
    obtain ⟨hnp, hio⟩ := hcnd
    cases es : slotsOf env as with
    | none => simp only [es] at post; exact post.elim
    | some args =>
      simp only [es] at post
      have hnd : (ioIx as).Nodup := by rw [hio]; exact List.nodup_nil
      obtain ⟨sm', _, _, hafter⟩ := call_core sm r es hnd
      have hno := slots_nil hio es
      have hlen : vs.length = args.length := by simpa using sm'.len
      have nB : ∀ a, H a = none → B a = none := fun a ha => by
        cases q : B a with
        | none => rfl
        | some o =>
          rcases sm.sub a o q with z | ⟨_, _, z⟩ <;> rw [ha] at z <;> cases z
      have hH : ∀ a, (∃ o, H a = some o) → (upd (upd H dx (.own x)) x (.ins C dx [])) a = H a := fun a ⟨o, ho⟩ => by
        rw [upd_ne (fun z => by rw [z, hx] at ho; cases ho), upd_ne (fun z => by rw [z, hdx] at ho; cases ho)]
      have hHn : ∀ a, (upd (upd H dx (.own x)) x (.ins C dx [])) a = none → H a = none := fun a ha => by
        cases q : H a with
        | none => rfl
        | some o => rw [hH a ⟨o, q⟩, q] at ha; cases ha
      have mapE : ∀ {α : Type} {l : List α} {i : Nat} {x : α}, (l.map some)[i]? = some (some x) → l[i]? = some x := fun {α l i x} h => by
        rw [List.getElem?_map] at h
        cases e : l[i]? with
        | none => rw [e] at h; cases h
        | some y => rw [e] at h; cases h; rfl
      have only : ∀ (i : Nat) (p : Bool) (d : D), (((Slot.own true (.ins c [])) :: args).map some)[i]? = some (some (Slot.own p d)) → i = 0 := fun i p d e => by
        cases i with
        | zero => rfl
        | succ i => exact (hno p d (List.mem_of_getElem? (mapE (l := args) (i := i) (by simpa using e)))).elim
      rw [List.append_nil]
      refine ⟨by rw [List.length_cons, Ars.length r]; exact hnp, B, .own true (.ins c []) :: args, ⟨fun P hP => ⟨TabG.same (sm.tb P hP).1 fun o q => by rw [hH P ⟨_, q⟩]; exact q, (sm.tb P hP).2⟩, fun a o q => ?_, by simp [hlen], fun i s e => ?_, fun i j p d p' d' a e1 e2 r1 r2 => by rw [only i p d e1, only j p' d' e2]⟩, fun p d hm => ?_, ?_⟩
      · rcases sm.sub a o q with z | ⟨k, ob, z⟩
        · exact .inl (by rw [hH a ⟨_, z⟩]; exact z)
        · exact .inr ⟨k, ob, by rw [hH a ⟨_, z⟩]; exact z⟩
      · cases i with
        | zero =>
          cases e
          exact ⟨.ref x, rfl, x, rfl, .ins upd_same hc rfl .nil, nB x hx, fun _ => rfl⟩
        | succ i =>
          obtain ⟨v, e1, h1⟩ := sm'.sl i s (by simpa using e)
          refine ⟨v, by simpa using e1, ?_⟩
          cases s with
          | shr d => exact h1
          | own p d => exact (hno p d (List.mem_of_getElem? (mapE (l := args) (i := i) (by simpa using e)))).elim
      · rcases List.mem_cons.mp hm with z | z
        · cases z; rfl
        · exact (hno p d z).elim
      · cases em : mf (.own true (.ins c []) :: args) with
        | stuck => simp only [em] at post; exact post.elim
        | exn _ _ => simp only [em] at post; exact post.elim
        | ret b z os =>
          simp only [em] at post
          match b, z, os, post with
          | false, .non, [d], post =>
            have post : PostN K mg W σ0 σ env B H (.ok d env) Q := post
            intro v B' H' stp sub outs rep
            cases rep
            refine ⟨rfl, ?_⟩
            obtain ⟨⟨a, ea, ct, hb⟩, _⟩ := (show (∃ a, V.ref x = V.ref a ∧ Cont K mg B' H' a d ∧ B' a = none) ∧ Outs K mg B' H' vs args [] from outs)
            cases ea
            have own0 : ∀ a, Owned ((V.ref x :: vs).map some) (((Slot.own true (.ins c [])) :: args).map some) a → a = x := fun a ⟨i, p, d, e1, e2⟩ => by
              have := only i p d e1
              subst this
              cases e2; rfl
            have stp2 : ∀ O : Addr → Prop, Stp O B H B' H' := fun O => ⟨stp.grow, fun a o q => (stp.new a o q).imp id fun z => z.imp (hHn a) id, fun a o q n => stp.frame a o (by rw [hH a ⟨o, q⟩]; exact q) (fun z => by
              have := own0 a z
              rw [this, hx] at q
              cases q), fun a o q => stp.there a o (by rw [hH a ⟨o, q⟩]; exact q), fun a ob o q => stp.lk a ob o (by rw [hH a ⟨_, q⟩]; exact q)⟩
            obtain ⟨sm2, os2⟩ := hafter [] env (put_nil hio) B' H' (stp2 _) sub (outs_nil hlen hno)
            exact post x B' H' (stp2 _) sm2 os2 ct hb hx
  · rw [if_neg hcnd] at post; exact post.elim
end
section
variable {X : Cx} {W : WX} {c x : Str} {C f : Addr} {np k : Nat} {fd : FuncData} {ps : List Str} {mf : List Slot → Fin} {e : Expr} {es : List Expr} {tr : TA} {mr : M (List Ar)} {pos p : Pos}
theorem sn_new (M : Mk X.K C f) (F : FnOk X.prog X.w X.K X.mg X.base (L2.CX X.prog X.w) k f fd ps (SpM X.K X.mg np mf)) (hr : Room (k + 1) X.A) (hm : X.mg x = some (.ref C)) (hb : Binds X.K fd ps [])
    (ha : SAr X W (e :: es) tr mr) (hg : Gl X x := by rfl) (hdb : (x == ("__debug__" : Str)) = false := by decide) (he : starEach (e :: es) X.env = (false, eval e X.env) :: starEach es X.env := by rfl) (hpl : (backTo pos (starEach es X.env)).any (·.1) = false := by rfl) :
    SN X W (.Call (.Name x p) (e :: es) [] pos) (tMake C (SpM X.K X.mg np mf) [] E0 tr) (eNew x np mf mr) :=
  ⟨pe_make M F hr hg hm hb .nil (fun _ _ _ _ _ _ _ h => by
    obtain ⟨_, _, _, _, _, _, _, _, _, _, _, _, z⟩ := h
    exact z.elim) ha.pa hdb he hpl, rn_new hm ha.rx⟩
end
end Mi

/-! The mirror layer 14: list.index; a def that calls itself. -/
namespace Mi
open PySem L2
variable [Tabs]
section
variable {P : Program} {w : World} {K : PySem.W.Frag} {mg : Str → Option Value} {base : Heap} {CX : CXT} {k : Nat} {f : Addr} {fd : FuncData} {ps : List Str} {np : Nat}
theorem fn_stuck : FnOk P w K mg base CX k f fd ps (SpM K mg np fun _ => .stuck) := by
  constructor
  · rintro vs H Q E ⟨_, B, args, _, _, h⟩
    exact (h : False).elim
  · intro A outer s H args us vs Q E _ _ _ _ h
    obtain ⟨_, B, args, _, _, h⟩ := h
    exact (h : False).elim
end
section
variable {X : Cx} {W : WX} {K : PySem.W.Frag} {mg : Str → Option Value} {o e : Expr} {to te : TE} {mo me : M D} {pos apos : Pos}
/-- xs.index(y), found -/
def dLIx (d c : D) : Option D := match d with
  | .lst xs => (toVs xs).bind fun us => (toV c).bind fun u => (us.findIdx? fun z => eqV z u).map fun j => .int (j : Nat)
  | .frz xs => (toVs xs).bind fun us => (toV c).bind fun u => (us.findIdx? fun z => eqV z u).map fun j => .int (j : Nat)
  | _ => none
theorem lix_core {B : Hp} {vs : List V} {ds : List D} {y : V} {c z : D} (rs : Reps K mg B vs ds) (r : Rep K mg B y c) (h : ((toVs ds).bind fun us => (toV c).bind fun u => (us.findIdx? fun z => eqV z u).map fun j => D.int (j : Nat)) = some z) :
    ∃ (j : Nat) (w : V), z = .int (j : Nat) ∧ flatV y = true ∧ vs.all flatV = true ∧ vs[j]? = some w ∧ eqV w y = true ∧ ∀ (m : Nat) (w' : V), m < j → vs[m]? = some w' → eqV w' y = false := by
  cases e1 : toVs ds with
  | none => rw [e1] at h; cases h
  | some us =>
    rw [e1] at h
    have h : ((toV c).bind fun u => (us.findIdx? fun z => eqV z u).map fun j => D.int (j : Nat)) = some z := h
    cases e2 : toV c with
    | none => rw [e2] at h; cases h
    | some u =>
      rw [e2] at h
      have h : ((us.findIdx? fun z => eqV z u).map fun j => D.int (j : Nat)) = some z := h
      cases e3 : us.findIdx? fun z => eqV z u with
      | none => rw [e3] at h; cases h
      | some j =>
        rw [e3] at h
        cases h
        obtain ⟨rfl, fy⟩ := toV_rep e2 r
        obtain ⟨rfl, fs⟩ := toVs_rep e1 rs
        obtain ⟨hj, h1, h2⟩ := List.findIdx?_eq_some_iff_getElem.mp e3
        refine ⟨j, vs[j], rfl, fy, fs, List.getElem?_eq_getElem hj, h1, fun m w' hm hw => ?_⟩
        have := h2 m hm
        rw [List.getElem?_eq_getElem (Nat.lt_trans hm hj)] at hw
        cases hw
        simpa using this
def isLs : D → Bool
  | .lst _ => true
  | .frz _ => true
  | _ => false
def eLIx (mo me : M D) : M D := mo.bind fun d => if isLs d = true then me.bind fun b => ofO (dLIx d b) else fun _ => .stuck
theorem rx_lix (ho : RX K mg W (RD K mg) to mo) (he : RX K mg W (RD K mg) te me) : RX K mg W (RD K mg) (tBM K "list" (rIndex K) to (tCons te tNil)) (eLIx mo me) := by
  refine ho.bind (R := RD K mg) (t2 := fun x σ H1 (Q : VK) => tyV K "list" x H1 ∧ tCons te tNil σ H1 fun xs H2 => rIndex K x xs H2 Q) (k := fun d => if isLs d = true then me.bind fun b => ofO (dLIx d b) else fun _ => .stuck) fun v d σ0 B H σ env sm rr Q post => ?_
  have key : ∀ {a : Addr} {vs : List V} {ds : List D}, Post K mg W (RD K mg) σ0 σ env B H (me.bind (fun b => ofO (dLIx d b)) env) Q → SqL K B a vs → Reps K mg B vs ds → v = .ref a → (∀ c, dLIx d c = ((toVs ds).bind fun us => (toV c).bind fun u => (us.findIdx? fun z => eqV z u).map fun j => D.int (j : Nat))) → tyV K "list" v H ∧ tCons te tNil σ H fun xs H2 => rIndex K v xs H2 Q := by
    intro a vs ds post hs rs ev hd
    subst ev
    refine ⟨.inl ⟨rfl, vs, sm.sub.sqL hs⟩, ?_⟩
    refine he.go sm post fun w c B1 H1 env1 sm1 g1 r1 post1 => ?_
    show rIndex K (.ref a) [w] H1 Q
    cases e1 : dLIx d c with
    | none => rw [e1] at post1; exact post1.elim
    | some z =>
      rw [e1] at post1
      obtain ⟨j, u, rfl, fy, fs, h1, h2, h3⟩ := lix_core (rs.mono g1) r1 ((hd c).symm.trans e1)
      exact ⟨a, vs, w, j, u, rfl, rfl, sm1.sub.sqL (sqL_mono g1 hs), fy, fs, h1, h2, h3, post1.val sm1 (.int _)⟩
  cases rr with
  | lst hb rs => exact key post (.inl (.inl hb)) rs rfl fun _ => rfl
  | frz hb rs => exact key post hb rs rfl fun _ => rfl
  | _ => exact (post : False).elim
end
section
variable {X : Cx} {W : WX} {o e : Expr} {to te : TE} {mo me : M D} {cpos apos : Pos}
theorem se_lix (ho : SE X W o to mo) (he : SE X W e te me) (hs : starEach [e] X.env = (false, eval e X.env) :: starEach [] X.env := by rfl) (hbase : attributeBase o "index" X.env (eval o X.env) = eval o X.env := by rfl)
    (hfew : ((backTo cpos (starEach [e] X.env)).all (fun x => !x.1) && (backToKw cpos (keywordEach [] X.env)).all (fun x => x.1.isSome)
      && decide ([e].length + ([] : List Keyword).length + (if ([] : List Keyword).isEmpty then 0 else 1) < 30)) = true := by rfl) (hline : (apos.endLine == cpos.line) = true := by rfl) :
    SE X W (.Call (.Attribute o "index" apos) [e] [] cpos) (tBM X.K "list" (rIndex X.K) to (tCons te tNil)) (eLIx mo me) :=
  ⟨pe_bm PySem.F.plainAttrs_list PySem.F.slot_list_index PySem.F.type_list_index mt_index ho.pe (pa_cons he.pe pa_nil hs) hbase hfew hline hs (by rfl), rx_lix ho.rx he.rx⟩
end
/-! ### tuples of the written part -/
section
variable {X : Cx} {W : WX} {x : Str} {a : Addr} {pos : Pos}
theorem rep_tuple {K : PySem.W.Frag} {mg : Str → Option Value} {a : Addr} {o : Obj} {its : Array Value} {n : Nat} {vs : List V} {ds : List D} (hk : K.lookup a = some o) (hc : o.cls = .type "tuple") (hd : o.data = .seq its n) (hz : its.size ≤ sizeLine) (hv : Vals vs its.toList) (h : ∀ B, Reps K mg B vs ds) :
    ∀ B, Rep K mg B (.ref a) (.ftp ds) := fun B => .ftp (.inr ⟨o, its, n, hk, hc, hd, hz, hv⟩) (h B)
theorem se_gr {d : D} (hm : X.mg x = some (.ref a)) (h : ∀ B, Rep X.K X.mg B (.ref a) d) (hg : Gl X x := by rfl) (hd : (x == ("__debug__" : Str)) = false := by decide) : SE X W (.Name x pos) (tC (.ref a)) (eC d) := se_g d hm rfl h hg hd
end
end Mi

namespace Mi
open PySem L2 PySem.Spec PyProof.Rows
variable [Tabs]
section
variable {X : Cx} {pins : List (Addr × Obj)} {σ : L2.St} {H : Hp} {s : Shared} {d : Addr} {o : Obj}
theorem frzTv {kvs : List (List Key × V)} (I : Inv X pins σ H s) (h : H d = some (.frz o (.dT kvs))) :
    (d == sysModules) = false ∧ s.heap.get? d = some o ∧ o.ExactDict ∧ ∃ (es : Array DictEntry) (ep : Nat), o.data = .dict es ep ∧ es.size = kvs.length ∧
      ∀ (i : Nat) (k : List Key) (v : V), kvs[i]? = some (k, v) → ∃ (en : DictEntry), es[i]? = some en ∧ RelV v en.val := by
  obtain ⟨hd, z, hs, xs, pr, o', es, ep, ho, hx, hdt, he, _⟩ := I.hok d _ h
  rw [hd] at ho
  cases ho
  refine ⟨hs, hd, hx, es, ep, hdt, ?_, fun i k v e => ?_⟩
  · have l1 : es.size = xs.length := size_of_entries he
    have l2 : kvs.length = xs.length := Paired.length pr
    omega
  · obtain ⟨b, hb, e1, e2, e3⟩ := paired_get pr e
    have q := entry_at he i
    rw [hb] at q
    exact ⟨_, q, e3⟩
end
/-- the values of a locked dict with tuple keys -/
def Itdt (d : Addr) (o : Obj) (kvs : List (List Key × V)) : It :=
  ⟨fun i H => H d = some (.frz o (.dT kvs)) ∧ i < kvs.length, fun i H x H' => H' = H ∧ ∃ k, kvs[i]? = some (k, x), fun i H => H d = some (.frz o (.dT kvs)) ∧ kvs.length ≤ i⟩
section
variable {P : Program} {w : World} {K : PySem.W.Frag} {tg : Expr} {d : Addr} {o : Obj} {es : Array DictEntry} {ep : Nat}
theorem turn_valsT {kvs : List (List Key × V)} (it : Addr) (hod : o.data = .dict es ep) : Turn P w K tg (Itdt d o kvs) [it] it (fun i h => h.IsValIter it d i kvs.length ep) where
  mem := by simp
  obj := fun i h st b hb => by
    have e : b = it := by simpa using hb
    subst e
    obtain ⟨oi, e, c, dd⟩ := st
    exact ⟨oi, e, fun v z => by rw [dd] at z; cases z⟩
  keep := fun i h h' st k => st.at fun oi e => k it (by simp) oi e
  item := by
    intro X hP hw hK hc i pins s σ H E I hf st hg
    subst hP hw hK
    obtain ⟨hd, hi⟩ := hg
    obtain ⟨f0, f1, f2, f3, f4, f5⟩ := hf it (by simp)
    obtain ⟨hs, hgd, hx, es', ep', hdt, hsz, ent⟩ := frzTv I hd
    obtain ⟨rfl, rfl⟩ := dict_ep hod hdt
    obtain ⟨⟨k, v⟩, hkv⟩ : ∃ p, kvs[i]? = some p := ⟨kvs[i], List.getElem?_eq_getElem hi⟩
    obtain ⟨en, hen, ru⟩ := ent i k v hkv
    have hlt : i < es'.size := by omega
    have hval : RelV v es'[i].val := by
      have := Array.getElem?_eq_getElem hlt
      rw [hen] at this
      cases this
      exact ru
    rw [← hsz] at st
    refine wpAny_pyNext_values_item_raw st ⟨_, hgd, hx, hdt⟩ hlt fun h' st' sb => ?_
    have I1 : Inv X pins σ H { s with heap := h' } := I.turned (t' := s.toks) (fun b ob hb e => (sb.2 b hb).trans e) f0 f1 f3 f4 f5
    obtain ⟨oi, e, c, dd⟩ := id st'
    refine ⟨_, rfl, go_of (s := { s with heap := h' }) e c dd (by decide) ⟨v, H, I1, hval, ⟨rfl, k, hkv⟩, ?_, fun b hb => (hf b hb).1⟩⟩
    show h'.IsValIter it d (i + 1) kvs.length _
    rw [← hsz]
    exact st'
  done := by
    intro X hP hw hK hc i pins s σ H E I hf st hg
    subst hP hw hK
    obtain ⟨hd, hi⟩ := hg
    obtain ⟨f0, f1, f2, f3, f4, f5⟩ := hf it (by simp)
    obtain ⟨hs, hgd, hx, es', ep', hdt, hsz, ent⟩ := frzTv I hd
    obtain ⟨rfl, rfl⟩ := dict_ep hod hdt
    rw [← hsz] at st
    exact wpAny_pyNext_values_end_raw (I.ok.hd hc) st ⟨_, hgd, hx, hdt⟩ (by omega) fun h' eb => ⟨rfl, I.turned (t' := s.toks) (fun b ob hb e => eb b ob hb e) f0 f1 f3 f4 f5⟩
  self := fun A i s Q E st h => wpAny_pyIter_valiter st h
end
section
variable {X : Cx} {tg e : Expr} {td : TE} {apos cpos : Pos}
def iValsT (td : TE) : TI := fun σ H R => td σ H fun x H1 => ∃ d o kvs, x = .ref d ∧ H1 d = some (.frz o (.dT kvs)) ∧ R (Itdt d o kvs) H1
theorem pi_valuesT (he : PE X e td) (hbase : attributeBase e "values" X.env (eval e X.env) = eval e X.env := by rfl) (hline : (apos.endLine == cpos.line) = true := by rfl) : PI X tg (.Call (.Attribute e "values" apos) [] [] cpos) (iValsT td) := by
  refine ⟨fun pins s σ H R I h => ?_⟩
  refine wpAny_Call_method (T := "dict") (id := "dict.values") hbase rfl hline F.plainAttrs_dict F.slot_dict_values F.type_dict_values (thn (he.run pins s σ H _ I h) fun u s1 ⟨x, H1, I1, rx, d, o, kvs, ex, hd, q⟩ => ?_)
  subst ex
  obtain rfl : u = Value.ref d := rx
  obtain ⟨hs, hgd, hx, es, ep, hdt, hsz, ent⟩ := frzTv I1 hd
  have hm : s1.heap.DictRaw d es ep := ⟨_, hgd, hx, hdt⟩
  refine ⟨hm.typeIs, ?_, ?_⟩
  · intro a ea
    cases ea
    exact ⟨_, hgd, hx.2.1⟩
  have I2 : Inv X pins σ H1 { s1 with heap := s1.heap.push { cls := .type "dict_values", data := .fields #[.ref d] } } := I1.kept (t' := s1.toks) fun b ob q => Heap.get?_push_of_some _ q
  have fin : wpAny (model X.prog X.w) X.A (pyIter (.ref s1.heap.objs.size)) (PIE X pins σ tg R) X.xe { s1 with heap := s1.heap.push { cls := .type "dict_values", data := .fields #[.ref d] } } := by
    refine wpAny_pyIter_values_raw (d := d) ⟨_, Heap.get?_push_size _ rfl, rfl, rfl⟩ (hm.at fun _ q => Heap.get?_push_of_some _ q) (pi_one (tk := s1.toks) I2 _ (turn_valsT _ hdt) ⟨_, Heap.get?_push_size _ rfl, rfl, ?_⟩ q)
    rw [hsz] <;> rfl
  show wpAny _ _ (callWith cpos (.builtin "dict.values") [.ref d] [] []) _ X.xe s1
  exact method_meetsIn F.slot_dict_values F.entry_dict_values rfl (PySem.evalArgs_none ⟨rfl, hm.typeIs, F.args_dict_values_1 _, _, meets_dict_values_raw d hs, ⟨_, _, hm⟩, fin⟩)
end
end Mi

/-! The mirror layer 15: dicts walked: a shared dict is locked for good. -/
namespace Mi
open PySem L2
variable [Tabs]
/-- behind e a thing may be locked -/
def tLkP (te : TE) : TE := fun σ H Q => te σ H fun v H1 => Q v H1 ∨ ∃ d u, H1 d = some u ∧ Mut (some u) ∧ ∀ od, Q v (upd H1 d (.frz od u))
theorem pe_lk {X : Cx} {e : Expr} {te : TE} (h : PE X e te) : PE X e (tLkP te) := ⟨fun pins s σ H Q I hq => by
  refine thn (h.run pins s σ H _ I hq) fun v s1 ⟨x, H1, I1, rx, q⟩ => ?_
  rcases q with q | ⟨d, u, hd, mu, q⟩
  · exact ⟨x, H1, I1, rx, q⟩
  · obtain ⟨od, I2⟩ := I1.lock hd mu
    exact ⟨x, _, I2, rx, q od⟩⟩
section
variable {K : PySem.W.Frag} {mg : Str → Option Value} {σ0 σ : L2.St} {env : En} {B H L : Hp} {c : Ent} {d : Addr} {u : HO} {od : Obj}
theorem Sm.lockD (m : Sm K mg σ0 B H σ env) (hb : B d = some u) (hd : isDct u) : Sm K mg σ0 B (upd H d (.frz od u)) σ env where
  tb := fun P hP => ⟨TabG.upd (m.tb P hP).1 (fun e => by rw [← e, (m.tb P hP).2] at hb; cases hb), (m.tb P hP).2⟩
  sub := fun a o q => by
    by_cases e : a = d
    · subst e; rw [hb] at q; cases q; exact .inr ⟨hd, od, upd_same⟩
    · rw [upd_ne e]; exact m.sub a o q
  len := m.len
  sl := fun i s e => by
    obtain ⟨v, e1, r⟩ := m.sl i s e
    refine ⟨v, e1, ?_⟩
    cases s with
    | shr z => exact r
    | own p z =>
      obtain ⟨x, rfl, ct, hx, hp⟩ := r
      exact ⟨x, rfl, ct.mono (Same.refl _) (upd_ne (by rintro rfl; rw [hb] at hx; cases hx)), hx, hp⟩
  sep := m.sep
theorem Stp.lockD {O : Addr → Prop} (hH : H d = some u) (hb : B d = some u) (hd : isDct u) : Stp O B H B (upd H d (.frz od u)) where
  grow := Same.refl _
  new := fun _ _ q => .inl q
  frame := fun a o q _ => by
    by_cases e : a = d
    · subst e; rw [hH] at q; cases q; exact .inr (.inl ⟨hb, hd, od, upd_same⟩)
    · exact .inl (by rw [upd_ne e]; exact q)
  there := fun a o q => by
    by_cases e : a = d
    · subst e; exact ⟨_, upd_same⟩
    · rw [upd_ne e]; exact ⟨o, q⟩
  lk := fun a ob o q => by
    by_cases e : a = d
    · subst e; rw [hH] at q; cases q; exact hd.elim
    · rw [upd_ne e]; exact q
/-! the things walked -/
def kD : Key → D
  | .inl i => .int i
  | .inr s => .str s
theorem kD_rep {K : PySem.W.Frag} {mg : Str → Option Value} {B : Hp} (k : Key) : Rep K mg B (kV k) (kD k) := by
  cases k with
  | inl i => exact .int i
  | inr s => exact .str s
theorem kDs_rep {K : PySem.W.Frag} {mg : Str → Option Value} {B : Hp} : ∀ ks : List Key, Reps K mg B (ks.map kV) (ks.map kD)
  | [] => .nil
  | k :: ks => .cons (kD_rep k) (kDs_rep ks)
/-- a tuple of H is taken up by B -/
theorem take_tup {B' : Hp} {q : Addr} {k0 : List Key} (s : Sub B' H) (hq : H q = some (.tup (k0.map kV))) : ∃ B'', Al B' H B'' H ∧ Rep K mg B'' (.ref q) (.tup (k0.map kD)) := by
  cases hB : B' q with
  | none =>
    refine ⟨upd B' q (.tup (k0.map kV)), ⟨same_upd hB, fun a o z => ?_, Same.refl _, fun a o z => ?_⟩, .tup upd_same (kDs_rep k0)⟩
    · by_cases e : a = q
      · subst e; rw [upd_same] at z; cases z; exact .inr (.inr trivial)
      · rw [upd_ne e] at z; exact .inl z
    · by_cases e : a = q
      · subst e; rw [upd_same] at z; cases z; exact .inl hq
      · rw [upd_ne e] at z; exact s a o z
  | some o =>
    refine ⟨B', ⟨Same.refl _, fun _ _ h => .inl h, Same.refl _, s⟩, ?_⟩
    rcases s q o hB with z | ⟨_, ob, z⟩
    · rw [hq] at z; cases z; exact .tup hB (kDs_rep k0)
    · rw [hq] at z; cases z
theorem ith_valsT {vs : List (List Key × V)} {ds : List (List Key × D)} (hL : L d = some (.frz od (.dT vs))) (rs : Reps K mg B (vs.map Prod.snd) (ds.map Prod.snd)) : ItH K mg (Itdt d od vs) B L (ds.map Prod.snd) := by
  intro B' H g s lk
  have hd := lk _ _ _ hL
  have hl : vs.length = (ds.map Prod.snd).length := by
    have := rs.length
    simpa using this
  refine ⟨⟨hd, by omega⟩, fun i x hx => ⟨⟨hd, ?_⟩, ?_⟩⟩
  · have := (List.getElem?_eq_some_iff.mp hx).1
    omega
  · rintro v H' ⟨rfl, k, hk⟩
    refine ⟨B', ⟨Same.refl _, fun _ _ h => .inl h, Same.refl _, s⟩, ?_⟩
    obtain ⟨w, e1, r1⟩ := (rs.mono g).get hx
    rw [List.getElem?_map, hk] at e1
    cases e1
    exact r1
theorem ith_keysT {vs : List (List Key × V)} (hL : L d = some (.frz od (.dT vs))) : ItH K mg (Itkt d od vs) B L (vs.map fun kv => .tup (kv.1.map kD)) := by
  intro B' H g s lk
  have hd := lk _ _ _ hL
  refine ⟨⟨hd, by rw [List.length_map]; omega⟩, fun i x hx => ?_⟩
  rw [List.getElem?_map] at hx
  obtain ⟨⟨k0, v0⟩, e0, rfl⟩ := Option.map_eq_some_iff.mp hx
  refine ⟨⟨hd, (List.getElem?_eq_some_iff.mp e0).1⟩, ?_⟩
  rintro x H' ⟨rfl, k, v, q, hk, rfl, hq⟩
  rw [e0] at hk
  cases hk
  exact take_tup s hq
theorem ith_keysK {vs : List (Key × V)} (hL : L d = some (.frz od (.dK vs))) : ItH K mg (Itk d od vs) B L (vs.map fun kv => kD kv.1) := by
  intro B' H g s lk
  have hd := lk _ _ _ hL
  refine ⟨⟨hd, by rw [List.length_map]; omega⟩, fun i x hx => ?_⟩
  rw [List.getElem?_map] at hx
  obtain ⟨⟨k0, v0⟩, e0, rfl⟩ := Option.map_eq_some_iff.mp hx
  refine ⟨⟨hd, (List.getElem?_eq_some_iff.mp e0).1⟩, ?_⟩
  rintro x H' ⟨rfl, k, v, hk, rfl⟩
  rw [e0] at hk
  cases hk
  exact ⟨B', ⟨Same.refl _, fun _ _ h => .inl h, Same.refl _, s⟩, kD_rep k0⟩
theorem ith_valsK {vs : List (Key × V)} {ds : List (Key × D)} (hL : L d = some (.frz od (.dK vs))) (rs : Reps K mg B (vs.map Prod.snd) (ds.map Prod.snd)) : ItH K mg (Itd d od vs) B L (ds.map Prod.snd) := by
  intro B' H g s lk
  have hd := lk _ _ _ hL
  have hl : vs.length = (ds.map Prod.snd).length := by
    have := rs.length
    simpa using this
  refine ⟨⟨hd, by omega⟩, fun i x hx => ⟨⟨hd, ?_⟩, ?_⟩⟩
  · have := (List.getElem?_eq_some_iff.mp hx).1
    omega
  · rintro v H' ⟨rfl, k, hk⟩
    refine ⟨B', ⟨Same.refl _, fun _ _ h => .inl h, Same.refl _, s⟩, ?_⟩
    obtain ⟨w, e1, r1⟩ := (rs.mono g).get hx
    rw [List.getElem?_map, hk] at e1
    cases e1
    exact r1
/-- a shared dict is locked, if it isn't yet -/
theorem lock_core {te : TE} {me : M D} {W : WX} {k : D → Option (List D)} {Q : It → Hp → Prop} {Q' : V → Hp → Prop} (h : RX K mg W (RD K mg) te me) (sm : Sm K mg σ0 B H σ env)
    (post : PostI K mg W σ0 σ env B H ((me env).bind fun d => ofO (k d)) Q)
    (cont : ∀ a d ds u B1 H1, (∀ J B' H', Same B1 B' → Stp (Owned σ env) B1 H1 B' H' → (∀ env1, Sm K mg σ0 B1 H1 σ env1 → Sm K mg σ0 B' H' σ env1) → ItH K mg J B' H' ds → Q J H') → Sub B1 H1 → Rep K mg B1 (.ref a) d → k d = some ds → B1 a = some u → isDct u → (∀ ob, H1 a = some (.frz ob u) → Q' (.ref a) H1) ∧ (H1 a = some u → ∀ od, Q' (.ref a) (upd H1 a (.frz od u))))
    (isd : ∀ v d ds B1, Rep K mg B1 v d → k d = some ds → ∃ a u, v = .ref a ∧ B1 a = some u ∧ isDct u) : tLkP te σ H Q' := by
  refine h σ0 B H σ env sm _ ?_
  cases e : me env with
  | stuck => rw [e] at post; exact post
  | exn x env' => rw [e] at post; exact post
  | ok d env' =>
    rw [e] at post
    intro v B1 H1 s1 m1 o1 r1
    cases e1 : k d with
    | none =>
      have post : PostI K mg W σ0 σ env B H (ofO (k d) env') Q := post
      rw [e1] at post; exact post.elim
    | some ds =>
      have post : PostI K mg W σ0 σ env B H (ofO (k d) env') Q := post
      rw [e1] at post
      obtain ⟨a, u, rfl, hb, hd⟩ := isd v d ds B1 r1 e1
      obtain ⟨c1, c2⟩ := cont a d ds u B1 H1 (fun J B' H' g st hs ith => post J B' H' (s1.trans st fun x z => z) (hs env' m1) o1 ith) m1.sub r1 e1 hb hd
      rcases m1.sub a u hb with z | ⟨_, ob, z⟩
      · refine .inr ⟨a, u, z, ?_, c2 z⟩
        cases u <;> first | trivial | exact hd.elim
      · exact .inl (c1 ob z)
def keysD : D → Option (List D)
  | .dK kvs => some (kvs.map fun kv => kD kv.1)
  | .dT kvs => some (kvs.map fun kv => .tup (kv.1.map kD))
  | _ => none
def valsD : D → Option (List D)
  | .dK kvs => some (kvs.map Prod.snd)
  | .dT kvs => some (kvs.map Prod.snd)
  | _ => none
def iDk (m : M D) : M (List D) := m.bind fun d => ofO (keysD d)
def iDv (m : M D) : M (List D) := m.bind fun d => ofO (valsD d)
theorem fst_kD {B : Hp} {vs : List (Key × V)} {ds : List (Key × D)} (k : vs.map Prod.fst = ds.map Prod.fst) : (ds.map fun kv => kD kv.1) = vs.map fun kv => kD kv.1 := by
  have := congrArg (List.map kD) k
  rw [List.map_map, List.map_map] at this
  exact this.symm
theorem fst_kDT {B : Hp} {vs : List (List Key × V)} {ds : List (List Key × D)} (k : vs.map Prod.fst = ds.map Prod.fst) : (ds.map fun kv => D.tup (kv.1.map kD)) = vs.map fun kv => D.tup (kv.1.map kD) := by
  have := congrArg (List.map fun k : List Key => D.tup (k.map kD)) k
  rw [List.map_map, List.map_map] at this
  exact this.symm
theorem dct_keys {v : V} {d : D} {ds : List D} {B1 : Hp} (r : Rep K mg B1 v d) (h : keysD d = some ds) : ∃ a u, v = .ref a ∧ B1 a = some u ∧ isDct u := by
  cases r with
  | dK hb _ _ => exact ⟨_, _, rfl, hb, trivial⟩
  | dT hb _ _ => exact ⟨_, _, rfl, hb, trivial⟩
  | _ => cases h
theorem dct_vals {v : V} {d : D} {ds : List D} {B1 : Hp} (r : Rep K mg B1 v d) (h : valsD d = some ds) : ∃ a u, v = .ref a ∧ B1 a = some u ∧ isDct u := by
  cases r with
  | dK hb _ _ => exact ⟨_, _, rfl, hb, trivial⟩
  | dT hb _ _ => exact ⟨_, _, rfl, hb, trivial⟩
  | _ => cases h
theorem ri_keys {te : TE} {me : M D} {W : WX} (h : RX K mg W (RD K mg) te me) : RI K mg W (iKeys (tLkP te)) (iDk me) := by
  intro σ0 B H σ env sm Q post
  refine lock_core (k := keysD) h sm post (fun a d ds u B1 H1 go sb r e1 hb hd => ?_) (fun v d ds B1 r e => dct_keys r e)
  cases r with
  | dK hb' k rs =>
    rw [hb'] at hb; cases hb
    cases e1
    rw [fst_kD (B := B1) k] at go
    exact ⟨fun ob z => ⟨a, ob, rfl, .inl ⟨_, z, go _ B1 H1 (Same.refl _) Stp.refl (fun _ m => m) (ith_keysK z)⟩⟩, fun z od => ⟨a, od, rfl, .inl ⟨_, upd_same, go _ B1 _ (Same.refl _) (Stp.lockD z hb' hd) (fun _ m => m.lockD hb' hd) (ith_keysK upd_same)⟩⟩⟩
  | dT hb' k rs =>
    rw [hb'] at hb; cases hb
    cases e1
    rw [fst_kDT (B := B1) k] at go
    exact ⟨fun ob z => ⟨a, ob, rfl, .inr ⟨_, z, go _ B1 H1 (Same.refl _) Stp.refl (fun _ m => m) (ith_keysT z)⟩⟩, fun z od => ⟨a, od, rfl, .inr ⟨_, upd_same, go _ B1 _ (Same.refl _) (Stp.lockD z hb' hd) (fun _ m => m.lockD hb' hd) (ith_keysT upd_same)⟩⟩⟩
  | _ => cases e1
def valsDT : D → Option (List D)
  | .dT kvs => some (kvs.map Prod.snd)
  | _ => none
def valsDK : D → Option (List D)
  | .dK kvs => some (kvs.map Prod.snd)
  | _ => none
def iDvT (m : M D) : M (List D) := m.bind fun d => ofO (valsDT d)
def iDvK (m : M D) : M (List D) := m.bind fun d => ofO (valsDK d)
theorem ri_valsT {te : TE} {me : M D} {W : WX} (h : RX K mg W (RD K mg) te me) : RI K mg W (iValsT (tLkP te)) (iDvT me) := by
  intro σ0 B H σ env sm Q post
  refine lock_core (k := valsDT) h sm post (fun a d ds u B1 H1 go sb r e1 hb hd => ?_) (fun v d ds B1 r e => by cases r with | dT hb _ _ => exact ⟨_, _, rfl, hb, trivial⟩ | _ => cases e)
  cases r with
  | dT hb' k rs =>
    rw [hb'] at hb; cases hb
    cases e1
    exact ⟨fun ob z => ⟨a, ob, _, rfl, z, go _ B1 H1 (Same.refl _) Stp.refl (fun _ m => m) (ith_valsT z rs)⟩, fun z od => ⟨a, od, _, rfl, upd_same, go _ B1 _ (Same.refl _) (Stp.lockD z hb' hd) (fun _ m => m.lockD hb' hd) (ith_valsT upd_same rs)⟩⟩
  | _ => cases e1
theorem ri_valsK {te : TE} {me : M D} {W : WX} (h : RX K mg W (RD K mg) te me) : RI K mg W (iVals (tLkP te)) (iDvK me) := by
  intro σ0 B H σ env sm Q post
  refine lock_core (k := valsDK) h sm post (fun a d ds u B1 H1 go sb r e1 hb hd => ?_) (fun v d ds B1 r e => by cases r with | dK hb _ _ => exact ⟨_, _, rfl, hb, trivial⟩ | _ => cases e)
  cases r with
  | dK hb' k rs =>
    rw [hb'] at hb; cases hb
    cases e1
    exact ⟨fun ob z => ⟨a, ob, _, rfl, z, go _ B1 H1 (Same.refl _) Stp.refl (fun _ m => m) (ith_valsK z rs)⟩, fun z od => ⟨a, od, _, rfl, upd_same, go _ B1 _ (Same.refl _) (Stp.lockD z hb' hd) (fun _ m => m.lockD hb' hd) (ith_valsK upd_same rs)⟩⟩
  | _ => cases e1
end
section
variable {X : Cx} {W : WX} {tg e : Expr} {te : TE} {me : M D} {apos cpos : Pos}
theorem si_dk (h : SE X W e te me) : SI X W tg e (iKeys (tLkP te)) (iDk me) := ⟨pi_keys (pe_lk h.pe), ri_keys h.rx⟩
theorem si_dvT (h : SE X W e te me) (hbase : attributeBase e "values" X.env (eval e X.env) = eval e X.env := by rfl) (hline : (apos.endLine == cpos.line) = true := by rfl) : SI X W tg (.Call (.Attribute e "values" apos) [] [] cpos) (iValsT (tLkP te)) (iDvT me) := ⟨pi_valuesT (pe_lk h.pe) hbase hline, ri_valsT h.rx⟩
theorem si_dvK (h : SE X W e te me) (hbase : attributeBase e "values" X.env (eval e X.env) = eval e X.env := by rfl) (hline : (apos.endLine == cpos.line) = true := by rfl) : SI X W tg (.Call (.Attribute e "values" apos) [] [] cpos) (iVals (tLkP te)) (iDvK me) := ⟨pi_values (pe_lk h.pe) hbase hline, ri_valsK h.rx⟩
end
end Mi

/-! XS1: defs that close over their class; super().__init__(..) to a def, to ValueError's. -/
namespace Mi
open PySem L2
abbrev kEnv (q : Str) (scope : Scope) (L f : Addr) (cd : Value) (cc : Addr) : Env := PySem.W.ksEnv q scope L f cd cc
/-- the context of such a def's body -/
def cxC (CX : CXT) (P : Program) (w : World) (K : PySem.W.Frag) (mg : Str → Option Value) (base : Heap) (N : List Str) (qual : Str) (scope : Scope) (f : Addr) (cd : Value) (cc : Addr) (A : Around) (outer : List Env) (s : Shared) (H : Hp) (E : XK) : Cx where
  prog := P
  w := w
  K := K
  mg := mg
  base := base
  A := A.deeper (kEnv qual scope s.heap.objs.size f cd cc)
  N := N
  s_0 := s
  H_0 := H
  env := kEnv qual scope s.heap.objs.size f cd cc
  outer := outer
  stack := kEnv qual scope s.heap.objs.size f cd cc :: outer
  ex := []
  calm := true
  fn := fun _ => false
  pn := []
  xe := fun e s' => wpAny (model P w) (A.deeper (kEnv qual scope s.heap.objs.size f cd cc)) (leaving (kEnv qual scope s.heap.objs.size f cd cc) e) (fun _ s'' => CX outer H s E e s'') (fun e' s'' => CX outer H s E e' s'') s'
/-- names: the parameters alone -/
structure ScopeC (ps : List Str) (sc : Scope) : Prop where
  kind : sc.kind = .function
  co : sc.isCoroutine = false
  gen : sc.isGenerator = false
  nd : ps.Nodup
  par : ∀ x ∈ ps, sc.names.lookup x = some .local
  nocell : ∀ y ∈ sc.names, y.2 ≠ .cell
  free : ∀ y ∈ sc.names, y.2 = .free → y.1 = "__class__"
  sup : sc.names.lookup ("super" : Str) = some .globalImplicit
  cls : sc.names.lookup ("__class__" : Str) = some .free
structure SupTxt (P : Program) (K : PySem.W.Frag) (mg : Str → Option Value) (D cc f cda : Addr) (qual : Str) (st : Stmt) (fd : FuncData) : Prop where
  fn : ∃ oc od dV kV doc pm an ct osl, fd = PySem.W.ksFn "__init__" qual (defArgs st) (defBody st) (defScope st) dV kV doc pm an (.ref cda) ct cc ∧ K.lookup f = some ⟨oc, od, .func fd, osl⟩
  code : PySem.W.codeIn K (.ref cda) qual = true
  cdo : ∃ ccl cdd vs ccs file tf, K.lookup cda = some ⟨ccl, cdd, .fields vs, ccs⟩ ∧ vs[2]? = some (.str file tf) ∧ ((P.main.file : Str) == file) = true
  cell : ∃ cl cld csl, K.lookup cc = some ⟨cl, cld, .cell (some (.ref D)), csl⟩
  cls : ∃ cdD, PySem.W.clsIn K D = some cdD
  sup : mg "super" = none
  top : (P.main.scope.names.lookup ("super" : Str)).isSome = false
theorem rev_lookup {α : Type} : ∀ {ps : List Str} {us : List α} {i : Nat} {x : Str} {u : α}, ps.Nodup → ps[i]? = some x → us[i]? = some u → (ps.zip us).reverse.lookup x = some u
  | [], _, _, _, _, _, h, _ => by simp at h
  | _ :: _, [], _, _, _, _, _, h => by simp at h
  | p :: ps, w :: us, i, x, u, nd, h1, h2 => by
    obtain ⟨np, nd'⟩ := List.nodup_cons.mp nd
    rw [List.zip_cons_cons, List.reverse_cons]
    have ap : ∀ (l : List (Str × α)) (r : List (Str × α)), (l ++ r).lookup x = (l.lookup x).or (r.lookup x) := by
      intro l r
      induction l with
      | nil => simp
      | cons q l ih =>
        obtain ⟨y, v⟩ := q
        rw [List.cons_append]
        cases e : (x == y) with
        | true => simp [List.lookup, e]
        | false => simp [List.lookup, e, ih]
    rw [ap]
    cases i with
    | zero =>
      have h1 : p = x := by simpa using h1
      have h2 : w = u := by simpa using h2
      subst h1 h2
      have hn : (ps.zip us).reverse.lookup p = none := by
        cases e : (ps.zip us).reverse.lookup p with
        | none => rfl
        | some v =>
          have hm := PySem.mem_of_lookup e
          rw [List.mem_reverse] at hm
          exact absurd (List.of_mem_zip hm).1 np
      rw [hn]
      simp [List.lookup]
    | succ i =>
      rw [rev_lookup (i := i) nd' (by simpa using h1) (by simpa using h2)]
      rfl
theorem cell_one {x : Str} {c cc : Addr} (h : ([(("__class__" : Str), cc)] : List (Str × Addr)).lookup x = some c) : x = "__class__" ∧ c = cc := by
  simp only [List.lookup] at h
  cases e : (x == ("__class__" : Str)) with
  | true => rw [e] at h; cases h; exact ⟨beq_iff_eq.mp e, rfl⟩
  | false => rw [e] at h; cases h
section
variable {CX : CXT} {P : Program} {w : World} {K : PySem.W.Frag} {mg : Str → Option Value} {base : Heap} {ps : List Str} {qual : Str} {scope : Scope} {f cc D : Addr} {cd : Value} {A : Around} {outer : List Env} {s : Shared} {H : Hp} {E : XK} {us : List Value} {vs : List V} {h1 : Heap} {tk : Nat}
theorem inv_startC (S : ScopeC ps scope) (hd : A.handled = none) (e0 : Env0 P w K mg base A outer s H) (hl : vs.length = ps.length) (r : Vals vs us) (hc : ∃ cl cld csl, K.lookup cc = some ⟨cl, cld, .cell (some (.ref D)), csl⟩)
    (hn : h1.Ns s.heap.objs.size (fun x => (ps.zip us).reverse.lookup x)) (hk : ∀ b o, s.heap.get? b = some o → h1.get? b = some o) :
    Inv (cxC CX P w K mg base ps qual scope f cd cc A outer s H E) [] (vs.map some) H { s with heap := h1, toks := tk } := by
  have noA : ∀ b : Addr, b ∉ (cxC CX P w K mg base ps qual scope f cd cc A outer s H E).ex := fun b z => absurd (show b ∈ ([] : List Addr) from z) (by simp)
  obtain ⟨cl, cld, csl, hcc⟩ := hc
  have hcb : base.get? cc = some ⟨cl, cld, .cell (some (.ref D)), csl⟩ := e0.mod.kin _ _ hcc
  have hcs := e0.bs _ _ hcb
  refine ⟨⟨e0.mod, S.kind, rfl, rfl, Nat.le_refl _, fun y z c h1 h2 => ?_, fun y hy => ?_, fun y c z _ => (Bool.false_ne_true z).elim, fun _ => hd, Around.frames_deeper e0.frames, .inr ⟨rfl, rfl⟩, fun b z => absurd z (noA b), e0.bs, e0.bsz, fun b _ _ => noA b, fun b z => absurd z (noA b), e0.funs, e0.frf⟩,
    rfl, e0.bare, Un.kept hk, ⟨_, hn, fun i y v h1 h2 h3 => ?_⟩, fun y c h => ?_, e0.hok.fresh (Nat.le_refl _), fun y c h => ?_, fun p hp => absurd (show p ∈ ([] : List (Addr × Obj)) from hp) (by simp), e0.hok.kept hk, ?_⟩
  · exact (cell_one h1).1.trans (cell_one h2).1.symm
  · have hy : scope.names.lookup y = some .cell ∨ scope.names.lookup y = some .free := hy
    rcases hy with hy | hy
    · exact absurd rfl (S.nocell _ (PySem.mem_of_lookup hy))
    · have := S.free _ (PySem.mem_of_lookup hy) rfl
      have this : y = "__class__" := this
      subst this
      exact ⟨cc, rfl⟩
  · have hi : i < vs.length := by
      have := (List.getElem?_eq_some_iff.mp h2).1
      simpa using this
    have ha : vs[i]? = some v := by
      rw [List.getElem?_map] at h2
      cases e : vs[i]? with
      | none => rw [e] at h2; cases h2
      | some a => rw [e] at h2; cases h2; rfl
    obtain ⟨u, hu, rv⟩ := r.get ha
    exact ⟨u, rv, .inl ⟨S.par y (List.mem_of_getElem? h1), rev_lookup S.nd h1 hu⟩⟩
  · have e := (cell_one h).2
    subst e
    exact ⟨_, _, hk _ _ hcs.1, rfl⟩
  · have e := (cell_one h).2
    subst e
    exact hcs.2
  · show (vs.map some).length = ps.length
    rw [List.length_map]; exact hl
end
section
variable {X : Cx} {pins : List (Addr × Obj)} {σ : L2.St} {H : Hp} {s : Shared} {q n0 : Str} {scope : Scope} {L f cc cda x C D : Addr} {d : Option Addr} {body : List Stmt} {p0 p1 : Pos} {whole : Sem Value} {fd : FuncData} {st : Stmt} {Q : Value → Shared → Prop} {E : Value → Shared → Prop}
/-- super(), ahead of .__init__ -/
theorem sup_head {ps : List Str} (T : SupTxt X.prog X.K X.mg D cc f cda q st fd) (S : ScopeC ps (defScope st)) (I : Inv X pins σ H s) (he : X.env = kEnv q (defScope st) L f (.ref cda) cc) (hNp : X.N = ps)
    (hp : (((defArgs st).posonlyargs ++ (defArgs st).args).head?.map fun a => a.arg) = ps.head?) (hps : ps.head? = some n0) (hσ : σ[0]? = some (some (.ref x))) (hx : H x = some (exo x C d)) (hsub : PySem.W.mroIn X.K C (.ref D) = some true)
    (h : ∀ so h', Inv X pins σ H { s with heap := h' } → h'.get? so = some (PySem.W.ks_superObj D x C) → Q (.ref so) { s with heap := h' }) :
    _root_.PySem.wpAt (model X.prog X.w) X.A (.func body X.env) (attributeBase (.Call (.Name "super" p0) [] [] p1) "__init__" X.env whole) Q E s := by
  have KX := I.kIn
  obtain ⟨oc, od, dV, kV, doc, pm, an, ct, osl, rfl, hf⟩ := T.fn
  obtain ⟨ccl, cdd, vs, ccs, file, tf, hcode, hvs, hfile⟩ := T.cdo
  obtain ⟨cl, cld, csl, hcell⟩ := T.cell
  obtain ⟨cdD, hD⟩ := T.cls
  obtain ⟨oD, hD1, hD2⟩ : ∃ oD, s.heap.get? D = some oD ∧ oD.data = .cls cdD := by
    unfold PySem.W.clsIn at hD
    split at hD
    · rename_i c d cd' sl ho
      cases hD
      exact ⟨_, KX _ _ ho, rfl⟩
    · cases hD
  obtain ⟨ar, har, hn0⟩ : ∃ ar, ((defArgs st).posonlyargs ++ (defArgs st).args).head? = some ar ∧ ar.arg = n0 := by
    rw [hps] at hp
    cases e : ((defArgs st).posonlyargs ++ (defArgs st).args).head? with
    | none => rw [e] at hp; cases hp
    | some ar => rw [e] at hp; cases hp; exact ⟨ar, rfl, rfl⟩
  have hN : X.N[0]? = some n0 := by
    rw [hNp]
    cases ps with
    | nil => cases hps
    | cons a l => cases hps; rfl
  have hn0m : n0 ∈ ps := by
    cases ps with
    | nil => cases hps
    | cons a l => cases hps; exact List.mem_cons_self
  have hloc : (defScope st).names.lookup n0 = some .local := S.par n0 hn0m
  obtain ⟨m, hns, hl⟩ := I.loc
  obtain ⟨u, ru, lk⟩ := hl 0 n0 (.ref x) hN hσ (.inl (by rw [he]; exact hloc))
  obtain rfl : u = .ref x := ru
  have hm : m n0 = some (.ref x) := by
    rcases lk with ⟨_, z⟩ | ⟨k, _⟩
    · exact z
    · rw [he] at k
      have k : (defScope st).names.lookup n0 = some .cell ∨ (defScope st).names.lookup n0 = some .free := k
      rw [hloc] at k
      rcases k with k | k <;> cases k
  obtain ⟨t1, ho⟩ := exo_at I.hok hx
  obtain ⟨mb, hb1, hb2⟩ := I.mod.blt
  have hglob : s.heap.Ns X.env.globals X.mg := by rw [I.ok.glob]; exact I.mod.glob.keeps I.bk
  have hblt : s.heap.Ns X.env.builtins mb := by rw [I.ok.blt]; exact hb1.keeps I.bk
  have hkind := I.ok.kind
  have k1 : X.env.kindOf "super" = some .globalImplicit := by rw [he]; exact S.sup
  have k2 : X.env.kindOf "__class__" = some .free := by rw [he]; exact S.cls
  have k3 : X.env.kindOf ar.arg = some .local := by rw [he, hn0]; exact hloc
  refine ks_wpAt_super_base (env := X.env) (f := f) (cc := cda) k1 k2 rfl (by rw [he]) (KX _ _ hf) rfl har (by rw [he]) (KX _ _ hcode) rfl hvs hfile T.top ?_
  refine PySem.W.ks_loadName_global hkind k1 (Calls.loadGlobal_builtin (env := X.env) hglob T.sup hblt ((hb2 _ (by decide +kernel)).trans (by decide +kernel : bootBuiltins "super" = some (.type "super"))) ⟨rfl, ?_⟩)
  refine wpAny_loadName_free (c := cc) hkind k2 (by rw [he]; rfl) ⟨_, KX _ _ hcell, rfl⟩ ?_
  refine wpAny_loadName_local hkind k3 hns (by rw [hn0]; exact hm) ?_
  obtain ⟨hh, g, dd, t, os⟩ := s
  refine ks_wpAny_isType_cls hD1 hD2 ⟨rfl, ?_⟩
  refine ks_wpAny_call_super hD1 hD2 ho rfl (fun c e => by cases e) (PySem.W.looks_mroIn KX hsub) (fun h' e k => ?_)
  exact h _ _ (I.kept (t' := t) k) e
end
end Mi

/-! XS2: the call behind super(), the def. -/
namespace Mi
open PySem L2 ClX
section
variable {prog : Program} {w : World} {A : Around} {E : Value → Shared → Prop} {h : Heap} {g : Array GenState} {d : Drawn} {t : Nat} {os : OsState}
variable {nm q : Str} {C N : Addr} {bs bm : List Value} {hdct : Bool} {sn : List Str} {sub : List Value} {ab : Bool} {col : Option Bool} {dd : Option Addr} {k0 k1 k2 k3 k5 : Option Value}
theorem call_mwV {u e t0 : Addr} {rest : List Value} {Q : Value → Shared → Prop}
    (hC : h.get? C = some (excClassObj nm q C N bs bm hdct sn sub ab col dd k0 k1 k2 k3 k5 "ValueError.__new__")) (he : h.get? e = some (HandSPX.excO C t0)) (hu : h.get? u = some (PySem.W.kxs_mw "ValueError.__init__" e)) (hrest : rest.length ≤ sizeLine)
    (hq : ∀ h' t1, (∀ b o, b ≠ e → h.get? b = some o → h'.get? b = some o) → h'.get? e = some (HandSPX.excO C t1) → Q .none ⟨h', g, d, t, os⟩) :
    wpAny (model prog w) A (call (.ref u) rest) Q E ⟨h, g, d, t, os⟩ := by
  refine wpAny_call (codeAny_of_tree ?_)
  show wpAny _ A.in1 (callAny (.ref u) ⟨rest, []⟩) _ _ _
  simp only [callAny]
  refine wpAny_bind (wpAny_load hu ?_)
  simp only [PySem.W.kxs_mw, show (Value.type "method-wrapper" == Value.type "method" || Value.type "method-wrapper" == Value.type "builtin_function_or_method" || Value.type "method-wrapper" == Value.type "method-wrapper") = true by decide, if_true]
  refine W.KFB.if_so (by decide) ?_
  refine wpAny_bind (ESX.check_bound F.excBase_ValueError hC he rfl ?_)
  refine wpAny_bind (wpAny_pure (wpAny_pure ?_))
  refine ⟨Code.quiet_builtin _ (by decide +kernel), codeAny_builtin F.excBase_ValueError.initEntry ?_⟩
  rw [Around.under_plainId F.excBase_ValueError.init.plain _]
  wp_walk
  refine hq _ h.objs.size (fun b o hb ho => ?_) ?_
  · rw [Heap.get?_update_other _ _ (Ne.symm hb)]
    exact Heap.get?_push_of_some _ ho
  · rw [Heap.get?_update_self _ (Heap.get?_push_of_some _ he) rfl]
    rfl
end
/-- what the written part says of a class over ManysidesError's kind: super's way to f2 -/
structure SupC (K : PySem.W.Frag) (C D : Addr) : Prop where
  sub : PySem.W.mroIn K C (.ref D) = some true
  op : PySem.W.nsIn K cStatics "thirdparty.any" = some none
section
variable {X : Cx} {pins : List (Addr × Obj)} {σ : L2.St} {H : Hp} {s : Shared} {qn n0 : Str} {L f f2 cc cda x C D : Addr} {d : Option Addr} {body : List Stmt} {p0 p1 p2 p3 : Pos} {fd fd2 : FuncData} {st : Stmt} {Q : VK} {e : Expr} {es : List Expr} {ta : TA} {k : Nat} {ps ps2 : List Str} {sp2 : Sp}
theorem exo_ne (I : Inv X pins σ H s) (hx : H x = some (exo x C d)) {cd : ClassData} (hc : PySem.W.clsIn X.K C = some cd) : x ≠ C := by
  obtain ⟨t1, ho⟩ := exo_at I.hok hx
  rintro rfl
  unfold PySem.W.clsIn at hc
  split at hc
  · rename_i c d' cd' sl e
    have z := I.kIn _ _ e
    rw [ho] at z
    cases z
  · cases hc
/-- super().__init__(e, ..), a def of the text -/
theorem sup_own (T : SupTxt X.prog X.K X.mg D cc f cda qn st fd) (S : ScopeC ps (defScope st)) (I : Inv X pins σ H s) (he : X.env = kEnv qn (defScope st) L f (.ref cda) cc) (hNp : X.N = ps)
    (hp : (((defArgs st).posonlyargs ++ (defArgs st).args).head?.map fun a => a.arg) = ps.head?) (hps : ps.head? = some n0) (hσ : σ[0]? = some (some (.ref x))) (hx : H x = some (exo x C d)) (hsub : SupC X.K C D)
    (hm : PySem.W.ks_superIn X.K C D "__init__" = some (some (.ref f2))) (ht : PySem.W.typeIn X.K (.ref f2) = some (.type "function")) (hf2 : PySem.W.fnIn X.K f2 = true)
    (F2 : FnOk X.prog X.w X.K X.mg X.base (L2.CX X.prog X.w) k f2 fd2 ps2 sp2) (hb2 : Binds X.K fd2 ps2 []) (hr : Room k X.A) (ha : PA X (e :: es) ta)
    (h : ta σ H fun ws H1 => sp2 (.ref x :: ws) H1 Q E0)
    {pl : Sem Bool} (hev : eval (.Call (.Attribute (.Call (.Name "super" p0) [] [] p1) "__init__" p2) (e :: es) [] p3) X.env = (do
      let ov ← attributeBase (.Call (.Name "super" p0) [] [] p1) "__init__" X.env (eval (.Call (.Name "super" p0) [] [] p1) X.env)
      standAt p2.atName
      let (f, first) ← holding [ov] (getMethod ov "__init__" pl)
      callWith p3 f first (backTo p3 (starEach (e :: es) X.env)) []))
    (hs : starEach (e :: es) X.env = (false, eval e X.env) :: starEach es X.env) (hpl : (backTo p3 (starEach es X.env)).any (·.1) = false) :
    _root_.PySem.wpAt (model X.prog X.w) X.A (.func body X.env) (eval (.Call (.Attribute (.Call (.Name "super" p0) [] [] p1) "__init__" p2) (e :: es) [] p3) X.env) (EP X pins σ Q) X.xe s := by
  refine ks_wpAt_MethodCall (sup_head T S I he hNp hp hps hσ hx hsub.sub fun so h' I1 hso => ?_) hev
  have KX1 := I1.kIn
  obtain ⟨cd, hc, hal⟩ : ∃ cd, PySem.W.clsIn X.K C = some cd ∧ PySem.W.alongIn X.K "__init__" ((cd.mro.dropWhile (· != .ref D)).drop 1) = some (some (.ref f2)) := by
    cases hc : PySem.W.clsIn X.K C with
    | none => unfold PySem.W.ks_superIn at hm; rw [hc] at hm; cases hm
    | some cd => unfold PySem.W.ks_superIn at hm; rw [hc] at hm; exact ⟨cd, rfl, hm⟩
  have hxC := exo_ne I hx hc
  obtain ⟨hh, g, dd, t, os⟩ := s
  obtain ⟨of, hof, hofc⟩ : ∃ of, h'.get? f2 = some of ∧ of.cls = .type "function" := by
    have ht' : (X.K.lookup f2).map (·.cls) = some (.type "function") := ht
    cases z : X.K.lookup f2 with
    | none => rw [z] at ht'; cases ht'
    | some of => rw [z] at ht'; exact ⟨of, KX1 _ _ z, Option.some.inj ht'⟩
  refine ks_wpAny_getMethod_super hso (PySem.W.looks_opaque KX1 hsub.op) (l₀ := cd.mro) ?_ rfl KX1 hal hof hofc hxC (by decide) ?_
  · exact fun A Q E s k q => wpAny_bind ((PySem.W.looks_clsIn KX1 hc) A _ E s k (wpAny_pure q))
  have I2 := met_new (g := f2) (C := x) I1
  refine callwith_cm I2 (base_none I1 (Nat.le_refl _)) hf2 (thn (ha.run p3 _ _ σ H _ I2 h) fun us s2 ⟨ws, H1, I3, r, q1⟩ => ⟨⟨pin_at I3, I3.kIn⟩, ?_⟩) hs hpl
  have r2 : Vals (.ref x :: ws) (.ref x :: us) := .cons rfl r
  have hl : (Value.ref x :: us).length = ps2.length := by rw [← r2.length]; exact F2.len _ _ _ _ q1
  have hbb := hb2 s2 (.ref x :: us) I3.kIn (by rw [List.append_nil]; exact hl)
  rw [List.append_nil] at hbb
  have z : wpAny (model X.prog X.w) X.A (call (.ref h'.objs.size) us) (EP X ((h'.objs.size, PySem.W.methodObj (.ref f2) (.ref x)) :: pins) σ Q) X.xe s2 := by
    refine wpAny_call (PySem.W.method_call (pin_at I3) (codeAny_mono (F2.run X.A X.stack s2 H1 ⟨.ref x :: us, []⟩ (.ref x :: us) (.ref x :: ws) Q E0 hr I3.env0 hbb r2 q1) fun r s' hq => ?_))
    cases r with
    | error e => exact passL (X := X) _ σ H1 s2 e s' I3 hq
    | ok fl =>
      cases fl with
      | ret u => exact I3.after hq
      | next => exact False.elim hq
      | brk => exact False.elim hq
      | cont => exact False.elim hq
  exact thn z fun _ _ y => unpinE y
/-- super().__init__(e, ..), ValueError's -/
theorem sup_blt (T : SupTxt X.prog X.K X.mg D cc f cda qn st fd) (S : ScopeC ps (defScope st)) (I : Inv X pins σ H s) (he : X.env = kEnv qn (defScope st) L f (.ref cda) cc) (hNp : X.N = ps)
    (hp : (((defArgs st).posonlyargs ++ (defArgs st).args).head?.map fun a => a.arg) = ps.head?) (hps : ps.head? = some n0) (hσ : σ[0]? = some (some (.ref x))) (hx : H x = some (exo x C d)) (hsub : SupC X.K C D)
    (hm : PySem.W.ks_superIn X.K C D "__init__" = some (some (.builtin "ValueError.__init__"))) (hV : PySem.W.subIn X.K (.ref C) (.type "ValueError") = some true) (O : OexC X.K C) (ha : PA X (e :: es) ta)
    (h : ta σ H fun ws H1 => ws.length ≤ 1000 ∧ H1 x = some (exo x C none) ∧ Q .non H1)
    {pl : Sem Bool} (hev : eval (.Call (.Attribute (.Call (.Name "super" p0) [] [] p1) "__init__" p2) (e :: es) [] p3) X.env = (do
      let ov ← attributeBase (.Call (.Name "super" p0) [] [] p1) "__init__" X.env (eval (.Call (.Name "super" p0) [] [] p1) X.env)
      standAt p2.atName
      let (f, first) ← holding [ov] (getMethod ov "__init__" pl)
      callWith p3 f first (backTo p3 (starEach (e :: es) X.env)) []))
    (hs : starEach (e :: es) X.env = (false, eval e X.env) :: starEach es X.env) (hpl : (backTo p3 (starEach es X.env)).any (·.1) = false) :
    _root_.PySem.wpAt (model X.prog X.w) X.A (.func body X.env) (eval (.Call (.Attribute (.Call (.Name "super" p0) [] [] p1) "__init__" p2) (e :: es) [] p3) X.env) (EP X pins σ Q) X.xe s := by
  refine ks_wpAt_MethodCall (sup_head T S I he hNp hp hps hσ hx hsub.sub fun so h' I1 hso => ?_) hev
  have KX1 := I1.kIn
  obtain ⟨cd, hc, hal⟩ : ∃ cd, PySem.W.clsIn X.K C = some cd ∧ PySem.W.alongIn X.K "__init__" ((cd.mro.dropWhile (· != .ref D)).drop 1) = some (some (.builtin "ValueError.__init__")) := by
    cases hc : PySem.W.clsIn X.K C with
    | none => unfold PySem.W.ks_superIn at hm; rw [hc] at hm; cases hm
    | some cd => unfold PySem.W.ks_superIn at hm; rw [hc] at hm; exact ⟨cd, rfl, hm⟩
  have hxC := exo_ne I hx hc
  obtain ⟨t1, ho1⟩ := exo_at I1.hok hx
  obtain ⟨hh, g, dd, t, os⟩ := s
  have ho1 : h'.get? x = some _ := ho1
  have Li : PySem.W.Looks (model X.prog X.w) h' (isInstance (.ref x) (.type "ValueError")) true :=
    PySem.W.Looks.andThen (fun A Q E s k q => wpAny_typeOf_ref (k _ _ ho1) q) (PySem.W.looks_subIn KX1 hV)
  refine PySem.W.kxs_getMethod PySem.W.kxs_ValueError hso (PySem.W.looks_opaque KX1 hsub.op) (l₀ := cd.mro) ?_ rfl KX1 hal Li hxC (by decide) ?_
  · exact fun A Q E s k q => wpAny_bind ((PySem.W.looks_clsIn KX1 hc) A _ E s k (wpAny_pure q))
  have I2 : Inv X ((h'.objs.size, PySem.W.kxs_mw "ValueError.__init__" x) :: pins) σ H ⟨h'.push (PySem.W.kxs_mw "ValueError.__init__" x), g, dd, t + 1, os⟩ :=
    pin_new I1 (fun _ _ z => Heap.get?_push_of_some _ z) (Nat.le_refl _) (Heap.get?_push_size h' rfl) (fun v z => nomatch z)
  rw [hs]
  refine PySem.W.kxs_callWith (i := "ValueError.__init__") (x := x) (by show (false || (backTo p3 (starEach es X.env)).any (·.1)) = false; rw [hpl]; rfl) ?_
  refine Calls.evalArgs_plain ?_
  have hrun := ha.run p3 _ _ σ H _ I2 h
  rw [hs] at hrun
  refine thn hrun fun us s2 ⟨ws, H1, I3, r, hl, ea, q⟩ => ⟨pin_at I3, ?_⟩
  obtain ⟨nm, q', N, bs, bm, sn, sub, ab, col, dd', k0, k1, k2, k3, k5, hC, hbm⟩ := O.cls
  obtain ⟨t2, ho⟩ := exo_at I3.hok ea
  have hu := pin_at I3
  have hlen : us.length ≤ sizeLine := by rw [← Paired.length r, sizeLine_eq]; omega
  obtain ⟨hp3, g3, d3, t3, os3⟩ := s2
  show wpAny _ _ (call (.ref h'.objs.size) us) _ _ _
  refine call_mwV (I3.kIn _ _ hC) ho hu hlen fun h4 t4 k4 hx4 => ?_
  have J := I3.write (t' := t3) (x := x) (e := x) (o := exo x C none) (by rw [ea]; exact True.intro) (.inl rfl) k4 ⟨_, hx4⟩ (exo_ok hx4)
  have eu : upd H1 x (exo x C none) = H1 := by
    funext b
    by_cases hb : b = x
    · rw [hb, upd_same, ea]
    · rw [upd_ne hb]
  rw [eu] at J
  exact unpinE ⟨.non, H1, J, rfl, q⟩
end
end Mi

/-! XS3: the defs __init__ of the own exceptions, how such an exception is made. -/
namespace Mi
open PySem L2 ClX
section
variable {P : Program} {w : World} {K : PySem.W.Frag} {mg : Str → Option Value} {base : Heap} {D cc f cda : Addr} {qual : Str} {st : Stmt} {fd : FuncData} {k : Nat} {ps : List Str} {sp : Sp}
/-- THE RULE for a def that closes over its class -/
theorem fn_c (T : SupTxt P K mg D cc f cda qual st fd) (S : ScopeC ps (defScope st)) (len : ∀ vs H Q E, sp vs H Q E → vs.length = ps.length)
    (hrun : ∀ (A : Around) (outer : List Env) (s s1 : Shared) (H : Hp) (vs : List V) (Q : VK) (E : XK), Room k (A.deeper (kEnv qual (defScope st) s.heap.objs.size f (.ref cda) cc)) → sp vs H Q E →
      Inv (cxC (L2.CX P w) P w K mg base ps qual (defScope st) f (.ref cda) cc A outer s H E) [] (vs.map some) H s1 →
      _root_.PySem.wpAt (model P w) (A.deeper (kEnv qual (defScope st) s.heap.objs.size f (.ref cda) cc)) (.func (defBody st) (kEnv qual (defScope st) s.heap.objs.size f (.ref cda) cc)) (execs (defBody st) (kEnv qual (defScope st) s.heap.objs.size f (.ref cda) cc))
        (SP (cxC (L2.CX P w) P w K mg base ps qual (defScope st) f (.ref cda) cc A outer s H E) [] { nx := fun _ H' => Q .non H', rt := Q }) (cxC (L2.CX P w) P w K mg base ps qual (defScope st) f (.ref cda) cc A outer s H E).xe s1) :
    FnOk P w K mg base (L2.CX P w) (k + 1) f fd ps sp := by
  refine ⟨len, fun A outer s H args us vs Q E hr e0 hb r hsp => ?_⟩
  have hl := len _ _ _ _ hsp
  have KX : K.In s.heap := e0.mod.kin.keeps fun b o e => (e0.bs b o e).1
  have lim : s.heap.NoLimit := e0.mod.nolimit.keeps fun b o e => (e0.bs b o e).1
  obtain ⟨oc, od, dV, kV, doc, pm, an, ct, osl, rfl, lk⟩ := T.fn
  refine ks_codeAny_call_defAt (fd := PySem.W.ksFn "__init__" qual (defArgs st) (defBody st) (defScope st) dV kV doc pm an (.ref cda) ct cc) (body := defBody st) (binds := ps.zip us) hr.depth (KX _ _ lk) rfl lim (PySem.W.codeRec_of KX T.code) rfl hb
    S.nocell (fun y hy => S.par y.1 (List.of_mem_zip hy).1) (fun h1 hn hk => ?_) S.co S.gen S.kind
  have I : Inv (cxC (L2.CX P w) P w K mg base ps qual (defScope st) f (.ref cda) cc A outer s H E) [] (vs.map some) H { s with heap := h1, toks := s.toks + (ps.zip us).length } :=
    inv_startC S hr.hd e0 hl r T.cell hn hk
  refine ks_wpAt_mono (hrun A outer s _ H vs Q E (hr.deeper _) hsp I) (fun fl s' hs => ?_) fun e s' hs => hs
  have fin : ∀ {σ' : L2.St} {H' : Hp} {v : V} {u : Value}, Inv (cxC (L2.CX P w) P w K mg base ps qual (defScope st) f (.ref cda) cc A outer s H E) [] σ' H' s' → RelV v u → Q v H' → CE outer P w H s Q u s' :=
    fun {σ' H' v u} J rv q => ⟨v, H', J.os, J.bare, J.base, J.hok, rv, q⟩
  cases fl with
  | ret u =>
    obtain ⟨v, σ', H', J, rv, q⟩ := hs
    exact fin J rv q
  | next =>
    obtain ⟨σ', H', J, q⟩ := hs
    exact fin (v := V.non) (u := Value.none) J rfl q
  | brk =>
    obtain ⟨_, _, _, q⟩ := hs
    exact False.elim q
  | cont =>
    obtain ⟨_, _, _, q⟩ := hs
    exact False.elim q
end
/-- a new exception's heap -/
def excH (H : Hp) (x C dx : Addr) (nm : Str) (u : V) : Hp := upd (upd (upd H dx (exd dx [("place", u)])) x (exo x C (some dx))) dx (exd dx [("name", .str nm), ("place", u)])
structure ExM (K : PySem.W.Frag) (C M : Addr) : Prop where
  o : OexC K C
  s : SupC K C M
  u : PySem.W.ks_superIn K C M "__init__" = some (some (.builtin "ValueError.__init__"))
  ve : PySem.W.subIn K (.ref C) (.type "ValueError") = some true
  np : PySem.W.findIn K (.ref C) "place" = some none
  nn : PySem.W.findIn K (.ref C) "name" = some none
def spM (K : PySem.W.Frag) (M : Addr) : Sp := fun vs H Q E => ∃ (x C : Addr) (u : V) (nm : Str), vs = [.ref x, u, .str nm] ∧ ExM K C M ∧ H x = some (exo x C none) ∧ ∀ dx, H dx = none → dx ≠ x → Q .non (excH H x C dx nm u)
def spI (C : Addr) (nm : Str) : Sp := fun vs H Q E => ∃ (x : Addr) (u : V), vs = [.ref x, u] ∧ H x = some (exo x C none) ∧ ∀ dx, H dx = none → dx ≠ x → Q .non (excH H x C dx nm u)
section
variable {P : Program} {w : World} {K : PySem.W.Frag} {mg : Str → Option Value} {base : Heap} {M C cc f fM cda : Addr} {qual nm : Str} {st : Stmt} {fd fdM : FuncData} {p0 p1 p2 p3 p4 p5 p6 q0 q1 q2 q3 r0 r1 r2 r3 : Pos} {j : Nat}
/-- how super().__init__(..) is evaluated -/
def EvS (p0 p1 p2 p3 : Pos) (es : List Expr) : Prop := ∀ env : Env, ∃ pl : Sem Bool, eval (.Call (.Attribute (.Call (.Name "super" p0) [] [] p1) "__init__" p2) es [] p3) env = (do
      let ov ← attributeBase (.Call (.Name "super" p0) [] [] p1) "__init__" env (eval (.Call (.Name "super" p0) [] [] p1) env)
      standAt p2.atName
      let (f, first) ← holding [ov] (getMethod ov "__init__" pl)
      callWith p3 f first (backTo p3 (starEach es env)) [])
theorem fn_M (T : SupTxt P K mg M cc f cda qual st fd) (S : ScopeC ["self", "place", "name"] (defScope st))
    (hp : (((defArgs st).posonlyargs ++ (defArgs st).args).head?.map fun a => a.arg) = some ("self" : Str))
    (hb : defBody st = [.Expr (.Call (.Attribute (.Call (.Name "super" p0) [] [] p1) "__init__" p2) [.Name "place" p5] [] p3) p4, .Assign [.Attribute (.Name "self" q0) "place" q1] (.Name "place" q2) q3, .Assign [.Attribute (.Name "self" r0) "name" r1] (.Name "name" r2) r3])
    (hev : EvS p0 p1 p2 p3 [.Name "place" p5]) : FnOk P w K mg base (L2.CX P w) 1 f fd ["self", "place", "name"] (spM K M) := by
  refine fn_c (k := 0) T S (fun vs H Q E h => by obtain ⟨x, C, u, nm, rfl, _⟩ := h; rfl) fun A outer s s1 H vs Q E hr hsp I => ?_
  obtain ⟨x, C, u, nm, rfl, X, hx, q⟩ := hsp
  rw [hb]
  obtain ⟨pl, ev⟩ := hev (kEnv qual (defScope st) s.heap.objs.size f (.ref cda) cc)
  have l0 : (defScope st).names.lookup ("self" : Str) = some .local := S.par _ (by simp)
  have l1 : (defScope st).names.lookup ("place" : Str) = some .local := S.par _ (by simp)
  have l2 : (defScope st).names.lookup ("name" : Str) = some .local := S.par _ (by simp)
  refine ks_wpAt_execs_cons (ks_wpAt_Expr_any ?_ (hi := by unfold interactive; simp [S.kind]))
  have key := sup_blt (X := cxC (L2.CX P w) P w K mg base ["self", "place", "name"] qual (defScope st) f (.ref cda) cc A outer s H E) (body := [.Expr (.Call (.Attribute (.Call (.Name "super" p0) [] [] p1) "__init__" p2) [.Name "place" p5] [] p3) p4, .Assign [.Attribute (.Name "self" q0) "place" q1] (.Name "place" q2) q3, .Assign [.Attribute (.Name "self" r0) "name" r1] (.Name "name" r2) r3]) (n0 := "self") (p0 := p0) (p1 := p1) (p2 := p2) (p3 := p3) (e := .Name "place" p5) (es := []) (Q := fun v H' => v = .non ∧ H' = H) (ta := tCons (tVar 1) tNil)
    T S I rfl rfl hp rfl rfl hx X.s X.u X.ve X.o (pa_cons (pe_var rfl (.inl l1) (by decide) (by decide)) pa_nil) ⟨u, rfl, by simp, hx, rfl, rfl⟩ ev rfl rfl
  refine ks_wpAt_mono key (fun v s' ⟨v', H', I', rv, ev', eH⟩ => ?_) (fun _ _ h => h)
  subst eH
  refine wpAt_of_wpAny ?_
  have ps1 : PSs (cxC (L2.CX P w) P w K mg base ["self", "place", "name"] qual (defScope st) f (.ref cda) cc A outer s H' E) [.Assign [.Attribute (.Name "self" q0) "place" q1] (.Name "place" q2) q3, .Assign [.Attribute (.Name "self" r0) "name" r1] (.Name "name" r2) r3] _ :=
    pss_cons (ps_ost (f := "place") (pe_var (i := 0) rfl (.inl l0) (by decide) (by decide)) (pe_var (i := 1) rfl (.inl l1) (by decide) (by decide))) (pss_one (ps_ost (f := "name") (pe_var (i := 0) rfl (.inl l0) (by decide) (by decide)) (pe_var (i := 2) rfl (.inl l2) (by decide) (by decide))))
  refine ps1.run [] s' _ H' _ I' ?_
  refine ⟨u, rfl, .ref x, rfl, x, C, rfl, X.o, X.np, .inl ⟨hx, fun dx hdx hne => ?_⟩⟩
  refine ⟨.str nm, rfl, .ref x, rfl, x, C, rfl, X.o, X.nn, .inr ⟨dx, [("place", u)], upd_same, ?_, by simp, ?_⟩⟩
  · rw [upd_ne hne, upd_same]
  · exact q dx hdx hne
theorem fn_I (T : SupTxt P K mg C cc f cda qual st fd) (S : ScopeC ["self", "place"] (defScope st))
    (hp : (((defArgs st).posonlyargs ++ (defArgs st).args).head?.map fun a => a.arg) = some ("self" : Str))
    (hb : defBody st = [.Expr (.Call (.Attribute (.Call (.Name "super" p0) [] [] p1) "__init__" p2) [.Name "place" p5, .Constant (.str nm) j p6] [] p3) p4])
    (hev : EvS p0 p1 p2 p3 [.Name "place" p5, .Constant (.str nm) j p6])
    (X : ExM K C M) (sC : SupC K C C) (uC : PySem.W.ks_superIn K C C "__init__" = some (some (.ref fM))) (tM : PySem.W.typeIn K (.ref fM) = some (.type "function")) (nM : PySem.W.fnIn K fM = true)
    (FM : FnOk P w K mg base (L2.CX P w) 1 fM fdM ["self", "place", "name"] (spM K M)) (bM : Binds K fdM ["self", "place", "name"] []) : FnOk P w K mg base (L2.CX P w) 2 f fd ["self", "place"] (spI C nm) := by
  refine fn_c (k := 1) T S (fun vs H Q E h => by obtain ⟨x, u, rfl, _⟩ := h; rfl) fun A outer s s1 H vs Q E hr hsp I => ?_
  obtain ⟨x, u, rfl, hx, q⟩ := hsp
  rw [hb]
  obtain ⟨pl, ev⟩ := hev (kEnv qual (defScope st) s.heap.objs.size f (.ref cda) cc)
  have l1 : (defScope st).names.lookup ("place" : Str) = some .local := S.par _ (by simp)
  refine ks_wpAt_execs_cons (ks_wpAt_Expr_any ?_ (hi := by unfold interactive; simp [S.kind]))
  have key := sup_own (X := cxC (L2.CX P w) P w K mg base ["self", "place"] qual (defScope st) f (.ref cda) cc A outer s H E) (body := [.Expr (.Call (.Attribute (.Call (.Name "super" p0) [] [] p1) "__init__" p2) [.Name "place" p5, .Constant (.str nm) j p6] [] p3) p4]) (n0 := "self") (p0 := p0) (p1 := p1) (p2 := p2) (p3 := p3) (e := .Name "place" p5) (es := [.Constant (.str nm) j p6]) (Q := fun _ H' => Q .non H') (ta := tCons (tVar 1) (tCons (tC (.str nm)) tNil))
    T S I rfl rfl hp rfl rfl hx sC uC tM nM FM bM hr (pa_cons (pe_var rfl (.inl l1) (by decide) (by decide)) (pa_cons pe_str pa_nil)) ⟨u, rfl, x, C, u, nm, rfl, X, hx, q⟩ ev rfl rfl
  refine ks_wpAt_mono key (fun v s' ⟨v', H', I', rv, qv⟩ => ?_) (fun _ _ h => h)
  exact wpAt_of_wpAny (wpAny_execs_nil ⟨_, H', I', qv⟩)
end
end Mi

/-! The mirror layer 19: raise of an own exception. -/
namespace Mi
open PySem L2
variable [Tabs]
def mRaise (c : Str) (m : M D) : M Fl := m.bind fun d env => match d with
  | .int i => .exn ⟨c, i⟩ env
  | _ => .stuck
theorem excH_end {H : Hp} {a C dx : Addr} {o0 : HO} {nm : Str} {u : V} {o : HO} (ha : H a = none) (hne : dx ≠ a) : upd (del (excH (upd H a o0) a C dx nm u) a) dx o = upd H dx o := by
  funext b
  by_cases h1 : b = dx
  · subst h1; rw [upd_same, upd_same]
  · rw [upd_ne h1, upd_ne h1]
    by_cases h2 : b = a
    · subst h2; rw [del_same, ha]
    · rw [del_ne h2]
      unfold excH
      rw [upd_ne h1, upd_ne h2, upd_ne h1, upd_ne h2]
/-- an own exception class, ready to be made -/
structure ExI (P : Program) (w : World) (K : PySem.W.Frag) (mg : Str → Option Value) (base : Heap) (x : Str) : Prop where
  ex : ∃ C fI fdI, mg x = some (.ref C) ∧ OexC K C ∧ PySem.W.findIn K (.ref C) "__init__" = some (some (.ref fI)) ∧ PySem.W.typeIn K (.ref fI) = some (.type "function") ∧
    FnOk P w K mg base (L2.CX P w) 2 fI fdI ["self", "place"] (spI C x) ∧ Binds K fdI ["self", "place"] []
section
variable {X : Cx} {W : WX} {x : Str} {e : Expr} {te : TE} {me : M D} {p pos pos' : Pos}
theorem ss_raise (hc : X.calm = true) (tk : Takes X W) (hr : Room 3 X.A) (x : Str) (hx : ExI X.prog X.w X.K X.mg X.base x) (h : SE X W e te me) (hg : Gl X x := by rfl) (hdb : (x == ("__debug__" : Str)) = false := by decide)
    (he : starEach [e] X.env = (false, eval e X.env) :: starEach [] X.env := by rfl) (hpl : (backTo pos' (starEach [] X.env)).any (·.1) = false := by rfl) :
    ∃ ts, SS X W (.Raise (some (.Call (.Name x p) [e] [] pos')) none pos) ts (mRaise x me) := by
  obtain ⟨C, fI, fdI, hm, O, iC, tI, FI, hb⟩ := hx.ex
  refine ⟨_, ps_raise hc tk (pmk_oex O iC tI FI hr hb .nil passL hg hm (pa_cons h.pe pa_nil he) hdb he hpl), ?_⟩
  intro c σ0 B H σ env sm fr D post
  refine h.rx.goS sm fr post fun v d B1 H1 env1 sm1 fr1 _ r1 post1 => ?_
  cases d with
  | int i =>
    cases r1
    refine ⟨by simp, fun a ha => ⟨a, .int i, rfl, upd_same, fun dx hdx hne => ⟨rfl, dx, _, ?_, upd_same, ?_, ?_⟩⟩⟩
    · unfold excH
      rw [upd_ne (Ne.symm hne), upd_same]
    · rw [upd_ne hne] at hdx; exact hdx
    · have hd1 : H1 dx = none := by rw [upd_ne hne] at hdx; exact hdx
      rw [excH_end ha hne]
      have post1 : PostS X.K X.mg W c σ0 (.exn ⟨x, i⟩ env1) D := post1
      have sb : Sub B1 (upd H1 dx (.xd [("name", .str x), ("place", .int i)])) := sm1.sub.same (same_upd hd1)
      exact post1 (.ref C) (some dx) σ B1 _ (sm1.alloc (Same.refl _) (fun _ _ q => .inl q) (same_upd hd1) sb) (fr1.step (Stp.alloc (Same.refl _) (fun _ _ q => .inl q) (same_upd hd1)) (Keep.refl _ _)) ⟨C, dx, rfl, hm, rfl, upd_same⟩
  | _ => exact post1.elim
end
/-- a term whose reading is not told -/
theorem ss_ex {X : Cx} {W : WX} {st : Stmt} {m : M Fl} (h : ∃ ts, SS X W st ts m) : SS X W st h.choose m := h.choose_spec
end Mi

/-! The mirror layer 20: try; the suite of an except clause, with the error in a slot. -/
namespace Mi
open PySem L2
variable [Tabs]
/-- within a suite: slot i holds the error at a, of the class cls; at dd stands its own dict -/
structure Er (mg : Str → Option Value) (cls : Value) (d : Option Addr) (i : Nat) (a dd : Addr) (x : Xn) (σ : L2.St) (H : Hp) : Prop where
  sl : σ[i]? = some (some (.ref a))
  dct : H dd = some (.xd [("name", .str x.cls), ("place", .int x.place)])
  cl : mg x.cls = some cls
  dq : d = some dd
section
variable (K : PySem.W.Frag) (mg : Str → Option Value) (W : WX) (J : L2.St → Hp → Prop) {α β : Type}
def RXJ (R : L2.St → Hp → β → α → Prop) (t : L2.St → Hp → (β → Hp → Prop) → Prop) (m : M α) : Prop :=
  ∀ σ0 B H σ env, Sm K mg σ0 B H σ env → J σ H → ∀ Q : β → Hp → Prop, Post K mg W R σ0 σ env B H (m env) Q → t σ H Q
def RSJ (ts : TS) (m : M Fl) : Prop := ∀ c σ0 B H σ env, Sm K mg σ0 B H σ env → Frm c σ env B H → J σ H → ∀ D, PostS K mg W c σ0 (m env) D → ts D σ H
end
structure SEJ (X : Cx) (W : WX) (J : L2.St → Hp → Prop) (e : Expr) (te : TE) (m : M D) : Prop where
  pe : PE X e te
  rx : RXJ X.K X.mg W J (RD X.K X.mg) te m
structure STJ (X : Cx) (W : WX) (J : L2.St → Hp → Prop) (e : Expr) (tt : TT) (m : M Bool) : Prop where
  pt : PT X e tt
  rx : RXJ X.K X.mg W J RB tt m
structure SWJ (X : Cx) (W : WX) (J : L2.St → Hp → Prop) (e : Expr) (tt : TT) (m : M Bool) : Prop where
  pw : PW X e tt
  rx : RXJ X.K X.mg W J RB tt m
structure SAJ (X : Cx) (W : WX) (J : L2.St → Hp → Prop) (es : List Expr) (ta : TA) (m : M (List D)) : Prop where
  pa : PA X es ta
  rx : RXJ X.K X.mg W J (RDs X.K X.mg) ta m
structure SSJ (X : Cx) (W : WX) (J : L2.St → Hp → Prop) (st : Stmt) (ts : TS) (m : M Fl) : Prop where
  ps : PS X st ts
  rs : RSJ X.K X.mg W J ts m
structure SSsJ (X : Cx) (W : WX) (J : L2.St → Hp → Prop) (st : List Stmt) (ts : TS) (m : M Fl) : Prop where
  ps : PSs X st ts
  rs : RSJ X.K X.mg W J ts m
section
variable {K : PySem.W.Frag} {mg : Str → Option Value} {W : WX} {J : L2.St → Hp → Prop} {α β γ δ ε ζ : Type} {R : L2.St → Hp → β → α → Prop} {R2 : L2.St → Hp → δ → γ → Prop} {R3 : L2.St → Hp → ζ → ε → Prop}
theorem RX.j {t : L2.St → Hp → (β → Hp → Prop) → Prop} {m : M α} (h : RX K mg W R t m) : RXJ K mg W J R t m := fun σ0 B H σ env sm _ Q post => h σ0 B H σ env sm Q post
variable (hJ : ∀ {σ0 σ : L2.St} {env : En} {B H B' H' : Hp}, Sm K mg σ0 B H σ env → Stp (Owned σ env) B H B' H' → J σ H → J σ H')
include hJ in
theorem RXJ.bind {t1 : L2.St → Hp → (β → Hp → Prop) → Prop} {t2 : β → L2.St → Hp → (δ → Hp → Prop) → Prop} {m : M α} {k : α → M γ} (h1 : RXJ K mg W J R t1 m)
    (h2 : ∀ v a σ0 B H σ env, Sm K mg σ0 B H σ env → J σ H → R σ B v a → ∀ Q, Post K mg W R2 σ0 σ env B H (k a env) Q → t2 v σ H Q) :
    RXJ K mg W J R2 (fun σ H Q => t1 σ H fun v H1 => t2 v σ H1 Q) (m.bind k) := by
  intro σ0 B H σ env sm j Q post
  refine h1 σ0 B H σ env sm j _ ?_
  unfold M.bind at post
  cases e : m env with
  | stuck => rw [e] at post; exact post
  | exn x env' => rw [e] at post; exact post
  | ok a env' =>
    rw [e] at post
    intro v B1 H1 s1 m1 o1 r1
    exact h2 v a σ0 B1 H1 σ env' m1 (hJ sm s1 j) r1 Q (Post.rebase post s1 o1)
include hJ in
theorem RXJ.bind2 {t1 : L2.St → Hp → (β → Hp → Prop) → Prop} {t2 : L2.St → Hp → (δ → Hp → Prop) → Prop} {t3 : β → δ → L2.St → Hp → (ζ → Hp → Prop) → Prop} {m1 : M α} {m2 : M γ} {k : α → γ → M ε}
    (h1 : RXJ K mg W J R t1 m1) (h2 : RXJ K mg W J R2 t2 m2) (mono : ∀ σ B B' v a, R σ B v a → Same B B' → R σ B' v a)
    (h3 : ∀ v w a b σ0 B H σ env, Sm K mg σ0 B H σ env → R σ B v a → R2 σ B w b → ∀ Q, Post K mg W R3 σ0 σ env B H (k a b env) Q → t3 v w σ H Q) :
    RXJ K mg W J R3 (fun σ H Q => t1 σ H fun v H1 => t2 σ H1 fun w H2 => t3 v w σ H2 Q) (m1.bind fun a => m2.bind fun b => k a b) := by
  refine h1.bind hJ (t2 := fun v σ H Q => t2 σ H fun w H2 => t3 v w σ H2 Q) fun v a σ0 B H σ env sm j r1 Q post => ?_
  refine h2 σ0 B H σ env sm j _ ?_
  have post : Post K mg W R3 σ0 σ env B H ((m2 env).bind fun b => k a b) Q := post
  cases e : m2 env with
  | stuck => rw [e] at post; exact post
  | exn x env' => rw [e] at post; exact post
  | ok b env' =>
    rw [e] at post
    intro w B1 H1 s1 m1 o1 r2
    exact h3 v w a b σ0 B1 H1 σ env' m1 (mono _ _ _ _ _ r1 s1.grow) r2 Q (Post.rebase post s1 o1)
include hJ in
theorem RXJ.goS {t : L2.St → Hp → (β → Hp → Prop) → Prop} {m : M α} {k : α → M Fl} {D : Ends} {Q : β → Hp → Prop} {c : Ent} {σ0 σ : L2.St} {B H : Hp} {env : En} (h : RXJ K mg W J R t m) (sm : Sm K mg σ0 B H σ env) (fr : Frm c σ env B H) (j : J σ H)
    (post : PostS K mg W c σ0 ((m env).bind k) D) (cont : ∀ v a B1 H1 env1, Sm K mg σ0 B1 H1 σ env1 → Frm c σ env1 B1 H1 → Same B B1 → J σ H1 → R σ B1 v a → PostS K mg W c σ0 (k a env1) D → Q v H1) : t σ H Q := by
  refine h σ0 B H σ env sm j _ ?_
  cases e : m env with
  | stuck => rw [e] at post; exact post
  | exn x env' =>
    rw [e] at post
    exact fun cls d B' H' s' m' o' r' => post cls d σ B' H' m' (fr.step s' o'.keep) r'
  | ok a env' =>
    rw [e] at post
    exact fun v B1 H1 s1 m1 o1 r1 => cont v a B1 H1 env' m1 (fr.step s1 o1.keep) s1.grow (hJ sm s1 j) r1 post
end
section
variable {X : Cx} {W : WX} {cls : Value} {d : Option Addr} {i : Nat} {a dd : Addr} {y : Xn} {e b : Expr} {te tb : TE} {me mb : M D} {pos pos' : Pos} {tt tu : TT} {mt mu : M Bool} {es rest : List Expr} {ta : TA} {ma : M (List D)}
theorem er_mono {K : PySem.W.Frag} {mg : Str → Option Value} : ∀ {σ0 σ : L2.St} {env : En} {B H B' H' : Hp}, Sm K mg σ0 B H σ env → Stp (Owned σ env) B H B' H' → Er mg cls d i a dd y σ H → Er mg cls d i a dd y σ H' := fun {σ0 σ env B H B' H'} sm s h => by
  refine ⟨h.sl, s.frameN h.dct (fun z => z) fun ⟨j, p, z, e, r⟩ => ?_, h.cl, h.dq⟩
  obtain ⟨v, e1, x, rfl, c, _⟩ := sm.sl j _ e
  rw [e1] at r
  cases r
  have hd := h.dct
  cases c <;> (rename_i q _ _ ; first | (rw [hd] at q; cases q) | skip)
  all_goals (simp_all)
theorem SE.j (h : SE X W e te me) : SEJ X W (Er X.mg cls d i a dd y) e te me := ⟨h.pe, h.rx.j⟩
theorem ST.j (h : ST X W e tt mt) : STJ X W (Er X.mg cls d i a dd y) e tt mt := ⟨h.pt, h.rx.j⟩
theorem SA.j (h : SA X W es ta ma) : SAJ X W (Er X.mg cls d i a dd y) es ta ma := ⟨h.pa, h.rx.j⟩
theorem saj_cons (h : SEJ X W (Er X.mg cls d i a dd y) e te me) (r : SAJ X W (Er X.mg cls d i a dd y) es ta ma) (hs : starEach (e :: es) X.env = (false, eval e X.env) :: starEach es X.env := by rfl) : SAJ X W (Er X.mg cls d i a dd y) (e :: es) (tCons te ta) (aCons me ma) :=
  ⟨pa_cons h.pe r.pa hs, h.rx.bind2 er_mono (t3 := fun x xs σ H Q => Q (x :: xs) H) r.rx rd_monoR fun v w a b σ0 B H σ env sm r1 r2 Q post => post.val sm (.cons r1 r2)⟩
theorem sej_tup (h : SAJ X W (Er X.mg cls d i a dd y) es ta ma) {n} : SEJ X W (Er X.mg cls d i a dd y) (.Tuple es n pos) (tTup ta) (eTup ma) := by
  refine ⟨pe_tup h.pa, h.rx.bind er_mono (t2 := fun xs σ H Q => xs.length ≤ sizeLine ∧ ∀ p, H p = none → Q (V.ref p) (upd H p (.tup xs))) fun v a σ0 B H σ env sm _ r Q post => ?_⟩
  have hz : sizeLine = 16777216 := sizeLine_eq
  have hl := Reps.length r
  by_cases c : a.length ≤ 16777216
  · rw [if_pos c] at post
    exact ⟨by omega, fun p hp => post.al sm (Al.upd sm.sub hp) (.tup upd_same (Reps.mono (Al.upd sm.sub hp).g r))⟩
  · rw [if_neg c] at post; exact post.elim
theorem rxj_op {r : R2} {f : D → D → Option D} (hf : Real2 X.K X.mg r f) (ha : RXJ X.K X.mg W (Er X.mg cls d i a dd y) (RD X.K X.mg) te me) (hb : RXJ X.K X.mg W (Er X.mg cls d i a dd y) (RD X.K X.mg) tb mb) : RXJ X.K X.mg W (Er X.mg cls d i a dd y) (RD X.K X.mg) (tOp r te tb) (eOp f me mb) :=
  ha.bind2 er_mono (t3 := fun v w σ H Q => r v w H Q) hb rd_monoR fun v w a b σ0 B H σ env sm r1 r2 Q post => by
    cases e : f a b with
    | none => rw [e] at post; exact post.elim
    | some c =>
      rw [e] at post
      exact hf B H v w a b c sm.sub r1 r2 e Q fun u B' H' l r' => post.al sm l r'
theorem sej_cmp {op : CmpOp} {r : R2} {f : D → D → Option D} (ho : OpR X (compareOp op) r) (hf : Real2 X.K X.mg r f) (ha : SEJ X W (Er X.mg cls d i a dd y) e te me) (hb : SEJ X W (Er X.mg cls d i a dd y) b tb mb) (hm : behindInMarks op b = false := by first | exact nomark _ | with_unfolding_all rfl) : SEJ X W (Er X.mg cls d i a dd y) (.Compare e [op] [b] pos) (tOp r te tb) (eOp f me mb) :=
  ⟨pe_cmpR ho ha.pe hb.pe hm, rxj_op hf ha.rx hb.rx⟩
theorem rxj_tB {te : TE} {m : M D} (h : RXJ X.K X.mg W (Er X.mg cls d i a dd y) (RD X.K X.mg) te m) : RXJ X.K X.mg W (Er X.mg cls d i a dd y) RB (tB te) (eTest m) :=
  h.bind er_mono (t2 := fun x σ H Q => ∃ c, x = .bl c ∧ Q c H) fun v d σ0 B H σ env sm _ r Q post => by
    cases e : asB d with
    | none => rw [e] at post; exact post.elim
    | some c =>
      rw [e] at post
      have := asB_some e
      subst this
      exact ⟨c, Rep.bl_inv r, post.al sm (Al.refl sm.sub) rfl⟩
theorem stj_val (h : SEJ X W (Er X.mg cls d i a dd y) e te me) (he : ∀ whole, isTrue e X.env whole = (do let v ← whole; standAt e.pos; holding [v] (truthy v)) := by intro _; rfl) : STJ X W (Er X.mg cls d i a dd y) e (tB te) (eTest me) := ⟨pt_val h.pe he, rxj_tB h.rx⟩
theorem stj_cmp {op : CmpOp} {r : R2} {f : D → D → Option D} (ho : OpR X (compareOp op) r) (hf : Real2 X.K X.mg r f) (ha : SEJ X W (Er X.mg cls d i a dd y) e te me) (hb : SEJ X W (Er X.mg cls d i a dd y) b tb mb) (hm : behindInMarks op b = false := by first | exact nomark _ | with_unfolding_all rfl) : STJ X W (Er X.mg cls d i a dd y) (.Compare e [op] [b] pos) (tTest (tOp r te tb)) (eTest (eOp f me mb)) :=
  ⟨pt_cmpR ho ha.pe hb.pe hm, rxj_tB (rxj_op hf ha.rx hb.rx)⟩
theorem stj_not (h : STJ X W (Er X.mg cls d i a dd y) e tt mt) : STJ X W (Er X.mg cls d i a dd y) (.UnaryOp .Not e pos) (tNot tt) (bNot mt) := by
  refine ⟨pt_not h.pt, h.rx.bind er_mono (t2 := fun c σ H1 Q => Q (!c) H1) fun v d σ0 B H σ env sm _ r Q post => ?_⟩
  have e : v = d := r
  subst e
  exact post.val sm rfl
theorem rxj_or (h1 : RXJ X.K X.mg W (Er X.mg cls d i a dd y) RB tt mt) (h2 : RXJ X.K X.mg W (Er X.mg cls d i a dd y) RB tu mu) : RXJ X.K X.mg W (Er X.mg cls d i a dd y) RB (tOr tt tu) (bOr mt mu) :=
  h1.bind er_mono (t2 := fun c σ H1 Q => if c = true then Q true H1 else tu σ H1 Q) fun v d σ0 B H σ env sm j r Q post => by
    have e : v = d := r
    subst e
    cases v with
    | false => exact h2 σ0 B H σ env sm j Q post
    | true => exact post.val sm rfl
theorem rxj_and (h1 : RXJ X.K X.mg W (Er X.mg cls d i a dd y) RB tt mt) (h2 : RXJ X.K X.mg W (Er X.mg cls d i a dd y) RB tu mu) : RXJ X.K X.mg W (Er X.mg cls d i a dd y) RB (tAnd tt tu) (bAnd mt mu) :=
  h1.bind er_mono (t2 := fun c σ H1 Q => if c = true then tu σ H1 Q else Q false H1) fun v d σ0 B H σ env sm j r Q post => by
    have e : v = d := r
    subst e
    cases v with
    | true => exact h2 σ0 B H σ env sm j Q post
    | false => exact post.val sm rfl
theorem SWJ.st (h : SWJ X W (Er X.mg cls d i a dd y) e tt mt) : STJ X W (Er X.mg cls d i a dd y) e tt mt := ⟨h.pw.pt, h.rx⟩
theorem swj_or1 (h : STJ X W (Er X.mg cls d i a dd y) e tt mt) : SWJ X W (Er X.mg cls d i a dd y) (.BoolOp .Or [e] pos) tt mt := ⟨pw_or1 h.pt, h.rx⟩
theorem swj_and1 (h : STJ X W (Er X.mg cls d i a dd y) e tt mt) : SWJ X W (Er X.mg cls d i a dd y) (.BoolOp .And [e] pos) tt mt := ⟨pw_and1 h.pt, h.rx⟩
theorem swj_or (h : STJ X W (Er X.mg cls d i a dd y) e tt mt) (g : SWJ X W (Er X.mg cls d i a dd y) (.BoolOp .Or (b :: rest) pos) tu mu) : SWJ X W (Er X.mg cls d i a dd y) (.BoolOp .Or (e :: b :: rest) pos) (tOr tt tu) (bOr mt mu) := ⟨pw_or h.pt g.pw, rxj_or h.rx g.rx⟩
theorem swj_and (h : STJ X W (Er X.mg cls d i a dd y) e tt mt) (g : SWJ X W (Er X.mg cls d i a dd y) (.BoolOp .And (b :: rest) pos) tu mu) : SWJ X W (Er X.mg cls d i a dd y) (.BoolOp .And (e :: b :: rest) pos) (tAnd tt tu) (bAnd mt mu) := ⟨pw_and h.pt g.pw, rxj_and h.rx g.rx⟩
/-! statements -/
variable {st : Stmt} {sts : List Stmt} {t u : TS} {ms mn : M Fl}
theorem ssj_ret (h : SEJ X W (Er X.mg cls d i a dd y) e te me) : SSJ X W (Er X.mg cls d i a dd y) (.Return (some e) pos) (tRet te) (mRet me) :=
  ⟨ps_ret h.pe, fun c σ0 B H σ env sm fr j D post => h.rx.goS er_mono sm fr j post fun v d B1 H1 env1 sm1 fr1 _ _ r1 post1 => post1 v σ B1 H1 sm1 fr1 r1⟩
theorem ssj_if {cc : Expr} {as bs : List Stmt} (h : STJ X W (Er X.mg cls d i a dd y) cc tt mt) (h1 : SSsJ X W (Er X.mg cls d i a dd y) as t ms) (h2 : SSsJ X W (Er X.mg cls d i a dd y) bs u mn) : SSJ X W (Er X.mg cls d i a dd y) (.If cc as bs pos) (tIfS tt t u) (mIf mt ms mn) := by
  refine ⟨ps_if h.pt h1.ps h2.ps, fun c σ0 B H σ env sm fr j D post => ?_⟩
  refine h.rx.goS er_mono sm fr j post fun v b B1 H1 env1 sm1 fr1 _ j1 r1 post1 => ?_
  have e : v = b := r1
  subst e
  cases v with
  | true => exact h1.rs c σ0 B1 H1 σ env1 sm1 fr1 j1 D post1
  | false => exact h2.rs c σ0 B1 H1 σ env1 sm1 fr1 j1 D post1
theorem ssj_nx : SSsJ X W (Er X.mg cls d i a dd y) [] tNext mNx := ⟨pss_nil, fun c σ0 B H σ env sm fr _ D post => post σ B H sm fr⟩
theorem ssj_one (h : SSJ X W (Er X.mg cls d i a dd y) st t ms) : SSsJ X W (Er X.mg cls d i a dd y) [st] t ms := ⟨pss_one h.ps, h.rs⟩
/-- if .. return; then more: the first part leaves the error as it is -/
theorem ssj_ifret {cc : Expr} {as : List Stmt} (h : STJ X W (Er X.mg cls d i a dd y) cc tt mt) (h1 : SSsJ X W (Er X.mg cls d i a dd y) as t ms) (hn : ∀ env env', ms env ≠ .ok .nx env') (h2 : SSsJ X W (Er X.mg cls d i a dd y) sts u mn) :
    SSsJ X W (Er X.mg cls d i a dd y) (.If cc as [] pos :: sts) (tSeq (tIfS tt t tNext) u) (mSeq (mIf mt ms mNx) mn) := by
  refine ⟨pss_cons (ps_if h.pt h1.ps pss_nil) h2.ps, fun c σ0 B H σ env sm fr j D post => ?_⟩
  refine h.rx σ0 B H σ env sm j _ ?_
  unfold mSeq mIf at post
  have post : PostS X.K X.mg W c σ0 (match (mt env).bind (fun c => if c = true then ms else mNx) with | .ok .nx env' => mn env' | r => r) D := post
  cases e : mt env with
  | stuck => rw [e] at post; exact post
  | exn x env' =>
    rw [e] at post
    exact fun cls d B' H' s' m' o' r' => post cls d σ B' H' m' (fr.step s' o'.keep) r'
  | ok b env1 =>
    rw [e] at post
    intro v B1 H1 s1 m1 o1 r1
    have ev : v = b := r1
    subst ev
    have fr1 := fr.step s1 o1.keep
    have j1 := er_mono sm s1 j
    cases v with
    | false => exact h2.rs c σ0 B1 H1 σ env1 m1 fr1 j1 D post
    | true =>
      have post : PostS X.K X.mg W c σ0 (match ms env1 with | .ok .nx env' => mn env' | r => r) D := post
      refine h1.rs c σ0 B1 H1 σ env1 m1 fr1 j1 _ ?_
      cases e2 : ms env1 with
      | stuck => rw [e2] at post; exact post
      | exn x env' => rw [e2] at post; exact post
      | ok f env' =>
        cases f with
        | nx => exact absurd e2 (hn _ _)
        | bk => rw [e2] at post; exact post
        | ct => rw [e2] at post; exact post
        | rt o d => rw [e2] at post; cases o <;> exact post
end
end Mi

/-! The mirror layer 21: isinstance of the error, its fields; try .. except C as n. -/
namespace Mi
open PySem L2
variable [Tabs]
/-- what an own exception class says, so that its errors may be asked -/
structure ErC (K : PySem.W.Frag) (C : Addr) : Prop where
  ga : PySem.W.findIn K (.ref C) "__getattribute__" = some (some (.builtin "BaseException.__getattribute__"))
  gg : PySem.W.findIn K (.ref C) "__getattr__" = some none
  exC : PySem.W.subIn K (.ref C) (.type "BaseException") = some true
  hdC : PySem.W.hasDictIn K C = true
  ha : PySem.W.findIn K (.ref C) "__class__" = some (some (.builtin "object.__class__"))
  hn : PySem.W.specialIn K (.builtin "object.__class__") "__get__" = some (some (.builtin "getset_descriptor.__get__"))
  ht : PySem.W.takesIn K (.builtin "object.__class__") = some true
  hm : PySem.W.mroIn K C (.type "object") = some true
  np : PySem.W.findIn K (.ref C) "place" = some none
  nn : PySem.W.findIn K (.ref C) "name" = some none
/-- e.f of the caught error -/
def tXg (K : PySem.W.Frag) (a : Addr) (cls : Value) (d : Option Addr) (f : Str) (te : TE) : TE := fun σ H Q => te σ H fun x H1 => x = .ref a ∧ ∃ (C dd : Addr) (fs : List (Str × V)) (v : V), cls = .ref C ∧ ErC K C ∧ PySem.W.findIn K (.ref C) f = some none ∧ d = some dd ∧ H1 dd = some (.xd fs) ∧ fs.lookup f = some v ∧ Q v H1
theorem pe_xg {X : Cx} {a : Addr} {oe : Obj} {cls : Value} {d : Option Addr} {pn : List (Addr × Obj)} {e : Expr} {te : TE} {pos : Pos} {n : Str}
    (hz : Zc cls d oe) (hf : ∃ vs, oe.data = .fields vs) (he : PE (X.suite a ((a, oe) :: pn)) e te) (hb : attributeBase e n X.env (eval e X.env) = eval e X.env := by rfl) :
    PE (X.suite a ((a, oe) :: pn)) (.Attribute e n pos) (tXg X.K a cls d n te) := by
  refine ⟨fun pins s σ H Q I h => ?_⟩
  refine attr_of hb (thn (he.run pins s σ H _ I h) fun u s1 hh => ?_)
  obtain ⟨x, H1, I1, rx, ex, C, dd, fs, v, ec, T, hno, ed, ea, l, q⟩ := hh
  subst ex
  obtain rfl : u = Value.ref a := rx
  subst ec
  subst ed
  obtain ⟨ha, _⟩ := I1.pin (a, oe) (List.mem_append_left _ List.mem_cons_self)
  obtain ⟨vs, hd⟩ := hf
  have hx : ObjOk X.prog X.w H1 s1.heap dd (.xd fs) := I1.hok dd _ ea
  obtain ⟨mA, hns, hr⟩ := hx
  obtain ⟨od, ho, hl⟩ := lookIn_ns hns
  obtain ⟨u, hu, ru⟩ := RelO.some_of (v := v) (o := mA n) (by rw [← l]; exact hr n)
  have J : PySem.W.InstAt s1.heap a oe C (some od) := ⟨ha, hz.1, by unfold PySem.W.notCls; rw [hd] <;> rfl, by rw [hz.2]; exact ho⟩
  exact HandSPX.exc_get I1.kIn J T.ga T.gg T.exC (PySem.W.findObj_own T.hdC hno rfl (by rw [hl, hu])) (handed_of ru) ⟨v, H1, I1.tok _, ru, q⟩
/-- isinstance(e, c), e the caught error -/
def rIsG (K : PySem.W.Frag) (cls : Value) (d : Option Addr) (a : Addr) (cv : Value) : List V → Hp → VK → Prop := fun xs H Q => ∃ (c : V) (C dd : Addr) (fs : List (Str × V)) (b : Bool), xs = [.ref a, c] ∧ (∀ u, RelV c u → u = cv) ∧ cls = .ref C ∧ ErC K C ∧ d = some dd ∧ H dd = some (.xd fs) ∧ PySem.W.kitOne K (.ref C) cv = some b ∧ Q (.bl b) H
theorem call_isG {X : Cx} {a : Addr} {cls cv : Value} {d : Option Addr} {oe : Obj} {pn : List (Addr × Obj)} (hz : Zc cls d oe) (hf : ∃ vs, oe.data = .fields vs) : CallR (X.suite a ((a, oe) :: pn)) (.builtin "isinstance") (rIsG X.K cls d a cv) := by
  intro pins s σ H xs us Q I r h
  obtain ⟨c, C, dd, fs, b, rfl, hcv, ec, T, ed, ea, e, q⟩ := h
  cases r with
  | cons rx rr =>
    cases rr with
    | cons rt rr =>
      cases rr
      cases rx
      have eu := hcv _ rt
      subst eu ec ed
      obtain ⟨hget, _⟩ := I.pin (a, oe) (List.mem_append.mpr (.inl List.mem_cons_self))
      obtain ⟨vs, hd⟩ := hf
      have hx : ObjOk X.prog X.w H s.heap dd (.xd fs) := I.hok dd _ ea
      obtain ⟨mA, hns, hr⟩ := hx
      obtain ⟨od, ho, hl⟩ := lookIn_ns hns
      have J : PySem.W.InstAt s.heap a oe C (some od) := ⟨hget, hz.1, by unfold PySem.W.notCls; rw [hd] <;> rfl, by rw [hz.2]; exact ho⟩
      have hcl : (PySem.W.clsIn X.K C).isSome = true := by
        obtain ⟨cd, hc, _⟩ := PySem.W.any_some T.hdC
        rw [hc]; rfl
      exact PySem.W.kia_one (PySem.W.kitx_exc hcl T.ga T.gg T.exC T.ha T.hn T.ht T.hm) I.kIn J e (fun z => nomatch z) fun tk => ⟨.bl b, H, I.kept (t' := tk) fun _ _ z => z, rfl, q⟩
section
variable {X : Cx} {W : WX} {i : Nat} {a dd : Addr} {oe : Obj} {cls : Value} {d : Option Addr} {pn : List (Addr × Obj)} {y : Xn} {n x : Str} {pos pos' p : Pos}
def eTab (tab : List (Str × Bool)) (c : Str) : M D := fun env => match tab.lookup c with
  | some b => .ok (.bl b) env
  | none => .stuck
/-- the facts of the classes that may come: their fields may be read -/
def ErK (K : PySem.W.Frag) (mg : Str → Option Value) (c : Str) : Prop := ∃ C, mg c = some (.ref C) ∧ ErC K C
theorem sej_place (hz : Zc cls d oe) (hf : ∃ vs, oe.data = .fields vs) (hk : ErK X.K X.mg y.cls) (hN : X.N[i]? = some n := by rfl) (hv : Vis X.env.scope n := by first | exact Or.inl rfl | exact Or.inr (Or.inl rfl) | exact Or.inr (Or.inr rfl)) (hd : (n == ("__debug__" : Str)) = false := by decide)
    (hcd : (n == ("__classdict__" : Str)) = false := by decide) (hb : attributeBase (.Name n pos') "place" X.env (eval (.Name n pos') X.env) = eval (.Name n pos') X.env := by rfl) :
    SEJ (X.suite a ((a, oe) :: pn)) W (Er X.mg cls d i a dd y) (.Attribute (.Name n pos') "place" pos) (tXg X.K a cls d "place" (tVar i)) (eC (.int y.place)) := by
  refine ⟨pe_xg hz hf (pe_var hN hv hd hcd) hb, fun σ0 B H σ env sm j Q post => ?_⟩
  obtain ⟨C, hC, T⟩ := hk
  have ec := j.cl
  rw [hC] at ec
  cases ec
  exact ⟨.ref a, j.sl, rfl, C, dd, _, .int y.place, rfl, T, T.np, j.dq, j.dct, rfl, post.val sm (.int _)⟩
theorem sej_name (hz : Zc cls d oe) (hf : ∃ vs, oe.data = .fields vs) (hk : ErK X.K X.mg y.cls) (hN : X.N[i]? = some n := by rfl) (hv : Vis X.env.scope n := by first | exact Or.inl rfl | exact Or.inr (Or.inl rfl) | exact Or.inr (Or.inr rfl)) (hd : (n == ("__debug__" : Str)) = false := by decide)
    (hcd : (n == ("__classdict__" : Str)) = false := by decide) (hb : attributeBase (.Name n pos') "name" X.env (eval (.Name n pos') X.env) = eval (.Name n pos') X.env := by rfl) :
    SEJ (X.suite a ((a, oe) :: pn)) W (Er X.mg cls d i a dd y) (.Attribute (.Name n pos') "name" pos) (tXg X.K a cls d "name" (tVar i)) (eC (.str y.cls)) := by
  refine ⟨pe_xg hz hf (pe_var hN hv hd hcd) hb, fun σ0 B H σ env sm j Q post => ?_⟩
  obtain ⟨C, hC, T⟩ := hk
  have ec := j.cl
  rw [hC] at ec
  cases ec
  exact ⟨.ref a, j.sl, rfl, C, dd, _, .str y.cls, rfl, T, T.nn, j.dq, j.dct, rfl, post.val sm (.str _)⟩
theorem sej_is {cv : Value} {c : V} (tab : List (Str × Bool)) (hz : Zc cls d oe) (hf : ∃ vs, oe.data = .fields vs) (hk : ErK X.K X.mg y.cls) (hm : X.mg "isinstance" = none)
    (hx : (X.mg x = some cv ∨ (X.mg x = none ∧ bootBuiltins x = some cv ∧ x ≠ "__name__")) ∧ RelV c cv) (hcv : ∀ u, RelV c u → u = cv) (ht : ∀ e b, tab.lookup e = some b → ∃ C, X.mg e = some (.ref C) ∧ PySem.W.kitOne X.K (.ref C) cv = some b)
    (hN : X.N[i]? = some n := by rfl) (hv : Vis X.env.scope n := by first | exact Or.inl rfl | exact Or.inr (Or.inl rfl) | exact Or.inr (Or.inr rfl)) (hd : (n == ("__debug__" : Str)) = false := by decide)
    (hcd : (n == ("__classdict__" : Str)) = false := by decide) (hg : Gl X "isinstance" := by rfl) (hgT : Gl X x := by rfl) (hdx : (x == ("__debug__" : Str)) = false := by decide)
    (hbb : bootBuiltins "isinstance" = some (.builtin "isinstance") := by decide +kernel)
    (hs : starEach [.Name n pos', .Name x p] X.env = (false, eval (.Name n pos') X.env) :: starEach [.Name x p] X.env := by rfl) (hs2 : starEach [.Name x p] X.env = (false, eval (.Name x p) X.env) :: starEach [] X.env := by rfl) (hpl : (backTo pos (starEach [.Name x p] X.env)).any (·.1) = false := by rfl) :
    SEJ (X.suite a ((a, oe) :: pn)) W (Er X.mg cls d i a dd y) (.Call (.Name "isinstance" q0) [.Name n pos', .Name x p] [] pos) (tCB (rIsG X.K cls d a cv) (tCons (tVar i) (tCons (tC c) tNil))) (eTab tab y.cls) := by
  have px : PE (X.suite a ((a, oe) :: pn)) (.Name x p) (tC c) := by
    obtain ⟨hx | ⟨h1, h2, h3⟩, rv⟩ := hx
    · exact pe_glob hgT hx rv hdx
    · exact pe_bltn hgT h1 h2 rv h3 hdx
  refine ⟨pe_callB (call_isG hz hf) hg hm hbb (pa_cons (pe_var hN hv hd hcd) (pa_cons px pa_nil hs2) hs) (by decide) (by decide) hs hpl, fun σ0 B H σ env sm j Q post => ?_⟩
  unfold eTab at post
  cases e1 : tab.lookup y.cls with
  | none => rw [e1] at post; exact post.elim
  | some b =>
    rw [e1] at post
    obtain ⟨C, hC, T⟩ := hk
    have ec := j.cl
    rw [hC] at ec
    cases ec
    obtain ⟨C', h1, h2⟩ := ht _ _ e1
    rw [hC] at h1
    cases h1
    exact ⟨.ref a, j.sl, c, C, dd, _, b, rfl, hcv, rfl, T, j.dq, j.dct, h2, post.val sm (.bl _)⟩
end
/-! ### try -/
def mTry (i : Nat) (mb : M Fl) (tab : List (Str × Bool)) (ms : Xn → M Fl) : M Fl := fun env => match mb env with
  | .exn y env' => match tab.lookup y.cls with
    | some true => if i < env'.length then match ms y (env'.set i none) with
        | .ok f env2 => .ok f (env2.set i none)
        | _ => .stuck
      else .stuck
    | some false => .exn y env'
    | none => .stuck
  | r => r
section
variable {X : Cx} {W : WX} {i : Nat} {n x : Str} {c : Value} {body suite : List Stmt} {b₀ : Stmt} {np pos pos' : Pos} {tb : WX → TS} {ts : Addr → Value → Option Addr → TS} {mb : M Fl} {ms : Xn → M Fl}
theorem Frm.forget {K : PySem.W.Frag} {mg : Str → Option Value} {cc : Ent} {σ0 σ : L2.St} {B H : Hp} {env : En} (f : Frm cc σ env B H) (i : Nat) (v : Option V) : Frm cc (σ.set i v) (env.set i none) B H := f.keep keep_setNone
theorem rs_try (tab : List (Str × Bool)) (htab : ∀ e b, tab.lookup e = some b → ∃ C, X.mg e = some (.ref C) ∧ PySem.W.exmOne X.K (.ref C) c = some b)
    (hs : ∀ a cls d dd y, tab.lookup y.cls = some true → RSJ X.K X.mg W0 (Er X.mg cls d i a dd y) (ts a cls d) (ms y)) :
    RS X.K X.mg W (fun D σ H => RS X.K X.mg (wAs X.K c i ts W D) (tb (wAs X.K c i ts W D)) mb → tb (wAs X.K c i ts W D) D σ H) (mTry i mb tab ms) := by
  intro cc σ0 B H σ env sm fr D post hb
  refine hb cc σ0 B H σ env sm fr D ?_
  unfold mTry at post
  cases e : mb env with
  | stuck => rw [e] at post; exact post
  | ok f env' =>
    rw [e] at post
    cases f with
    | nx => exact post
    | bk => exact post
    | ct => exact post
    | rt o z => cases o <;> exact post
  | exn y env' =>
    simp only [e] at post
    intro cls d σ' B' H' sm' fr' ex
    cases e1 : tab.lookup y.cls with
    | none => simp only [e1] at post; exact post.elim
    | some b =>
      obtain ⟨C, hC, hx⟩ := htab _ _ e1
      obtain ⟨C', dd, rfl, hC', rfl, hdd⟩ := ex
      rw [hC] at hC'
      cases hC'
      refine ⟨b, hx, fun hbt a ha => ?_, fun hbf => ?_⟩
      · subst hbt
        simp only [e1] at post
        have sm2 : Sm X.K X.mg σ0 B' H' (σ'.set i (some (.ref a))) (env'.set i none) := sm'.setNone i _
        have fr2 : Frm cc (σ'.set i (some (.ref a))) (env'.set i none) B' H' := fr'.keep keep_setNone
        by_cases hil0 : i < env'.length
        · rw [if_pos hil0] at post
          have hil : i < σ'.length := by rw [sm'.len]; exact hil0
          have j : Er X.mg (.ref C) (some dd) i a dd y (σ'.set i (some (.ref a))) H' := ⟨List.getElem?_set_self hil, hdd, hC, rfl⟩
          refine hs a (.ref C) (some dd) dd y e1 cc σ0 B' H' _ _ sm2 fr2 j _ ?_
          cases e2 : ms y (env'.set i none) with
          | stuck => simp only [e2] at post; exact post.elim
          | exn z env2 => simp only [e2] at post; exact post.elim
          | ok f env2 =>
            simp only [e2] at post
            have key : ∀ {σ3 : L2.St} {B3 H3 : Hp}, Sm X.K X.mg σ0 B3 H3 σ3 env2 → Frm cc σ3 env2 B3 H3 → Sm X.K X.mg σ0 B3 H3 (σ3.set i none) (env2.set i none) ∧ Frm cc (σ3.set i none) (env2.set i none) B3 H3 := fun m f => ⟨m.setNone i _, f.keep keep_setNone⟩
            cases f with
            | nx => exact fun s B H a b => post _ B H (key a b).1 (key a b).2
            | bk => exact fun s B H a b => post _ B H (key a b).1 (key a b).2
            | ct => exact fun s B H a b => post _ B H (key a b).1 (key a b).2
            | rt o z =>
              cases o with
              | false => exact fun v s B H a b r => post v _ B H (key a b).1 (key a b).2 r
              | true =>
                exact fun v s B H a b r hb h0 hn => post v _ B H (key a b).1 (key a b).2 r hb h0 fun ho => hn (keep_setNone.owned ho)
        · rw [if_neg hil0] at post; exact post.elim
      · subst hbf
        simp only [e1] at post
        exact post (.ref C) (some dd) σ' B' H' sm' fr' ⟨C, dd, rfl, hC, rfl, hdd⟩
theorem pss_if {Y : Cx} {sts : List Stmt} {t : TS} {p : Prop} (h : PSs Y sts t) (hp : p) : PSs Y sts (fun D σ H => p → t D σ H) := ⟨fun pins s σ H D I z => h.run pins s σ H D I (z hp)⟩
theorem ss_try_as (tk : Takes X W) (hc : Names X x c) (tab : List (Str × Bool)) (htab : ∀ e b, tab.lookup e = some b → ∃ C, X.mg e = some (.ref C) ∧ PySem.W.exmOne X.K (.ref C) c = some b)
    (hb : ∀ (W' : WX) (pn : List (Addr × Obj)) (xe : Value → Shared → Prop), Takes (X.tr pn xe) W' → PassesOwn (model X.prog X.w) X.A X.env xe → SSs (X.tr pn xe) W' body (tb W') mb)
    (hsu : ∀ (a : Addr) (oe : Obj) (cls : Value) (d : Option Addr) (pn : List (Addr × Obj)), Zc cls d oe → (∃ vs, oe.data = .fields vs) → ∀ (dd : Addr) (y : Xn), tab.lookup y.cls = some true → SSsJ (X.suite a ((a, oe) :: pn)) W0 (Er X.mg cls d i a dd y) (b₀ :: suite) (ts a cls d) (ms y))
    (y0 : Xn) (hy0 : tab.lookup y0.cls = some true)
    (hN : X.N.Nodup) (hst : X.stack = X.env :: X.outer := by rfl) (hf : X.env.frame = some X.env.locals := by rfl) (hi : X.N[i]? = some n := by rfl) (hln : X.env.kindOf n = some .local := by rfl) :
    SS X W (.Try body [.ExceptHandler (some (.Name x np)) (some n) (b₀ :: suite) pos'] [] [] pos) (fun D σ H => RS X.K X.mg (wAs X.K c i ts W D) (tb (wAs X.K c i ts W D)) mb → tb (wAs X.K c i ts W D) D σ H) (mTry i mb tab ms) :=
  ⟨ps_try_as (tb := fun W' D σ H => RS X.K X.mg W' (tb W') mb → tb W' D σ H) hst hf hN hi hln hc tk (fun W' pn xe tk' po => pss_if (hb W' pn xe tk' po).ps (hb W' pn xe tk' po).rs) (fun a oe cls d pn hz hv => (hsu a oe cls d pn hz hv 0 y0 hy0).ps),
    rs_try tab htab (fun a cls d dd y hy => (hsu a ⟨cls, d, .fields #[], #[]⟩ cls d [] ⟨rfl, rfl⟩ ⟨_, rfl⟩ dd y hy).rs)⟩
theorem ss_try_as2 {tb0 : WX → List (Addr × Obj) → (Value → Shared → Prop) → TS} (tk : Takes X W) (hc : Names X x c) (tab : List (Str × Bool)) (htab : ∀ e b, tab.lookup e = some b → ∃ C, X.mg e = some (.ref C) ∧ PySem.W.exmOne X.K (.ref C) c = some b)
    (hb : ∀ (W' : WX) (pn : List (Addr × Obj)) (xe : Value → Shared → Prop), Takes (X.tr pn xe) W' → PassesOwn (model X.prog X.w) X.A X.env xe → SSs (X.tr pn xe) W' body (tb0 W' pn xe) mb)
    (hsu : ∀ (a : Addr) (oe : Obj) (cls : Value) (d : Option Addr) (pn : List (Addr × Obj)), Zc cls d oe → (∃ vs, oe.data = .fields vs) → ∀ (dd : Addr) (y : Xn), tab.lookup y.cls = some true → SSsJ (X.suite a ((a, oe) :: pn)) W0 (Er X.mg cls d i a dd y) (b₀ :: suite) (ts a cls d) (ms y))
    (y0 : Xn) (hy0 : tab.lookup y0.cls = some true)
    (hN : X.N.Nodup) (hst : X.stack = X.env :: X.outer := by rfl) (hf : X.env.frame = some X.env.locals := by rfl) (hi : X.N[i]? = some n := by rfl) (hln : X.env.kindOf n = some .local := by rfl)
    (hind : ∀ W' pn xe, tb0 W' pn xe = tb0 W' [] (fun _ _ => False) := by intros; rfl) :
    SS X W (.Try body [.ExceptHandler (some (.Name x np)) (some n) (b₀ :: suite) pos'] [] [] pos) (fun D σ H => RS X.K X.mg (wAs X.K c i ts W D) (tb0 (wAs X.K c i ts W D) [] (fun _ _ => False)) mb → tb0 (wAs X.K c i ts W D) [] (fun _ _ => False) D σ H) (mTry i mb tab ms) :=
  ss_try_as (tb := fun W' => tb0 W' [] (fun _ _ => False)) tk hc tab htab (fun W' pn xe tk' po => hind W' pn xe ▸ hb W' pn xe tk' po) hsu y0 hy0 hN hst hf hi hln
end
end Mi
namespace Mi
open PySem L2
variable [Tabs]
theorem tab_nil {p : Str → Bool → Prop} : ∀ e b, ([] : List (Str × Bool)).lookup e = some b → p e b := fun _ _ h => by cases h
theorem tab_cons {p : Str → Bool → Prop} {e0 : Str} {b0 : Bool} {r : List (Str × Bool)} (h0 : p e0 b0) (h : ∀ e b, r.lookup e = some b → p e b) : ∀ e b, ((e0, b0) :: r).lookup e = some b → p e b := fun e b z => by
  simp only [List.lookup] at z
  cases q : (e == e0) with
  | true =>
    rw [q] at z
    cases z
    have := beq_iff_eq.mp q
    subst this
    exact h0
  | false => rw [q] at z; exact h e b z
theorem mRet_nn {m : M D} : ∀ env env', mRet m env ≠ .ok .nx env' := fun env env' h => by
  unfold mRet M.bind at h
  cases e : m env with
  | stuck => rw [e] at h; cases h
  | exn _ _ => rw [e] at h; cases h
  | ok d env1 => rw [e] at h; cases h
end Mi

/-! The mirror layer 22: what a dict holds, raw; list(d), list(d.values()), len(d). -/
namespace Mi
open PySem L2
variable [Tabs]
section
variable {X : Cx} {pins : List (Addr × Obj)} {σ : L2.St} {H : Hp} {s : Shared} {d : Addr}
theorem pairs_kv {P : Program} {w : World} {es : List DictEntry} {kvs : List (Key × V)} {vs : List (Key × Value)} (h : Pairs (mixKind P w) es vs) (g : KV kvs vs) : Vals (kvs.map fun kv => kV kv.1) (es.map (·.key)) ∧ Vals (kvs.map Prod.snd) (es.map (·.val)) := by
  induction h generalizing kvs with
  | nil => cases g; exact ⟨.nil, .nil⟩
  | @cons e v es vs h1 h2 h3 ih =>
    cases g with
    | cons g1 g2 =>
      obtain ⟨r1, r2⟩ := ih g2
      refine ⟨.cons ?_ r1, .cons ?_ r2⟩
      · show RelV (kV _) e.key
        rw [g1.1]; exact relV_key h1
      · show RelV _ e.val
        rw [h2]; exact g1.2
theorem rawK {kvs : List (Key × V)} (I : Inv X pins σ H s) (r : Rd H d (.dK kvs)) : (d == sysModules) = false ∧ kvs.length ≤ sizeLine ∧ ∃ es ep, s.heap.DictRaw d es ep ∧ es.size = kvs.length ∧ Vals (kvs.map fun kv => kV kv.1) (es.toList.map (·.key)) ∧ Vals (kvs.map Prod.snd) (es.toList.map (·.val)) := by
  obtain ⟨hz, hs, vs, kv, o, es, ep, ho, hx, hd, hk, hp, hn⟩ := r.ok I.hok
  obtain ⟨r1, r2⟩ := pairs_kv hp kv
  refine ⟨hs, hz, es, ep, ⟨o, ho, hx, hd⟩, ?_, r1, r2⟩
  have := r2.length
  simpa using this.symm
theorem entT : ∀ {κ : Type} [DecidableEq κ] {P : Program} {w : World} {knd : KeyKind P w κ} {xs : List (List κ × Addr × Value)}, (xs.map (entryOfKey (tupleKind knd))).map (·.key) = (xs.map fun x => Value.ref x.2.1) ∧ (xs.map (entryOfKey (tupleKind knd))).map (·.val) = xs.map fun x => x.2.2 := by
  intro κ _ P w knd xs
  rw [List.map_map, List.map_map]
  exact ⟨rfl, rfl⟩
theorem rawT {kvs : List (List Key × V)} (I : Inv X pins σ H s) (r : Rd H d (.dT kvs)) : (d == sysModules) = false ∧ kvs.length ≤ sizeLine ∧ ∃ es ep, s.heap.DictRaw d es ep ∧ es.size = kvs.length ∧ Vals (kvs.map Prod.snd) (es.toList.map (·.val)) ∧
    ∃ qs : List Addr, es.toList.map (·.key) = qs.map Value.ref ∧ Paired (fun (k : List Key) (q : Addr) => H q = some (.tup (k.map kV))) (kvs.map Prod.fst) qs := by
  obtain ⟨hz, hs, xs, pr, o, es, ep, ho, hx, hd, he, hn⟩ := r.ok I.hok
  have l1 : kvs.length = xs.length := Paired.length pr
  have l2 : es.size = xs.length := size_of_entries he
  refine ⟨hs, hz, es, ep, ⟨o, ho, hx, hd⟩, by omega, ?_, xs.map (·.2.1), ?_, ?_⟩
  · rw [he, entT.2]
    clear he l1 l2 hn hz r
    induction pr with
    | nil => exact .nil
    | cons h t ih => exact .cons h.2.2 ih
  · rw [he, entT.1, List.map_map]; rfl
  · clear he l1 l2 hn hz r
    induction pr with
    | nil => exact .nil
    | cons h t ih =>
      refine .cons ?_ ih
      rw [h.1]; exact h.2.1 ▸ (by rw [h.1])
end
/-! ### what a dict holds, for data -/
def DHas (K : PySem.W.Frag) (mg : Str → Option Value) (B H : Hp) (a : Addr) : D → Prop
  | .dK ds => ∃ kvs, Rd H a (.dK kvs) ∧ RKv K mg B kvs ds
  | .dT ds => ∃ kvs, Rd H a (.dT kvs) ∧ RKv K mg B kvs ds
  | _ => False
section
variable {K : PySem.W.Frag} {mg : Str → Option Value} {B H : Hp} {a : Addr} {d : D}
def isD : D → Bool
  | .dK _ => true
  | .dT _ => true
  | _ => false
theorem sub_rd {u : HO} (s : Sub B H) (h : B a = some u) : Rd H a u := by
  rcases s _ _ h with h | ⟨_, ob, h⟩
  · exact .inl h
  · exact .inr ⟨ob, h⟩
theorem Rep.dhas {v : V} (s : Sub B H) (r : Rep K mg B v d) (h : isD d = true) : ∃ a, v = .ref a ∧ DHas K mg B H a d := by
  cases r with
  | dK p k rs => exact ⟨_, rfl, _, sub_rd s p, k, rs⟩
  | dT p k rs => exact ⟨_, rfl, _, sub_rd s p, k, rs⟩
  | _ => cases h
theorem Cont.dhas (c : Cont K mg B H a d) (h : isD d = true) : DHas K mg B H a d := by
  cases c with
  | dK p k rs => exact ⟨_, .inl p, k, rs⟩
  | dT p k rs => exact ⟨_, .inl p, k, rs⟩
  | _ => cases h
end
/-- a reading that asks a dict -/
def RealD (K : PySem.W.Frag) (mg : Str → Option Value) (r : V → Hp → VK → Prop) (f : D → Option D) : Prop :=
  ∀ (B H : Hp) (a : Addr) (d z : D), Sub B H → DHas K mg B H a d → f d = some z → ∀ Q : VK, (∀ v B' H', Al B H B' H' → Rep K mg B' v z → Q v H') → r (.ref a) H Q
def RealDN (K : PySem.W.Frag) (mg : Str → Option Value) (r : V → Hp → VK → Prop) (f : D → Option D) : Prop :=
  ∀ (B H : Hp) (a : Addr) (d z : D), Sub B H → DHas K mg B H a d → f d = some z → ∀ Q : VK, (∀ p o B' H', Al B H B' H' → H' p = none → Cont K mg B' (upd H' p o) p z → Q (.ref p) (upd H' p o)) → r (.ref a) H Q
def dOf (f : D → Option D) (d : D) : Option D := if isD d = true then f d else none
def eDic (f : D → Option D) (m : M D) : M D := m.bind fun d => ofO (dOf f d)
def eDicO (f : D → Option D) (i : Nat) : M D := fun env => match getOwn env i with
  | some d => ofO (dOf f d) env
  | none => .stuck
theorem dOf_some {f : D → Option D} {d z : D} (h : dOf f d = some z) : isD d = true ∧ f d = some z := by
  unfold dOf at h
  split at h
  · exact ⟨‹_›, h⟩
  · cases h
section
variable {K : PySem.W.Frag} {mg : Str → Option Value} {W : WX} {te : TE} {me : M D} {r : V → Hp → VK → Prop} {f : D → Option D}
theorem rx_dic (hr : RealD K mg r f) (h : RX K mg W (RD K mg) te me) : RX K mg W (RD K mg) (fun σ H Q => te σ H fun x H1 => r x H1 Q) (eDic f me) :=
  h.bind (t2 := fun x _ H Q => r x H Q) fun v d σ0 B H σ env sm rv Q post => by
    cases e : dOf f d with
    | none => rw [e] at post; exact post.elim
    | some z =>
      rw [e] at post
      obtain ⟨hd, e⟩ := dOf_some e
      obtain ⟨a, rfl, dh⟩ := Rep.dhas sm.sub rv hd
      exact hr B H a d z sm.sub dh e Q fun u B' H' al ru => post.al sm al ru
theorem rx_dicO (i : Nat) (hr : RealD K mg r f) : RX K mg W (RD K mg) (fun σ H Q => tVar i σ H fun x H1 => r x H1 Q) (eDicO f i) := by
  intro σ0 B H σ env sm Q post
  unfold eDicO at post
  cases e0 : getOwn env i with
  | none => rw [e0] at post; exact post.elim
  | some d =>
    simp only [e0] at post
    obtain ⟨a, p, _, e1, c, hb, _⟩ := sm.getOwn e0
    refine ⟨.ref a, e1, ?_⟩
    cases e : dOf f d with
    | none => rw [e] at post; exact post.elim
    | some z =>
      rw [e] at post
      obtain ⟨hd, e⟩ := dOf_some e
      exact hr B H a d z sm.sub (c.dhas hd) e Q fun u B' H' al ru => post.al sm al ru
theorem PostN.new2 {σ0 σ : L2.St} {env : En} {B H B' H' : Hp} {d : D} {Q : VK} {p : Addr} {o : HO} (h : PostN K mg W σ0 σ env B H (.ok d env) Q) (m : Sm K mg σ0 B H σ env) (al : Al B H B' H') (hp : H' p = none) (c : Cont K mg B' (upd H' p o) p d) : Q (.ref p) (upd H' p o) :=
  (h.rebase (Stp.alloc al.g al.n al.s) (OSub.refl _)).new (m.alloc al.g al.n al.s al.sb) hp c
theorem rn_dic (hr : RealDN K mg r f) (h : RX K mg W (RD K mg) te me) : RN K mg W (fun σ H Q => te σ H fun x H1 => r x H1 Q) (eDic f me) := by
  intro σ0 B H σ env sm Q post
  refine h.goN sm post fun v d B1 H1 env1 sm1 g r1 post1 => ?_
  cases e : dOf f d with
  | none => rw [e] at post1; exact post1.elim
  | some z =>
    rw [e] at post1
    obtain ⟨hd, e⟩ := dOf_some e
    obtain ⟨a, rfl, dh⟩ := Rep.dhas sm1.sub r1 hd
    exact hr B1 H1 a d z sm1.sub dh e Q fun p o B' H' al hp c => post1.new2 sm1 al hp c
theorem rn_dicO (i : Nat) (hr : RealDN K mg r f) : RN K mg W (fun σ H Q => tVar i σ H fun x H1 => r x H1 Q) (eDicO f i) := by
  intro σ0 B H σ env sm Q post
  unfold eDicO at post
  cases e0 : getOwn env i with
  | none => rw [e0] at post; exact post.elim
  | some d =>
    simp only [e0] at post
    obtain ⟨a, p, _, e1, c, hb, _⟩ := sm.getOwn e0
    refine ⟨.ref a, e1, ?_⟩
    cases e : dOf f d with
    | none => rw [e] at post; exact post.elim
    | some z =>
      rw [e] at post
      obtain ⟨hd, e⟩ := dOf_some e
      exact hr B H a d z sm.sub (c.dhas hd) e Q fun p o B' H' al hp c => post.new2 sm al hp c
end
/-! ### list(d), list(d.values()), len(d) -/
theorem items_eq {es : Array DictEntry} {acc : Array Value} {f : DictEntry → Value} (h : ItemsOf (fun i v => ∃ hi : i < es.size, v = f es[i]) acc es.size) : acc.toList = es.toList.map f := by
  apply List.ext_getElem?
  intro i
  rw [List.getElem?_map, Array.getElem?_toList, Array.getElem?_toList]
  by_cases hi : i < es.size
  · have h1 : i < acc.size := by rw [h.1]; exact hi
    obtain ⟨_, e⟩ := h.2 i acc[i] (Array.getElem?_eq_getElem h1)
    rw [Array.getElem?_eq_getElem h1, Array.getElem?_eq_getElem hi, e]; rfl
  · rw [Array.getElem?_eq_none (by rw [h.1]; omega), Array.getElem?_eq_none (by omega)]; rfl
def rListD : V → Hp → VK → Prop := fun x H Q => ∃ a, x = .ref a ∧ ((∃ kvs, Rd H a (.dK kvs) ∧ ∀ p, H p = none → Q (.ref p) (upd H p (.lst (kvs.map fun kv => kV kv.1)))) ∨
  ∃ kvs, Rd H a (.dT kvs) ∧ ∀ (p : Addr) (qs : List Addr), H p = none → Paired (fun (k : List Key) (q : Addr) => H q = some (.tup (k.map kV))) (kvs.map Prod.fst) qs → Q (.ref p) (upd H p (.lst (qs.map V.ref))))
def rListV : V → Hp → VK → Prop := fun x H Q => ∃ a, x = .ref a ∧ ((∃ kvs : List (Key × V), Rd H a (.dK kvs) ∧ ∀ p, H p = none → Q (.ref p) (upd H p (.lst (kvs.map Prod.snd)))) ∨ ∃ kvs : List (List Key × V), Rd H a (.dT kvs) ∧ ∀ p, H p = none → Q (.ref p) (upd H p (.lst (kvs.map Prod.snd))))
theorem vals_refsV : ∀ qs : List Addr, Vals (qs.map V.ref) (qs.map Value.ref)
  | [] => .nil
  | _ :: qs => .cons rfl (vals_refsV qs)
section
variable {X : Cx}
theorem call_listD (hc : X.calm = true) : CallR X (.type "list") (fun xs H Q => ∃ x, xs = [x] ∧ rListD x H Q) := by
  intro pins s σ H xs us Q I r h
  obtain ⟨x, rfl, a, rfl, h⟩ := h
  obtain ⟨u, rfl, rx⟩ := vals1 r
  cases rx
  have hh := I.ok.hd hc
  rcases h with ⟨kvs, hr, q⟩ | ⟨kvs, hr, q⟩
  · obtain ⟨hs, hz, es, ep, hm, hl, r1, r2⟩ := rawK I hr
    refine PySem.W.kdl_call (PySem.KdlSrc.rawDict hs) hh hm (by omega) fun h' tk acc c kp e ia => ?_
    have ea := items_eq (f := fun e => e.key) ia
    rw [← ea] at r1
    exact ⟨.ref _, _, I.laid (t' := tk) kp (Nat.le_refl _) (show ObjOk X.prog X.w _ h' _ (.lst _) from ⟨by rw [List.length_map]; omega, acc.toList, c, r1, by rw [Array.toArray_toList]; exact e⟩), rfl, q _ (I.hok.fresh (Nat.le_refl _))⟩
  · obtain ⟨hs, hz, es, ep, hm, hl, r2, qs, e1, pq⟩ := rawT I hr
    refine PySem.W.kdl_call (PySem.KdlSrc.rawDict hs) hh hm (by omega) fun h' tk acc c kp e ia => ?_
    have ea := items_eq (f := fun e => e.key) ia
    have r1 := vals_refsV qs
    rw [← e1, ← ea] at r1
    have hq : qs.length = kvs.length := by
      have := Paired.length pq
      simpa using this.symm
    exact ⟨.ref _, _, I.laid (t' := tk) kp (Nat.le_refl _) (show ObjOk X.prog X.w _ h' _ (.lst _) from ⟨by rw [List.length_map]; omega, acc.toList, c, r1, by rw [Array.toArray_toList]; exact e⟩), rfl, q _ qs (I.hok.fresh (Nat.le_refl _)) pq⟩
variable {e : Expr} {te : TE} {p apos cpos pos : Pos}
theorem pe_listV (hc : X.calm = true) (he : PE X e te) (hm : X.mg "list" = none) (hg : Gl X "list" := by rfl) (hv : bootBuiltins "list" = some (.type "list") := by decide +kernel) (hbase : attributeBase e "values" X.env (eval e X.env) = eval e X.env := by rfl) (hline : (apos.endLine == cpos.line) = true := by rfl)
    (hs : starEach [.Call (.Attribute e "values" apos) [] [] cpos] X.env = (false, eval (.Call (.Attribute e "values" apos) [] [] cpos) X.env) :: starEach [] X.env := by rfl) :
    PE X (.Call (.Name "list" p) [.Call (.Attribute e "values" apos) [] [] cpos] [] pos) (fun σ H Q => te σ H fun x H1 => rListV x H1 Q) := by
  refine ⟨fun pins s σ H Q I hq => ?_⟩
  refine wpAny_Call_Name_kw (ld_blt I hg hm hv ?_)
  refine PyProof.Rows.callWith_type1 ?_ hs rfl
  rw [hs]
  show wpAny _ _ (spliced ((false, eval (.Call (.Attribute e "values" apos) [] [] cpos) X.env) :: backTo pos (starEach [] X.env))) _ _ s
  refine Calls.spliced_cons ?_
  refine wpAny_Call_method (T := "dict") (id := "dict.values") hbase rfl hline F.plainAttrs_dict F.slot_dict_values F.type_dict_values (thn (he.run pins s σ H _ I hq) fun u s1 ⟨x, H1, I1, rx, d, ex, hd⟩ => ?_)
  subst ex
  obtain rfl : u = Value.ref d := rx
  have raw : (d == sysModules) = false ∧ ∃ es ep, s1.heap.DictRaw d es ep ∧ es.size ≤ sizeLine ∧ ∃ vs : List V, vs.length ≤ sizeLine ∧ Vals vs (es.toList.map (·.val)) ∧ ∀ p, H1 p = none → Q (.ref p) (upd H1 p (.lst vs)) := by
    rcases hd with ⟨kvs, hr, q⟩ | ⟨kvs, hr, q⟩
    · obtain ⟨hs, hz, es, ep, hm, hl, r1, r2⟩ := rawK I1 hr
      exact ⟨hs, es, ep, hm, by omega, _, by rw [List.length_map]; omega, r2, q⟩
    · obtain ⟨hs, hz, es, ep, hm, hl, r2, _⟩ := rawT I1 hr
      exact ⟨hs, es, ep, hm, by omega, _, by rw [List.length_map]; omega, r2, q⟩
  obtain ⟨hs0, es, ep, hm1, hz, vs, hvz, rv, q⟩ := raw
  have I2 : Inv X pins σ H1 { s1 with heap := s1.heap.push { cls := .type "dict_values", data := .fields #[.ref d] } } := I1.kept (t' := s1.toks) fun b ob q => Heap.get?_push_of_some _ q
  refine ⟨hm1.typeIs, ?_, ?_⟩
  · obtain ⟨o, ho, hx, hd⟩ := hm1
    intro a ea
    cases ea
    exact ⟨_, ho, hx.2.1⟩
  show wpAny _ _ (callWith cpos (.builtin "dict.values") [.ref d] [] []) _ X.xe s1
  refine method_meetsIn F.slot_dict_values F.entry_dict_values rfl (PySem.evalArgs_none ⟨rfl, hm1.typeIs, F.args_dict_values_1 _, _, meets_dict_values_raw d hs0, ⟨_, _, hm1⟩, ?_⟩)
  refine Calls.spliced_nil ?_
  refine PySem.W.kdl_call (PySem.KdlSrc.rawValues (r := s1.heap.objs.size) (d := d)) (I1.ok.hd hc) ⟨⟨_, Heap.get?_push_size _ rfl, rfl, rfl⟩, hm1.at fun _ q => Heap.get?_push_of_some _ q⟩ hz fun h' tk acc c kp e ia => ?_
  have ea := items_eq (f := fun e => e.val) ia
  rw [← ea] at rv
  exact ⟨.ref _, _, I2.laid (t' := tk) kp (Nat.le_refl _) (show ObjOk X.prog X.w _ h' _ (.lst _) from ⟨hvz, acc.toList, c, rv, by rw [Array.toArray_toList]; exact e⟩), rfl, q _ (I2.hok.fresh (Nat.le_refl _))⟩
theorem len_raw {A : Around} {E : Value → Shared → Prop} {s : Shared} {prog : Program} {w : World} {d : Addr} {es : Array DictEntry} {ep : Nat} {Q : Value → Shared → Prop} (hd : (d == sysModules) = false) (hm : s.heap.DictRaw d es ep) (hfit : (es.size : Int) < 2 ^ 63) (h : Q (.int es.size (s.toks + 1)) { s with toks := s.toks + 1 + 1 }) :
    wpAny (model prog w) A (call (.builtin "len") [.ref d]) Q E s := by
  refine Calls.call_function_entry kind_len plain_len entry_len (args_len1 _) ?_
  unfold Builtin.«len»
  refine wpAny_bind (m := oneArg "len" _) (wpAny_pure ?_)
  refine wpAny_bind (m := callSpecial? (.ref d) (Str.ofString "__len__")) (wpAny_callSpecial?_slot (name := Str.ofString "__len__") hm.typeIs F.slot_dict_len
    (call_meetsIn F.slot_dict_len hm.typeIs F.entry_dict_len (F.args_dict_len_1 _) (meets_dict_len_raw d hd) ⟨es, ep, hm, ?_⟩))
  show wpAny _ _ _ _ _ { s with toks := s.toks + 1 }
  refine wpAny_bind (wpAny_holding (wpAny_pure ?_))
  refine wpAny_bind (wpAny_letGo ?_)
  show wpAny _ _ (if ((es.size : Nat) : Int) < 0 then _ else _) _ _ _
  rw [if_neg (by omega)]
  show wpAny _ _ (if ((es.size : Nat) : Int) ≥ 2 ^ 63 then _ else _) _ _ _
  rw [if_neg (by omega)]
  exact wpAny_bind (wpAny_mkInt (wpAny_pure ⟨_, rfl, h⟩))
def rLenD : V → Hp → VK → Prop := fun x H Q => ∃ a, x = .ref a ∧ ((∃ kvs : List (Key × V), Rd H a (.dK kvs) ∧ Q (.int kvs.length) H) ∨ ∃ kvs : List (List Key × V), Rd H a (.dT kvs) ∧ Q (.int kvs.length) H)
theorem call_lenD2 : CallR X (.builtin "len") (fun xs H Q => ∃ x, xs = [x] ∧ rLenD x H Q) := by
  intro pins s σ H xs us Q I r h
  obtain ⟨x, rfl, a, rfl, h⟩ := h
  obtain ⟨u, rfl, rx⟩ := vals1 r
  cases rx
  have hz1 := sizeLine_eq
  rcases h with ⟨kvs, hr, q⟩ | ⟨kvs, hr, q⟩
  · obtain ⟨hs, hz, es, ep, hm, hl, _⟩ := rawK I hr
    refine len_raw hs hm (by omega) ?_
    rw [hl]
    exact ⟨.int kvs.length, H, I.tok _, ⟨_, rfl⟩, q⟩
  · obtain ⟨hs, hz, es, ep, hm, hl, _⟩ := rawT I hr
    refine len_raw hs hm (by omega) ?_
    rw [hl]
    exact ⟨.int kvs.length, H, I.tok _, ⟨_, rfl⟩, q⟩
end
end Mi

/-! The mirror layer 23: list(d), list(d.values()), len(d), k in d, d.get(k), d.get(k, x). -/
namespace Mi
open PySem L2
variable [Tabs]
def dKeysL (d : D) : Option D := (keysD d).map .lst
def dValsL (d : D) : Option D := (valsD d).map .lst
def dLenD : D → Option D
  | .dK kvs => some (.int kvs.length)
  | .dT kvs => some (.int kvs.length)
  | _ => none
section
variable {K : PySem.W.Frag} {mg : Str → Option Value} {B H : Hp}
theorem Al.trans {B H B1 H1 B2 H2 : Hp} (a : Al B H B1 H1) (b : Al B1 H1 B2 H2) : Al B H B2 H2 := ⟨a.g.trans b.g, fun x o h => by
  rcases b.n x o h with q | q | q
  · exact a.n x o q
  · refine .inr (.inl ?_)
    cases e : H x with
    | none => rfl
    | some u => rw [a.s _ _ e] at q; cases q
  · exact .inr (.inr q), a.s.trans b.s, b.sb⟩
theorem take_tups : ∀ {ks : List (List Key)} {qs : List Addr} {B : Hp}, Sub B H → Paired (fun (k : List Key) (q : Addr) => H q = some (.tup (k.map kV))) ks qs → ∃ B', Al B H B' H ∧ Reps K mg B' (qs.map V.ref) (ks.map fun k => .tup (k.map kD))
  | [], [], B, s, .nil => ⟨B, Al.refl s, .nil⟩
  | k :: ks, q :: qs, B, s, .cons h t => by
    obtain ⟨B1, a1, r1⟩ := take_tup (K := K) (mg := mg) s h
    obtain ⟨B2, a2, r2⟩ := take_tups a1.sb t
    exact ⟨B2, a1.trans a2, .cons (r1.mono a2.g) r2⟩
theorem keys_rep {kvs : List (Key × V)} {ds : List (Key × D)} (h : kvs.map Prod.fst = ds.map Prod.fst) : Reps K mg B (kvs.map fun kv => kV kv.1) (ds.map fun kv => kD kv.1) := by
  have r := kDs_rep (K := K) (mg := mg) (B := B) (ds.map Prod.fst)
  have r2 : (ds.map Prod.fst).map kD = ds.map fun kv => kD kv.1 := by rw [List.map_map]; rfl
  rw [r2] at r
  have e : (kvs.map fun kv => kV kv.1) = (ds.map Prod.fst).map kV := by rw [← h, List.map_map]; rfl
  rw [e]
  exact r
theorem rdn_list : RealDN K mg rListD dKeysL := by
  intro B H a d z s dh e Q q
  cases d with
  | dK ds =>
    cases e
    obtain ⟨kvs, hr, h1, h2⟩ := dh
    exact ⟨a, rfl, .inl ⟨kvs, hr, fun p hp => q p _ B H (Al.refl s) hp (.lst upd_same (keys_rep h1))⟩⟩
  | dT ds =>
    cases e
    obtain ⟨kvs, hr, h1, h2⟩ := dh
    refine ⟨a, rfl, .inr ⟨kvs, hr, fun p qs hp pq => ?_⟩⟩
    obtain ⟨B', al, r⟩ := take_tups (K := K) (mg := mg) s pq
    rw [h1, List.map_map] at r
    exact q p _ B' H al hp (.lst upd_same r)
  | _ => exact dh.elim
theorem rdn_vals : RealDN K mg rListV dValsL := by
  intro B H a d z s dh e Q q
  cases d with
  | dK ds =>
    cases e
    obtain ⟨kvs, hr, h1, h2⟩ := dh
    exact ⟨a, rfl, .inl ⟨kvs, hr, fun p hp => q p _ B H (Al.refl s) hp (.lst upd_same h2)⟩⟩
  | dT ds =>
    cases e
    obtain ⟨kvs, hr, h1, h2⟩ := dh
    exact ⟨a, rfl, .inr ⟨kvs, hr, fun p hp => q p _ B H (Al.refl s) hp (.lst upd_same h2)⟩⟩
  | _ => exact dh.elim
theorem rd_len : RealD K mg rLenD dLenD := by
  intro B H a d z s dh e Q q
  cases d with
  | dK ds =>
    cases e
    obtain ⟨kvs, hr, h1⟩ := dh
    exact ⟨a, rfl, .inl ⟨kvs, hr, by rw [RKv.length h1]; exact q _ B H (Al.refl s) (.int _)⟩⟩
  | dT ds =>
    cases e
    obtain ⟨kvs, hr, h1⟩ := dh
    exact ⟨a, rfl, .inr ⟨kvs, hr, by rw [RKv.length h1]; exact q _ B H (Al.refl s) (.int _)⟩⟩
  | _ => exact dh.elim
/-- a dict asked at a key -/
theorem dGet_has {q : Addr} {y : V} {d k : D} {o : Option D} (s : Sub B H) (c : DHas K mg B H q d) (r : Rep K mg B y k) (e : dGet d k = some o) :
    ∃ ov, DGet H q y ov ∧ ((ov = none ∧ o = none) ∨ ∃ v z, ov = some v ∧ o = some z ∧ Rep K mg B v z) := by
  cases d with
  | dK kvs =>
    have e : (toKey k).map (dLook kvs) = some o := e
    obtain ⟨vs, p, rk⟩ := c
    cases e1 : toKey k with
    | none => rw [e1] at e; cases e
    | some kk =>
      rw [e1] at e
      cases e
      have := toKey_rep e1 r
      subst this
      exact ⟨valV vs kk, .inl ⟨vs, kk, p, rfl, rfl⟩, RKv.look rk kk⟩
  | dT kvs =>
    cases k with
    | tup ks =>
      have e : (toKeys ks).map (dLook kvs) = some o := e
      obtain ⟨vs, p, rk⟩ := c
      cases r with
      | tup p2 rs2 =>
        cases e1 : toKeys ks with
        | none => rw [e1] at e; cases e
        | some kk =>
          rw [e1] at e
          cases e
          have := toKeys_rep e1 rs2
          subst this
          exact ⟨valV vs kk, .inr ⟨vs, kk, _, p, rfl, s.tup p2, rfl⟩, RKv.look rk kk⟩
    | _ => cases e
  | _ => cases e
theorem DHas.isd {a : Addr} {d : D} (h : DHas K mg B H a d) : IsD H a := by
  cases d with
  | dK _ => obtain ⟨kvs, p, _⟩ := h; exact .inl ⟨kvs, p⟩
  | dT _ => obtain ⟨kvs, p, _⟩ := h; exact .inr ⟨kvs, p⟩
  | _ => exact h.elim
theorem DHas.mono {a : Addr} {d : D} {B' H' : Hp} (h : DHas K mg B H a d) (g : Same B B') (hs : ∀ u, Rd H a u → Rd H' a u) : DHas K mg B' H' a d := by
  cases d with
  | dK _ => obtain ⟨kvs, p, k, r⟩ := h; exact ⟨kvs, hs _ p, k, r.mono g⟩
  | dT _ => obtain ⟨kvs, p, k, r⟩ := h; exact ⟨kvs, hs _ p, k, r.mono g⟩
  | _ => exact h.elim
end
/-! ### k in d -/
def inD (neg : Bool) (d k : D) : Option D := (dGet d k).map fun o => .bl (if neg then !o.isSome else o.isSome)
/-- the key first -/
def eInD (neg : Bool) (mk md : M D) : M D := mk.bind fun k => md.bind fun d => ofO (if isD d = true then inD neg d k else none)
def eInDO (neg : Bool) (mk : M D) (i : Nat) : M D := mk.bind fun k env => match getOwn env i with
  | some d => ofO (if isD d = true then inD neg d k else none) env
  | none => .stuck
section
variable {X : Cx} {W : WX} {a b : Expr} {ta tb : TE} {ma mb : M D} {pos pos' p : Pos} {K : PySem.W.Frag} {mg : Str → Option Value} {x : Str}
theorem in_core {neg : Bool} {σ0 σ : L2.St} {B H : Hp} {env : En} {q : Addr} {y : V} {d k : D} {Q : VK} (sm : Sm K mg σ0 B H σ env) (dh : DHas K mg B H q d) (r : Rep K mg B y k) (post : Post K mg W (RD K mg) σ0 σ env B H (ofO (if isD d = true then inD neg d k else none) env) Q) :
    ∃ o, DGet H q y o ∧ Q (.bl (if neg then !o.isSome else o.isSome)) H := by
  by_cases hd : isD d = true
  · rw [if_pos hd] at post
    unfold inD at post
    cases e : dGet d k with
    | none => rw [e] at post; exact post.elim
    | some o =>
      rw [e] at post
      obtain ⟨ov, hg, ho⟩ := dGet_has sm.sub dh r e
      have post : Post K mg W (RD K mg) σ0 σ env B H (.ok (.bl (if neg then !o.isSome else o.isSome)) env) Q := post
      refine ⟨ov, hg, ?_⟩
      rcases ho with ⟨rfl, rfl⟩ | ⟨v, z, rfl, rfl, _⟩
      · exact post.val sm (.bl _)
      · exact post.val sm (.bl _)
  · rw [if_neg hd] at post; exact post.elim
theorem isd_of {K mg} {σ0 σ : L2.St} {B H : Hp} {env : En} {neg : Bool} {d k : D} {v : V} {Q : VK} (sm : Sm K mg σ0 B H σ env) (r : Rep K mg B v d) (post : Post K mg W (RD K mg) σ0 σ env B H (ofO (if isD d = true then inD neg d k else none) env) Q) : ∃ a, v = .ref a ∧ DHas K mg B H a d := by
  by_cases hd : isD d = true
  · exact Rep.dhas sm.sub r hd
  · rw [if_neg hd] at post; exact post.elim
theorem rx_in {K mg} (ha : RX K mg W (RD K mg) ta ma) (hb : RX K mg W (RD K mg) tb mb) : RX K mg W (RD K mg) (tDIn ta tb) (eInD false ma mb) :=
  ha.bind2 (t3 := fun y x σ H Q => ∃ a o, x = .ref a ∧ DGet H a y o ∧ Q (V.bl o.isSome) H) hb rd_monoR fun y x k d σ0 B H σ env sm r1 r2 Q post => by
    obtain ⟨a, rfl, dh⟩ := isd_of sm r2 post
    obtain ⟨o, hg, q⟩ := in_core sm dh r1 post
    exact ⟨a, o, rfl, hg, q⟩
theorem rx_notin {K mg} (ha : RX K mg W (RD K mg) ta ma) (hb : RX K mg W (RD K mg) tb mb) : RX K mg W (RD K mg) (tDNotIn ta tb) (eInD true ma mb) :=
  ha.bind2 (t3 := fun y x σ H Q => ∃ a o, x = .ref a ∧ DGet H a y o ∧ Q (V.bl (!o.isSome)) H) hb rd_monoR fun y x k d σ0 B H σ env sm r1 r2 Q post => by
    obtain ⟨a, rfl, dh⟩ := isd_of sm r2 post
    obtain ⟨o, hg, q⟩ := in_core sm dh r1 post
    exact ⟨a, o, rfl, hg, q⟩
theorem rx_inDO {K mg} {i : Nat} (ha : RX K mg W (RD K mg) ta ma) : RX K mg W (RD K mg) (tDIn ta (tVar i)) (eInDO false ma i) :=
  ha.bind (t2 := fun y σ H Q => tVar i σ H fun x H2 => ∃ a o, x = .ref a ∧ DGet H2 a y o ∧ Q (V.bl o.isSome) H2) fun y k σ0 B H σ env sm r1 Q post => by
    cases e0 : getOwn env i with
    | none => simp only [e0] at post; exact post.elim
    | some d =>
      simp only [e0] at post
      obtain ⟨a, p, _, e1, c, hb, _⟩ := sm.getOwn e0
      by_cases hd : isD d = true
      · obtain ⟨o, hg, q⟩ := in_core sm (c.dhas hd) r1 post
        exact ⟨.ref a, e1, a, o, rfl, hg, q⟩
      · rw [if_neg hd] at post; exact post.elim
theorem rx_notinDO {K mg} {i : Nat} (ha : RX K mg W (RD K mg) ta ma) : RX K mg W (RD K mg) (tDNotIn ta (tVar i)) (eInDO true ma i) :=
  ha.bind (t2 := fun y σ H Q => tVar i σ H fun x H2 => ∃ a o, x = .ref a ∧ DGet H2 a y o ∧ Q (V.bl (!o.isSome)) H2) fun y k σ0 B H σ env sm r1 Q post => by
    cases e0 : getOwn env i with
    | none => simp only [e0] at post; exact post.elim
    | some d =>
      simp only [e0] at post
      obtain ⟨a, p, _, e1, c, hb, _⟩ := sm.getOwn e0
      by_cases hd : isD d = true
      · obtain ⟨o, hg, q⟩ := in_core sm (c.dhas hd) r1 post
        exact ⟨.ref a, e1, a, o, rfl, hg, q⟩
      · rw [if_neg hd] at post; exact post.elim
variable (hu : X.A.units + 1 < cLine)
include hu
theorem se_dinD (ha : SE X W a ta ma) (hb : SE X W b tb mb) (hm : behindInMarks .In b = false := by first | rfl | with_unfolding_all rfl) : SE X W (.Compare a [.In] [b] pos) (tDIn ta tb) (eInD false ma mb) := ⟨pe_cmp (pc_din hu ha.pe hb.pe) hm, rx_in ha.rx hb.rx⟩
theorem se_dnotinD (ha : SE X W a ta ma) (hb : SE X W b tb mb) (hm : behindInMarks .NotIn b = false := by first | rfl | with_unfolding_all rfl) : SE X W (.Compare a [.NotIn] [b] pos) (tDNotIn ta tb) (eInD true ma mb) := ⟨pe_cmp (pc_dnotin hu ha.pe hb.pe) hm, rx_notin ha.rx hb.rx⟩
theorem st_dinD (ha : SE X W a ta ma) (hb : SE X W b tb mb) (hm : behindInMarks .In b = false := by first | rfl | with_unfolding_all rfl) : ST X W (.Compare a [.In] [b] pos) (tB (tDIn ta tb)) (eTest (eInD false ma mb)) := ⟨pt_cmp (pc_din hu ha.pe hb.pe) hm, rx_tB (rx_in ha.rx hb.rx)⟩
theorem st_dnotinD (ha : SE X W a ta ma) (hb : SE X W b tb mb) (hm : behindInMarks .NotIn b = false := by first | rfl | with_unfolding_all rfl) : ST X W (.Compare a [.NotIn] [b] pos) (tB (tDNotIn ta tb)) (eTest (eInD true ma mb)) := ⟨pt_cmp (pc_dnotin hu ha.pe hb.pe) hm, rx_tB (rx_notin ha.rx hb.rx)⟩
theorem se_dinDO (i : Nat) (ha : SE X W a ta ma) (hN : X.N[i]? = some x := by rfl) (hv : Vis X.env.scope x := by first | exact Or.inl rfl | exact Or.inr (Or.inl rfl) | exact Or.inr (Or.inr rfl)) (hd : (x == ("__debug__" : Str)) = false := by decide)
    (hcd : (x == ("__classdict__" : Str)) = false := by decide) : SE X W (.Compare a [.In] [.Name x p] pos) (tDIn ta (tVar i)) (eInDO false ma i) := ⟨pe_cmp (pc_din hu ha.pe (pe_var hN hv hd hcd)), rx_inDO ha.rx⟩
theorem se_dnotinDO (i : Nat) (ha : SE X W a ta ma) (hN : X.N[i]? = some x := by rfl) (hv : Vis X.env.scope x := by first | exact Or.inl rfl | exact Or.inr (Or.inl rfl) | exact Or.inr (Or.inr rfl)) (hd : (x == ("__debug__" : Str)) = false := by decide)
    (hcd : (x == ("__classdict__" : Str)) = false := by decide) : SE X W (.Compare a [.NotIn] [.Name x p] pos) (tDNotIn ta (tVar i)) (eInDO true ma i) := ⟨pe_cmp (pc_dnotin hu ha.pe (pe_var hN hv hd hcd)), rx_notinDO ha.rx⟩
theorem st_dinDO (i : Nat) (ha : SE X W a ta ma) (hN : X.N[i]? = some x := by rfl) (hv : Vis X.env.scope x := by first | exact Or.inl rfl | exact Or.inr (Or.inl rfl) | exact Or.inr (Or.inr rfl)) (hd : (x == ("__debug__" : Str)) = false := by decide)
    (hcd : (x == ("__classdict__" : Str)) = false := by decide) : ST X W (.Compare a [.In] [.Name x p] pos) (tB (tDIn ta (tVar i))) (eTest (eInDO false ma i)) := ⟨pt_cmp (pc_din hu ha.pe (pe_var hN hv hd hcd)), rx_tB (rx_inDO ha.rx)⟩
theorem st_dnotinDO (i : Nat) (ha : SE X W a ta ma) (hN : X.N[i]? = some x := by rfl) (hv : Vis X.env.scope x := by first | exact Or.inl rfl | exact Or.inr (Or.inl rfl) | exact Or.inr (Or.inr rfl)) (hd : (x == ("__debug__" : Str)) = false := by decide)
    (hcd : (x == ("__classdict__" : Str)) = false := by decide) : ST X W (.Compare a [.NotIn] [.Name x p] pos) (tB (tDNotIn ta (tVar i))) (eTest (eInDO true ma i)) := ⟨pt_cmp (pc_dnotin hu ha.pe (pe_var hN hv hd hcd)), rx_tB (rx_notinDO ha.rx)⟩
end
/-! ### list(d), list(d.values()), len(d) -/
section
variable {X : Cx} {W : WX} {e : Expr} {te : TE} {me : M D} {pos pos' p apos cpos : Pos} {x : Str}
theorem sn_listD (hc : X.calm = true) (hm : X.mg "list" = none) (h : SE X W e te me) (hg : Gl X "list" := by rfl) (hb : bootBuiltins "list" = some (.type "list") := by decide +kernel) (hs : starEach [e] X.env = (false, eval e X.env) :: starEach [] X.env := by rfl) :
    SN X W (.Call (.Name "list" pos') [e] [] pos) (fun σ H Q => te σ H fun x H1 => ∃ y, [x] = [y] ∧ rListD y H1 Q) (eDic dKeysL me) :=
  ⟨pe_callTy (call_listD hc) hg hm hb (pa_cons h.pe pa_nil hs) (by decide) (by decide) hs (by rfl), rn_dic (r := fun x H Q => ∃ y, [x] = [y] ∧ rListD y H Q) (fun B H a d z s dh e Q q => ⟨_, rfl, rdn_list B H a d z s dh e Q q⟩) h.rx⟩
theorem sn_listDO (i : Nat) (hc : X.calm = true) (hm : X.mg "list" = none) (hN : X.N[i]? = some x := by rfl) (hv : Vis X.env.scope x := by first | exact Or.inl rfl | exact Or.inr (Or.inl rfl) | exact Or.inr (Or.inr rfl)) (hd : (x == ("__debug__" : Str)) = false := by decide)
    (hcd : (x == ("__classdict__" : Str)) = false := by decide) (hg : Gl X "list" := by rfl) (hb : bootBuiltins "list" = some (.type "list") := by decide +kernel) (hs : starEach [.Name x p] X.env = (false, eval (.Name x p) X.env) :: starEach [] X.env := by rfl) :
    SN X W (.Call (.Name "list" pos') [.Name x p] [] pos) (fun σ H Q => tVar i σ H fun x H1 => ∃ y, [x] = [y] ∧ rListD y H1 Q) (eDicO dKeysL i) :=
  ⟨pe_callTy (call_listD hc) hg hm hb (pa_cons (pe_var hN hv hd hcd) pa_nil hs) (by decide) (by decide) hs (by rfl), rn_dicO (r := fun x H Q => ∃ y, [x] = [y] ∧ rListD y H Q) i (fun B H a d z s dh e Q q => ⟨_, rfl, rdn_list B H a d z s dh e Q q⟩)⟩
theorem sn_listV (hc : X.calm = true) (hm : X.mg "list" = none) (h : SE X W e te me) (hg : Gl X "list" := by rfl) (hv : bootBuiltins "list" = some (.type "list") := by decide +kernel) (hbase : attributeBase e "values" X.env (eval e X.env) = eval e X.env := by rfl) (hline : (apos.endLine == cpos.line) = true := by rfl)
    (hs : starEach [.Call (.Attribute e "values" apos) [] [] cpos] X.env = (false, eval (.Call (.Attribute e "values" apos) [] [] cpos) X.env) :: starEach [] X.env := by rfl) :
    SN X W (.Call (.Name "list" p) [.Call (.Attribute e "values" apos) [] [] cpos] [] pos) (fun σ H Q => te σ H fun x H1 => rListV x H1 Q) (eDic dValsL me) := ⟨pe_listV hc h.pe hm hg hv hbase hline hs, rn_dic rdn_vals h.rx⟩
theorem sn_listVO (i : Nat) (hc : X.calm = true) (hm : X.mg "list" = none) (hN : X.N[i]? = some x := by rfl) (hvv : Vis X.env.scope x := by first | exact Or.inl rfl | exact Or.inr (Or.inl rfl) | exact Or.inr (Or.inr rfl)) (hd : (x == ("__debug__" : Str)) = false := by decide)
    (hcd : (x == ("__classdict__" : Str)) = false := by decide) (hg : Gl X "list" := by rfl) (hv : bootBuiltins "list" = some (.type "list") := by decide +kernel) (hbase : attributeBase (.Name x pos') "values" X.env (eval (.Name x pos') X.env) = eval (.Name x pos') X.env := by rfl) (hline : (apos.endLine == cpos.line) = true := by rfl)
    (hs : starEach [.Call (.Attribute (.Name x pos') "values" apos) [] [] cpos] X.env = (false, eval (.Call (.Attribute (.Name x pos') "values" apos) [] [] cpos) X.env) :: starEach [] X.env := by rfl) :
    SN X W (.Call (.Name "list" p) [.Call (.Attribute (.Name x pos') "values" apos) [] [] cpos] [] pos) (fun σ H Q => tVar i σ H fun x H1 => rListV x H1 Q) (eDicO dValsL i) := ⟨pe_listV hc (pe_var hN hvv hd hcd) hm hg hv hbase hline hs, rn_dicO i rdn_vals⟩
theorem se_lenD (hm : X.mg "len" = none) (h : SE X W e te me) (hg : Gl X "len" := by rfl) (hb : bootBuiltins "len" = some (.builtin "len") := by decide +kernel) (hs : starEach [e] X.env = (false, eval e X.env) :: starEach [] X.env := by rfl) :
    SE X W (.Call (.Name "len" pos') [e] [] pos) (fun σ H Q => te σ H fun x H1 => ∃ y, [x] = [y] ∧ rLenD y H1 Q) (eDic dLenD me) :=
  ⟨pe_callB call_lenD2 hg hm hb (pa_cons h.pe pa_nil hs) (by decide) (by decide) hs (by rfl), rx_dic (r := fun x H Q => ∃ y, [x] = [y] ∧ rLenD y H Q) (fun B H a d z s dh e Q q => ⟨_, rfl, rd_len B H a d z s dh e Q q⟩) h.rx⟩
theorem se_lenDO (i : Nat) (hm : X.mg "len" = none) (hN : X.N[i]? = some x := by rfl) (hv : Vis X.env.scope x := by first | exact Or.inl rfl | exact Or.inr (Or.inl rfl) | exact Or.inr (Or.inr rfl)) (hd : (x == ("__debug__" : Str)) = false := by decide)
    (hcd : (x == ("__classdict__" : Str)) = false := by decide) (hg : Gl X "len" := by rfl) (hb : bootBuiltins "len" = some (.builtin "len") := by decide +kernel) (hs : starEach [.Name x p] X.env = (false, eval (.Name x p) X.env) :: starEach [] X.env := by rfl) :
    SE X W (.Call (.Name "len" pos') [.Name x p] [] pos) (fun σ H Q => tVar i σ H fun x H1 => ∃ y, [x] = [y] ∧ rLenD y H1 Q) (eDicO dLenD i) :=
  ⟨pe_callB call_lenD2 hg hm hb (pa_cons (pe_var hN hv hd hcd) pa_nil hs) (by decide) (by decide) hs (by rfl), rx_dicO (r := fun x H Q => ∃ y, [x] = [y] ∧ rLenD y H Q) i (fun B H a d z s dh e Q q => ⟨_, rfl, rd_len B H a d z s dh e Q q⟩)⟩
end
end Mi

/-! The mirror layer 24: xs[i] = v. -/
namespace Mi
open PySem L2
variable [Tabs]
section
variable {X : Cx} {W : WX}
theorem ss_putL {x : Str} {v k : Expr} {tv tk : TE} {mv mk : M D} {pos p1 p2 : Pos} (i : Nat) (hv : SE X W v tv mv) (hk : SE X W k tk mk) (hN : X.N[i]? = some x := by rfl) (hvis : Vis X.env.scope x := by first | exact Or.inl rfl | exact Or.inr (Or.inl rfl) | exact Or.inr (Or.inr rfl)) (hd : (x == ("__debug__" : Str)) = false := by decide)
    (hcd : (x == ("__classdict__" : Str)) = false := by decide)
    (ha : ∀ w, assign (.Subscript (.Name x p2) k p1) X.env w = (do
      let ov ← holding [w] (eval (.Name x p2) X.env)
      let iv ← holding [w, ov] (eval k X.env)
      standAt p1
      holding [w, ov, iv] (setItem ov iv w)
      release [w, ov, iv] []) := by intro _; rfl)
    (hs : swapsWithSole [.Subscript (.Name x p2) k p1] v pos.line X.env = pure false := by rfl) (hw : swappedStores [.Subscript (.Name x p2) k p1] v X.env = pure none := by rfl)
    (h1 : (assignEach [.Subscript (.Name x p2) k p1] X.env).map (·.2) = [assign (.Subscript (.Name x p2) k p1) X.env] := by rfl) :
    SS X W (.Assign [.Subscript (.Name x p2) k p1] v pos) (tAsg tv (gSub (tVar i) tk rSetL)) (mPutL i mk mv) :=
  ⟨ps_asg hv.pe (pg_sub (pe_var hN hvis hd hcd) hk.pe set_list ha) hs hw h1, rs_putL hv.rx hk.rx⟩
end
section
variable {K : PySem.W.Frag} {fd : FuncData} {ps : List Str} {T : Addr} {o : Obj} {its : Array Value} {n : Nat}
/-- a def with defaults, all parameters written -/
theorem binds_full (lT : K.lookup T = some o) (oT : o.data = .seq its n) (h : ∀ us : List Value, us.length = ps.length → ∃ k, bindArgs fd ⟨us, []⟩ = seqItems? (.ref T) >>= k ∧ k (some its) = pure (ps.zip us)) : Binds K fd ps [] := fun s us X hl => by
  rw [List.append_nil] at hl ⊢
  obtain ⟨k, e1, e2⟩ := h us hl
  refine BindsTo.of_looks fun M => ?_
  rw [e1]
  exact looks_items X lT oT (.of_pure e2)
end
section
variable {X : Cx} {W : WX} {k : Nat} {f C : Addr} {fd : FuncData} {ps : List Str} {x : Str} {p pos : Pos} {np : Nat} {mf : List Slot → Fin}
theorem pe_callS0 {sp : Sp} {E : L2.St → XK} {CX : CXT} (F : FnOk X.prog X.w X.K X.mg X.base CX k f fd ps sp) (hr : Room k X.A) (hg : Gl X x) (hm : X.mg x = some (.ref f)) (hk : PySem.W.keepIn X.K (.ref f) = true) (hb : Binds X.K fd ps []) (hx : ∀ σ, PassesAt CX X σ (E σ))
    (hdb : (x == ("__debug__" : Str)) = false := by decide) : PE X (.Call (.Name x p) [] [] pos) (tCallS sp E tNil) := by
  refine ⟨fun pins s σ H Q I h => ?_⟩
  refine wpAny_Call_Name_kw (ld_glob I hg hm ?_ hdb)
  exact PySem.W.callWith_K0 I.kIn hk (run_fnS (us := []) F hr hb (hx σ) I .nil h)
/-- f() -/
theorem se_call0 (F : FnOk X.prog X.w X.K X.mg X.base (L2.CX X.prog X.w) k f fd ps (SpM X.K X.mg np mf)) (hr : Room k X.A) (hm : X.mg x = some (.ref f)) (hk : PySem.W.keepIn X.K (.ref f) = true) (hb : Binds X.K fd ps []) (tk : Takes X W)
    (hg : Gl X x := by rfl) (hdb : (x == ("__debug__" : Str)) = false := by decide) :
    SE X W (.Call (.Name x p) [] [] pos) (tCallS (SpM X.K X.mg np mf) (WE W) tNil) (eCall np mf rNil) :=
  ⟨pe_callS0 F hr hg hm hk hb (fun σ => passAt tk σ) hdb, rx_call (fun _ _ _ _ h => h) (sr_nil (X := X) (W := W)).rx⟩
theorem sn_call0 (F : FnOk X.prog X.w X.K X.mg X.base (L2.CX X.prog X.w) k f fd ps (SpM X.K X.mg np mf)) (hr : Room k X.A) (hm : X.mg x = some (.ref f)) (hk : PySem.W.keepIn X.K (.ref f) = true) (hb : Binds X.K fd ps []) (tk : Takes X W)
    (hg : Gl X x := by rfl) (hdb : (x == ("__debug__" : Str)) = false := by decide) :
    SN X W (.Call (.Name x p) [] [] pos) (tCallS (SpM X.K X.mg np mf) (WE W) tNil) (eCallN np mf rNil) :=
  ⟨pe_callS0 F hr hg hm hk hb (fun σ => passAt tk σ) hdb, rn_call (fun _ _ _ _ h => h) (sr_nil (X := X) (W := W)).rx⟩
theorem sn_new0 {c : Str} (M : Mk X.K C f) (F : FnOk X.prog X.w X.K X.mg X.base (L2.CX X.prog X.w) k f fd ps (SpM X.K X.mg np mf)) (hr : Room (k + 1) X.A) (hm : X.mg x = some (.ref C)) (hb : Binds X.K fd ps [])
    (hg : Gl X x := by rfl) (hdb : (x == ("__debug__" : Str)) = false := by decide) :
    SN X W (.Call (.Name x p) [] [] pos) (tMake C (SpM X.K X.mg np mf) [] E0 tNil) (eNew x np mf rNil) :=
  ⟨pe_make0 M F hr hg hm hb .nil (fun _ _ _ _ _ _ _ h => by
    obtain ⟨_, _, _, _, _, _, _, _, _, _, _, _, z⟩ := h
    exact z.elim) hdb, rn_new hm (sr_nil (X := X) (W := W)).rx⟩
end
end Mi

/-! The mirror layer 25: min(xs), max(xs), sorted(xs) of a list. -/
namespace Mi
open PySem L2 PySem.W
variable [Tabs]
def atomD : D → Bool
  | .bl _ => true
  | .int _ => true
  | .str _ => true
  | _ => false
theorem toPys_map : ∀ ds : List D, toPys ds = ds.map toPy
  | [] => by rw [toPys]; rfl
  | d :: ds => by rw [toPys, toPys_map ds]; rfl
theorem atom_inj {d e : D} (h : atomD d = true) (g : atomD e = true) (q : toPy d = toPy e) : d = e := by
  cases d <;> cases e <;> simp_all [atomD, toPy]
def minDD (x : D) (xs : List D) : D := xs.foldl (fun a y => if dataLt (toPy y) (toPy a) then y else a) x
def maxDD (x : D) (xs : List D) : D := xs.foldl (fun a y => if dataLt (toPy a) (toPy y) then y else a) x
theorem minDD_py : ∀ (xs : List D) (x : D), toPy (minDD x xs) = minD (toPy x) (toPys xs)
  | [], x => by rw [toPys]; rfl
  | y :: xs, x => by
    rw [toPys]
    show toPy (minDD _ xs) = minD (if dataLt (toPy y) (toPy x) then toPy y else toPy x) (toPys xs)
    rw [minDD_py xs]
    congr 1
    show toPy (if _ then y else x) = _
    split <;> rfl
theorem maxDD_py : ∀ (xs : List D) (x : D), toPy (maxDD x xs) = maxD (toPy x) (toPys xs)
  | [], x => by rw [toPys]; rfl
  | y :: xs, x => by
    rw [toPys]
    show toPy (maxDD _ xs) = maxD (if dataLt (toPy x) (toPy y) then toPy y else toPy x) (toPys xs)
    rw [maxDD_py xs]
    congr 1
    show toPy (if _ then y else x) = _
    split <;> rfl
theorem minDD_mem : ∀ (xs : List D) (x : D), minDD x xs ∈ x :: xs
  | [], x => by unfold minDD; simp
  | y :: xs, x => by
    show minDD _ xs ∈ _
    rcases List.mem_cons.mp (minDD_mem xs (if dataLt (toPy y) (toPy x) then y else x)) with h | h
    · rw [h]; split <;> simp
    · simp [h]
theorem maxDD_mem : ∀ (xs : List D) (x : D), maxDD x xs ∈ x :: xs
  | [], x => by unfold maxDD; simp
  | y :: xs, x => by
    show maxDD _ xs ∈ _
    rcases List.mem_cons.mp (maxDD_mem xs (if dataLt (toPy x) (toPy y) then y else x)) with h | h
    · rw [h]; split <;> simp
    · simp [h]
def okMin (xs : List D) : Bool := xs.all atomD && xs.all (fun x => xs.all fun y => alike (toPy x) (toPy y)) && PyData.canLayAll0 (toPys xs)
def lstD : D → Option (List D)
  | .lst xs => some xs
  | .frz xs => some xs
  | _ => none
def dMinL : List D → Option D
  | [c] => (lstD c).bind fun
    | x :: xs => if okMin (x :: xs) = true then some (minDD x xs) else none
    | [] => none
  | _ => none
def dMaxL : List D → Option D
  | [c] => (lstD c).bind fun
    | x :: xs => if okMin (x :: xs) = true then some (maxDD x xs) else none
    | [] => none
  | _ => none
theorem depth_atoms : ∀ {xs : List D}, xs.all atomD = true → PyData.depthAll (toPys xs) = 0
  | [], _ => by rw [toPys]; rfl
  | x :: xs, h => by
    rw [List.all_cons, Bool.and_eq_true] at h
    rw [toPys, PyData.depthAll, depth_atoms h.2]
    have h1 := h.1
    cases x <;> simp_all [atomD, toPy, PyData.depth]
theorem alike_atoms {xs : List D} (h : okMin xs = true) : AlikeAll (toPys xs) ∧ PyData.canLayAll0 (toPys xs) = true ∧ xs.all atomD = true := by
  unfold okMin at h
  rw [Bool.and_eq_true, Bool.and_eq_true] at h
  obtain ⟨⟨h1, h2⟩, h3⟩ := h
  rw [List.all_eq_true] at h1 h2
  refine ⟨⟨fun x hx y hy => ?_, fun x hx => ?_⟩, h3, List.all_eq_true.mpr h1⟩
  · rw [toPys_map] at hx hy
    obtain ⟨a, ha, rfl⟩ := List.mem_map.mp hx
    obtain ⟨b, hb, rfl⟩ := List.mem_map.mp hy
    exact List.all_eq_true.mp (h2 a ha) b hb
  · rw [toPys_map] at hx
    obtain ⟨a, ha, rfl⟩ := List.mem_map.mp hx
    have := h1 a ha
    cases a <;> simp_all [atomD, toPy]
theorem lst_rep {K : PySem.W.Frag} {mg : Str → Option Value} {B H : Hp} {v : V} {d : D} {xs : List D} (s : Sub B H) (r : Rep K mg B v d) (h : lstD d = some xs) : ∃ a vs, v = .ref a ∧ SqL K H a vs ∧ Reps K mg B vs xs := by
  cases r with
  | lst p r => cases h; exact ⟨_, _, rfl, s.sqL (.of p), r⟩
  | frz p r => cases h; exact ⟨_, _, rfl, s.sqL p, r⟩
  | _ => cases h
def rMinL (K : PySem.W.Frag) (f : PyData → List PyData → PyData) : List V → Hp → VK → Prop := fun vs H Q => ∃ (a : Addr) (xs : List V) (d : PyData) (ds : List PyData), vs = [.ref a] ∧ SqL K H a xs ∧ DpAll K H xs (d :: ds) ∧ AlikeAll (d :: ds) ∧ PyData.canLayAll0 (d :: ds) = true ∧ PyData.depthAll (d :: ds) ≤ 60 ∧
  ∀ (i : Nat) (x : V), xs[i]? = some x → (d :: ds)[i]? = some (f d ds) → Q x H
theorem vals_at : ∀ {xs : List V} {us : List Value} {i : Nat} {u : Value}, Vals xs us → us[i]? = some u → ∃ x, xs[i]? = some x ∧ RelV x u
  | _, _, _, _, .nil, h => by simp at h
  | _, _, 0, _, .cons h r, e => by simp at e; subst e; exact ⟨_, rfl, h⟩
  | _, _, i + 1, _, .cons h r, e => by
    obtain ⟨x, a, b⟩ := vals_at r (i := i) (by simpa using e)
    exact ⟨x, by simpa using a, b⟩
theorem reads_at : ∀ {h : Heap} {us : List Value} {ds : List PyData} {as : List Addr} {i : Nat} {u : Value}, ReadsAll h us ds as → us[i]? = some u → PyData.canLayAll0 ds = true → ∃ d bs, ds[i]? = some d ∧ Reads h u d bs ∧ d.canLay0 = true
  | _, _, _, _, _, _, .nil, e, _ => by simp at e
  | _, _, _, _, 0, _, .cons r rs, e, c => by
    rw [PyData.canLayAll0, Bool.and_eq_true] at c
    simp at e; subst e; exact ⟨_, _, rfl, r, c.1⟩
  | _, _, _, _, i + 1, _, .cons r rs, e, c => by
    rw [PyData.canLayAll0, Bool.and_eq_true] at c
    obtain ⟨d, bs, a, b, l⟩ := reads_at rs (i := i) (by simpa using e) c.2
    exact ⟨d, bs, by simpa using a, b, l⟩
section
variable {X : Cx} {K : PySem.W.Frag} {mg : Str → Option Value}
theorem call_minL (hc : X.calm = true) (hu : X.A.units + 64 < cLine) : CallR X (.builtin "min") (rMinL X.K minD) := by
  intro pins s σ H xs us Q I r h
  obtain ⟨a, xs, d, ds, rfl, hs, hd, ha, hl, hp, q⟩ := h
  obtain ⟨u, rfl, ru⟩ := vals1 r
  obtain rfl : u = Value.ref a := ru
  obtain ⟨its, rv, pl, hz⟩ := I.list hs
  obtain ⟨as, hr⟩ := Dp.readsAll I (d :: ds) xs its hd rv
  refine min_list_data (I.ok.hd hc) pl.isList (by simpa using hr) ha (by omega) fun i v h' tk bs hi rr kp => ?_
  have hi : its[i]? = some v := by simpa using hi
  obtain ⟨x, e1, rx⟩ := vals_at rv hi
  obtain ⟨e, cs, e2, r2, l2⟩ := reads_at hr hi hl
  have := SeqAt.Reads.unique _ _ _ _ _ l2 (reads_keeps kp r2) rr
  rw [this] at e2
  exact ⟨x, H, I.kept (t' := tk) kp, rx, q i x e1 e2⟩
theorem call_maxL (hc : X.calm = true) (hu : X.A.units + 64 < cLine) : CallR X (.builtin "max") (rMinL X.K maxD) := by
  intro pins s σ H xs us Q I r h
  obtain ⟨a, xs, d, ds, rfl, hs, hd, ha, hl, hp, q⟩ := h
  obtain ⟨u, rfl, ru⟩ := vals1 r
  obtain rfl : u = Value.ref a := ru
  obtain ⟨its, rv, pl, hz⟩ := I.list hs
  obtain ⟨as, hr⟩ := Dp.readsAll I (d :: ds) xs its hd rv
  refine max_list_data (I.ok.hd hc) pl.isList (by simpa using hr) ha (by omega) fun i v h' tk bs hi rr kp => ?_
  have hi : its[i]? = some v := by simpa using hi
  obtain ⟨x, e1, rx⟩ := vals_at rv hi
  obtain ⟨e, cs, e2, r2, l2⟩ := reads_at hr hi hl
  have := SeqAt.Reads.unique _ _ _ _ _ l2 (reads_keeps kp r2) rr
  rw [this] at e2
  exact ⟨x, H, I.kept (t' := tk) kp, rx, q i x e1 e2⟩
theorem toPys_at {ds : List D} {i : Nat} {p : PyData} (h : (toPys ds)[i]? = some p) : ∃ d, ds[i]? = some d ∧ toPy d = p := by
  rw [toPys_map, List.getElem?_map] at h
  cases e : ds[i]? with
  | none => rw [e] at h; cases h
  | some d => rw [e] at h; cases h; exact ⟨d, rfl, rfl⟩
theorem pick_rep {B : Hp} {x : D} {xs : List D} {z : D} {vs : List V} {i : Nat} {v : V} (rs : Reps K mg B vs (x :: xs)) (ha : (x :: xs).all atomD = true) (hz : z ∈ x :: xs) (e1 : vs[i]? = some v) (e2 : (toPys (x :: xs))[i]? = some (toPy z)) : Rep K mg B v z := by
  obtain ⟨d, h1, h2⟩ := toPys_at e2
  obtain ⟨d', h3, h4⟩ := rs.getV e1
  rw [h1] at h3
  cases h3
  have hd : d ∈ x :: xs := List.mem_of_getElem? h1
  rw [List.all_eq_true] at ha
  rw [← atom_inj (ha _ hd) (ha _ hz) h2]
  exact h4
theorem re_minL : RealC K mg (rMinL K minD) dMinL := by
  intro B H vs ds z s h1 e Q q
  match ds, h1, e with
  | [c], .cons r .nil, e =>
    have e : ((lstD c).bind fun | x :: xs => if okMin (x :: xs) = true then some (minDD x xs) else none | [] => none) = some z := e
    cases e1 : lstD c with
    | none => rw [e1] at e; cases e
    | some ds =>
      rw [e1] at e
      match ds, e1, e with
      | [], _, e => cases e
      | x :: xs, e1, e =>
        have e : (if okMin (x :: xs) = true then some (minDD x xs) else none) = some z := e
        by_cases hk : okMin (x :: xs) = true
        · rw [if_pos hk] at e
          cases e
          obtain ⟨a, ws, rfl, sq, rs⟩ := lst_rep s r e1
          obtain ⟨h1, h2, h3⟩ := alike_atoms hk
          have hd := rs.dp s h2
          have h5 := depth_atoms h3
          rw [toPys] at hd h1 h2 h5
          refine ⟨a, ws, _, _, rfl, sq, hd, h1, h2, by omega, fun i v e1 e2 => ?_⟩
          exact q _ B H (Al.refl s) (pick_rep rs h3 (minDD_mem xs x) e1 (by rw [toPys, minDD_py]; exact e2))
        · rw [if_neg hk] at e; cases e
theorem re_maxL : RealC K mg (rMinL K maxD) dMaxL := by
  intro B H vs ds z s h1 e Q q
  match ds, h1, e with
  | [c], .cons r .nil, e =>
    have e : ((lstD c).bind fun | x :: xs => if okMin (x :: xs) = true then some (maxDD x xs) else none | [] => none) = some z := e
    cases e1 : lstD c with
    | none => rw [e1] at e; cases e
    | some ds =>
      rw [e1] at e
      match ds, e1, e with
      | [], _, e => cases e
      | x :: xs, e1, e =>
        have e : (if okMin (x :: xs) = true then some (maxDD x xs) else none) = some z := e
        by_cases hk : okMin (x :: xs) = true
        · rw [if_pos hk] at e
          cases e
          obtain ⟨a, ws, rfl, sq, rs⟩ := lst_rep s r e1
          obtain ⟨h1, h2, h3⟩ := alike_atoms hk
          have hd := rs.dp s h2
          have h5 := depth_atoms h3
          rw [toPys] at hd h1 h2 h5
          refine ⟨a, ws, _, _, rfl, sq, hd, h1, h2, by omega, fun i v e1 e2 => ?_⟩
          exact q _ B H (Al.refl s) (pick_rep rs h3 (maxDD_mem xs x) e1 (by rw [toPys, maxDD_py]; exact e2))
        · rw [if_neg hk] at e; cases e
end
end Mi

/-! The mirror layer 26: dict(d). -/
namespace PySem
section
variable {prog : Program} {w : World} {K : Type} [DecidableEq K] {knd : HeapKind prog w K} {A : Around} {E : Value → Shared → Prop} {s : Shared}
theorem mi_call_dictH {o : Addr} {more : List (K × Addr × Value)} {Q : Value → Shared → Prop} (hu : knd.room A.in1.in1) (hoS : (o == sysModules) = false) (ho : s.heap.DictOfH knd o more) (hsz : more.length ≤ sizeLine)
    (hst : ∀ h' : Heap, (∀ b o, s.heap.get? b = some o → h'.get? b = some o) → ∀ x ∈ more, knd.is h' x.1 x.2.1)
    (hty : ∀ x ∈ more, s.TypeIs (.ref x.2.1) "tuple") (hap : (more.map fun x => knd.hash x.1).Nodup)
    (h : ∀ h', h'.DictOfH knd s.heap.objs.size more → Heap.SameBut s.heap.objs.size (s.heap.push { cls := .type "dict", data := .dict #[] }) h' → Q (.ref s.heap.objs.size) { s with heap := h' }) :
    wpAny (model prog w) A (call (.type "dict") [.ref o]) Q E s := by
  refine callType_codes (Q₁ := fun obj s₁ => obj = .ref s.heap.objs.size ∧ s₁ = { s with heap := s.heap.push { cls := .type "dict", data := .dict #[] } }) F.kt_called_dict (F.kt_typeCall_dict_1 _) F.entry_dict_init (kt_code_dict_new _ ⟨rfl, rfl⟩) ?_
  rintro obj s₁ ⟨rfl, rfl⟩
  have hnew : (s.heap.push { cls := .type "dict", data := .dict #[] }).DictOfH knd s.heap.objs.size [] := Heap.DictOfH.new s.heap
  have hk : ∀ b q, s.heap.get? b = some q → (s.heap.push { cls := .type "dict", data := .dict #[] }).get? b = some q := fun b q e => Heap.get?_push_of_some _ e
  have hn := ho.nodup
  obtain ⟨oo, es, ep, h1, h2, h3, h4, h5, h6⟩ := ho
  have ho' : (s.heap.push { cls := .type "dict", data := .dict #[] }).DictOfH knd o more := ⟨oo, es, ep, hk _ _ h1, h2, h3, h4, hst _ hk, h6⟩
  have hdo : s.heap.objs.size ≠ o := fun e => absurd (Heap.lt_size h1) (by rw [e]; exact Nat.lt_irrefl _)
  have hty' : ∀ x ∈ more, ({ s with heap := s.heap.push { cls := .type "dict", data := .dict #[] } } : Shared).TypeIs (.ref x.2.1) "tuple" := fun x hx => by
    obtain ⟨q, a, b⟩ := hty x hx
    exact ⟨q, hk _ _ a, b⟩
  refine ⟨hnew.typeIs, F.args_dict_init_2 _ _, ?_⟩
  unfold Builtin.«dict.__init__»
  refine wpAny_bind ?_
  unfold Builtin.Dict.selfAndRest
  refine wpAny_bind (wpAny_notOrdered_dict hnew.typeIs ?_)
  show wpAny _ _ (pure (s.heap.objs.size, [Value.ref o])) _ _ _
  refine wpAny_pure ?_
  show wpAny _ _ (Builtin.Dict.updateFrom "dict.__init__" s.heap.objs.size (.ref o) [] .none) _ _ _
  unfold Builtin.Dict.updateFrom
  refine wpAny_bind (wpAny_typeOf ho'.typeIs ?_)
  rw [if_neg (by decide)]
  refine wpAny_bind ?_
  unfold Builtin.Dict.merge
  refine wpAny_bind ?_
  unfold Builtin.Dict.readDirectly
  refine wpAny_bind (wpAny_isInstance ho'.typeIs isSubtype_dict_dict ?_)
  simp only [Bool.not_true, Bool.false_eq_true, if_false]
  refine wpAny_bind (wpAny_specialOf ho'.typeIs F.slot_dict_iter.lookup (wpAny_pure ?_))
  simp only [beq_self_eq_true, if_true]
  refine wpAny_bind (wpAny_pure ?_)
  refine wpAny_mergeDict_heap (hsz := by simpa using hsz) hu hdo hoS hnew ho' (.inr ⟨hty', hap⟩) fun h' hd' _ hs' => ?_
  show wpAny _ _ (Builtin.Dict.addKeywords s.heap.objs.size [] >>= _) _ _ _
  rw [storedAllH_nil_of_nodup more hn] at hd'
  exact wpAny_bind (wpAny_pure (wpAny_pure ⟨rfl, h h' hd' hs'⟩))
end
end PySem
namespace Mi
open PySem L2
variable [Tabs]
/-! ### keys whose hashes stand apart -/
def hK : Key → Int
  | .inl i => hashInt i
  | .inr _ => 0
def intK : Key → Bool
  | .inl _ => true
  | .inr _ => false
def hKs (ks : List Key) : Int := reduceHash (Builtin.Tuple.tupleHashOf (ks.map hK))
def apart (ks : List (List Key)) : Prop := (∀ k ∈ ks, k.all intK = true) ∧ (ks.map hKs).Nodup
instance (ks : List (List Key)) : Decidable (apart ks) := by unfold apart; exact inferInstance
theorem hKs_eq {P : Program} {w : World} {k : List Key} (h : k.all intK = true) : (tupleKind (mixKind P w)).hash k = hKs k := by
  show reduceHash (Builtin.Tuple.tupleHashOf (k.map (keyH w))) = _
  unfold hKs
  congr 2
  apply List.map_congr_left
  intro x hx
  have := List.all_eq_true.mp h x hx
  cases x with
  | inl i => rfl
  | inr s => cases this
def rCopyD : V → Hp → VK → Prop := fun x H Q => ∃ a, x = .ref a ∧ ((∃ kvs : List (Key × V), Rd H a (.dK kvs) ∧ ∀ p, H p = none → Q (.ref p) (upd H p (.dK kvs))) ∨
  ∃ kvs : List (List Key × V), Rd H a (.dT kvs) ∧ apart (kvs.map Prod.fst) ∧ ∀ p, H p = none → Q (.ref p) (upd H p (.dT kvs)))
section
variable {X : Cx} {pins : List (Addr × Obj)} {σ : L2.St} {H : Hp} {s : Shared} {a : Addr}
theorem kt_up {H : Hp} {p : Addr} {o : HO} {kvs : List (List Key × V)} {xs : List (List Key × Addr × Value)} (hp : H p = none) (h : KT H kvs xs) : KT (upd H p o) kvs xs := by
  induction h with
  | nil => exact .nil
  | cons h t ih =>
    refine .cons ⟨h.1, ?_, h.2.2⟩ ih
    rw [upd_ne (fun e => by rw [e, hp] at h; cases h.2.1)]
    exact h.2.1
theorem call_dictD (hu : X.A.units + 64 < cLine) : CallR X (.type "dict") (fun xs H Q => ∃ x, xs = [x] ∧ rCopyD x H Q) := by
  intro pins s σ H xs us Q I r h
  obtain ⟨x, rfl, a, rfl, h⟩ := h
  obtain ⟨u, rfl, rx⟩ := vals1 r
  cases rx
  rcases h with ⟨kvs, hr, q⟩ | ⟨kvs, hr, hap, q⟩
  · exact d_copyOf I hr fun p s' hp I' => ⟨.ref p, _, I', rfl, q p hp⟩
  · obtain ⟨hz, hs, xs, pr, hd⟩ := dt_rd I.hok hr
    have l1 : kvs.length = xs.length := Paired.length pr
    have ek : xs.map (·.1) = kvs.map Prod.fst := by
      clear hd l1 hz hr q hap
      induction pr with
      | nil => rfl
      | cons h t ih => rw [List.map_cons, List.map_cons, ih, h.1]
    have hx : ∀ x ∈ xs, ∃ k : List Key, x.1 = k ∧ H x.2.1 = some (.tup (k.map kV)) := by
      clear hd l1 hz hr q hap ek
      induction pr with
      | nil => intro x hx; cases hx
      | cons h t ih =>
        intro x hx
        rcases List.mem_cons.mp hx with rfl | hx
        · exact ⟨_, h.1.symm, h.2.1⟩
        · exact ih x hx
    refine mi_call_dictH (knd := tupleKind (mixKind X.prog X.w)) (by show X.A.in1.in1.units < cLine; show X.A.units + 1 + 1 < cLine; omega) hs hd (by omega) (fun h' kp x hx' => ?_) (fun x hx' => ?_) ?_ fun h' hd' hs' => ?_
    · obtain ⟨oo, es, ep, h1, h2, h3, h4, h5, h6⟩ := hd
      obtain ⟨o, its, n, g1, g2, g3, g4⟩ := h5 x hx'
      exact ⟨o, its, n, kp _ _ g1, g2, g3, g4⟩
    · obtain ⟨k, e1, e2⟩ := hx x hx'
      obtain ⟨_, its, r, o, h1, h2, n, h3⟩ := (show ObjOk X.prog X.w H s.heap x.2.1 (.tup (k.map kV)) from I.hok _ _ e2)
      exact ⟨o, h1, h2⟩
    · have : (xs.map fun x => (tupleKind (mixKind X.prog X.w)).hash x.1) = (kvs.map Prod.fst).map hKs := by
        rw [← ek, List.map_map]
        apply List.map_congr_left
        intro x hx'
        refine hKs_eq (hap.1 _ ?_)
        rw [← ek]
        exact List.mem_map.mpr ⟨x, hx', rfl⟩
      rw [this]
      exact hap.2
    · have kp : ∀ b q, s.heap.get? b = some q → h'.get? b = some q := fun b q hq => (hs'.2 b (Nat.ne_of_lt (Heap.lt_size hq))).trans (Heap.get?_push_of_some _ hq)
      have hp : H s.heap.objs.size = none := I.hok.fresh (Nat.le_refl _)
      obtain ⟨oo, es, ep, h1, h2, h3, h4, h5, h6⟩ := hd'
      exact ⟨.ref _, _, I.laid (t' := s.toks) kp (Nat.le_refl _) (show ObjOk X.prog X.w _ h' _ (.dT kvs) from ⟨hz, beq_eq_false_iff_ne.mpr (Ne.symm (Nat.ne_of_lt I.big)), xs, kt_up hp pr, oo, es, ep, h1, h2, h3, h4, h6⟩), rfl, q _ hp⟩
end
/-! ### for data -/
def dCopyD : D → Option D
  | .dK kvs => some (.dK kvs)
  | .dT kvs => if apart (kvs.map Prod.fst) then some (.dT kvs) else none
  | _ => none
section
variable {K : PySem.W.Frag} {mg : Str → Option Value}
theorem rdn_copy : RealDN K mg rCopyD dCopyD := by
  intro B H a d z s dh e Q q
  cases d with
  | dK ds =>
    cases e
    obtain ⟨kvs, hr, h1, h2⟩ := dh
    exact ⟨a, rfl, .inl ⟨kvs, hr, fun p hp => q p _ B H (Al.refl s) hp (.dK upd_same h1 h2)⟩⟩
  | dT ds =>
    have e : (if apart (ds.map Prod.fst) then some (D.dT ds) else none) = some z := e
    by_cases ha : apart (ds.map Prod.fst)
    · rw [if_pos ha] at e
      cases e
      obtain ⟨kvs, hr, h1, h2⟩ := dh
      exact ⟨a, rfl, .inr ⟨kvs, hr, by rw [h1]; exact ha, fun p hp => q p _ B H (Al.refl s) hp (.dT upd_same h1 h2)⟩⟩
    · rw [if_neg ha] at e; cases e
  | _ => exact dh.elim
end
section
variable {X : Cx} {W : WX} {e : Expr} {te : TE} {me : M D} {pos pos' p : Pos} {x : Str}
theorem sn_dictD (hu : X.A.units + 64 < cLine) (hm : X.mg "dict" = none) (h : SE X W e te me) (hg : Gl X "dict" := by rfl) (hb : bootBuiltins "dict" = some (.type "dict") := by decide +kernel) (hs : starEach [e] X.env = (false, eval e X.env) :: starEach [] X.env := by rfl) :
    SN X W (.Call (.Name "dict" pos') [e] [] pos) (fun σ H Q => te σ H fun x H1 => ∃ y, [x] = [y] ∧ rCopyD y H1 Q) (eDic dCopyD me) :=
  ⟨pe_callTy (call_dictD hu) hg hm hb (pa_cons h.pe pa_nil hs) (by decide) (by decide) hs (by rfl), rn_dic (r := fun x H Q => ∃ y, [x] = [y] ∧ rCopyD y H Q) (fun B H a d z s dh e Q q => ⟨_, rfl, rdn_copy B H a d z s dh e Q q⟩) h.rx⟩
theorem sn_dictDO (i : Nat) (hu : X.A.units + 64 < cLine) (hm : X.mg "dict" = none) (hN : X.N[i]? = some x := by rfl) (hv : Vis X.env.scope x := by first | exact Or.inl rfl | exact Or.inr (Or.inl rfl) | exact Or.inr (Or.inr rfl)) (hd : (x == ("__debug__" : Str)) = false := by decide)
    (hcd : (x == ("__classdict__" : Str)) = false := by decide) (hg : Gl X "dict" := by rfl) (hb : bootBuiltins "dict" = some (.type "dict") := by decide +kernel) (hs : starEach [.Name x p] X.env = (false, eval (.Name x p) X.env) :: starEach [] X.env := by rfl) :
    SN X W (.Call (.Name "dict" pos') [.Name x p] [] pos) (fun σ H Q => tVar i σ H fun x H1 => ∃ y, [x] = [y] ∧ rCopyD y H1 Q) (eDicO dCopyD i) :=
  ⟨pe_callTy (call_dictD hu) hg hm hb (pa_cons (pe_var hN hv hd hcd) pa_nil hs) (by decide) (by decide) hs (by rfl), rn_dicO (r := fun x H Q => ∃ y, [x] = [y] ∧ rCopyD y H Q) i (fun B H a d z s dh e Q q => ⟨_, rfl, rdn_copy B H a d z s dh e Q q⟩)⟩
end
end Mi

/-! The mirror layer 27: dicts compared, keys that are tuples too. -/
namespace PySem.W
open PySem PySem.Calls PyProof.Rows PyProof.V PySem.Spec
section
variable {prog : Program} {w : World} {K : Type} [DecidableEq K] {knd : HeapKind prog w K} {A : Around} {E : Value → Shared → Prop} {s : Shared}
inductive MiHits {K : Type} [DecidableEq K] (A : Around) (s : Shared) (kb : List (K × Addr × Value)) : List (K × Addr × Value) → Bool → Prop
  | nil : MiHits A s kb [] true
  | miss {k : K} {q : Addr} {v : Value} {r : List (K × Addr × Value)} : atKey kb k = none → MiHits A s kb ((k, q, v) :: r) false
  | hit {k : K} {q q' : Addr} {v y : Value} {r : List (K × Addr × Value)} {e b : Bool} : atKey kb k = some (q', y) → SeqAt.EqAt A s v y e → MiHits A s kb r b → MiHits A s kb ((k, q, v) :: r) (e && b)
theorem MiHits.inv {kb : List (K × Addr × Value)} {k : K} {q : Addr} {v : Value} {r : List (K × Addr × Value)} {b : Bool} (h : MiHits A s kb ((k, q, v) :: r) b) :
    (atKey kb k = none ∧ b = false) ∨ ∃ q' y e b', atKey kb k = some (q', y) ∧ SeqAt.EqAt A s v y e ∧ MiHits A s kb r b' ∧ b = (e && b') := by
  cases h with
  | miss hn => exact .inl ⟨hn, rfl⟩
  | hit hy he hr => exact .inr ⟨_, _, _, _, hy, he, hr, rfl⟩
theorem atKey_none {xs : List (K × Addr × Value)} {k : K} (h : ∀ (j : Nat) (p : Addr × Value), xs[j]? ≠ some (k, p)) : atKey xs k = none := by
  unfold atKey
  rw [Option.map_eq_none_iff, List.find?_eq_none]
  intro x hx hd
  obtain ⟨j, hj⟩ := List.getElem?_of_mem hx
  have : x.1 = k := of_decide_eq_true hd
  exact h j x.2 (by rw [hj, ← this])
theorem atKey_some {xs : List (K × Addr × Value)} {k : K} {j : Nat} {p : Addr × Value} (hn : (xs.map (·.1)).Nodup) (h : xs[j]? = some (k, p)) : atKey xs k = some p := by
  unfold atKey
  induction xs generalizing j with
  | nil => simp at h
  | cons x xs ih =>
    rw [List.find?_cons]
    rw [List.map_cons, List.nodup_cons] at hn
    cases j with
    | zero =>
      simp at h
      rw [h]; simp
    | succ j =>
      have h : xs[j]? = some (k, p) := by simpa using h
      have hx : x.1 ≠ k := fun e => hn.1 (by rw [e]; exact List.mem_map.mpr ⟨_, List.mem_of_getElem? h, rfl⟩)
      rw [decide_eq_false hx]
      exact ih hn.2 h
theorem mi_samePairs {nm : String} {a b : Addr} {ka kb : List (K × Addr × Value)} {r : Bool} {Q : Bool → Shared → Prop} (hu : knd.room A) (ha : (a == sysModules) = false) (hb : (b == sysModules) = false)
    (da : s.heap.DictOfH knd a ka) (db : s.heap.DictOfH knd b kb) (hits : ka.length = kb.length → MiHits A s kb ka r) (h : Q (ka.length == kb.length && r) s) :
    wpAny (model prog w) A (Builtin.Dict.samePairs nm a b) Q E s := by
  obtain ⟨oa, es, ep, hoa, _, hda, hea, hia, hna⟩ := da
  obtain ⟨ob, es', ep', hob, _, hdb, heb, hib, hnb⟩ := db
  have hla : ka.length = es.size := (size_of_entries hea).symm
  have hlb : kb.length = es'.size := (size_of_entries heb).symm
  rw [hla, hlb] at h
  unfold Builtin.Dict.samePairs Builtin.Dict.showsAll
  rw [if_neg (show ¬ (a == sysModules) = true by rw [ha]; exact Bool.false_ne_true), if_neg (show ¬ (b == sysModules) = true by rw [hb]; exact Bool.false_ne_true)]
  refine wpAny_bind (wpAny_pure (wpAny_bind (wpAny_pure ?_)))
  refine wpAny_bind (wpAny_dictEntries hoa hda ?_)
  dsimp only
  refine wpAny_bind (wpAny_dictEntries hob hdb ?_)
  by_cases hsz : es.size = es'.size
  case neg =>
    rw [if_pos (by simpa using hsz)]
    have hbf : (es.size == es'.size) = false := by simpa using hsz
    rw [hbf, Bool.false_and] at h
    exact wpAny_bind (wpAny_rule (wpAny_pure h))
  case pos =>
    have h' : Q r s := by simpa [hsz] using h
    have hits' := hits (by rw [hla, hlb]; exact hsz)
    rw [if_neg (by rw [hsz]; simp)]
    refine wpAny_bind (wpAny_dictEpoch hoa hda ?_)
    refine wpAny_bind ?_
    rw [Std.Legacy.Range.forIn_eq_forIn_range']
    simp only [Std.Legacy.Range.size, Nat.sub_zero, Nat.add_sub_cancel, Nat.div_one]
    refine wpAny_forIn_list _
      (fun rest q s' => s' = s ∧ q = (none, ()) ∧ ∃ i, rest = List.range' i (es.size - i) ∧ i ≤ es.size ∧ MiHits A s kb (ka.drop i) r)
      _ ?_ ?_ _ _ ⟨rfl, rfl, 0, by simp, Nat.zero_le _, hits'⟩
    · rintro x rest q s' ⟨rfl, rfl, i, hr, hi, hpre⟩
      have hlt : i < es.size := by
        rcases Nat.lt_or_ge i es.size with h | h
        · exact h
        · rw [Nat.sub_eq_zero_of_le h] at hr; simp at hr
      obtain ⟨rfl, hrest⟩ : x = i ∧ rest = List.range' (i + 1) (es.size - (i + 1)) := by
        have e : es.size - i = (es.size - (i + 1)) + 1 := by omega
        rw [e, List.range'_succ] at hr
        injection hr with h1 h2
        exact ⟨h1, h2⟩
      refine wpAny_bind (wpAny_dictEntries hoa hda ?_)
      rw [Array.getElem?_eq_getElem hlt]
      have hlt' : x < ka.length := by rw [hla]; exact hlt
      obtain ⟨k, q, v, hkv⟩ : ∃ k q v, ka[x] = (k, q, v) := ⟨_, _, _, rfl⟩
      have hdrop : ka.drop x = (k, q, v) :: ka.drop (x + 1) := by rw [← hkv]; exact List.drop_eq_getElem_cons hlt'
      have hex : es[x] = entryOfKey knd (k, q, v) := by
        have := entry_at hea x
        rw [Array.getElem?_eq_getElem hlt, List.getElem?_eq_getElem hlt', hkv] at this
        simpa using this
      have hik := hia _ (List.getElem_mem hlt')
      rw [hkv] at hik
      rw [hdrop] at hpre
      rw [hex]
      show wpAny _ _ (holding [Value.ref q, v] _ >>= _) _ _ _
      refine wpAny_bind (wpAny_holding (wpAny_bind (wpAny_dictFind_heap hu hik hob hdb heb hib hnb (fun hno => ?_) (fun j p hj => ?_))))
      · have hn := atKey_none hno
        rcases hpre.inv with ⟨_, er⟩ | ⟨_, y, _, _, hy, _⟩
        · rw [er] at h'
          refine wpAny_pure ?_
          show wpAny _ _ (if (!false) = true then _ else _) _ _ _
          rw [if_pos (by decide)]
          exact wpAny_pure (wpAny_pure h')
        · rw [hn] at hy; exact nomatch hy
      · have hv' := atKey_some hnb hj
        refine wpAny_bind (wpAny_dictEntries hob hdb ?_)
        have hjx : es'[j]? = some (entryOfKey knd (k, p)) := by rw [entry_at heb j, hj]; rfl
        rw [hjx]
        rcases hpre.inv with ⟨hn, _⟩ | ⟨q', y, e, b', hy, he, hrr, er⟩
        · rw [hv'] at hn; exact nomatch hn
        · have ey : p = (q', y) := Option.some.inj (hv'.symm.trans hy)
          subst ey
          refine wpAny_holding (he prog w _ _ ?_)
          cases e with
          | false =>
            rw [er, Bool.false_and] at h'
            show wpAny _ _ (if (!false) = true then _ else _) _ _ _
            rw [if_pos (by decide)]
            exact wpAny_pure (wpAny_pure h')
          | true =>
            rw [Bool.true_and] at er
            rw [← er] at hrr
            show wpAny _ _ (if (!true) = true then _ else _) _ _ _
            rw [if_neg (by decide)]
            refine wpAny_bind (wpAny_dictEpoch hoa hda ?_)
            rw [if_neg (by simp)]
            exact wpAny_pure ⟨rfl, rfl, x + 1, hrest, hlt, hrr⟩
    · rintro q s' ⟨rfl, rfl, i, hr, hi, hpre⟩
      have hin : i = es.size := by
        rcases Nat.lt_or_ge i es.size with h | h
        · have e : es.size - i = (es.size - (i + 1)) + 1 := by omega
          rw [e, List.range'_succ] at hr; exact nomatch hr
        · exact Nat.le_antisymm hi h
      refine wpAny_pure ?_
      rw [hin, ← hla, List.drop_length] at hpre
      cases hpre
      exact h'
theorem mi_eq {a b : Addr} {ka kb : List (K × Addr × Value)} {r : Bool} {Q : Value → Shared → Prop} (hr : knd.room A.in1) (ha : (a == sysModules) = false) (hb : (b == sysModules) = false)
    (da : s.heap.DictOfH knd a ka) (db : s.heap.DictOfH knd b kb) (hu : A.units < cLine) (hits : ka.length = kb.length → MiHits A.in1 s kb ka r) (h : Q (.bool (ka.length == kb.length && r)) s) :
    wpAny (model prog w) A (compareOp .Eq (.ref a) (.ref b)) Q E s := by
  refine wpAny_richCompare_same_room (op := .Eq) da.typeIs db.typeIs PySem.F.slot_dict_eq (wpAny_call_entry PySem.F.slot_dict_eq da.typeIs PySem.F.entry_dict_eq ?_ (PySem.F.args_dict_eq_2 _ _)) hu
  show wpAny _ _ (Builtin.Dict.dictSlotArgs "__eq__" ⟨[.ref a, .ref b], []⟩ >>= _) _ _ s
  refine wpAny_bind ?_
  unfold Builtin.Dict.dictSlotArgs
  refine wpAny_bind (wpAny_notOrdered_dict da.typeIs ?_)
  show wpAny _ _ (pure (Value.ref a, Value.ref b)) _ _ s
  refine wpAny_pure ?_
  refine wpAny_bind (wpAny_isInstance (T := "dict") db.typeIs PySem.F.sub_dict_dict ?_)
  simp only [Bool.not_true, Bool.false_eq_true, if_false]
  refine wpAny_bind (wpAny_pure (wpAny_bind (wpAny_pure ?_)))
  refine wpAny_bind (mi_samePairs hr ha hb da db hits ?_)
  refine wpAny_pure ⟨_, rfl, ?_, ?_⟩
  · exact fun x => nomatch x
  · simpa using h
theorem mi_ne {a b : Addr} {ka kb : List (K × Addr × Value)} {r : Bool} {Q : Value → Shared → Prop} (hr : knd.room A.in1) (ha : (a == sysModules) = false) (hb : (b == sysModules) = false)
    (da : s.heap.DictOfH knd a ka) (db : s.heap.DictOfH knd b kb) (hu : A.units < cLine) (hits : ka.length = kb.length → MiHits A.in1 s kb ka r) (h : Q (.bool (!(ka.length == kb.length && r))) s) :
    wpAny (model prog w) A (compareOp .NotEq (.ref a) (.ref b)) Q E s := by
  refine wpAny_richCompare_same_room (op := .NotEq) da.typeIs db.typeIs PySem.F.slot_dict_ne (wpAny_call_entry PySem.F.slot_dict_ne da.typeIs PySem.F.entry_dict_ne ?_ (PySem.F.args_dict_ne_2 _ _)) hu
  show wpAny _ _ (Builtin.Dict.dictSlotArgs "__ne__" ⟨[.ref a, .ref b], []⟩ >>= _) _ _ s
  refine wpAny_bind ?_
  unfold Builtin.Dict.dictSlotArgs
  refine wpAny_bind (wpAny_notOrdered_dict da.typeIs ?_)
  show wpAny _ _ (pure (Value.ref a, Value.ref b)) _ _ s
  refine wpAny_pure ?_
  refine wpAny_bind (wpAny_isInstance (T := "dict") db.typeIs PySem.F.sub_dict_dict ?_)
  simp only [Bool.not_true, Bool.false_eq_true, if_false]
  refine wpAny_bind (wpAny_pure (wpAny_bind (wpAny_pure ?_)))
  refine wpAny_bind (mi_samePairs hr ha hb da db hits ?_)
  refine wpAny_pure ⟨_, rfl, ?_, ?_⟩
  · exact fun x => nomatch x
  · simpa using h
end
end PySem.W
namespace Mi
open PySem L2
variable [Tabs]
def lookP {κ : Type} [DecidableEq κ] (ps : List (κ × PyData)) (k : κ) : Option PyData := (ps.find? fun p => decide (p.1 = k)).map Prod.snd
def dictB {κ : Type} [DecidableEq κ] (ps qs : List (κ × PyData)) : Bool := ps.length == qs.length && ps.all fun p => match lookP qs p.1 with
  | some z => PyData.eqv p.2 z
  | none => false
def KP {κ : Type} (K : PySem.W.Frag) (H : Hp) : List (κ × V) → List (κ × PyData) → Prop := Paired fun p q => p.1 = q.1 ∧ Dp K H p.2 q.2 ∧ SeqAt.shaped q.2 = true
def rEqDD (K : PySem.W.Frag) (neg : Bool) : R2 := fun x y H Q => ∃ a b, x = .ref a ∧ y = .ref b ∧ ((∃ (ks ls : List (Key × V)) (pk pl : List (Key × PyData)), Rd H a (.dK ks) ∧ Rd H b (.dK ls) ∧ KP K H ks pk ∧ KP K H ls pl ∧ Q (.bl (if neg then !dictB pk pl else dictB pk pl)) H) ∨
  ∃ (ks ls : List (List Key × V)) (pk pl : List (List Key × PyData)), Rd H a (.dT ks) ∧ Rd H b (.dT ls) ∧ KP K H ks pk ∧ KP K H ls pl ∧ Q (.bl (if neg then !dictB pk pl else dictB pk pl)) H)
section
variable {X : Cx} {pins : List (Addr × Obj)} {σ : L2.St} {H : Hp} {s : Shared} {a : Addr}
theorem kp_look {ls : List (Key × V)} {us : List (Key × Value)} {pl : List (Key × PyData)} (I : Inv X pins σ H s) (r : KV ls us) (p : KP X.K H ls pl) (k : Key) :
    (valueAt us k = none ∧ lookP pl k = none) ∨ ∃ y z, valueAt us k = some y ∧ lookP pl k = some z ∧ (∃ as, Reads s.heap y z as) ∧ SeqAt.shaped z = true := by
  induction p generalizing us with
  | nil => cases r; exact .inl ⟨rfl, rfl⟩
  | @cons x q ls pl h t ih =>
    cases r with
    | @cons _ u _ us g1 g2 =>
      unfold valueAt lookP
      rw [List.find?_cons, List.find?_cons, ← g1.1, ← h.1]
      by_cases e : x.1 = k
      · rw [decide_eq_true e]
        exact .inr ⟨_, _, rfl, rfl, Dp.reads I _ _ _ h.2.1 g1.2, h.2.2⟩
      · rw [decide_eq_false e]
        exact ih g2
theorem kp_lookT {ls : List (List Key × V)} {us : List (List Key × Addr × Value)} {pl : List (List Key × PyData)} (I : Inv X pins σ H s) (r : KT H ls us) (p : KP X.K H ls pl) (k : List Key) :
    (atKey us k = none ∧ lookP pl k = none) ∨ ∃ q y z, atKey us k = some (q, y) ∧ lookP pl k = some z ∧ (∃ as, Reads s.heap y z as) ∧ SeqAt.shaped z = true := by
  induction p generalizing us with
  | nil => cases r; exact .inl ⟨rfl, rfl⟩
  | @cons x q ls pl h t ih =>
    cases r with
    | @cons _ u _ us g1 g2 =>
      unfold atKey lookP
      rw [List.find?_cons, List.find?_cons, ← g1.1, ← h.1]
      by_cases e : x.1 = k
      · rw [decide_eq_true e]
        exact .inr ⟨_, _, _, rfl, rfl, Dp.reads I _ _ _ h.2.1 g1.2.2, h.2.2⟩
      · rw [decide_eq_false e]
        exact ih g2
theorem kp_hits {ks ls : List (Key × V)} {vs us : List (Key × Value)} {pk pl : List (Key × PyData)} (hu : X.A.in1.units + 64 < cLine) (I : Inv X pins σ H s) (r : KV ks vs) (p : KP X.K H ks pk) (r2 : KV ls us) (p2 : KP X.K H ls pl) :
    PySem.W.KeqHits X.A.in1 s us vs (pk.all fun p => match lookP pl p.1 with | some z => PyData.eqv p.2 z | none => false) := by
  induction p generalizing vs with
  | nil => cases r; exact .nil
  | @cons x q ks pk h t ih =>
    cases r with
    | @cons _ u _ vs g1 g2 =>
      rw [List.all_cons, ← h.1]
      obtain ⟨u1, u2⟩ := u
      have e1 : x.1 = u1 := g1.1
      rw [e1]
      rcases kp_look I r2 p2 u1 with ⟨h1, h2⟩ | ⟨y, z, h1, h2, ⟨as, h3⟩, h4⟩
      · rw [h2]
        simp only [Bool.false_and]
        exact .miss h1
      · rw [h2]
        obtain ⟨bs, h5⟩ := Dp.reads I _ _ _ h.2.1 g1.2
        exact .hit h1 (PySem.W.keq_at h5 h3 h.2.2 h4 hu) (ih g2)
theorem kp_hitsT {ks ls : List (List Key × V)} {vs us : List (List Key × Addr × Value)} {pk pl : List (List Key × PyData)} (hu : X.A.in1.units + 64 < cLine) (I : Inv X pins σ H s) (r : KT H ks vs) (p : KP X.K H ks pk) (r2 : KT H ls us) (p2 : KP X.K H ls pl) :
    PySem.W.MiHits X.A.in1 s us vs (pk.all fun p => match lookP pl p.1 with | some z => PyData.eqv p.2 z | none => false) := by
  induction p generalizing vs with
  | nil => cases r; exact .nil
  | @cons x q ks pk h t ih =>
    cases r with
    | @cons _ u _ vs g1 g2 =>
      rw [List.all_cons, ← h.1]
      obtain ⟨u1, u2, u3⟩ := u
      have e1 : x.1 = u1 := g1.1
      rw [e1]
      rcases kp_lookT I r2 p2 u1 with ⟨h1, h2⟩ | ⟨q', y, z, h1, h2, ⟨as, h3⟩, h4⟩
      · rw [h2]
        simp only [Bool.false_and]
        exact .miss h1
      · rw [h2]
        obtain ⟨bs, h5⟩ := Dp.reads I _ _ _ h.2.1 g1.2.2
        exact .hit h1 (PySem.W.keq_at h5 h3 h.2.2 h4 hu) (ih g2)
theorem op_eqDD (hu : X.A.units + 70 < cLine) : OpR X (compareOp .Eq) (rEqDD X.K false) := by
  intro pins s σ H x y v u Q I rx ry h
  obtain ⟨a, b, rfl, rfl, h⟩ := h
  obtain rfl : v = Value.ref a := rx
  obtain rfl : u = Value.ref b := ry
  have hu1 : X.A.in1.units + 64 < cLine := by show X.A.units + 1 + 64 < cLine; omega
  rcases h with ⟨ks, ls, pk, pl, ra, rb, pa, pb, q⟩ | ⟨ks, ls, pk, pl, ra, rb, pa, pb, q⟩
  · obtain ⟨_, ya, va, kva, da⟩ := dk_rd I.hok ra
    obtain ⟨_, yb, vb, kvb, db⟩ := dk_rd I.hok rb
    refine PySem.W.keq_eq (knd := mixKind X.prog X.w) ya yb da db (by omega) (fun _ => kp_hits hu1 I kva pa kvb pb) ⟨.bl _, H, I, rfl, ?_⟩
    have l1 : va.length = pk.length := (Paired.length kva).symm.trans (Paired.length pa)
    have l2 : vb.length = pl.length := (Paired.length kvb).symm.trans (Paired.length pb)
    rw [l1, l2]
    exact q
  · obtain ⟨_, ya, va, kva, da⟩ := dt_rd I.hok ra
    obtain ⟨_, yb, vb, kvb, db⟩ := dt_rd I.hok rb
    refine PySem.W.mi_eq (knd := tupleKind (mixKind X.prog X.w)) (by show X.A.units + 1 < cLine; omega) ya yb da db (by omega) (fun _ => kp_hitsT hu1 I kva pa kvb pb) ⟨.bl _, H, I, rfl, ?_⟩
    have l1 : va.length = pk.length := (Paired.length kva).symm.trans (Paired.length pa)
    have l2 : vb.length = pl.length := (Paired.length kvb).symm.trans (Paired.length pb)
    rw [l1, l2]
    exact q
theorem op_neDD (hu : X.A.units + 70 < cLine) : OpR X (compareOp .NotEq) (rEqDD X.K true) := by
  intro pins s σ H x y v u Q I rx ry h
  obtain ⟨a, b, rfl, rfl, h⟩ := h
  obtain rfl : v = Value.ref a := rx
  obtain rfl : u = Value.ref b := ry
  have hu1 : X.A.in1.units + 64 < cLine := by show X.A.units + 1 + 64 < cLine; omega
  rcases h with ⟨ks, ls, pk, pl, ra, rb, pa, pb, q⟩ | ⟨ks, ls, pk, pl, ra, rb, pa, pb, q⟩
  · obtain ⟨_, ya, va, kva, da⟩ := dk_rd I.hok ra
    obtain ⟨_, yb, vb, kvb, db⟩ := dk_rd I.hok rb
    refine PySem.W.keq_ne (knd := mixKind X.prog X.w) ya yb da db (by omega) (fun _ => kp_hits hu1 I kva pa kvb pb) ⟨.bl _, H, I, rfl, ?_⟩
    have l1 : va.length = pk.length := (Paired.length kva).symm.trans (Paired.length pa)
    have l2 : vb.length = pl.length := (Paired.length kvb).symm.trans (Paired.length pb)
    rw [l1, l2]
    exact q
  · obtain ⟨_, ya, va, kva, da⟩ := dt_rd I.hok ra
    obtain ⟨_, yb, vb, kvb, db⟩ := dt_rd I.hok rb
    refine PySem.W.mi_ne (knd := tupleKind (mixKind X.prog X.w)) (by show X.A.units + 1 < cLine; omega) ya yb da db (by omega) (fun _ => kp_hitsT hu1 I kva pa kvb pb) ⟨.bl _, H, I, rfl, ?_⟩
    have l1 : va.length = pk.length := (Paired.length kva).symm.trans (Paired.length pa)
    have l2 : vb.length = pl.length := (Paired.length kvb).symm.trans (Paired.length pb)
    rw [l1, l2]
    exact q
end
/-! ### for data -/
def pyKV {κ : Type} (ds : List (κ × D)) : List (κ × PyData) := ds.map fun kv => (kv.1, toPy kv.2)
def shKV {κ : Type} (ds : List (κ × D)) : Bool := ds.all fun kv => SeqAt.shaped (toPy kv.2)
def dEqDD (neg : Bool) : D → D → Option D
  | .dK a, .dK b => if shKV a && shKV b then some (.bl (if neg then !dictB (pyKV a) (pyKV b) else dictB (pyKV a) (pyKV b))) else none
  | .dT a, .dT b => if shKV a && shKV b then some (.bl (if neg then !dictB (pyKV a) (pyKV b) else dictB (pyKV a) (pyKV b))) else none
  | _, _ => none
section
variable {K : PySem.W.Frag} {mg : Str → Option Value}
theorem kp_of {κ : Type} {B H : Hp} (s : Sub B H) : ∀ {ks : List (κ × V)} {ds : List (κ × D)}, ks.map Prod.fst = ds.map Prod.fst → Reps K mg B (ks.map Prod.snd) (ds.map Prod.snd) → shKV ds = true → KP K H ks (pyKV ds)
  | [], [], _, _, _ => .nil
  | [], _ :: _, h, _, _ => by cases h
  | _ :: _, [], h, _, _ => by cases h
  | k :: ks, d :: ds, h, r, sh => by
    rw [List.map_cons, List.map_cons] at h
    injection h with h1 h2
    rw [List.map_cons, List.map_cons] at r
    unfold shKV at sh
    rw [List.all_cons, Bool.and_eq_true] at sh
    cases r with
    | cons r1 r2 => exact .cons ⟨h1, Rep.dp s r1 (SeqAt.canLay_of_shaped sh.1), sh.1⟩ (kp_of s h2 r2 sh.2)
theorem re_eqDD (neg : Bool) : Real2 K mg (rEqDD K neg) (dEqDD neg) := by
  intro B H x y d e z s h1 h2 e1 Q q
  have key : ∀ {c : Bool} {o : Option D}, (if c then o else none) = some z → c = true ∧ o = some z := fun h => by
    split at h
    · exact ⟨‹_›, h⟩
    · cases h
  unfold dEqDD at e1
  split at e1
  · obtain ⟨c, e1⟩ := key e1
    cases e1
    rw [Bool.and_eq_true] at c
    cases h1 with
    | dK p1 k1 r1 =>
      cases h2 with
      | dK p2 k2 r2 => exact ⟨_, _, rfl, rfl, .inl ⟨_, _, _, _, sub_rd s p1, sub_rd s p2, kp_of s k1 r1 c.1, kp_of s k2 r2 c.2, q _ B H (Al.refl s) (.bl _)⟩⟩
  · obtain ⟨c, e1⟩ := key e1
    cases e1
    rw [Bool.and_eq_true] at c
    cases h1 with
    | dT p1 k1 r1 =>
      cases h2 with
      | dT p2 k2 r2 => exact ⟨_, _, rfl, rfl, .inr ⟨_, _, _, _, sub_rd s p1, sub_rd s p2, kp_of s k1 r1 c.1, kp_of s k2 r2 c.2, q _ B H (Al.refl s) (.bl _)⟩⟩
  · cases e1
end
theorem un70 {k : Nat} {A : Around} (r : Room k A) : A.units + 70 < cLine := by have := r.un; omega
end Mi

/-! The mirror layer 28: a op b op c op d. -/
namespace Mi
open PySem L2
variable [Tabs]
def tChain3 (r r' r'' : R2) (ta tb tc td : TE) : TE := fun σ H Q => ta σ H fun x H1 => tb σ H1 fun y H2 => r x y H2 fun z H3 => ∃ k, z = .bl k ∧
  (if k = true then tc σ H3 fun u H4 => r' y u H4 fun z' H5 => ∃ k', z' = .bl k' ∧ (if k' = true then td σ H5 fun w H6 => r'' u w H6 Q else Q (.bl false) H5) else Q (.bl false) H3)
def eChain3 (f g h : D → D → Option D) (ma mb mc md : M D) : M D := ma.bind fun a => mb.bind fun b => fun env => match f a b with
  | some (.bl true) => (mc.bind fun c => fun env => match g b c with
    | some (.bl true) => (md.bind fun d => ofO (h c d)) env
    | some (.bl false) => .ok (.bl false) env
    | _ => .stuck) env
  | some (.bl false) => .ok (.bl false) env
  | _ => .stuck
section
variable {X : Cx} {W : WX} {a b c d : Expr} {ta tb tc td : TE} {ma mb mc md : M D} {pos : Pos}
theorem pe_chain3 {op op' op'' : CmpOp} {r r' r'' : R2} (ho : OpR X (compareOp op) r) (ho' : OpR X (compareOp op') r') (ho'' : OpR X (compareOp op'') r'') (ha : PE X a ta) (hb : PE X b tb) (hc : PE X c tc) (hd : PE X d td)
    (hm : lastMarks [op, op', op''] [b, c, d] = false := by with_unfolding_all rfl) : PE X (.Compare a [op, op', op''] [b, c, d] pos) (tChain3 r r' r'' ta tb tc td) := by
  refine ⟨fun pins s σ H Q I h => ?_⟩
  refine PyProof.Rows.Compare_chain (thn (ha.run pins s σ H _ I h) fun v s1 ⟨x, H1, I1, r1, q1⟩ => PyProof.Rows.chain_link (thn (hb.run pins s1 σ H1 _ I1 q1) fun u s2 ⟨y, H2, I2, r2, q2⟩ =>
    thn (ho pins s2 σ H2 x y v u _ I2 r1 r2 q2) fun e s3 ⟨z, H3, I3, r3, k, ez, q3⟩ => ?_)) hm
  subst ez
  cases r3
  refine wpAny_truthy_bool ?_
  cases k with
  | false => exact PyProof.Rows.ite_ff ⟨.bl false, H3, I3, rfl, q3⟩
  | true =>
    refine PyProof.Rows.ite_tt (PyProof.Rows.chain_link (thn (hc.run pins s3 σ H3 _ I3 q3) fun u' s4 ⟨y', H4, I4, r4, q4⟩ => thn (ho' pins s4 σ H4 y y' u u' _ I4 r2 r4 q4) fun e' s5 ⟨z', H5, I5, r5, k', ez', q5⟩ => ?_))
    subst ez'
    cases r5
    refine wpAny_truthy_bool ?_
    cases k' with
    | false => exact PyProof.Rows.ite_ff ⟨.bl false, H5, I5, rfl, q5⟩
    | true => exact PyProof.Rows.ite_tt (PyProof.Rows.chain_last (thn (hd.run pins s5 σ H5 _ I5 q5) fun w' s6 ⟨z6, H6, I6, r6, q6⟩ => ho'' pins s6 σ H6 y' z6 u' w' Q I6 r4 r6 q6))
theorem rx_chain3 {K : PySem.W.Frag} {mg : Str → Option Value} {r r' r'' : R2} {f g h : D → D → Option D} (hf : Real2 K mg r f) (hg : Real2 K mg r' g) (hh : Real2 K mg r'' h) (ha : RX K mg W (RD K mg) ta ma) (hb : RX K mg W (RD K mg) tb mb) (hc : RX K mg W (RD K mg) tc mc) (hd : RX K mg W (RD K mg) td md) :
    RX K mg W (RD K mg) (tChain3 r r' r'' ta tb tc td) (eChain3 f g h ma mb mc md) := by
  refine ha.bind2 (t3 := fun x y σ H Q => r x y H fun z H3 => ∃ k, z = .bl k ∧ (if k = true then tc σ H3 fun u H4 => r' y u H4 fun z' H5 => ∃ k', z' = .bl k' ∧ (if k' = true then td σ H5 fun w H6 => r'' u w H6 Q else Q (.bl false) H5) else Q (.bl false) H3)) hb rd_monoR fun v w a b σ0 B H σ env sm r1 r2 Q post => ?_
  cases e : f a b with
  | none => rw [e] at post; exact post.elim
  | some z =>
    rw [e] at post
    refine hf B H v w a b z sm.sub r1 r2 e _ fun u B' H' l r3 => ?_
    cases z with
    | bl k =>
      refine ⟨k, Rep.bl_inv r3, ?_⟩
      cases k with
      | false =>
        have post : Post K mg W (RD K mg) σ0 σ env B H (.ok (.bl false) env) Q := post
        exact post.al sm l (Rep.bl false)
      | true =>
        have post : Post K mg W (RD K mg) σ0 σ env B H ((mc.bind fun c => fun env => match g b c with
          | some (.bl true) => (md.bind fun d => ofO (h c d)) env
          | some (.bl false) => .ok (.bl false) env
          | _ => .stuck) env) Q := post
        have sm' := sm.alloc l.g l.n l.s l.sb
        have post' := post.rebase (Stp.alloc l.g l.n l.s) (OSub.refl _)
        refine hc.go (R2 := RD K mg) (Q' := Q) (k := fun c => fun env => match g b c with
          | some (.bl true) => (md.bind fun d => ofO (h c d)) env
          | some (.bl false) => .ok (.bl false) env
          | _ => .stuck) sm' post' fun x c B1 H1 env1 sm1 g1 r1 post1 => ?_
        cases e' : g b c with
        | none => rw [e'] at post1; exact post1.elim
        | some z' =>
          rw [e'] at post1
          refine hg B1 H1 w x b c z' sm1.sub (r2.mono (l.g.trans g1)) r1 e' _ fun u' B2 H2 l2 r4 => ?_
          cases z' with
          | bl k' =>
            refine ⟨k', Rep.bl_inv r4, ?_⟩
            cases k' with
            | false =>
              have post1 : Post K mg W (RD K mg) σ0 σ env1 B1 H1 (.ok (.bl false) env1) Q := post1
              exact post1.al sm1 l2 (Rep.bl false)
            | true =>
              have post1 : Post K mg W (RD K mg) σ0 σ env1 B1 H1 ((md.bind fun d => ofO (h c d)) env1) Q := post1
              have sm2 := sm1.alloc l2.g l2.n l2.s l2.sb
              have post2 := post1.rebase (Stp.alloc l2.g l2.n l2.s) (OSub.refl _)
              refine hd.go (R2 := RD K mg) (Q' := Q) (k := fun d => ofO (h c d)) sm2 post2 fun y d B3 H3 env3 sm3 g3 r5 post3 => ?_
              cases e3 : h c d with
              | none => rw [e3] at post3; exact post3.elim
              | some z3 =>
                rw [e3] at post3
                exact hh B3 H3 x y c d z3 sm3.sub (r1.mono (l2.g.trans g3)) r5 e3 Q fun u3 B4 H4 l4 r6 => post3.al sm3 l4 r6
          | _ => exact (post1 : False).elim
    | _ => exact (post : False).elim
theorem se_chain3 {op op' op'' : CmpOp} {r r' r'' : R2} {f g h : D → D → Option D} (ho : OpR X (compareOp op) r) (hf : Real2 X.K X.mg r f) (ho' : OpR X (compareOp op') r') (hg : Real2 X.K X.mg r' g) (ho'' : OpR X (compareOp op'') r'') (hh : Real2 X.K X.mg r'' h) (ha : SE X W a ta ma) (hb : SE X W b tb mb) (hc : SE X W c tc mc) (hd : SE X W d td md)
    (hm : lastMarks [op, op', op''] [b, c, d] = false := by with_unfolding_all rfl) : SE X W (.Compare a [op, op', op''] [b, c, d] pos) (tChain3 r r' r'' ta tb tc td) (eChain3 f g h ma mb mc md) := ⟨pe_chain3 ho ho' ho'' ha.pe hb.pe hc.pe hd.pe hm, rx_chain3 hf hg hh ha.rx hb.rx hc.rx hd.rx⟩
end
end Mi

/-! The mirror layer 29: all(.. for x in ..). -/
namespace Mi
open PySem PySem.Spec PyProof.Rows L2 GxR
variable [Tabs]
section
variable {X : Cx} {pins : List (Addr × Obj)} {σ : L2.St} {H1 : Hp} {s1 : Shared} {c P : Addr}
/-- what is walked: the iterator o, its items -/
structure Src (prog : Program) (w : World) (s1 : Shared) (P : Addr) (o : Obj) (n : Nat) (Pf : Nat → Value → Prop) (fp : List Addr) (St : Nat → Heap → Prop) : Prop where
  W : ∀ A' : Around, A'.handled = none → Walks prog w A' s1.heap.objs.size fp [s1.heap.objs.size] n Pf St
  st : St 0 (s1.heap.push o)
  fp : ∀ b ∈ fp, b < s1.heap.objs.size + 1 ∧ b ≠ P
/-- the item's test, in the generator's own scope, over what stood at the entry -/
def EltQ (X : Cx) (P : Addr) (scope : Scope) (x : Str) (elt : Expr) (s1 : Shared) (Pf : Nat → Value → Prop) (pb : Nat → Bool) : Prop :=
  ∀ (cenv : Env) (A' : Around) (E' : Value → Shared → Prop) (i : Nat) (v : Value) (s₂ : Shared) (m₂ : Str → Option Value), cenv.scope = scope → cenv.globals = X.env.globals → cenv.cells = cloFrom X.env.cells scope.names [] → A'.handled = none →
    (∀ b o, b ≠ P → s1.heap.get? b = some o → s₂.heap.get? b = some o) → Pf i v → s₂.heap.Ns cenv.locals m₂ → m₂ x = some v →
    wpAny (model X.prog X.w) A' (eval elt cenv) (fun y s₃ => y = .bool (pb i) ∧ Keeps s₂ s₃) E' s₂
/-- the generator stands ready -/
def ReadyQ (X : Cx) (pins : List (Addr × Obj)) (σ : L2.St) (H1 : Hp) (P : Addr) (n : Nat) (pb : Nat → Bool) (g : Addr) (s5 : Shared) : Prop :=
  ∃ (fp wr : List Addr) (G : Array GenState → Array GenState → Prop) (F : Nat → Value → Prop) (St : Nat → Shared → Prop),
    WalksS X.prog X.w X.A.in1 g fp wr G n F St ∧ St 0 s5 ∧ TruthOf X.prog X.w X.A.in1 F pb ∧ ∀ s', Moved wr G s5 s' → ∃ H2, Tabbed P H1 H2 ∧ Inv X pins σ H2 s'
theorem gen_run {elt iter : Expr} {x : Str} {px gpos : Pos} {scope : Scope} {te : TE} {k : Nat} {s : Shared} {H : Hp} {Q' : Value → Shared → Prop} {R : VK}
    (hr : Room k X.A) (TB : TabB X.base X.mg c P) (hcode : X.env.code = .ref c) (S : GenS X.env scope x) (hi : PE X iter te) (hs : ∀ v, genFold iter X.env v = pure v) (I : Inv X pins σ H s)
    (h : te σ H R) (hR : ∀ v H1 xv s1, R v H1 → RelV v xv → Inv X pins σ H1 s1 → TabG H1 P ∧ ∃ (o : Obj) (n : Nat) (Pf : Nat → Value → Prop) (fp : List Addr) (St : Nat → Heap → Prop) (pb : Nat → Bool),
      (∀ (Q : Value → Shared → Prop) (E : Value → Shared → Prop), Q (.ref s1.heap.objs.size) { s1 with heap := s1.heap.push o } → wpAny (model X.prog X.w) X.A (pyIter xv) Q E s1) ∧
      Src X.prog X.w s1 P o n Pf fp St ∧ EltQ X P scope x elt s1 Pf pb ∧ ∀ g s5, ReadyQ X pins σ H1 P n pb g s5 → Q' (.ref g) s5) :
    wpAny (model X.prog X.w) X.A (eval (.GeneratorExp elt [⟨.Name x px, iter, [], 0⟩] scope gpos) X.env) Q' X.xe s := by
  refine wpAny_GeneratorExp_walksQ hr.hd S.co (closure_ok S.free) S.cell S.dot S.loc S.kind (by have := hr.dp; omega) ?_ hs
  refine thn (hi.run pins s σ H _ I h) fun xv s1 ⟨v, H1, I1, r1, q1⟩ => ?_
  obtain ⟨⟨ps, hP, ht⟩, o, n, Pf, fp, St, pb, hit, src, hel, hQ⟩ := hR v H1 xv s1 q1 r1 I1
  refine hit _ _ ?_
  -- the heap with the iterator; the table
  have hPs : s1.heap.get? P = some { cls := .none, data := .fields ps } := I1.hok P _ hP
  have old : ∀ b u, s1.heap.get? b = some u → (s1.heap.push o).get? b = some u := fun b u e => Heap.get?_push_of_some _ e
  have sz2 : (s1.heap.push o).objs.size = s1.heap.objs.size + 1 := Heap.size_push ..
  have cd : PySem.W.CodeHd (s1.heap.push o) c P := TB.code.keeps fun b u e => old b u (I1.bk b u e)
  have lim2 : (s1.heap.push o).NoLimit := I1.nolimit.push o
  have hcl : cStatics < s1.heap.objs.size := let ⟨_, hns, _⟩ := I1.nolimit; hns.lt
  have hcP : cStatics ≠ P := fun e => by
    obtain ⟨_, ⟨o', es, ep, ho, hd, _⟩, _⟩ := I1.nolimit
    rw [e, hPs] at ho
    cases ho
    cases hd
  refine ⟨lim2, ?_⟩
  -- behind the code object, whether it was there or not
  obtain ⟨bm, ob, e1, e2, e3, e4, e5, e6, e7, e8⟩ := TB.bm
  have rest := fun (code : Value) (h3 : Heap) (tk : Nat) (more : Array Value) (hx : Heap.ExtBut P (s1.heap.push o) h3) (hsz : s1.heap.objs.size + 1 ≤ h3.objs.size) (hP3 : h3.get? P = some { cls := .none, data := .fields (ps ++ more) }) (ht3 : TriplesOk (ps ++ more).toList) =>
    have keep3 : ∀ b u, b ≠ P → s1.heap.get? b = some u → h3.get? b = some u := fun b u hb e => hx b u hb (old b u e)
    (wpAny_builtinsFor (A := X.A) (M := model X.prog X.w) (E := X.xe) (s := { s1 with heap := h3, toks := tk }) (m := X.mg) (globals := X.env.globals) (running := X.env.builtins) (Q := fun bi s₄ =>
        ∃ Ia fp wr n₀ Pf St₀ pz F, Value.ref s1.heap.objs.size = .ref Ia ∧ (∀ A' : Around, A'.handled = none → Walks X.prog X.w A' Ia fp wr n₀ Pf St₀) ∧ St₀ 0 s₄.heap ∧ (∀ b ∈ fp, b < s₄.heap.objs.size) ∧ s₄.heap.NoLimit ∧ cStatics ∉ wr ∧
          (∀ href : Heap, (∀ b o, s₄.heap.get? b = some o → href.get? b = some o) → QuietGen X.prog X.w (genEnv scope (cloFrom X.env.cells scope.names []) s₄.heap.objs.size code bi X.env) x [] elt (List.range s₄.heap.objs.size) wr Pf pz F href) ∧
          (∀ a h₅ tk gs, gs.bare = true → s₄.heap.objs.size < a → h₅.objs.size = a + 1 → (∀ b o, s₄.heap.get? b = some o → h₅.get? b = some o) →
            WalksS X.prog X.w X.A.in4 a (a :: s₄.heap.objs.size :: List.range s₄.heap.objs.size) (s₄.heap.objs.size :: wr) (GenOnlyQ s₄.gens.size) (passing pz n₀ 0).length
              (fun j y => ∃ i, (passing pz n₀ 0)[j]? = some i ∧ F i y) (GenAt X.prog X.w X.A.in4 a s₄.gens.size s₄.heap.objs.size (List.range s₄.heap.objs.size) wr pz n₀ F) →
            GenAt X.prog X.w X.A.in4 a s₄.gens.size s₄.heap.objs.size (List.range s₄.heap.objs.size) wr pz n₀ F 0 { s₄ with gens := s₄.gens.push gs, toks := tk, heap := h₅ } →
            Q' (.ref a) { s₄ with gens := s₄.gens.push gs, toks := tk, heap := h₅ }))
      (by rw [I1.ok.glob]; exact ((I1.mod.glob.keeps I1.bk).push o).extBut hx TB.gP) e1 e2 (keep3 _ _ e4 (I1.bk _ _ e5)) e6 e7 e8
      ⟨s1.heap.objs.size, fp, [s1.heap.objs.size], n, Pf, St, fun _ => true, fun i y => y = .bool (pb i), rfl, src.W,
        (src.W X.A hr.hd).frame _ _ _ src.st fun b hb u e => hx b u (src.fp b hb).2 e,
        fun b hb => Nat.lt_of_lt_of_le (src.fp b hb).1 hsz, lim2.extBut hx hcP,
        fun z => by rw [List.mem_singleton.mp z] at hcl; exact Nat.lt_irrefl _ hcl,
        fun href hh => ⟨fun A' E' i v s₂ m₂ hA hv hn hm hk => by
            simp only [List.forIn_nil]
            exact wpAny_pure ⟨rfl, keeps_refl _⟩,
          fun A' E' i v s₂ m₂ hA hv hp hn hm hk => hel _ A' E' i v s₂ m₂ rfl rfl rfl hA (fun b u hb e => hk b (List.mem_range.mpr (Nat.lt_of_lt_of_le (Heap.lt_size e) (Nat.le_trans (Nat.le_succ _) hsz))) (fun z => by
            have := Heap.lt_size e
            rw [List.mem_singleton.mp z] at this
            exact Nat.lt_irrefl _ this) u (hh _ _ (keep3 b u hb e))) hv hn hm⟩,
        fun g h5 tk5 gs hgb hag hsz5 hk5 W5 hat => by
          simp only [GxR.passing_true, List.length_range] at W5
          refine hQ g _ ⟨_, _, _, _, _, W5.in4_1, hat, fun j y sj Qj Ej hy hQj => ?_, fun s' hm => ?_⟩
          · obtain ⟨i, hij, rfl⟩ := hy
            obtain ⟨hj, ej⟩ := List.getElem?_eq_some_iff.mp hij
            rw [List.getElem_range] at ej
            subst ej
            exact wpAny_truthy_bool hQj
          · have nwr : ∀ b u, s1.heap.get? b = some u → b ∉ h3.objs.size :: [s1.heap.objs.size] := fun b u e hb => by
              have hl := Heap.lt_size e
              rcases List.mem_cons.mp hb with z | z
              · rw [z] at hl; exact Nat.lt_irrefl _ (Nat.lt_of_lt_of_le hl (Nat.le_trans (Nat.le_succ _) hsz))
              · rw [List.mem_singleton.mp z] at hl; exact Nat.lt_irrefl _ hl
            have J := inv_tab (more := more) (h' := s'.heap) (g' := s'.gens) (d' := s'.drawn) (t' := s'.toks) I1 hP (fun b u hb e => hm.heap b u (nwr b u e) (hk5 b u (keep3 b u hb e)))
              (hm.heap P _ (nwr P _ hPs) (hk5 P _ hP3)) (AllBare.movedS (I1.bare.push hgb) hm)
            rw [sh_eta s1 s' hm.os] at J
            exact ⟨upd H1 P (.tbl (ps ++ more)), ⟨⟨ps ++ more, upd_same, ht3⟩, fun b hb => upd_ne hb⟩, J⟩⟩)
  have hP2 : (s1.heap.push o).get? P = some { cls := .none, data := .fields ps } := old P _ hPs
  cases hf : codeAmong gpos ps.toList with
  | none =>
    refine wpAny_genexprCodeX hcode (cd.code hP2 ht) (cd.tab hP2) hf fun c' h' tk hx hge hlt hco' _ htab' _ => ?_
    obtain ⟨o1, vs, f1, tf, fl, tg, inF, tx, tt, op, _, _, _, _, _, _, _, _, _, htr, _⟩ := hco'
    exact rest _ h' tk _ hx (by rw [← sz2]; exact Nat.le_trans hge (Nat.le_of_lt hlt)) htab'.2 htr
  | some cv =>
    refine wpAny_genexprCode_hit hcode (cd.code hP2 ht) hf ?_
    exact rest cv (s1.heap.push o) s1.toks #[] (Heap.ExtBut.refl _ _) (by rw [sz2]; exact Nat.le_refl _) (by rw [Array.append_empty]; exact hP2) (by rw [Array.append_empty]; exact ht)
/-- a text as what is walked -/
theorem src_str {a : Str} {t : Tok} (hp : P < s1.heap.objs.size) : ∃ (o : Obj) (St : Nat → Heap → Prop), (∀ (Q : Value → Shared → Prop) (E : Value → Shared → Prop), Q (.ref s1.heap.objs.size) { s1 with heap := s1.heap.push o } → wpAny (model X.prog X.w) X.A (pyIter (.str a t)) Q E s1) ∧
    Src X.prog X.w s1 P o a.cps.size (SignAt a) [s1.heap.objs.size] St := by
  have hf : ∀ b ∈ [s1.heap.objs.size], b < s1.heap.objs.size + 1 ∧ b ≠ P := fun b hb => by
    rw [List.mem_singleton.mp hb]
    exact ⟨Nat.lt_succ_self _, fun e => Nat.ne_of_gt hp e⟩
  cases ha : a.cps.all (· < 128) with
  | false => exact ⟨_, _, fun Q E q => wpAny_pyIter_wide ha q, fun A' hA => Walks.strWide hA _ a t, ⟨_, Heap.get?_push_size _ rfl, rfl, rfl⟩, hf⟩
  | true => exact ⟨_, _, fun Q E q => wpAny_pyIter_ascii ha q, fun A' hA => Walks.strAscii hA _ a t, ⟨_, Heap.get?_push_size _ rfl, rfl, rfl⟩, hf⟩
theorem pe_allT {elt iter : Expr} {x : Str} {px p pos gpos : Pos} {scope : Scope} {pc : Nat → Bool} {te : TE} {k : Nat}
    (hr : Room k X.A) (hm : X.mg "all" = none) (TB : TabB X.base X.mg c P) (hcode : X.env.code = .ref c) (S : GenS X.env scope x) (hi : PE X iter te)
    (hel : ∀ (H : Hp) (σ : L2.St) (pins : List (Addr × Obj)) (s1 : Shared) (a : Str), Inv X pins σ H s1 → EltQ X P scope x elt s1 (SignAt a) (trF pc a.cps.toList))
    (hg : Gl X "all" := by rfl) (hb : bootBuiltins "all" = some (.builtin "all") := by decide +kernel) (hs : ∀ v, genFold iter X.env v = pure v := by intro _; rfl)
    (he : starEach [.GeneratorExp elt [⟨.Name x px, iter, [], 0⟩] scope gpos] X.env = (false, eval (.GeneratorExp elt [⟨.Name x px, iter, [], 0⟩] scope gpos) X.env) :: starEach [] X.env := by rfl) :
    PE X (.Call (.Name "all" p) [.GeneratorExp elt [⟨.Name x px, iter, [], 0⟩] scope gpos] [] pos) (tAllS P pc te) := by
  refine ⟨fun pins s σ H Q I h => ?_⟩
  refine wpAny_Call_Name_kw (ld_blt I hg hm hb ?_)
  refine PyProof.Rows.callWith_builtin1 ?_ he (by rfl)
  rw [he]
  show wpAny _ _ (spliced ((false, eval (.GeneratorExp elt [⟨.Name x px, iter, [], 0⟩] scope gpos) X.env) :: backTo pos (starEach [] X.env))) _ _ s
  refine Calls.spliced_cons (gen_run hr TB hcode S hi hs I h fun v H1 xv s1 q1 r1 I1 => ?_)
  obtain ⟨a, rfl, hT, q1⟩ := q1
  obtain ⟨t, rfl⟩ := r1
  refine ⟨hT, ?_⟩
  have hPl : P < s1.heap.objs.size := by
    obtain ⟨ps, hP, _⟩ := hT
    exact Heap.lt_size (I1.hok P _ hP)
  obtain ⟨o, St, hit, src⟩ := src_str (X := X) (P := P) (s1 := s1) (a := a) (t := t) hPl
  refine ⟨o, _, _, _, St, trF pc a.cps.toList, hit, src, hel _ _ _ _ a I1, fun g s5 ⟨fp, wr, G, F, St5, W, hst, htr, hI⟩ => ?_⟩
  refine Calls.spliced_nil ?_
  refine call_all_walkS (W.self 0 _ _ _ hst ⟨g, fp, wr, G, _, F, St5, _, rfl, W, hst, htr, fun s' hmv => ?_⟩)
  obtain ⟨H2, hT2, J⟩ := hI s' hmv
  refine ⟨.bl _, H2, J, rfl, ?_⟩
  rw [all_signs a pc]
  exact q1 H2 hT2
/-- x in G1 or x in G2, two texts of the module -/
theorem elt_in2 {scope : Scope} {x g1 g2 z1 z2 : Str} {t1 t2 : Tok} {p1 p2 p3 p4 p5 p6 p7 : Pos} (TB : TabB X.base X.mg c P) (hk : scope.kind = .function) (hl : scope.names.lookup x = some .local) (hm1 : X.mg g1 = some (.str z1 t1)) (hm2 : X.mg g2 = some (.str z2 t2))
    (hn1 : scope.names.lookup g1 = some .globalImplicit) (hn2 : scope.names.lookup g2 = some .globalImplicit) (hd : (x == ("__debug__" : Str)) = false := by decide) (hd1 : (g1 == ("__debug__" : Str)) = false := by decide) (hd2 : (g2 == ("__debug__" : Str)) = false := by decide) :
    ∀ (H : Hp) (σ : L2.St) (pins : List (Addr × Obj)) (s1 : Shared) (a : Str), Inv X pins σ H s1 →
      EltQ X P scope x (.BoolOp .Or [.Compare (.Name x p1) [.In] [.Name g1 p2] p3, .Compare (.Name x p4) [.In] [.Name g2 p5] p6] p7) s1 (SignAt a) (trF (fun c => inS ⟨#[c]⟩ z1 || inS ⟨#[c]⟩ z2) a.cps.toList) := by
  intro H σ pins s1 a I cenv A' E' i v s₂ m₂ hs hg hc hA hkp hv hn hm
  obtain ⟨cc, u, hcc, rfl⟩ := hv
  have et : trF (fun c => inS ⟨#[c]⟩ z1 || inS ⟨#[c]⟩ z2) a.cps.toList i = (inS ⟨#[cc]⟩ z1 || inS ⟨#[cc]⟩ z2) := trF_some (by rw [Array.getElem?_toList]; exact hcc)
  rw [et]
  have ns : s₂.heap.Ns cenv.globals X.mg := by
    rw [hg, I.ok.glob]
    obtain ⟨o, es, ep, h1, h2, h3⟩ := I.mod.glob.keeps I.bk
    exact ⟨o, es, ep, hkp _ _ TB.gP h1, h2, h3⟩
  have ld : ∀ {p : Pos} {Q : Value → Shared → Prop}, Q (.str ⟨#[cc]⟩ u) s₂ → wpAny (model X.prog X.w) A' (eval (.Name x p) cenv) Q E' s₂ := fun q => wpAny_Name (wpAny_loadName_local (by rw [hs]; exact hk) (show cenv.scope.names.lookup x = some .local by rw [hs]; exact hl) hn hm q) hd
  refine BoolOp_or (wpAny_Compare1 (ld (Calls.Name_function_global (by rw [hs]; exact hk) (show cenv.scope.names.lookup g1 = some .globalImplicit by rw [hs]; exact hn1) (Calls.loadGlobal_global ns hm1 (PySem.P.in_str (wpAny_truthy_bool ?_))) hd1)))
  cases e1 : inS ⟨#[cc]⟩ z1 with
  | true =>
    have e1' : (!(Builtin.Str.occurrences z1 ⟨#[cc]⟩ 0 z1.length 1).isEmpty) = true := e1
    rw [e1']
    exact ⟨rfl, keeps_refl _⟩
  | false =>
    have e1' : (!(Builtin.Str.occurrences z1 ⟨#[cc]⟩ 0 z1.length 1).isEmpty) = false := e1
    rw [e1']
    exact BoolOp_one (wpAny_Compare1 (ld (Calls.Name_function_global (by rw [hs]; exact hk) (show cenv.scope.names.lookup g2 = some .globalImplicit by rw [hs]; exact hn2) (Calls.loadGlobal_global ns hm2 (PySem.P.in_str ⟨rfl, keeps_refl _⟩)) hd2)))
def eAllS (pc : Nat → Bool) (me : M D) : M D := me.bind fun d => match d with
  | .str z => M.pure (.bl (z.cps.toList.all pc))
  | _ => fun _ => .stuck
theorem Stp.tabbed {O : Addr → Prop} {B H H2 : Hp} (h : Tabbed P H H2) (h0 : TabG H P) : Stp O B H B H2 where
  grow := Same.refl _
  new := fun _ _ q => .inl q
  frame := fun a o q _ => by
    by_cases e : a = P
    · subst e
      obtain ⟨ps, q2, _⟩ := h0
      rw [q] at q2
      cases q2
      exact .inr (.inr ⟨True.intro, h.1⟩)
    · exact .inl (by rw [h.2 a e]; exact q)
  there := fun a o q => by
    by_cases e : a = P
    · subst e
      obtain ⟨ps, q2, _⟩ := h.1
      exact ⟨_, q2⟩
    · exact ⟨o, by rw [h.2 a e]; exact q⟩
  lk := fun a ob o q => by
    by_cases e : a = P
    · subst e
      obtain ⟨ps, q2, _⟩ := h0
      rw [q] at q2
      cases q2
    · rw [h.2 a e]; exact q
theorem Sm.tabbed {K : PySem.W.Frag} {mg : Str → Option Value} {σ0 σ : L2.St} {B H H2 : Hp} {env : En} (m : Sm K mg σ0 B H σ env) (hP : P ∈ Tabs.ps) (h : Tabbed P H H2) : Sm K mg σ0 B H2 σ env where
  tb := fun P' hP' => by
    by_cases e : P' = P
    · subst e; exact ⟨h.1, (m.tb _ hP').2⟩
    · exact ⟨TabG.same (m.tb P' hP').1 fun o q => by rw [h.2 P' e]; exact q, (m.tb P' hP').2⟩
  sub := fun a o q => by
    have e : a ≠ P := fun e => by rw [e, (m.tb P hP).2] at q; cases q
    rw [h.2 a e]
    exact m.sub a o q
  len := m.len
  sl := fun i s e => by
    obtain ⟨v, e1, r⟩ := m.sl i s e
    refine ⟨v, e1, ?_⟩
    cases s with
    | shr z => exact r
    | own p z =>
      obtain ⟨x, rfl, ct, hx, hp⟩ := r
      refine ⟨x, rfl, ct.mono (Same.refl _) (h.2 x fun e => ?_), hx, hp⟩
      obtain ⟨o, ho, nt⟩ := ct.ntab
      exact TabG.ne (m.tb P hP).1 ho nt e.symm
  sep := m.sep
theorem rx_allT {K : PySem.W.Frag} {mg : Str → Option Value} {W : WX} {pc : Nat → Bool} {te : TE} {me : M D} (hP : P ∈ Tabs.ps) (h : RX K mg W (RD K mg) te me) : RX K mg W (RD K mg) (tAllS P pc te) (eAllS pc me) :=
  RX.bind (R := RD K mg) (R2 := RD K mg) (t2 := fun v _ H1 (Q : VK) => ∃ a : Str, v = .str a ∧ TabG H1 P ∧ ∀ H2, Tabbed P H1 H2 → Q (.bl (a.cps.toList.all pc)) H2) (k := fun d => match d with | .str z => M.pure (D.bl (z.cps.toList.all pc)) | _ => fun _ => .stuck) h fun v d σ0 B H σ env sm r Q post => by
    cases r with
    | str z =>
      refine ⟨z, rfl, (sm.tb P hP).1, fun H2 hT => ?_⟩
      have post : Post K mg W (RD K mg) σ0 σ env B H (.ok (.bl (z.cps.toList.all pc)) env) Q := post
      exact post _ B H2 (Stp.tabbed hT (sm.tb P hP).1) (sm.tabbed hP hT) (OSub.refl _) (.bl _)
    | _ => exact (post : False).elim
/-- all(x in G1 or x in G2 for x in e), e a text -/
theorem se_all2 {W : WX} {iter : Expr} {te : TE} {me : M D} {k : Nat} {scope : Scope} {x g1 g2 z1 z2 : Str} {t1 t2 : Tok} {p1 p2 p3 p4 p5 p6 p7 px p pos gpos : Pos} (hr : Room k X.A) (hm : X.mg "all" = none) (TB : TabB X.base X.mg c P) (hP : P ∈ Tabs.ps) (hcode : X.env.code = .ref c) (S : GenS X.env scope x)
    (hm1 : X.mg g1 = some (.str z1 t1)) (hm2 : X.mg g2 = some (.str z2 t2)) (hi : SE X W iter te me) (hn1 : scope.names.lookup g1 = some .globalImplicit := by rfl) (hn2 : scope.names.lookup g2 = some .globalImplicit := by rfl)
    (hd : (x == ("__debug__" : Str)) = false := by decide) (hd1 : (g1 == ("__debug__" : Str)) = false := by decide) (hd2 : (g2 == ("__debug__" : Str)) = false := by decide)
    (hg : Gl X "all" := by rfl) (hb : bootBuiltins "all" = some (.builtin "all") := by decide +kernel) (hs : ∀ v, genFold iter X.env v = pure v := by intro _; rfl)
    (he : starEach [.GeneratorExp (.BoolOp .Or [.Compare (.Name x p1) [.In] [.Name g1 p2] p3, .Compare (.Name x p4) [.In] [.Name g2 p5] p6] p7) [⟨.Name x px, iter, [], 0⟩] scope gpos] X.env = (false, eval (.GeneratorExp (.BoolOp .Or [.Compare (.Name x p1) [.In] [.Name g1 p2] p3, .Compare (.Name x p4) [.In] [.Name g2 p5] p6] p7) [⟨.Name x px, iter, [], 0⟩] scope gpos) X.env) :: starEach [] X.env := by rfl) :
    SE X W (.Call (.Name "all" p) [.GeneratorExp (.BoolOp .Or [.Compare (.Name x p1) [.In] [.Name g1 p2] p3, .Compare (.Name x p4) [.In] [.Name g2 p5] p6] p7) [⟨.Name x px, iter, [], 0⟩] scope gpos] [] pos) (tAllS P (fun c => inS ⟨#[c]⟩ z1 || inS ⟨#[c]⟩ z2) te) (eAllS (fun c => inS ⟨#[c]⟩ z1 || inS ⟨#[c]⟩ z2) me) :=
  ⟨pe_allT hr hm TB hcode S hi.pe (elt_in2 TB S.kind S.loc hm1 hm2 hn1 hn2 hd hd1 hd2) hg hb hs he, rx_allT hP hi.rx⟩
end
end Mi

/-! The mirror layer 30: a == b by the class's own __eq__. -/
namespace Mi
open PySem L2
variable [Tabs]
section
variable {K : PySem.W.Frag} {mg : Str → Option Value} {W : WX}
theorem call_in {np : Nat} {mf : List Slot → Fin} {E : L2.St → XK} (hE : ∀ σ cls d H, W cls d σ H → E σ cls d H) {vs : List V} {as : List Ar} {σ0 σ : L2.St} {B H : Hp} {env : En} {Q : VK} (sm : Sm K mg σ0 B H σ env) (r : Ars K mg σ B vs as)
    (post : Post K mg W (RD K mg) σ0 σ env B H (eCall np mf (M.pure as) env) Q) : SpM K mg np mf vs H Q (E σ) := by
  simp only [eCall, M.bind, M.pure, Res.bind_ok] at post
  by_cases hc : as.length = np ∧ (ioIx as).Nodup
  · rw [if_pos hc] at post
    cases es : slotsOf env as with
    | none => simp only [es] at post; exact post.elim
    | some args =>
      simp only [es] at post
      obtain ⟨sm', hpin, hown, hafter⟩ := call_core sm r es hc.2
      refine ⟨(Ars.length r).trans hc.1, B, args, sm', hpin, ?_⟩
      cases em : mf args with
      | stuck => simp only [em] at post; exact post.elim
      | ret b d os =>
        cases b with
        | true => simp only [em] at post; exact post.elim
        | false =>
          simp only [em] at post
          cases ep : putOuts as os env with
          | none => simp only [ep] at post; exact post.elim
          | some env' =>
            simp only [ep] at post
            intro v B' H' stp sub outs rep
            obtain ⟨sm2, os2⟩ := hafter os env' ep B' H' stp sub outs
            exact post v B' H' (stp.mono hown) sm2 os2 rep
      | exn x os =>
        simp only [em] at post
        cases ep : putOuts as os env with
        | none => simp only [ep] at post; exact post.elim
        | some env' =>
          simp only [ep] at post
          intro cls d B' H' stp sub outs ex
          obtain ⟨sm2, os2⟩ := hafter os env' ep B' H' stp sub outs
          exact hE _ _ _ _ (post cls d B' H' (stp.mono hown) sm2 os2 ex)
  · rw [if_neg hc] at post; exact post.elim
def rIEq (K : PySem.W.Frag) (C : Addr) (sp : Sp) : R2 := fun x y H Q => ∃ a dx fs b, x = .ref a ∧ y = .ref b ∧ H a = some (.ins C dx fs) ∧ ((∃ dy gs, H b = some (.ins C dy gs)) ∨ ∃ xs, SqT K H b xs) ∧ sp [x, y] H (fun v H' => ∃ k, v = .bl k ∧ Q v H') E0
theorem op_ieq {X : Cx} {CX : CXT} {k : Nat} {C f : Addr} {fd : FuncData} {ps : List Str} {sp : Sp} (F : FnOk X.prog X.w X.K X.mg X.base CX k f fd ps sp) (hr : Room k X.A) (hb : Binds X.K fd ps []) (hx : Passes CX X E0)
    (hs : PySem.W.findIn X.K (.ref C) "__eq__" = some (some (.ref f))) (hf : PySem.W.isFn X.K (.ref f) = true) (ht : PySem.W.notFirst X.K C (.type "tuple") = true) : OpR X (compareOp .Eq) (rIEq X.K C sp) := by
  intro pins s σ H x y v u Q I rx ry h
  obtain ⟨a, dx, fs, b, rfl, rfl, ha, hy, hsp⟩ := h
  obtain rfl : v = Value.ref a := rx
  obtain rfl : u = Value.ref b := ry
  obtain ⟨mA, J, _⟩ := ins_get I.hok ha
  obtain ⟨od, J, _⟩ := J.look
  obtain ⟨m, hF⟩ := I.fr
  have run := run_fn (us := [Value.ref a, Value.ref b]) (vs := [V.ref a, V.ref b]) F hr hb .nil hx I (.cons rfl (.cons rfl .nil)) hsp
  have back : wpAny (model X.prog X.w) X.A (call (.ref f) [.ref a, .ref b]) (PySem.W.CmpBack (EP X pins σ Q)) X.xe s := wpAny_mono run (fun w s' ⟨z, H', I', rz, k, ez, q⟩ => by
    subst ez
    cases rz
    exact ⟨.bl k, H', I', rfl, q⟩) fun _ _ e => e
  rcases hy with ⟨dy, gs, hb'⟩ | ⟨xs, hb'⟩
  · obtain ⟨mB, J', _⟩ := ins_get I.hok hb'
    obtain ⟨od', J', _⟩ := J'.look
    exact PySem.W.cmp_K (op := .Eq) (tb := .ref C) hr.units0 hF I.ok.mod.kin J J'.type (by simp [PySem.W.notFirst]) hs hf back
  · obtain ⟨its, rv, ⟨o, h1, h2, _⟩, _⟩ := I.tuple hb'
    refine PySem.W.cmp_K (op := .Eq) (tb := .type "tuple") hr.units0 hF I.ok.mod.kin J (fun A' Q' E' s' kp q => ?_) ht hs hf back
    exact wpAny_typeOf (T := "tuple") (v := .ref b) ⟨o, kp _ _ h1, h2⟩ q
def isIns (c : Str) : D → Bool
  | .ins c' _ => decide (c' = c)
  | _ => false
def isTupD : D → Bool
  | .tup _ => true
  | .ftp _ => true
  | _ => false
def eIEq (c : Str) (mf : List Slot → Fin) (ma mb : M D) : M D := ma.bind fun a => mb.bind fun b => fun env => if isIns c a && (isIns c b || isTupD b) then (match mf [.shr a, .shr b] with
  | .ret false (.bl k) [] => .ok (.bl k) env
  | _ => .stuck) else .stuck
theorem rep_ins {B H : Hp} {v : V} {d : D} {c : Str} {C : Addr} (s : Sub B H) (r : Rep K mg B v d) (h : isIns c d = true) (hc : mg c = some (.ref C)) : ∃ a dx fs, v = .ref a ∧ H a = some (.ins C dx fs) := by
  cases r with
  | ins p m k rs =>
    have := of_decide_eq_true h
    subst this
    rw [hc] at m
    cases m
    rcases s _ _ p with q | ⟨q, _⟩
    · exact ⟨_, _, _, rfl, q⟩
    · exact q.elim
  | _ => cases h
theorem rep_tup {B H : Hp} {v : V} {d : D} (s : Sub B H) (r : Rep K mg B v d) (h : isTupD d = true) : ∃ a xs, v = .ref a ∧ SqT K H a xs := by
  cases r with
  | tup p rs => exact ⟨_, _, rfl, s.sqT (.of p)⟩
  | ftp p rs => exact ⟨_, _, rfl, s.sqT p⟩
  | _ => cases h
theorem rx_ieq {ta tb : TE} {ma mb : M D} {c : Str} {C : Addr} {mf : List Slot → Fin} (hc : mg c = some (.ref C)) (ha : RX K mg W (RD K mg) ta ma) (hb : RX K mg W (RD K mg) tb mb) :
    RX K mg W (RD K mg) (tOp (rIEq K C (SpM K mg 2 mf)) ta tb) (eIEq c mf ma mb) := by
  refine ha.bind2 (t3 := fun x y σ H Q => rIEq K C (SpM K mg 2 mf) x y H Q) hb rd_monoR fun v w a b σ0 B H σ env sm r1 r2 Q post => ?_
  by_cases hk : (isIns c a && (isIns c b || isTupD b)) = true
  · rw [if_pos hk] at post
    rw [Bool.and_eq_true, Bool.or_eq_true] at hk
    obtain ⟨x, dx, fs, rfl, hx⟩ := rep_ins sm.sub r1 hk.1 hc
    have hy : ∃ y, w = .ref y ∧ ((∃ dy gs, H y = some (.ins C dy gs)) ∨ ∃ xs, SqT K H y xs) := by
      rcases hk.2 with h | h
      · obtain ⟨y, dy, gs, e, q⟩ := rep_ins sm.sub r2 h hc
        exact ⟨y, e, .inl ⟨dy, gs, q⟩⟩
      · obtain ⟨y, xs, e, q⟩ := rep_tup sm.sub r2 h
        exact ⟨y, e, .inr ⟨xs, q⟩⟩
    obtain ⟨y, rfl, hy⟩ := hy
    refine ⟨x, dx, fs, y, rfl, rfl, hx, hy, ?_⟩
    cases em : mf [.shr a, .shr b] with
    | ret o d os =>
      simp only [em] at post
      match o, d, os, em, post with
      | false, .bl k, [], em, post =>
        have post : Post K mg W (RD K mg) σ0 σ env B H (.ok (.bl k) env) Q := post
        refine call_in (W := W0) (E := fun _ => E0) (fun _ _ _ _ z => z) sm (.sh r1 (.sh r2 .nil)) ?_
        have ee : eCall 2 mf (M.pure [.sh a, .sh b]) env = .ok (.bl k) env := by
          simp only [eCall, M.bind, M.pure, Res.bind_ok]
          rw [if_pos ⟨rfl, by simp [ioIx]⟩]
          simp only [slotsOf, Option.map_some, em, putOuts]
        rw [ee]
        exact fun v B' H' s' m' o' r' => by
          cases r'
          exact ⟨k, rfl, post _ B' H' s' m' o' (.bl k)⟩
    | _ => simp only [em] at post; exact (post : False).elim
  · rw [if_neg hk] at post; exact (post : False).elim
end
section
variable {X : Cx} {W : WX} {a b : Expr} {ta tb : TE} {ma mb : M D} {pos : Pos} {k : Nat} {C f : Addr} {c : Str} {fd : FuncData} {ps : List Str} {mf : List Slot → Fin}
theorem passE0 {X : Cx} : Passes (L2.CX X.prog X.w) X E0 := fun _ _ _ _ _ _ _ h => by
  obtain ⟨_, _, _, _, _, _, _, _, _, _, _, _, z⟩ := h
  exact z.elim
/-- the class's own == -/
structure OwnEq (K : PySem.W.Frag) (C f : Addr) : Prop where
  s : PySem.W.findIn K (.ref C) "__eq__" = some (some (.ref f))
  f : PySem.W.isFn K (.ref f) = true
  t : PySem.W.notFirst K C (.type "tuple") = true
theorem se_ieq (hc : X.mg c = some (.ref C)) (F : FnOk X.prog X.w X.K X.mg X.base (L2.CX X.prog X.w) k f fd ps (SpM X.K X.mg 2 mf)) (hr : Room k X.A) (hb : Binds X.K fd ps []) (oe : OwnEq X.K C f) (h1 : SE X W a ta ma) (h2 : SE X W b tb mb)
    (hm : behindInMarks .Eq b = false := by first | exact nomark _ | with_unfolding_all rfl) : SE X W (.Compare a [.Eq] [b] pos) (tOp (rIEq X.K C (SpM X.K X.mg 2 mf)) ta tb) (eIEq c mf ma mb) :=
  ⟨pe_cmpR (op_ieq F hr hb passE0 oe.s oe.f oe.t) h1.pe h2.pe hm, rx_ieq hc h1.rx h2.rx⟩
theorem st_ieq (hc : X.mg c = some (.ref C)) (F : FnOk X.prog X.w X.K X.mg X.base (L2.CX X.prog X.w) k f fd ps (SpM X.K X.mg 2 mf)) (hr : Room k X.A) (hb : Binds X.K fd ps []) (oe : OwnEq X.K C f) (h1 : SE X W a ta ma) (h2 : SE X W b tb mb)
    (hm : behindInMarks .Eq b = false := by first | exact nomark _ | with_unfolding_all rfl) : ST X W (.Compare a [.Eq] [b] pos) (tTest (tOp (rIEq X.K C (SpM X.K X.mg 2 mf)) ta tb)) (eTest (eIEq c mf ma mb)) :=
  ⟨pt_cmpR (op_ieq F hr hb passE0 oe.s oe.f oe.t) h1.pe h2.pe hm, rx_tTest (rx_ieq hc h1.rx h2.rx)⟩
end
end Mi

/-! The mirror layer 31: isinstance(x, C), an own class; the end with tables. -/
namespace Mi
open PySem L2
section
variable [Tabs]
def isCl (c : Str) : D → Option D
  | .ins c' _ => if c' = c then some (.bl true) else none
  | .tup _ => some (.bl false)
  | .ftp _ => some (.bl false)
  | _ => none
def eIsC (c : Str) (m : M D) : M D := m.bind fun d => ofO (isCl c d)
/-- what isinstance asks of an own class -/
structure IsC (K : PySem.W.Frag) (C : Addr) : Prop where
  cl : Cls K C
  ha : PySem.W.findIn K (.ref C) "__class__" = some (some (.builtin "object.__class__"))
  hn : PySem.W.specialIn K (.builtin "object.__class__") "__get__" = some (some (.builtin "getset_descriptor.__get__"))
  ht : PySem.W.takesIn K (.builtin "object.__class__") = some true
  hm : PySem.W.mroIn K C (.type "object") = some true
  k1 : PySem.W.kitOne K (.ref C) (.ref C) = some true
  k2 : PySem.W.kitOne K (.type "tuple") (.ref C) = some false
variable {X : Cx} {W : WX} {e : Expr} {te : TE} {me : M D} {pos pos' p : Pos} {x : Str} {C : Addr}
theorem se_isC (ic : IsC X.K C) (h : SE X W e te me) (hm : X.mg "isinstance" = none) (hmC : X.mg x = some (.ref C)) (hg : Gl X "isinstance" := by rfl) (hgC : Gl X x := by rfl) (hd : (x == ("__debug__" : Str)) = false := by decide)
    (hb : bootBuiltins "isinstance" = some (.builtin "isinstance") := by decide +kernel)
    (hs : starEach [e, .Name x p] X.env = (false, eval e X.env) :: starEach [.Name x p] X.env := by rfl) (hs2 : starEach [.Name x p] X.env = (false, eval (.Name x p) X.env) :: starEach [] X.env := by rfl) (hpl : (backTo pos (starEach [.Name x p] X.env)).any (·.1) = false := by rfl) :
    SE X W (.Call (.Name "isinstance" pos') [e, .Name x p] [] pos) (tCB (rIsi X.K) (tCons te (tCons (tC (.ref C)) tNil))) (eIsC x me) := by
  refine ⟨pe_callB call_isi hg hm hb (pa_cons h.pe (pa_cons (pe_glob hgC hmC rfl hd) pa_nil hs2) hs) (by decide) (by decide) hs hpl, ?_⟩
  refine RX.bind (R := RD X.K X.mg) (R2 := RD X.K X.mg) (t2 := fun x _ H (Q : VK) => rIsi X.K [x, .ref C] H Q) (k := fun d => ofO (isCl x d)) h.rx fun v d σ0 B H σ env sm r Q post => ?_
  cases r with
  | @ins a C' dx c' fs ds q m k rs =>
    by_cases hc : c' = x
    · have post : Post X.K X.mg W (RD X.K X.mg) σ0 σ env B H (ofO (if c' = x then some (D.bl true) else none) env) Q := post
      rw [if_pos hc] at post
      have post2 : Post X.K X.mg W (RD X.K X.mg) σ0 σ env B H (.ok (.bl true) env) Q := post
      clear post
      subst hc
      rw [hmC] at m
      cases m
      have hH : H a = some (.ins C dx fs) := (sm.sub _ _ q).elim id fun z => z.1.elim
      exact ⟨.ref a, .ref C, .ref C, .ref C, true, rfl, .own C, .base (.ins hH ic.cl ic.ha ic.hn ic.ht ic.hm), ic.k1, Post.val (R := RD X.K X.mg) post2 sm (Rep.bl _)⟩
    · have post : Post X.K X.mg W (RD X.K X.mg) σ0 σ env B H (ofO (if c' = x then some (D.bl true) else none) env) Q := post
      rw [if_neg hc] at post
      exact post.elim
  | tup q r =>
    have post : Post X.K X.mg W (RD X.K X.mg) σ0 σ env B H (.ok (.bl false) env) Q := post
    exact ⟨_, .ref C, .type "tuple", .ref C, false, rfl, .own C, Rep.tyX (t := "tuple") sm.sub (.tup q r) rfl, ic.k2, post.val sm (Rep.bl _)⟩
  | ftp q r =>
    have post : Post X.K X.mg W (RD X.K X.mg) σ0 σ env B H (.ok (.bl false) env) Q := post
    exact ⟨_, .ref C, .type "tuple", .ref C, false, rfl, .own C, Rep.tyX (t := "tuple") sm.sub (.ftp q r) rfl, ic.k2, post.val sm (Rep.bl _)⟩
  | _ => exact (post : False).elim
end
/-- the end of a row, some defs with tables of code -/
theorem walk_tabs {l : PySem.W.OpenLaw} {n k : Nat} {q : Program} {loose : List Str} {XP : (Str → Option Value) → Heap → Prop} {YP : World → Heap → Prop} {d : DefRec} {K : Params → PySem.W.Frag} {x : Str}
    (hn : l.most = some n) (hn2 : n ≤ sizeLine) (hdf : d.params.defaults = []) (hr : Room k callerA) (hY : ∀ (w : World) (h : Heap), YP w h → (K w.params).In h)
    (F : ∀ (w : World) (mg : Str → Option Value) (fa : Addr) (h : Heap), (K w.params).In h → h.Ns mainGlobals mg → mg d.name = some (.ref fa) →
      ∃ (fd : FuncData) (cs : List (Addr × Addr)), (∀ p ∈ cs, (K w.params).lookup p.2 = none ∧ ∃ y d', (PyProof.Rows.recsOf q).find? (fun e => e.name == y) = some d' ∧ PySem.W.tabIn (K w.params) y = some p) ∧ (∀ (s : Shared) (u : Value), BindsTo s fd ⟨[u], []⟩ [(x, u)]) ∧
        ∀ base : Heap, (K w.params).In base → base.Ns mainGlobals mg → (∀ p ∈ cs, GxR.TabB base mg p.1 p.2) → FnOk l.prog w (K w.params) mg base (L2.CX l.prog w) k fa fd [x] (@spLaw ⟨cs.map Prod.snd⟩ n (K w.params))) :
    PySem.W.WalkO q loose XP YP l.row.toRowW d [] (fun f vs => PySem.call f vs) := by
  refine Att.attach_callB hn hdf fun w s₀ s₁ mg mb fa o pm cd doc a vs ns G Y ho hd hcd hmg hobj hints hlen hbits hg => ?_
  have KX := hY w _ Y
  obtain ⟨fd, cs, hcs, hb, hF⟩ := F w mg fa _ KX G.T.g hmg
  refine LamX.law_callTs KX G.T.g G.T.b G.T.builtins G.T.nolimit hg (sp := @spLaw ⟨cs.map Prod.snd⟩ n (K w.params)) (CX := L2.CX l.prog w) (fun p hp => ?_) (fun p hp => (hcs p hp).1) (fun p hp => ?_) G.T.bmain hobj hints (Nat.le_trans hlen hn2) hr (fun base h1 h2 h3 => hF base h1 h2 fun p hp => ⟨(h3 p hp).code, (h3 p hp).bm, (h3 p hp).gP⟩) hb (fun H hH hS => ⟨a, ns, rfl, hlen, hS, fun P hP => ?_, fun _ => rfl⟩) fun H e s' => ?_
  · obtain ⟨_, y, d', h1, h2⟩ := hcs p hp
    exact (PySem.W.tab_of (c := p.1) (P := p.2) G.T KX h1 h2).2
  · obtain ⟨_, y, d', h1, h2⟩ := hcs p hp
    exact (PySem.W.tab_of (c := p.1) (P := p.2) G.T KX h1 h2).1
  · obtain ⟨p, hp, e⟩ := List.mem_map.mp hP
    subst e
    exact ⟨#[], hH p hp, True.intro⟩
  · intro h
    obtain ⟨_, _, _, _, _, _, _, _, _, _, _, _, z⟩ := h
    exact z.elim
theorem tab_in {K : PySem.W.Frag} {x : Str} {f c P : Addr} {oc ocl : Value} {od ocd : Option Addr} {fd : FuncData} {sl sl2 : Array (Option Value)} {vs : Array Value}
    (h1 : PySem.W.nsIn K mainGlobals x = some (some (.ref f))) (h2 : K.lookup f = some ⟨oc, od, .func fd, sl⟩) (h3 : fd.code = .ref c) (h4 : K.lookup c = some ⟨ocl, ocd, .fields vs, sl2⟩) (h5 : vs[11]? = some (.ref P)) : PySem.W.tabIn K x = some (c, P) := by
  unfold PySem.W.tabIn
  simp only [h1, h2, h3, h4, h5]
/-- the tables of a row -/
theorem tabs_one {K : PySem.W.Frag} {q : Program} {x : Str} {c P : Addr} {cs : List (Addr × Addr)} (hN : K.lookup P = none) (hR : ((PyProof.Rows.recsOf q).find? (fun e => e.name == x)).isSome = true) (hT : PySem.W.tabIn K x = some (c, P))
    (hcs : ∀ p ∈ cs, K.lookup p.2 = none ∧ ∃ y d', (PyProof.Rows.recsOf q).find? (fun e => e.name == y) = some d' ∧ PySem.W.tabIn K y = some p) :
    ∀ p ∈ (c, P) :: cs, K.lookup p.2 = none ∧ ∃ y d', (PyProof.Rows.recsOf q).find? (fun e => e.name == y) = some d' ∧ PySem.W.tabIn K y = some p := fun p hp => by
  rcases List.mem_cons.mp hp with e | hp
  · subst e
    obtain ⟨d', hd⟩ := Option.isSome_iff_exists.mp hR
    exact ⟨hN, x, d', hd, hT⟩
  · exact hcs p hp
theorem gens_by {env : PySem.Env} {scope : Scope} {x : Str} (h1 : scope.kind = .function) (h2 : scope.isCoroutine = false) (h3 : scope.names.all (fun y => match y.2 with | .cell => false | .free => false | _ => true) = true)
    (h4 : scope.names.lookup (".0" : Str) = some NameKind.local) (h5 : scope.names.lookup x = some .local) : GxR.GenS env scope x where
  kind := h1
  co := h2
  cell := fun y hy e => by
    have := List.all_eq_true.mp h3 y hy
    rw [e] at this
    cases this
  dot := h4
  loc := h5
  free := fun y hy e => by
    have := List.all_eq_true.mp h3 y hy
    rw [e] at this
    cases this
instance (priority := low) noTabs : Tabs := ⟨[]⟩
end Mi

/-! The mirror layer 32: o.m(..), o an instance of an own class: shared, or held by a local name alone. -/
namespace Mi
open PySem L2
section
variable [Tabs]
/-- an instance of c that has no attribute m of its own -/
def isM (c m : Str) : D → Bool
  | .ins c' fs => decide (c' = c) && (fs.lookup m).isNone
  | _ => false
def tConsM (C : Addr) (m : Str) (ta : TE) (t : TA) : TA := fun σ H Q => ta σ H fun x H1 => (∃ a dx fs, x = V.ref a ∧ H1 a = some (.ins C dx fs) ∧ fs.lookup m = none) ∧ t σ H1 fun vs H2 => Q (x :: vs) H2
def rShM (c m : Str) (me : M D) (r : M (List Ar)) : M (List Ar) := me.bind fun a env => if isM c m a = true then (r.bind fun as => M.pure (.sh a :: as)) env else .stuck
def rIoM (c m : Str) (i : Nat) (r : M (List Ar)) : M (List Ar) := fun env => match getOwn env i with
  | some d => if isM c m d = true then (r.bind fun as => M.pure (.io i :: as)) env else .stuck
  | none => .stuck
variable {K : PySem.W.Frag} {mg : Str → Option Value} {W : WX} {c m : Str} {C : Addr} {te : TE} {me : M D} {tr : TA} {mr : M (List Ar)}
theorem look_none : ∀ {fs : List (Str × V)} {ds : List (Str × D)}, fs.map Prod.fst = ds.map Prod.fst → (ds.lookup m).isNone = true → fs.lookup m = none
  | [], [], _, _ => rfl
  | (g, v) :: fs, (g', d) :: ds, e, h => by
    have e1 : g = g' := (List.cons.inj e).1
    have e2 : fs.map Prod.fst = ds.map Prod.fst := (List.cons.inj e).2
    subst e1
    rw [List.lookup_cons] at h ⊢
    cases q : m == g with
    | true => rw [q] at h; cases h
    | false => rw [q] at h; exact look_none e2 h
  | [], _ :: _, e, _ => by cases e
  | _ :: _, [], e, _ => by cases e
theorem isM_ins {d : D} (h : isM c m d = true) : ∃ fs, d = .ins c fs ∧ (fs.lookup m).isNone = true := by
  unfold isM at h
  split at h
  · rw [Bool.and_eq_true] at h
    obtain ⟨h1, h2⟩ := h
    have := of_decide_eq_true h1
    subst this
    exact ⟨_, rfl, h2⟩
  · cases h
theorem rr_shM (hc : mg c = some (.ref C)) (h : RX K mg W (RD K mg) te me) (r : RX K mg W (RAr K mg) tr mr) : RX K mg W (RAr K mg) (tConsM C m te tr) (rShM c m me mr) := by
  refine h.bind (t2 := fun x σ H1 Q => (∃ a dx fs, x = V.ref a ∧ H1 a = some (.ins C dx fs) ∧ fs.lookup m = none) ∧ tr σ H1 fun vs H2 => Q (x :: vs) H2) fun v d σ0 B H σ env sm rv Q post => ?_
  by_cases g : isM c m d = true
  · rw [if_pos g] at post
    obtain ⟨ds, rfl, hl⟩ := isM_ins g
    have hv : ∃ a dx fs, v = V.ref a ∧ H a = some (.ins C dx fs) ∧ fs.lookup m = none := by
      cases rv with
      | ins hb hm hk rs =>
        rw [hc] at hm
        cases hm
        rcases sm.sub _ _ hb with hh | ⟨hh, _⟩
        · exact ⟨_, _, _, rfl, hh, look_none hk hl⟩
        · exact hh.elim
    refine ⟨hv, ?_⟩
    exact r.go sm post fun us as B1 H1 env1 sm1 fr1 r1 post1 => post1.val sm1 (.sh (rv.mono fr1) r1)
  · rw [if_neg g] at post; exact post.elim
theorem rr_ioM (i : Nat) (hc : mg c = some (.ref C)) (r : RX K mg W (RAr K mg) tr mr) : RX K mg W (RAr K mg) (tConsM C m (tVar i) tr) (rIoM c m i mr) := by
  intro σ0 B H σ env sm Q post
  unfold rIoM at post
  cases e : getOwn env i with
  | none => rw [e] at post; exact post.elim
  | some d =>
    rw [e] at post
    have post1 : Post K mg W (RAr K mg) σ0 σ env B H (if isM c m d = true then (mr.bind fun as => M.pure (Ar.io i :: as)) env else .stuck) Q := post
    clear post
    by_cases g : isM c m d = true
    · rw [if_pos g] at post1
      obtain ⟨ds, rfl, hl⟩ := isM_ins g
      obtain ⟨a, p, _, e1, ct, _⟩ := sm.getOwn e
      refine ⟨.ref a, e1, ?_, ?_⟩
      · cases ct with
        | ins hb hm hk rs =>
          rw [hc] at hm
          cases hm
          exact ⟨_, _, _, rfl, hb, look_none hk hl⟩
      · exact r.go sm post1 fun us as B1 H1 env1 sm1 g1 r1 post2 => post2.val sm1 (.io e1 r1)
    · rw [if_neg g] at post1; exact post1.elim
section
variable {X : Cx} {CX : CXT} {k : Nat} {f : Addr} {fd : FuncData} {ps : List Str} {sp : Sp} {E : L2.St → XK} {p pos apos : Pos} {e o : Expr} {es : List Expr} {ta : TE} {t : TA}
theorem pe_methW {pl : Sem Bool} (he : PE X o ta) (c : Cls X.K C) (hm : Meth X.K C m f) (F : FnOk X.prog X.w X.K X.mg X.base CX k f fd ps sp) (hr : Room k X.A) (hb : Binds X.K fd ps []) (hx : ∀ σ, PassesAt CX X σ (E σ)) (ha : PA X (e :: es) t)
    (hst : starEach (e :: es) X.env = (false, eval e X.env) :: starEach es X.env := by rfl) (hpl : (backTo pos (starEach es X.env)).any (·.1) = false := by rfl)
    (ht : eval (.Call (.Attribute o m apos) (e :: es) [] pos) X.env = (do
      let ov ← eval o X.env
      standAt apos.atName
      let (f, first) ← holding [ov] (getMethod ov m pl)
      callWith pos f first (backTo pos (starEach (e :: es) X.env)) (backToKw pos (keywordEach [] X.env))) := by rfl) :
    PE X (.Call (.Attribute o m apos) (e :: es) [] pos) (tCallS sp E (tConsM C m ta t)) := by
  refine ⟨fun pins s σ H Q I h => ?_⟩
  refine PySem.W.methodCall_KW (pl := pl) (thn (he.run pins s σ H _ I h) fun u s1 ⟨x, H1, I1, rx, ⟨a, dx, fs, ex, ea, l⟩, q⟩ => ?_) ht
  subst ex
  obtain rfl : u = Value.ref a := rx
  refine getmeth_ok I1 ea c hm l ?_
  refine PySem.W.callWith_K (first := [.ref a]) (h₀ := X.base) I.ok.mod.kin hm.kp (thn (ha.run pos pins s1 σ H1 _ I1 q) fun us s2 ⟨vs, H2, I2, r, q2⟩ => ⟨I2.kIn, ?_⟩) hst hpl
  exact run_fnS (us := .ref a :: us) (vs := .ref a :: vs) F hr hb (hx σ) I2 (.cons rfl r) q2
theorem pe_methW0 {pl : Sem Bool} (he : PE X o ta) (c : Cls X.K C) (hm : Meth X.K C m f) (F : FnOk X.prog X.w X.K X.mg X.base CX k f fd ps sp) (hr : Room k X.A) (hb : Binds X.K fd ps []) (hx : ∀ σ, PassesAt CX X σ (E σ))
    (ht : eval (.Call (.Attribute o m apos) [] [] pos) X.env = (do
      let ov ← eval o X.env
      standAt apos.atName
      let (f, first) ← holding [ov] (getMethod ov m pl)
      callWith pos f first (backTo pos (starEach [] X.env)) (backToKw pos (keywordEach [] X.env))) := by rfl) :
    PE X (.Call (.Attribute o m apos) [] [] pos) (tCallS sp E (tConsM C m ta tNil)) := by
  refine ⟨fun pins s σ H Q I h => ?_⟩
  refine PySem.W.methodCall_KW (pl := pl) (thn (he.run pins s σ H _ I h) fun u s1 ⟨x, H1, I1, rx, ⟨a, dx, fs, ex, ea, l⟩, q⟩ => ?_) ht
  subst ex
  obtain rfl : u = Value.ref a := rx
  refine getmeth_ok I1 ea c hm l ?_
  exact PySem.W.callWith_K0 (first := [.ref a]) I1.kIn hm.kp (run_fnS (us := [.ref a]) (vs := [.ref a]) F hr hb (hx σ) I1 (.cons rfl .nil) q)
end
section
variable {X : Cx} {k : Nat} {f : Addr} {fd : FuncData} {ps : List Str} {x : Str} {p pos apos : Pos} {e o : Expr} {es : List Expr} {np : Nat} {mf : List Slot → Fin} {pl : Sem Bool}
/-- the receiver, a shared value -/
theorem se_meth (hc : X.mg c = some (.ref C)) (cl : Cls X.K C) (hm : Meth X.K C m f) (F : FnOk X.prog X.w X.K X.mg X.base (L2.CX X.prog X.w) k f fd ps (SpM X.K X.mg np mf)) (hr : Room k X.A) (hb : Binds X.K fd ps []) (tk : Takes X W) (ho : SE X W o te me) (ha : SAr X W (e :: es) tr mr)
    (hst : starEach (e :: es) X.env = (false, eval e X.env) :: starEach es X.env := by rfl) (hpl : (backTo pos (starEach es X.env)).any (·.1) = false := by rfl)
    (ht : eval (.Call (.Attribute o m apos) (e :: es) [] pos) X.env = (do
      let ov ← eval o X.env
      standAt apos.atName
      let (f, first) ← holding [ov] (getMethod ov m pl)
      callWith pos f first (backTo pos (starEach (e :: es) X.env)) (backToKw pos (keywordEach [] X.env))) := by rfl) :
    SE X W (.Call (.Attribute o m apos) (e :: es) [] pos) (tCallS (SpM X.K X.mg np mf) (WE W) (tConsM C m te tr)) (eCall np mf (rShM c m me mr)) :=
  ⟨pe_methW ho.pe cl hm F hr hb (fun σ => passAt tk σ) ha.pa hst hpl ht, rx_call (fun _ _ _ _ h => h) (rr_shM hc ho.rx ha.rx)⟩
theorem se_meth0 (hc : X.mg c = some (.ref C)) (cl : Cls X.K C) (hm : Meth X.K C m f) (F : FnOk X.prog X.w X.K X.mg X.base (L2.CX X.prog X.w) k f fd ps (SpM X.K X.mg np mf)) (hr : Room k X.A) (hb : Binds X.K fd ps []) (tk : Takes X W) (ho : SE X W o te me)
    (ht : eval (.Call (.Attribute o m apos) [] [] pos) X.env = (do
      let ov ← eval o X.env
      standAt apos.atName
      let (f, first) ← holding [ov] (getMethod ov m pl)
      callWith pos f first (backTo pos (starEach [] X.env)) (backToKw pos (keywordEach [] X.env))) := by rfl) :
    SE X W (.Call (.Attribute o m apos) [] [] pos) (tCallS (SpM X.K X.mg np mf) (WE W) (tConsM C m te tNil)) (eCall np mf (rShM c m me rNil)) :=
  ⟨pe_methW0 ho.pe cl hm F hr hb (fun σ => passAt tk σ) ht, rx_call (fun _ _ _ _ h => h) (rr_shM hc ho.rx (sr_nil (X := X) (W := W)).rx)⟩
/-- the receiver, the object of a local name -/
theorem se_methO (i : Nat) (hc : X.mg c = some (.ref C)) (cl : Cls X.K C) (hm : Meth X.K C m f) (F : FnOk X.prog X.w X.K X.mg X.base (L2.CX X.prog X.w) k f fd ps (SpM X.K X.mg np mf)) (hr : Room k X.A) (hb : Binds X.K fd ps []) (tk : Takes X W) (ha : SAr X W (e :: es) tr mr)
    (hN : X.N[i]? = some x := by rfl) (hv : Vis X.env.scope x := by first | exact Or.inl rfl | exact Or.inr (Or.inl rfl) | exact Or.inr (Or.inr rfl)) (hd : (x == ("__debug__" : Str)) = false := by decide) (hcd : (x == ("__classdict__" : Str)) = false := by decide)
    (hst : starEach (e :: es) X.env = (false, eval e X.env) :: starEach es X.env := by rfl) (hpl : (backTo pos (starEach es X.env)).any (·.1) = false := by rfl)
    (ht : eval (.Call (.Attribute (.Name x p) m apos) (e :: es) [] pos) X.env = (do
      let ov ← eval (.Name x p) X.env
      standAt apos.atName
      let (f, first) ← holding [ov] (getMethod ov m pl)
      callWith pos f first (backTo pos (starEach (e :: es) X.env)) (backToKw pos (keywordEach [] X.env))) := by rfl) :
    SE X W (.Call (.Attribute (.Name x p) m apos) (e :: es) [] pos) (tCallS (SpM X.K X.mg np mf) (WE W) (tConsM C m (tVar i) tr)) (eCall np mf (rIoM c m i mr)) :=
  ⟨pe_methW (pe_var hN hv hd hcd) cl hm F hr hb (fun σ => passAt tk σ) ha.pa hst hpl ht, rx_call (fun _ _ _ _ h => h) (rr_ioM i hc ha.rx)⟩
theorem se_methO0 (i : Nat) (hc : X.mg c = some (.ref C)) (cl : Cls X.K C) (hm : Meth X.K C m f) (F : FnOk X.prog X.w X.K X.mg X.base (L2.CX X.prog X.w) k f fd ps (SpM X.K X.mg np mf)) (hr : Room k X.A) (hb : Binds X.K fd ps []) (tk : Takes X W)
    (hN : X.N[i]? = some x := by rfl) (hv : Vis X.env.scope x := by first | exact Or.inl rfl | exact Or.inr (Or.inl rfl) | exact Or.inr (Or.inr rfl)) (hd : (x == ("__debug__" : Str)) = false := by decide) (hcd : (x == ("__classdict__" : Str)) = false := by decide)
    (ht : eval (.Call (.Attribute (.Name x p) m apos) [] [] pos) X.env = (do
      let ov ← eval (.Name x p) X.env
      standAt apos.atName
      let (f, first) ← holding [ov] (getMethod ov m pl)
      callWith pos f first (backTo pos (starEach [] X.env)) (backToKw pos (keywordEach [] X.env))) := by rfl) :
    SE X W (.Call (.Attribute (.Name x p) m apos) [] [] pos) (tCallS (SpM X.K X.mg np mf) (WE W) (tConsM C m (tVar i) tNil)) (eCall np mf (rIoM c m i rNil)) :=
  ⟨pe_methW0 (pe_var hN hv hd hcd) cl hm F hr hb (fun σ => passAt tk σ) ht, rx_call (fun _ _ _ _ h => h) (rr_ioM i hc (sr_nil (X := X) (W := W)).rx)⟩
/-- they give a new container -/
theorem sn_meth (hc : X.mg c = some (.ref C)) (cl : Cls X.K C) (hm : Meth X.K C m f) (F : FnOk X.prog X.w X.K X.mg X.base (L2.CX X.prog X.w) k f fd ps (SpM X.K X.mg np mf)) (hr : Room k X.A) (hb : Binds X.K fd ps []) (tk : Takes X W) (ho : SE X W o te me) (ha : SAr X W (e :: es) tr mr)
    (hst : starEach (e :: es) X.env = (false, eval e X.env) :: starEach es X.env := by rfl) (hpl : (backTo pos (starEach es X.env)).any (·.1) = false := by rfl)
    (ht : eval (.Call (.Attribute o m apos) (e :: es) [] pos) X.env = (do
      let ov ← eval o X.env
      standAt apos.atName
      let (f, first) ← holding [ov] (getMethod ov m pl)
      callWith pos f first (backTo pos (starEach (e :: es) X.env)) (backToKw pos (keywordEach [] X.env))) := by rfl) :
    SN X W (.Call (.Attribute o m apos) (e :: es) [] pos) (tCallS (SpM X.K X.mg np mf) (WE W) (tConsM C m te tr)) (eCallN np mf (rShM c m me mr)) :=
  ⟨pe_methW ho.pe cl hm F hr hb (fun σ => passAt tk σ) ha.pa hst hpl ht, rn_call (fun _ _ _ _ h => h) (rr_shM hc ho.rx ha.rx)⟩
theorem sn_methO (i : Nat) (hc : X.mg c = some (.ref C)) (cl : Cls X.K C) (hm : Meth X.K C m f) (F : FnOk X.prog X.w X.K X.mg X.base (L2.CX X.prog X.w) k f fd ps (SpM X.K X.mg np mf)) (hr : Room k X.A) (hb : Binds X.K fd ps []) (tk : Takes X W) (ha : SAr X W (e :: es) tr mr)
    (hN : X.N[i]? = some x := by rfl) (hv : Vis X.env.scope x := by first | exact Or.inl rfl | exact Or.inr (Or.inl rfl) | exact Or.inr (Or.inr rfl)) (hd : (x == ("__debug__" : Str)) = false := by decide) (hcd : (x == ("__classdict__" : Str)) = false := by decide)
    (hst : starEach (e :: es) X.env = (false, eval e X.env) :: starEach es X.env := by rfl) (hpl : (backTo pos (starEach es X.env)).any (·.1) = false := by rfl)
    (ht : eval (.Call (.Attribute (.Name x p) m apos) (e :: es) [] pos) X.env = (do
      let ov ← eval (.Name x p) X.env
      standAt apos.atName
      let (f, first) ← holding [ov] (getMethod ov m pl)
      callWith pos f first (backTo pos (starEach (e :: es) X.env)) (backToKw pos (keywordEach [] X.env))) := by rfl) :
    SN X W (.Call (.Attribute (.Name x p) m apos) (e :: es) [] pos) (tCallS (SpM X.K X.mg np mf) (WE W) (tConsM C m (tVar i) tr)) (eCallN np mf (rIoM c m i mr)) :=
  ⟨pe_methW (pe_var hN hv hd hcd) cl hm F hr hb (fun σ => passAt tk σ) ha.pa hst hpl ht, rn_call (fun _ _ _ _ h => h) (rr_ioM i hc ha.rx)⟩
end
end
end Mi

/-! The mirror layer 33: self.f += e, numbers. -/
namespace Mi
open PySem L2
section
variable [Tabs]
def mFAug (i : Nat) (c f : Str) (g : Int → Int → Int) (m : M D) : M Fl := fun env => match getOwn env i with
  | some d => match fGet c f d with
    | some (.int x) => (m.bind fun b env' => match b, env'[i]? with
      | .int y, some (some (.own p (.ins c' fs))) => if c' = c ∧ fs.length < 1000 then .ok .nx (env'.set i (some (.own p (.ins c' (fPut f (.int (g x y)) fs))))) else .stuck
      | _, _ => .stuck) env
    | _ => .stuck
  | none => .stuck
variable {K : PySem.W.Frag} {mg : Str → Option Value} {W : WX} {c f : Str} {C : Addr} {te : TE} {me : M D}
theorem rs_faug {i : Nat} {g : Int → Int → Int} {rd : V → V → Hp → VK → Prop} (hrd : ∀ x y H Q, Q (.int (g x y)) H → rd (.int x) (.int y) H Q) (hc : mg c = some (.ref C)) (cl : Cls K C) (na : NoAttr K C f) (h : RX K mg W (RD K mg) te me) :
    RS K mg W (sFldAug K (tVar i) te rd f) (mFAug i c f g me) := by
  intro cc σ0 B H σ env sm fr D post
  unfold mFAug at post
  cases e : getOwn env i with
  | none => rw [e] at post; exact post.elim
  | some d =>
    rw [e] at post
    cases h1 : fGet c f d with
    | none => simp only [h1] at post; exact post.elim
    | some z0 =>
      simp only [h1] at post
      match z0, h1, post with
      | .int x, h1, post =>
        obtain ⟨a, p, _, e1, ct, _⟩ := sm.getOwn e
        obtain ⟨ds, rfl, hl⟩ := fGet_some h1
        refine ⟨.ref a, e1, ?_⟩
        cases ct with
        | ins hb hm hk rs =>
          rw [hc] at hm
          cases hm
          obtain ⟨v, e3, r1⟩ := fld_look hk rs hl
          cases r1
          refine ⟨_, _, _, _, _, rfl, hb, cl, na, e3, ?_⟩
          refine h.goS sm fr post fun w b B1 H1 env1 sm1 fr1 _ r2 post1 => ?_
          match b, r2, post1 with
          | .int y, r2, post1 =>
            cases r2
            cases e5 : env1[i]? with
            | none => simp only [e5] at post1; exact post1.elim
            | some s =>
              simp only [e5] at post1
              match s, e5, post1 with
              | some (.own p (.ins c' fs)), e5, post1 =>
                by_cases h2 : c' = c ∧ fs.length < 1000
                · have post3 : PostS K mg W cc σ0 (.ok .nx (env1.set i (some (.own p (.ins c' (fPut f (.int (g x y)) fs)))))) D := by
                    have post1 : PostS K mg W cc σ0 (if c' = c ∧ fs.length < 1000 then .ok .nx (env1.set i (some (.own p (.ins c' (fPut f (.int (g x y)) fs))))) else .stuck) D := post1
                    rw [if_pos h2] at post1; exact post1
                  obtain ⟨rfl, hlen⟩ := h2
                  obtain ⟨v', e6, a', rfl, ct, hb2, hp⟩ := sm1.sl i _ e5
                  have ea : a' = a := by rw [e1] at e6; cases e6; rfl
                  subst ea
                  cases ct with
                  | @ins C' dx' _ gs _ hh hm hk2 rs2 =>
                    rw [hc] at hm
                    cases hm
                    refine hrd _ _ _ _ ?_
                    obtain ⟨k1, k2⟩ := fld_put (f := f) hk2 rs2 (Rep.int (g x y))
                    have c3 : Cont K mg B1 (upd H1 a' (.ins C dx' (putF f (.int (g x y)) gs))) a' (.ins c' (fPut f (.int (g x y)) fs)) := .ins upd_same hc k1 k2
                    exact ⟨_, _, hh, by rw [putF_len hk2]; exact hlen, post3 σ B1 _ (sm1.write e5 e6 c3) (fr1.step (stp_write sm1 e5 e6) (osub_write e5).keep)⟩
                · have post1 : PostS K mg W cc σ0 (if c' = c ∧ fs.length < 1000 then .ok .nx (env1.set i (some (.own p (.ins c' (fPut f (.int (g x y)) fs))))) else .stuck) D := post1
                  rw [if_neg h2] at post1; exact post1.elim
              | some (.own p (.lst _)), e5, post1 => exact (post1 : False).elim
              | some (.own p (.tup _)), e5, post1 => exact (post1 : False).elim
              | some (.own p (.ftp _)), e5, post1 => exact (post1 : False).elim
              | some (.own p (.frz _)), e5, post1 => exact (post1 : False).elim
              | some (.own p (.int _)), e5, post1 => exact (post1 : False).elim
              | some (.own p (.str _)), e5, post1 => exact (post1 : False).elim
              | some (.own p (.bl _)), e5, post1 => exact (post1 : False).elim
              | some (.own p .non), e5, post1 => exact (post1 : False).elim
              | some (.own p (.dK _)), e5, post1 => exact (post1 : False).elim
              | some (.own p (.dT _)), e5, post1 => exact (post1 : False).elim
              | some (.shr _), e5, post1 => exact (post1 : False).elim
              | none, e5, post1 => exact (post1 : False).elim
variable {X : Cx} {e : Expr} {x : Str} {pos pos' p1 : Pos}
theorem ss_faugP (i : Nat) (hc : X.mg c = some (.ref C)) (cl : Cls X.K C) (na : NoAttr X.K C f) (h : SE X W e te me) (hN : X.N[i]? = some x := by rfl) (hv : Vis X.env.scope x := by first | exact Or.inl rfl | exact Or.inr (Or.inl rfl) | exact Or.inr (Or.inr rfl))
    (hd : (x == ("__debug__" : Str)) = false := by decide) (hcd : (x == ("__classdict__" : Str)) = false := by decide) :
    SS X W (.AugAssign (.Attribute (.Name x p1) f pos') .Add e pos) (sFldAug X.K (tVar i) te L2.rAdd f) (mFAug i c f (· + ·) me) :=
  ⟨ps_fldaug (pe_var hN hv hd hcd) h.pe L2.in_add, rs_faug (fun _ _ _ _ h => ⟨_, _, rfl, rfl, h⟩) hc cl na h.rx⟩
theorem ss_faugM (i : Nat) (hc : X.mg c = some (.ref C)) (cl : Cls X.K C) (na : NoAttr X.K C f) (h : SE X W e te me) (hN : X.N[i]? = some x := by rfl) (hv : Vis X.env.scope x := by first | exact Or.inl rfl | exact Or.inr (Or.inl rfl) | exact Or.inr (Or.inr rfl))
    (hd : (x == ("__debug__" : Str)) = false := by decide) (hcd : (x == ("__classdict__" : Str)) = false := by decide) :
    SS X W (.AugAssign (.Attribute (.Name x p1) f pos') .Sub e pos) (sFldAug X.K (tVar i) te L2.rSub f) (mFAug i c f (· - ·) me) :=
  ⟨ps_fldaug (pe_var hN hv hd hcd) h.pe L2.in_sub, rs_faug (fun _ _ _ _ h => ⟨_, _, rfl, rfl, h⟩) hc cl na h.rx⟩
end
end Mi

/-! The mirror layer 34: sum, ord, chr, & and | and >>, extend. -/
namespace Mi
open PySem L2
section
variable [Tabs]
variable {K : PySem.W.Frag} {mg : Str → Option Value} {W : WX} {te : TE} {me : M D}
def isInts : List D → Option (List Int)
  | [] => some []
  | .int i :: ds => (isInts ds).map (i :: ·)
  | _ :: _ => none
def dSum : List D → Option D
  | [c] => (lstD c).bind fun xs => (isInts xs).map fun ns => .int ns.sum
  | _ => none
theorem isInts_rep {B : Hp} : ∀ {vs : List V} {ds : List D} {ns : List Int}, isInts ds = some ns → Reps K mg B vs ds → vs = ns.map V.int
  | [], [], _, h, .nil => by cases h; rfl
  | v :: vs, d :: ds, ns, h, .cons r rs => by
    cases d with
    | int i =>
      have h : (isInts ds).map (i :: ·) = some ns := h
      cases e : isInts ds with
      | none => rw [e] at h; cases h
      | some ns' =>
        rw [e] at h
        cases h
        cases r
        rw [List.map_cons, ← isInts_rep e rs]
    | _ => cases h
theorem re_sum : RealC K mg (rSum K) dSum := by
  intro B H vs ds z s h1 e Q q
  match ds, h1, e with
  | [c], .cons r .nil, e =>
    have e : ((lstD c).bind fun xs => (isInts xs).map fun ns => D.int ns.sum) = some z := e
    cases e1 : lstD c with
    | none => rw [e1] at e; cases e
    | some xs =>
      rw [e1] at e
      have e : ((isInts xs).map fun ns => D.int ns.sum) = some z := e
      cases e2 : isInts xs with
      | none => rw [e2] at e; cases e
      | some ns =>
        rw [e2] at e
        cases e
        obtain ⟨a, ws, rfl, sq, rs⟩ := lst_rep s r e1
        rw [isInts_rep e2 rs] at sq
        exact ⟨a, ns, rfl, sq, q _ B H (Al.refl s) (.int _)⟩
  | [], .nil, e => cases e
  | _ :: _ :: _, .cons _ (.cons _ _), e => cases e
def dOrd1 : List D → Option D
  | [.str z] => if z.length = 1 then some (.int (z.cps.getD 0 0 : Nat)) else none
  | _ => none
theorem re_ord1 : RealC K mg (fun xs H Q => ∃ x : Str, xs = [.str x] ∧ x.length = 1 ∧ Q (.int (x.cps.getD 0 0 : Nat)) H) dOrd1 := by
  intro B H vs ds z s h1 e Q q
  unfold dOrd1 at e
  split at e
  · split at e
    · rename_i x hx
      cases e
      cases h1 with
      | cons r rs =>
        cases rs
        cases r
        exact ⟨_, rfl, hx, q _ B H (Al.refl s) (.int _)⟩
    · cases e
  · cases e
def dChr : List D → Option D
  | [.int i] => if 0 ≤ i ∧ i ≤ 1114111 then some (.str ⟨#[i.toNat]⟩) else none
  | _ => none
theorem re_chr : RealC K mg (fun xs H Q => ∃ i : Int, xs = [.int i] ∧ 0 ≤ i ∧ i ≤ 1114111 ∧ Q (.str ⟨#[i.toNat]⟩) H) dChr := by
  intro B H vs ds z s h1 e Q q
  unfold dChr at e
  split at e
  · split at e
    · rename_i x hx
      cases e
      cases h1 with
      | cons r rs =>
        cases rs
        cases r
        exact ⟨_, rfl, hx.1, hx.2, q _ B H (Al.refl s) (.str _)⟩
    · cases e
  · cases e
def dI (g : Int → Int → Int) : D → D → Option D
  | .int i, .int j => some (.int (g i j))
  | _, _ => none
theorem re_i (g : Int → Int → Int) : Real2 K mg (rI0 fun i j => .int (g i j)) (dI g) := by
  intro B H x y d e z s h1 h2 e1 Q q
  unfold dI at e1
  split at e1
  · cases e1; cases h1; cases h2
    exact ⟨_, _, rfl, rfl, q _ B H (Al.refl s) (.int _)⟩
  · cases e1
def dShr : D → D → Option D
  | .int i, .int j => if 0 ≤ j then some (.int (i / 2 ^ j.toNat)) else none
  | _, _ => none
theorem re_shr : Real2 K mg (rI (fun _ j => 0 ≤ j) fun i j => .int (i / 2 ^ j.toNat)) dShr := realI fun d e z h => by
  unfold dShr at h
  split at h
  · split at h
    · rename_i hs
      cases h
      exact ⟨_, _, rfl, rfl, hs, rfl⟩
    · cases h
  · cases h
/-! ### x.extend(e), x an own list, e a list's value -/
def mExt (i : Nat) (m : M D) : M Fl := fun env => match getOwnL env i with
  | some _ => (m.bind fun d env' => match d, env'[i]? with
    | .lst ys, some (some (.own p (.lst xs))) => if xs.length + ys.length ≤ 16777216 then .ok .nx (env'.set i (some (.own p (.lst (xs ++ ys))))) else .stuck
    | _, _ => .stuck) env
  | none => .stuck
theorem rs_ext {i : Nat} (h : RX K mg W (RD K mg) te me) : RS K mg W (tDrop (tBM K "list" rExtend (tVar i) (tCons te tNil))) (mExt i me) := by
  intro c σ0 B H σ env sm fr D post
  have hz : sizeLine = 16777216 := sizeLine_eq
  unfold mExt at post
  cases e : getOwnL env i with
  | none => rw [e] at post; exact post.elim
  | some d0 =>
    rw [e] at post
    obtain ⟨a, p, e0, e1, c0, _⟩ := sm.getOwn (getOwnL_some e)
    obtain ⟨vs, hl, _⟩ := c0.lst_inv
    refine ⟨.ref a, e1, .inl ⟨rfl, _, SqL.of hl⟩, ?_⟩
    refine h.goS sm fr post fun v d B1 H1 env1 sm1 fr1 _ r1 post1 => ?_
    cases e2 : env1[i]? with
    | none => rw [e2] at post1; cases d <;> exact (post1 : False).elim
    | some s =>
      rw [e2] at post1
      match d, s, e2, r1, post1 with
      | .lst ys, some (.own p (.lst xs)), e2, r1, post1 =>
        have post1 : PostS K mg W c σ0 (if xs.length + ys.length ≤ 16777216 then .ok .nx (env1.set i (some (.own p (.lst (xs ++ ys))))) else .stuck) D := post1
        by_cases hs : xs.length + ys.length ≤ 16777216
        · rw [if_pos hs] at post1
          obtain ⟨v', e3, a', rfl, c1, hb, hp⟩ := sm1.sl i _ e2
          rw [e1] at e3
          cases e3
          obtain ⟨vs1, hl1, rs⟩ := Cont.lst_inv c1
          cases r1 with
          | @lst b ws _ hb2 rs2 =>
            have hH : H1 b = some (.lst ws) := (sm1.sub _ _ hb2).elim id fun z => z.1.elim
            refine ⟨a, b, vs1, ws, rfl, rfl, hl1, hH, by rw [rs.length, rs2.length]; omega, ?_⟩
            exact post1 σ B1 _ (sm1.write e2 e1 (.lst upd_same (rs.append rs2))) (fr1.step (stp_write sm1 e2 e1) (osub_write e2).keep)
        · rw [if_neg hs] at post1; exact post1.elim
      | .lst _, some (.own _ (.tup _)), e2, r1, post1 => exact (post1 : False).elim
      | .lst _, some (.own _ (.ftp _)), e2, r1, post1 => exact (post1 : False).elim
      | .lst _, some (.own _ (.frz _)), e2, r1, post1 => exact (post1 : False).elim
      | .lst _, some (.own _ (.int _)), e2, r1, post1 => exact (post1 : False).elim
      | .lst _, some (.own _ (.str _)), e2, r1, post1 => exact (post1 : False).elim
      | .lst _, some (.own _ (.bl _)), e2, r1, post1 => exact (post1 : False).elim
      | .lst _, some (.own _ .non), e2, r1, post1 => exact (post1 : False).elim
      | .lst _, some (.own _ (.dK _)), e2, r1, post1 => exact (post1 : False).elim
      | .lst _, some (.own _ (.dT _)), e2, r1, post1 => exact (post1 : False).elim
      | .lst _, some (.own _ (.ins _ _)), e2, r1, post1 => exact (post1 : False).elim
      | .lst _, some (.shr _), e2, r1, post1 => exact (post1 : False).elim
      | .lst _, none, e2, r1, post1 => exact (post1 : False).elim
      | .tup _, _, e2, r1, post1 => exact (post1 : False).elim
      | .ftp _, _, e2, r1, post1 => exact (post1 : False).elim
      | .frz _, _, e2, r1, post1 => exact (post1 : False).elim
      | .int _, _, e2, r1, post1 => exact (post1 : False).elim
      | .str _, _, e2, r1, post1 => exact (post1 : False).elim
      | .bl _, _, e2, r1, post1 => exact (post1 : False).elim
      | .non, _, e2, r1, post1 => exact (post1 : False).elim
      | .dK _, _, e2, r1, post1 => exact (post1 : False).elim
      | .dT _, _, e2, r1, post1 => exact (post1 : False).elim
      | .ins _ _, _, e2, r1, post1 => exact (post1 : False).elim
variable {X : Cx} {e : Expr} {x : Str} {pos p apos : Pos}
theorem ss_ext {cpos : Pos} (i : Nat) (h : SE X W e te me) (hN : X.N[i]? = some x := by rfl) (hv : Vis X.env.scope x := by first | exact Or.inl rfl | exact Or.inr (Or.inl rfl) | exact Or.inr (Or.inr rfl)) (hd : (x == ("__debug__" : Str)) = false := by decide)
    (hcd : (x == ("__classdict__" : Str)) = false := by decide) (hbase : attributeBase (.Name x p) "extend" X.env (eval (.Name x p) X.env) = eval (.Name x p) X.env := by rfl)
    (hfew : ((backTo cpos (starEach [e] X.env)).all (fun x => !x.1) && (backToKw cpos (keywordEach [] X.env)).all (fun x => x.1.isSome)
      && decide ([e].length + ([] : List Keyword).length + (if ([] : List Keyword).isEmpty then 0 else 1) < 30)) = true := by rfl)
    (hline : (apos.endLine == cpos.line) = true := by rfl) (hs : starEach [e] X.env = (false, eval e X.env) :: starEach [] X.env := by rfl) (hsw : swapsWith (.Call (.Attribute (.Name x p) "extend" apos) [e] [] cpos) none pos.line X.env = pure false := by rfl) :
    SS X W (.Expr (.Call (.Attribute (.Name x p) "extend" apos) [e] [] cpos) pos) (tDrop (tBM X.K "list" rExtend (tVar i) (tCons te tNil))) (mExt i me) :=
  ⟨ps_expr (pe_bm PySem.F.plainAttrs_list PySem.F.slot_list_extend PySem.F.type_list_extend (fun pins s σ H x xs v us Q I r1 r2 h => mt_extend pins s σ H x xs v us Q I r1 r2 h) (pe_var hN hv hd hcd) (pa_cons h.pe pa_nil hs) hbase hfew hline hs (by rfl)) hsw, rs_ext h.rx⟩
end
end Mi

/-! The mirror layer 35: C(..).m(..), the object made for the call alone. -/
namespace Mi
open PySem L2
section
variable [Tabs]
theorem Stp.transN {O O' : Addr → Prop} {B H B1 H1 B2 H2 : Hp} (a : Stp O B H B1 H1) (b : Stp O' B1 H1 B2 H2) (ho : ∀ x, O' x → O x ∨ H x = none) : Stp O B H B2 H2 where
  grow := a.grow.trans b.grow
  new := fun x o h => by
    rcases b.new x o h with h | h | h
    · exact a.new x o h
    rotate_left
    · exact .inr (.inr h)
    · refine .inr (.inl ?_)
      cases q : H x with
      | none => rfl
      | some u =>
        obtain ⟨o', e⟩ := a.there x u q
        rw [h] at e; cases e
  frame := fun x o h n => by
    have no : ¬ O' x := fun z => (ho x z).elim n fun q => by rw [h] at q; cases q
    rcases a.frame x o h n with q | ⟨q1, q2, ob, q3⟩ | ⟨q1, ps, q2, q3⟩
    · exact b.frame x o q no
    · exact .inr (.inl ⟨b.grow _ _ q1, q2, ob, b.lk _ _ _ q3⟩)
    · rcases b.frame x _ q2 no with e | ⟨_, e, _⟩ | ⟨_, e⟩
      · exact .inr (.inr ⟨q1, ps, e, q3⟩)
      · exact e.elim
      · exact .inr (.inr ⟨q1, e⟩)
  lk := fun x ob o h => b.lk _ _ _ (a.lk _ _ _ h)
  there := fun x o h => by
    obtain ⟨o', e⟩ := a.there x o h
    exact b.there x o' e
variable {K : PySem.W.Frag} {mg : Str → Option Value}
/-- a step that changes nothing that the slots hold -/
theorem Sm.past {σ0 σ : L2.St} {B H B' H' : Hp} {env : En} {O : Addr → Prop} (sm : Sm K mg σ0 B H σ env) (stp : Stp O B H B' H') (sub : Sub B' H') (no : ∀ a, O a → ¬ Owned σ env a) (nt : ∀ a, O a → a ∉ Tabs.ps) : Sm K mg σ0 B' H' σ env where
  tb := fun P hP => ⟨stp.tab (sm.tb P hP).1 fun z => nt P z hP, tab_none (sm.tb P hP).1 (sm.tb P hP).2 (stp.new P) sub (stp.tab (sm.tb P hP).1 fun z => nt P z hP)⟩
  sub := sub
  len := sm.len
  sl := fun j s e => by
    obtain ⟨v, e1, rr⟩ := sm.sl j s e
    refine ⟨v, e1, ?_⟩
    cases s with
    | shr d => exact Rep.mono stp.grow rr
    | own p d =>
      obtain ⟨a, rfl, c, hb, hpin⟩ := rr
      have no2 : ¬ O a := fun z => no a z ⟨j, p, d, e, e1⟩
      obtain ⟨o, ho, hk, nt⟩ := c.kind3
      obtain ⟨k1, k2⟩ := stp.frameO sub hb ho hk no2 nt
      exact ⟨a, rfl, c.mono stp.grow (by rw [ho]; exact k1), k2, hpin⟩
  sep := sm.sep
def newM (np : Nat) (mf : List Slot → Fin) (d : D) (as : List Ar) (env : En) : Res D := if as.length + 1 = np ∧ ioIx as = [] then match slotsOf env as with
    | none => .stuck
    | some args => match mf (.own true d :: args) with
      | .ret false v [_] => .ok v env
      | .exn x [_] => .exn x env
      | _ => .stuck
  else .stuck
def eNewM (c m : Str) (np : Nat) (mf : List Slot → Fin) (mn : M D) (mr : M (List Ar)) : M D := mn.bind fun d env => if isM c m d = true then (mr env).bind (newM np mf d) else .stuck
variable {W : WX} {c m : Str} {C : Addr} {tn : TE} {mn : M D} {tr : TA} {mr : M (List Ar)} {np : Nat} {mf : List Slot → Fin}
theorem rx_newM {E : L2.St → XK} (hE : ∀ σ cls d H, W cls d σ H → E σ cls d H) (hc : mg c = some (.ref C)) (hrn : RN K mg W tn mn) (r : RX K mg W (RAr K mg) tr mr) :
    RX K mg W (RD K mg) (tCallS (SpM K mg np mf) E (tConsM C m tn tr)) (eNewM c m np mf mn mr) := by
  intro σ0 B0 H0 σ env0 sm0 Q post0
  show tn σ H0 fun x H1 => (∃ a dx fs, x = V.ref a ∧ H1 a = some (.ins C dx fs) ∧ fs.lookup m = none) ∧ tr σ H1 fun vs H2 => SpM K mg np mf (x :: vs) H2 Q (E σ)
  refine hrn σ0 B0 H0 σ env0 sm0 _ ?_
  unfold eNewM at post0
  rw [M.bind] at post0
  cases e : mn env0 with
  | stuck => rw [e] at post0; exact post0
  | exn x env' => rw [e] at post0; exact post0
  | ok d env1 =>
    rw [e] at post0
    intro a B H stp sm os ct hb hn
    have post1 : Post K mg W (RD K mg) σ0 σ env0 B0 H0 (if isM c m d = true then (mr env1).bind (newM np mf d) else .stuck) Q := post0
    clear post0
    by_cases g : isM c m d = true
    · rw [if_pos g] at post1
      obtain ⟨ds, rfl, hl⟩ := isM_ins g
      cases ct with
      | @ins C' dx _ fs _ hh hm hk rs =>
        rw [hc] at hm
        cases hm
        have hno : ¬ Owned σ env1 a := fun z => by
          obtain ⟨⟨o, ho⟩, _⟩ := sm0.own_there (os.owned z)
          rw [hn] at ho; cases ho
        refine ⟨⟨a, dx, fs, rfl, hh, look_none hk hl⟩, ?_⟩
        refine r σ0 B H σ env1 sm _ ?_
        cases e2 : mr env1 with
        | stuck => rw [e2] at post1; exact post1
        | exn x env' =>
          rw [e2] at post1
          have post1 : Post K mg W (RD K mg) σ0 σ env0 B0 H0 (.exn x env') Q := post1
          intro cls d' B' H' s2 sm2 o2 ex
          exact post1 cls d' B' H' (stp.trans s2 fun x z => os.owned z) sm2 (os.trans o2) ex
        | ok as env2 =>
          rw [e2] at post1
          have post : Post K mg W (RD K mg) σ0 σ env0 B0 H0 (newM np mf (.ins c ds) as env2) Q := post1
          clear post1
          intro vs B2 H2 s2 sm2 o2 r2
          have S1 : Stp (Owned σ env0) B0 H0 B2 H2 := stp.trans s2 fun x z => os.owned z
          have hH2 : H2 a = some (.ins C dx fs) := by
            rcases s2.frame a _ hh hno with q | ⟨_, q, _⟩ | ⟨q, _⟩
            · exact q
            · exact q.elim
            · exact q.elim
          have hB2 : B2 a = none := by
            cases q : B2 a with
            | none => rfl
            | some o =>
              rcases s2.new a o q with z | z | z
              · rw [hb] at z; cases z
              · rw [hh] at z; cases z
              · rcases sm2.sub a o q with y | ⟨y, _⟩
                · rw [hH2] at y; cases y; exact z.elim
                · cases o <;> first | exact y.elim | exact z.elim
          have ct2 : Cont K mg B2 H2 a (.ins c ds) := .ins hH2 hc hk (rs.mono s2.grow)
          have hno2 : ¬ Owned σ env2 a := fun z => hno (o2.owned z)
          unfold newM at post
          by_cases hcnd : as.length + 1 = np ∧ ioIx as = []
          · rw [if_pos hcnd] at post
            obtain ⟨hnp, hio⟩ := hcnd
            cases es : slotsOf env2 as with
            | none => simp only [es] at post; exact post.elim
            | some args =>
              simp only [es] at post
              have hnd : (ioIx as).Nodup := by rw [hio]; exact List.nodup_nil
              obtain ⟨sm', _, _, _⟩ := call_core sm2 r2 es hnd
              have hno3 := slots_nil hio es
              have hlen : vs.length = args.length := by simpa using sm'.len
              have mapE : ∀ {α : Type} {l : List α} {i : Nat} {x : α}, (l.map some)[i]? = some (some x) → l[i]? = some x := fun {α l i x} h => by
                rw [List.getElem?_map] at h
                cases e : l[i]? with
                | none => rw [e] at h; cases h
                | some y => rw [e] at h; cases h; rfl
              have only : ∀ (i : Nat) (p : Bool) (d : D), (((Slot.own true (.ins c ds)) :: args).map some)[i]? = some (some (Slot.own p d)) → i = 0 := fun i p d e => by
                cases i with
                | zero => rfl
                | succ i => exact (hno3 p d (List.mem_of_getElem? (mapE (l := args) (i := i) (by simpa using e)))).elim
              have own0 : ∀ b, Owned ((V.ref a :: vs).map some) (((Slot.own true (.ins c ds)) :: args).map some) b → b = a := fun b ⟨i, p, d, e1, e2⟩ => by
                have := only i p d e1
                subst this
                cases e2; rfl
              have ntab : ∀ P ∈ Tabs.ps, P ≠ a := fun P hP z => by
                subst z
                obtain ⟨ps, q, _⟩ := (sm2.tb _ hP).1
                rw [hH2] at q; cases q
              refine ⟨by rw [List.length_cons, Ars.length r2]; exact hnp, B2, .own true (.ins c ds) :: args, ⟨sm2.tb, sm2.sub, by simp [hlen], fun i s e => ?_, fun i j p d p' d' a e1 e2 r1 r2 => by rw [only i p d e1, only j p' d' e2]⟩, fun p d hm => ?_, ?_⟩
              · cases i with
                | zero =>
                  cases e
                  exact ⟨.ref a, rfl, a, rfl, ct2, hB2, fun _ => rfl⟩
                | succ i =>
                  obtain ⟨v, e1, h1⟩ := sm'.sl i s (by simpa using e)
                  refine ⟨v, by simpa using e1, ?_⟩
                  cases s with
                  | shr d => exact h1
                  | own p d => exact (hno3 p d (List.mem_of_getElem? (mapE (l := args) (i := i) (by simpa using e)))).elim
              · rcases List.mem_cons.mp hm with z | z
                · cases z; rfl
                · exact (hno3 p d z).elim
              · have fin : ∀ {B' H' : Hp}, Stp (Owned ((V.ref a :: vs).map some) (((Slot.own true (.ins c ds)) :: args).map some)) B2 H2 B' H' → Sub B' H' → Stp (Owned σ env0) B0 H0 B' H' ∧ Sm K mg σ0 B' H' σ env2 := fun {B' H'} s3 sub => ⟨S1.transN s3 fun x z => .inr (by rw [own0 x z]; exact hn), sm2.past s3 sub (fun b z => by rw [own0 b z]; exact hno2) fun b z hP => ntab b hP (own0 b z)⟩
                cases em : mf (.own true (.ins c ds) :: args) with
                | stuck => simp only [em] at post; exact post.elim
                | exn x os' =>
                  simp only [em] at post
                  match os', post with
                  | [o'], post =>
                    have post : Post K mg W (RD K mg) σ0 σ env0 B0 H0 (.exn x env2) Q := post
                    intro cls d' B' H' s3 sub outs ex
                    obtain ⟨f1, f2⟩ := fin s3 sub
                    exact hE _ _ _ _ (post cls d' B' H' f1 f2 (os.trans o2) ex)
                  | [], post => exact (post : False).elim
                  | _ :: _ :: _, post => exact (post : False).elim
                | ret b z os' =>
                  simp only [em] at post
                  match b, os', post with
                  | false, [o'], post =>
                    have post : Post K mg W (RD K mg) σ0 σ env0 B0 H0 (.ok z env2) Q := post
                    intro v B' H' s3 sub outs rep
                    obtain ⟨f1, f2⟩ := fin s3 sub
                    exact post v B' H' f1 f2 (os.trans o2) rep
                  | true, _, post => exact (post : False).elim
                  | false, [], post => exact (post : False).elim
                  | false, _ :: _ :: _, post => exact (post : False).elim
          · rw [if_neg hcnd] at post; exact post.elim
    · rw [if_neg g] at post1; exact post1.elim
variable {X : Cx} {k : Nat} {f : Addr} {fd : FuncData} {ps : List Str} {pos apos : Pos} {e o : Expr} {es : List Expr} {pl : Sem Bool}
theorem se_methN (hc : X.mg c = some (.ref C)) (cl : Cls X.K C) (hm : Meth X.K C m f) (F : FnOk X.prog X.w X.K X.mg X.base (L2.CX X.prog X.w) k f fd ps (SpM X.K X.mg np mf)) (hr : Room k X.A) (hb : Binds X.K fd ps []) (tk : Takes X W) (ho : SN X W o tn mn) (ha : SAr X W (e :: es) tr mr)
    (hst : starEach (e :: es) X.env = (false, eval e X.env) :: starEach es X.env := by rfl) (hpl : (backTo pos (starEach es X.env)).any (·.1) = false := by rfl)
    (ht : eval (.Call (.Attribute o m apos) (e :: es) [] pos) X.env = (do
      let ov ← eval o X.env
      standAt apos.atName
      let (f, first) ← holding [ov] (getMethod ov m pl)
      callWith pos f first (backTo pos (starEach (e :: es) X.env)) (backToKw pos (keywordEach [] X.env))) := by rfl) :
    SE X W (.Call (.Attribute o m apos) (e :: es) [] pos) (tCallS (SpM X.K X.mg np mf) (WE W) (tConsM C m tn tr)) (eNewM c m np mf mn mr) :=
  ⟨pe_methW ho.pe cl hm F hr hb (fun σ => passAt tk σ) ha.pa hst hpl ht, rx_newM (fun _ _ _ _ h => h) hc ho.rn ha.rx⟩
theorem se_methN0 (hc : X.mg c = some (.ref C)) (cl : Cls X.K C) (hm : Meth X.K C m f) (F : FnOk X.prog X.w X.K X.mg X.base (L2.CX X.prog X.w) k f fd ps (SpM X.K X.mg np mf)) (hr : Room k X.A) (hb : Binds X.K fd ps []) (tk : Takes X W) (ho : SN X W o tn mn)
    (ht : eval (.Call (.Attribute o m apos) [] [] pos) X.env = (do
      let ov ← eval o X.env
      standAt apos.atName
      let (f, first) ← holding [ov] (getMethod ov m pl)
      callWith pos f first (backTo pos (starEach [] X.env)) (backToKw pos (keywordEach [] X.env))) := by rfl) :
    SE X W (.Call (.Attribute o m apos) [] [] pos) (tCallS (SpM X.K X.mg np mf) (WE W) (tConsM C m tn tNil)) (eNewM c m np mf mn rNil) :=
  ⟨pe_methW0 ho.pe cl hm F hr hb (fun σ => passAt tk σ) ht, rx_newM (fun _ _ _ _ h => h) hc ho.rn (sr_nil (X := X) (W := W)).rx⟩
end
end Mi

/-! The mirror layer 36: a written dict of the top with text keys: k in G, G[k]. -/
namespace Mi
open PySem L2
section
variable [Tabs]
/-- at d: the written dict lk -/
structure GDct (K : PySem.W.Frag) (w : World) (mg : Str → Option Value) (d : Addr) (lk : List (Str × D)) : Prop where
  kd : ∃ es n, KDict K w d es n
  yes : ∀ z x, lk.lookup z = some x → ∃ v, KDct K w d z v ∧ ∀ B, Rep K mg B v x
  has : ∀ z, ∃ r, PySem.W.nsIn K d z = some r ∧ r.isSome = (lk.lookup z).isSome
def inG (lk : List (Str × D)) : D → Option D
  | .str z => some (.bl (lk.lookup z).isSome)
  | _ => none
def notInG (lk : List (Str × D)) : D → Option D
  | .str z => some (.bl !(lk.lookup z).isSome)
  | _ => none
def ixG (lk : List (Str × D)) : D → Option D
  | .str z => lk.lookup z
  | _ => none
variable {X : Cx} {W : WX} {e : Expr} {te : TE} {me : M D} {pos p : Pos} {g : Str} {d : Addr} {lk : List (Str × D)}
def rInG (K : PySem.W.Frag) (d : Addr) : R2 := fun x y H Q => ∃ (z : Str) (r : Option Value), x = .str z ∧ y = .ref d ∧ PySem.W.nsIn K d z = some r ∧ Q (.bl r.isSome) H
def rNotInG (K : PySem.W.Frag) (d : Addr) : R2 := fun x y H Q => ∃ (z : Str) (r : Option Value), x = .str z ∧ y = .ref d ∧ PySem.W.nsIn K d z = some r ∧ Q (.bl (!r.isSome)) H
theorem rx_inG (G : GDct X.K X.w X.mg d lk) (h : RX X.K X.mg W (RD X.K X.mg) te me) : RX X.K X.mg W (RD X.K X.mg) (tOp (rInG X.K d) te (tC (.ref d))) (eUn (inG lk) me) := by
  refine RX.bind (R := RD X.K X.mg) (R2 := RD X.K X.mg) (t2 := fun x _ H (Q : VK) => rInG X.K d x (.ref d) H Q) (k := fun a => ofO (inG lk a)) h fun v a σ0 B H σ env sm r Q post => ?_
  cases r with
  | str z =>
    obtain ⟨r, h1, h2⟩ := G.has z
    have post : Post X.K X.mg W (RD X.K X.mg) σ0 σ env B H (.ok (.bl (lk.lookup z).isSome) env) Q := post
    refine ⟨z, r, rfl, rfl, h1, ?_⟩
    rw [h2]
    exact post.val sm (Rep.bl _)
  | _ => exact (post : False).elim
theorem rx_notInG (G : GDct X.K X.w X.mg d lk) (h : RX X.K X.mg W (RD X.K X.mg) te me) : RX X.K X.mg W (RD X.K X.mg) (tOp (rNotInG X.K d) te (tC (.ref d))) (eUn (notInG lk) me) := by
  refine RX.bind (R := RD X.K X.mg) (R2 := RD X.K X.mg) (t2 := fun x _ H (Q : VK) => rNotInG X.K d x (.ref d) H Q) (k := fun a => ofO (notInG lk a)) h fun v a σ0 B H σ env sm r Q post => ?_
  cases r with
  | str z =>
    obtain ⟨r, h1, h2⟩ := G.has z
    have post : Post X.K X.mg W (RD X.K X.mg) σ0 σ env B H (.ok (.bl !(lk.lookup z).isSome) env) Q := post
    refine ⟨z, r, rfl, rfl, h1, ?_⟩
    rw [h2]
    exact post.val sm (Rep.bl _)
  | _ => exact (post : False).elim
theorem rx_ixG (G : GDct X.K X.w X.mg d lk) (h : RX X.K X.mg W (RD X.K X.mg) te me) : RX X.K X.mg W (RD X.K X.mg) (tOp (rIxD X.K X.w) (tC (.ref d)) te) (eUn (ixG lk) me) := by
  refine RX.bind (R := RD X.K X.mg) (R2 := RD X.K X.mg) (t2 := fun x _ H (Q : VK) => rIxD X.K X.w (.ref d) x H Q) (k := fun a => ofO (ixG lk a)) h fun v a σ0 B H σ env sm r Q post => ?_
  cases r with
  | str z =>
    cases e : lk.lookup z with
    | none =>
      have post : Post X.K X.mg W (RD X.K X.mg) σ0 σ env B H (ofO (lk.lookup z) env) Q := post
      rw [e] at post; exact post.elim
    | some x =>
      have post : Post X.K X.mg W (RD X.K X.mg) σ0 σ env B H (ofO (lk.lookup z) env) Q := post
      rw [e] at post
      have post : Post X.K X.mg W (RD X.K X.mg) σ0 σ env B H (.ok x env) Q := post
      obtain ⟨v, h1, h2⟩ := G.yes z x e
      exact ⟨d, z, v, rfl, rfl, h1, post.val sm (h2 B)⟩
  | _ => exact (post : False).elim
theorem se_inG (G : GDct X.K X.w X.mg d lk) (hm : X.mg g = some (.ref d)) (h : SE X W e te me) (hg : Gl X g := by rfl) (hd : (g == ("__debug__" : Str)) = false := by decide) (hmk : behindInMarks .In (.Name g p) = false := by first | exact nomark _ | with_unfolding_all rfl) :
    SE X W (.Compare e [.In] [.Name g p] pos) (tOp (rInG X.K d) te (tC (.ref d))) (eUn (inG lk) me) := by
  obtain ⟨es, n, D⟩ := G.kd
  exact ⟨pe_cmpR (op_in_kd D) h.pe (pe_glob hg hm rfl hd) hmk, rx_inG G h.rx⟩
theorem st_inG (G : GDct X.K X.w X.mg d lk) (hm : X.mg g = some (.ref d)) (h : SE X W e te me) (hg : Gl X g := by rfl) (hd : (g == ("__debug__" : Str)) = false := by decide) (hmk : behindInMarks .In (.Name g p) = false := by first | exact nomark _ | with_unfolding_all rfl) :
    ST X W (.Compare e [.In] [.Name g p] pos) (tTest (tOp (rInG X.K d) te (tC (.ref d)))) (eTest (eUn (inG lk) me)) := by
  obtain ⟨es, n, D⟩ := G.kd
  exact ⟨pt_cmpR (op_in_kd D) h.pe (pe_glob hg hm rfl hd) hmk, rx_tB (rx_inG G h.rx)⟩
theorem se_notInG (G : GDct X.K X.w X.mg d lk) (hm : X.mg g = some (.ref d)) (h : SE X W e te me) (hg : Gl X g := by rfl) (hd : (g == ("__debug__" : Str)) = false := by decide) (hmk : behindInMarks .NotIn (.Name g p) = false := by first | exact nomark _ | with_unfolding_all rfl) :
    SE X W (.Compare e [.NotIn] [.Name g p] pos) (tOp (rNotInG X.K d) te (tC (.ref d))) (eUn (notInG lk) me) := by
  obtain ⟨es, n, D⟩ := G.kd
  exact ⟨pe_cmpR (op_notIn_kd D) h.pe (pe_glob hg hm rfl hd) hmk, rx_notInG G h.rx⟩
theorem se_ixG (G : GDct X.K X.w X.mg d lk) (hm : X.mg g = some (.ref d)) (h : SE X W e te me) (hg : Gl X g := by rfl) (hd : (g == ("__debug__" : Str)) = false := by decide) (hs : PlainIx e := by exact fun _ _ => rfl) :
    SE X W (.Subscript (.Name g p) e pos) (tOp (rIxD X.K X.w) (tC (.ref d)) te) (eUn (ixG lk) me) :=
  ⟨pe_ix ix_kdict (pe_glob hg hm rfl hd) h.pe hs, rx_ixG G h.rx⟩
end
end Mi

/-! The mirror layer 37: a written dict by its lookup. -/
namespace Mi
open PySem L2
section
variable [Tabs] {K : PySem.W.Frag} {mg : Str → Option Value}
inductive EntR (K : PySem.W.Frag) (mg : Str → Option Value) : List DictEntry → List (Str × D) → Prop
  | nil : EntR K mg [] []
  | cons {h : Int} {k : Str} {t : Tok} {u : Value} {v : V} {x : D} {es : List DictEntry} {lk : List (Str × D)} : RelV v u → (∀ B, Rep K mg B v x) → EntR K mg es lk → EntR K mg (⟨h, .str k t, u⟩ :: es) ((k, x) :: lk)
theorem EntR.yes {z : Str} {x : D} : ∀ {es : List DictEntry} {lk : List (Str × D)}, EntR K mg es lk → lk.lookup z = some x → ∃ e v, es.find? (·.key.isStr z) = some e ∧ RelV v e.val ∧ ∀ B, Rep K mg B v x
  | _, _, .nil, h => by cases h
  | _, _, @EntR.cons _ _ _ k t u v x' es lk r q rest, h => by
    rw [List.lookup_cons] at h
    rw [List.find?_cons]
    by_cases c : z = k
    · subst c
      rw [beq_self_eq_true] at h
      cases h
      have e1 : (Value.str z t).isStr z = true := by simp [Value.isStr]
      rw [e1]
      exact ⟨_, v, rfl, r, q⟩
    · rw [show (z == k) = false from beq_eq_false_iff_ne.mpr c] at h
      have e1 : (Value.str k t).isStr z = false := by simp [Value.isStr]; exact fun e => c e.symm
      rw [e1]
      exact EntR.yes rest h
theorem EntR.no {z : Str} : ∀ {es : List DictEntry} {lk : List (Str × D)}, EntR K mg es lk → lk.lookup z = none → es.find? (·.key.isStr z) = none
  | _, _, .nil, h => rfl
  | _, _, @EntR.cons _ _ _ k t u v x' es lk r q rest, h => by
    rw [List.lookup_cons] at h
    rw [List.find?_cons]
    by_cases c : z = k
    · subst c
      rw [beq_self_eq_true] at h
      cases h
    · rw [show (z == k) = false from beq_eq_false_iff_ne.mpr c] at h
      have e1 : (Value.str k t).isStr z = false := by simp [Value.isStr]; exact fun e => c e.symm
      rw [e1]
      exact EntR.no rest h
theorem EntR.refs : ∀ {es : List DictEntry} {lk : List (Str × D)}, EntR K mg es lk → es.any (·.refKey) = false
  | _, _, .nil => rfl
  | _, _, .cons r q rest => by
    rw [List.any_cons, EntR.refs rest]
    rfl
theorem gd_mk {w : World} {d : Addr} {es : Array DictEntry} {n : Nat} {lk : List (Str × D)} (hl : K.lookup d = some ⟨.type "dict", none, .dict es n, #[]⟩) (hk : PySem.W.KeysLit w.params es.toList) (low : (d == sysModules) = false) (he : EntR K mg es.toList lk) : GDct K w mg d lk where
  kd := ⟨es, n, hl, hk, low⟩
  yes := fun z x h => by
    obtain ⟨e, v, h1, h2, h3⟩ := he.yes h
    refine ⟨v, ⟨es, n, e.val, hl, hk, ?_, h2⟩, h3⟩
    unfold PySem.W.nsIn
    simp only [hl, h1]
  has := fun z => by
    cases h : lk.lookup z with
    | some x =>
      obtain ⟨e, v, h1, h2, h3⟩ := he.yes h
      refine ⟨some e.val, ?_, rfl⟩
      unfold PySem.W.nsIn
      simp only [hl, h1]
    | none =>
      refine ⟨none, ?_, rfl⟩
      unfold PySem.W.nsIn
      simp only [hl, he.no h, he.refs]
      rfl
end
theorem kl_nil {P : Params} : PySem.W.KeysLit P [] := True.intro
theorem kl_cons {P : Params} {e : DictEntry} {r : List DictEntry} (h : ∃ x t, e.key = .str x t ∧ e.hash = PyData.keyHash P x) (g : PySem.W.KeysLit P r) : PySem.W.KeysLit P (e :: r) := ⟨h, g⟩
end Mi

/-! The mirror layer 38: reversed(e), walked; tuple(reversed(e)). -/
namespace Mi
open PySem L2 RT
section
variable [Tabs] {K : PySem.W.Frag} {mg : Str → Option Value} {W : WX} {te : TE} {me : M D}
def iRv (m : M D) : M (List D) := m.bind fun d => match d with
  | .lst xs => M.pure xs.reverse
  | .frz xs => M.pure xs.reverse
  | .tup xs => M.pure xs.reverse
  | .ftp xs => M.pure xs.reverse
  | _ => fun _ => .stuck
theorem rev_get {ds : List D} {i : Nat} {d : D} (h : ds.reverse[i]? = some d) : i < ds.length ∧ ds[ds.length - 1 - i]? = some d := by
  obtain ⟨hl, e⟩ := List.getElem?_eq_some_iff.mp h
  rw [List.length_reverse] at hl
  rw [List.getElem_reverse] at e
  exact ⟨hl, by rw [← e]; exact List.getElem?_eq_getElem _⟩
theorem itr_revL {B : Hp} {a : Addr} {vs : List V} {ds : List D} (h : SqL K B a vs) (r : Reps K mg B vs ds) : ItR K mg (Itv K a vs.length) B ds.reverse := by
  intro B' H g s
  have hH := s.sqL (sqL_mono g h)
  refine ⟨by rw [List.length_reverse, r.length]; exact Nat.le_refl _, fun i d hd => ?_⟩
  obtain ⟨hl, hd⟩ := rev_get hd
  obtain ⟨y, e1, r1⟩ := r.get hd
  rw [← r.length] at e1 hl
  refine ⟨⟨hl, vs, y, hH, e1⟩, fun x H' ⟨e2, hx⟩ => ?_⟩
  subst e2
  have := hx vs hH
  rw [e1] at this
  cases this
  exact ⟨B', Al.refl s, r1.mono g⟩
theorem itr_revT {B : Hp} {a : Addr} {vs : List V} {ds : List D} (h : SqT K B a vs) (r : Reps K mg B vs ds) : ItR K mg (ItvT K a vs.length) B ds.reverse := by
  intro B' H g s
  have hH := s.sqT (sqT_mono g h)
  refine ⟨by rw [List.length_reverse, r.length]; exact Nat.le_refl _, fun i d hd => ?_⟩
  obtain ⟨hl, hd⟩ := rev_get hd
  obtain ⟨y, e1, r1⟩ := r.get hd
  rw [← r.length] at e1 hl
  refine ⟨⟨hl, vs, y, hH, e1⟩, fun x H' ⟨e2, hx⟩ => ?_⟩
  subst e2
  have := hx vs hH
  rw [e1] at this
  cases this
  exact ⟨B', Al.refl s, r1.mono g⟩
theorem rx_iRv (h : RX K mg W (RD K mg) te me) : RX K mg W (RIt K mg) (iRevA K te) (iRv me) := by
  refine h.bind (t2 := fun v _ H1 (R : It → Hp → Prop) => ∃ (a : Addr) (xs : List V), v = V.ref a ∧ ((SqL K H1 a xs ∧ R (Itv K a xs.length) H1) ∨ (SqT K H1 a xs ∧ R (ItvT K a xs.length) H1))) fun v d σ0 B H σ env sm r Q post => ?_
  cases r with
  | lst p rs =>
    have post : Post K mg W (RIt K mg) σ0 σ env B H (.ok _ env) Q := post
    exact ⟨_, _, rfl, .inl ⟨sm.sub.sqL (.of p), post.val sm (itr_revL (.of p) rs)⟩⟩
  | frz p rs =>
    have post : Post K mg W (RIt K mg) σ0 σ env B H (.ok _ env) Q := post
    exact ⟨_, _, rfl, .inl ⟨sm.sub.sqL p, post.val sm (itr_revL p rs)⟩⟩
  | tup p rs =>
    have post : Post K mg W (RIt K mg) σ0 σ env B H (.ok _ env) Q := post
    exact ⟨_, _, rfl, .inr ⟨sm.sub.sqT (.of p), post.val sm (itr_revT (.of p) rs)⟩⟩
  | ftp p rs =>
    have post : Post K mg W (RIt K mg) σ0 σ env B H (.ok _ env) Q := post
    exact ⟨_, _, rfl, .inr ⟨sm.sub.sqT p, post.val sm (itr_revT p rs)⟩⟩
  | _ => exact (post : False).elim
variable {X : Cx} {e tg : Expr} {p pos : Pos}
theorem si_rev (hm : X.mg "reversed" = none) (h : SE X W e te me) (hg : Gl X "reversed" := by rfl) (hs : starEach [e] X.env = (false, eval e X.env) :: starEach [] X.env := by rfl) : SI X W tg (.Call (.Name "reversed" p) [e] [] pos) (iRevA X.K te) (iRv me) :=
  ⟨pi_revA hg hm h.pe hs, (rx_iRv h.rx).ri⟩
/-- tuple(reversed(x)) -/
def revT : D → Option D
  | .lst xs => some (.tup xs.reverse)
  | .frz xs => some (.tup xs.reverse)
  | _ => none
theorem rx_tupRev (h : RX K mg W (RD K mg) te me) : RX K mg W (RD K mg) (tTupRev K te) (eUn revT me) := by
  refine RX.bind (R := RD K mg) (R2 := RD K mg) (t2 := fun v _ H1 (Q : VK) => ∃ (a : Addr) (xs : List V), v = V.ref a ∧ SqL K H1 a xs ∧ ∀ q, H1 q = none → Q (.ref q) (upd H1 q (.tup xs.reverse))) (k := fun a => ofO (revT a)) h fun v d σ0 B H σ env sm r Q post => ?_
  cases r with
  | lst p rs =>
    have post : Post K mg W (RD K mg) σ0 σ env B H (.ok _ env) Q := post
    exact ⟨_, _, rfl, .of (sm.sub.lst p), fun l hn => post.al sm (Al.upd sm.sub hn) (.tup upd_same ((rs.reverse).mono (Al.upd sm.sub hn).g))⟩
  | frz p rs =>
    have post : Post K mg W (RD K mg) σ0 σ env B H (.ok _ env) Q := post
    exact ⟨_, _, rfl, sm.sub.sqL p, fun l hn => post.al sm (Al.upd sm.sub hn) (.tup upd_same ((rs.reverse).mono (Al.upd sm.sub hn).g))⟩
  | _ => exact (post : False).elim
def eTupRevO (i : Nat) : M D := fun env => match getOwnL env i with
  | some xs => .ok (.tup xs.reverse) env
  | none => .stuck
theorem rx_tupRevO {i : Nat} : RX K mg W (RD K mg) (tTupRev K (tVar i)) (eTupRevO i) := by
  intro σ0 B H σ env sm Q post
  unfold eTupRevO at post
  cases e : getOwnL env i with
  | none => rw [e] at post; exact post.elim
  | some xs =>
    rw [e] at post
    obtain ⟨a, p, _, e1, c, _⟩ := sm.getOwn (getOwnL_some e)
    obtain ⟨vs, hl, rs⟩ := c.lst_inv
    exact ⟨_, e1, _, _, rfl, .of hl, fun l hn => post.al sm (Al.upd sm.sub hn) (.tup upd_same ((rs.reverse).mono (Al.upd sm.sub hn).g))⟩
theorem se_tupRev {p2 pos2 : Pos} (hc : X.calm = true) (hm : X.mg "tuple" = none) (hm2 : X.mg "reversed" = none) (h : SE X W e te me) (hg : Gl X "tuple" := by rfl) (hg2 : Gl X "reversed" := by rfl) (hs : starEach [e] X.env = (false, eval e X.env) :: starEach [] X.env := by rfl)
    (hs2 : starEach [.Call (.Name "reversed" p2) [e] [] pos2] X.env = (false, eval (.Call (.Name "reversed" p2) [e] [] pos2) X.env) :: starEach [] X.env := by rfl) :
    SE X W (.Call (.Name "tuple" p) [.Call (.Name "reversed" p2) [e] [] pos2] [] pos) (tTupRev X.K te) (eUn revT me) := ⟨pe_tupRev hc hg hm hg2 hm2 h.pe hs hs2, rx_tupRev h.rx⟩
theorem se_tupRevO {x : Str} {p3 p2 pos2 : Pos} (i : Nat) (hc : X.calm = true) (hm : X.mg "tuple" = none) (hm2 : X.mg "reversed" = none) (hN : X.N[i]? = some x := by rfl) (hv : Vis X.env.scope x := by first | exact Or.inl rfl | exact Or.inr (Or.inl rfl) | exact Or.inr (Or.inr rfl)) (hd : (x == ("__debug__" : Str)) = false := by decide)
    (hcd : (x == ("__classdict__" : Str)) = false := by decide) (hg : Gl X "tuple" := by rfl) (hg2 : Gl X "reversed" := by rfl) (hs : starEach [.Name x p3] X.env = (false, eval (.Name x p3) X.env) :: starEach [] X.env := by rfl)
    (hs2 : starEach [.Call (.Name "reversed" p2) [.Name x p3] [] pos2] X.env = (false, eval (.Call (.Name "reversed" p2) [.Name x p3] [] pos2) X.env) :: starEach [] X.env := by rfl) :
    SE X W (.Call (.Name "tuple" p) [.Call (.Name "reversed" p2) [.Name x p3] [] pos2] [] pos) (tTupRev X.K (tVar i)) (eTupRevO i) := ⟨pe_tupRev hc hg hm hg2 hm2 (pe_var hN hv hd hcd) hs hs2, rx_tupRevO⟩
end
end Mi

/-! The mirror layer 39: list(range(n)). -/
namespace Mi
open PySem L2
section
variable [Tabs] {K : PySem.W.Frag} {mg : Str → Option Value} {W : WX} {te : TE} {me : M D}
def okRg (n : Int) : Bool := Nat.ble n.toNat 16777216 && Nat.ble (-n).toNat 16777216
def lstRg : D → Option D
  | .int n => if okRg n = true then some (.lst (rngD 0 n.toNat)) else none
  | _ => none
theorem rgOk_of {n : Int} (h : okRg n = true) : RgOk 0 n := by
  unfold okRg at h
  rw [Bool.and_eq_true] at h
  have h1 := Nat.le_of_ble_eq_true h.1
  have h2 := Nat.le_of_ble_eq_true h.2
  unfold RgOk
  omega
theorem rgV_reps {B : Hp} {n : Int} : Reps K mg B (rgV 0 n) (rngD 0 n.toNat) := by
  have key : ∀ l : List Nat, Reps K mg B (l.map fun (k : Nat) => V.int (0 + (k : Int))) (l.map fun (k : Nat) => D.int (0 + (k : Int))) := by
    intro l
    induction l with
    | nil => exact .nil
    | cons k l ih => exact .cons (.int _) ih
  unfold rgV rngD
  rw [show ((n - 0).toNat) = n.toNat by simp]
  exact key _
theorem rn_lstRg (h : RX K mg W (RD K mg) te me) : RN K mg W (tLstRg (tRg1 te)) (eUn lstRg me) := by
  intro σ0 B H σ env sm Q post
  show te σ H fun x H1 => ∃ n, x = V.int n ∧ (RgOk 0 n ∧ ∀ q, H1 q = none → Q (.ref q) (upd H1 q (.lst (rgV 0 n))))
  refine h.goN sm post fun v d B1 H1 env1 sm1 g1 r1 post1 => ?_
  cases r1 with
  | int n =>
    have post1 : PostN K mg W σ0 σ env1 B1 H1 (ofO (if okRg n = true then some (.lst (rngD 0 n.toNat)) else none) env1) Q := post1
    by_cases c : okRg n = true
    · rw [if_pos c] at post1
      have post2 : PostN K mg W σ0 σ env1 B1 H1 (.ok (.lst (rngD 0 n.toNat)) env1) Q := post1
      exact ⟨n, rfl, rgOk_of c, fun q hq => post2.new sm1 hq (.lst upd_same rgV_reps)⟩
    · rw [if_neg c] at post1; exact post1.elim
  | _ => exact (post1 : False).elim
variable {X : Cx} {e : Expr} {p p2 pos pos2 : Pos}
theorem sn_lstRg (hc : X.calm = true) (hm : X.mg "list" = none) (hm2 : X.mg "range" = none) (h : SE X W e te me) (hg : Gl X "list" := by rfl) (hg2 : Gl X "range" := by rfl) (na : starEach [e] X.env = (false, eval e X.env) :: starEach [] X.env := by rfl)
    (na2 : starEach [.Call (.Name "range" p2) [e] [] pos2] X.env = (false, eval (.Call (.Name "range" p2) [e] [] pos2) X.env) :: starEach [] X.env := by rfl) :
    SN X W (.Call (.Name "list" p) [.Call (.Name "range" p2) [e] [] pos2] [] pos) (tLstRg (tRg1 te)) (eUn lstRg me) :=
  ⟨pe_listRg hc hg hm (prg_1 hg2 hm2 h.pe na) na2, rn_lstRg h.rx⟩
end
end Mi

/-! The mirror layer 40: a + b of lists, as a new list. -/
namespace Mi
open PySem L2
section
variable [Tabs] {K : PySem.W.Frag} {mg : Str → Option Value} {W : WX} {ta tb : TE} {ma mb : M D}
def dCatL : D → D → Option D
  | .lst xs, .lst ys => if xs.length + ys.length ≤ 16777216 then some (.lst (xs ++ ys)) else none
  | _, _ => none
theorem rn_catL (ha : RX K mg W (RD K mg) ta ma) (hb : RX K mg W (RD K mg) tb mb) : RN K mg W (tOp (rAddA K) ta tb) (eOp dCatL ma mb) := by
  have hz : sizeLine = 16777216 := sizeLine_eq
  intro σ0 B H σ env sm Q post
  show ta σ H fun x H1 => tb σ H1 fun y H2 => rAddA K x y H2 Q
  refine ha.goN sm post fun v d B1 H1 env1 sm1 g1 r1 post1 => ?_
  refine hb.goN sm1 post1 fun w e B2 H2 env2 sm2 g2 r2 post2 => ?_
  have r1 := Rep.mono g2 r1
  cases e1 : dCatL d e with
  | none => rw [e1] at post2; exact post2.elim
  | some z =>
    rw [e1] at post2
    have post2 : PostN K mg W σ0 σ env2 B2 H2 (.ok z env2) Q := post2
    unfold dCatL at e1
    split at e1
    · split at e1
      · rename_i hl
        cases e1
        cases r1 with
        | lst p1 q1 =>
          cases r2 with
          | lst p2 q2 =>
            have l1 := q1.length
            have l2 := q2.length
            exact .inr (.inr (.inr ⟨_, _, _, _, rfl, rfl, sm2.sub.lst p1, sm2.sub.lst p2, by omega, fun p hp => post2.new sm2 hp (.lst upd_same (q1.append q2))⟩))
      · cases e1
    · cases e1
variable {X : Cx} {a b : Expr} {pos : Pos}
theorem sn_catL (ha : SE X W a ta ma) (hb : SE X W b tb mb) : SN X W (.BinOp a .Add b pos) (tOp (rAddA X.K) ta tb) (eOp dCatL ma mb) := ⟨pe_op or_add ha.pe hb.pe, rn_catL ha.rx hb.rx⟩
end
end Mi

/-! The mirror layer 41: o.m() that gives a new container. -/
namespace Mi
open PySem L2
section
variable [Tabs] {W : WX} {c m : Str} {C : Addr} {te : TE} {me : M D} {X : Cx} {k : Nat} {f : Addr} {fd : FuncData} {ps : List Str} {x : Str} {p pos apos : Pos} {o : Expr} {np : Nat} {mf : List Slot → Fin} {pl : Sem Bool}
theorem sn_meth0 (hc : X.mg c = some (.ref C)) (cl : Cls X.K C) (hm : Meth X.K C m f) (F : FnOk X.prog X.w X.K X.mg X.base (L2.CX X.prog X.w) k f fd ps (SpM X.K X.mg np mf)) (hr : Room k X.A) (hb : Binds X.K fd ps []) (tk : Takes X W) (ho : SE X W o te me)
    (ht : eval (.Call (.Attribute o m apos) [] [] pos) X.env = (do
      let ov ← eval o X.env
      standAt apos.atName
      let (f, first) ← holding [ov] (getMethod ov m pl)
      callWith pos f first (backTo pos (starEach [] X.env)) (backToKw pos (keywordEach [] X.env))) := by rfl) :
    SN X W (.Call (.Attribute o m apos) [] [] pos) (tCallS (SpM X.K X.mg np mf) (WE W) (tConsM C m te tNil)) (eCallN np mf (rShM c m me rNil)) :=
  ⟨pe_methW0 ho.pe cl hm F hr hb (fun σ => passAt tk σ) ht, rn_call (fun _ _ _ _ h => h) (rr_shM hc ho.rx (sr_nil (X := X) (W := W)).rx)⟩
theorem sn_methO0 (i : Nat) (hc : X.mg c = some (.ref C)) (cl : Cls X.K C) (hm : Meth X.K C m f) (F : FnOk X.prog X.w X.K X.mg X.base (L2.CX X.prog X.w) k f fd ps (SpM X.K X.mg np mf)) (hr : Room k X.A) (hb : Binds X.K fd ps []) (tk : Takes X W)
    (hN : X.N[i]? = some x := by rfl) (hv : Vis X.env.scope x := by first | exact Or.inl rfl | exact Or.inr (Or.inl rfl) | exact Or.inr (Or.inr rfl)) (hd : (x == ("__debug__" : Str)) = false := by decide) (hcd : (x == ("__classdict__" : Str)) = false := by decide)
    (ht : eval (.Call (.Attribute (.Name x p) m apos) [] [] pos) X.env = (do
      let ov ← eval (.Name x p) X.env
      standAt apos.atName
      let (f, first) ← holding [ov] (getMethod ov m pl)
      callWith pos f first (backTo pos (starEach [] X.env)) (backToKw pos (keywordEach [] X.env))) := by rfl) :
    SN X W (.Call (.Attribute (.Name x p) m apos) [] [] pos) (tCallS (SpM X.K X.mg np mf) (WE W) (tConsM C m (tVar i) tNil)) (eCallN np mf (rIoM c m i rNil)) :=
  ⟨pe_methW0 (pe_var hN hv hd hcd) cl hm F hr hb (fun σ => passAt tk σ) ht, rn_call (fun _ _ _ _ h => h) (rr_ioM i hc (sr_nil (X := X) (W := W)).rx)⟩
theorem rep_list {K : PySem.W.Frag} {mg : Str → Option Value} {a : Addr} {o : Obj} {its : Array Value} {n : Nat} {vs : List V} {ds : List D} (hk : K.lookup a = some o) (hc : o.cls = .type "list") (hdi : o.dict = none) (hd : o.data = .seq its n) (hz : its.size ≤ sizeLine) (hv : Vals vs its.toList) (h : ∀ B, Reps K mg B vs ds) :
    ∀ B, Rep K mg B (.ref a) (.frz ds) := fun B => .frz (.inr ⟨o, its, n, hk, hc, hdi, hd, hz, hv⟩) (h B)
end
end Mi

/-! The mirror layer 42: an error raised within a list comprehension. -/
namespace Mi
open PySem L2
variable [Tabs]

theorem note_by_frame {x : Value} {e1 e2 : Env} (h : e1.frame = e2.frame) : noteFrame x e1 = noteFrame x e2 := by
  unfold noteFrame frameOf
  rw [h]
theorem pass_by_frame {α : Type} {what : String} {x : Value} {e1 e2 : Env} (h : e1.frame = e2.frame) : (PySem.passOn what x e1 : Sem α) = PySem.passOn what x e2 := by
  unfold PySem.passOn
  rw [h]
/-- the frame is noted, whatever the flight was set to -/
theorem looks_any {M : Model} {A : Around} {E : Value → Shared → Prop} {s : Shared} {Z : Obj → Prop} {bs : Heap} {en : Env} {rest : List Env} {L a : Addr} {fl : Value} {Q : Unit → Shared → Prop}
    (st : HandSPX.Steady Z) (fr : A.frames = some (en :: rest)) (ef : en.frame = some L) (kb : bs.StaysIn s.heap) (an : bs.get? a = none) (ff : s.heap.FunFrames bs (en :: rest)) (tr : HandSPX.TracedZ s.heap bs a Z fl) (nf : (fl == rawInt L) = false)
    (fin : ∀ h1, HandSPX.HeldZ bs (en :: rest) a Z L h1 → s.heap.UpToSlots h1 → Q () { s with heap := h1 }) : wpAny M A (noteFrame (.ref a) en) Q E s := by
  obtain ⟨ox, xs, T, oT, ys, g1, g2, g3, g4, g5, g6, g7, g8, g9⟩ := tr
  unfold noteFrame
  simp only [ef]
  refine wpAny_bind (wpAny_field g1 g3 g4 ?_)
  rw [if_pos (by simp)]
  refine wpAny_bind (wpAny_field g7 g8 g9 ?_)
  rw [if_neg (by rw [nf]; decide)]
  refine wpAny_bind (wpAny_setField g7 g8 (Array.getElem?_eq_some_iff.mp g9).1 ?_)
  have oth : ∀ b, b ≠ T → (s.heap.update T (Obj.mapFields (·.setIfInBounds 3 Value.none))).get? b = s.heap.get? b := fun b nb => Heap.get?_update_other _ _ nb.symm
  have recd : ∀ b o, s.heap.get? b = some o → (∀ us, o.data ≠ .fields us) → b ≠ T := fun b o p q z => by
    subst z
    rw [g7] at p
    cases p
    exact q _ g8
  have ff2 := ff.of_keeps (h' := s.heap.update T (Obj.mapFields (·.setIfInBounds 3 Value.none))) fun b o p q => ⟨o, (oth b (recd b o p q)).trans p, rfl⟩
  have kb2 : bs.StaysIn (s.heap.update T (Obj.mapFields (·.setIfInBounds 3 Value.none))) := fun b o p => (oth b fun z => by subst z; rw [g5] at p; cases p).trans (kb b o p)
  refine HandSPX.wpAny_entryZ st fr ff2 ef ((oth a g6.symm).trans g1) kb2 an g3 (Array.getElem?_eq_some_iff.mp g4).1 g2 fun h1 nt => ?_
  obtain ⟨n1, n2, n3, n4⟩ := nt
  exact fin h1 ⟨n1, an, n2, n3⟩ fun b o p q => n4 b o ((oth b (recd b o p q)).trans p) q
theorem frames_cut {B B2 h1 h2 : Heap} {C : Addr} (n2 : ∀ b, B.get? b = none → B2.get? b = none) (o2 : ∀ b o, b ≠ C → h1.get? b = some o → h2.get? b = some o) : ∀ {l : List Env}, h1.FunFrames B l → (∀ b ∈ frs l, b ≠ C) → h2.FunFrames B2 l
  | [], _, _ => trivial
  | e :: l, h, hn => by
    obtain ⟨k, ⟨L, o, f1, f2, f3, f4⟩, r⟩ := h
    have hL : L ∈ frs (e :: l) := List.mem_filterMap.mpr ⟨e, List.mem_cons_self, f1⟩
    refine ⟨k, ⟨L, o, f1, n2 L f2, o2 L o (hn L hL) f3, f4⟩, frames_cut n2 o2 r fun b hb => ?_⟩
    obtain ⟨x, p, q⟩ := List.mem_filterMap.mp hb
    exact hn b (List.mem_filterMap.mpr ⟨x, List.mem_cons_of_mem _ p, q⟩)
/-- the block's context, with what is wanted of its errors -/
abbrev blkX (X : Cx) (s : Shared) (H : Hp) (scope : Scope) (cenv : Env) (fp : List Addr) (bx : Value → Shared → Prop) : Cx := { X.blk s H scope cenv fp with xe := bx }
section
variable {X : Cx} {pins : List (Addr × Obj)} {σ : L2.St} {H H3 : Hp} {s s3 : Shared} {W : WX} {scope : Scope} {ce : Env} {fp : List Addr} {bx : Value → Shared → Prop}
theorem inv_wx (bx : Value → Shared → Prop) (I : Inv X pins σ H s) : Inv { X with xe := bx } pins σ H s :=
  ⟨⟨I.ok.mod, I.ok.kind, I.ok.glob, I.ok.blt, I.ok.above, I.ok.inj, I.ok.has, I.ok.cab, I.ok.hd, I.ok.frames, I.ok.stk, I.ok.exf, I.ok.bs, I.ok.bsz, I.ok.noex, I.ok.exfs, I.ok.funs, I.ok.frf⟩, I.os, I.bare, I.base, I.loc, I.cell, I.free, I.freeC, I.pin, I.hok, I.len⟩
/-- behind an error of the block -/
def blkErr (X : Cx) (ce : Env) (u : Value) (s2 : Shared) : Prop := ∃ m, s2.heap.Ns ce.locals m ∧ ∀ h2, Heap.SameBut ce.locals s2.heap h2 → wpAny (model X.prog X.w) X.A (PySem.passOn "comprehension.variables-let-go" u ce : Sem Value) (fun _ _ => False) X.xe { s2 with heap := h2 }
theorem err_blk (hs : X.stack = X.env :: X.outer) (hf : X.env.frame = some X.env.locals) (tk : Takes X W) (I3 : Inv X pins σ H3 s3) (hfp : ∀ b ∈ fp, FpOk X pins H3 b) (hcf : ce.frame = X.env.frame)
    {u : Value} {s' : Shared} (x : XE (blkX X s3 H3 scope ce fp bx) (fun cls d _ H => W cls d σ H) u s') {E1 : Value → Shared → Prop} :
    wpAny (model X.prog X.w) X.A (noteFrame u ce) (fun _ s2 => blkErr X ce u s2) E1 s' := by
  obtain ⟨a, B, sI, pp, τ, H, cls, d, rfl, I, nb, up, sky, na, os, ag, w⟩ := x
  have hfr : X.A.frames = some (X.env :: X.outer) := by rw [I3.ok.frames, hs]
  have habove : s3.heap.objs.size ≤ ce.locals := I.ok.above
  have hCL : ce.locals ≠ X.env.locals := Nat.ne_of_gt (Nat.lt_of_lt_of_le I3.lt habove)
  have hCs : ∀ b ∈ frs X.stack, b ≠ ce.locals := fun b hb z => by
    obtain ⟨_, o, ho, _⟩ := I3.stack.mem hb
    have h1 := Heap.lt_size ho
    rw [z] at h1
    exact absurd (Nat.lt_of_lt_of_le h1 habove) (Nat.lt_irrefl _)
  obtain ⟨m, hn, _⟩ := I.loc
  obtain ⟨oC, es, ep, hoC, rC⟩ := hn
  have hBC : B.get? ce.locals = some oC := nb _ oC hoC fun z => hCs _ z rfl
  have sky : Sky B (X.env :: X.outer) a (Zc cls d) ce.locals s'.heap := by rw [← hs]; exact sky
  rw [note_by_frame hcf]
  have land : ∀ h1, HandSPX.HeldZ B (X.env :: X.outer) a (Zc cls d) X.env.locals h1 → s'.heap.UpToSlots h1 → blkErr X ce (.ref a) { s' with heap := h1 } := fun h1 hh up1 => by
    refine ⟨m, ⟨oC, es, ep, hh.1 _ _ hBC, rC⟩, fun h2 sb => ?_⟩
    have o2 : ∀ b o, b ≠ ce.locals → h1.get? b = some o → h2.get? b = some o := fun b o hb e => (sb.2 b hb).trans e
    obtain ⟨B2, eB2⟩ : ∃ B2, B2 = PySem.W.hideAll B [ce.locals] := ⟨_, rfl⟩
    have b1 : ∀ b o, B2.get? b = some o → B.get? b = some o ∧ b ≠ ce.locals := fun b o e => by
      subst eB2
      refine ⟨PySem.W.of_hideAll _ e, fun z => ?_⟩
      rw [PySem.W.hideAll_none [ce.locals] (by simp [z])] at e
      cases e
    have b2 : ∀ b o, b ≠ ce.locals → B.get? b = some o → B2.get? b = some o := fun b o hb e => by
      subst eB2
      exact PySem.W.hideAll_get _ e (by simpa using hb)
    have n2 : ∀ b, B.get? b = none → B2.get? b = none := fun b e => by
      cases q : B2.get? b with
      | none => rfl
      | some o => rw [(b1 b o q).1] at e; cases e
    have hh2 : HandSPX.HeldZ B2 (X.env :: X.outer) a (Zc cls d) X.env.locals h2 := by
      obtain ⟨st, an, fr, ox, xs, T, oT, ys, g1, g2, g3, g4, g5, g6, g7, g8, g9⟩ := hh
      have haC : a ≠ ce.locals := fun z => by rw [z, hBC] at an; cases an
      have hTC : T ≠ ce.locals := fun z => by rw [z, hBC] at g5; cases g5
      exact ⟨fun b o e => o2 b o (b1 b o e).2 (st b o (b1 b o e).1), n2 a an, frames_cut n2 o2 fr fun b hb => hCs b (by rw [hs]; exact hb), ox, xs, T, oT, ys, o2 _ _ haC g1, g2, g3, g4, n2 T g5, g6, o2 _ _ hTC g7, g8, g9⟩
    rw [pass_by_frame hcf]
    unfold PySem.passOn
    obtain ⟨ox, xs, T, oT, ys, g1, g2, g3, g4, g5, g6, g7, g8, g9⟩ := id hh2.2.2.2
    refine wpAny_bind (wpAny_field g1 g3 g4 ?_)
    rw [if_neg (by simp)]
    refine wpAny_bind ?_
    rw [hf]
    refine HandSPX.setFlight_onZ hh2 fun h3 hh3 up3 => wpAny_throw (tk _ _ ?_)
    obtain ⟨g, eg⟩ : ∃ g, g = PySem.W.hideAll sI.heap [ce.locals] := ⟨_, rfl⟩
    have c1 : ∀ b o, g.get? b = some o → sI.heap.get? b = some o ∧ b ≠ ce.locals := fun b o e => by
      subst eg
      refine ⟨PySem.W.of_hideAll _ e, fun z => ?_⟩
      rw [PySem.W.hideAll_none [ce.locals] (by simp [z])] at e
      cases e
    have c2 : ∀ b o, b ≠ ce.locals → sI.heap.get? b = some o → g.get? b = some o := fun b o hb e => by
      subst eg
      exact PySem.W.hideAll_get _ e (by simpa using hb)
    have ne3 : ∀ b o, s3.heap.get? b = some o → b ≠ ce.locals := fun b o e z => by
      have h1 := Heap.lt_size e
      rw [z] at h1
      exact absurd (Nat.lt_of_lt_of_le h1 habove) (Nat.lt_irrefl _)
    have hC : H ce.locals = none := I.free
    have J : Inv X pins σ H { sI with heap := g } := by
      refine I3.call' (ch := fp) (s' := { sI with heap := g }) I.os ?_ (fun b o q => (I.hok b o q).stay (fun c v hc r => c2 c v (fun z => ?_) r) (fun _ r => r) fun _ _ r => r) I.bare fun b hb => ⟨(hfp b hb).2.2.2.1, (hfp b hb).2.1, (hfp b hb).2.2.2.2.1, (hfp b hb).2.2.2.2.2⟩
      · have U := I.base
        exact ⟨fun b o e n x y => c2 b o (ne3 b o e) (U.keep b o e n x y), fun b o e n x y => (U.slot b o e n x y).imp fun sl z => c2 b _ (ne3 b o e) z, U.free, fun b o e x => (U.there b o e x).imp fun o' z => c2 b o' (ne3 b o e) z, U.tups, U.frzs, U.tbls⟩
      · rcases hc with hc | hc
        · rw [← hc, z] at q; rw [hC] at q; cases q
        · rw [z, hC] at hc; cases hc
    refine ⟨a, B2, { sI with heap := g }, pins, σ, H, cls, d, rfl, J, fun b o e hb => b2 b o (c1 b o e).2 (nb b o (c1 b o e).1 hb), fun b o e q => ?_, .inr (.inr (by rw [hs]; exact hh3)), na, os, ag, w⟩
    obtain ⟨e1, hbC⟩ := c1 b o e
    obtain ⟨sl, p1⟩ := up b o e1 q
    obtain ⟨sl2, p2⟩ := up1 b _ p1 q
    obtain ⟨sl3, p3⟩ := up3 b _ (o2 b _ hbC p2) q
    exact ⟨sl3, p3⟩
  rcases sky with ⟨k1, k2, k3, ox, xs, k4, k5, k6, k7⟩ | k | k
  · exact HandSPX.look_newZ Zc.steady hfr k3 hf k4 k1 k2 k6 k7 k5 land
  · exact HandSPX.looks_onZ Zc.steady hfr hf k land
  · exact looks_any Zc.steady hfr hf k.1 k.2.1 k.2.2.1 k.2.2.2 (by simp only [rawInt, beq_eq_false_iff_ne, ne_eq, Value.int.injEq, Int.natCast_inj]; exact fun z => hCL z.1) land
end
end Mi

/-! The mirror layer 43: a list comprehension whose element may raise: the walk of its block. -/
namespace Mi
open PySem L2
variable [Tabs]

/-- behind the block: its names are let go, or its error flies on -/
def blkEnd (X : Cx) (use : Option (Value → Sem Unit)) (Qf : Value → Shared → Prop) (acc : Value) (ce : Env) (r : Result) (s1 : Shared) : Prop :=
  match r, use with
  | .ok _, none => ∃ m, s1.heap.Ns ce.locals m ∧ ∀ h1, Heap.SameBut ce.locals s1.heap h1 → Qf acc { s1 with heap := h1 }
  | .ok _, some f => wpAny (model X.prog X.w) X.A (f acc) (fun _ s2 => ∃ m, s2.heap.Ns ce.locals m ∧ ∀ h1, Heap.SameBut ce.locals s2.heap h1 → Qf .none { s2 with heap := h1 }) X.xe s1
  | .error x, _ => blkErr X ce x s1
theorem comp_free {X : Cx} {s : Shared} {e : Expr} {scope : Scope} {pos : Pos} {acc0 start : Sem Value} {c : Comprehension} {cs : List Comprehension} {clo : List (Str × Addr)} {use : Option (Value → Sem Unit)} {Qf : Value → Shared → Prop}
    (ec : clausesOf e = c :: cs) (ef : ∀ x, foldedSetIterable c.iter X.env x = pure x) (eclo : closureFor scope X.env = pure clo) (hk : scope.kind = .function) (hl : ∀ x ∈ scope.names, x.2 = .local → scope.names.lookup x.1 = some .local)
    (h : wpAny (model X.prog X.w) X.A start (fun x s1 => wpAny (model X.prog X.w) X.A (pyIter x) (fun it s2 => wpAny (model X.prog X.w) X.A acc0 (fun acc s3 =>
      wpAny (model X.prog X.w) X.A (newFunctionEnv scope X.env.globals clo [] X.env.qual none .none (some X.env)) (fun ce s4 =>
        codeAny (model X.prog X.w) X.A (.compStart e 0 it acc { ce with scope := relabel scope X.env }) (blkEnd X use Qf acc { ce with scope := relabel scope X.env }) s4) X.xe s3) X.xe s2) X.xe s1) X.xe s) :
    wpAny (model X.prog X.w) X.A (PySem.comprehension e scope X.env pos acc0 false start use) Qf X.xe s := by
  unfold PySem.comprehension
  rw [eclo, ec]
  refine wpAny_bind (thn h fun x s1 h1 => wpAny_bind (wpAny_standAt (wpAny_bind (wpAny_of_eq (ef x) (wpAny_bind (wpAny_holding (thn h1 fun it s2 h2 => ?_)))))))
  refine wpAny_standIf (wpAny_bind (thn h2 fun acc s3 h3 => wpAny_bind (wpAny_pure (wpAny_bind (thn h3 fun ce s4 h4 => ?_)))))
  dsimp only
  have q1 : ∀ x ∈ (scope.names.filter fun x => (x.2 == .local || x.2 == .cell) && x.1 != (".0" : Str)).reverse, x.2 = .local → ({ ce with scope := relabel scope X.env } : Env).kindOf x.1 = some .local := fun x hx q =>
    lookup_relabel_local (hl x (List.mem_filter.mp (List.mem_reverse.mp hx)).1 q)
  have q2 : ∀ x ∈ (scope.names.filter fun x => (x.2 == .local || x.2 == .cell) && x.1 != (".0" : Str)).reverse.drop 1 ++ (scope.names.filter fun x => (x.2 == .local || x.2 == .cell) && x.1 != (".0" : Str)).reverse.take 1, x.2 = .local → ({ ce with scope := relabel scope X.env } : Env).kindOf x.1 = some .local := fun x hx q =>
    (List.mem_append.mp hx).elim (fun z => q1 x (List.mem_of_mem_drop z) q) fun z => q1 x (List.mem_of_mem_take z) q
  refine wpAny_holding (wpAny_bind (wpAny_attempt (wpAny_holding (wpAny_run (codeAny_mono h4 fun r s5 hr => ?_)))))
  cases r with
  | ok f =>
    cases use with
    | none =>
      obtain ⟨m, hn, hq⟩ := hr
      refine wpAny_bind (wpAny_holding ?_)
      exact wpAny_comp_letGo (cenv := { ce with scope := relabel scope X.env }) hk _ s5 m q1 hn fun h6 m6 _ sb => wpAny_pure (hq h6 sb)
    | some g =>
      refine wpAny_bind (wpAny_rule (wpAny_bind (wpAny_holding (thn hr fun _ s6 hq => ?_))))
      obtain ⟨m, hn, hq⟩ := hq
      refine wpAny_bind ?_
      exact wpAny_comp_letGo (cenv := { ce with scope := relabel scope X.env }) hk _ s6 m q2 hn fun h6 m6 _ sb => wpAny_pure (hq h6 sb)
  | error x =>
    have hr : blkErr X { ce with scope := relabel scope X.env } x s5 := by cases use <;> exact hr
    obtain ⟨m, hn, hq⟩ := hr
    refine wpAny_bind (wpAny_holding ?_)
    exact wpAny_comp_letGo (cenv := { ce with scope := relabel scope X.env }) hk _ s5 m q1 hn fun h6 m6 _ sb => wpAny_mono (hq h6 sb) (fun _ _ z => z.elim) fun _ _ z => z

/-- [elt for tg in iter if ..], what is wanted of an error handed to elt's reading -/
def tLcX (W : WX) (wi : TI) (g : TG) (tt : TT) (te : WX → TE) (vs : List Nat) : TE := fun σ H Q => wi σ H fun J H1 => ∀ D, H1 D = none → ∃ I : Nat → Nat → Hp → Prop, (∃ m, I 0 m (upd H1 D (.lst []))) ∧ ∀ i m H2, I i m H2 →
  (J.stop i H2 ∧ Q (.ref D) H2) ∨ (J.go i H2 ∧ ∃ Nx : Hp → Prop, (∀ H3, Nx H3 → ∃ m3, m3 < m ∧ I (i + 1) m3 H3) ∧ ∀ x H3, J.yld i H2 x H3 → g x (wipe σ vs) H3 fun σ2 H4 => wipe σ2 vs = wipe σ vs ∧ tt σ2 H4 fun b H5 =>
    if b = true then te (fun cls d _ H6 => W cls d σ H6) σ2 H5 fun y H6 => ∃ acc, H6 D = some (.lst acc) ∧ acc.length < sizeLine ∧ Nx (upd H6 D (.lst (acc ++ [y]))) else Nx H5)
section
variable {X : Cx} {W : WX} {elt tg iter : Expr} {ifs : List Expr} {scope : Scope} {own : List (Str × Nat)} {pos pos2 : Pos} {wi : TI} {g : TG} {tt : TT} {te : WX → TE}
theorem lc_coreX {pins : List (Addr × Obj)} {s : Shared} {σ : L2.St} {H : Hp} {Q : VK} {use : Option (Value → Sem Unit)} {Qf : Value → Shared → Prop}
    (hs : X.stack = X.env :: X.outer) (hf : X.env.frame = some X.env.locals) (tk : Takes X W) (hc : X.calm = true) (hN : X.N.Nodup) (I : Inv X pins σ H s) (hi : PI X tg iter wi) (ok : BlkOk X.N X.env.scope scope own)
    (pgs : ∀ s H C cl fp bx, PG (blkX X s H scope (compEnvC scope cl C X.env) fp bx) tg g) (pts : ∀ s H C cl fp bx, PTs (blkX X s H scope (compEnvC scope cl C X.env) fp bx) ifs tt)
    (pes : ∀ s H C cl fp bx V, Takes (blkX X s H scope (compEnvC scope cl C X.env) fp bx) V → PE (blkX X s H scope (compEnvC scope cl C X.env) fp bx) elt (te V)) (ef : ∀ x, foldedSetIterable iter X.env x = pure x)
    (h : tLcX W wi g tt te (own.map (·.2)) σ H Q)
    (fin : ∀ D ce s1 m H1, Inv X pins σ H1 s1 → Q (.ref D) H1 → s1.heap.Ns ce.locals m → FpOk X pins H1 ce.locals → blkEnd X use Qf (.ref D) ce (.ok .next) s1) :
    wpAny (model X.prog X.w) X.A (PySem.comprehension (.ListComp elt [⟨tg, iter, ifs, 0⟩] scope pos) scope X.env pos2 (newList []) false (eval iter X.env) use) Qf X.xe s := by
  have free : ∀ y ∈ scope.names, y.2 = .free → ∃ c, X.env.cells.lookup y.1 = some c := fun y hy e => (ok.free y hy e).elim (fun k => I.ok.has _ (.inl k)) fun k => I.ok.has _ (.inr k)
  refine comp_free (use := use) rfl ef (closure_ok free) ok.kind (fun y hy e => by rw [ok.uniq y hy, e]) (thn (hi.run pins s σ H _ I h) fun xv s1 hx => thn hx fun itv s2 h2 => ?_)
  obtain ⟨it, fp, tn, J, H2, e, I2, T, st2, f2, q⟩ := h2
  subst e
  refine wpAny_newObj_type (newEnv_comp ?_) (Nat.zero_le _)
  generalize eD : s2.heap.objs.size = D
  have nD : H2 D = none := I2.hok.fresh (Nat.le_of_eq eD)
  obtain ⟨Iv, ⟨m0, w0⟩, turn⟩ := q D nD
  generalize es3 : ({ s2 with heap := s2.heap.push { cls := .type "list", data := .seq ([] : List Value).toArray } } : Shared) = s3
  have e3 : s3.heap = s2.heap.push { cls := .type "list", data := .seq ([] : List Value).toArray } := by rw [← es3]
  have I3 : Inv X pins σ (upd H2 D (.lst [])) s3 := by
    subst es3
    refine I2.laid (t' := s2.toks) (fun b o p => Heap.get?_push_of_some _ p) (Nat.le_of_eq eD) ⟨Nat.zero_le _, [], 0, .nil, ?_⟩
    subst eD
    exact Heap.get?_push_size _ rfl
  have f3 : ∀ b ∈ fp, FpOk X pins (upd H2 D (.lst [])) b ∧ b < s3.heap.objs.size := fun b hb => by
    obtain ⟨o, p, _⟩ := T.obj _ _ st2 b hb
    have lt := Heap.lt_size p
    refine ⟨⟨?_, (f2 b hb).2⟩, by rw [e3, Heap.size_push]; exact Nat.lt_succ_of_lt lt⟩
    rw [upd_ne (Nat.ne_of_lt (by rw [← eD]; exact lt))]
    exact (f2 b hb).1
  have st3 : tn 0 s3.heap := T.keep _ _ _ st2 fun b _ o p => by rw [e3]; exact Heap.get?_push_of_some _ p
  have I4 := block_start I3 ok hN f3
  have nfp : ∀ b ∈ fp, (upd H2 D (.lst [])) b = none := fun b hb => (f3 b hb).1.1
  have pgs := fun bx => pgs s3 (upd H2 D (.lst [])) s3.heap.objs.size (cellsFrom (s3.heap.objs.size + 1) scope.names (cloFrom X.env.cells scope.names [])) fp bx
  have pts := fun bx => pts s3 (upd H2 D (.lst [])) s3.heap.objs.size (cellsFrom (s3.heap.objs.size + 1) scope.names (cloFrom X.env.cells scope.names [])) fp bx
  have pes := fun bx => pes s3 (upd H2 D (.lst [])) s3.heap.objs.size (cellsFrom (s3.heap.objs.size + 1) scope.names (cloFrom X.env.cells scope.names [])) fp bx
  show codeAny _ _ (.compStart (.ListComp elt [⟨tg, iter, ifs, 0⟩] scope pos) 0 (.ref it) (.ref D) (compEnvC scope (cellsFrom (s3.heap.objs.size + 1) scope.names (cloFrom X.env.cells scope.names [])) s3.heap.objs.size X.env))
    (blkEnd X use Qf (.ref D) (compEnvC scope (cellsFrom (s3.heap.objs.size + 1) scope.names (cloFrom X.env.cells scope.names [])) s3.heap.objs.size X.env)) { s3 with heap := pushCells (s3.heap.push { cls := .type "dict", data := .dict #[] }) scope.names }
  generalize ece : compEnvC scope (cellsFrom (s3.heap.objs.size + 1) scope.names (cloFrom X.env.cells scope.names [])) s3.heap.objs.size X.env = ce at I4 pgs pts pes ⊢
  have cL : ce.locals = s3.heap.objs.size := by rw [← ece]; rfl
  have cF : ce.frame = X.env.frame := by rw [← ece]; rfl
  generalize eH3 : upd H2 D (.lst []) = H3 at I3 I4 pgs pts pes w0 nfp f3
  obtain ⟨R, eR⟩ : ∃ R, R = blkEnd X use Qf (.ref D) ce := ⟨_, rfl⟩
  obtain ⟨bx, ebx⟩ : ∃ bx, bx = notedBy (model X.prog X.w) X.A ce fun e z => R (.error e) z := ⟨_, rfl⟩
  have I5 : Inv (blkX X s3 H3 scope ce fp bx) [] (wipe σ (own.map (·.2))) H3 { s3 with heap := pushCells (s3.heap.push { cls := .type "dict", data := .dict #[] }) scope.names } := inv_wx bx I4
  have tkB : Takes (blkX X s3 H3 scope ce fp bx) fun cls d _ H => W cls d σ H := fun u s6 x => by
    show bx u s6
    rw [ebx]
    refine wpAny_mono (err_blk hs hf tk I3 (fun b hb => (f3 b hb).1) cF x (E1 := fun e z => R (.error e) z)) (fun _ s7 z => ?_) fun _ _ z => z
    rw [eR]
    cases use <;> exact z
  have pe := pes bx _ tkB
  rw [← eR]
  generalize es4 : ({ s3 with heap := pushCells (s3.heap.push { cls := .type "dict", data := .dict #[] }) scope.names } : Shared) = s4 at I5 ⊢
  have st4 : tn 0 s4.heap := T.keep _ _ _ st3 fun b _ o p => by rw [← es4]; exact pushCells_keeps _ _ _ _ (Heap.get?_push_of_some _ p)
  have stat : ∀ {τ : L2.St} {G : Hp} {z : Shared}, Inv (blkX X s3 H3 scope ce fp bx) [] τ G z → (∀ b ∈ fp, G b = none) → ∀ b ∈ fp, FpOk (blkX X s3 H3 scope ce fp bx) [] G b := fun {τ G z} K n b hb =>
    ⟨n b hb, (K.ok.exf b hb).1, K.ok.exfs b hb, .inl hb, fun x c e => (K.ok.exf b hb).2 x c e, fun p hp => absurd (show p ∈ ([] : List (Addr × Obj)) ++ [] from hp) (by simp)⟩
  have loop : codeAny (model X.prog X.w) X.A (.compLoop (.ListComp elt [⟨tg, iter, ifs, 0⟩] scope pos) 0 (.ref it) (.ref D) ce) R s4 := by
    refine compLoop_any (fun n z => ∃ i G, Inv (blkX X s3 H3 scope ce fp bx) [] (wipe σ (own.map (·.2))) G z ∧ tn i z.heap ∧ (∀ b ∈ fp, G b = none) ∧ Iv i n G) ?_ m0 ⟨0, H3, I5, st4, nfp, w0⟩
    rintro n s5 ⟨i, G5, K5, st5, n5, w5⟩
    have noted : notedBy (model X.prog X.w) X.A ce (fun e z => R (.error e) z) = (blkX X s3 H3 scope ce fp bx).xe := ebx.symm
    rw [noted]
    rcases turn i n G5 w5 with ⟨stp, qq⟩ | ⟨go, Nx, less, step⟩
    · refine thnF (T.done (blkX X s3 H3 scope ce fp bx) rfl rfl rfl hc i [] s5 _ G5 (fun _ _ => False) K5 (stat K5 n5) st5 stp) fun r s6 z => ?_
      obtain ⟨rfl, K6⟩ := z
      have I7 : Inv X pins σ G5 s6 := I3.call' (ch := fp) K6.os K6.base K6.hok K6.bare fun b hb => ⟨(f3 b hb).1.2.2.2.1, (f3 b hb).1.2.1, (f3 b hb).1.2.2.2.2.1, (f3 b hb).1.2.2.2.2.2⟩
      have nC : G5 ce.locals = none := K6.free
      obtain ⟨m, hn, _⟩ := K6.loc
      show R (.ok .next) s6
      rw [eR]
      exact fin D ce s6 m G5 I7 qq hn (I3.fpOk (by rw [cL]; exact Nat.le_refl _) nC)
    · refine thnF (T.item (blkX X s3 H3 scope ce fp bx) rfl rfl rfl hc i [] s5 _ G5 (fun _ _ => False) K5 (stat K5 n5) st5 go) fun r s6 z => ?_
      obtain ⟨u, rfl, h6⟩ := z
      refine thnF h6 fun _ s7 z => ?_
      obtain ⟨x, G7, K7, r7, y7, st7, n7⟩ := z
      have K7p := K7.pinned (stat K7 n7) (T.obj _ _ st7)
      refine thn ((pgs bx).run _ s7 _ G7 x u _ K7p r7 (step x G7 y7)) fun _ s8 z => ?_
      obtain ⟨σ8, G8, K8, ew, q8⟩ := z
      refine thn ((pts bx).run _ s8 σ8 G8 _ K8 q8) fun b s9 z => ?_
      obtain ⟨G9, K9, q9⟩ := z
      have done : ∀ {z : Shared} {G : Hp}, Inv (blkX X s3 H3 scope ce fp bx) ([] ++ pinsAt fp s7.heap) σ8 G z → Nx G → ∃ m, m < n ∧ ∃ i G, Inv (blkX X s3 H3 scope ce fp bx) [] (wipe σ (own.map (·.2))) G z ∧ tn i z.heap ∧ (∀ b ∈ fp, G b = none) ∧ Iv i m G := fun {z G} K nx => by
        obtain ⟨m1, lt, w1⟩ := less G nx
        have pin1 : ∀ b ∈ fp, ∀ o, s7.heap.get? b = some o → z.heap.get? b = some o ∧ G b = none := fun b hb o p =>
          have r := K.pin (b, o) (List.mem_append_right _ (List.mem_append_right _ (mem_pinsAt hb p)))
          ⟨r.1, r.2.1⟩
        have len : (wipe σ (own.map (·.2))).length = σ8.length := by rw [← ew, wipe_length]
        refine ⟨m1, lt, i + 1, G, (K.unpinned (pins := [])).weak len (fun j v p => by rw [← ew] at p; exact (wipe_some p).1), T.keep _ _ _ st7 fun b hb o p => (pin1 b hb o p).1, fun b hb => ?_, w1⟩
        obtain ⟨o, p, _⟩ := T.obj _ _ st7 b hb
        exact (pin1 b hb o p).2
      cases b with
      | false =>
        rw [if_neg Bool.false_ne_true] at q9 ⊢
        exact done K9 q9
      | true =>
        rw [if_pos rfl] at q9 ⊢
        refine thn (pe.run _ s9 σ8 G9 _ K9 q9) fun z s10 y10 => ?_
        obtain ⟨yv, G10, K10, r10, acc, hD, hz, nx⟩ := y10
        exact app_ok (X := blkX X s3 H3 scope ce fp bx) K10 hD hz r10 fun s11 K11 => done K11 nx
  exact codeAny_compStart_list loop (T.self X.A 0 _ _ _ st4 loop)
theorem pe_lcX (hs : X.stack = X.env :: X.outer) (hf : X.env.frame = some X.env.locals) (tk : Takes X W) (hc : X.calm = true) (hN : X.N.Nodup) (hi : PI X tg iter wi) (ok : BlkOk X.N X.env.scope scope own)
    (pgs : ∀ s H C cl fp bx, PG (blkX X s H scope (compEnvC scope cl C X.env) fp bx) tg g) (pts : ∀ s H C cl fp bx, PTs (blkX X s H scope (compEnvC scope cl C X.env) fp bx) ifs tt)
    (pes : ∀ s H C cl fp bx V, Takes (blkX X s H scope (compEnvC scope cl C X.env) fp bx) V → PE (blkX X s H scope (compEnvC scope cl C X.env) fp bx) elt (te V)) (ef : ∀ x, foldedSetIterable iter X.env x = pure x := by intro _; rfl) :
    PE X (.ListComp elt [⟨tg, iter, ifs, 0⟩] scope pos) (tLcX W wi g tt te (own.map (·.2))) := by
  refine ⟨fun pins s σ H Q I h => ?_⟩
  rw [eval_ListComp]
  refine lc_coreX hs hf tk hc hN I hi ok pgs pts pes ef h fun D ce s1 m H1 I1 q hn f => ⟨m, hn, fun h1 sb => ?_⟩
  obtain ⟨f0, f1, f2, f3, f4, f5⟩ := f
  exact ⟨.ref D, H1, I1.turned (t' := s1.toks) (fun b o hb p => (sb.2 b hb).trans p) f0 f1 f3 f4 f5, rfl, q⟩
/-- y = [..] on one line, y a local -/
theorem ps_setLcX {i : Nat} {y : Str} {py spos : Pos} (hs : X.stack = X.env :: X.outer) (hf : X.env.frame = some X.env.locals) (tk : Takes X W) (hc : X.calm = true) (hN : X.N.Nodup) (hy : X.N[i]? = some y) (hyl : X.env.scope.names.lookup y = some .local)
    (sw : swapsWith (.ListComp elt [⟨tg, iter, ifs, 0⟩] scope pos) (some (.Name y py)) spos.line X.env = pure true) (hi : PI X tg iter wi) (ok : BlkOk X.N X.env.scope scope own)
    (pgs : ∀ s H C cl fp bx, PG (blkX X s H scope (compEnvC scope cl C X.env) fp bx) tg g) (pts : ∀ s H C cl fp bx, PTs (blkX X s H scope (compEnvC scope cl C X.env) fp bx) ifs tt)
    (pes : ∀ s H C cl fp bx V, Takes (blkX X s H scope (compEnvC scope cl C X.env) fp bx) V → PE (blkX X s H scope (compEnvC scope cl C X.env) fp bx) elt (te V)) (ef : ∀ x, foldedSetIterable iter X.env x = pure x := by intro _; rfl) :
    PS X (.Assign [.Name y py] (.ListComp elt [⟨tg, iter, ifs, 0⟩] scope pos) spos) (tAsg (tLcX W wi g tt te (own.map (·.2))) (gName i)) := by
  refine ⟨fun pins s σ H D I h => ?_⟩
  rw [exec_Assign_Name_used _ _ _ _ sw]
  refine wpAny_bind (wpAny_standAt (wpAny_bind ?_))
  show wpAny _ X.A (do let _ ← PySem.comprehension (.ListComp elt [⟨tg, iter, ifs, 0⟩] scope pos) scope X.env (firstIterPos [⟨tg, iter, ifs, 0⟩] pos) (newList []) false (eval iter X.env) (some (assign (.Name y py) X.env))) _ _ s
  have h : tLcX W wi g tt te (own.map (·.2)) σ H (fun x H1 => gName i x σ H1 D.nx) := h
  refine wpAny_bind (thn (lc_coreX (Qf := fun _ s1 => SP X pins D .next s1) hs hf tk hc hN I hi ok pgs pts pes ef h fun L ce s1 m H1 I1 q hn f => ?_) fun _ s1 hq => wpAny_pure (wpAny_pure hq))
  show wpAny _ _ (assign (.Name y py) X.env (.ref L)) _ _ _
  refine wpAny_assign_Name (store_ok2 (v := V.ref L) I1 hN hy (.inl hyl) rfl (fun s2 I2 z => ?_) (.inr hyl))
  obtain ⟨a, sb, ha⟩ := z
  obtain ⟨f0, f1, f2, f3, f4, f5⟩ := f
  have hCa : ce.locals ≠ a := ha.elim (fun z => by rw [z]; exact f1) fun z e => f4 y a z e.symm
  exact ⟨m, hn.sameBut sb hCa, fun h3 sb3 => ⟨_, H1, I2.turned (t' := s2.toks) (fun b o hb p => (sb3.2 b hb).trans p) f0 f1 f3 f4 f5, q⟩⟩
end
end Mi

/-! The mirror layer 44: a list comprehension whose element may raise. -/
namespace Mi
open PySem L2
variable [Tabs]

def lcLX (g : D → En → Option En) (t : M Bool) (m : M D) (vs : List Nat) : List D → M (List D)
  | [], env => .ok [] env
  | x :: xs, env => match g x env with
    | none => .stuck
    | some env1 => match t env1 with
      | .ok false env2 => lcLX g t m vs xs (wipeE env2 vs)
      | .ok true env2 => match m env2 with
        | .ok d env3 => match lcLX g t m vs xs (wipeE env3 vs) with
          | .ok ds env4 => .ok (d :: ds) env4
          | .exn y env4 => .exn y env4
          | .stuck => .stuck
        | .exn y env3 => .exn y (wipeE env3 vs)
        | .stuck => .stuck
      | _ => .stuck
def endLX (env : En) (vs : List Nat) : Res (List D) → Res D
  | .ok ys env' => .ok (.lst ys) (backE env env' vs)
  | .exn y env' => .exn y (backE env env' vs)
  | .stuck => .stuck
def eLcX (mi : M (List D)) (g : D → En → Option En) (t : M Bool) (m : M D) (vs : List Nat) : M D := mi.bind fun ds env => if ds.length ≤ 16777216 then endLX env vs (lcLX g t m vs ds (wipeE env vs)) else .stuck
def glue (acc : List D) : Res (List D) → Res (List D)
  | .ok ys env => .ok (acc ++ ys) env
  | r => r
theorem glue_nil : ∀ r : Res (List D), glue [] r = r
  | .ok _ _ => rfl
  | .exn _ _ => rfl
  | .stuck => rfl
section
variable {K : PySem.W.Frag} {mg : Str → Option Value} {W : WX} {wi : TI} {mi : M (List D)} {T vs : List Nat} {g : TG} {gm : D → En → Option En} {tt : TT} {mt : M Bool} {te : WX → TE} {me : M D}
theorem rn_lcX (hi : RI K mg W wi mi) (hg : RG K mg T g gm) (hT : ∀ i ∈ T, i ∈ vs) (ht : RX K mg W0 RB tt mt) (he : ∀ V, RX K mg V (RD K mg) (te V) me) : RN K mg W (tLcX W wi g tt te vs) (eLcX mi gm mt me vs) := by
  intro σ0 B H σ env sm Q post
  have hz : sizeLine = 16777216 := sizeLine_eq
  refine hi.goN sm post fun J ds B1 H1 env1 sm1 _ r1 post1 => ?_
  by_cases hds : ds.length ≤ 16777216
  · rw [if_pos hds] at post1
    intro Dl hD
    have hB1 : B1 Dl = none := sm1.sub.none hD
    have hno : ∀ a, Owned σ env1 a → a ≠ Dl := fun a h z => by
      subst z
      obtain ⟨⟨o, ho⟩, _⟩ := sm1.own_there h
      rw [hD] at ho; cases ho
    have hnw : ∀ {env' : En} {a : Addr}, OSub (wipeE env1 vs) env' → Owned (L2.wipe σ vs) env' a → Owned σ env1 a := fun o h => wipe_owned (o.owned h)
    obtain ⟨tot, etot⟩ : ∃ tot, tot = lcLX gm mt me vs ds (wipeE env1 vs) := ⟨_, rfl⟩
    rw [← etot] at post1
    refine ⟨fun i m H' => m = ds.length - i ∧ i ≤ ds.length ∧ ∃ B' env' vacc acc, Sm K mg σ0 B' H' (L2.wipe σ vs) env' ∧ Stp (Owned σ env1) B1 H1 B' H' ∧ OSub (wipeE env1 vs) env' ∧ H' Dl = some (.lst vacc) ∧ Reps K mg B' vacc acc ∧ acc.length ≤ i ∧ B' Dl = none ∧
      tot = glue acc (lcLX gm mt me vs (ds.drop i) env'), ⟨ds.length, by omega, by omega, B1, wipeE env1 vs, [], [],
        (sm1.wipe vs).atD hB1 (fun z => hno _ (wipe_owned z) rfl) (fun _ z => by rw [hD] at z; cases z), Stp.refl.atD hD, OSub.refl _, upd_same, .nil, by simp, hB1, by rw [glue_nil]; exact etot⟩, ?_⟩
    rintro i m H' ⟨rfl, hil, B', env', vacc, acc, smw, stp, os, hDl, racc, hacc, hBD, htot⟩
    obtain ⟨hstop, hgo⟩ := r1 B' H' stp.grow smw.sub stp.lk
    have nown : ∀ {e : En}, OSub (wipeE env1 vs) e → ¬ Owned (L2.wipe σ vs) e Dl := fun o z => hno _ (hnw o z) rfl
    by_cases hlt : i < ds.length
    · refine .inr ?_
      have hd : ds[i]? = some ds[i] := List.getElem?_eq_getElem hlt
      obtain ⟨go, yl⟩ := hgo i _ hd
      refine ⟨go, fun H2 => i + 1 ≤ ds.length ∧ ∃ B' env' vacc acc, Sm K mg σ0 B' H2 (L2.wipe σ vs) env' ∧ Stp (Owned σ env1) B1 H1 B' H2 ∧ OSub (wipeE env1 vs) env' ∧ H2 Dl = some (.lst vacc) ∧ Reps K mg B' vacc acc ∧ acc.length ≤ i + 1 ∧ B' Dl = none ∧
        tot = glue acc (lcLX gm mt me vs (ds.drop (i + 1)) env'), fun H2 ⟨h1, h2⟩ => ⟨ds.length - (i + 1), by omega, rfl, h1, h2⟩, fun x H2 hy => ?_⟩
      obtain ⟨B2, al, rx⟩ := yl x H2 hy
      have sm2 := smw.alloc al.g al.n al.s al.sb
      have stp2 : Stp (Owned σ env1) B1 H1 B2 H2 := stp.trans (Stp.alloc al.g al.n al.s) fun _ z => z
      have hD2 : H2 Dl = some (.lst vacc) := al.s _ _ hDl
      have hB2 : B2 Dl = none := by
        cases q : B2 Dl with
        | none => rfl
        | some u =>
          rcases al.n _ _ q with z | z | z
          · rw [hBD] at z; cases z
          · rw [hDl] at z; cases z
          · exact (no_tup al.sb hD2 (fun _ z => by cases z) q z).elim
      have racc2 := racc.mono al.g
      rw [List.drop_eq_getElem_cons hlt] at htot
      unfold lcLX at htot
      refine hg σ0 B2 H2 (L2.wipe σ vs) env' x _ sm2 rx _ ?_
      cases eg : gm ds[i] env' with
      | none =>
        rw [eg] at htot
        rw [htot] at post1
        exact (post1 : False).elim
      | some env2 =>
        rw [eg] at htot
        intro σ2 smg keep touch
        have hw : L2.wipe σ2 vs = L2.wipe σ vs := wipe_touch hT (touch.1.trans (wipe_length _ _)) touch.2
        refine ⟨hw, ?_⟩
        have kow : ∀ {a : Addr}, Owned σ2 env2 a → Owned σ env1 a := fun z => hnw os (keep.owned z)
        simp only at htot
        refine ht σ0 B2 H2 σ2 env2 smg _ ?_
        cases et : mt env2 with
        | stuck =>
          rw [et] at htot
          rw [htot] at post1
          exact (post1 : False).elim
        | exn x e =>
          rw [et] at htot
          rw [htot] at post1
          exact (post1 : False).elim
        | ok b env3 =>
          rw [et] at htot
          intro b' B3 H3 s3 sm3 o3 r3
          have e : b' = b := r3
          subst e
          have stp3 : Stp (Owned σ env1) B1 H1 B3 H3 := stp2.trans s3 fun _ z => kow z
          have hD3 : H3 Dl = some (.lst vacc) := s3.frameN hD2 (fun z => z) fun z => hno _ (kow z) rfl
          have hB3 : B3 Dl = none := by
            cases q : B3 Dl with
            | none => rfl
            | some u =>
              rcases s3.new _ _ q with z | z | z
              · rw [hB2] at z; cases z
              · rw [hD2] at z; cases z
              · exact (no_tup sm3.sub hD3 (fun _ z => by cases z) q z).elim
          have racc3 := racc2.mono s3.grow
          have k3 : Keep (L2.wipe σ vs) env' σ2 env3 := keep.trans o3.keep
          have next : ∀ {B4 H4 : Hp} {env4 : En}, Sm K mg σ0 B4 H4 σ2 env4 → Keep (L2.wipe σ vs) env' σ2 env4 → Sm K mg σ0 B4 H4 (L2.wipe σ vs) (wipeE env4 vs) ∧ OSub (wipeE env1 vs) (wipeE env4 vs) := fun {B4 H4 env4} m k => by
            refine ⟨by rw [← hw]; exact m.wipe vs, fun j p d e => ?_⟩
            obtain ⟨e1, _⟩ := wipeE_own e
            obtain ⟨d1, e2, _⟩ := k j p d e1
            exact os j p d1 e2
          cases b' with
          | false =>
            show _ ∧ _
            simp only at htot
            obtain ⟨n1, n2⟩ := next sm3 k3
            exact ⟨by omega, B3, wipeE env3 vs, vacc, acc, n1, stp3, n2, hD3, racc3, by omega, hB3, htot⟩
          | true =>
            show te _ σ2 H3 _
            simp only at htot
            refine he _ σ0 B3 H3 σ2 env3 sm3 _ ?_
            have kow3 : ∀ {a : Addr}, Owned σ2 env3 a → Owned σ env1 a := fun z => hnw os (k3.owned z)
            cases ee : me env3 with
            | stuck =>
              rw [ee] at htot
              rw [htot] at post1
              exact (post1 : False).elim
            | exn y e =>
              rw [ee] at htot
              rw [htot] at post1
              intro cls d B4 H4 s4 sm4 o4 ex
              have stp4 : Stp (Owned σ env1) B1 H1 B4 H4 := stp3.trans s4 fun _ z => kow3 z
              obtain ⟨n1, n2⟩ := next sm4 (k3.trans o4.keep)
              obtain ⟨smb, osb⟩ := sm1.back n1 stp4.grow n2
              exact post1 cls d B4 H4 stp4 smb osb ex
            | ok d env4 =>
              rw [ee] at htot
              simp only at htot
              intro y B4 H4 s4 sm4 o4 r4
              have stp4 : Stp (Owned σ env1) B1 H1 B4 H4 := stp3.trans s4 fun _ z => kow3 z
              have hD4 : H4 Dl = some (.lst vacc) := s4.frameN hD3 (fun z => z) fun z => hno _ (kow3 z) rfl
              have hB4 : B4 Dl = none := by
                cases q : B4 Dl with
                | none => rfl
                | some u =>
                  rcases s4.new _ _ q with z | z | z
                  · rw [hB3] at z; cases z
                  · rw [hD3] at z; cases z
                  · exact (no_tup sm4.sub hD4 (fun _ z => by cases z) q z).elim
              have racc4 := racc3.mono s4.grow
              have k4 : Keep (L2.wipe σ vs) env' σ2 env4 := k3.trans o4.keep
              have htot2 : tot = glue (acc ++ [d]) (lcLX gm mt me vs (ds.drop (i + 1)) (wipeE env4 vs)) := by
                rw [htot]
                cases lcLX gm mt me vs (ds.drop (i + 1)) (wipeE env4 vs) with
                | ok ys e => simp [glue]
                | exn _ _ => rfl
                | stuck => rfl
              refine ⟨vacc, hD4, by rw [racc4.length]; omega, by omega, B4, wipeE env4 vs, vacc ++ [y], acc ++ [d], ?_, stp4.atD hD, (next sm4 k4).2, upd_same, racc4.append (.cons r4 .nil), by rw [List.length_append]; show acc.length + 1 ≤ i + 1; omega, hB4, htot2⟩
              refine Sm.atD (next sm4 k4).1 hB4 (ht := fun _ z => by rw [hD4] at z; cases z) fun z => ?_
              exact hno _ (hnw (next sm4 k4).2 z) rfl
    · have e : i = ds.length := by omega
      subst e
      rw [List.drop_length] at htot
      have htot : tot = .ok (acc ++ []) env' := htot
      rw [List.append_nil] at htot
      rw [htot] at post1
      obtain ⟨smb, osb⟩ := sm1.back smw stp.grow os
      exact .inl ⟨hstop, post1 Dl B' H' stp smb osb (.lst hDl racc) hBD hD⟩
  · rw [if_neg hds] at post1; exact post1.elim
end
section
variable {X : Cx} {W : WX} {vs : List Nat} {elt tg iter c : Expr} {ifs : List Expr} {scope : Scope} {own : List (Str × Nat)} {pos spos : Pos} {wi : TI} {mi : M (List D)} {T : List Nat} {g : TG} {gm : D → En → Option En} {tt : TT} {mt : M Bool} {te : WX → TE} {me : M D}
theorem sn_lcX (hs : X.stack = X.env :: X.outer) (hf : X.env.frame = some X.env.locals) (tk : Takes X W) (hc : X.calm = true) (hN : X.N.Nodup) (hi : SI X W tg iter wi mi) (ok : BlkOk X.N X.env.scope scope own)
    {fg : Shared → Hp → Addr → List (Str × Addr) → List Addr → (Value → Shared → Prop) → TG} {ft : Shared → Hp → Addr → List (Str × Addr) → List Addr → (Value → Shared → Prop) → TT} {fe : Shared → Hp → Addr → List (Str × Addr) → List Addr → (Value → Shared → Prop) → WX → TE}
    (hg : ∀ s H C cl fp bx, SG (blkX X s H scope (compEnvC scope cl C X.env) fp bx) tg T (fg s H C cl fp bx) gm) (ht : ∀ s H C cl fp bx, STs (blkX X s H scope (compEnvC scope cl C X.env) fp bx) W0 ifs (ft s H C cl fp bx) mt)
    (he : ∀ s H C cl fp bx V, Takes (blkX X s H scope (compEnvC scope cl C X.env) fp bx) V → SE (blkX X s H scope (compEnvC scope cl C X.env) fp bx) V elt (fe s H C cl fp bx V) me)
    (hT : ∀ i ∈ T, i ∈ vs) (ef : ∀ x, foldedSetIterable iter X.env x = pure x := by intro _; rfl) (hvs : own.map (·.2) = vs := by rfl)
    (hfg : ∀ s H C cl fp bx, fg s H C cl fp bx = fg X.s_0 X.H_0 0 [] [] (fun _ _ => True) := by intros; rfl) (hft : ∀ s H C cl fp bx, ft s H C cl fp bx = ft X.s_0 X.H_0 0 [] [] (fun _ _ => True) := by intros; rfl) (hfe : ∀ s H C cl fp bx, fe s H C cl fp bx = fe X.s_0 X.H_0 0 [] [] (fun _ _ => True) := by intros; rfl) :
    SN X W (.ListComp elt [⟨tg, iter, ifs, 0⟩] scope pos) (tLcX W wi (fg X.s_0 X.H_0 0 [] [] (fun _ _ => True)) (ft X.s_0 X.H_0 0 [] [] (fun _ _ => True)) (fe X.s_0 X.H_0 0 [] [] (fun _ _ => True)) vs) (eLcX mi gm mt me vs) := by
  subst hvs
  exact ⟨pe_lcX hs hf tk hc hN hi.pi ok (fun s H C cl fp bx => by rw [← hfg s H C cl fp bx]; exact (hg s H C cl fp bx).pg) (fun s H C cl fp bx => by rw [← hft s H C cl fp bx]; exact (ht s H C cl fp bx).pt) (fun s H C cl fp bx V t => by rw [← hfe s H C cl fp bx]; exact (he s H C cl fp bx V t).pe) ef,
    rn_lcX hi.rx (hg X.s_0 X.H_0 0 [] [] (fun _ _ => True)).rg hT (ht X.s_0 X.H_0 0 [] [] (fun _ _ => True)).rx fun V => (he X.s_0 X.H_0 0 [] [] (fun _ _ => True) V fun _ _ _ => trivial).rx⟩
/-- y = [..] on one line -/
theorem ss_setLcXN {i : Nat} {y : Str} {py : Pos} (hs : X.stack = X.env :: X.outer) (hf : X.env.frame = some X.env.locals) (tk : Takes X W) (hc : X.calm = true) (hN : X.N.Nodup) (hy : X.N[i]? = some y) (hyl : X.env.scope.names.lookup y = some .local)
    (sw : swapsWith (.ListComp elt [⟨tg, iter, ifs, 0⟩] scope pos) (some (.Name y py)) spos.line X.env = pure true) (hi : SI X W tg iter wi mi) (ok : BlkOk X.N X.env.scope scope own)
    {fg : Shared → Hp → Addr → List (Str × Addr) → List Addr → (Value → Shared → Prop) → TG} {ft : Shared → Hp → Addr → List (Str × Addr) → List Addr → (Value → Shared → Prop) → TT} {fe : Shared → Hp → Addr → List (Str × Addr) → List Addr → (Value → Shared → Prop) → WX → TE}
    (hg : ∀ s H C cl fp bx, SG (blkX X s H scope (compEnvC scope cl C X.env) fp bx) tg T (fg s H C cl fp bx) gm) (ht : ∀ s H C cl fp bx, STs (blkX X s H scope (compEnvC scope cl C X.env) fp bx) W0 ifs (ft s H C cl fp bx) mt)
    (he : ∀ s H C cl fp bx V, Takes (blkX X s H scope (compEnvC scope cl C X.env) fp bx) V → SE (blkX X s H scope (compEnvC scope cl C X.env) fp bx) V elt (fe s H C cl fp bx V) me)
    (hT : ∀ i ∈ T, i ∈ vs) (ef : ∀ x, foldedSetIterable iter X.env x = pure x := by intro _; rfl) (hvs : own.map (·.2) = vs := by rfl)
    (hfg : ∀ s H C cl fp bx, fg s H C cl fp bx = fg X.s_0 X.H_0 0 [] [] (fun _ _ => True) := by intros; rfl) (hft : ∀ s H C cl fp bx, ft s H C cl fp bx = ft X.s_0 X.H_0 0 [] [] (fun _ _ => True) := by intros; rfl) (hfe : ∀ s H C cl fp bx, fe s H C cl fp bx = fe X.s_0 X.H_0 0 [] [] (fun _ _ => True) := by intros; rfl) :
    SS X W (.Assign [.Name y py] (.ListComp elt [⟨tg, iter, ifs, 0⟩] scope pos) spos) (tAsg (tLcX W wi (fg X.s_0 X.H_0 0 [] [] (fun _ _ => True)) (ft X.s_0 X.H_0 0 [] [] (fun _ _ => True)) (fe X.s_0 X.H_0 0 [] [] (fun _ _ => True)) vs) (gName i)) (mSetN i (eLcX mi gm mt me vs)) := by
  subst hvs
  exact ⟨ps_setLcX hs hf tk hc hN hy hyl sw hi.pi ok (fun s H C cl fp bx => by rw [← hfg s H C cl fp bx]; exact (hg s H C cl fp bx).pg) (fun s H C cl fp bx => by rw [← hft s H C cl fp bx]; exact (ht s H C cl fp bx).pt) (fun s H C cl fp bx V t => by rw [← hfe s H C cl fp bx]; exact (he s H C cl fp bx V t).pe) ef,
    rs_setN (rn_lcX hi.rx (hg X.s_0 X.H_0 0 [] [] (fun _ _ => True)).rg hT (ht X.s_0 X.H_0 0 [] [] (fun _ _ => True)).rx fun V => (he X.s_0 X.H_0 0 [] [] (fun _ _ => True) V fun _ _ _ => trivial).rx)⟩
theorem ss_setLcX {i : Nat} {y : Str} {py : Pos} (hs : X.stack = X.env :: X.outer) (hf : X.env.frame = some X.env.locals) (tk : Takes X W) (hc : X.calm = true) (hN : X.N.Nodup) (hy : X.N[i]? = some y) (hyl : X.env.scope.names.lookup y = some .local)
    (sw : swapsWith (.ListComp elt [⟨tg, iter, ifs, 0⟩] scope pos) (some (.Name y py)) spos.line X.env = pure true) (hi : SI X W tg iter wi mi) (ok : BlkOk X.N X.env.scope scope own)
    {fg : Shared → Hp → Addr → List (Str × Addr) → List Addr → (Value → Shared → Prop) → TG} {ft : Shared → Hp → Addr → List (Str × Addr) → List Addr → (Value → Shared → Prop) → TT} {fe : Shared → Hp → Addr → List (Str × Addr) → List Addr → (Value → Shared → Prop) → WX → TE}
    (hg : ∀ s H C cl fp bx, SG (blkX X s H scope (compEnvC scope cl C X.env) fp bx) tg T (fg s H C cl fp bx) gm) (ht : ∀ s H C cl fp bx, STs (blkX X s H scope (compEnvC scope cl C X.env) fp bx) W0 ifs (ft s H C cl fp bx) mt)
    (he : ∀ s H C cl fp bx V, Takes (blkX X s H scope (compEnvC scope cl C X.env) fp bx) V → SE (blkX X s H scope (compEnvC scope cl C X.env) fp bx) V elt (fe s H C cl fp bx V) me)
    (hT : ∀ i ∈ T, i ∈ vs) (ef : ∀ x, foldedSetIterable iter X.env x = pure x := by intro _; rfl) (hvs : own.map (·.2) = vs := by rfl)
    (hfg : ∀ s H C cl fp bx, fg s H C cl fp bx = fg X.s_0 X.H_0 0 [] [] (fun _ _ => True) := by intros; rfl) (hft : ∀ s H C cl fp bx, ft s H C cl fp bx = ft X.s_0 X.H_0 0 [] [] (fun _ _ => True) := by intros; rfl) (hfe : ∀ s H C cl fp bx, fe s H C cl fp bx = fe X.s_0 X.H_0 0 [] [] (fun _ _ => True) := by intros; rfl) :
    SS X W (.Assign [.Name y py] (.ListComp elt [⟨tg, iter, ifs, 0⟩] scope pos) spos) (tAsg (tLcX W wi (fg X.s_0 X.H_0 0 [] [] (fun _ _ => True)) (ft X.s_0 X.H_0 0 [] [] (fun _ _ => True)) (fe X.s_0 X.H_0 0 [] [] (fun _ _ => True)) vs) (gName i)) (mSet i (eLcX mi gm mt me vs)) := by
  subst hvs
  exact ⟨ps_setLcX hs hf tk hc hN hy hyl sw hi.pi ok (fun s H C cl fp bx => by rw [← hfg s H C cl fp bx]; exact (hg s H C cl fp bx).pg) (fun s H C cl fp bx => by rw [← hft s H C cl fp bx]; exact (ht s H C cl fp bx).pt) (fun s H C cl fp bx V t => by rw [← hfe s H C cl fp bx]; exact (he s H C cl fp bx V t).pe) ef,
    rs_set (rn_lcX hi.rx (hg X.s_0 X.H_0 0 [] [] (fun _ _ => True)).rg hT (ht X.s_0 X.H_0 0 [] [] (fun _ _ => True)).rx fun V => (he X.s_0 X.H_0 0 [] [] (fun _ _ => True) V fun _ _ _ => trivial).rx).rx⟩
end
end Mi

/-! The mirror layer 45: all(x == G[y] for x in L): L a list of texts, G a written dict, y a captured name. -/
namespace Mi
open PySem PySem.Spec PyProof.Rows L2 GxR
variable [Tabs]

def atB {α : Type} (p : α → Bool) (l : List α) (j : Nat) : Bool := match l[j]? with
  | some b => p b
  | none => false
theorem atB_some {α : Type} {p : α → Bool} {l : List α} {j : Nat} {b : α} (h : l[j]? = some b) : atB p l j = p b := by
  unfold atB; rw [h]
theorem all_atB {α : Type} (p : α → Bool) (l : List α) : (List.range l.length).all (atB p l) = l.all p := by
  rw [Bool.eq_iff_iff, List.all_eq_true, List.all_eq_true]
  refine ⟨fun h b hb => ?_, fun h j hj => ?_⟩
  · obtain ⟨j, hj, e⟩ := List.getElem_of_mem hb
    have q := h j (List.mem_range.mpr hj)
    rwa [atB_some (List.getElem?_eq_getElem hj), e] at q
  · have lt := List.mem_range.mp hj
    rw [atB_some (List.getElem?_eq_getElem lt)]
    exact h _ (List.getElem_mem lt)
def sameT (z g : Str) : Bool := z.cps.toList == g.cps.toList
section
variable {X : Cx} {pins : List (Addr × Obj)} {σ : L2.St} {H1 : Hp} {s1 : Shared} {c P G : Addr}
theorem cell_of {y : Str} {iw : Nat} {wd : Str} (I : Inv X pins σ H1 s1) (hN : X.N[iw]? = some y) (hy : X.env.scope.names.lookup y = some .cell) (hw : σ[iw]? = some (some (.str wd))) :
    ∃ cy t, X.env.cells.lookup y = some cy ∧ s1.heap.IsCell cy (some (.str wd t)) := by
  obtain ⟨m, _, hl⟩ := I.loc
  obtain ⟨u, r, l⟩ := hl iw y _ hN hw (.inr (.inl hy))
  obtain ⟨t, rfl⟩ := r
  rcases l with ⟨k, _⟩ | ⟨_, cy, h1, h2⟩
  · have k : X.env.scope.names.lookup y = some .local := k
    rw [hy] at k; cases k
  · exact ⟨cy, t, h1, h2⟩
theorem elt_eqG {scope : Scope} {x y gn : Str} {p1 p2 p3 p4 p5 : Pos} {iw : Nat} {wd g : Str} {ws : List Str} {its : List Value} {ps : Array Value} (TB : TabB X.base X.mg c P) (hk : scope.kind = .function) (hl : scope.names.lookup x = some .local)
    (hmG : X.mg gn = some (.ref G)) (hnG : scope.names.lookup gn = some .globalImplicit) (hny : scope.names.lookup y = some .free) (hN : X.N[iw]? = some y) (hcy : X.env.scope.names.lookup y = some .cell)
    (I : Inv X pins σ H1 s1) (hP : H1 P = some (.tbl ps)) (hw : σ[iw]? = some (some (.str wd))) (kd : KDct X.K X.w G wd (.str g)) (rv : Vals (ws.map V.str) its)
    (hx1 : (x == ("__debug__" : Str)) = false) (hy1 : (y == ("__debug__" : Str)) = false) (hy2 : (y == ("__classdict__" : Str)) = false) (hg1 : (gn == ("__debug__" : Str)) = false) :
    EltQ X P scope x (.Compare (.Name x p1) [.Eq] [.Subscript (.Name gn p2) (.Name y p3) p4] p5) s1 (fun i v => its[i]? = some v) (atB (fun z => sameT z g) ws) := by
  intro cenv A' E' i v s2 m2 hs hg hc hA keep hv hn hm
  obtain ⟨cy, ty, e1, e2⟩ := cell_of I hN hcy hw
  have hPs : s1.heap.get? P = some { cls := .none, data := .fields ps } := I.hok P _ hP
  -- the item
  have hi : ∃ z t, ws[i]? = some z ∧ v = .str z t := by
    have lt : i < its.length := (List.getElem?_eq_some_iff.mp hv).1
    have lw : i < ws.length := by
      have := rv.length
      rw [List.length_map] at this
      omega
    have ew : (ws.map V.str)[i]? = some (.str ws[i]) := by simp [lw]
    obtain ⟨u, h1, t, h2⟩ := rv.get ew
    rw [hv] at h1
    cases h1
    exact ⟨ws[i], t, List.getElem?_eq_getElem lw, h2⟩
  obtain ⟨z, tz, ez, rfl⟩ := hi
  rw [atB_some ez]
  have ns : s2.heap.Ns cenv.globals X.mg := by
    rw [hg, I.ok.glob]
    obtain ⟨o, es, ep, h1, h2, h3⟩ := I.mod.glob.keeps I.bk
    exact ⟨o, es, ep, keep _ _ TB.gP h1, h2, h3⟩
  have ks : ∀ n, cenv.scope.names.lookup n = scope.names.lookup n := fun n => by rw [hs]
  refine wpAny_Compare1 (wpAny_Name (wpAny_loadName_local (by rw [hs]; exact hk) (show cenv.scope.names.lookup x = some .local by rw [ks]; exact hl) hn hm ?_) hx1)
  refine Subscript_ (Calls.Name_function_global (by rw [hs]; exact hk) (show cenv.scope.names.lookup gn = some .globalImplicit by rw [ks]; exact hnG) (Calls.loadGlobal_global ns hmG ?_) hg1)
  -- the captured name
  have hmem : (y, NameKind.free) ∈ scope.names := PySem.mem_of_lookup hny
  obtain ⟨cy2, q1⟩ := mem_lookup (cloFrom_has (cells := X.env.cells) (acc := []) hmem)
  have q2 : cy2 = cy := by
    rcases cloFrom_mem (PySem.mem_of_lookup q1) with h | ⟨_, h⟩
    · cases h
    · rw [h, e1]; rfl
  subst q2
  have e3 : s2.heap.IsCell cy2 (some (.str wd ty)) := by
    obtain ⟨o, h1, h2⟩ := e2
    refine ⟨o, keep _ _ (fun e => ?_) h1, h2⟩
    rw [e, hPs] at h1
    cases h1
    cases h2
  refine wpAny_Name (wpAny_loadName_free (by rw [hs]; exact hk) (show cenv.scope.names.lookup y = some .free by rw [ks]; exact hny) (by rw [hc]; exact q1) e3 ?_ hy2) hy1
  -- the written dict
  obtain ⟨es, n, u, h1, h2, h3, tg, rfl⟩ := kd
  have hm2 : s2.heap.MapOf (strKind X.prog X.w) G (fun k => findBy Value.isStrOf es k) := by
    obtain ⟨o, es', ep, a1, a2, a3, a4⟩ := PySem.W.mapOf_K (prog := X.prog) (w := X.w) I.kIn h1 h2
    refine ⟨o, es', ep, keep _ _ (fun e => ?_) a1, a2, a3, a4⟩
    rw [e, hPs] at a1
    cases a1
    cases a3
  refine subscriptTail_builtin hm2.typeIs slot_dict_getitem.lookup (wpAny_getItem_of (strKind_is X.prog X.w wd ty) hm2 (PySem.W.find_K h1 h3) ?_)
  exact PySem.P.eq_str ⟨rfl, keeps_refl _⟩
/-- the generator expression's scope: its captured names are the def's cells -/
structure GenF (sc scope : Scope) (x : Str) : Prop where
  kind : scope.kind = .function
  co : scope.isCoroutine = false
  cell : ∀ y ∈ scope.names, y.2 ≠ .cell
  dot : scope.names.lookup (".0" : Str) = some NameKind.local
  loc : scope.names.lookup x = some .local
  free : ∀ y ∈ scope.names, y.2 = .free → sc.names.lookup y.1 = some .cell
theorem genf_by {sc scope : Scope} {x : Str} (h1 : scope.kind = .function) (h2 : scope.isCoroutine = false)
    (h3 : scope.names.all (fun y => match y.2 with | .cell => false | .free => (match sc.names.lookup y.1 with | some .cell => true | _ => false) | _ => true) = true)
    (h4 : scope.names.lookup (".0" : Str) = some NameKind.local) (h5 : scope.names.lookup x = some .local) : GenF sc scope x where
  kind := h1
  co := h2
  cell := fun y hy e => by
    have q := List.all_eq_true.mp h3 y hy
    rw [e] at q
    cases q
  dot := h4
  loc := h5
  free := fun y hy e => by
    have q := List.all_eq_true.mp h3 y hy
    rw [e] at q
    revert q
    cases z : sc.names.lookup y.1 with
    | none => intro q; cases q
    | some k => cases k <;> intro q <;> first | rfl | cases q
theorem GenF.at {scope : Scope} {x : Str} (S : GenF X.env.scope scope x) (I : Inv X pins σ H1 s1) : GenS X.env scope x := ⟨S.kind, S.co, S.cell, S.dot, S.loc, fun y hy e => I.ok.has _ (.inl (S.free y hy e))⟩
def tAllK (P : Addr) (K : PySem.W.Frag) (w : World) (G : Addr) (iw : Nat) (te : TE) : TE := fun σ H Q => te σ H fun v H1 => ∃ (a : Addr) (ws : List Str) (wd g : Str), v = .ref a ∧ SqL K H1 a (ws.map V.str) ∧ σ[iw]? = some (some (.str wd)) ∧ KDct K w G wd (.str g) ∧ TabG H1 P ∧ ∀ H2, Tabbed P H1 H2 → Q (.bl (ws.all fun z => sameT z g)) H2
theorem pe_allK {iter : Expr} {x y gn : Str} {px p pos gpos p1 p2 p3 p4 p5 : Pos} {scope : Scope} {iw : Nat} {te : TE} {k : Nat}
    (hr : Room k X.A) (hm : X.mg "all" = none) (TB : TabB X.base X.mg c P) (hcode : X.env.code = .ref c) (S : GenF X.env.scope scope x) (hi : PE X iter te)
    (hmG : X.mg gn = some (.ref G)) (hnG : scope.names.lookup gn = some .globalImplicit) (hny : scope.names.lookup y = some .free) (hN : X.N[iw]? = some y) (hcy : X.env.scope.names.lookup y = some .cell)
    (hx1 : (x == ("__debug__" : Str)) = false) (hy1 : (y == ("__debug__" : Str)) = false) (hy2 : (y == ("__classdict__" : Str)) = false) (hg1 : (gn == ("__debug__" : Str)) = false)
    (hg : Gl X "all") (hb : bootBuiltins "all" = some (.builtin "all")) (hs : ∀ v, genFold iter X.env v = pure v)
    (he : starEach [.GeneratorExp (.Compare (.Name x p1) [.Eq] [.Subscript (.Name gn p2) (.Name y p3) p4] p5) [⟨.Name x px, iter, [], 0⟩] scope gpos] X.env = (false, eval (.GeneratorExp (.Compare (.Name x p1) [.Eq] [.Subscript (.Name gn p2) (.Name y p3) p4] p5) [⟨.Name x px, iter, [], 0⟩] scope gpos) X.env) :: starEach [] X.env) :
    PE X (.Call (.Name "all" p) [.GeneratorExp (.Compare (.Name x p1) [.Eq] [.Subscript (.Name gn p2) (.Name y p3) p4] p5) [⟨.Name x px, iter, [], 0⟩] scope gpos] [] pos) (tAllK P X.K X.w G iw te) := by
  refine ⟨fun pins s σ H Q I h => ?_⟩
  refine wpAny_Call_Name_kw (ld_blt I hg hm hb ?_)
  refine PyProof.Rows.callWith_builtin1 ?_ he (by rfl)
  rw [he]
  show wpAny _ _ (spliced ((false, eval (.GeneratorExp (.Compare (.Name x p1) [.Eq] [.Subscript (.Name gn p2) (.Name y p3) p4] p5) [⟨.Name x px, iter, [], 0⟩] scope gpos) X.env) :: backTo pos (starEach [] X.env))) _ _ s
  refine Calls.spliced_cons (gen_run hr TB hcode (S.at I) hi hs I h fun v H1 xv s1 q1 r1 I1 => ?_)
  obtain ⟨a, ws, wd, g, rfl, hq, hw, kd, hT, q1⟩ := q1
  cases r1
  obtain ⟨ps, hP, ht⟩ := id hT
  have hPs : s1.heap.get? P = some { cls := .none, data := .fields ps } := I1.hok P _ hP
  obtain ⟨its, rv, pl, hz⟩ := I1.list hq
  have ha : a < s1.heap.objs.size := by
    obtain ⟨o, e, _⟩ := pl.isList
    exact Heap.lt_size e
  have haP : a ≠ P := fun e => by
    obtain ⟨o, e1, e2, e3⟩ := pl.isList
    rw [e, hPs] at e1
    cases e1
    cases e2
  refine ⟨hT, _, its.toArray.size, fun i v => its.toArray[i]? = some v, [s1.heap.objs.size, a], fun i h => h.IsListIter s1.heap.objs.size a i ∧ h.IsList a its.toArray, atB (fun z => sameT z g) ws,
    fun Q E q => wpAny_pyIter_list pl.isList q, ⟨fun A' hA => Walks.list hA _ a (Nat.ne_of_lt ha) its.toArray, ⟨⟨_, Heap.get?_push_size _ rfl, rfl, rfl⟩, pl.isList.push _⟩, fun b hb => ?_⟩, ?_, fun g5 s5 rd => ?_⟩
  · rcases List.mem_cons.mp hb with e | hb
    · rw [e]
      exact ⟨Nat.lt_succ_self _, fun z => Nat.ne_of_lt (Heap.lt_size hPs) z.symm⟩
    · rw [List.mem_singleton.mp hb]
      exact ⟨Nat.lt_succ_of_lt ha, haP⟩
  · have q := elt_eqG (p1 := p1) (p2 := p2) (p3 := p3) (p4 := p4) (p5 := p5) TB S.kind S.loc hmG hnG hny hN hcy I1 hP hw kd rv hx1 hy1 hy2 hg1
    intro cenv A' E' i v s2 m2 h1 h2 h3 h4 h5 h6
    exact q cenv A' E' i v s2 m2 h1 h2 h3 h4 h5 (by rw [List.getElem?_toArray] at h6; exact h6)
  · obtain ⟨fp, wr, Gg, F, St5, W, hst, htr, hI⟩ := rd
    refine Calls.spliced_nil ?_
    refine call_all_walkS (W.self 0 _ _ _ hst ⟨g5, fp, wr, Gg, _, F, St5, _, rfl, W, hst, htr, fun s' hmv => ?_⟩)
    obtain ⟨H2, hT2, J⟩ := hI s' hmv
    refine ⟨.bl _, H2, J, rfl, ?_⟩
    have el : its.toArray.size = ws.length := by
      have := rv.length
      rw [List.length_map] at this
      rw [List.size_toArray]; omega
    rw [el, all_atB]
    exact q1 H2 hT2
def textsOf : List D → Option (List Str)
  | [] => some []
  | .str z :: r => (textsOf r).map (z :: ·)
  | _ :: _ => none
theorem textsOf_rep {K : PySem.W.Frag} {mg : Str → Option Value} {B : Hp} : ∀ {vs : List V} {ds : List D} {ws : List Str}, textsOf ds = some ws → Reps K mg B vs ds → vs = ws.map V.str
  | _, [], _, h, .nil => by cases h; rfl
  | _, d :: ds, ws, h, .cons r rs => by
    cases r with
    | str z =>
      unfold textsOf at h
      cases e : textsOf ds with
      | none => rw [e] at h; cases h
      | some us =>
        rw [e] at h
        cases h
        rw [List.map_cons, textsOf_rep e rs]
    | _ => cases h
def eAllK (iw : Nat) (lk : List (Str × D)) (me : M D) : M D := me.bind fun d env => match env[iw]? with
  | some (some (.shr (.str wd))) => match lk.lookup wd with
    | some (.str g) => match d with
      | .lst ds => match textsOf ds with
        | some ws => .ok (.bl (ws.all fun z => sameT z g)) env
        | none => .stuck
      | _ => .stuck
    | _ => .stuck
  | _ => .stuck
theorem rx_allK {W : WX} {lk : List (Str × D)} {iw : Nat} {te : TE} {me : M D} (hP : P ∈ Tabs.ps) (GD : GDct X.K X.w X.mg G lk) (h : RX X.K X.mg W (RD X.K X.mg) te me) : RX X.K X.mg W (RD X.K X.mg) (tAllK P X.K X.w G iw te) (eAllK iw lk me) := by
  intro σ0 B H σ env sm Q post
  show te σ H _
  refine RX.go (R2 := RD X.K X.mg) (Q' := Q) h sm post fun v d B1 H1 env1 sm1 _ r1 post1 => ?_
  match e1 : env1[iw]?, post1 with
  | some (some (.shr (.str wd))), post1 =>
    simp only at post1
    match e2 : lk.lookup wd, post1 with
    | some (.str g), post1 =>
      simp only at post1
      cases r1 with
      | @lst a vs ds q rs =>
        simp only at post1
        cases e3 : textsOf ds with
        | none => rw [e3] at post1; exact (post1 : False).elim
        | some ws =>
          rw [e3] at post1
          have ev := textsOf_rep e3 rs
          subst ev
          obtain ⟨v0, kd, rep⟩ := GD.yes wd _ e2
          have ev0 : v0 = .str g := Rep.str_inv (rep B1)
          subst ev0
          obtain ⟨vw, s1, s2⟩ := sm1.sl iw _ e1
          have s2 : vw = .str wd := Rep.str_inv s2
          subst s2
          refine ⟨a, ws, wd, g, rfl, sm1.sub.sqL (.inl (.inl q)), s1, kd, (sm1.tb P hP).1, fun H2 hT => ?_⟩
          exact post1 _ B1 H2 (Stp.tabbed hT (sm1.tb P hP).1) (sm1.tabbed hP hT) (OSub.refl _) (Rep.bl _)
      | _ => exact (post1 : False).elim
    | some .non, post1 => exact (post1 : False).elim
    | some (.bl _), post1 => exact (post1 : False).elim
    | some (.int _), post1 => exact (post1 : False).elim
    | some (.tup _), post1 => exact (post1 : False).elim
    | some (.ftp _), post1 => exact (post1 : False).elim
    | some (.lst _), post1 => exact (post1 : False).elim
    | some (.frz _), post1 => exact (post1 : False).elim
    | some (.dK _), post1 => exact (post1 : False).elim
    | some (.dT _), post1 => exact (post1 : False).elim
    | some (.ins _ _), post1 => exact (post1 : False).elim
    | none, post1 => exact (post1 : False).elim
  | some (some (.shr .non)), post1 => exact (post1 : False).elim
  | some (some (.shr (.bl _))), post1 => exact (post1 : False).elim
  | some (some (.shr (.int _))), post1 => exact (post1 : False).elim
  | some (some (.shr (.tup _))), post1 => exact (post1 : False).elim
  | some (some (.shr (.ftp _))), post1 => exact (post1 : False).elim
  | some (some (.shr (.lst _))), post1 => exact (post1 : False).elim
  | some (some (.shr (.frz _))), post1 => exact (post1 : False).elim
  | some (some (.shr (.dK _))), post1 => exact (post1 : False).elim
  | some (some (.shr (.dT _))), post1 => exact (post1 : False).elim
  | some (some (.shr (.ins _ _))), post1 => exact (post1 : False).elim
  | some (some (.own _ _)), post1 => exact (post1 : False).elim
  | some none, post1 => exact (post1 : False).elim
  | none, post1 => exact (post1 : False).elim
theorem se_allK {W : WX} {iter : Expr} {te : TE} {me : M D} {k : Nat} {scope : Scope} {lk : List (Str × D)} {x y gn : Str} {px p pos gpos p1 p2 p3 p4 p5 : Pos} (iw : Nat) (hr : Room k X.A) (hm : X.mg "all" = none) (TB : TabB X.base X.mg c P) (hP : P ∈ Tabs.ps) (hcode : X.env.code = .ref c) (S : GenF X.env.scope scope x)
    (GD : GDct X.K X.w X.mg G lk) (hmG : X.mg gn = some (.ref G)) (hi : SE X W iter te me) (hnG : scope.names.lookup gn = some .globalImplicit := by rfl) (hny : scope.names.lookup y = some .free := by rfl) (hN : X.N[iw]? = some y := by rfl) (hcy : X.env.scope.names.lookup y = some .cell := by rfl)
    (hx1 : (x == ("__debug__" : Str)) = false := by decide) (hy1 : (y == ("__debug__" : Str)) = false := by decide) (hy2 : (y == ("__classdict__" : Str)) = false := by decide) (hg1 : (gn == ("__debug__" : Str)) = false := by decide)
    (hg : Gl X "all" := by rfl) (hb : bootBuiltins "all" = some (.builtin "all") := by decide +kernel) (hs : ∀ v, genFold iter X.env v = pure v := by intro _; rfl)
    (he : starEach [.GeneratorExp (.Compare (.Name x p1) [.Eq] [.Subscript (.Name gn p2) (.Name y p3) p4] p5) [⟨.Name x px, iter, [], 0⟩] scope gpos] X.env = (false, eval (.GeneratorExp (.Compare (.Name x p1) [.Eq] [.Subscript (.Name gn p2) (.Name y p3) p4] p5) [⟨.Name x px, iter, [], 0⟩] scope gpos) X.env) :: starEach [] X.env := by rfl) :
    SE X W (.Call (.Name "all" p) [.GeneratorExp (.Compare (.Name x p1) [.Eq] [.Subscript (.Name gn p2) (.Name y p3) p4] p5) [⟨.Name x px, iter, [], 0⟩] scope gpos] [] pos) (tAllK P X.K X.w G iw te) (eAllK iw lk me) :=
  ⟨pe_allK hr hm TB hcode S hi.pe hmG hnG hny hN hcy hx1 hy1 hy2 hg1 hg hb hs he, rx_allK hP GD hi.rx⟩
end
end Mi

/-! The mirror layer 46: a list times a number. -/
namespace Mi
open PySem L2
section
variable [Tabs] {K : PySem.W.Frag} {mg : Str → Option Value}
def dRepL : D → D → Option D
  | .lst xs, .int k => if -1000000 ≤ k ∧ k ≤ 1000000 ∧ xs.length * k.toNat ≤ 16777216 then some (.lst (List.replicate k.toNat xs).flatten) else none
  | _, _ => none
theorem Reps.rep {B : Hp} {vs : List V} {ds : List D} (r : Reps K mg B vs ds) : ∀ n : Nat, Reps K mg B (List.replicate n vs).flatten (List.replicate n ds).flatten
  | 0 => .nil
  | n + 1 => by
    rw [List.replicate_succ, List.replicate_succ, List.flatten_cons, List.flatten_cons]
    exact r.append (Reps.rep r n)
theorem re_repL : Real2 K mg rRep dRepL := by
  intro B H x y d e z s h1 h2 e1 Q q
  have hz : sizeLine = 16777216 := sizeLine_eq
  unfold dRepL at e1
  split at e1
  · split at e1
    · rename_i k hl
      obtain ⟨k1, k2, k3⟩ := hl
      cases e1
      cases h2
      cases h1 with
      | lst p1 r1 =>
        have l1 := r1.length
        exact ⟨_, _, _, rfl, rfl, s.lst p1, by omega, by omega, by rw [l1]; omega, fun p hp => q _ _ _ (Al.upd s hp) (.lst upd_same ((Reps.rep r1 _).mono (Al.upd s hp).g))⟩
    · cases e1
  · cases e1
theorem EntR.cs {h : Int} {k z : Str} {t u : Tok} {es : List DictEntry} {lk : List (Str × D)} (r : EntR K mg es lk) : EntR K mg (⟨h, .str k t, .str z u⟩ :: es) ((k, .str z) :: lk) := .cons (v := .str z) ⟨_, rfl⟩ (fun _ => .str _) r
theorem EntR.ci {h : Int} {k : Str} {z : Int} {t u : Tok} {es : List DictEntry} {lk : List (Str × D)} (r : EntR K mg es lk) : EntR K mg (⟨h, .str k t, .int z u⟩ :: es) ((k, .int z) :: lk) := .cons (v := .int z) ⟨_, rfl⟩ (fun _ => .int _) r
end
end Mi

/-! Values of the mirrors: plain rules. -/
namespace Mi
open PySem L2
section
variable {ma mb mc : M D} {env : En}
@[simp] theorem M.bind_ap {α β : Type} (m : M α) (k : α → M β) : M.bind m k env = (m env).bind k := rfl
@[simp] theorem M.pure_ap {α : Type} (a : α) : M.pure a env = .ok a env := rfl
@[simp] theorem eOp_ap (f : D → D → Option D) : eOp f ma mb env = (ma env).bind fun a e => (mb e).bind fun b e => ofO (f a b) e := rfl
@[simp] theorem eUn_ap (f : D → Option D) : eUn f ma env = (ma env).bind fun a e => ofO (f a) e := rfl
@[simp] theorem eTest_ap : eTest ma env = (ma env).bind fun a e => ofO (asB a) e := rfl
@[simp] theorem asB_bl (b : Bool) : asB (.bl b) = some b := rfl
@[simp] theorem eC_ap (d : D) : eC d env = .ok d env := rfl
@[simp] theorem aNil_ap : aNil env = .ok [] env := rfl
@[simp] theorem aCons_ap (m : M D) (r : M (List D)) : aCons m r env = (m env).bind fun a e => (r e).bind fun as e => .ok (a :: as) e := rfl
@[simp] theorem eCB_ap (f : List D → Option D) (m : M (List D)) : eCB f m env = (m env).bind fun as e => ofO (f as) e := rfl
@[simp] theorem bAnd_ap (m n : M Bool) : bAnd m n env = (m env).bind fun a e => if a = true then n e else .ok false e := by
  show (m env).bind _ = _
  congr 1; funext a e; cases a <;> rfl
@[simp] theorem bOr_ap (m n : M Bool) : bOr m n env = (m env).bind fun a e => if a = true then .ok true e else n e := by
  show (m env).bind _ = _
  congr 1; funext a e; cases a <;> rfl
@[simp] theorem bNot_ap (m : M Bool) : bNot m env = (m env).bind fun a e => .ok (!a) e := rfl
@[simp] theorem eAnd_ap : eAnd ma mb env = (ma env).bind fun d => match d with
  | .bl true => mb
  | .bl false => M.pure (.bl false)
  | _ => fun _ => .stuck := rfl
@[simp] theorem eOr_ap : eOr ma mb env = (ma env).bind fun d => match d with
  | .bl true => M.pure (.bl true)
  | .bl false => mb
  | _ => fun _ => .stuck := rfl
@[simp] theorem eNot_ap : eNot ma env = (ma env).bind fun d => match d with
  | .bl b => M.pure (.bl (!b))
  | _ => fun _ => .stuck := rfl
@[simp] theorem eIf_ap (t : M Bool) : eIf t ma mb env = (t env).bind fun c e => if c = true then ma e else mb e := by
  show (t env).bind _ = _
  congr 1; funext a e; cases a <;> rfl
@[simp] theorem eTup_ap (m : M (List D)) : eTup m env = (m env).bind fun as e => ofO (if as.length ≤ 16777216 then some (.tup as) else none) e := rfl
@[simp] theorem eLst_ap (m : M (List D)) : eLst m env = (m env).bind fun as e => ofO (if as.length ≤ 16777216 then some (.lst as) else none) e := rfl
@[simp] theorem mSet_ap (i : Nat) : mSet i ma env = (ma env).bind fun d e => .ok .nx (e.set i (some (.shr d))) := rfl
@[simp] theorem mSetN_ap (i : Nat) : mSetN i ma env = (ma env).bind fun d e => .ok .nx (e.set i (some (.own false d))) := rfl
@[simp] theorem mIf_ap (t : M Bool) (m n : M Fl) : mIf t m n env = (t env).bind fun c e => if c = true then m e else n e := by
  show (t env).bind _ = _
  congr 1; funext a e; cases a <;> rfl
@[simp] theorem mRet_ap : mRet ma env = (ma env).bind fun d e => .ok (.rt false d) e := rfl
@[simp] theorem mRetN_ap : mRetN ma env = (ma env).bind fun d e => .ok (.rt true d) e := rfl
@[simp] theorem mNx_ap : mNx env = .ok .nx env := rfl
@[simp] theorem rNil_ap : rNil env = .ok [] env := rfl
@[simp] theorem rSh_ap (r : M (List Ar)) : rSh ma r env = (ma env).bind fun a e => (r e).bind fun as e => .ok (.sh a :: as) e := rfl
def seqR (r : Res Fl) (n : M Fl) : Res Fl := match r with
  | .ok .nx env' => n env'
  | r => r
@[simp] theorem mSeq_ap (m n : M Fl) : mSeq m n env = seqR (m env) n := rfl
@[simp] theorem seqR_nx (n : M Fl) (e : En) : seqR (.ok .nx e) n = n e := rfl
@[simp] theorem seqR_rt (n : M Fl) (o : Bool) (d : D) (e : En) : seqR (.ok (.rt o d) e) n = .ok (.rt o d) e := rfl
@[simp] theorem seqR_ct (n : M Fl) (e : En) : seqR (.ok .ct e) n = .ok .ct e := rfl
@[simp] theorem seqR_bk (n : M Fl) (e : En) : seqR (.ok .bk e) n = .ok .bk e := rfl
@[simp] theorem eSl_ap (f : D → Option Int → Option Int → Option D) (m : M D) (ml mh : M (Option Int)) : eSl f m ml mh env = (m env).bind fun d e => (ml e).bind fun l e => (mh e).bind fun h e => ofO (f d l h) e := rfl
@[simp] theorem oNone_ap : oNone env = .ok none env := rfl
def oSomeF : D → M (Option Int)
  | .int i => M.pure (some i)
  | _ => fun _ => .stuck
@[simp] theorem oSome_ap : oSome ma env = (ma env).bind oSomeF := rfl
@[simp] theorem oSomeF_i (i : Int) : oSomeF (.int i) env = .ok (some i) env := rfl
end
/-! ### values -/
theorem ofString_inj {a b : String} : (Str.ofString a = Str.ofString b) ↔ a = b := by
  constructor
  · intro h
    rw [Str.ofString_eq_toList, Str.ofString_eq_toList] at h
    have h1 : a.toList.map Char.toNat = b.toList.map Char.toNat := by
      have := congrArg (fun s : Str => s.cps.toList) h
      simpa using this
    have h2 : a.toList = b.toList := List.map_inj_right (fun x y e => Char.toNat_inj.mp e) |>.mp h1
    exact String.toList_inj.mp h2
  · rintro rfl; rfl
@[simp] theorem dAdd_i (i j : Int) : dAdd (.int i) (.int j) = some (.int (i + j)) := rfl
@[simp] theorem dSub_i (i j : Int) : dSub (.int i) (.int j) = some (.int (i - j)) := rfl
theorem dDiv_i (i j : Int) (h : j ≠ 0) (h2 : j.natAbs.log2 < 9000) : dDiv (.int i) (.int j) = some (.int (i.fdiv j)) := if_pos ⟨h, h2⟩
theorem dMod_i (i j : Int) (h : j ≠ 0) : dMod (.int i) (.int j) = some (.int (i.fmod j)) := if_pos h
theorem log2_lt {n k : Nat} (h : n < 2 ^ k) (hk : 0 < k) : n.log2 < k := by
  by_cases h0 : n = 0
  · subst h0; simpa using hk
  · exact (Nat.log2_lt h0).mpr h
theorem dMul_i (i j : Int) (h1 : i.natAbs < 2 ^ 200) (h2 : j.natAbs < 2 ^ 200) : dMul (.int i) (.int j) = some (.int (i * j)) := by
  have a := log2_lt h1 (by decide)
  have b := log2_lt h2 (by decide)
  have c : smallMul i j = true := decide_eq_true (by omega)
  exact if_pos c
@[simp] theorem dOrd_i (f g) (i j : Int) : dOrd f g (.int i) (.int j) = some (.bl (f i j)) := rfl
@[simp] theorem dOrd_s (f g) (i j : Str) : dOrd f g (.str i) (.str j) = some (.bl (g i.cps.toList j.cps.toList)) := rfl
@[simp] theorem dOrd_b (f g) (i j : Bool) : dOrd f g (.bl i) (.bl j) = some (.bl (f (PyProof.Rows.b2i i) (PyProof.Rows.b2i j))) := rfl
theorem shp_int (i : Int) : SeqAt.shaped (.int i) = true := rfl
theorem strOk_of (s : String) : PyData.strOk (Str.ofString s) = true := by
  rw [Str.ofString_eq_toList]
  unfold PyData.strOk
  simp only [List.all_toArray, List.all_eq_true, List.mem_map, decide_eq_true_eq]
  rintro n ⟨c, _, rfl⟩
  have := c.valid
  unfold UInt32.isValidChar Nat.isValidChar at this
  unfold Char.toNat
  omega
theorem shp_str {i : Str} (h : PyData.strOk i = true) : SeqAt.shaped (.str i) = true := by
  unfold SeqAt.shaped
  rw [PyData.canLay0, h]; rfl
theorem shp_bl (i : Bool) : SeqAt.shaped (.bool i) = true := rfl
theorem shp_non : SeqAt.shaped .none = true := rfl
@[simp] theorem dEq_i (i j : Int) : dEq (.int i) (.int j) = some (.bl (decide (i = j))) := rfl
@[simp] theorem dNe_i (i j : Int) : dNe (.int i) (.int j) = some (.bl (!decide (i = j))) := rfl
theorem dEq_s {i j : Str} (h : PyData.strOk i = true) (h2 : PyData.strOk j = true) : dEq (.str i) (.str j) = some (.bl (decide (i = j))) := by
  unfold dEq
  rw [toPy, toPy, shp_str h, shp_str h2]; rfl
theorem dNe_s {i j : Str} (h : PyData.strOk i = true) (h2 : PyData.strOk j = true) : dNe (.str i) (.str j) = some (.bl (!decide (i = j))) := by
  unfold dNe
  rw [toPy, toPy, shp_str h, shp_str h2]; rfl
@[simp] theorem dEq_l (i j : String) : dEq (.str (Str.ofString i)) (.str (Str.ofString j)) = some (.bl (decide (i = j))) := by
  rw [dEq_s (strOk_of _) (strOk_of _), decide_eq_decide.mpr ofString_inj]
@[simp] theorem dNe_l (i j : String) : dNe (.str (Str.ofString i)) (.str (Str.ofString j)) = some (.bl (!decide (i = j))) := by
  rw [dNe_s (strOk_of _) (strOk_of _), decide_eq_decide.mpr ofString_inj]
@[simp] theorem dEq_b (i j : Bool) : dEq (.bl i) (.bl j) = some (.bl (i == j)) := by cases i <;> cases j <;> rfl
@[simp] theorem dNe_b (i j : Bool) : dNe (.bl i) (.bl j) = some (.bl (!(i == j))) := by cases i <;> cases j <;> rfl
@[simp] theorem dInt_i (i : Int) : dInt [.int i] = some (.int i) := rfl
@[simp] theorem dLen_l (xs : List D) : dLen [.lst xs] = some (.int xs.length) := rfl
@[simp] theorem dLen_f (xs : List D) : dLen [.frz xs] = some (.int xs.length) := rfl
@[simp] theorem dLen_t (xs : List D) : dLen [.tup xs] = some (.int xs.length) := rfl
theorem dLen_s (z : Str) (h : z.length ≤ 16777216) : dLen [.str z] = some (.int z.length) := if_pos h
@[simp] theorem toKey_s (s : Str) : toKey (.str s) = some (.inr s) := rfl
@[simp] theorem toKey_i (s : Int) : toKey (.int s) = some (.inl s) := rfl
theorem dLook_nil {κ : Type} [DecidableEq κ] (k : κ) : dLook ([] : List (κ × D)) k = none := rfl
theorem dLook_cons {κ : Type} [DecidableEq κ] (k k' : κ) (v : D) (r : List (κ × D)) : dLook ((k', v) :: r) k = if k' = k then some v else dLook r k := by
  unfold dLook
  rw [List.find?_cons]
  by_cases h : k' = k
  · simp [h]
  · simp [h]
/-! ### calls -/
def callR (np : Nat) (mf : List Slot → Fin) (as : List Ar) (env : En) : Res D := if as.length = np ∧ (ioIx as).Nodup then match slotsOf env as with
    | none => .stuck
    | some args => match mf args with
      | .ret false d os => match putOuts as os env with
        | some env' => .ok d env'
        | none => .stuck
      | .exn x os => match putOuts as os env with
        | some env' => .exn x env'
        | none => .stuck
      | _ => .stuck
  else .stuck
def callN (np : Nat) (mf : List Slot → Fin) (as : List Ar) (env : En) : Res D := if as.length = np ∧ (ioIx as).Nodup then match slotsOf env as with
    | none => .stuck
    | some args => match mf args with
      | .ret true d os => match putOuts as os env with
        | some env' => .ok d env'
        | none => .stuck
      | .exn x os => match putOuts as os env with
        | some env' => .exn x env'
        | none => .stuck
      | _ => .stuck
  else .stuck
section
variable {env : En}
@[simp] theorem eCall_ap (np : Nat) (mf : List Slot → Fin) (ma : M (List Ar)) : eCall np mf ma env = (ma env).bind (callR np mf) := rfl
@[simp] theorem eCallN_ap (np : Nat) (mf : List Slot → Fin) (ma : M (List Ar)) : eCallN np mf ma env = (ma env).bind (callN np mf) := rfl
def forF (g : D → En → Option En) (body : M Fl) (clr : List Nat) (ds : List D) (env : En) : Res Fl := forL g body clr ds env
@[simp] theorem mFor_ap (mi : M (List D)) (g : D → En → Option En) (body : M Fl) (clr : List Nat) : mFor mi g body clr env = (mi env).bind fun ds e => forL g body clr ds e := rfl
@[simp] theorem iL_ap (m : M D) : iL m env = (m env).bind fun d => match d with
  | .lst xs => M.pure xs
  | .frz xs => M.pure xs
  | _ => fun _ => .stuck := rfl
@[simp] theorem iS_ap (m : M D) : iS m env = (m env).bind fun d => match d with
  | .str z => M.pure (z.cps.toList.map fun c => .str ⟨#[c]⟩)
  | _ => fun _ => .stuck := rfl
def iR1F : List D → M (List D)
  | [.int j] => if small62 j then M.pure (rngD 0 j.toNat) else fun _ => .stuck
  | _ => fun _ => .stuck
def iR2F : List D → M (List D)
  | [.int i, .int j] => if small62 i && small62 j then M.pure (rngD i (j - i).toNat) else fun _ => .stuck
  | _ => fun _ => .stuck
@[simp] theorem iR1_ap (m : M (List D)) : iR1 m env = (m env).bind iR1F := rfl
@[simp] theorem iR2_ap (m : M (List D)) : iR2 m env = (m env).bind iR2F := rfl
theorem iR1F_ok {j : Int} (h : small62 j = true) : iR1F [.int j] env = .ok (rngD 0 j.toNat) env := by
  unfold iR1F
  dsimp only
  rw [if_pos h]
  rfl
theorem iR2F_ok {i j : Int} (h : small62 i = true) (g : small62 j = true) : iR2F [.int i, .int j] env = .ok (rngD i (j - i).toNat) env := by
  unfold iR2F
  dsimp only
  rw [h, g]
  rfl
theorem small_of {i : Int} (h : -1000000000 ≤ i) (h2 : i ≤ 1000000000) : small62 i = true := by
  unfold small62
  rw [Bool.and_eq_true]
  exact ⟨Nat.ble_eq_true_of_le (by omega), Nat.ble_eq_true_of_le (by omega)⟩
def lcR (g : D → En → Option En) (t : M Bool) (m : M D) (vs : List Nat) (ds : List D) (env : En) : Res D := if ds.length ≤ 16777216 then match lcL g t m vs ds (wipeE env vs) with
    | .ok ys env' => .ok (.lst ys) (backE env env' vs)
    | _ => .stuck
  else .stuck
@[simp] theorem eLc_ap (mi : M (List D)) (g : D → En → Option En) (t : M Bool) (m : M D) (vs : List Nat) : eLc mi g t m vs env = (mi env).bind (lcR g t m vs) := rfl
@[simp] theorem eJoin_ap (ma mb : M D) : eJoin ma mb env = (ma env).bind fun d e => match d with
  | .str a => (mb e).bind fun c => ofO (joinD a c)
  | _ => .stuck := by
  show (ma env).bind _ = _
  congr 1
  funext d e
  cases d <;> rfl
end
/-! ### loops -/
theorem forL_nil {g : D → En → Option En} {body : M Fl} {clr : List Nat} {env : En} : forL g body clr [] env = .ok .nx env := rfl
theorem forL_nx {g : D → En → Option En} {body : M Fl} {clr : List Nat} {env env1 env2 : En} {x : D} {xs : List D} (h : g x env = some env1) (h2 : body env1 = .ok .nx env2) : forL g body clr (x :: xs) env = forL g body clr xs (clrE clr env2) := by
  simp only [forL, h, h2]
theorem forL_rt {g : D → En → Option En} {body : M Fl} {clr : List Nat} {env env1 env2 : En} {x : D} {xs : List D} {o : Bool} {d : D} (h : g x env = some env1) (h2 : body env1 = .ok (.rt o d) env2) : forL g body clr (x :: xs) env = .ok (.rt o d) env2 := by
  simp only [forL, h, h2]
def Nx (r : Res Fl) (p : En → Prop) : Prop := match r with
  | .ok .nx e => p e
  | _ => False
@[simp] theorem Nx_ok {e : En} {p : En → Prop} : Nx (.ok .nx e) p = p e := rfl
theorem Nx_ex {r : Res Fl} {p : En → Prop} (h : Nx r p) : ∃ e, r = .ok .nx e ∧ p e := by
  unfold Nx at h
  split at h
  · exact ⟨_, rfl, h⟩
  · exact h.elim
def Tn (g : D → En → Option En) (body : M Fl) (x : D) (env : En) (p : En → Prop) : Prop := match g x env with
  | some e => Nx (body e) p
  | none => False
@[simp] theorem Tn_gN {i : Nat} {body : M Fl} {x : D} {env : En} {p : En → Prop} : Tn (gN i) body x env p = Nx (body (env.set i (some (.shr x)))) p := rfl
/-- a loop that goes through: P of what is left and of the slots -/
theorem forL_all {g : D → En → Option En} {body : M Fl} {clr : List Nat} (P : List D → En → Prop) (h : ∀ x xs env, P (x :: xs) env → Tn g body x env fun e => P xs (clrE clr e)) :
    ∀ (ds : List D) (env : En), P ds env → ∃ env', forL g body clr ds env = .ok .nx env' ∧ P [] env'
  | [], env, p => ⟨env, rfl, p⟩
  | x :: xs, env, p => by
    have t := h x xs env p
    unfold Tn at t
    split at t
    · rename_i e1 h1
      obtain ⟨e2, h2, p2⟩ := Nx_ex t
      rw [forL_nx h1 h2]
      exact forL_all P h xs _ p2
    · exact t.elim
/-! ### places -/
theorem atI_get {α : Type} (xs : List α) (i : Int) (h0 : 0 ≤ i) (h1 : i < xs.length) : atI xs i = xs[i.toNat]? := by
  unfold atI ixN
  rw [if_pos h0, if_pos h1]
  rfl
theorem dIx_l (xs : List D) (i : Int) (h0 : 0 ≤ i) (h1 : i < xs.length) : dIx (.lst xs) (.int i) = xs[i.toNat]? := atI_get xs i h0 h1
theorem dIx_s (z : Str) (i : Int) (hz : z.length ≤ 16777216) (h0 : 0 ≤ i) (h1 : i < z.length) : dIx (.str z) (.int i) = (z.cps.toList[i.toNat]?).map fun c => .str ⟨#[c]⟩ := by
  refine (if_pos hz).trans ?_
  rw [atI_get _ _ h0 h1]
end Mi

/-! Values of the mirrors: isinstance, texts, comprehensions. -/
namespace Mi
open PySem L2
@[simp] theorem kb1 : kitB "NoneType" "int" = some false := by decide +kernel
@[simp] theorem kb2 : kitB "bool" "int" = some true := by decide +kernel
@[simp] theorem kb3 : kitB "int" "int" = some true := by decide +kernel
@[simp] theorem kb4 : kitB "str" "int" = some false := by decide +kernel
@[simp] theorem kb5 : kitB "tuple" "int" = some false := by decide +kernel
@[simp] theorem kb6 : kitB "list" "int" = some false := by decide +kernel
@[simp] theorem kb11 : kitB "NoneType" "bool" = some false := by decide +kernel
@[simp] theorem kb12 : kitB "bool" "bool" = some true := by decide +kernel
@[simp] theorem kb13 : kitB "int" "bool" = some false := by decide +kernel
@[simp] theorem kb14 : kitB "str" "bool" = some false := by decide +kernel
@[simp] theorem kb15 : kitB "tuple" "bool" = some false := by decide +kernel
@[simp] theorem kb16 : kitB "list" "bool" = some false := by decide +kernel
@[simp] theorem kb21 : kitB "NoneType" "str" = some false := by decide +kernel
@[simp] theorem kb22 : kitB "bool" "str" = some false := by decide +kernel
@[simp] theorem kb23 : kitB "int" "str" = some false := by decide +kernel
@[simp] theorem kb24 : kitB "str" "str" = some true := by decide +kernel
@[simp] theorem kb25 : kitB "tuple" "str" = some false := by decide +kernel
@[simp] theorem kb26 : kitB "list" "str" = some false := by decide +kernel
@[simp] theorem kb31 : kitB "NoneType" "tuple" = some false := by decide +kernel
@[simp] theorem kb32 : kitB "bool" "tuple" = some false := by decide +kernel
@[simp] theorem kb33 : kitB "int" "tuple" = some false := by decide +kernel
@[simp] theorem kb34 : kitB "str" "tuple" = some false := by decide +kernel
@[simp] theorem kb35 : kitB "tuple" "tuple" = some true := by decide +kernel
@[simp] theorem kb36 : kitB "list" "tuple" = some false := by decide +kernel
@[simp] theorem kb41 : kitB "NoneType" "list" = some false := by decide +kernel
@[simp] theorem kb42 : kitB "bool" "list" = some false := by decide +kernel
@[simp] theorem kb43 : kitB "int" "list" = some false := by decide +kernel
@[simp] theorem kb44 : kitB "str" "list" = some false := by decide +kernel
@[simp] theorem kb45 : kitB "tuple" "list" = some false := by decide +kernel
@[simp] theorem kb46 : kitB "list" "list" = some true := by decide +kernel
section
variable {ma mb mc : M D} {env : En}
@[simp] theorem eIsI_ap (T : String) : eIsI T ma env = (ma env).bind fun d e => ofO (isTy T d) e := rfl
@[simp] theorem isTy_non (T : String) : isTy T .non = (kitB "NoneType" T).map .bl := rfl
@[simp] theorem isTy_bl (T : String) (b : Bool) : isTy T (.bl b) = (kitB "bool" T).map .bl := rfl
@[simp] theorem isTy_int (T : String) (b : Int) : isTy T (.int b) = (kitB "int" T).map .bl := rfl
@[simp] theorem isTy_str (T : String) (b : Str) : isTy T (.str b) = (kitB "str" T).map .bl := rfl
@[simp] theorem isTy_tup (T : String) (b : List D) : isTy T (.tup b) = (kitB "tuple" T).map .bl := rfl
@[simp] theorem isTy_lst (T : String) (b : List D) : isTy T (.lst b) = (kitB "list" T).map .bl := rfl
@[simp] theorem eChain_ap (f g : D → D → Option D) : eChain f g ma mb mc env = (ma env).bind fun a e => (mb e).bind fun b e => match f a b with
  | some (.bl true) => (mc e).bind fun c e => ofO (g b c) e
  | some (.bl false) => .ok (.bl false) e
  | _ => .stuck := rfl
end
theorem in_sign (c : Nat) (z : Str) : inS ⟨#[c]⟩ z = decide (c ∈ z.cps.toList) := StrLaws.found_one z c
/-- of signs that the text may have -/
def okC (c : Nat) : Prop := c = 10 ∨ (32 ≤ c ∧ c ≤ 36) ∨ (38 ≤ c ∧ c ≤ 126)
instance (c : Nat) : Decidable (okC c) := by unfold okC; exact inferInstance
def OkS (s : Str) : Prop := ∀ c ∈ s.cps.toList, okC c
instance (s : Str) : Decidable (OkS s) := by unfold OkS; exact inferInstance
theorem okC_lt {c : Nat} (h : okC c) : c < 0x110000 := by unfold okC at h; omega
theorem OkS.ok {s : Str} (h : OkS s) : PyData.strOk s = true := by
  unfold PyData.strOk
  rw [Array.all_eq_true']
  intro c hc
  exact decide_eq_true (okC_lt (h c (Array.mem_toList_iff.mpr hc)))
theorem strOk_one {c : Nat} (h : okC c) : PyData.strOk ⟨#[c]⟩ = true := by
  have : OkS ⟨#[c]⟩ := by
    intro d hd
    have : d = c := by simpa using hd
    rw [this]; exact h
  exact this.ok
theorem one_inj {c d : Nat} : ((⟨#[c]⟩ : Str) = ⟨#[d]⟩) ↔ c = d := by
  constructor
  · intro h
    have := congrArg (fun s : Str => s.cps.toList) h
    simpa using this
  · rintro rfl; rfl
theorem OkS.append {s t : Str} (h : OkS s) (g : OkS t) : OkS (s ++ t) := by
  intro c hc
  have e : (s ++ t).cps.toList = s.cps.toList ++ t.cps.toList := Array.toList_append
  rw [e] at hc
  rcases List.mem_append.mp hc with x | x
  · exact h c x
  · exact g c x
theorem len_append (s t : Str) : (s ++ t).length = s.length + t.length := Array.size_append
theorem str_len (s : Str) : s.length = s.cps.toList.length := Array.length_toList.symm
/-! joins -/
theorem join_go (xs : List Str) : ∀ acc : Array Nat, (xs.foldl (fun acc p => acc ++ (Str.ofString "").cps ++ p.cps) acc).toList = acc.toList ++ xs.flatMap fun x => x.cps.toList := by
  have e : (Str.ofString "").cps = #[] := by decide +kernel
  rw [e]
  induction xs with
  | nil => intro acc; simp
  | cons x xs ih => intro acc; rw [List.foldl_cons, ih]; simp
theorem join_cps (xs : List Str) : (Txt.join (Str.ofString "") xs).cps.toList = xs.flatMap fun x => x.cps.toList := by
  cases xs with
  | nil => rfl
  | cons x xs =>
    show (xs.foldl (fun acc p => acc ++ (Str.ofString "").cps ++ p.cps) x.cps).toList = _
    rw [join_go, List.flatMap_cons]
/-- all the items are texts of one sign that may be -/
theorem join_ones : ∀ (ds : List D), (∀ d ∈ ds, ∃ c, d = .str ⟨#[c]⟩ ∧ okC c) → ds.length ≤ 1000 → ∃ s, joinD (Str.ofString "") (.lst ds) = some (.str s) ∧ OkS s ∧ s.length = ds.length := by
  intro ds h hl
  have key : ∀ ds : List D, (∀ d ∈ ds, ∃ c, d = .str ⟨#[c]⟩ ∧ okC c) → ∃ cs : List Nat, strsOf ds = some (cs.map fun c => ⟨#[c]⟩) ∧ cs.length = ds.length ∧ ∀ c ∈ cs, okC c := by
    intro ds
    induction ds with
    | nil => intro _; exact ⟨[], rfl, rfl, by simp⟩
    | cons d ds ih =>
      intro h
      obtain ⟨c, rfl, hc⟩ := h d List.mem_cons_self
      obtain ⟨cs, e, l, o⟩ := ih fun x hx => h x (List.mem_cons_of_mem _ hx)
      refine ⟨c :: cs, ?_, by simp [l], ?_⟩
      · show (strsOf ds).map _ = _
        rw [e]; rfl
      · intro x hx
        rcases List.mem_cons.mp hx with rfl | hx
        · exact hc
        · exact o x hx
  obtain ⟨cs, e, l, o⟩ := key ds h
  have hc : (Txt.join (Str.ofString "") (cs.map fun c => ⟨#[c]⟩)).cps.toList = cs := by
    rw [join_cps]
    clear e l o
    induction cs with
    | nil => rfl
    | cons c cs ih => rw [List.map_cons, List.flatMap_cons, ih]; rfl
  have l1 : ((cs.map fun c => (⟨#[c]⟩ : Str)).map Str.length).sum = cs.length := by
    clear e l o hc
    induction cs with
    | nil => rfl
    | cons c cs ih => rw [List.map_cons, List.map_cons, List.sum_cons, ih, List.length_cons]; show 1 + _ = _; omega
  have l0 : (Str.ofString "").length = 0 := by decide +kernel
  refine ⟨_, ?_, fun c hx => o c (by rw [hc] at hx; exact hx), by rw [str_len, hc, l]⟩
  show (strsOf ds).bind _ = _
  rw [e]
  show joinY _ _ = _
  unfold joinY
  rw [l0, l1, if_pos (by omega)]
/-! comprehensions -/
def Lx (r : Res D) (p : D → En → Prop) : Prop := match r with
  | .ok d e => p d e
  | _ => False
@[simp] theorem Lx_ok {d : D} {e : En} {p : D → En → Prop} : Lx (.ok d e) p = p d e := rfl
theorem Lx_ex {r : Res D} {p : D → En → Prop} (h : Lx r p) : ∃ d e, r = .ok d e ∧ p d e := by
  unfold Lx at h
  split at h
  · exact ⟨_, _, rfl, h⟩
  · exact h.elim
/-- a comprehension over shared slots without a test -/
theorem lc_all {i : Nat} {m : M D} {vs : List Nat} (P : List D → En → Prop) (Q : D → Prop) (h : ∀ x xs env, P (x :: xs) env → Lx (m (env.set i (some (.shr x)))) fun d e => Q d ∧ P xs (wipeE e vs)) :
    ∀ (xs : List D) (env : En), P xs env → ∃ ds env', lcL (gN i) (M.pure true) m vs xs env = .ok ds env' ∧ P [] env' ∧ (∀ d ∈ ds, Q d) ∧ ds.length = xs.length
  | [], env, p => ⟨[], env, rfl, p, by simp, rfl⟩
  | x :: xs, env, p => by
    obtain ⟨d, e, h1, q, p2⟩ := Lx_ex (h x xs env p)
    obtain ⟨ds, env', h2, p3, h3, h4⟩ := lc_all P Q h xs _ p2
    refine ⟨d :: ds, env', ?_, p3, ?_, by simp [h4]⟩
    · simp only [lcL, gN, M.pure_ap, h1, h2]
    · intro y hy
      rcases List.mem_cons.mp hy with rfl | hy
      · exact q
      · exact h3 y hy
theorem dIx_all {P : D → Prop} {xs : List D} (h : ∀ x ∈ xs, P x) {i : Int} (h0 : 0 ≤ i) (h1 : i < xs.length) : ∃ z, dIx (.lst xs) (.int i) = some z ∧ P z := by
  refine ⟨xs[i.toNat]'(by omega), ?_, h _ (List.getElem_mem _)⟩
  rw [dIx_l xs i h0 h1, List.getElem?_eq_getElem]
theorem dIx_sign {z : Str} {i : Int} (hz : z.length ≤ 16777216) (h0 : 0 ≤ i) (h1 : i < z.length) : ∃ c, dIx (.str z) (.int i) = some (.str ⟨#[c]⟩) ∧ c ∈ z.cps.toList := by
  have h2 : i.toNat < z.cps.toList.length := by rw [← str_len]; omega
  refine ⟨z.cps.toList[i.toNat], ?_, List.getElem_mem _⟩
  rw [dIx_s z i hz h0 h1, List.getElem?_eq_getElem h2]
  rfl
end Mi

/-! Values of the mirrors: instances, targets that are tuples, slices. -/
namespace Mi
open PySem L2
section
variable {env : En} {m : M D}
@[simp] theorem eFld_ap (c f : Str) : eFld c f m env = (m env).bind fun d e => ofO (fGet c f d) e := rfl
@[simp] theorem eNew_ap (c : Str) (np : Nat) (mf : List Slot → Fin) (ma : M (List Ar)) : eNew c np mf ma env = (ma env).bind (newR c np mf) := rfl
@[simp] theorem iT_ap (m : M D) : iT m env = (m env).bind fun d => match d with
  | .tup xs => M.pure xs
  | .ftp xs => M.pure xs
  | _ => fun _ => .stuck := rfl
@[simp] theorem eIsN_ap : eIsN m env = (m env).bind fun a e => .ok (.bl (isNon a)) e := rfl
@[simp] theorem eNotN_ap : eNotN m env = (m env).bind fun a e => .ok (.bl (!isNon a)) e := rfl
end
@[simp] theorem isNon_non : isNon .non = true := rfl
@[simp] theorem isNon_i (i : Int) : isNon (.int i) = false := rfl
@[simp] theorem isNon_b (i : Bool) : isNon (.bl i) = false := rfl
@[simp] theorem isNon_s (i : Str) : isNon (.str i) = false := rfl
theorem sl_take (xs : List D) (m : Int) (h : 0 ≤ m) : dSlL (.lst xs) none (some m) = some (.lst (xs.take m.toNat)) := by
  obtain ⟨k, rfl⟩ := Int.eq_ofNat_of_zero_le h
  show some (D.lst (cutD _ _ _)) = _
  unfold cutD
  rw [HT.sIx_none, List.drop_zero, Nat.sub_zero, HT.sIx_nat]
  congr 2
  rw [List.take_eq_take_iff]
  show _ = min k _
  omega
theorem slT_drop1 (x : D) (xs : List D) : dSl (.tup (x :: xs)) (some 1) none = some (.tup xs) := by
  show some (D.tup (cutD _ _ _)) = _
  unfold cutD
  rw [HT.sIx_none, show HT.sIx (x :: xs).length 0 (some 1) = min 1 (xs.length + 1) from HT.sIx_nat _ 0 1]
  rw [show min 1 (xs.length + 1) = 1 by omega]
  show some (D.tup (List.take (xs.length + 1 - 1) xs)) = _
  rw [show xs.length + 1 - 1 = xs.length by omega, List.take_length]
/-- a comprehension without a test, any target -/
theorem lc_allG {g : D → En → Option En} {m : M D} {vs : List Nat} (P : List D → En → Prop) (Q : D → Prop) (h : ∀ x xs env, P (x :: xs) env → ∃ env1, g x env = some env1 ∧ Lx (m env1) fun d e => Q d ∧ P xs (wipeE e vs)) :
    ∀ (xs : List D) (env : En), P xs env → ∃ ds env', lcL g (M.pure true) m vs xs env = .ok ds env' ∧ P [] env' ∧ (∀ d ∈ ds, Q d) ∧ ds.length = xs.length
  | [], env, p => ⟨[], env, rfl, p, by simp, rfl⟩
  | x :: xs, env, p => by
    obtain ⟨env1, h0, hx⟩ := h x xs env p
    obtain ⟨d, e, h1, q, p2⟩ := Lx_ex hx
    obtain ⟨ds, env', h2, p3, h3, h4⟩ := lc_allG P Q h xs _ p2
    refine ⟨d :: ds, env', ?_, p3, ?_, by simp [h4]⟩
    · simp only [lcL, h0, M.pure_ap, h1, h2]
    · intro y hy
      rcases List.mem_cons.mp hy with rfl | hy
      · exact q
      · exact h3 y hy
/-- a pure one: each item's value told -/
theorem lc_map {g : D → En → Option En} {m : M D} {vs : List Nat} {env : En} (F : D → D) : ∀ (xs : List D), (∀ x ∈ xs, ∃ env1 env2, g x env = some env1 ∧ m env1 = .ok (F x) env2 ∧ wipeE env2 vs = env) → lcL g (M.pure true) m vs xs env = .ok (xs.map F) env
  | [], _ => rfl
  | x :: xs, h => by
    obtain ⟨env1, env2, h0, h1, h2⟩ := h x List.mem_cons_self
    have ih := lc_map F xs fun y hy => h y (List.mem_cons_of_mem _ hy)
    simp only [lcL, h0, M.pure_ap, h1, h2, ih, List.map_cons]
theorem dTupOf_l (xs : List D) : dTupOf [.lst xs] = some (.tup xs) := rfl
end Mi

/-! Loops told in full; the draws of the scripts. -/
namespace Mi
open PySem L2
theorem rngD_nat (n : Nat) : rngD 0 n = (List.range n).map fun (k : Nat) => D.int (k : Int) := by
  unfold rngD; congr 1; funext k; rw [Int.zero_add]
theorem rng_split {n k : Nat} (h : k < n) : rngD 0 n = rngD 0 k ++ .int k :: (rngD (k + 1 : Nat) (n - k - 1)) := by
  apply List.ext_getElem?
  intro i
  unfold rngD
  by_cases h1 : i < k
  · rw [List.getElem?_append_left (by simpa using h1)]
    simp [List.getElem?_map, List.getElem?_range, h1, Nat.lt_trans h1 h]
  · rw [List.getElem?_append_right (by simpa using h1)]
    simp only [List.length_map, List.length_range]
    by_cases h2 : i = k
    · subst h2; simp [List.getElem?_range, h]
    · obtain ⟨j, rfl⟩ : ∃ j, i = k + 1 + j := ⟨i - k - 1, by omega⟩
      rw [show k + 1 + j - k = j + 1 by omega, List.getElem?_cons_succ, List.getElem?_map, List.getElem?_map]
      by_cases h3 : k + 1 + j < n
      · rw [List.getElem?_range h3, List.getElem?_range (by omega)]
        simp
      · rw [List.getElem?_eq_none (by simpa using h3), List.getElem?_eq_none (by simp; omega)]
        rfl
theorem forL_append {g : D → En → Option En} {body : M Fl} {clr : List Nat} {ds2 : List D} : ∀ {ds1 : List D} {env env1 : En}, forL g body clr ds1 env = .ok .nx env1 → (∀ x ∈ ds1, ∀ e e2, body e ≠ .ok .bk e2) → forL g body clr (ds1 ++ ds2) env = forL g body clr ds2 env1
  | [], env, env1, h, _ => by cases h; rfl
  | x :: ds1, env, env1, h, nb => by
    rw [List.cons_append]
    simp only [forL] at h ⊢
    cases h1 : g x env with
    | none => rw [h1] at h; cases h
    | some e1 =>
      simp only [h1] at h ⊢
      cases h2 : body e1 with
      | stuck => simp only [h2] at h; cases h
      | exn _ _ => simp only [h2] at h; cases h
      | ok f e2 =>
        cases f with
        | nx => simp only [h2] at h ⊢; exact forL_append h fun x hx => nb x (List.mem_cons_of_mem _ hx)
        | ct => simp only [h2] at h ⊢; exact forL_append h fun x hx => nb x (List.mem_cons_of_mem _ hx)
        | bk => exact absurd h2 (nb x List.mem_cons_self _ _)
        | rt o d => simp only [h2] at h; cases h
/-- goes through all items: E of what was told so far -/
theorem forL_map {σ : Type} {g : D → En → Option En} {body : M Fl} {clr : List Nat} (E : σ → En) (step : σ → D → σ) : ∀ (ds : List D) (s : σ) (J : List D → σ → Prop), J ds s → (∀ s x xs, J (x :: xs) s → J xs (step s x) ∧ Tn g body x (E s) fun e => clrE clr e = E (step s x)) →
    forL g body clr ds (E s) = .ok .nx (E (ds.foldl step s))
  | [], s, _, _, _ => rfl
  | x :: ds, s, J, j, h => by
    obtain ⟨j2, t⟩ := h s x ds j
    unfold Tn at t
    split at t
    · rename_i e1 h1
      obtain ⟨e2, h2, p2⟩ := Nx_ex t
      rw [forL_nx h1 h2, p2]
      exact forL_map E step ds _ J j2 h
    · exact t.elim
/-- .. and of an item that ends it -/
theorem forL_stop {g : D → En → Option En} {body : M Fl} {clr : List Nat} {x : D} {xs : List D} {env e1 e2 : En} {y : Xn} (h : g x env = some e1) (h2 : body e1 = .exn y e2) : forL g body clr (x :: xs) env = .exn y e2 := by
  simp only [forL, h, h2]
/-- the draws -/
def bDraw : M Fl := (mSeq (mSetN 3 (eLst aNil)) (mSeq (mIf (eTest (eOp dGe (eV 0) (eOp dPow (eC (.int 10)) (eC (.int 18))))) (mSeq (mFor (iR1 (aCons (eV 1) aNil)) (gN 5) (mSeq (mApp 3 (eOp dMod (eCB dInt (aCons (eV 0) aNil)) (eV 2))) (mSet 0 (eOp dDiv (eV 0) (eV 2)))) []) (mRetO 3)) mNx) (mSeq (mSet 4 (eOp dMod (eCB dInt (aCons (eV 0) aNil)) (eC (.int 2147483647)))) (mSeq (mFor (iR1 (aCons (eV 1) aNil)) (gN 5) (mSeq (mSet 4 (eOp dMod (eCB dInt (aCons (eOp dAdd (eOp dAdd (eOp dMul (eV 4) (eC (.int 48271))) (eC (.int 12345))) (eV 5)) aNil)) (eC (.int 2147483647)))) (mSeq (mSet 6 (eOp dMod (eCB dInt (aCons (eOp dAdd (eOp dMul (eV 4) (eC (.int 69621))) (eOp dMul (eC (.int 977)) (eV 5))) aNil)) (eC (.int 2147483629)))) (mApp 3 (eOp dMod (eCB dInt (aCons (eOp dDiv (eV 6) (eC (.int 3))) aNil)) (eV 2))))) [5, 6]) (mRetO 3)))))
theorem draw_gen (c b : Int) (n : Nat) (hn : n ≤ 1000) (hb : 0 < b) (hb2 : b.natAbs.log2 < 9000) : ∃ L : List Int, runF 7 bDraw [.shr (.int c), .shr (.int n), .shr (.int b)] = .ret true (.lst (L.map D.int)) [] ∧ L.length = n ∧ ∀ x ∈ L, 0 ≤ x ∧ x < b := by
  have k5 : b ≠ 0 := by omega
  have r40 : rngD 0 (n : Int).toNat = (List.range n).map fun (k : Nat) => D.int (k : Int) := rngD_nat n
  have pw : dPow (.int 10) (.int 18) = some (.int 1000000000000000000) := rfl
  have s40 : small62 n = true := small_of (by omega) (by omega)
  have kd : ∀ i, dDiv (.int i) (.int b) = some (.int (i.fdiv b)) := fun i => dDiv_i i b k5 hb2
  have km : ∀ i, dMod (.int i) (.int b) = some (.int (i.fmod b)) := fun i => dMod_i i b k5
  have kb : ∀ i : Int, 0 ≤ i.fmod b ∧ i.fmod b < b := fun i => ⟨Int.fmod_nonneg_of_pos _ hb, Int.fmod_lt_of_pos _ hb⟩
  have ap : ∀ {L : List Int} {i : Int}, (∀ x ∈ L, 0 ≤ x ∧ x < b) → ∀ x ∈ L ++ [i.fmod b], 0 ≤ x ∧ x < b := fun h x hx => by
    rcases List.mem_append.mp hx with g | g
    · exact h x g
    · rw [List.mem_singleton.mp g]; exact kb _
  by_cases hc : (1000000000000000000 : Int) ≤ c
  · obtain ⟨env', h1, h2⟩ := forL_all (g := gN 5) (body := (mSeq (mApp 3 (eOp dMod (eCB dInt (aCons (eV 0) aNil)) (eV 2))) (mSet 0 (eOp dDiv (eV 0) (eV 2))))) (clr := [])
      (fun xs env => ∃ (L : List Int) (c : Int) (x5 : Option Slot), L.length + xs.length = n ∧ (∀ x ∈ L, 0 ≤ x ∧ x < b) ∧ env = [some (.shr (.int c)), some (.shr (.int n)), some (.shr (.int b)), some (.own false (.lst (L.map D.int))), none, x5, none])
      (by
        rintro x xs env ⟨L, c, x5, hL, hr, rfl⟩
        have hL2 : L.length < 16777216 := by simp at hL; omega
        simp [mApp, getOwnL, getOwn, eV, km, kd, hL2, clrE]
        exact ⟨L ++ [c.fmod b], by simp at hL ⊢; omega, ap hr, by simp⟩)
      ((List.range n).map fun (k : Nat) => D.int (k : Int)) [some (.shr (.int c)), some (.shr (.int n)), some (.shr (.int b)), some (.own false (.lst [])), none, none, none]
      ⟨[], c, none, by simp, by simp, rfl⟩
    obtain ⟨L, c', x5, hL, hr, rfl⟩ := h2
    refine ⟨L, ?_, by simpa using hL, hr⟩
    have hcd : decide (c ≥ 1000000000000000000) = true := decide_eq_true hc
    simp [runF, bDraw, argsE, eV, pw, hc, iR1F_ok s40, h1, ← rngD_nat, mRetO, outsAt]
    rw [rngD_nat, h1]
    simp [outsAt, mRetO]
  · obtain ⟨env', h1, h2⟩ := forL_all (g := gN 5) (body := (mSeq (mSet 4 (eOp dMod (eCB dInt (aCons (eOp dAdd (eOp dAdd (eOp dMul (eV 4) (eC (.int 48271))) (eC (.int 12345))) (eV 5)) aNil)) (eC (.int 2147483647)))) (mSeq (mSet 6 (eOp dMod (eCB dInt (aCons (eOp dAdd (eOp dMul (eV 4) (eC (.int 69621))) (eOp dMul (eC (.int 977)) (eV 5))) aNil)) (eC (.int 2147483629)))) (mApp 3 (eOp dMod (eCB dInt (aCons (eOp dDiv (eV 6) (eC (.int 3))) aNil)) (eV 2)))))) (clr := [5, 6])
      (fun xs env => ∃ (L : List Int) (s : Int), L.length + xs.length = n ∧ (∀ x ∈ L, 0 ≤ x ∧ x < b) ∧ (∀ x ∈ xs, ∃ k : Int, x = .int k ∧ 0 ≤ k ∧ k < 1000) ∧ 0 ≤ s ∧ s < 2147483647 ∧ env = [some (.shr (.int c)), some (.shr (.int n)), some (.shr (.int b)), some (.own false (.lst (L.map D.int))), some (.shr (.int s)), none, none])
      (by
        rintro x xs env ⟨L, s, hL, hr, hx, hs0, hs1, rfl⟩
        have hL2 : L.length < 16777216 := by simp at hL; omega
        obtain ⟨k, rfl, hk0, hk1⟩ := hx x List.mem_cons_self
        have m1 : dMul (.int s) (.int 48271) = some (.int (s * 48271)) := dMul_i _ _ (by omega) (by omega)
        have a1 := Int.fmod_nonneg_of_pos (s * 48271 + 12345 + k) (show (0:Int) < 2147483647 by decide)
        have a2 := Int.fmod_lt_of_pos (s * 48271 + 12345 + k) (show (0:Int) < 2147483647 by decide)
        have d1 : ∀ i, dMod (.int i) (.int 2147483647) = some (.int (i.fmod 2147483647)) := fun i => dMod_i _ _ (by decide)
        have d2 : ∀ i, dMod (.int i) (.int 2147483629) = some (.int (i.fmod 2147483629)) := fun i => dMod_i _ _ (by decide)
        have d3 : ∀ i, dDiv (.int i) (.int 3) = some (.int (i.fdiv 3)) := fun i => dDiv_i _ _ (by decide) (by decide)
        have m2 : dMul (.int ((s * 48271 + 12345 + k).fmod 2147483647)) (.int 69621) = some (.int ((s * 48271 + 12345 + k).fmod 2147483647 * 69621)) := dMul_i _ _ (by omega) (by omega)
        have m3 : dMul (.int 977) (.int k) = some (.int (977 * k)) := dMul_i _ _ (by omega) (by omega)
        simp [mApp, getOwnL, getOwn, eV, km, d1, d2, d3, m1, m2, m3, hL2, clrE]
        exact ⟨L ++ [((((s * 48271 + 12345 + k).fmod 2147483647 * 69621 + 977 * k).fmod 2147483629).fdiv 3).fmod b], by simp at hL ⊢; omega, ap hr, fun y hy => hx y (List.mem_cons_of_mem _ hy), _, a1, a2, by simp, rfl⟩)
      ((List.range n).map fun (k : Nat) => D.int (k : Int)) [some (.shr (.int c)), some (.shr (.int n)), some (.shr (.int b)), some (.own false (.lst [])), some (.shr (.int (c.fmod 2147483647))), none, none]
      ⟨[], c.fmod 2147483647, by simp, by simp, by
        intro x hx
        obtain ⟨k, hk, rfl⟩ := List.mem_map.mp hx
        have := List.mem_range.mp hk
        exact ⟨k, rfl, by omega, by omega⟩, Int.fmod_nonneg_of_pos _ (by decide), Int.fmod_lt_of_pos _ (by decide), rfl⟩
    obtain ⟨L, s, hL, hr, _, _, _, rfl⟩ := h2
    have d1 : ∀ i, dMod (.int i) (.int 2147483647) = some (.int (i.fmod 2147483647)) := fun i => dMod_i _ _ (by decide)
    refine ⟨L, ?_, by simpa using hL, hr⟩
    simp [runF, bDraw, argsE, eV, pw, hc, iR1F_ok s40, mRetO, outsAt, d1]
    rw [rngD_nat, h1]
    simp [outsAt, mRetO]
/-- E of how many items were told -/
theorem forL_at {g : D → En → Option En} {body : M Fl} {clr : List Nat} {ds2 : List D} : ∀ (ds : List D) (E : Nat → En), (∀ k x, ds[k]? = some x → Tn g body x (E k) fun e => clrE clr e = E (k + 1)) → forL g body clr (ds ++ ds2) (E 0) = forL g body clr ds2 (E ds.length)
  | [], _, _ => rfl
  | x :: ds, E, h => by
    have t := h 0 x rfl
    unfold Tn at t
    split at t
    · rename_i e1 h1
      obtain ⟨e2, h2, p2⟩ := Nx_ex t
      rw [List.cons_append, forL_nx h1 h2, p2]
      exact forL_at ds (fun k => E (k + 1)) fun k y hy => h (k + 1) y hy
    · exact t.elim
theorem forL_at' {g : D → En → Option En} {body : M Fl} {clr : List Nat} (ds : List D) (E : Nat → En) (h : ∀ k x, ds[k]? = some x → Tn g body x (E k) fun e => clrE clr e = E (k + 1)) : forL g body clr ds (E 0) = .ok .nx (E ds.length) := by
  have := forL_at (ds2 := []) ds E h
  rw [List.append_nil] at this
  exact this
/-! values that may be compared -/
inductive Sh : Nat → D → Prop
  | non {n} : Sh n .non
  | bl {n b} : Sh n (.bl b)
  | int {n i} : Sh n (.int i)
  | str {n s} : PyData.strOk s = true → Sh n (.str s)
  | tup {n xs} : (∀ x ∈ xs, Sh n x) → Sh (n + 1) (.tup xs)
  | ftp {n xs} : (∀ x ∈ xs, Sh n x) → Sh (n + 1) (.ftp xs)
  | lst {n xs} : (∀ x ∈ xs, Sh n x) → Sh (n + 1) (.lst xs)
  | frz {n xs} : (∀ x ∈ xs, Sh n x) → Sh (n + 1) (.frz xs)
theorem Sh.lays : ∀ {n : Nat} {xs : List D}, (∀ x ∈ xs, (toPy x).canLay0 = true ∧ (toPy x).depth ≤ n) → PyData.canLayAll0 (toPys xs) = true ∧ PyData.depthAll (toPys xs) ≤ n
  | n, [], _ => by rw [toPys]; exact ⟨rfl, Nat.zero_le _⟩
  | n, x :: xs, h => by
    obtain ⟨h1, h2⟩ := h x List.mem_cons_self
    obtain ⟨g1, g2⟩ := Sh.lays fun y hy => h y (List.mem_cons_of_mem _ hy)
    rw [toPys]
    refine ⟨by rw [PyData.canLayAll0, h1, g1]; rfl, ?_⟩
    rw [PyData.depthAll]
    omega
theorem Sh.lay {n : Nat} {d : D} (h : Sh n d) : (toPy d).canLay0 = true ∧ (toPy d).depth ≤ n := by
  induction h with
  | non => rw [toPy]; exact ⟨rfl, Nat.zero_le _⟩
  | bl => rw [toPy]; exact ⟨rfl, Nat.zero_le _⟩
  | int => rw [toPy]; exact ⟨rfl, Nat.zero_le _⟩
  | str h => rw [toPy]; exact ⟨by rw [PyData.canLay0]; exact h, Nat.zero_le _⟩
  | tup _ ih => rw [toPy, PyData.canLay0, PyData.depth]; obtain ⟨a, b⟩ := Sh.lays ih; exact ⟨a, by omega⟩
  | ftp _ ih => rw [toPy, PyData.canLay0, PyData.depth]; obtain ⟨a, b⟩ := Sh.lays ih; exact ⟨a, by omega⟩
  | lst _ ih => rw [toPy, PyData.canLay0, PyData.depth]; obtain ⟨a, b⟩ := Sh.lays ih; exact ⟨a, by omega⟩
  | frz _ ih => rw [toPy, PyData.canLay0, PyData.depth]; obtain ⟨a, b⟩ := Sh.lays ih; exact ⟨a, by omega⟩
theorem Sh.sh {n : Nat} {d : D} (h : Sh n d) (hn : n ≤ 64) : SeqAt.shaped (toPy d) = true := by
  obtain ⟨a, b⟩ := h.lay
  unfold SeqAt.shaped
  rw [a, Bool.true_and]
  exact decide_eq_true (by omega)
theorem dEq_sh {n : Nat} {d e : D} (h : Sh n d) (g : Sh n e) (hn : n ≤ 64 := by decide) : dEq d e = some (.bl (PyData.eqv (toPy d) (toPy e))) := by
  unfold dEq
  rw [h.sh hn, g.sh hn]; rfl
theorem dNe_sh {n : Nat} {d e : D} (h : Sh n d) (g : Sh n e) (hn : n ≤ 64 := by decide) : dNe d e = some (.bl (!PyData.eqv (toPy d) (toPy e))) := by
  unfold dNe
  rw [h.sh hn, g.sh hn]; rfl
theorem dEq_self {n : Nat} {d : D} (h : Sh n d) (hn : n ≤ 64 := by decide) : dEq d d = some (.bl true) := by
  rw [dEq_sh h h hn, SeqAt.eqv_refl _ h.lay.1]
theorem dNe_self {n : Nat} {d : D} (h : Sh n d) (hn : n ≤ 64 := by decide) : dNe d d = some (.bl false) := by
  rw [dNe_sh h h hn, SeqAt.eqv_refl _ h.lay.1]; rfl
end Mi

namespace Mi
open PySem L2
/-! The text by places, the mirrors and the promises of its defs: printed by gen.py. -/
def top (i : Nat) : Stmt := PySem.Challenge.pw_manysides_k05_kinds_of_expressions.main.body.getD i (.Pass ⟨0, 0, 0, 0⟩)
abbrev s__law_draw : Stmt := top 30
abbrev N__law_draw : List Str := ["_law_cell", "_law_many", "_law_bound", "_law_numbers", "_law_seed", "_law_k", "_law_mixed"]
theorem sc__law_draw : FnScope N__law_draw ["_law_cell", "_law_many", "_law_bound"] (defScope s__law_draw) := ⟨rfl, rfl, rfl, by decide +kernel, rfl, by decide +kernel, by decide +kernel⟩
abbrev s__law_draws : Stmt := top 31
abbrev N__law_draws : List Str := ["_law_cells", "_law_numbers", "_law_cell"]
theorem sc__law_draws : FnScope N__law_draws ["_law_cells"] (defScope s__law_draws) := ⟨rfl, rfl, rfl, by decide +kernel, rfl, by decide +kernel, by decide +kernel⟩
abbrev s_Shape___init__ : Stmt := inClass (top 15) 0
abbrev N_Shape___init__ : List Str := ["self", "dims", "attrs"]
theorem sc_Shape___init__ : FnScope N_Shape___init__ ["self", "dims", "attrs"] (defScope s_Shape___init__) := ⟨rfl, rfl, rfl, by decide +kernel, rfl, by decide +kernel, by decide +kernel⟩
abbrev s__law_next : Stmt := top 32
abbrev N__law_next : List Str := ["_law_state", "_law_bound", "_law_number_here"]
theorem sc__law_next : FnScope N__law_next ["_law_state", "_law_bound"] (defScope s__law_next) := ⟨rfl, rfl, rfl, by decide +kernel, rfl, by decide +kernel, by decide +kernel⟩
abbrev s__law_shape : Stmt := top 36
abbrev N__law_shape : List Str := ["_law_state", "_law_dims", "_law_name", "_law_attrs", "_law_k", "_law_low"]
theorem sc__law_shape : FnScope N__law_shape ["_law_state"] (defScope s__law_shape) := ⟨rfl, rfl, rfl, by decide +kernel, rfl, by decide +kernel, by decide +kernel⟩
abbrev s__law_word : Stmt := top 33
abbrev N__law_word : List Str := ["_law_state", "_law_k"]
theorem sc__law_word : FnScope N__law_word ["_law_state"] (defScope s__law_word) := ⟨rfl, rfl, rfl, by decide +kernel, rfl, by decide +kernel, by decide +kernel⟩
abbrev s__law_number : Stmt := top 34
abbrev N__law_number : List Str := ["_law_state", "_law_choice"]
theorem sc__law_number : FnScope N__law_number ["_law_state"] (defScope s__law_number) := ⟨rfl, rfl, rfl, by decide +kernel, rfl, by decide +kernel, by decide +kernel⟩
abbrev s__law_thing : Stmt := top 35
abbrev N__law_thing : List Str := ["_law_state", "_law_kind_here"]
theorem sc__law_thing : FnScope N__law_thing ["_law_state", "_law_kind_here"] (defScope s__law_thing) := ⟨rfl, rfl, rfl, by decide +kernel, rfl, by decide +kernel, by decide +kernel⟩
abbrev s__law_leaf : Stmt := top 37
abbrev N__law_leaf : List Str := ["_law_state", "_law_shape_here", "_law_kind_here", "_law_names", "_law_choice", "_law_name", "_law_word_here"]
theorem sc__law_leaf : FnScope N__law_leaf ["_law_state", "_law_shape_here", "_law_kind_here"] (defScope s__law_leaf) := ⟨rfl, rfl, rfl, by decide +kernel, rfl, by decide +kernel, by decide +kernel⟩
abbrev s__law_expression : Stmt := top 39
abbrev N__law_expression : List Str := ["_law_state", "_law_shape_here", "_law_kind_here", "_law_depth", "_law_choice", "_law_word_here", "_law_parts"]
theorem sc__law_expression : FnScope N__law_expression ["_law_state", "_law_shape_here", "_law_kind_here", "_law_depth"] (defScope s__law_expression) := ⟨rfl, rfl, rfl, by decide +kernel, rfl, by decide +kernel, by decide +kernel⟩
abbrev s__law_flag : Stmt := top 38
abbrev N__law_flag : List Str := ["_law_state", "_law_shape_here", "_law_depth", "_law_choice", "_law_kind_here", "_law_word_here"]
theorem sc__law_flag : FnScope N__law_flag ["_law_state", "_law_shape_here", "_law_depth"] (defScope s__law_flag) := ⟨rfl, rfl, rfl, by decide +kernel, rfl, by decide +kernel, by decide +kernel⟩
abbrev s__kind_from : Stmt := top 27
abbrev N__kind_from : List Str := ["word", "kinds", "kind"]
theorem sc__kind_from : FnScope N__kind_from ["word", "kinds"] (defScope s__kind_from) := ⟨rfl, rfl, rfl, by decide +kernel, rfl, by decide +kernel, by decide +kernel⟩
abbrev s__index_of : Stmt := top 16
abbrev N__index_of : List Str := ["rows", "name", "at"]
theorem sc__index_of : FnScope N__index_of ["rows", "name"] (defScope s__index_of) := ⟨rfl, rfl, rfl, by decide +kernel, rfl, by decide +kernel, by decide +kernel⟩
abbrev s_attr_index : Stmt := top 18
abbrev N_attr_index : List Str := ["shape", "name"]
theorem sc_attr_index : FnScope N_attr_index ["shape", "name"] (defScope s_attr_index) := ⟨rfl, rfl, rfl, by decide +kernel, rfl, by decide +kernel, by decide +kernel⟩
abbrev s_is_text : Stmt := top 7
abbrev N_is_text : List Str := ["text", "char"]
theorem sc_is_text : FnScope N_is_text ["text"] (defScope s_is_text) := ⟨rfl, rfl, rfl, by decide +kernel, rfl, by decide +kernel, by decide +kernel⟩
abbrev s_is_integer : Stmt := top 11
abbrev N_is_integer : List Str := ["value"]
theorem sc_is_integer : FnScope N_is_integer ["value"] (defScope s_is_integer) := ⟨rfl, rfl, rfl, by decide +kernel, rfl, by decide +kernel, by decide +kernel⟩
abbrev s_is_value : Stmt := top 12
abbrev N_is_value : List Str := ["kind", "value"]
theorem sc_is_value : FnScope N_is_value ["kind", "value"] (defScope s_is_value) := ⟨rfl, rfl, rfl, by decide +kernel, rfl, by decide +kernel, by decide +kernel⟩
abbrev s_dim_index : Stmt := top 17
abbrev N_dim_index : List Str := ["shape", "name"]
theorem sc_dim_index : FnScope N_dim_index ["shape", "name"] (defScope s_dim_index) := ⟨rfl, rfl, rfl, by decide +kernel, rfl, by decide +kernel, by decide +kernel⟩
abbrev s_Checker_leaf : Stmt := inClass (top 26) 1
abbrev N_Checker_leaf : List Str := ["self", "expression", "number", "kind", "word", "value", "at"]
theorem sc_Checker_leaf : FnScope N_Checker_leaf ["self", "expression", "number"] (defScope s_Checker_leaf) := ⟨rfl, rfl, rfl, by decide +kernel, rfl, by decide +kernel, by decide +kernel⟩
abbrev s_Checker_kind : Stmt := inClass (top 26) 2
abbrev N_Checker_kind : List Str := ["self", "expression", "number", "kinds", "result", "part"]
theorem sc_Checker_kind : FnScope N_Checker_kind ["self", "expression"] (defScope s_Checker_kind) := ⟨rfl, rfl, rfl, by decide +kernel, rfl, by decide +kernel, by decide +kernel⟩
abbrev s_Checker___init__ : Stmt := inClass (top 26) 0
abbrev N_Checker___init__ : List Str := ["self", "shape"]
theorem sc_Checker___init__ : FnScope N_Checker___init__ ["self", "shape"] (defScope s_Checker___init__) := ⟨rfl, rfl, rfl, by decide +kernel, rfl, by decide +kernel, by decide +kernel⟩
abbrev s_kind_of : Stmt := top 28
abbrev N_kind_of : List Str := ["expression", "shape"]
theorem sc_kind_of : FnScope N_kind_of ["expression", "shape"] (defScope s_kind_of) := ⟨rfl, rfl, rfl, by decide +kernel, rfl, by decide +kernel, by decide +kernel⟩
abbrev s__law_told : Stmt := top 46
abbrev N__law_told : List Str := ["_law_expression_here", "_law_shape_here", "error"]
theorem sc__law_told : FnScope N__law_told ["_law_expression_here", "_law_shape_here"] (defScope s__law_told) := ⟨rfl, rfl, rfl, by decide +kernel, rfl, by decide +kernel, by decide +kernel⟩
abbrev s__law_count : Stmt := top 40
abbrev N__law_count : List Str := ["_law_expression_here", "_law_part"]
theorem sc__law_count : FnScope N__law_count ["_law_expression_here"] (defScope s__law_count) := ⟨rfl, rfl, rfl, by decide +kernel, rfl, by decide +kernel, by decide +kernel⟩
abbrev s__law_replaced : Stmt := top 42
abbrev N__law_replaced : List Str := ["_law_expression_here", "_law_number_here", "_law_new", "_law_left", "_law_parts", "_law_part", "_law_size"]
theorem sc__law_replaced : FnScope N__law_replaced ["_law_expression_here", "_law_number_here", "_law_new"] (defScope s__law_replaced) := ⟨rfl, rfl, rfl, by decide +kernel, rfl, by decide +kernel, by decide +kernel⟩
abbrev s__law_joint : Stmt := top 44
abbrev N__law_joint : List Str := ["_law_word_here", "_law_kinds"]
theorem sc__law_joint : FnScope N__law_joint ["_law_word_here", "_law_kinds"] (defScope s__law_joint) := ⟨rfl, rfl, rfl, by decide +kernel, rfl, by decide +kernel, by decide +kernel⟩
abbrev s__law_leaf_kind : Stmt := top 43
abbrev N__law_leaf_kind : List Str := ["_law_expression_here", "_law_shape_here", "_law_good", "_law_found", "_law_word_here", "_law_kind_here", "_law_value", "_law_name", "_law_dim"]
theorem sc__law_leaf_kind : FnScope N__law_leaf_kind ["_law_expression_here", "_law_shape_here"] (defScope s__law_leaf_kind) := ⟨rfl, rfl, rfl, by decide +kernel, rfl, by decide +kernel, by decide +kernel⟩
abbrev s__law_kind : Stmt := top 45
abbrev N__law_kind : List Str := ["_law_expression_here", "_law_shape_here", "_law_number_here", "_law_kinds", "_law_at", "_law_part", "_law_kind_here", "_law_told_here"]
theorem sc__law_kind : FnScope N__law_kind ["_law_expression_here", "_law_shape_here", "_law_number_here"] (defScope s__law_kind) := ⟨rfl, rfl, rfl, by decide +kernel, rfl, by decide +kernel, by decide +kernel⟩
abbrev s_parts_of : Stmt := top 25
abbrev N_parts_of : List Str := ["expression"]
theorem sc_parts_of : FnScope N_parts_of ["expression"] (defScope s_parts_of) := ⟨rfl, rfl, rfl, by decide +kernel, rfl, by decide +kernel, by decide +kernel⟩
abbrev s__law_strange : Stmt := top 41
abbrev N__law_strange : List Str := ["_law_state", "_law_shape_here", "_law_choice"]
theorem sc__law_strange : FnScope N__law_strange ["_law_state", "_law_shape_here"] (defScope s__law_strange) := ⟨rfl, rfl, rfl, by decide +kernel, rfl, by decide +kernel, by decide +kernel⟩
abbrev s_law : Stmt := top 47
abbrev N_law : List Str := ["_law_script", "_law_state", "_law_shape_here", "_law_turn", "_law_kind_here", "_law_expression_here", "_law_again", "_law_parts", "_law_number_here"]
theorem sc_law : FnScope N_law ["_law_script"] (defScope s_law) := ⟨rfl, rfl, rfl, by decide +kernel, rfl, by decide +kernel, by decide +kernel⟩
abbrev s_ManysidesError_i : Stmt := inClass (top 1) 0
theorem sc_ManysidesError_i : ScopeC ["self", "place", "name"] (defScope s_ManysidesError_i) := ⟨rfl, rfl, rfl, by decide +kernel, by decide +kernel, by decide +kernel, by decide +kernel, rfl, rfl⟩
abbrev s_InvalidQuery_i : Stmt := inClass (top 2) 0
theorem sc_InvalidQuery_i : ScopeC ["self", "place"] (defScope s_InvalidQuery_i) := ⟨rfl, rfl, rfl, by decide +kernel, by decide +kernel, by decide +kernel, by decide +kernel, rfl, rfl⟩
/-! the mirrors -/
def tb_ManysidesError : List (Str × Bool) := [("InvalidQuery", true)]
def ti_InvalidQuery : List (Str × Bool) := [("InvalidQuery", true)]
def ti_InvalidWords : List (Str × Bool) := [("InvalidQuery", false)]
def k_KINDS : D := .ftp [(.str "int"), (.str "flag"), (.str "text")]
def k_LEAVES : D := .ftp [(.str "value"), (.str "attr"), (.str "dim")]
def k_ARITHMETIC : D := .ftp [(.str "add"), (.str "sub"), (.str "mul"), (.str "div"), (.str "mod")]
def k_COMPARISONS : D := .ftp [(.str "eq"), (.str "ne"), (.str "lt"), (.str "le"), (.str "gt"), (.str "ge")]
def lk_PARTS_KIND : List (Str × D) := [("neg", (.str "int")), ("abs", (.str "int")), ("not", (.str "flag")), ("length", (.str "text")), ("joined", (.str "text")), ("and", (.str "flag")), ("or", (.str "flag"))]
def lk_RESULT_KIND : List (Str × D) := [("neg", (.str "int")), ("abs", (.str "int")), ("not", (.str "flag")), ("length", (.str "int")), ("joined", (.str "text")), ("and", (.str "flag")), ("or", (.str "flag")), ("is missing", (.str "flag"))]
def lp__law_draw_1 : M Fl := (mSeq (mApp 3 (eOp dMod (eCB dInt (aCons (eV 0) aNil)) (eV 2))) (mSet 0 (eOp dDiv (eV 0) (eV 2))))
def lp__law_draw_2 : M Fl := (mSeq (mSet 4 (eOp dMod (eCB dInt (aCons (eOp dAdd (eOp dAdd (eOp dMul (eV 4) (eC (.int 48271))) (eC (.int 12345))) (eV 5)) aNil)) (eC (.int 2147483647)))) (mSeq (mSet 6 (eOp dMod (eCB dInt (aCons (eOp dAdd (eOp dMul (eV 4) (eC (.int 69621))) (eOp dMul (eC (.int 977)) (eV 5))) aNil)) (eC (.int 2147483629)))) (mApp 3 (eOp dMod (eCB dInt (aCons (eOp dDiv (eV 6) (eC (.int 3))) aNil)) (eV 2)))))
def b__law_draw : M Fl := (mSeq (mSetN 3 (eLst aNil)) (mSeq (mIf (eTest (eOp dGe (eV 0) (eOp dPow (eC (.int 10)) (eC (.int 18))))) (mSeq (mFor (iR1 (aCons (eV 1) aNil)) (gN 5) lp__law_draw_1 []) (mRetO 3)) mNx) (mSeq (mSet 4 (eOp dMod (eCB dInt (aCons (eV 0) aNil)) (eC (.int 2147483647)))) (mSeq (mFor (iR1 (aCons (eV 1) aNil)) (gN 5) lp__law_draw_2 [5, 6]) (mRetO 3)))))
def m__law_draw : List Slot → Fin := runF 7 b__law_draw
def lp__law_draws_1 : M Fl := (mSet 1 (eOp dAdd (eV 1) (eCallN 3 m__law_draw (rSh (eV 2) (rSh (eC (.int 40)) (rSh (eOp dShl (eC (.int 1)) (eC (.int 20))) rNil))))))
def b__law_draws : M Fl := (mSeq (mSet 1 (eLst aNil)) (mSeq (mFor (iL (eV 0)) (gN 2) lp__law_draws_1 [2]) (mRetN (eDisp (((eC (.str "numbers")), (eV 1)) :: (((eC (.str "at")), (eC (.int 0))) :: []))))))
def m__law_draws : List Slot → Fin := runF 3 b__law_draws
def b_Shape___init__ : M Fl := (mSeq (mFPut 0 "Shape" "dims" (eV 1)) (mFPut 0 "Shape" "attrs" (eV 2)))
def m_Shape___init__ : List Slot → Fin := runF 3 b_Shape___init__
def b__law_next : M Fl := (mSeq (mSet 2 (eOp dAdd (eOp dIx (eDGetO 0 (eC (.str "numbers"))) (eOp dMod (eCB dInt (aCons (eDGetO 0 (eC (.str "at"))) aNil)) (eCB dLen (aCons (eDGetO 0 (eC (.str "numbers"))) aNil)))) (eOp dDiv (eCB dInt (aCons (eDGetO 0 (eC (.str "at"))) aNil)) (eCB dLen (aCons (eDGetO 0 (eC (.str "numbers"))) aNil))))) (mSeq (mPut 0 (eC (.str "at")) (eOp dAdd (eDGetO 0 (eC (.str "at"))) (eC (.int 1)))) (mRet (eOp dMod (eCB dInt (aCons (eV 2) aNil)) (eV 1)))))
def m__law_next : List Slot → Fin := runF 3 b__law_next
def lp__law_shape_1 : M Fl := (mSeq (mSet 5 (eOp dSub (eCall 2 m__law_next (rIo 0 (rSh (eC (.int 9)) rNil))) (eC (.int 5)))) (mApp 1 (eTup (aCons (eV 2) (aCons (eV 5) (aCons (eOp dAdd (eV 5) (eCall 2 m__law_next (rIo 0 (rSh (eC (.int 6)) rNil)))) (aCons (eOp dAdd (eC (.int 1)) (eCall 2 m__law_next (rIo 0 (rSh (eC (.int 4)) rNil)))) aNil)))))))
def lp__law_shape_2 : M Fl := (mApp 3 (eTup (aCons (eOp dIx (eLst (aCons (eC (.str "a")) (aCons (eC (.str "b")) (aCons (eC (.str "c")) (aCons (eC (.str "d")) aNil))))) (eV 4)) (aCons (eOp dIx (eLst (aCons (eC (.str "int")) (aCons (eC (.str "flag")) (aCons (eC (.str "text")) (aCons (eC (.str "int")) aNil))))) (eOp dMod (eCB dInt (aCons (eOp dAdd (eV 4) (eCall 2 m__law_next (rIo 0 (rSh (eC (.int 3)) rNil)))) aNil)) (eC (.int 4)))) aNil))))
def b__law_shape : M Fl := (mSeq (mSetN 1 (eLst aNil)) (mSeq (mFor (iL (eSl dSlL (eLst (aCons (eC (.str "x")) (aCons (eC (.str "y")) (aCons (eC (.str "z")) aNil)))) oNone (oSome (eOp dAdd (eC (.int 1)) (eCall 2 m__law_next (rIo 0 (rSh (eC (.int 3)) rNil))))))) (gN 2) lp__law_shape_1 [2, 5]) (mSeq (mSetN 3 (eLst aNil)) (mSeq (mFor (iR1 (aCons (eOp dAdd (eC (.int 1)) (eCall 2 m__law_next (rIo 0 (rSh (eC (.int 4)) rNil)))) aNil)) (gN 4) lp__law_shape_2 [4]) (mRetN (eNew "Shape" 3 m_Shape___init__ (rSh (eTupO 1) (rSh (eTupO 3) rNil))))))))
def m__law_shape : List Slot → Fin := runF 6 b__law_shape
def lc__law_word_1 : M D := (eOp dIx (eC (.str "abXY z09{~.\n")) (eCall 2 m__law_next (rIo 0 (rSh (eC (.int 12)) rNil))))
def b__law_word : M Fl := (mRet (eJoin (eC (.str "")) (eLc (iR1 (aCons (eCall 2 m__law_next (rIo 0 (rSh (eC (.int 4)) rNil))) aNil)) (gN 1) (M.pure true) lc__law_word_1 [1])))
def m__law_word : List Slot → Fin := runF 2 b__law_word
def b__law_number : M Fl := (mSeq (mSet 1 (eCall 2 m__law_next (rIo 0 (rSh (eC (.int 9)) rNil)))) (mSeq (mIf (eTest (eOp dEq (eV 1) (eC (.int 0)))) (mRet (eOp dIx (eLst (aCons (eOp dSub (eOp dPow (eC (.int 10)) (eC (.int 30))) (eC (.int 1))) (aCons (eOp dSub (eC (.int 1)) (eOp dPow (eC (.int 10)) (eC (.int 30)))) (aCons (eOp dPow (eC (.int 10)) (eC (.int 15))) (aCons (eOp dSub (eC (.int 0)) (eOp dPow (eC (.int 10)) (eC (.int 15)))) (aCons (eOp dPow (eC (.int 10)) (eC (.int 29))) aNil)))))) (eCall 2 m__law_next (rIo 0 (rSh (eC (.int 5)) rNil))))) mNx) (mSeq (mIf (eTest (eOp dEq (eV 1) (eC (.int 1)))) (mRet (eOp dSub (eOp dMul (eCall 2 m__law_next (rIo 0 (rSh (eOp dShl (eC (.int 1)) (eC (.int 20))) rNil))) (eCall 2 m__law_next (rIo 0 (rSh (eOp dShl (eC (.int 1)) (eC (.int 20))) rNil)))) (eOp dShl (eC (.int 1)) (eC (.int 39))))) mNx) (mRet (eOp dSub (eCall 2 m__law_next (rIo 0 (rSh (eC (.int 13)) rNil))) (eC (.int 6)))))))
def m__law_number : List Slot → Fin := runF 2 b__law_number
def b__law_thing : M Fl := (mSeq (mIf (eTest (eOp dEq (eV 1) (eC (.str "int")))) (mRet (eCall 1 m__law_number (rIo 0 rNil))) mNx) (mSeq (mIf (eTest (eOp dEq (eV 1) (eC (.str "flag")))) (mRet (eOp dEq (eCall 2 m__law_next (rIo 0 (rSh (eC (.int 2)) rNil))) (eC (.int 1)))) mNx) (mSeq (mIf (eTest (eOp dEq (eCall 2 m__law_next (rIo 0 (rSh (eC (.int 12)) rNil))) (eC (.int 0)))) (mRet (eOp dMul (eOp dIx (eLst (aCons (eC (.str "~")) (aCons (eC (.str "ab")) (aCons (eC (.str " ")) aNil)))) (eCall 2 m__law_next (rIo 0 (rSh (eC (.int 3)) rNil)))) (eOp dIx (eLst (aCons (eC (.int 100)) (aCons (eC (.int 99)) (aCons (eC (.int 60)) aNil)))) (eCall 2 m__law_next (rIo 0 (rSh (eC (.int 3)) rNil)))))) mNx) (mRet (eCall 1 m__law_word (rIo 0 rNil))))))
def m__law_thing : List Slot → Fin := runF 2 b__law_thing
def b__law_leaf : M Fl := (mSeq (mSet 3 (eLc (iT (eFld "Shape" "attrs" (eV 1))) (gT [(gN 5), (gN 6)]) (eTest (eOp dEq (eV 6) (eV 2))) (eV 5) [5, 6])) (mSeq (mSet 4 (eCall 2 m__law_next (rIo 0 (rSh (eC (.int 6)) rNil)))) (mSeq (mIf (bAnd (eTest (eOp dLt (eV 4) (eC (.int 3)))) (eTest (eOp dGt (eCB dLen (aCons (eV 3) aNil)) (eC (.int 0))))) (mRet (eTup (aCons (eC (.str "attr")) (aCons (eOp dIx (eV 3) (eCall 2 m__law_next (rIo 0 (rSh (eCB dLen (aCons (eV 3) aNil)) rNil)))) aNil)))) mNx) (mSeq (mIf (bAnd (eTest (eOp dLt (eV 4) (eC (.int 4)))) (eTest (eOp dEq (eV 2) (eC (.str "int"))))) (mRet (eTup (aCons (eC (.str "dim")) (aCons (eOp dIx (eOp dIx (eFld "Shape" "dims" (eV 1)) (eCall 2 m__law_next (rIo 0 (rSh (eCB dLen (aCons (eFld "Shape" "dims" (eV 1)) aNil)) rNil)))) (eC (.int 0))) aNil)))) mNx) (mSeq (mIf (bAnd (eTest (eOp dEq (eV 4) (eC (.int 5)))) (eTest (eOp dEq (eCall 2 m__law_next (rIo 0 (rSh (eC (.int 3)) rNil))) (eC (.int 0))))) (mRet (eTup (aCons (eC (.str "value")) (aCons (eV 2) (aCons (eC .non) aNil))))) mNx) (mRet (eTup (aCons (eC (.str "value")) (aCons (eV 2) (aCons (eCall 2 m__law_thing (rIo 0 (rSh (eV 2) rNil))) aNil))))))))))
def m__law_leaf : List Slot → Fin := runF 7 b__law_leaf
def b__law_expression (m__law_expression m__law_flag : List Slot → Fin) : M Fl := (mSeq (mSet 4 (eCall 2 m__law_next (rIo 0 (rSh (eC (.int 10)) rNil)))) (mSeq (mIf (bOr (eTest (eOp dLe (eV 3) (eC (.int 0)))) (eTest (eOp dEq (eV 4) (eC (.int 0))))) (mRet (eCall 3 m__law_leaf (rIo 0 (rSh (eV 1) (rSh (eV 2) rNil))))) mNx) (mSeq (mIf (eTest (eOp dEq (eV 4) (eC (.int 1)))) (mSeq (mSet 6 (eTup (aCons (eCall 4 m__law_expression (rIo 0 (rSh (eV 1) (rSh (eV 2) (rSh (eOp dSub (eV 3) (eC (.int 1))) rNil))))) (aCons (eCall 4 m__law_expression (rIo 0 (rSh (eV 1) (rSh (eV 2) (rSh (eOp dSub (eV 3) (eC (.int 1))) rNil))))) aNil)))) (mRet (eOp dAdd (eTup (aCons (eC (.str "if")) (aCons (eCall 4 m__law_expression (rIo 0 (rSh (eV 1) (rSh (eC (.str "flag")) (rSh (eOp dSub (eV 3) (eC (.int 1))) rNil))))) aNil))) (eV 6)))) mNx) (mSeq (mIf (eTest (eOp dEq (eV 4) (eC (.int 2)))) (mRet (eTup (aCons (eC (.str "or else")) (aCons (eCall 4 m__law_expression (rIo 0 (rSh (eV 1) (rSh (eV 2) (rSh (eOp dSub (eV 3) (eC (.int 1))) rNil))))) (aCons (eCall 4 m__law_expression (rIo 0 (rSh (eV 1) (rSh (eV 2) (rSh (eOp dSub (eV 3) (eC (.int 1))) rNil))))) aNil))))) mNx) (mSeq (mIf (eTest (eOp dEq (eV 2) (eC (.str "flag")))) (mRet (eCall 3 m__law_flag (rIo 0 (rSh (eV 1) (rSh (eV 3) rNil))))) mNx) (mSeq (mIf (eTest (eOp dEq (eV 2) (eC (.str "text")))) (mRet (eTup (aCons (eC (.str "joined")) (aCons (eCall 4 m__law_expression (rIo 0 (rSh (eV 1) (rSh (eV 2) (rSh (eOp dSub (eV 3) (eC (.int 1))) rNil))))) (aCons (eCall 4 m__law_expression (rIo 0 (rSh (eV 1) (rSh (eV 2) (rSh (eOp dSub (eV 3) (eC (.int 1))) rNil))))) aNil))))) mNx) (mSeq (mIf (eTest (eOp dEq (eV 4) (eC (.int 3)))) (mRet (eTup (aCons (eC (.str "length")) (aCons (eCall 4 m__law_expression (rIo 0 (rSh (eV 1) (rSh (eC (.str "text")) (rSh (eOp dSub (eV 3) (eC (.int 1))) rNil))))) aNil)))) mNx) (mSeq (mIf (eTest (eOp dEq (eV 4) (eC (.int 4)))) (mRet (eTup (aCons (eOp dIx (eLst (aCons (eC (.str "neg")) (aCons (eC (.str "abs")) aNil))) (eCall 2 m__law_next (rIo 0 (rSh (eC (.int 2)) rNil)))) (aCons (eCall 4 m__law_expression (rIo 0 (rSh (eV 1) (rSh (eV 2) (rSh (eOp dSub (eV 3) (eC (.int 1))) rNil))))) aNil)))) mNx) (mSeq (mSet 5 (eOp dIx (eLst (aCons (eC (.str "add")) (aCons (eC (.str "sub")) (aCons (eC (.str "mul")) (aCons (eC (.str "div")) (aCons (eC (.str "mod")) aNil)))))) (eCall 2 m__law_next (rIo 0 (rSh (eC (.int 5)) rNil))))) (mRet (eTup (aCons (eV 5) (aCons (eCall 4 m__law_expression (rIo 0 (rSh (eV 1) (rSh (eV 2) (rSh (eOp dSub (eV 3) (eC (.int 1))) rNil))))) (aCons (eCall 4 m__law_expression (rIo 0 (rSh (eV 1) (rSh (eV 2) (rSh (eOp dSub (eV 3) (eC (.int 1))) rNil))))) aNil))))))))))))))
def b__law_flag (m__law_expression m__law_flag : List Slot → Fin) : M Fl := (mSeq (mSet 3 (eCall 2 m__law_next (rIo 0 (rSh (eC (.int 9)) rNil)))) (mSeq (mIf (eTest (eOp dEq (eV 3) (eC (.int 0)))) (mRet (eTup (aCons (eC (.str "not")) (aCons (eCall 4 m__law_expression (rIo 0 (rSh (eV 1) (rSh (eC (.str "flag")) (rSh (eOp dSub (eV 2) (eC (.int 1))) rNil))))) aNil)))) mNx) (mSeq (mIf (eTest (eOp dEq (eV 3) (eC (.int 1)))) (mRet (eTup (aCons (eC (.str "is missing")) (aCons (eCall 4 m__law_expression (rIo 0 (rSh (eV 1) (rSh (eOp dIx (eLst (aCons (eC (.str "int")) (aCons (eC (.str "flag")) (aCons (eC (.str "text")) aNil)))) (eCall 2 m__law_next (rIo 0 (rSh (eC (.int 3)) rNil)))) (rSh (eOp dSub (eV 2) (eC (.int 1))) rNil))))) aNil)))) mNx) (mSeq (mIf (eTest (eOp dLt (eV 3) (eC (.int 4)))) (mSeq (mSet 5 (eOp dIx (eLst (aCons (eC (.str "and")) (aCons (eC (.str "or")) aNil))) (eOp dSub (eV 3) (eC (.int 2))))) (mRet (eTup (aCons (eV 5) (aCons (eCall 4 m__law_expression (rIo 0 (rSh (eV 1) (rSh (eC (.str "flag")) (rSh (eOp dSub (eV 2) (eC (.int 1))) rNil))))) (aCons (eCall 4 m__law_expression (rIo 0 (rSh (eV 1) (rSh (eC (.str "flag")) (rSh (eOp dSub (eV 2) (eC (.int 1))) rNil))))) aNil)))))) mNx) (mSeq (mSet 4 (eOp dIx (eLst (aCons (eC (.str "int")) (aCons (eC (.str "int")) (aCons (eC (.str "int")) (aCons (eC (.str "text")) (aCons (eC (.str "flag")) aNil)))))) (eCall 2 m__law_next (rIo 0 (rSh (eC (.int 5)) rNil))))) (mSeq (mSet 5 (eOp dIx (eLst (aCons (eC (.str "eq")) (aCons (eC (.str "ne")) (aCons (eC (.str "lt")) (aCons (eC (.str "le")) (aCons (eC (.str "gt")) (aCons (eC (.str "ge")) aNil))))))) (eCall 2 m__law_next (rIo 0 (rSh (eC (.int 6)) rNil))))) (mRet (eTup (aCons (eV 5) (aCons (eCall 4 m__law_expression (rIo 0 (rSh (eV 1) (rSh (eV 4) (rSh (eOp dSub (eV 2) (eC (.int 1))) rNil))))) (aCons (eCall 4 m__law_expression (rIo 0 (rSh (eV 1) (rSh (eV 4) (rSh (eOp dSub (eV 2) (eC (.int 1))) rNil))))) aNil)))))))))))
def fam__law_expression : Nat → (List Slot → Fin) × (List Slot → Fin)
  | 0 => (fun _ => .stuck, fun _ => .stuck)
  | n + 1 => (runF 7 (b__law_expression (fam__law_expression n).1 (fam__law_expression n).2), runF 6 (b__law_flag (fam__law_expression n).1 (fam__law_expression n).2))
def m__law_expression (n : Nat) : List Slot → Fin := (fam__law_expression n).1
def m__law_flag (n : Nat) : List Slot → Fin := (fam__law_expression n).2
def b__kind_from : M Fl := (mSeq (mIf (eTest (eOp dEq (eV 0) (eC (.str "is missing")))) (mRet (eC (.str "flag"))) mNx) (mSeq (mIf (eTest (eUn (inG lk_PARTS_KIND) (eV 0))) (mRet (eIf (eTest (eAllK 0 lk_PARTS_KIND (eV 1))) (eUn (ixG lk_RESULT_KIND) (eV 0)) (eC .non))) mNx) (mSeq (mIf (eTest (eOp dIn (eV 0) (eC k_ARITHMETIC))) (mRet (eIf (eTest (eOp dEq (eV 1) (eLst (aCons (eC (.str "int")) (aCons (eC (.str "int")) aNil))))) (eC (.str "int")) (eC .non))) mNx) (mSeq (mIf (eTest (eOp dEq (eV 0) (eC (.str "if")))) (mRet (eIf (bAnd (eTest (eOp dEq (eOp dIx (eV 1) (eC (.int 0))) (eC (.str "flag")))) (eTest (eOp dEq (eOp dIx (eV 1) (eC (.int 1))) (eOp dIx (eV 1) (eC (.int 2)))))) (eOp dIx (eV 1) (eC (.int 1))) (eC .non))) mNx) (mSeq (mIf (eTest (eOp dNe (eOp dIx (eV 1) (eC (.int 0))) (eOp dIx (eV 1) (eC (.int 1))))) (mRet (eC .non)) mNx) (mRet (eIf (eTest (eOp dIn (eV 0) (eC k_COMPARISONS))) (eC (.str "flag")) (eOp dIx (eV 1) (eC (.int 0))))))))))
def m__kind_from : List Slot → Fin := runF 3 b__kind_from
def lp__index_of_1 : M Fl := (mIf (eTest (eOp dEq (eOp dIx (eOp dIx (eV 0) (eV 2)) (eC (.int 0))) (eV 1))) (mRet (eV 2)) mNx)
def b__index_of : M Fl := (mSeq (mFor (iR1 (aCons (eCB dLen (aCons (eV 0) aNil)) aNil)) (gN 2) lp__index_of_1 [2]) (mRet (eC .non)))
def m__index_of : List Slot → Fin := runF 3 b__index_of
def b_attr_index : M Fl := (mRet (eCall 2 m__index_of (rSh (eFld "Shape" "attrs" (eV 0)) (rSh (eV 1) rNil))))
def m_attr_index : List Slot → Fin := runF 2 b_attr_index
def lp_is_text_1 : M Fl := (mIf (bAnd (eTest (eOp dNotIn (eV 1) (eC (.str " !\"#$")))) (bAnd (eTest (eOp dNotIn (eV 1) (eC (.str "&'()*+,-./0123456789:;<=>?@ABCDEFGHIJKLMNOPQRSTUVWXYZ[\\]^_`abcdefghijklmnopqrstuvwxyz{|}~")))) (eTest (eOp dNe (eV 1) (eC (.str "\n")))))) (mRet (eC (.bl false))) mNx)
def b_is_text : M Fl := (mSeq (mFor (iS (eV 0)) (gN 1) lp_is_text_1 [1]) (mRet (eC (.bl true))))
def m_is_text : List Slot → Fin := runF 2 b_is_text
def b_is_integer : M Fl := (mRet (eAnd (eIsI "int" (eV 0)) (eNot (eIsI "bool" (eV 0)))))
def m_is_integer : List Slot → Fin := runF 1 b_is_integer
def b_is_value : M Fl := (mSeq (mIf (eTest (eOp dEq (eV 0) (eC (.str "int")))) (mRet (eAnd (eCall 1 m_is_integer (rSh (eV 1) rNil)) (eChain dLt dLt (eUn dNeg (eC (.int 1000000000000000000000000000000))) (eV 1) (eC (.int 1000000000000000000000000000000))))) mNx) (mSeq (mIf (eTest (eOp dEq (eV 0) (eC (.str "flag")))) (mRet (eIsI "bool" (eV 1))) mNx) (mRet (eAnd (eIsI "str" (eV 1)) (eAnd (eOp dLe (eCB dLen (aCons (eV 1) aNil)) (eC (.int 200))) (eCall 1 m_is_text (rSh (eV 1) rNil)))))))
def m_is_value : List Slot → Fin := runF 2 b_is_value
def b_dim_index : M Fl := (mRet (eCall 2 m__index_of (rSh (eFld "Shape" "dims" (eV 0)) (rSh (eV 1) rNil))))
def m_dim_index : List Slot → Fin := runF 2 b_dim_index
def b_Checker_leaf : M Fl := (mSeq (mSet 3 (eC .non)) (mSeq (mIf (eTest (eOp dEq (eOp dIx (eV 1) (eC (.int 0))) (eC (.str "value")))) (mSeq (mAsg (eSl dSl (eV 1) (oSome (eC (.int 1))) oNone) (gT [(gN 4), (gN 5)])) (mIf (bAnd (eTest (eOp dIn (eV 4) (eC k_KINDS))) (bOr (eTest (eIsN (eV 5))) (eTest (eCall 2 m_is_value (rSh (eV 4) (rSh (eV 5) rNil)))))) (mSet 3 (eV 4)) mNx)) (mIf (eTest (eOp dEq (eOp dIx (eV 1) (eC (.int 0))) (eC (.str "attr")))) (mSeq (mSet 6 (eCall 2 m_attr_index (rSh (eFldO "Checker" "shape" 0) (rSh (eOp dIx (eV 1) (eC (.int 1))) rNil)))) (mSet 3 (eIf (eTest (eIsN (eV 6))) (eC .non) (eOp dIx (eOp dIx (eFld "Shape" "attrs" (eFldO "Checker" "shape" 0)) (eV 6)) (eC (.int 1)))))) (mIf (eTest (eNotN (eCall 2 m_dim_index (rSh (eFldO "Checker" "shape" 0) (rSh (eOp dIx (eV 1) (eC (.int 1))) rNil))))) (mSet 3 (eC (.str "int"))) mNx))) (mSeq (mIf (eTest (eIsN (eV 3))) (mRaise "InvalidQuery" (eV 2)) mNx) (mRet (eV 3)))))
def m_Checker_leaf : List Slot → Fin := runF 7 b_Checker_leaf
def lc_Checker_kind_1 (m_Checker_kind : List Slot → Fin) : M D := (eCall 2 m_Checker_kind (rIoM "Checker" "kind" 0 (rSh (eV 5) rNil)))
def b_Checker_kind (m_Checker_kind : List Slot → Fin) : M Fl := (mSeq (mSet 2 (eFldO "Checker" "count" 0)) (mSeq (mFAug 0 "Checker" "count" (· + ·) (eC (.int 1))) (mSeq (mIf (eTest (eOp dIn (eOp dIx (eV 1) (eC (.int 0))) (eC k_LEAVES))) (mRet (eCall 3 m_Checker_leaf (rIoM "Checker" "leaf" 0 (rSh (eV 1) (rSh (eV 2) rNil))))) mNx) (mSeq (mSet 3 (eLcX (iT (eSl dSl (eV 1) (oSome (eC (.int 1))) oNone)) (gN 5) (M.pure true) (lc_Checker_kind_1 m_Checker_kind) [5])) (mSeq (mSet 4 (eCall 2 m__kind_from (rSh (eOp dIx (eV 1) (eC (.int 0))) (rSh (eV 3) rNil)))) (mSeq (mIf (eTest (eIsN (eV 4))) (mRaise "InvalidQuery" (eV 2)) mNx) (mRet (eV 4))))))))
def fam_Checker_kind : Nat → (List Slot → Fin)
  | 0 => (fun _ => .stuck)
  | n + 1 => (runF 6 (b_Checker_kind (fam_Checker_kind n)))
def m_Checker_kind (n : Nat) : List Slot → Fin := fam_Checker_kind n
def b_Checker___init__ : M Fl := (mSeq (mFPut 0 "Checker" "shape" (eV 1)) (mFPut 0 "Checker" "count" (eC (.int 0))))
def m_Checker___init__ : List Slot → Fin := runF 2 b_Checker___init__
def b_kind_of : M Fl := (mRet (eNewM "Checker" "kind" 2 (m_Checker_kind 12) (eNew "Checker" 2 m_Checker___init__ (rSh (eV 1) rNil)) (rSh (eV 0) rNil)))
def m_kind_of : List Slot → Fin := runF 2 b_kind_of
def b__law_told : M Fl := (mTry 2 (mRet (eTup (aCons (eC (.str "kind")) (aCons (eCall 2 m_kind_of (rSh (eV 0) (rSh (eV 1) rNil))) aNil)))) tb_ManysidesError (fun y => (mSeq (mIf (bOr (bNot (eTest (eTab ti_InvalidQuery y.cls))) (bOr (eTest (eTab ti_InvalidWords y.cls)) (eTest (eOp dNe (eC (.str y.cls)) (eC (.str "InvalidQuery")))))) (mRet (eTup (aCons (eC (.str "other")) (aCons (eC (.int 0)) aNil)))) mNx) (mRet (eTup (aCons (eC (.str "wrong")) (aCons (eC (.int y.place)) aNil)))))))
def m__law_told : List Slot → Fin := runF 3 b__law_told
def b__law_count (m__law_count : List Slot → Fin) : M Fl := (mSeq (mIf (eTest (eOp dIn (eOp dIx (eV 0) (eC (.int 0))) (eLst (aCons (eC (.str "value")) (aCons (eC (.str "attr")) (aCons (eC (.str "dim")) aNil)))))) (mRet (eC (.int 1))) mNx) (mRet (eOp dAdd (eC (.int 1)) (eCB dSum (aCons (eLc (iT (eSl dSl (eV 0) (oSome (eC (.int 1))) oNone)) (gN 1) (M.pure true) (eCall 1 m__law_count (rSh (eV 1) rNil)) [1]) aNil)))))
def fam__law_count : Nat → (List Slot → Fin)
  | 0 => (fun _ => .stuck)
  | n + 1 => (runF 2 (b__law_count (fam__law_count n)))
def m__law_count (n : Nat) : List Slot → Fin := fam__law_count n
def lp__law_replaced_1 (m__law_replaced : List Slot → Fin) : M Fl := (mSeq (mSet 6 (eCall 1 (m__law_count 12) (rSh (eV 5) rNil))) (mSeq (mIf (eTest (eChain dLe dLt (eC (.int 0)) (eV 3) (eV 6))) (mApp 4 (eCall 3 m__law_replaced (rSh (eV 5) (rSh (eV 3) (rSh (eV 2) rNil))))) (mApp 4 (eV 5))) (mSet 3 (eOp dSub (eV 3) (eV 6)))))
def b__law_replaced (m__law_replaced : List Slot → Fin) : M Fl := (mSeq (mIf (eTest (eOp dEq (eV 1) (eC (.int 0)))) (mRet (eV 2)) mNx) (mSeq (mSet 3 (eOp dSub (eV 1) (eC (.int 1)))) (mSeq (mSetN 4 (eLst aNil)) (mSeq (mFor (iT (eSl dSl (eV 0) (oSome (eC (.int 1))) oNone)) (gN 5) (lp__law_replaced_1 m__law_replaced) [5, 6]) (mRet (eOp dAdd (eTup (aCons (eOp dIx (eV 0) (eC (.int 0))) aNil)) (eTupO 4)))))))
def fam__law_replaced : Nat → (List Slot → Fin)
  | 0 => (fun _ => .stuck)
  | n + 1 => (runF 7 (b__law_replaced (fam__law_replaced n)))
def m__law_replaced (n : Nat) : List Slot → Fin := fam__law_replaced n
def b__law_joint : M Fl := (mSeq (mIf (eTest (eOp dIn (eV 0) (eLst (aCons (eC (.str "neg")) (aCons (eC (.str "abs")) (aCons (eC (.str "add")) (aCons (eC (.str "sub")) (aCons (eC (.str "mul")) (aCons (eC (.str "div")) (aCons (eC (.str "mod")) aNil)))))))))) (mRet (eOp dIx (eLst (aCons (eC .non) (aCons (eC (.str "int")) aNil))) (eCB dInt (aCons (eOp dEq (eV 1) (eOp dRepL (eLst (aCons (eC (.str "int")) aNil)) (eCB dLen (aCons (eV 1) aNil)))) aNil)))) mNx) (mSeq (mIf (eTest (eOp dIn (eV 0) (eLst (aCons (eC (.str "not")) (aCons (eC (.str "and")) (aCons (eC (.str "or")) aNil)))))) (mRet (eOp dIx (eLst (aCons (eC .non) (aCons (eC (.str "flag")) aNil))) (eCB dInt (aCons (eOp dEq (eV 1) (eOp dRepL (eLst (aCons (eC (.str "flag")) aNil)) (eCB dLen (aCons (eV 1) aNil)))) aNil)))) mNx) (mSeq (mIf (eTest (eOp dEq (eV 0) (eC (.str "is missing")))) (mRet (eC (.str "flag"))) mNx) (mSeq (mIf (eTest (eOp dEq (eV 0) (eC (.str "length")))) (mRet (eOp dIx (eLst (aCons (eC .non) (aCons (eC (.str "int")) aNil))) (eCB dInt (aCons (eOp dEq (eV 1) (eLst (aCons (eC (.str "text")) aNil))) aNil)))) mNx) (mSeq (mIf (eTest (eOp dEq (eV 0) (eC (.str "joined")))) (mRet (eOp dIx (eLst (aCons (eC .non) (aCons (eC (.str "text")) aNil))) (eCB dInt (aCons (eOp dEq (eV 1) (eLst (aCons (eC (.str "text")) (aCons (eC (.str "text")) aNil)))) aNil)))) mNx) (mSeq (mIf (eTest (eOp dEq (eV 0) (eC (.str "if")))) (mRet (eOp dIx (eLst (aCons (eC .non) (aCons (eOp dIx (eV 1) (eC (.int 1))) aNil))) (eCB dInt (aCons (eAnd (eOp dEq (eOp dIx (eV 1) (eC (.int 0))) (eC (.str "flag"))) (eOp dEq (eOp dIx (eV 1) (eC (.int 1))) (eOp dIx (eV 1) (eC (.int 2))))) aNil)))) mNx) (mSeq (mIf (eTest (eOp dEq (eV 0) (eC (.str "or else")))) (mRet (eOp dIx (eLst (aCons (eC .non) (aCons (eOp dIx (eV 1) (eC (.int 0))) aNil))) (eCB dInt (aCons (eOp dEq (eOp dIx (eV 1) (eC (.int 0))) (eOp dIx (eV 1) (eC (.int 1)))) aNil)))) mNx) (mRet (eOp dIx (eLst (aCons (eC .non) (aCons (eC (.str "flag")) aNil))) (eCB dInt (aCons (eOp dEq (eOp dIx (eV 1) (eC (.int 0))) (eOp dIx (eV 1) (eC (.int 1)))) aNil)))))))))))
def m__law_joint : List Slot → Fin := runF 2 b__law_joint
def b__law_leaf_kind : M Fl := (mSeq (mIf (eTest (eOp dEq (eOp dIx (eV 0) (eC (.int 0))) (eC (.str "attr")))) (mSeq (mSet 3 (eLc (iT (eFld "Shape" "attrs" (eV 1))) (gT [(gN 7), (gN 5)]) (eTest (eOp dEq (eV 7) (eOp dIx (eV 0) (eC (.int 1))))) (eV 5) [7, 5])) (mRet (eOp dIx (eOp dAdd (eV 3) (eLst (aCons (eC .non) aNil))) (eC (.int 0))))) mNx) (mSeq (mIf (eTest (eOp dEq (eOp dIx (eV 0) (eC (.int 0))) (eC (.str "dim")))) (mRet (eOp dIx (eLst (aCons (eC .non) (aCons (eC (.str "int")) aNil))) (eCB dInt (aCons (eOp dIn (eOp dIx (eV 0) (eC (.int 1))) (eLc (iT (eFld "Shape" "dims" (eV 1))) (gN 8) (M.pure true) (eOp dIx (eV 8) (eC (.int 0))) [8])) aNil)))) mNx) (mSeq (mAsg (eV 0) (gT [(gN 4), (gN 5), (gN 6)])) (mSeq (mSet 2 (eIsN (eV 6))) (mSeq (mIf (eTest (eOp dEq (eV 5) (eC (.str "int")))) (mSet 2 (eOr (eV 2) (eAnd (eIsI "int" (eV 6)) (eAnd (eNot (eIsI "bool" (eV 6))) (eChain dLt dLt (eUn dNeg (eOp dPow (eC (.int 10)) (eC (.int 30)))) (eV 6) (eOp dPow (eC (.int 10)) (eC (.int 30)))))))) (mIf (eTest (eOp dEq (eV 5) (eC (.str "flag")))) (mSet 2 (eOr (eV 2) (eIsI "bool" (eV 6)))) (mSet 2 (eAnd (eOp dEq (eV 5) (eC (.str "text"))) (eOr (eV 2) (eIsI "str" (eV 6))))))) (mRet (eOp dIx (eLst (aCons (eC .non) (aCons (eV 5) aNil))) (eCB dInt (aCons (eV 2) aNil)))))))))
def m__law_leaf_kind : List Slot → Fin := runF 9 b__law_leaf_kind
def lp__law_kind_1 (m__law_kind : List Slot → Fin) : M Fl := (mSeq (mSet 7 (eCall 3 m__law_kind (rSh (eV 5) (rSh (eV 1) (rSh (eV 4) rNil))))) (mSeq (mIf (eTest (eOp dEq (eOp dIx (eV 7) (eC (.int 0))) (eC (.str "wrong")))) (mRet (eV 7)) mNx) (mSeq (mApp 3 (eOp dIx (eV 7) (eC (.int 1)))) (mSet 4 (eOp dAdd (eV 4) (eCall 1 (m__law_count 12) (rSh (eV 5) rNil)))))))
def b__law_kind (m__law_kind : List Slot → Fin) : M Fl := (mSeq (mIf (eTest (eOp dIn (eOp dIx (eV 0) (eC (.int 0))) (eLst (aCons (eC (.str "value")) (aCons (eC (.str "attr")) (aCons (eC (.str "dim")) aNil)))))) (mSeq (mSet 6 (eCall 2 m__law_leaf_kind (rSh (eV 0) (rSh (eV 1) rNil)))) (mSeq (mIf (eTest (eIsN (eV 6))) (mRet (eTup (aCons (eC (.str "wrong")) (aCons (eV 2) aNil)))) mNx) (mRet (eTup (aCons (eC (.str "kind")) (aCons (eV 6) aNil)))))) mNx) (mSeq (mSetN 3 (eLst aNil)) (mSeq (mSet 4 (eOp dAdd (eV 2) (eC (.int 1)))) (mSeq (mFor (iT (eSl dSl (eV 0) (oSome (eC (.int 1))) oNone)) (gN 5) (lp__law_kind_1 m__law_kind) [5, 7]) (mFrz 3 (mSeq (mSet 6 (eCall 2 m__law_joint (rSh (eOp dIx (eV 0) (eC (.int 0))) (rSh (eV 3) rNil)))) (mSeq (mIf (eTest (eIsN (eV 6))) (mRet (eTup (aCons (eC (.str "wrong")) (aCons (eV 2) aNil)))) mNx) (mRet (eTup (aCons (eC (.str "kind")) (aCons (eV 6) aNil)))))))))))
def fam__law_kind : Nat → (List Slot → Fin)
  | 0 => (fun _ => .stuck)
  | n + 1 => (runF 8 (b__law_kind (fam__law_kind n)))
def m__law_kind (n : Nat) : List Slot → Fin := fam__law_kind n
def b_parts_of : M Fl := (mSeq (mIf (eTest (eOp dIn (eOp dIx (eV 0) (eC (.int 0))) (eC k_LEAVES))) (mRet (eLst aNil)) mNx) (mRet (eListOf (eSl dSl (eV 0) (oSome (eC (.int 1))) oNone))))
def m_parts_of : List Slot → Fin := runF 1 b_parts_of
def b__law_strange : M Fl := (mSeq (mSet 2 (eCall 2 m__law_next (rIo 0 (rSh (eC (.int 6)) rNil)))) (mSeq (mIf (eTest (eOp dEq (eV 2) (eC (.int 0)))) (mRet (eTup (aCons (eC (.str "attr")) (aCons (eOp dIx (eLst (aCons (eC (.str "q")) (aCons (eC (.str "x")) (aCons (eC (.str "")) aNil)))) (eCall 2 m__law_next (rIo 0 (rSh (eC (.int 3)) rNil)))) aNil)))) mNx) (mSeq (mIf (eTest (eOp dEq (eV 2) (eC (.int 1)))) (mRet (eTup (aCons (eC (.str "dim")) (aCons (eOp dIx (eLst (aCons (eC (.str "a")) (aCons (eC (.str "w")) (aCons (eC (.str "z")) aNil)))) (eCall 2 m__law_next (rIo 0 (rSh (eC (.int 3)) rNil)))) aNil)))) mNx) (mSeq (mIf (eTest (eOp dEq (eV 2) (eC (.int 2)))) (mRet (eTup (aCons (eC (.str "value")) (aCons (eOp dIx (eLst (aCons (eC (.str "int")) (aCons (eC (.str "flag")) (aCons (eC (.str "text")) (aCons (eC (.str "number")) aNil))))) (eCall 2 m__law_next (rIo 0 (rSh (eC (.int 4)) rNil)))) (aCons (eOp dIx (eLst (aCons (eC (.int 5)) (aCons (eC (.bl true)) (aCons (eC (.str "a")) (aCons (eOp dPow (eC (.int 10)) (eC (.int 30))) aNil))))) (eCall 2 m__law_next (rIo 0 (rSh (eC (.int 4)) rNil)))) aNil))))) mNx) (mRet (eCall 4 (m__law_expression 12) (rIo 0 (rSh (eV 1) (rSh (eOp dIx (eLst (aCons (eC (.str "int")) (aCons (eC (.str "flag")) (aCons (eC (.str "text")) aNil)))) (eCall 2 m__law_next (rIo 0 (rSh (eC (.int 3)) rNil)))) (rSh (eC (.int 1)) rNil))))))))))
def m__law_strange : List Slot → Fin := runF 3 b__law_strange
def lp_law_1 : M Fl := (mSeq (mSet 8 (eCall 2 m__law_next (rIo 1 (rSh (eCall 1 (m__law_count 12) (rSh (eV 5) rNil)) rNil)))) (mSet 5 (eCall 3 (m__law_replaced 12) (rSh (eV 5) (rSh (eV 8) (rSh (eCall 2 m__law_strange (rIo 1 (rSh (eV 2) rNil))) rNil))))))
def lp_law_2 : M Fl := (mSeq (mSet 4 (eOp dIx (eLst (aCons (eC (.str "int")) (aCons (eC (.str "flag")) (aCons (eC (.str "text")) aNil)))) (eOp dMod (eCB dInt (aCons (eV 3) aNil)) (eC (.int 3))))) (mSeq (mSet 5 (eCall 4 (m__law_expression 12) (rIo 1 (rSh (eV 2) (rSh (eV 4) (rSh (eC (.int 3)) rNil)))))) (mSeq (mIf (eTest (eOp dNe (eCall 2 m__law_told (rSh (eV 5) (rSh (eV 2) rNil))) (eTup (aCons (eC (.str "kind")) (aCons (eV 4) aNil))))) (mRet (eC (.bl false))) mNx) (mSeq (mFor (iR1 (aCons (eOp dAdd (eC (.int 1)) (eCall 2 m__law_next (rIo 1 (rSh (eC (.int 2)) rNil)))) aNil)) (gN 6) lp_law_1 [6]) (mSeq (mIf (eTest (eOp dNe (eCall 2 m__law_told (rSh (eV 5) (rSh (eV 2) rNil))) (eCall 3 (m__law_kind 12) (rSh (eV 5) (rSh (eV 2) (rSh (eC (.int 0)) rNil)))))) (mRet (eC (.bl false))) mNx) (mSeq (mSet 7 (eLst aNil)) (mSeq (mIf (eTest (eOp dNotIn (eOp dIx (eV 5) (eC (.int 0))) (eLst (aCons (eC (.str "value")) (aCons (eC (.str "attr")) (aCons (eC (.str "dim")) aNil)))))) (mSet 7 (eListOf (eSl dSl (eV 5) (oSome (eC (.int 1))) oNone))) mNx) (mIf (eTest (eOp dNe (eCall 1 m_parts_of (rSh (eV 5) rNil)) (eV 7))) (mRet (eC (.bl false))) mNx))))))))
def b_law : M Fl := (mSeq (mSetN 1 (eCallN 1 m__law_draws (rSh (eOp dAdd (eSl dSlL (eV 0) oNone (oSome (eC (.int 8)))) (eLst (aCons (eC (.int 5)) aNil))) rNil))) (mSeq (mSet 2 (eCallN 1 m__law_shape (rIo 1 rNil))) (mSeq (mFor (iR1 (aCons (eC (.int 6)) aNil)) (gN 3) lp_law_2 [3, 4, 5, 6, 7, 8]) (mRet (eC (.bl true))))))
def m_law : List Slot → Fin := runF 9 b_law
/-! what the top has left -/
structure Txt (P : Program) (w : World) (K : PySem.W.Frag) (mg : Str → Option Value) where
  C_ManysidesError : Addr
  cm_ManysidesError : mg "ManysidesError" = some (.ref C_ManysidesError)
  C_InvalidQuery : Addr
  cm_InvalidQuery : mg "InvalidQuery" = some (.ref C_InvalidQuery)
  C_InvalidWords : Addr
  cm_InvalidWords : mg "InvalidWords" = some (.ref C_InvalidWords)
  f_ManysidesError_i : Addr
  cc_ManysidesError_i : Addr
  cd_ManysidesError_i : Addr
  fd_ManysidesError_i : FuncData
  su_ManysidesError_i : SupTxt P K mg C_ManysidesError cc_ManysidesError_i f_ManysidesError_i cd_ManysidesError_i "ManysidesError.__init__" s_ManysidesError_i fd_ManysidesError_i
  b_ManysidesError_i : Binds K fd_ManysidesError_i ["self", "place", "name"] []
  ty_ManysidesError_i : PySem.W.typeIn K (.ref f_ManysidesError_i) = some (.type "function")
  fn_ManysidesError_i : PySem.W.fnIn K f_ManysidesError_i = true
  f_InvalidQuery_i : Addr
  cc_InvalidQuery_i : Addr
  cd_InvalidQuery_i : Addr
  fd_InvalidQuery_i : FuncData
  su_InvalidQuery_i : SupTxt P K mg C_InvalidQuery cc_InvalidQuery_i f_InvalidQuery_i cd_InvalidQuery_i "InvalidQuery.__init__" s_InvalidQuery_i fd_InvalidQuery_i
  b_InvalidQuery_i : Binds K fd_InvalidQuery_i ["self", "place"] []
  ty_InvalidQuery_i : PySem.W.typeIn K (.ref f_InvalidQuery_i) = some (.type "function")
  fn_InvalidQuery_i : PySem.W.fnIn K f_InvalidQuery_i = true
  em_InvalidQuery : ExM K C_InvalidQuery C_ManysidesError
  es_InvalidQuery : SupC K C_InvalidQuery C_InvalidQuery
  eu_InvalidQuery : PySem.W.ks_superIn K C_InvalidQuery C_InvalidQuery "__init__" = some (some (.ref f_ManysidesError_i))
  ei_InvalidQuery : PySem.W.findIn K (.ref C_InvalidQuery) "__init__" = some (some (.ref f_InvalidQuery_i))
  er_InvalidQuery : ErC K C_InvalidQuery
  hx_InvalidQuery_ManysidesError : PySem.W.exmOne K (.ref C_InvalidQuery) (.ref C_ManysidesError) = some true
  ix_InvalidQuery_InvalidQuery : PySem.W.kitOne K (.ref C_InvalidQuery) (.ref C_InvalidQuery) = some true
  ix_InvalidQuery_InvalidWords : PySem.W.kitOne K (.ref C_InvalidQuery) (.ref C_InvalidWords) = some false
  f__law_draw : Addr
  fd__law_draw : FuncData
  F__law_draw : Fun K "_law_draw" "_law_draw" s__law_draw f__law_draw fd__law_draw
  b__law_draw : Binds K fd__law_draw ["_law_cell", "_law_many", "_law_bound"] []
  m__law_draw : mg "_law_draw" = some (.ref f__law_draw)
  k__law_draw : PySem.W.keepIn K (.ref f__law_draw) = true
  f__law_draws : Addr
  fd__law_draws : FuncData
  F__law_draws : Fun K "_law_draws" "_law_draws" s__law_draws f__law_draws fd__law_draws
  b__law_draws : Binds K fd__law_draws ["_law_cells"] []
  m__law_draws : mg "_law_draws" = some (.ref f__law_draws)
  k__law_draws : PySem.W.keepIn K (.ref f__law_draws) = true
  f_Shape___init__ : Addr
  fd_Shape___init__ : FuncData
  F_Shape___init__ : Fun K "__init__" "Shape.__init__" s_Shape___init__ f_Shape___init__ fd_Shape___init__
  b_Shape___init__ : Binds K fd_Shape___init__ ["self", "dims", "attrs"] []
  f__law_next : Addr
  fd__law_next : FuncData
  F__law_next : Fun K "_law_next" "_law_next" s__law_next f__law_next fd__law_next
  b__law_next : Binds K fd__law_next ["_law_state", "_law_bound"] []
  m__law_next : mg "_law_next" = some (.ref f__law_next)
  k__law_next : PySem.W.keepIn K (.ref f__law_next) = true
  f__law_shape : Addr
  fd__law_shape : FuncData
  F__law_shape : Fun K "_law_shape" "_law_shape" s__law_shape f__law_shape fd__law_shape
  b__law_shape : Binds K fd__law_shape ["_law_state"] []
  m__law_shape : mg "_law_shape" = some (.ref f__law_shape)
  k__law_shape : PySem.W.keepIn K (.ref f__law_shape) = true
  f__law_word : Addr
  fd__law_word : FuncData
  F__law_word : Fun K "_law_word" "_law_word" s__law_word f__law_word fd__law_word
  b__law_word : Binds K fd__law_word ["_law_state"] []
  m__law_word : mg "_law_word" = some (.ref f__law_word)
  k__law_word : PySem.W.keepIn K (.ref f__law_word) = true
  f__law_number : Addr
  fd__law_number : FuncData
  F__law_number : Fun K "_law_number" "_law_number" s__law_number f__law_number fd__law_number
  b__law_number : Binds K fd__law_number ["_law_state"] []
  m__law_number : mg "_law_number" = some (.ref f__law_number)
  k__law_number : PySem.W.keepIn K (.ref f__law_number) = true
  f__law_thing : Addr
  fd__law_thing : FuncData
  F__law_thing : Fun K "_law_thing" "_law_thing" s__law_thing f__law_thing fd__law_thing
  b__law_thing : Binds K fd__law_thing ["_law_state", "_law_kind_here"] []
  m__law_thing : mg "_law_thing" = some (.ref f__law_thing)
  k__law_thing : PySem.W.keepIn K (.ref f__law_thing) = true
  f__law_leaf : Addr
  fd__law_leaf : FuncData
  F__law_leaf : Fun K "_law_leaf" "_law_leaf" s__law_leaf f__law_leaf fd__law_leaf
  b__law_leaf : Binds K fd__law_leaf ["_law_state", "_law_shape_here", "_law_kind_here"] []
  m__law_leaf : mg "_law_leaf" = some (.ref f__law_leaf)
  k__law_leaf : PySem.W.keepIn K (.ref f__law_leaf) = true
  f__law_expression : Addr
  fd__law_expression : FuncData
  F__law_expression : Fun K "_law_expression" "_law_expression" s__law_expression f__law_expression fd__law_expression
  b__law_expression : Binds K fd__law_expression ["_law_state", "_law_shape_here", "_law_kind_here", "_law_depth"] []
  m__law_expression : mg "_law_expression" = some (.ref f__law_expression)
  k__law_expression : PySem.W.keepIn K (.ref f__law_expression) = true
  f__law_flag : Addr
  fd__law_flag : FuncData
  F__law_flag : Fun K "_law_flag" "_law_flag" s__law_flag f__law_flag fd__law_flag
  b__law_flag : Binds K fd__law_flag ["_law_state", "_law_shape_here", "_law_depth"] []
  m__law_flag : mg "_law_flag" = some (.ref f__law_flag)
  k__law_flag : PySem.W.keepIn K (.ref f__law_flag) = true
  f__kind_from : Addr
  fd__kind_from : FuncData
  c__kind_from_c : Addr
  P__kind_from : Addr
  F__kind_from : FunC K "_kind_from" "_kind_from" s__kind_from f__kind_from fd__kind_from c__kind_from_c
  b__kind_from : Binds K fd__kind_from ["word", "kinds"] []
  m__kind_from : mg "_kind_from" = some (.ref f__kind_from)
  k__kind_from : PySem.W.keepIn K (.ref f__kind_from) = true
  f__index_of : Addr
  fd__index_of : FuncData
  F__index_of : Fun K "_index_of" "_index_of" s__index_of f__index_of fd__index_of
  b__index_of : Binds K fd__index_of ["rows", "name"] []
  m__index_of : mg "_index_of" = some (.ref f__index_of)
  k__index_of : PySem.W.keepIn K (.ref f__index_of) = true
  f_attr_index : Addr
  fd_attr_index : FuncData
  F_attr_index : Fun K "attr_index" "attr_index" s_attr_index f_attr_index fd_attr_index
  b_attr_index : Binds K fd_attr_index ["shape", "name"] []
  m_attr_index : mg "attr_index" = some (.ref f_attr_index)
  k_attr_index : PySem.W.keepIn K (.ref f_attr_index) = true
  f_is_text : Addr
  fd_is_text : FuncData
  F_is_text : Fun K "is_text" "is_text" s_is_text f_is_text fd_is_text
  b_is_text : Binds K fd_is_text ["text"] []
  m_is_text : mg "is_text" = some (.ref f_is_text)
  k_is_text : PySem.W.keepIn K (.ref f_is_text) = true
  f_is_integer : Addr
  fd_is_integer : FuncData
  F_is_integer : Fun K "is_integer" "is_integer" s_is_integer f_is_integer fd_is_integer
  b_is_integer : Binds K fd_is_integer ["value"] []
  m_is_integer : mg "is_integer" = some (.ref f_is_integer)
  k_is_integer : PySem.W.keepIn K (.ref f_is_integer) = true
  f_is_value : Addr
  fd_is_value : FuncData
  F_is_value : Fun K "is_value" "is_value" s_is_value f_is_value fd_is_value
  b_is_value : Binds K fd_is_value ["kind", "value"] []
  m_is_value : mg "is_value" = some (.ref f_is_value)
  k_is_value : PySem.W.keepIn K (.ref f_is_value) = true
  f_dim_index : Addr
  fd_dim_index : FuncData
  F_dim_index : Fun K "dim_index" "dim_index" s_dim_index f_dim_index fd_dim_index
  b_dim_index : Binds K fd_dim_index ["shape", "name"] []
  m_dim_index : mg "dim_index" = some (.ref f_dim_index)
  k_dim_index : PySem.W.keepIn K (.ref f_dim_index) = true
  f_Checker_leaf : Addr
  fd_Checker_leaf : FuncData
  F_Checker_leaf : Fun K "leaf" "Checker.leaf" s_Checker_leaf f_Checker_leaf fd_Checker_leaf
  b_Checker_leaf : Binds K fd_Checker_leaf ["self", "expression", "number"] []
  f_Checker_kind : Addr
  fd_Checker_kind : FuncData
  F_Checker_kind : Fun K "kind" "Checker.kind" s_Checker_kind f_Checker_kind fd_Checker_kind
  b_Checker_kind : Binds K fd_Checker_kind ["self", "expression"] []
  f_Checker___init__ : Addr
  fd_Checker___init__ : FuncData
  F_Checker___init__ : Fun K "__init__" "Checker.__init__" s_Checker___init__ f_Checker___init__ fd_Checker___init__
  b_Checker___init__ : Binds K fd_Checker___init__ ["self", "shape"] []
  f_kind_of : Addr
  fd_kind_of : FuncData
  F_kind_of : Fun K "kind_of" "kind_of" s_kind_of f_kind_of fd_kind_of
  b_kind_of : Binds K fd_kind_of ["expression", "shape"] []
  m_kind_of : mg "kind_of" = some (.ref f_kind_of)
  k_kind_of : PySem.W.keepIn K (.ref f_kind_of) = true
  f__law_told : Addr
  fd__law_told : FuncData
  F__law_told : Fun K "_law_told" "_law_told" s__law_told f__law_told fd__law_told
  b__law_told : Binds K fd__law_told ["_law_expression_here", "_law_shape_here"] []
  m__law_told : mg "_law_told" = some (.ref f__law_told)
  k__law_told : PySem.W.keepIn K (.ref f__law_told) = true
  f__law_count : Addr
  fd__law_count : FuncData
  F__law_count : Fun K "_law_count" "_law_count" s__law_count f__law_count fd__law_count
  b__law_count : Binds K fd__law_count ["_law_expression_here"] []
  m__law_count : mg "_law_count" = some (.ref f__law_count)
  k__law_count : PySem.W.keepIn K (.ref f__law_count) = true
  f__law_replaced : Addr
  fd__law_replaced : FuncData
  F__law_replaced : Fun K "_law_replaced" "_law_replaced" s__law_replaced f__law_replaced fd__law_replaced
  b__law_replaced : Binds K fd__law_replaced ["_law_expression_here", "_law_number_here", "_law_new"] []
  m__law_replaced : mg "_law_replaced" = some (.ref f__law_replaced)
  k__law_replaced : PySem.W.keepIn K (.ref f__law_replaced) = true
  f__law_joint : Addr
  fd__law_joint : FuncData
  F__law_joint : Fun K "_law_joint" "_law_joint" s__law_joint f__law_joint fd__law_joint
  b__law_joint : Binds K fd__law_joint ["_law_word_here", "_law_kinds"] []
  m__law_joint : mg "_law_joint" = some (.ref f__law_joint)
  k__law_joint : PySem.W.keepIn K (.ref f__law_joint) = true
  f__law_leaf_kind : Addr
  fd__law_leaf_kind : FuncData
  F__law_leaf_kind : Fun K "_law_leaf_kind" "_law_leaf_kind" s__law_leaf_kind f__law_leaf_kind fd__law_leaf_kind
  b__law_leaf_kind : Binds K fd__law_leaf_kind ["_law_expression_here", "_law_shape_here"] []
  m__law_leaf_kind : mg "_law_leaf_kind" = some (.ref f__law_leaf_kind)
  k__law_leaf_kind : PySem.W.keepIn K (.ref f__law_leaf_kind) = true
  f__law_kind : Addr
  fd__law_kind : FuncData
  F__law_kind : Fun K "_law_kind" "_law_kind" s__law_kind f__law_kind fd__law_kind
  b__law_kind : Binds K fd__law_kind ["_law_expression_here", "_law_shape_here", "_law_number_here"] []
  m__law_kind : mg "_law_kind" = some (.ref f__law_kind)
  k__law_kind : PySem.W.keepIn K (.ref f__law_kind) = true
  f_parts_of : Addr
  fd_parts_of : FuncData
  F_parts_of : Fun K "parts_of" "parts_of" s_parts_of f_parts_of fd_parts_of
  b_parts_of : Binds K fd_parts_of ["expression"] []
  m_parts_of : mg "parts_of" = some (.ref f_parts_of)
  k_parts_of : PySem.W.keepIn K (.ref f_parts_of) = true
  f__law_strange : Addr
  fd__law_strange : FuncData
  F__law_strange : Fun K "_law_strange" "_law_strange" s__law_strange f__law_strange fd__law_strange
  b__law_strange : Binds K fd__law_strange ["_law_state", "_law_shape_here"] []
  m__law_strange : mg "_law_strange" = some (.ref f__law_strange)
  k__law_strange : PySem.W.keepIn K (.ref f__law_strange) = true
  f_law : Addr
  fd_law : FuncData
  F_law : Fun K "law" "law" s_law f_law fd_law
  b_law : Binds K fd_law ["_law_script"] []
  m_law : mg "law" = some (.ref f_law)
  k_law : PySem.W.keepIn K (.ref f_law) = true
  C_Shape : Addr
  cm_Shape : mg "Shape" = some (.ref C_Shape)
  cl_Shape : Cls K C_Shape
  mk_Shape : Mk K C_Shape f_Shape___init__
  C_Checker : Addr
  cm_Checker : mg "Checker" = some (.ref C_Checker)
  cl_Checker : Cls K C_Checker
  mk_Checker : Mk K C_Checker f_Checker___init__
  na_Checker_count : NoAttr K C_Checker "count"
  na_Checker_shape : NoAttr K C_Checker "shape"
  na_Shape_attrs : NoAttr K C_Shape "attrs"
  na_Shape_dims : NoAttr K C_Shape "dims"
  me_Checker_kind : Meth K C_Checker "kind" f_Checker_kind
  me_Checker_leaf : Meth K C_Checker "leaf" f_Checker_leaf
  t_BEFORE : Tok
  c_BEFORE : mg "BEFORE" = some (.str " !\"#$" t_BEFORE)
  t_BEHIND : Tok
  c_BEHIND : mg "BEHIND" = some (.str "&'()*+,-./0123456789:;<=>?@ABCDEFGHIJKLMNOPQRSTUVWXYZ[\\]^_`abcdefghijklmnopqrstuvwxyz{|}~" t_BEHIND)
  t_BOUND : Tok
  c_BOUND : mg "BOUND" = some (.int 1000000000000000000000000000000 t_BOUND)
  t_LONGEST : Tok
  c_LONGEST : mg "LONGEST" = some (.int 200 t_LONGEST)
  a_KINDS : Addr
  c_KINDS : mg "KINDS" = some (.ref a_KINDS)
  r_KINDS : ∀ B, Rep K mg B (.ref a_KINDS) k_KINDS
  a_LEAVES : Addr
  c_LEAVES : mg "LEAVES" = some (.ref a_LEAVES)
  r_LEAVES : ∀ B, Rep K mg B (.ref a_LEAVES) k_LEAVES
  a_ARITHMETIC : Addr
  c_ARITHMETIC : mg "ARITHMETIC" = some (.ref a_ARITHMETIC)
  r_ARITHMETIC : ∀ B, Rep K mg B (.ref a_ARITHMETIC) k_ARITHMETIC
  a_COMPARISONS : Addr
  c_COMPARISONS : mg "COMPARISONS" = some (.ref a_COMPARISONS)
  r_COMPARISONS : ∀ B, Rep K mg B (.ref a_COMPARISONS) k_COMPARISONS
  d_PARTS_KIND : Addr
  cg_PARTS_KIND : mg "PARTS_KIND" = some (.ref d_PARTS_KIND)
  gd_PARTS_KIND : GDct K w mg d_PARTS_KIND lk_PARTS_KIND
  d_RESULT_KIND : Addr
  cg_RESULT_KIND : mg "RESULT_KIND" = some (.ref d_RESULT_KIND)
  gd_RESULT_KIND : GDct K w mg d_RESULT_KIND lk_RESULT_KIND
  n_all : mg "all" = none
  n_bool : mg "bool" = none
  n_int : mg "int" = none
  n_isinstance : mg "isinstance" = none
  n_len : mg "len" = none
  n_list : mg "list" = none
  n_range : mg "range" = none
  n_str : mg "str" = none
  n_sum : mg "sum" = none
  n_tuple : mg "tuple" = none
structure TxB [Tabs] {P : Program} {w : World} {K : PySem.W.Frag} {mg : Str → Option Value} (T : Txt P w K mg) (base : Heap) : Prop where
  tb__kind_from : GxR.TabB base mg T.c__kind_from_c T.P__kind_from
  in__kind_from : T.P__kind_from ∈ Tabs.ps
section
variable [Tabs] {P : Program} {w : World} {K : PySem.W.Frag} {mg : Str → Option Value} {base : Heap}
theorem okM (T : Txt P w K mg) : FnOk P w K mg base (L2.CX P w) 1 T.f_ManysidesError_i T.fd_ManysidesError_i ["self", "place", "name"] (spM K T.C_ManysidesError) := fn_M T.su_ManysidesError_i sc_ManysidesError_i rfl rfl (fun env => ⟨_, rfl⟩)
theorem exi_InvalidQuery (T : Txt P w K mg) : ExI P w K mg base "InvalidQuery" := ⟨T.C_InvalidQuery, T.f_InvalidQuery_i, T.fd_InvalidQuery_i, T.cm_InvalidQuery, T.em_InvalidQuery.o, T.ei_InvalidQuery, T.ty_InvalidQuery_i, fn_I T.su_InvalidQuery_i sc_InvalidQuery_i rfl rfl (fun env => ⟨_, rfl⟩) T.em_InvalidQuery T.es_InvalidQuery T.eu_InvalidQuery T.ty_ManysidesError_i T.fn_ManysidesError_i (okM T) T.b_ManysidesError_i, T.b_InvalidQuery_i⟩
theorem htb_ManysidesError (T : Txt P w K mg) : ∀ e b, tb_ManysidesError.lookup e = some b → ∃ C, mg e = some (.ref C) ∧ PySem.W.exmOne K (.ref C) (.ref T.C_ManysidesError) = some b := (tab_cons ⟨_, T.cm_InvalidQuery, T.hx_InvalidQuery_ManysidesError⟩ tab_nil)
theorem erk_ManysidesError (T : Txt P w K mg) : ∀ e b, tb_ManysidesError.lookup e = some b → ErK K mg e := (tab_cons ⟨_, T.cm_InvalidQuery, T.er_InvalidQuery⟩ tab_nil)
theorem hti_InvalidQuery (T : Txt P w K mg) : ∀ e b, ti_InvalidQuery.lookup e = some b → ∃ C, mg e = some (.ref C) ∧ PySem.W.kitOne K (.ref C) (.ref T.C_InvalidQuery) = some b := (tab_cons ⟨_, T.cm_InvalidQuery, T.ix_InvalidQuery_InvalidQuery⟩ tab_nil)
theorem hti_InvalidWords (T : Txt P w K mg) : ∀ e b, ti_InvalidWords.lookup e = some b → ∃ C, mg e = some (.ref C) ∧ PySem.W.kitOne K (.ref C) (.ref T.C_InvalidWords) = some b := (tab_cons ⟨_, T.cm_InvalidQuery, T.ix_InvalidQuery_InvalidWords⟩ tab_nil)
theorem ok__law_draw (T : Txt P w K mg) (B : TxB T base) : FnOk P w K mg base (L2.CX P w) 1 T.f__law_draw T.fd__law_draw ["_law_cell", "_law_many", "_law_bound"] (SpM K mg 3 m__law_draw) := by
  refine fn_m (k := 0) (N := N__law_draw) (m := b__law_draw) T.F__law_draw sc__law_draw ?_
  intro cdv A outer s H E hr
  unfold b__law_draw
  exact ⟨_, (sss_cons (ss_setN 3 sc__law_draw.nd (sn_lst sa_nil)) (sss_cons (ss_if (st_cmp or_ge re_ord (se_v 0) (se_op op_pow re_pow se_int se_int)) (sss_cons (ss_for [] (passes_of rfl) rfl (si_r1 T.n_range (sa_cons (se_v 1) sa_nil)) (sg_name 5 sc__law_draw.nd) (sss_cons (ss_app 3 (se_op op_modN re_mod (sb_ty call_int1 re_int T.n_int (sa_cons (se_v 0) sa_nil)) (se_v 2))) (sss_one (ss_set 0 sc__law_draw.nd (se_op op_fdivG re_div (se_v 0) (se_v 2)))))) (sss_one (ss_retO 3))) sss_nil) (sss_cons (ss_set 4 sc__law_draw.nd (se_op op_modN re_mod (sb_ty call_int1 re_int T.n_int (sa_cons (se_v 0) sa_nil)) se_int)) (sss_cons (ss_for [5, 6] (passes_of rfl) rfl (si_r1 T.n_range (sa_cons (se_v 1) sa_nil)) (sg_name 5 sc__law_draw.nd) (sss_cons (ss_set 4 sc__law_draw.nd (se_op op_modN re_mod (sb_ty call_int1 re_int T.n_int (sa_cons (se_op or_add re_add (se_op or_add re_add (se_op or_mul re_mul (se_v 4) se_int) se_int) (se_v 5)) sa_nil)) se_int)) (sss_cons (ss_set 6 sc__law_draw.nd (se_op op_modN re_mod (sb_ty call_int1 re_int T.n_int (sa_cons (se_op or_add re_add (se_op or_mul re_mul (se_v 4) se_int) (se_op or_mul re_mul se_int (se_v 5))) sa_nil)) se_int)) (sss_one (ss_app 3 (se_op op_modN re_mod (sb_ty call_int1 re_int T.n_int (sa_cons (se_op op_fdivG re_div (se_v 6) se_int) sa_nil)) (se_v 2))))))) (sss_one (ss_retO 3))))))⟩
theorem ok__law_draws (T : Txt P w K mg) (B : TxB T base) : FnOk P w K mg base (L2.CX P w) 2 T.f__law_draws T.fd__law_draws ["_law_cells"] (SpM K mg 1 m__law_draws) := by
  refine fn_m (k := 1) (N := N__law_draws) (m := b__law_draws) T.F__law_draws sc__law_draws ?_
  intro cdv A outer s H E hr
  unfold b__law_draws
  exact ⟨_, (sss_cons (ss_set 1 sc__law_draws.nd (SN.se (sn_lst sa_nil))) (sss_cons (ss_for [2] (passes_of rfl) rfl (si_l (se_v 0)) (sg_name 2 sc__law_draws.nd) (sss_one (ss_set 1 sc__law_draws.nd (se_op or_add re_add (se_v 1) (SN.se (sn_call (ok__law_draw T B) (hr.mono (by decide)) T.m__law_draw T.k__law_draw T.b__law_draw (takes_of rfl rfl rfl rfl) (sr_sh (se_v 2) (sr_sh se_int (sr_sh (se_op op_shl re_shl se_int se_int) sr_nil))))))))) (sss_one (ss_retN (sn_disp rfl (sps_cons se_str (se_v 1) (sps_cons se_str se_int sps_nil)))))))⟩
theorem ok_Shape___init__ (T : Txt P w K mg) (B : TxB T base) : FnOk P w K mg base (L2.CX P w) 1 T.f_Shape___init__ T.fd_Shape___init__ ["self", "dims", "attrs"] (SpM K mg 3 m_Shape___init__) := by
  refine fn_m (k := 0) (N := N_Shape___init__) (m := b_Shape___init__) T.F_Shape___init__ sc_Shape___init__ ?_
  intro cdv A outer s H E hr
  unfold b_Shape___init__
  exact ⟨_, (sss_cons (ss_fput 0 T.cm_Shape T.cl_Shape T.na_Shape_dims (se_v 1)) (sss_one (ss_fput 0 T.cm_Shape T.cl_Shape T.na_Shape_attrs (se_v 2))))⟩
theorem ok__law_next (T : Txt P w K mg) (B : TxB T base) : FnOk P w K mg base (L2.CX P w) 1 T.f__law_next T.fd__law_next ["_law_state", "_law_bound"] (SpM K mg 2 m__law_next) := by
  refine fn_m (k := 0) (N := N__law_next) (m := b__law_next) T.F__law_next sc__law_next ?_
  intro cdv A outer s H E hr
  unfold b__law_next
  exact ⟨_, (sss_cons (ss_set 2 sc__law_next.nd (se_op or_add re_add (se_ix (se_dgetO 0 (hu_of hr) se_str) (se_op op_modN re_mod (sb_ty call_int1 re_int T.n_int (sa_cons (se_dgetO 0 (hu_of hr) se_str) sa_nil)) (sb_cb call_len re_len T.n_len (sa_cons (se_dgetO 0 (hu_of hr) se_str) sa_nil)))) (se_op op_fdivG re_div (sb_ty call_int1 re_int T.n_int (sa_cons (se_dgetO 0 (hu_of hr) se_str) sa_nil)) (sb_cb call_len re_len T.n_len (sa_cons (se_dgetO 0 (hu_of hr) se_str) sa_nil))))) (sss_cons (ss_put 0 (hu_of hr) (se_op or_add re_add (se_dgetO 0 (hu_of hr) se_str) se_int) se_str) (sss_one (ss_ret (se_op op_modN re_mod (sb_ty call_int1 re_int T.n_int (sa_cons (se_v 2) sa_nil)) (se_v 1))))))⟩
theorem ok__law_shape (T : Txt P w K mg) (B : TxB T base) : FnOk P w K mg base (L2.CX P w) 3 T.f__law_shape T.fd__law_shape ["_law_state"] (SpM K mg 1 m__law_shape) := by
  refine fn_m (k := 2) (N := N__law_shape) (m := b__law_shape) T.F__law_shape sc__law_shape ?_
  intro cdv A outer s H E hr
  unfold b__law_shape
  exact ⟨_, (sss_cons (ss_setN 1 sc__law_shape.nd (sn_lst sa_nil)) (sss_cons (ss_for [2, 5] (passes_of rfl) rfl (si_l (SN.se (sn_sl (SN.se (sn_lst (sa_cons se_str (sa_cons se_str (sa_cons se_str sa_nil))))) so_none (so_some (se_op or_add re_add se_int (se_call (ok__law_next T B) (hr.mono (by decide)) T.m__law_next T.k__law_next T.b__law_next (takes_of rfl rfl rfl rfl) (sr_io 0 (sr_sh se_int sr_nil)))))))) (sg_name 2 sc__law_shape.nd) (sss_cons (ss_set 5 sc__law_shape.nd (se_op op_sub re_sub (se_call (ok__law_next T B) (hr.mono (by decide)) T.m__law_next T.k__law_next T.b__law_next (takes_of rfl rfl rfl rfl) (sr_io 0 (sr_sh se_int sr_nil))) se_int)) (sss_one (ss_app 1 (se_tup (sa_cons (se_v 2) (sa_cons (se_v 5) (sa_cons (se_op or_add re_add (se_v 5) (se_call (ok__law_next T B) (hr.mono (by decide)) T.m__law_next T.k__law_next T.b__law_next (takes_of rfl rfl rfl rfl) (sr_io 0 (sr_sh se_int sr_nil)))) (sa_cons (se_op or_add re_add se_int (se_call (ok__law_next T B) (hr.mono (by decide)) T.m__law_next T.k__law_next T.b__law_next (takes_of rfl rfl rfl rfl) (sr_io 0 (sr_sh se_int sr_nil)))) sa_nil))))))))) (sss_cons (ss_setN 3 sc__law_shape.nd (sn_lst sa_nil)) (sss_cons (ss_for [4] (passes_of rfl) rfl (si_r1 T.n_range (sa_cons (se_op or_add re_add se_int (se_call (ok__law_next T B) (hr.mono (by decide)) T.m__law_next T.k__law_next T.b__law_next (takes_of rfl rfl rfl rfl) (sr_io 0 (sr_sh se_int sr_nil)))) sa_nil)) (sg_name 4 sc__law_shape.nd) (sss_one (ss_app 3 (se_tup (sa_cons (se_ix (SN.se (sn_lst (sa_cons se_str (sa_cons se_str (sa_cons se_str (sa_cons se_str sa_nil)))))) (se_v 4)) (sa_cons (se_ix (SN.se (sn_lst (sa_cons se_str (sa_cons se_str (sa_cons se_str (sa_cons se_str sa_nil)))))) (se_op op_modN re_mod (sb_ty call_int1 re_int T.n_int (sa_cons (se_op or_add re_add (se_v 4) (se_call (ok__law_next T B) (hr.mono (by decide)) T.m__law_next T.k__law_next T.b__law_next (takes_of rfl rfl rfl rfl) (sr_io 0 (sr_sh se_int sr_nil)))) sa_nil)) se_int)) sa_nil)))))) (sss_one (ss_retN (sn_new T.mk_Shape (ok_Shape___init__ T B) (hr.mono (by decide)) T.cm_Shape T.b_Shape___init__ (sr_sh (se_tupO 1 T.n_tuple) (sr_sh (se_tupO 3 T.n_tuple) sr_nil)))))))))⟩
theorem ok__law_word (T : Txt P w K mg) (B : TxB T base) : FnOk P w K mg base (L2.CX P w) 2 T.f__law_word T.fd__law_word ["_law_state"] (SpM K mg 1 m__law_word) := by
  refine fn_m (k := 1) (N := N__law_word) (m := b__law_word) T.F__law_word sc__law_word ?_
  intro cdv A outer s H E hr
  unfold b__law_word
  exact ⟨_, (sss_one (ss_ret (se_join se_str (SN.se (sn_lc rfl sc__law_word.nd (si_r1 T.n_range (sa_cons (se_call (ok__law_next T B) (hr.mono (by decide)) T.m__law_next T.k__law_next T.b__law_next (takes_of rfl rfl rfl rfl) (sr_io 0 (sr_sh se_int sr_nil))) sa_nil)) (blkOk_by (own := [("_law_k", 1)]) (N := N__law_word) (sc := defScope s__law_word) (by decide +kernel)) (fun _ _ _ _ _ => (sg_name 1 sc__law_word.nd)) (fun _ _ _ _ _ => sts_nil) (fun _ _ _ _ _ => (se_ix se_str (se_call (ok__law_next T B) (hr.mono (by decide)) T.m__law_next T.k__law_next T.b__law_next takes0 (sr_io 0 (sr_sh se_int sr_nil))))) (by decide))))))⟩
theorem ok__law_number (T : Txt P w K mg) (B : TxB T base) : FnOk P w K mg base (L2.CX P w) 2 T.f__law_number T.fd__law_number ["_law_state"] (SpM K mg 1 m__law_number) := by
  refine fn_m (k := 1) (N := N__law_number) (m := b__law_number) T.F__law_number sc__law_number ?_
  intro cdv A outer s H E hr
  unfold b__law_number
  exact ⟨_, (sss_cons (ss_set 1 sc__law_number.nd (se_call (ok__law_next T B) (hr.mono (by decide)) T.m__law_next T.k__law_next T.b__law_next (takes_of rfl rfl rfl rfl) (sr_io 0 (sr_sh se_int sr_nil)))) (sss_cons (ss_if (st_cmp (op_eqD hr.units) re_eq (se_v 1) se_int) (sss_one (ss_ret (se_ix (SN.se (sn_lst (sa_cons (se_op op_sub re_sub (se_op op_pow re_pow se_int se_int) se_int) (sa_cons (se_op op_sub re_sub se_int (se_op op_pow re_pow se_int se_int)) (sa_cons (se_op op_pow re_pow se_int se_int) (sa_cons (se_op op_sub re_sub se_int (se_op op_pow re_pow se_int se_int)) (sa_cons (se_op op_pow re_pow se_int se_int) sa_nil))))))) (se_call (ok__law_next T B) (hr.mono (by decide)) T.m__law_next T.k__law_next T.b__law_next (takes_of rfl rfl rfl rfl) (sr_io 0 (sr_sh se_int sr_nil)))))) sss_nil) (sss_cons (ss_if (st_cmp (op_eqD hr.units) re_eq (se_v 1) se_int) (sss_one (ss_ret (se_op op_sub re_sub (se_op or_mul re_mul (se_call (ok__law_next T B) (hr.mono (by decide)) T.m__law_next T.k__law_next T.b__law_next (takes_of rfl rfl rfl rfl) (sr_io 0 (sr_sh (se_op op_shl re_shl se_int se_int) sr_nil))) (se_call (ok__law_next T B) (hr.mono (by decide)) T.m__law_next T.k__law_next T.b__law_next (takes_of rfl rfl rfl rfl) (sr_io 0 (sr_sh (se_op op_shl re_shl se_int se_int) sr_nil)))) (se_op op_shl re_shl se_int se_int)))) sss_nil) (sss_one (ss_ret (se_op op_sub re_sub (se_call (ok__law_next T B) (hr.mono (by decide)) T.m__law_next T.k__law_next T.b__law_next (takes_of rfl rfl rfl rfl) (sr_io 0 (sr_sh se_int sr_nil))) se_int))))))⟩
theorem ok__law_thing (T : Txt P w K mg) (B : TxB T base) : FnOk P w K mg base (L2.CX P w) 3 T.f__law_thing T.fd__law_thing ["_law_state", "_law_kind_here"] (SpM K mg 2 m__law_thing) := by
  refine fn_m (k := 2) (N := N__law_thing) (m := b__law_thing) T.F__law_thing sc__law_thing ?_
  intro cdv A outer s H E hr
  unfold b__law_thing
  exact ⟨_, (sss_cons (ss_if (st_cmp (op_eqD hr.units) re_eq (se_v 1) se_str) (sss_one (ss_ret (se_call (ok__law_number T B) (hr.mono (by decide)) T.m__law_number T.k__law_number T.b__law_number (takes_of rfl rfl rfl rfl) (sr_io 0 sr_nil)))) sss_nil) (sss_cons (ss_if (st_cmp (op_eqD hr.units) re_eq (se_v 1) se_str) (sss_one (ss_ret (se_cmp (op_eqD hr.units) re_eq (se_call (ok__law_next T B) (hr.mono (by decide)) T.m__law_next T.k__law_next T.b__law_next (takes_of rfl rfl rfl rfl) (sr_io 0 (sr_sh se_int sr_nil))) se_int))) sss_nil) (sss_cons (ss_if (st_cmp (op_eqD hr.units) re_eq (se_call (ok__law_next T B) (hr.mono (by decide)) T.m__law_next T.k__law_next T.b__law_next (takes_of rfl rfl rfl rfl) (sr_io 0 (sr_sh se_int sr_nil))) se_int) (sss_one (ss_ret (se_op or_mul re_mul (se_ix (SN.se (sn_lst (sa_cons se_str (sa_cons se_str (sa_cons se_str sa_nil))))) (se_call (ok__law_next T B) (hr.mono (by decide)) T.m__law_next T.k__law_next T.b__law_next (takes_of rfl rfl rfl rfl) (sr_io 0 (sr_sh se_int sr_nil)))) (se_ix (SN.se (sn_lst (sa_cons se_int (sa_cons se_int (sa_cons se_int sa_nil))))) (se_call (ok__law_next T B) (hr.mono (by decide)) T.m__law_next T.k__law_next T.b__law_next (takes_of rfl rfl rfl rfl) (sr_io 0 (sr_sh se_int sr_nil))))))) sss_nil) (sss_one (ss_ret (se_call (ok__law_word T B) (hr.mono (by decide)) T.m__law_word T.k__law_word T.b__law_word (takes_of rfl rfl rfl rfl) (sr_io 0 sr_nil)))))))⟩
theorem ok__law_leaf (T : Txt P w K mg) (B : TxB T base) : FnOk P w K mg base (L2.CX P w) 4 T.f__law_leaf T.fd__law_leaf ["_law_state", "_law_shape_here", "_law_kind_here"] (SpM K mg 3 m__law_leaf) := by
  refine fn_m (k := 3) (N := N__law_leaf) (m := b__law_leaf) T.F__law_leaf sc__law_leaf ?_
  intro cdv A outer s H E hr
  unfold b__law_leaf
  exact ⟨_, (sss_cons (ss_setLc rfl sc__law_leaf.nd rfl rfl (sw_true rfl rfl rfl (by decide +kernel)) (si_t (se_fld T.cm_Shape T.cl_Shape T.na_Shape_attrs (se_v 1))) (blkOk_by (own := [("_law_name", 5), ("_law_word_here", 6)]) (N := N__law_leaf) (sc := defScope s__law_leaf) (by decide +kernel)) (fun _ _ _ _ _ => (sg_tup rfl (sgs_cons (sg_name 5 sc__law_leaf.nd) (sgs_cons (sg_name 6 sc__law_leaf.nd) sgs_nil)))) (fun _ _ _ _ _ => (sts_one (st_cmp (op_eqD hr.units) re_eq (se_v 6) (se_v 2)))) (fun _ _ _ _ _ => (se_v 5)) (by decide)) (sss_cons (ss_set 4 sc__law_leaf.nd (se_call (ok__law_next T B) (hr.mono (by decide)) T.m__law_next T.k__law_next T.b__law_next (takes_of rfl rfl rfl rfl) (sr_io 0 (sr_sh se_int sr_nil)))) (sss_cons (ss_if (SW.st (sw_and (st_cmp or_lt re_ord (se_v 4) se_int) (sw_and1 (st_cmp or_gt re_ord (sb_cb call_len re_len T.n_len (sa_cons (se_v 3) sa_nil)) se_int)))) (sss_one (ss_ret (se_tup (sa_cons se_str (sa_cons (se_ix (se_v 3) (se_call (ok__law_next T B) (hr.mono (by decide)) T.m__law_next T.k__law_next T.b__law_next (takes_of rfl rfl rfl rfl) (sr_io 0 (sr_sh (sb_cb call_len re_len T.n_len (sa_cons (se_v 3) sa_nil)) sr_nil)))) sa_nil))))) sss_nil) (sss_cons (ss_if (SW.st (sw_and (st_cmp or_lt re_ord (se_v 4) se_int) (sw_and1 (st_cmp (op_eqD hr.units) re_eq (se_v 2) se_str)))) (sss_one (ss_ret (se_tup (sa_cons se_str (sa_cons (se_ix (se_ix (se_fld T.cm_Shape T.cl_Shape T.na_Shape_dims (se_v 1)) (se_call (ok__law_next T B) (hr.mono (by decide)) T.m__law_next T.k__law_next T.b__law_next (takes_of rfl rfl rfl rfl) (sr_io 0 (sr_sh (sb_cb call_len re_len T.n_len (sa_cons (se_fld T.cm_Shape T.cl_Shape T.na_Shape_dims (se_v 1)) sa_nil)) sr_nil)))) se_int) sa_nil))))) sss_nil) (sss_cons (ss_if (SW.st (sw_and (st_cmp (op_eqD hr.units) re_eq (se_v 4) se_int) (sw_and1 (st_cmp (op_eqD hr.units) re_eq (se_call (ok__law_next T B) (hr.mono (by decide)) T.m__law_next T.k__law_next T.b__law_next (takes_of rfl rfl rfl rfl) (sr_io 0 (sr_sh se_int sr_nil))) se_int)))) (sss_one (ss_ret (se_tup (sa_cons se_str (sa_cons (se_v 2) (sa_cons se_non sa_nil)))))) sss_nil) (sss_one (ss_ret (se_tup (sa_cons se_str (sa_cons (se_v 2) (sa_cons (se_call (ok__law_thing T B) (hr.mono (by decide)) T.m__law_thing T.k__law_thing T.b__law_thing (takes_of rfl rfl rfl rfl) (sr_io 0 (sr_sh (se_v 2) sr_nil))) sa_nil)))))))))))⟩
theorem oks__law_expression (T : Txt P w K mg) (B : TxB T base) : ∀ n : Nat, FnOk P w K mg base (L2.CX P w) (4 + n) T.f__law_expression T.fd__law_expression ["_law_state", "_law_shape_here", "_law_kind_here", "_law_depth"] (SpM K mg 4 (m__law_expression n)) ∧ FnOk P w K mg base (L2.CX P w) (4 + n) T.f__law_flag T.fd__law_flag ["_law_state", "_law_shape_here", "_law_depth"] (SpM K mg 3 (m__law_flag n))
  | 0 => ⟨fn_stuck, fn_stuck⟩
  | n + 1 => by
    have ih := oks__law_expression T B n
    have ih__law_expression := ih.1
    have ih__law_flag := ih.2
    have g__law_expression : FnOk P w K mg base (L2.CX P w) (4 + (n + 1)) T.f__law_expression T.fd__law_expression ["_law_state", "_law_shape_here", "_law_kind_here", "_law_depth"] (SpM K mg 4 (m__law_expression (n + 1))) := by
      refine fn_m (k := 4 + n) (N := N__law_expression) (m := b__law_expression (m__law_expression n) (m__law_flag n)) T.F__law_expression sc__law_expression ?_
      intro cdv A outer s H E hr
      unfold b__law_expression
      exact ⟨_, (sss_cons (ss_set 4 sc__law_expression.nd (se_call (ok__law_next T B) (hr.mono (by omega)) T.m__law_next T.k__law_next T.b__law_next (takes_of rfl rfl rfl rfl) (sr_io 0 (sr_sh se_int sr_nil)))) (sss_cons (ss_if (SW.st (sw_or (st_cmp or_le re_ord (se_v 3) se_int) (sw_or1 (st_cmp (op_eqD hr.units) re_eq (se_v 4) se_int)))) (sss_one (ss_ret (se_call (ok__law_leaf T B) (hr.mono (by omega)) T.m__law_leaf T.k__law_leaf T.b__law_leaf (takes_of rfl rfl rfl rfl) (sr_io 0 (sr_sh (se_v 1) (sr_sh (se_v 2) sr_nil)))))) sss_nil) (sss_cons (ss_if (st_cmp (op_eqD hr.units) re_eq (se_v 4) se_int) (sss_cons (ss_set 6 sc__law_expression.nd (se_tup (sa_cons (se_call ih__law_expression (hr.mono (by omega)) T.m__law_expression T.k__law_expression T.b__law_expression (takes_of rfl rfl rfl rfl) (sr_io 0 (sr_sh (se_v 1) (sr_sh (se_v 2) (sr_sh (se_op op_sub re_sub (se_v 3) se_int) sr_nil))))) (sa_cons (se_call ih__law_expression (hr.mono (by omega)) T.m__law_expression T.k__law_expression T.b__law_expression (takes_of rfl rfl rfl rfl) (sr_io 0 (sr_sh (se_v 1) (sr_sh (se_v 2) (sr_sh (se_op op_sub re_sub (se_v 3) se_int) sr_nil))))) sa_nil)))) (sss_one (ss_ret (se_op or_add re_add (se_tup (sa_cons se_str (sa_cons (se_call ih__law_expression (hr.mono (by omega)) T.m__law_expression T.k__law_expression T.b__law_expression (takes_of rfl rfl rfl rfl) (sr_io 0 (sr_sh (se_v 1) (sr_sh se_str (sr_sh (se_op op_sub re_sub (se_v 3) se_int) sr_nil))))) sa_nil))) (se_v 6))))) sss_nil) (sss_cons (ss_if (st_cmp (op_eqD hr.units) re_eq (se_v 4) se_int) (sss_one (ss_ret (se_tup (sa_cons se_str (sa_cons (se_call ih__law_expression (hr.mono (by omega)) T.m__law_expression T.k__law_expression T.b__law_expression (takes_of rfl rfl rfl rfl) (sr_io 0 (sr_sh (se_v 1) (sr_sh (se_v 2) (sr_sh (se_op op_sub re_sub (se_v 3) se_int) sr_nil))))) (sa_cons (se_call ih__law_expression (hr.mono (by omega)) T.m__law_expression T.k__law_expression T.b__law_expression (takes_of rfl rfl rfl rfl) (sr_io 0 (sr_sh (se_v 1) (sr_sh (se_v 2) (sr_sh (se_op op_sub re_sub (se_v 3) se_int) sr_nil))))) sa_nil)))))) sss_nil) (sss_cons (ss_if (st_cmp (op_eqD hr.units) re_eq (se_v 2) se_str) (sss_one (ss_ret (se_call ih__law_flag (hr.mono (by omega)) T.m__law_flag T.k__law_flag T.b__law_flag (takes_of rfl rfl rfl rfl) (sr_io 0 (sr_sh (se_v 1) (sr_sh (se_v 3) sr_nil)))))) sss_nil) (sss_cons (ss_if (st_cmp (op_eqD hr.units) re_eq (se_v 2) se_str) (sss_one (ss_ret (se_tup (sa_cons se_str (sa_cons (se_call ih__law_expression (hr.mono (by omega)) T.m__law_expression T.k__law_expression T.b__law_expression (takes_of rfl rfl rfl rfl) (sr_io 0 (sr_sh (se_v 1) (sr_sh (se_v 2) (sr_sh (se_op op_sub re_sub (se_v 3) se_int) sr_nil))))) (sa_cons (se_call ih__law_expression (hr.mono (by omega)) T.m__law_expression T.k__law_expression T.b__law_expression (takes_of rfl rfl rfl rfl) (sr_io 0 (sr_sh (se_v 1) (sr_sh (se_v 2) (sr_sh (se_op op_sub re_sub (se_v 3) se_int) sr_nil))))) sa_nil)))))) sss_nil) (sss_cons (ss_if (st_cmp (op_eqD hr.units) re_eq (se_v 4) se_int) (sss_one (ss_ret (se_tup (sa_cons se_str (sa_cons (se_call ih__law_expression (hr.mono (by omega)) T.m__law_expression T.k__law_expression T.b__law_expression (takes_of rfl rfl rfl rfl) (sr_io 0 (sr_sh (se_v 1) (sr_sh se_str (sr_sh (se_op op_sub re_sub (se_v 3) se_int) sr_nil))))) sa_nil))))) sss_nil) (sss_cons (ss_if (st_cmp (op_eqD hr.units) re_eq (se_v 4) se_int) (sss_one (ss_ret (se_tup (sa_cons (se_ix (SN.se (sn_lst (sa_cons se_str (sa_cons se_str sa_nil)))) (se_call (ok__law_next T B) (hr.mono (by omega)) T.m__law_next T.k__law_next T.b__law_next (takes_of rfl rfl rfl rfl) (sr_io 0 (sr_sh se_int sr_nil)))) (sa_cons (se_call ih__law_expression (hr.mono (by omega)) T.m__law_expression T.k__law_expression T.b__law_expression (takes_of rfl rfl rfl rfl) (sr_io 0 (sr_sh (se_v 1) (sr_sh (se_v 2) (sr_sh (se_op op_sub re_sub (se_v 3) se_int) sr_nil))))) sa_nil))))) sss_nil) (sss_cons (ss_set 5 sc__law_expression.nd (se_ix (SN.se (sn_lst (sa_cons se_str (sa_cons se_str (sa_cons se_str (sa_cons se_str (sa_cons se_str sa_nil))))))) (se_call (ok__law_next T B) (hr.mono (by omega)) T.m__law_next T.k__law_next T.b__law_next (takes_of rfl rfl rfl rfl) (sr_io 0 (sr_sh se_int sr_nil))))) (sss_one (ss_ret (se_tup (sa_cons (se_v 5) (sa_cons (se_call ih__law_expression (hr.mono (by omega)) T.m__law_expression T.k__law_expression T.b__law_expression (takes_of rfl rfl rfl rfl) (sr_io 0 (sr_sh (se_v 1) (sr_sh (se_v 2) (sr_sh (se_op op_sub re_sub (se_v 3) se_int) sr_nil))))) (sa_cons (se_call ih__law_expression (hr.mono (by omega)) T.m__law_expression T.k__law_expression T.b__law_expression (takes_of rfl rfl rfl rfl) (sr_io 0 (sr_sh (se_v 1) (sr_sh (se_v 2) (sr_sh (se_op op_sub re_sub (se_v 3) se_int) sr_nil))))) sa_nil)))))))))))))))⟩
    have g__law_flag : FnOk P w K mg base (L2.CX P w) (4 + (n + 1)) T.f__law_flag T.fd__law_flag ["_law_state", "_law_shape_here", "_law_depth"] (SpM K mg 3 (m__law_flag (n + 1))) := by
      refine fn_m (k := 4 + n) (N := N__law_flag) (m := b__law_flag (m__law_expression n) (m__law_flag n)) T.F__law_flag sc__law_flag ?_
      intro cdv A outer s H E hr
      unfold b__law_flag
      exact ⟨_, (sss_cons (ss_set 3 sc__law_flag.nd (se_call (ok__law_next T B) (hr.mono (by omega)) T.m__law_next T.k__law_next T.b__law_next (takes_of rfl rfl rfl rfl) (sr_io 0 (sr_sh se_int sr_nil)))) (sss_cons (ss_if (st_cmp (op_eqD hr.units) re_eq (se_v 3) se_int) (sss_one (ss_ret (se_tup (sa_cons se_str (sa_cons (se_call ih__law_expression (hr.mono (by omega)) T.m__law_expression T.k__law_expression T.b__law_expression (takes_of rfl rfl rfl rfl) (sr_io 0 (sr_sh (se_v 1) (sr_sh se_str (sr_sh (se_op op_sub re_sub (se_v 2) se_int) sr_nil))))) sa_nil))))) sss_nil) (sss_cons (ss_if (st_cmp (op_eqD hr.units) re_eq (se_v 3) se_int) (sss_one (ss_ret (se_tup (sa_cons se_str (sa_cons (se_call ih__law_expression (hr.mono (by omega)) T.m__law_expression T.k__law_expression T.b__law_expression (takes_of rfl rfl rfl rfl) (sr_io 0 (sr_sh (se_v 1) (sr_sh (se_ix (SN.se (sn_lst (sa_cons se_str (sa_cons se_str (sa_cons se_str sa_nil))))) (se_call (ok__law_next T B) (hr.mono (by omega)) T.m__law_next T.k__law_next T.b__law_next (takes_of rfl rfl rfl rfl) (sr_io 0 (sr_sh se_int sr_nil)))) (sr_sh (se_op op_sub re_sub (se_v 2) se_int) sr_nil))))) sa_nil))))) sss_nil) (sss_cons (ss_if (st_cmp or_lt re_ord (se_v 3) se_int) (sss_cons (ss_set 5 sc__law_flag.nd (se_ix (SN.se (sn_lst (sa_cons se_str (sa_cons se_str sa_nil)))) (se_op op_sub re_sub (se_v 3) se_int))) (sss_one (ss_ret (se_tup (sa_cons (se_v 5) (sa_cons (se_call ih__law_expression (hr.mono (by omega)) T.m__law_expression T.k__law_expression T.b__law_expression (takes_of rfl rfl rfl rfl) (sr_io 0 (sr_sh (se_v 1) (sr_sh se_str (sr_sh (se_op op_sub re_sub (se_v 2) se_int) sr_nil))))) (sa_cons (se_call ih__law_expression (hr.mono (by omega)) T.m__law_expression T.k__law_expression T.b__law_expression (takes_of rfl rfl rfl rfl) (sr_io 0 (sr_sh (se_v 1) (sr_sh se_str (sr_sh (se_op op_sub re_sub (se_v 2) se_int) sr_nil))))) sa_nil))))))) sss_nil) (sss_cons (ss_set 4 sc__law_flag.nd (se_ix (SN.se (sn_lst (sa_cons se_str (sa_cons se_str (sa_cons se_str (sa_cons se_str (sa_cons se_str sa_nil))))))) (se_call (ok__law_next T B) (hr.mono (by omega)) T.m__law_next T.k__law_next T.b__law_next (takes_of rfl rfl rfl rfl) (sr_io 0 (sr_sh se_int sr_nil))))) (sss_cons (ss_set 5 sc__law_flag.nd (se_ix (SN.se (sn_lst (sa_cons se_str (sa_cons se_str (sa_cons se_str (sa_cons se_str (sa_cons se_str (sa_cons se_str sa_nil)))))))) (se_call (ok__law_next T B) (hr.mono (by omega)) T.m__law_next T.k__law_next T.b__law_next (takes_of rfl rfl rfl rfl) (sr_io 0 (sr_sh se_int sr_nil))))) (sss_one (ss_ret (se_tup (sa_cons (se_v 5) (sa_cons (se_call ih__law_expression (hr.mono (by omega)) T.m__law_expression T.k__law_expression T.b__law_expression (takes_of rfl rfl rfl rfl) (sr_io 0 (sr_sh (se_v 1) (sr_sh (se_v 4) (sr_sh (se_op op_sub re_sub (se_v 2) se_int) sr_nil))))) (sa_cons (se_call ih__law_expression (hr.mono (by omega)) T.m__law_expression T.k__law_expression T.b__law_expression (takes_of rfl rfl rfl rfl) (sr_io 0 (sr_sh (se_v 1) (sr_sh (se_v 4) (sr_sh (se_op op_sub re_sub (se_v 2) se_int) sr_nil))))) sa_nil))))))))))))⟩
    exact ⟨g__law_expression, g__law_flag⟩
theorem ok__law_expression (T : Txt P w K mg) (B : TxB T base) (n : Nat) : FnOk P w K mg base (L2.CX P w) (4 + n) T.f__law_expression T.fd__law_expression ["_law_state", "_law_shape_here", "_law_kind_here", "_law_depth"] (SpM K mg 4 (m__law_expression n)) := (oks__law_expression T B n).1
theorem ok__law_flag (T : Txt P w K mg) (B : TxB T base) (n : Nat) : FnOk P w K mg base (L2.CX P w) (4 + n) T.f__law_flag T.fd__law_flag ["_law_state", "_law_shape_here", "_law_depth"] (SpM K mg 3 (m__law_flag n)) := (oks__law_expression T B n).2
theorem ok__kind_from (T : Txt P w K mg) (B : TxB T base) : FnOk P w K mg base (L2.CX P w) 1 T.f__kind_from T.fd__kind_from ["word", "kinds"] (SpM K mg 2 m__kind_from) := by
  refine fn_mC (k := 0) (N := N__kind_from) (m := b__kind_from) T.F__kind_from sc__kind_from ?_
  intro A outer s H E hr
  unfold b__kind_from
  exact ⟨_, (sss_cons (ss_if (st_cmp (op_eqD hr.units) re_eq (se_v 0) se_str) (sss_one (ss_ret se_str)) sss_nil) (sss_cons (ss_if (st_inG T.gd_PARTS_KIND T.cg_PARTS_KIND (se_v 0)) (sss_one (ss_ret (se_if (st_val (se_allK 0 hr T.n_all B.tb__kind_from B.in__kind_from (by rfl) (by exact genf_by (sc := defScope s__kind_from) rfl rfl (by decide +kernel) rfl rfl) T.gd_PARTS_KIND T.cg_PARTS_KIND (se_v 1))) (se_ixG T.gd_RESULT_KIND T.cg_RESULT_KIND (se_v 0)) se_non))) sss_nil) (sss_cons (ss_if (st_cmp or_in re_in (se_v 0) (se_gr T.c_ARITHMETIC T.r_ARITHMETIC)) (sss_one (ss_ret (se_if (st_cmp (op_eqD hr.units) re_eq (se_v 1) (SN.se (sn_lst (sa_cons se_str (sa_cons se_str sa_nil))))) se_str se_non))) sss_nil) (sss_cons (ss_if (st_cmp (op_eqD hr.units) re_eq (se_v 0) se_str) (sss_one (ss_ret (se_if (SW.st (sw_and (st_cmp (op_eqD hr.units) re_eq (se_ix (se_v 1) se_int) se_str) (sw_and1 (st_cmp (op_eqD hr.units) re_eq (se_ix (se_v 1) se_int) (se_ix (se_v 1) se_int))))) (se_ix (se_v 1) se_int) se_non))) sss_nil) (sss_cons (ss_if (st_cmp (op_neD hr.units) re_ne (se_ix (se_v 1) se_int) (se_ix (se_v 1) se_int)) (sss_one (ss_ret se_non)) sss_nil) (sss_one (ss_ret (se_if (st_cmp or_in re_in (se_v 0) (se_gr T.c_COMPARISONS T.r_COMPARISONS)) se_str (se_ix (se_v 1) se_int)))))))))⟩
theorem ok__index_of (T : Txt P w K mg) (B : TxB T base) : FnOk P w K mg base (L2.CX P w) 1 T.f__index_of T.fd__index_of ["rows", "name"] (SpM K mg 2 m__index_of) := by
  refine fn_m (k := 0) (N := N__index_of) (m := b__index_of) T.F__index_of sc__index_of ?_
  intro cdv A outer s H E hr
  unfold b__index_of
  exact ⟨_, (sss_cons (ss_for [2] (passes_of rfl) rfl (si_r1 T.n_range (sa_cons (sb_cb call_len re_len T.n_len (sa_cons (se_v 0) sa_nil)) sa_nil)) (sg_name 2 sc__index_of.nd) (sss_one (ss_if (st_cmp (op_eqD hr.units) re_eq (se_ix (se_ix (se_v 0) (se_v 2)) se_int) (se_v 1)) (sss_one (ss_ret (se_v 2))) sss_nil))) (sss_one (ss_ret se_non)))⟩
theorem ok_attr_index (T : Txt P w K mg) (B : TxB T base) : FnOk P w K mg base (L2.CX P w) 2 T.f_attr_index T.fd_attr_index ["shape", "name"] (SpM K mg 2 m_attr_index) := by
  refine fn_m (k := 1) (N := N_attr_index) (m := b_attr_index) T.F_attr_index sc_attr_index ?_
  intro cdv A outer s H E hr
  unfold b_attr_index
  exact ⟨_, (sss_one (ss_ret (se_call (ok__index_of T B) (hr.mono (by decide)) T.m__index_of T.k__index_of T.b__index_of (takes_of rfl rfl rfl rfl) (sr_sh (se_fld T.cm_Shape T.cl_Shape T.na_Shape_attrs (se_v 0)) (sr_sh (se_v 1) sr_nil)))))⟩
theorem ok_is_text (T : Txt P w K mg) (B : TxB T base) : FnOk P w K mg base (L2.CX P w) 1 T.f_is_text T.fd_is_text ["text"] (SpM K mg 1 m_is_text) := by
  refine fn_m (k := 0) (N := N_is_text) (m := b_is_text) T.F_is_text sc_is_text ?_
  intro cdv A outer s H E hr
  unfold b_is_text
  exact ⟨_, (sss_cons (ss_for [1] (passes_of rfl) rfl (si_s (se_v 0)) (sg_name 1 sc_is_text.nd) (sss_one (ss_if (SW.st (sw_and (st_cmp or_notIn re_notIn (se_v 1) (se_gs T.c_BEFORE)) (sw_and (st_cmp or_notIn re_notIn (se_v 1) (se_gs T.c_BEHIND)) (sw_and1 (st_cmp (op_neD hr.units) re_ne (se_v 1) se_str))))) (sss_one (ss_ret se_bl)) sss_nil))) (sss_one (ss_ret se_bl)))⟩
theorem ok_is_integer (T : Txt P w K mg) (B : TxB T base) : FnOk P w K mg base (L2.CX P w) 1 T.f_is_integer T.fd_is_integer ["value"] (SpM K mg 1 m_is_integer) := by
  refine fn_m (k := 0) (N := N_is_integer) (m := b_is_integer) T.F_is_integer sc_is_integer ?_
  intro cdv A outer s H E hr
  unfold b_is_integer
  exact ⟨_, (sss_one (ss_ret (se_and (se_isi "int" (se_v 0) T.n_isinstance T.n_int (by decide +kernel)) (se_one (se_not (se_isi "bool" (se_v 0) T.n_isinstance T.n_bool (by decide +kernel)))))))⟩
theorem ok_is_value (T : Txt P w K mg) (B : TxB T base) : FnOk P w K mg base (L2.CX P w) 2 T.f_is_value T.fd_is_value ["kind", "value"] (SpM K mg 2 m_is_value) := by
  refine fn_m (k := 1) (N := N_is_value) (m := b_is_value) T.F_is_value sc_is_value ?_
  intro cdv A outer s H E hr
  unfold b_is_value
  exact ⟨_, (sss_cons (ss_if (st_cmp (op_eqD hr.units) re_eq (se_v 0) se_str) (sss_one (ss_ret (se_and (se_call (ok_is_integer T B) (hr.mono (by decide)) T.m_is_integer T.k_is_integer T.b_is_integer (takes_of rfl rfl rfl rfl) (sr_sh (se_v 1) sr_nil)) (se_one (se_chain or_lt re_ord or_lt re_ord (se_un un_neg re_neg (se_gi T.c_BOUND)) (se_v 1) (se_gi T.c_BOUND)))))) sss_nil) (sss_cons (ss_if (st_cmp (op_eqD hr.units) re_eq (se_v 0) se_str) (sss_one (ss_ret (se_isi "bool" (se_v 1) T.n_isinstance T.n_bool (by decide +kernel)))) sss_nil) (sss_one (ss_ret (se_and (se_isi "str" (se_v 1) T.n_isinstance T.n_str (by decide +kernel)) (se_and (se_cmp or_le re_ord (sb_cb call_len re_len T.n_len (sa_cons (se_v 1) sa_nil)) (se_gi T.c_LONGEST)) (se_one (se_call (ok_is_text T B) (hr.mono (by decide)) T.m_is_text T.k_is_text T.b_is_text (takes_of rfl rfl rfl rfl) (sr_sh (se_v 1) sr_nil)))))))))⟩
theorem ok_dim_index (T : Txt P w K mg) (B : TxB T base) : FnOk P w K mg base (L2.CX P w) 2 T.f_dim_index T.fd_dim_index ["shape", "name"] (SpM K mg 2 m_dim_index) := by
  refine fn_m (k := 1) (N := N_dim_index) (m := b_dim_index) T.F_dim_index sc_dim_index ?_
  intro cdv A outer s H E hr
  unfold b_dim_index
  exact ⟨_, (sss_one (ss_ret (se_call (ok__index_of T B) (hr.mono (by decide)) T.m__index_of T.k__index_of T.b__index_of (takes_of rfl rfl rfl rfl) (sr_sh (se_fld T.cm_Shape T.cl_Shape T.na_Shape_dims (se_v 0)) (sr_sh (se_v 1) sr_nil)))))⟩
theorem ok_Checker_leaf (T : Txt P w K mg) (B : TxB T base) : FnOk P w K mg base (L2.CX P w) 4 T.f_Checker_leaf T.fd_Checker_leaf ["self", "expression", "number"] (SpM K mg 3 m_Checker_leaf) := by
  refine fn_m (k := 3) (N := N_Checker_leaf) (m := b_Checker_leaf) T.F_Checker_leaf sc_Checker_leaf ?_
  intro cdv A outer s H E hr
  unfold b_Checker_leaf
  exact ⟨_, (sss_cons (ss_set 3 sc_Checker_leaf.nd se_non) (sss_cons (ss_if (st_cmp (op_eqD hr.units) re_eq (se_ix (se_v 1) se_int) se_str) (sss_cons (ss_asg (se_sl (se_v 1) (so_some se_int) so_none) (sg_tup rfl (sgs_cons (sg_name 4 sc_Checker_leaf.nd) (sgs_cons (sg_name 5 sc_Checker_leaf.nd) sgs_nil)))) (sss_one (ss_if (SW.st (sw_and (st_cmp or_in re_in (se_v 4) (se_gr T.c_KINDS T.r_KINDS)) (sw_and1 (SW.st (sw_or (st_isN (se_v 5)) (sw_or1 (st_val (se_call (ok_is_value T B) (hr.mono (by decide)) T.m_is_value T.k_is_value T.b_is_value (takes_of rfl rfl rfl rfl) (sr_sh (se_v 4) (sr_sh (se_v 5) sr_nil)))))))))) (sss_one (ss_set 3 sc_Checker_leaf.nd (se_v 4))) sss_nil))) (sss_one (ss_if (st_cmp (op_eqD hr.units) re_eq (se_ix (se_v 1) se_int) se_str) (sss_cons (ss_set 6 sc_Checker_leaf.nd (se_call (ok_attr_index T B) (hr.mono (by decide)) T.m_attr_index T.k_attr_index T.b_attr_index (takes_of rfl rfl rfl rfl) (sr_sh (se_fldO 0 T.cm_Checker T.cl_Checker T.na_Checker_shape) (sr_sh (se_ix (se_v 1) se_int) sr_nil)))) (sss_one (ss_set 3 sc_Checker_leaf.nd (se_if (st_isN (se_v 6)) se_non (se_ix (se_ix (se_fld T.cm_Shape T.cl_Shape T.na_Shape_attrs (se_fldO 0 T.cm_Checker T.cl_Checker T.na_Checker_shape)) (se_v 6)) se_int))))) (sss_one (ss_if (st_notN (se_call (ok_dim_index T B) (hr.mono (by decide)) T.m_dim_index T.k_dim_index T.b_dim_index (takes_of rfl rfl rfl rfl) (sr_sh (se_fldO 0 T.cm_Checker T.cl_Checker T.na_Checker_shape) (sr_sh (se_ix (se_v 1) se_int) sr_nil)))) (sss_one (ss_set 3 sc_Checker_leaf.nd se_str)) sss_nil))))) (sss_cons (ss_if (st_isN (se_v 3)) (sss_one (ss_ex (ss_raise rfl (takes_of rfl rfl rfl rfl) (hr.mono (by omega)) "InvalidQuery" (exi_InvalidQuery T) (se_v 2)))) sss_nil) (sss_one (ss_ret (se_v 3))))))⟩
theorem oks_Checker_kind (T : Txt P w K mg) (B : TxB T base) : ∀ n : Nat, FnOk P w K mg base (L2.CX P w) (4 + n) T.f_Checker_kind T.fd_Checker_kind ["self", "expression"] (SpM K mg 2 (m_Checker_kind n))
  | 0 => fn_stuck
  | n + 1 => by
    have ih := oks_Checker_kind T B n
    have ih_Checker_kind := ih
    have g_Checker_kind : FnOk P w K mg base (L2.CX P w) (4 + (n + 1)) T.f_Checker_kind T.fd_Checker_kind ["self", "expression"] (SpM K mg 2 (m_Checker_kind (n + 1))) := by
      refine fn_m (k := 4 + n) (N := N_Checker_kind) (m := b_Checker_kind (m_Checker_kind n)) T.F_Checker_kind sc_Checker_kind ?_
      intro cdv A outer s H E hr
      unfold b_Checker_kind
      exact ⟨_, (sss_cons (ss_set 2 sc_Checker_kind.nd (se_fldO 0 T.cm_Checker T.cl_Checker T.na_Checker_count)) (sss_cons (ss_faugP 0 T.cm_Checker T.cl_Checker T.na_Checker_count se_int) (sss_cons (ss_if (st_cmp or_in re_in (se_ix (se_v 1) se_int) (se_gr T.c_LEAVES T.r_LEAVES)) (sss_one (ss_ret (se_methO 0 T.cm_Checker T.cl_Checker T.me_Checker_leaf (ok_Checker_leaf T B) (hr.mono (by omega)) T.b_Checker_leaf (takes_of rfl rfl rfl rfl) (sr_sh (se_v 1) (sr_sh (se_v 2) sr_nil))))) sss_nil) (sss_cons (ss_setLcX rfl rfl (takes_of rfl rfl rfl rfl) rfl sc_Checker_kind.nd rfl rfl (sw_true rfl rfl rfl (by decide +kernel)) (si_t (se_sl (se_v 1) (so_some se_int) so_none)) (blkOk_by (own := [("part", 5)]) (N := N_Checker_kind) (sc := defScope s_Checker_kind) (by decide +kernel)) (fun _ _ _ _ _ _ => (sg_name 5 sc_Checker_kind.nd)) (fun _ _ _ _ _ _ => sts_nil) (fun _ _ _ _ _ _ _ tkb => (se_methO 0 T.cm_Checker T.cl_Checker T.me_Checker_kind ih_Checker_kind (hr.mono (by omega)) T.b_Checker_kind tkb (sr_sh (se_v 5) sr_nil))) (by decide)) (sss_cons (ss_set 4 sc_Checker_kind.nd (se_call (ok__kind_from T B) (hr.mono (by omega)) T.m__kind_from T.k__kind_from T.b__kind_from (takes_of rfl rfl rfl rfl) (sr_sh (se_ix (se_v 1) se_int) (sr_sh (se_v 3) sr_nil)))) (sss_cons (ss_if (st_isN (se_v 4)) (sss_one (ss_ex (ss_raise rfl (takes_of rfl rfl rfl rfl) (hr.mono (by omega)) "InvalidQuery" (exi_InvalidQuery T) (se_v 2)))) sss_nil) (sss_one (ss_ret (se_v 4)))))))))⟩
    exact g_Checker_kind
theorem ok_Checker_kind (T : Txt P w K mg) (B : TxB T base) (n : Nat) : FnOk P w K mg base (L2.CX P w) (4 + n) T.f_Checker_kind T.fd_Checker_kind ["self", "expression"] (SpM K mg 2 (m_Checker_kind n)) := (oks_Checker_kind T B n)
theorem ok_Checker___init__ (T : Txt P w K mg) (B : TxB T base) : FnOk P w K mg base (L2.CX P w) 1 T.f_Checker___init__ T.fd_Checker___init__ ["self", "shape"] (SpM K mg 2 m_Checker___init__) := by
  refine fn_m (k := 0) (N := N_Checker___init__) (m := b_Checker___init__) T.F_Checker___init__ sc_Checker___init__ ?_
  intro cdv A outer s H E hr
  unfold b_Checker___init__
  exact ⟨_, (sss_cons (ss_fput 0 T.cm_Checker T.cl_Checker T.na_Checker_shape (se_v 1)) (sss_one (ss_fput 0 T.cm_Checker T.cl_Checker T.na_Checker_count se_int)))⟩
theorem ok_kind_of (T : Txt P w K mg) (B : TxB T base) : FnOk P w K mg base (L2.CX P w) 17 T.f_kind_of T.fd_kind_of ["expression", "shape"] (SpM K mg 2 m_kind_of) := by
  refine fn_m (k := 16) (N := N_kind_of) (m := b_kind_of) T.F_kind_of sc_kind_of ?_
  intro cdv A outer s H E hr
  unfold b_kind_of
  exact ⟨_, (sss_one (ss_ret (se_methN T.cm_Checker T.cl_Checker T.me_Checker_kind (ok_Checker_kind T B 12) (hr.mono (by decide)) T.b_Checker_kind (takes_of rfl rfl rfl rfl) (sn_new T.mk_Checker (ok_Checker___init__ T B) (hr.mono (by decide)) T.cm_Checker T.b_Checker___init__ (sr_sh (se_v 1) sr_nil)) (sr_sh (se_v 0) sr_nil))))⟩
theorem ok__law_told (T : Txt P w K mg) (B : TxB T base) : FnOk P w K mg base (L2.CX P w) 18 T.f__law_told T.fd__law_told ["_law_expression_here", "_law_shape_here"] (SpM K mg 2 m__law_told) := by
  refine fn_m (k := 17) (N := N__law_told) (m := b__law_told) T.F__law_told sc__law_told ?_
  intro cdv A outer s H E hr
  unfold b__law_told
  exact ⟨_, (sss_one (ss_try_as2 (takes_of rfl rfl rfl rfl) (by exact ⟨rfl, by decide, .inl T.cm_ManysidesError⟩) tb_ManysidesError (htb_ManysidesError T) (fun W1 pn1 xe1 tk1 po1 => (sss_one (ss_ret (se_tup (sa_cons se_str (sa_cons (se_call (ok_kind_of T B) (hr.mono (by decide)) T.m_kind_of T.k_kind_of T.b_kind_of tk1 (sr_sh (se_v 0) (sr_sh (se_v 1) sr_nil))) sa_nil)))))) (fun a oe cls d pn hz hf dd y hy => (ssj_ifret (SWJ.st (swj_or (stj_not (stj_val (sej_is (i := 2) (c := .ref T.C_InvalidQuery) ti_InvalidQuery hz hf (erk_ManysidesError T _ _ hy) T.n_isinstance ⟨.inl T.cm_InvalidQuery, rfl⟩ (fun _ h => h) (hti_InvalidQuery T)))) (swj_or (stj_val (sej_is (i := 2) (c := .ref T.C_InvalidWords) ti_InvalidWords hz hf (erk_ManysidesError T _ _ hy) T.n_isinstance ⟨.inl T.cm_InvalidWords, rfl⟩ (fun _ h => h) (hti_InvalidWords T))) (swj_or1 (stj_cmp (r := rNeD K) (op_neD hr.units) re_ne (sej_name (i := 2) hz hf (erk_ManysidesError T _ _ hy)) (SE.j se_str)))))) (ssj_one (ssj_ret (SE.j (se_tup (sa_cons se_str (sa_cons se_int sa_nil)))))) mRet_nn (ssj_one (ssj_ret (sej_tup (saj_cons (SE.j se_str) (saj_cons (sej_place (i := 2) hz hf (erk_ManysidesError T _ _ hy)) (SA.j sa_nil)))))))) ⟨"InvalidQuery", 0⟩ rfl sc__law_told.nd))⟩
theorem oks__law_count (T : Txt P w K mg) (B : TxB T base) : ∀ n : Nat, FnOk P w K mg base (L2.CX P w) (0 + n) T.f__law_count T.fd__law_count ["_law_expression_here"] (SpM K mg 1 (m__law_count n))
  | 0 => fn_stuck
  | n + 1 => by
    have ih := oks__law_count T B n
    have ih__law_count := ih
    have g__law_count : FnOk P w K mg base (L2.CX P w) (0 + (n + 1)) T.f__law_count T.fd__law_count ["_law_expression_here"] (SpM K mg 1 (m__law_count (n + 1))) := by
      refine fn_m (k := 0 + n) (N := N__law_count) (m := b__law_count (m__law_count n)) T.F__law_count sc__law_count ?_
      intro cdv A outer s H E hr
      unfold b__law_count
      exact ⟨_, (sss_cons (ss_if (st_cmp or_in re_in (se_ix (se_v 0) se_int) (SN.se (sn_lst (sa_cons se_str (sa_cons se_str (sa_cons se_str sa_nil)))))) (sss_one (ss_ret se_int)) sss_nil) (sss_one (ss_ret (se_op or_add re_add se_int (sb_cb (cr_sum rfl) re_sum T.n_sum (sa_cons (SN.se (sn_lc rfl sc__law_count.nd (si_t (se_sl (se_v 0) (so_some se_int) so_none)) (blkOk_by (own := [("_law_part", 1)]) (N := N__law_count) (sc := defScope s__law_count) (by decide +kernel)) (fun _ _ _ _ _ => (sg_name 1 sc__law_count.nd)) (fun _ _ _ _ _ => sts_nil) (fun _ _ _ _ _ => (se_call ih__law_count (hr.mono (by omega)) T.m__law_count T.k__law_count T.b__law_count takes0 (sr_sh (se_v 1) sr_nil))) (by decide))) sa_nil))))))⟩
    exact g__law_count
theorem ok__law_count (T : Txt P w K mg) (B : TxB T base) (n : Nat) : FnOk P w K mg base (L2.CX P w) (0 + n) T.f__law_count T.fd__law_count ["_law_expression_here"] (SpM K mg 1 (m__law_count n)) := (oks__law_count T B n)
theorem oks__law_replaced (T : Txt P w K mg) (B : TxB T base) : ∀ n : Nat, FnOk P w K mg base (L2.CX P w) (12 + n) T.f__law_replaced T.fd__law_replaced ["_law_expression_here", "_law_number_here", "_law_new"] (SpM K mg 3 (m__law_replaced n))
  | 0 => fn_stuck
  | n + 1 => by
    have ih := oks__law_replaced T B n
    have ih__law_replaced := ih
    have g__law_replaced : FnOk P w K mg base (L2.CX P w) (12 + (n + 1)) T.f__law_replaced T.fd__law_replaced ["_law_expression_here", "_law_number_here", "_law_new"] (SpM K mg 3 (m__law_replaced (n + 1))) := by
      refine fn_m (k := 12 + n) (N := N__law_replaced) (m := b__law_replaced (m__law_replaced n)) T.F__law_replaced sc__law_replaced ?_
      intro cdv A outer s H E hr
      unfold b__law_replaced
      exact ⟨_, (sss_cons (ss_if (st_cmp (op_eqD hr.units) re_eq (se_v 1) se_int) (sss_one (ss_ret (se_v 2))) sss_nil) (sss_cons (ss_set 3 sc__law_replaced.nd (se_op op_sub re_sub (se_v 1) se_int)) (sss_cons (ss_setN 4 sc__law_replaced.nd (sn_lst sa_nil)) (sss_cons (ss_for [5, 6] (passes_of rfl) rfl (si_t (se_sl (se_v 0) (so_some se_int) so_none)) (sg_name 5 sc__law_replaced.nd) (sss_cons (ss_set 6 sc__law_replaced.nd (se_call (ok__law_count T B 12) (hr.mono (by omega)) T.m__law_count T.k__law_count T.b__law_count (takes_of rfl rfl rfl rfl) (sr_sh (se_v 5) sr_nil))) (sss_cons (ss_if (st_chain or_le re_ord or_lt re_ord se_int (se_v 3) (se_v 6)) (sss_one (ss_app 4 (se_call ih__law_replaced (hr.mono (by omega)) T.m__law_replaced T.k__law_replaced T.b__law_replaced (takes_of rfl rfl rfl rfl) (sr_sh (se_v 5) (sr_sh (se_v 3) (sr_sh (se_v 2) sr_nil)))))) (sss_one (ss_app 4 (se_v 5)))) (sss_one (ss_set 3 sc__law_replaced.nd (se_op op_sub re_sub (se_v 3) (se_v 6))))))) (sss_one (ss_ret (se_op or_add re_add (se_tup (sa_cons (se_ix (se_v 0) se_int) sa_nil)) (se_tupO 4 T.n_tuple))))))))⟩
    exact g__law_replaced
theorem ok__law_replaced (T : Txt P w K mg) (B : TxB T base) (n : Nat) : FnOk P w K mg base (L2.CX P w) (12 + n) T.f__law_replaced T.fd__law_replaced ["_law_expression_here", "_law_number_here", "_law_new"] (SpM K mg 3 (m__law_replaced n)) := (oks__law_replaced T B n)
theorem ok__law_joint (T : Txt P w K mg) (B : TxB T base) : FnOk P w K mg base (L2.CX P w) 1 T.f__law_joint T.fd__law_joint ["_law_word_here", "_law_kinds"] (SpM K mg 2 m__law_joint) := by
  refine fn_m (k := 0) (N := N__law_joint) (m := b__law_joint) T.F__law_joint sc__law_joint ?_
  intro cdv A outer s H E hr
  unfold b__law_joint
  exact ⟨_, (sss_cons (ss_if (st_cmp or_in re_in (se_v 0) (SN.se (sn_lst (sa_cons se_str (sa_cons se_str (sa_cons se_str (sa_cons se_str (sa_cons se_str (sa_cons se_str (sa_cons se_str sa_nil)))))))))) (sss_one (ss_ret (se_ix (SN.se (sn_lst (sa_cons se_non (sa_cons se_str sa_nil)))) (sb_ty call_int1 re_int T.n_int (sa_cons (se_cmp (op_eqD hr.units) re_eq (se_v 1) (se_op op_rep re_repL (SN.se (sn_lst (sa_cons se_str sa_nil))) (sb_cb call_len re_len T.n_len (sa_cons (se_v 1) sa_nil)))) sa_nil))))) sss_nil) (sss_cons (ss_if (st_cmp or_in re_in (se_v 0) (SN.se (sn_lst (sa_cons se_str (sa_cons se_str (sa_cons se_str sa_nil)))))) (sss_one (ss_ret (se_ix (SN.se (sn_lst (sa_cons se_non (sa_cons se_str sa_nil)))) (sb_ty call_int1 re_int T.n_int (sa_cons (se_cmp (op_eqD hr.units) re_eq (se_v 1) (se_op op_rep re_repL (SN.se (sn_lst (sa_cons se_str sa_nil))) (sb_cb call_len re_len T.n_len (sa_cons (se_v 1) sa_nil)))) sa_nil))))) sss_nil) (sss_cons (ss_if (st_cmp (op_eqD hr.units) re_eq (se_v 0) se_str) (sss_one (ss_ret se_str)) sss_nil) (sss_cons (ss_if (st_cmp (op_eqD hr.units) re_eq (se_v 0) se_str) (sss_one (ss_ret (se_ix (SN.se (sn_lst (sa_cons se_non (sa_cons se_str sa_nil)))) (sb_ty call_int1 re_int T.n_int (sa_cons (se_cmp (op_eqD hr.units) re_eq (se_v 1) (SN.se (sn_lst (sa_cons se_str sa_nil)))) sa_nil))))) sss_nil) (sss_cons (ss_if (st_cmp (op_eqD hr.units) re_eq (se_v 0) se_str) (sss_one (ss_ret (se_ix (SN.se (sn_lst (sa_cons se_non (sa_cons se_str sa_nil)))) (sb_ty call_int1 re_int T.n_int (sa_cons (se_cmp (op_eqD hr.units) re_eq (se_v 1) (SN.se (sn_lst (sa_cons se_str (sa_cons se_str sa_nil))))) sa_nil))))) sss_nil) (sss_cons (ss_if (st_cmp (op_eqD hr.units) re_eq (se_v 0) se_str) (sss_one (ss_ret (se_ix (SN.se (sn_lst (sa_cons se_non (sa_cons (se_ix (se_v 1) se_int) sa_nil)))) (sb_ty call_int1 re_int T.n_int (sa_cons (se_and (se_cmp (op_eqD hr.units) re_eq (se_ix (se_v 1) se_int) se_str) (se_one (se_cmp (op_eqD hr.units) re_eq (se_ix (se_v 1) se_int) (se_ix (se_v 1) se_int)))) sa_nil))))) sss_nil) (sss_cons (ss_if (st_cmp (op_eqD hr.units) re_eq (se_v 0) se_str) (sss_one (ss_ret (se_ix (SN.se (sn_lst (sa_cons se_non (sa_cons (se_ix (se_v 1) se_int) sa_nil)))) (sb_ty call_int1 re_int T.n_int (sa_cons (se_cmp (op_eqD hr.units) re_eq (se_ix (se_v 1) se_int) (se_ix (se_v 1) se_int)) sa_nil))))) sss_nil) (sss_one (ss_ret (se_ix (SN.se (sn_lst (sa_cons se_non (sa_cons se_str sa_nil)))) (sb_ty call_int1 re_int T.n_int (sa_cons (se_cmp (op_eqD hr.units) re_eq (se_ix (se_v 1) se_int) (se_ix (se_v 1) se_int)) sa_nil))))))))))))⟩
theorem ok__law_leaf_kind (T : Txt P w K mg) (B : TxB T base) : FnOk P w K mg base (L2.CX P w) 1 T.f__law_leaf_kind T.fd__law_leaf_kind ["_law_expression_here", "_law_shape_here"] (SpM K mg 2 m__law_leaf_kind) := by
  refine fn_m (k := 0) (N := N__law_leaf_kind) (m := b__law_leaf_kind) T.F__law_leaf_kind sc__law_leaf_kind ?_
  intro cdv A outer s H E hr
  unfold b__law_leaf_kind
  exact ⟨_, (sss_cons (ss_if (st_cmp (op_eqD hr.units) re_eq (se_ix (se_v 0) se_int) se_str) (sss_cons (ss_setLc rfl sc__law_leaf_kind.nd rfl rfl (sw_true rfl rfl rfl (by decide +kernel)) (si_t (se_fld T.cm_Shape T.cl_Shape T.na_Shape_attrs (se_v 1))) (blkOk_by (own := [("_law_name", 7), ("_law_kind_here", 5)]) (N := N__law_leaf_kind) (sc := defScope s__law_leaf_kind) (by decide +kernel)) (fun _ _ _ _ _ => (sg_tup rfl (sgs_cons (sg_name 7 sc__law_leaf_kind.nd) (sgs_cons (sg_name 5 sc__law_leaf_kind.nd) sgs_nil)))) (fun _ _ _ _ _ => (sts_one (st_cmp (op_eqD hr.units) re_eq (se_v 7) (se_ix (se_v 0) se_int)))) (fun _ _ _ _ _ => (se_v 5)) (by decide)) (sss_one (ss_ret (se_ix (se_op or_add re_add (se_v 3) (SN.se (sn_lst (sa_cons se_non sa_nil)))) se_int)))) sss_nil) (sss_cons (ss_if (st_cmp (op_eqD hr.units) re_eq (se_ix (se_v 0) se_int) se_str) (sss_one (ss_ret (se_ix (SN.se (sn_lst (sa_cons se_non (sa_cons se_str sa_nil)))) (sb_ty call_int1 re_int T.n_int (sa_cons (se_cmp or_in re_in (se_ix (se_v 0) se_int) (SN.se (sn_lc rfl sc__law_leaf_kind.nd (si_t (se_fld T.cm_Shape T.cl_Shape T.na_Shape_dims (se_v 1))) (blkOk_by (own := [("_law_dim", 8)]) (N := N__law_leaf_kind) (sc := defScope s__law_leaf_kind) (by decide +kernel)) (fun _ _ _ _ _ => (sg_name 8 sc__law_leaf_kind.nd)) (fun _ _ _ _ _ => sts_nil) (fun _ _ _ _ _ => (se_ix (se_v 8) se_int)) (by decide)))) sa_nil))))) sss_nil) (sss_cons (ss_asg (se_v 0) (sg_tup rfl (sgs_cons (sg_name 4 sc__law_leaf_kind.nd) (sgs_cons (sg_name 5 sc__law_leaf_kind.nd) (sgs_cons (sg_name 6 sc__law_leaf_kind.nd) sgs_nil))))) (sss_cons (ss_set 2 sc__law_leaf_kind.nd (se_isN (se_v 6))) (sss_cons (ss_if (st_cmp (op_eqD hr.units) re_eq (se_v 5) se_str) (sss_one (ss_set 2 sc__law_leaf_kind.nd (se_or (se_v 2) (se_one (se_and (se_isi "int" (se_v 6) T.n_isinstance T.n_int (by decide +kernel)) (se_and (se_not (se_isi "bool" (se_v 6) T.n_isinstance T.n_bool (by decide +kernel))) (se_one (se_chain or_lt re_ord or_lt re_ord (se_un un_neg re_neg (se_op op_pow re_pow se_int se_int)) (se_v 6) (se_op op_pow re_pow se_int se_int))))))))) (sss_one (ss_if (st_cmp (op_eqD hr.units) re_eq (se_v 5) se_str) (sss_one (ss_set 2 sc__law_leaf_kind.nd (se_or (se_v 2) (se_one (se_isi "bool" (se_v 6) T.n_isinstance T.n_bool (by decide +kernel)))))) (sss_one (ss_set 2 sc__law_leaf_kind.nd (se_and (se_cmp (op_eqD hr.units) re_eq (se_v 5) se_str) (se_one (se_or (se_v 2) (se_one (se_isi "str" (se_v 6) T.n_isinstance T.n_str (by decide +kernel))))))))))) (sss_one (ss_ret (se_ix (SN.se (sn_lst (sa_cons se_non (sa_cons (se_v 5) sa_nil)))) (sb_ty call_int1 re_int T.n_int (sa_cons (se_v 2) sa_nil))))))))))⟩
theorem oks__law_kind (T : Txt P w K mg) (B : TxB T base) : ∀ n : Nat, FnOk P w K mg base (L2.CX P w) (12 + n) T.f__law_kind T.fd__law_kind ["_law_expression_here", "_law_shape_here", "_law_number_here"] (SpM K mg 3 (m__law_kind n))
  | 0 => fn_stuck
  | n + 1 => by
    have ih := oks__law_kind T B n
    have ih__law_kind := ih
    have g__law_kind : FnOk P w K mg base (L2.CX P w) (12 + (n + 1)) T.f__law_kind T.fd__law_kind ["_law_expression_here", "_law_shape_here", "_law_number_here"] (SpM K mg 3 (m__law_kind (n + 1))) := by
      refine fn_m (k := 12 + n) (N := N__law_kind) (m := b__law_kind (m__law_kind n)) T.F__law_kind sc__law_kind ?_
      intro cdv A outer s H E hr
      unfold b__law_kind
      exact ⟨_, (sss_cons (ss_if (st_cmp or_in re_in (se_ix (se_v 0) se_int) (SN.se (sn_lst (sa_cons se_str (sa_cons se_str (sa_cons se_str sa_nil)))))) (sss_cons (ss_set 6 sc__law_kind.nd (se_call (ok__law_leaf_kind T B) (hr.mono (by omega)) T.m__law_leaf_kind T.k__law_leaf_kind T.b__law_leaf_kind (takes_of rfl rfl rfl rfl) (sr_sh (se_v 0) (sr_sh (se_v 1) sr_nil)))) (sss_cons (ss_if (st_isN (se_v 6)) (sss_one (ss_ret (se_tup (sa_cons se_str (sa_cons (se_v 2) sa_nil))))) sss_nil) (sss_one (ss_ret (se_tup (sa_cons se_str (sa_cons (se_v 6) sa_nil))))))) sss_nil) (sss_cons (ss_setN 3 sc__law_kind.nd (sn_lst sa_nil)) (sss_cons (ss_set 4 sc__law_kind.nd (se_op or_add re_add (se_v 2) se_int)) (sss_cons (ss_for [5, 7] (passes_of rfl) rfl (si_t (se_sl (se_v 0) (so_some se_int) so_none)) (sg_name 5 sc__law_kind.nd) (sss_cons (ss_set 7 sc__law_kind.nd (se_call ih__law_kind (hr.mono (by omega)) T.m__law_kind T.k__law_kind T.b__law_kind (takes_of rfl rfl rfl rfl) (sr_sh (se_v 5) (sr_sh (se_v 1) (sr_sh (se_v 4) sr_nil))))) (sss_cons (ss_if (st_cmp (op_eqD hr.units) re_eq (se_ix (se_v 7) se_int) se_str) (sss_one (ss_ret (se_v 7))) sss_nil) (sss_cons (ss_app 3 (se_ix (se_v 7) se_int)) (sss_one (ss_set 4 sc__law_kind.nd (se_op or_add re_add (se_v 4) (se_call (ok__law_count T B 12) (hr.mono (by omega)) T.m__law_count T.k__law_count T.b__law_count (takes_of rfl rfl rfl rfl) (sr_sh (se_v 5) sr_nil))))))))) (sss_frz 3 (sss_cons (ss_set 6 sc__law_kind.nd (se_call (ok__law_joint T B) (hr.mono (by omega)) T.m__law_joint T.k__law_joint T.b__law_joint (takes_of rfl rfl rfl rfl) (sr_sh (se_ix (se_v 0) se_int) (sr_sh (se_v 3) sr_nil)))) (sss_cons (ss_if (st_isN (se_v 6)) (sss_one (ss_ret (se_tup (sa_cons se_str (sa_cons (se_v 2) sa_nil))))) sss_nil) (sss_one (ss_ret (se_tup (sa_cons se_str (sa_cons (se_v 6) sa_nil))))))))))))⟩
    exact g__law_kind
theorem ok__law_kind (T : Txt P w K mg) (B : TxB T base) (n : Nat) : FnOk P w K mg base (L2.CX P w) (12 + n) T.f__law_kind T.fd__law_kind ["_law_expression_here", "_law_shape_here", "_law_number_here"] (SpM K mg 3 (m__law_kind n)) := (oks__law_kind T B n)
theorem ok_parts_of (T : Txt P w K mg) (B : TxB T base) : FnOk P w K mg base (L2.CX P w) 1 T.f_parts_of T.fd_parts_of ["expression"] (SpM K mg 1 m_parts_of) := by
  refine fn_m (k := 0) (N := N_parts_of) (m := b_parts_of) T.F_parts_of sc_parts_of ?_
  intro cdv A outer s H E hr
  unfold b_parts_of
  exact ⟨_, (sss_cons (ss_if (st_cmp or_in re_in (se_ix (se_v 0) se_int) (se_gr T.c_LEAVES T.r_LEAVES)) (sss_one (ss_ret (SN.se (sn_lst sa_nil)))) sss_nil) (sss_one (ss_ret (SN.se (sn_listOf T.n_list (se_sl (se_v 0) (so_some se_int) so_none))))))⟩
theorem ok__law_strange (T : Txt P w K mg) (B : TxB T base) : FnOk P w K mg base (L2.CX P w) 17 T.f__law_strange T.fd__law_strange ["_law_state", "_law_shape_here"] (SpM K mg 2 m__law_strange) := by
  refine fn_m (k := 16) (N := N__law_strange) (m := b__law_strange) T.F__law_strange sc__law_strange ?_
  intro cdv A outer s H E hr
  unfold b__law_strange
  exact ⟨_, (sss_cons (ss_set 2 sc__law_strange.nd (se_call (ok__law_next T B) (hr.mono (by decide)) T.m__law_next T.k__law_next T.b__law_next (takes_of rfl rfl rfl rfl) (sr_io 0 (sr_sh se_int sr_nil)))) (sss_cons (ss_if (st_cmp (op_eqD hr.units) re_eq (se_v 2) se_int) (sss_one (ss_ret (se_tup (sa_cons se_str (sa_cons (se_ix (SN.se (sn_lst (sa_cons se_str (sa_cons se_str (sa_cons se_str sa_nil))))) (se_call (ok__law_next T B) (hr.mono (by decide)) T.m__law_next T.k__law_next T.b__law_next (takes_of rfl rfl rfl rfl) (sr_io 0 (sr_sh se_int sr_nil)))) sa_nil))))) sss_nil) (sss_cons (ss_if (st_cmp (op_eqD hr.units) re_eq (se_v 2) se_int) (sss_one (ss_ret (se_tup (sa_cons se_str (sa_cons (se_ix (SN.se (sn_lst (sa_cons se_str (sa_cons se_str (sa_cons se_str sa_nil))))) (se_call (ok__law_next T B) (hr.mono (by decide)) T.m__law_next T.k__law_next T.b__law_next (takes_of rfl rfl rfl rfl) (sr_io 0 (sr_sh se_int sr_nil)))) sa_nil))))) sss_nil) (sss_cons (ss_if (st_cmp (op_eqD hr.units) re_eq (se_v 2) se_int) (sss_one (ss_ret (se_tup (sa_cons se_str (sa_cons (se_ix (SN.se (sn_lst (sa_cons se_str (sa_cons se_str (sa_cons se_str (sa_cons se_str sa_nil)))))) (se_call (ok__law_next T B) (hr.mono (by decide)) T.m__law_next T.k__law_next T.b__law_next (takes_of rfl rfl rfl rfl) (sr_io 0 (sr_sh se_int sr_nil)))) (sa_cons (se_ix (SN.se (sn_lst (sa_cons se_int (sa_cons se_bl (sa_cons se_str (sa_cons (se_op op_pow re_pow se_int se_int) sa_nil)))))) (se_call (ok__law_next T B) (hr.mono (by decide)) T.m__law_next T.k__law_next T.b__law_next (takes_of rfl rfl rfl rfl) (sr_io 0 (sr_sh se_int sr_nil)))) sa_nil)))))) sss_nil) (sss_one (ss_ret (se_call (ok__law_expression T B 12) (hr.mono (by decide)) T.m__law_expression T.k__law_expression T.b__law_expression (takes_of rfl rfl rfl rfl) (sr_io 0 (sr_sh (se_v 1) (sr_sh (se_ix (SN.se (sn_lst (sa_cons se_str (sa_cons se_str (sa_cons se_str sa_nil))))) (se_call (ok__law_next T B) (hr.mono (by decide)) T.m__law_next T.k__law_next T.b__law_next (takes_of rfl rfl rfl rfl) (sr_io 0 (sr_sh se_int sr_nil)))) (sr_sh se_int sr_nil)))))))))))⟩
theorem ok_law (T : Txt P w K mg) (B : TxB T base) : FnOk P w K mg base (L2.CX P w) 25 T.f_law T.fd_law ["_law_script"] (SpM K mg 1 m_law) := by
  refine fn_m (k := 24) (N := N_law) (m := b_law) T.F_law sc_law ?_
  intro cdv A outer s H E hr
  unfold b_law
  exact ⟨_, (sss_cons (ss_setN 1 sc_law.nd (sn_call (ok__law_draws T B) (hr.mono (by decide)) T.m__law_draws T.k__law_draws T.b__law_draws (takes_of rfl rfl rfl rfl) (sr_sh (se_op or_add re_add (SN.se (sn_sl (se_v 0) so_none (so_some se_int))) (SN.se (sn_lst (sa_cons se_int sa_nil)))) sr_nil))) (sss_cons (ss_set 2 sc_law.nd (SN.se (sn_call (ok__law_shape T B) (hr.mono (by decide)) T.m__law_shape T.k__law_shape T.b__law_shape (takes_of rfl rfl rfl rfl) (sr_io 1 sr_nil)))) (sss_cons (ss_for [3, 4, 5, 6, 7, 8] (passes_of rfl) rfl (si_r1 T.n_range (sa_cons se_int sa_nil)) (sg_name 3 sc_law.nd) (sss_cons (ss_set 4 sc_law.nd (se_ix (SN.se (sn_lst (sa_cons se_str (sa_cons se_str (sa_cons se_str sa_nil))))) (se_op op_modN re_mod (sb_ty call_int1 re_int T.n_int (sa_cons (se_v 3) sa_nil)) se_int))) (sss_cons (ss_set 5 sc_law.nd (se_call (ok__law_expression T B 12) (hr.mono (by decide)) T.m__law_expression T.k__law_expression T.b__law_expression (takes_of rfl rfl rfl rfl) (sr_io 1 (sr_sh (se_v 2) (sr_sh (se_v 4) (sr_sh se_int sr_nil)))))) (sss_cons (ss_if (st_cmp (op_neD hr.units) re_ne (se_call (ok__law_told T B) (hr.mono (by decide)) T.m__law_told T.k__law_told T.b__law_told (takes_of rfl rfl rfl rfl) (sr_sh (se_v 5) (sr_sh (se_v 2) sr_nil))) (se_tup (sa_cons se_str (sa_cons (se_v 4) sa_nil)))) (sss_one (ss_ret se_bl)) sss_nil) (sss_cons (ss_for [6] (passes_of rfl) rfl (si_r1 T.n_range (sa_cons (se_op or_add re_add se_int (se_call (ok__law_next T B) (hr.mono (by decide)) T.m__law_next T.k__law_next T.b__law_next (takes_of rfl rfl rfl rfl) (sr_io 1 (sr_sh se_int sr_nil)))) sa_nil)) (sg_name 6 sc_law.nd) (sss_cons (ss_set 8 sc_law.nd (se_call (ok__law_next T B) (hr.mono (by decide)) T.m__law_next T.k__law_next T.b__law_next (takes_of rfl rfl rfl rfl) (sr_io 1 (sr_sh (se_call (ok__law_count T B 12) (hr.mono (by decide)) T.m__law_count T.k__law_count T.b__law_count (takes_of rfl rfl rfl rfl) (sr_sh (se_v 5) sr_nil)) sr_nil)))) (sss_one (ss_set 5 sc_law.nd (se_call (ok__law_replaced T B 12) (hr.mono (by decide)) T.m__law_replaced T.k__law_replaced T.b__law_replaced (takes_of rfl rfl rfl rfl) (sr_sh (se_v 5) (sr_sh (se_v 8) (sr_sh (se_call (ok__law_strange T B) (hr.mono (by decide)) T.m__law_strange T.k__law_strange T.b__law_strange (takes_of rfl rfl rfl rfl) (sr_io 1 (sr_sh (se_v 2) sr_nil))) sr_nil)))))))) (sss_cons (ss_if (st_cmp (op_neD hr.units) re_ne (se_call (ok__law_told T B) (hr.mono (by decide)) T.m__law_told T.k__law_told T.b__law_told (takes_of rfl rfl rfl rfl) (sr_sh (se_v 5) (sr_sh (se_v 2) sr_nil))) (se_call (ok__law_kind T B 12) (hr.mono (by decide)) T.m__law_kind T.k__law_kind T.b__law_kind (takes_of rfl rfl rfl rfl) (sr_sh (se_v 5) (sr_sh (se_v 2) (sr_sh se_int sr_nil))))) (sss_one (ss_ret se_bl)) sss_nil) (sss_cons (ss_set 7 sc_law.nd (SN.se (sn_lst sa_nil))) (sss_cons (ss_if (st_cmp or_notIn re_notIn (se_ix (se_v 5) se_int) (SN.se (sn_lst (sa_cons se_str (sa_cons se_str (sa_cons se_str sa_nil)))))) (sss_one (ss_set 7 sc_law.nd (SN.se (sn_listOf T.n_list (se_sl (se_v 5) (so_some se_int) so_none))))) sss_nil) (sss_one (ss_if (st_cmp (op_neD hr.units) re_ne (se_call (ok_parts_of T B) (hr.mono (by decide)) T.m_parts_of T.k_parts_of T.b_parts_of (takes_of rfl rfl rfl rfl) (sr_sh (se_v 5) sr_nil)) (se_v 7)) (sss_one (ss_ret se_bl)) sss_nil)))))))))) (sss_one (ss_ret se_bl)))))⟩
end
theorem all_mk {l : PySem.W.OpenLaw} {q : Program} {w : World} {K : PySem.W.Frag} {h : Heap} {mg : Str → Option Value} {fa : Addr} (X : K.In h) (G : h.Ns mainGlobals mg) (hfa : mg "law" = some (.ref fa))
    {C_ManysidesError : Addr}
    (aC_ManysidesError : PySem.W.nsIn K mainGlobals "ManysidesError" = some (some (.ref C_ManysidesError)))
    {C_InvalidQuery : Addr}
    (aC_InvalidQuery : PySem.W.nsIn K mainGlobals "InvalidQuery" = some (some (.ref C_InvalidQuery)))
    {C_InvalidWords : Addr}
    (aC_InvalidWords : PySem.W.nsIn K mainGlobals "InvalidWords" = some (some (.ref C_InvalidWords)))
    (ns_super : PySem.W.nsIn K mainGlobals "super" = some none)
    (op_any : PySem.W.nsIn K cStatics "thirdparty.any" = some none)
    (tp_super : (l.prog.main.scope.names.lookup ("super" : Str)).isSome = false)
    (x_hn : PySem.W.specialIn K (.builtin "object.__class__") "__get__" = some (some (.builtin "getset_descriptor.__get__")))
    (x_ht : PySem.W.takesIn K (.builtin "object.__class__") = some true)
    {f_ManysidesError cc_ManysidesError cda_ManysidesError : Addr} {od_ManysidesError an_ManysidesError cdd_ManysidesError cld_ManysidesError : Option Addr} {osl_ManysidesError ccs_ManysidesError csl_ManysidesError : Array (Option Value)} {oc_ManysidesError kV_ManysidesError doc_ManysidesError pm_ManysidesError ct_ManysidesError ccl_ManysidesError cl_ManysidesError : Value} {vs_ManysidesError : Array Value} {file_ManysidesError : Str} {tf_ManysidesError : Tok}
    {T_ManysidesError_d : Addr} {toc_ManysidesError : Value} {tod_ManysidesError : Option Addr} {d0_ManysidesError : Value} {tn_ManysidesError : Nat} {tsl_ManysidesError : Array (Option Value)}
    (i_ManysidesError : PySem.W.findIn K (.ref C_ManysidesError) "__init__" = some (some (.ref f_ManysidesError)))
    (lf_ManysidesError : K.lookup f_ManysidesError = some ⟨oc_ManysidesError, od_ManysidesError, .func (PySem.W.ksFn "__init__" "ManysidesError.__init__" (defArgs s_ManysidesError_i) (defBody s_ManysidesError_i) (defScope s_ManysidesError_i) (.ref T_ManysidesError_d) kV_ManysidesError doc_ManysidesError pm_ManysidesError an_ManysidesError (.ref cda_ManysidesError) ct_ManysidesError cc_ManysidesError), osl_ManysidesError⟩)
    (lT_ManysidesError : K.lookup T_ManysidesError_d = some ⟨toc_ManysidesError, tod_ManysidesError, .seq #[d0_ManysidesError] tn_ManysidesError, tsl_ManysidesError⟩)
    (co_ManysidesError : PySem.W.codeIn K (.ref cda_ManysidesError) "ManysidesError.__init__" = true)
    (lc_ManysidesError : K.lookup cda_ManysidesError = some ⟨ccl_ManysidesError, cdd_ManysidesError, .fields vs_ManysidesError, ccs_ManysidesError⟩)
    (lv_ManysidesError : vs_ManysidesError[2]? = some (.str file_ManysidesError tf_ManysidesError))
    (ff_ManysidesError : ((l.prog.main.file : Str) == file_ManysidesError) = true)
    (ce_ManysidesError : K.lookup cc_ManysidesError = some ⟨cl_ManysidesError, cld_ManysidesError, .cell (some (.ref C_ManysidesError)), csl_ManysidesError⟩)
    (ic_ManysidesError : PySem.W.isClsIn K C_ManysidesError = true)
    (ty_ManysidesError : PySem.W.typeIn K (.ref f_ManysidesError) = some (.type "function"))
    (fi_ManysidesError : PySem.W.fnIn K f_ManysidesError = true)
    {f_InvalidQuery cc_InvalidQuery cda_InvalidQuery : Addr} {od_InvalidQuery an_InvalidQuery cdd_InvalidQuery cld_InvalidQuery : Option Addr} {osl_InvalidQuery ccs_InvalidQuery csl_InvalidQuery : Array (Option Value)} {oc_InvalidQuery kV_InvalidQuery doc_InvalidQuery pm_InvalidQuery ct_InvalidQuery ccl_InvalidQuery cl_InvalidQuery : Value} {vs_InvalidQuery : Array Value} {file_InvalidQuery : Str} {tf_InvalidQuery : Tok}
    (i_InvalidQuery : PySem.W.findIn K (.ref C_InvalidQuery) "__init__" = some (some (.ref f_InvalidQuery)))
    (lf_InvalidQuery : K.lookup f_InvalidQuery = some ⟨oc_InvalidQuery, od_InvalidQuery, .func (PySem.W.ksFn "__init__" "InvalidQuery.__init__" (defArgs s_InvalidQuery_i) (defBody s_InvalidQuery_i) (defScope s_InvalidQuery_i) .none kV_InvalidQuery doc_InvalidQuery pm_InvalidQuery an_InvalidQuery (.ref cda_InvalidQuery) ct_InvalidQuery cc_InvalidQuery), osl_InvalidQuery⟩)
    (co_InvalidQuery : PySem.W.codeIn K (.ref cda_InvalidQuery) "InvalidQuery.__init__" = true)
    (lc_InvalidQuery : K.lookup cda_InvalidQuery = some ⟨ccl_InvalidQuery, cdd_InvalidQuery, .fields vs_InvalidQuery, ccs_InvalidQuery⟩)
    (lv_InvalidQuery : vs_InvalidQuery[2]? = some (.str file_InvalidQuery tf_InvalidQuery))
    (ff_InvalidQuery : ((l.prog.main.file : Str) == file_InvalidQuery) = true)
    (ce_InvalidQuery : K.lookup cc_InvalidQuery = some ⟨cl_InvalidQuery, cld_InvalidQuery, .cell (some (.ref C_InvalidQuery)), csl_InvalidQuery⟩)
    (ic_InvalidQuery : PySem.W.isClsIn K C_InvalidQuery = true)
    (ty_InvalidQuery : PySem.W.typeIn K (.ref f_InvalidQuery) = some (.type "function"))
    (fi_InvalidQuery : PySem.W.fnIn K f_InvalidQuery = true)
    {nm_InvalidQuery q_InvalidQuery : Str} {N_InvalidQuery_n : Addr} {bs_InvalidQuery bm_InvalidQuery sub_InvalidQuery : List Value} {sn_InvalidQuery : List Str} {ab_InvalidQuery : Bool} {col_InvalidQuery : Option Bool} {dd_InvalidQuery : Option Addr} {m0_InvalidQuery m1_InvalidQuery m2_InvalidQuery m3_InvalidQuery m5_InvalidQuery : Option Value}
    (lC_InvalidQuery : K.lookup C_InvalidQuery = some (excClassObj nm_InvalidQuery q_InvalidQuery C_InvalidQuery N_InvalidQuery_n bs_InvalidQuery bm_InvalidQuery true sn_InvalidQuery sub_InvalidQuery ab_InvalidQuery col_InvalidQuery dd_InvalidQuery m0_InvalidQuery m1_InvalidQuery m2_InvalidQuery m3_InvalidQuery m5_InvalidQuery "ValueError.__new__"))
    (rv_InvalidQuery : PySem.HandSPX.refsVE bm_InvalidQuery = true)
    (sa_InvalidQuery : PySem.W.findIn K (.ref C_InvalidQuery) "__setattr__" = some (some (.builtin "object.__setattr__")))
    (bx_InvalidQuery : PySem.W.subIn K (.ref C_InvalidQuery) (.type "BaseException") = some true)
    (tt_InvalidQuery : PySem.W.typeIn K (.ref C_InvalidQuery) = some (.type "type"))
    (kk_InvalidQuery : PySem.W.keepIn K (.ref C_InvalidQuery) = true)
    (ve_InvalidQuery : PySem.W.subIn K (.ref C_InvalidQuery) (.type "ValueError") = some true)
    (np_InvalidQuery : PySem.W.findIn K (.ref C_InvalidQuery) "place" = some none)
    (nn_InvalidQuery : PySem.W.findIn K (.ref C_InvalidQuery) "name" = some none)
    (ga_InvalidQuery : PySem.W.findIn K (.ref C_InvalidQuery) "__getattribute__" = some (some (.builtin "BaseException.__getattribute__")))
    (gg_InvalidQuery : PySem.W.findIn K (.ref C_InvalidQuery) "__getattr__" = some none)
    (hd_InvalidQuery : PySem.W.hasDictIn K C_InvalidQuery = true)
    (hc_InvalidQuery : PySem.W.findIn K (.ref C_InvalidQuery) "__class__" = some (some (.builtin "object.__class__")))
    (mo_InvalidQuery : PySem.W.mroIn K C_InvalidQuery (.type "object") = some true)
    (mm_InvalidQuery : PySem.W.mroIn K C_InvalidQuery (.ref C_ManysidesError) = some true)
    (ms_InvalidQuery : PySem.W.mroIn K C_InvalidQuery (.ref C_InvalidQuery) = some true)
    (um_InvalidQuery : PySem.W.ks_superIn K C_InvalidQuery C_ManysidesError "__init__" = some (some (.builtin "ValueError.__init__")))
    (uc_InvalidQuery : PySem.W.ks_superIn K C_InvalidQuery C_InvalidQuery "__init__" = some (some (.ref f_ManysidesError)))
    (hx_InvalidQuery_ManysidesError : PySem.W.exmOne K (.ref C_InvalidQuery) (.ref C_ManysidesError) = some true)
    (ix_InvalidQuery_InvalidQuery : PySem.W.kitOne K (.ref C_InvalidQuery) (.ref C_InvalidQuery) = some true)
    (ix_InvalidQuery_InvalidWords : PySem.W.kitOne K (.ref C_InvalidQuery) (.ref C_InvalidWords) = some false)
    {C_Shape : Addr} (aC_Shape : PySem.W.nsIn K mainGlobals "Shape" = some (some (.ref C_Shape)))
    (pg_Shape : PySem.W.plainGet K C_Shape Str.empty = true) (hd_Shape : PySem.W.hasDictIn K C_Shape = true) (po_Shape : PySem.W.plainOver K C_Shape = true) (sa_Shape : PySem.W.findIn K (.ref C_Shape) "__setattr__" = some (some (.builtin "object.__setattr__"))) (mk_Shape : PySem.W.makesIn K C_Shape = true) (kc_Shape : PySem.W.keepIn K (.ref C_Shape) = true)
    {C_Checker : Addr} (aC_Checker : PySem.W.nsIn K mainGlobals "Checker" = some (some (.ref C_Checker)))
    (pg_Checker : PySem.W.plainGet K C_Checker Str.empty = true) (hd_Checker : PySem.W.hasDictIn K C_Checker = true) (po_Checker : PySem.W.plainOver K C_Checker = true) (sa_Checker : PySem.W.findIn K (.ref C_Checker) "__setattr__" = some (some (.builtin "object.__setattr__"))) (mk_Checker : PySem.W.makesIn K C_Checker = true) (kc_Checker : PySem.W.keepIn K (.ref C_Checker) = true)
    (na_Checker_count : PySem.W.findIn K (.ref C_Checker) "count" = some none)
    (na_Checker_shape : PySem.W.findIn K (.ref C_Checker) "shape" = some none)
    (na_Shape_attrs : PySem.W.findIn K (.ref C_Shape) "attrs" = some none)
    (na_Shape_dims : PySem.W.findIn K (.ref C_Shape) "dims" = some none)
    {f0 : Addr} {od0 an0 : Option Addr} {sl0 : Array (Option Value)} {oc0 kV0 dc0 pm0 cd0 ct0 : Value}
    (a0 : PySem.W.nsIn K mainGlobals "_law_draw" = some (some (.ref f0)))
    (l0 : K.lookup f0 = some ⟨oc0, od0, .func (PySem.W.fnOf "_law_draw" "_law_draw" (defArgs s__law_draw) (defBody s__law_draw) (defScope s__law_draw) .none kV0 dc0 pm0 an0 cd0 ct0), sl0⟩) (c0 : PySem.W.codeIn K cd0 "_law_draw" = true) (k0 : PySem.W.keepIn K (.ref f0) = true)
    {f1 : Addr} {od1 an1 : Option Addr} {sl1 : Array (Option Value)} {oc1 kV1 dc1 pm1 cd1 ct1 : Value}
    (a1 : PySem.W.nsIn K mainGlobals "_law_draws" = some (some (.ref f1)))
    (l1 : K.lookup f1 = some ⟨oc1, od1, .func (PySem.W.fnOf "_law_draws" "_law_draws" (defArgs s__law_draws) (defBody s__law_draws) (defScope s__law_draws) .none kV1 dc1 pm1 an1 cd1 ct1), sl1⟩) (c1 : PySem.W.codeIn K cd1 "_law_draws" = true) (k1 : PySem.W.keepIn K (.ref f1) = true)
    {f2 : Addr} {od2 an2 : Option Addr} {sl2 : Array (Option Value)} {oc2 kV2 dc2 pm2 cd2 ct2 : Value}
    (a2 : PySem.W.findIn K (.ref C_Shape) "__init__" = some (some (.ref f2))) (i2 : PySem.W.isFn K (.ref f2) = true)
    (l2 : K.lookup f2 = some ⟨oc2, od2, .func (PySem.W.fnOf "__init__" "Shape.__init__" (defArgs s_Shape___init__) (defBody s_Shape___init__) (defScope s_Shape___init__) .none kV2 dc2 pm2 an2 cd2 ct2), sl2⟩) (c2 : PySem.W.codeIn K cd2 "Shape.__init__" = true) (k2 : PySem.W.keepIn K (.ref f2) = true)
    {f3 : Addr} {od3 an3 : Option Addr} {sl3 : Array (Option Value)} {oc3 kV3 dc3 pm3 cd3 ct3 : Value}
    (a3 : PySem.W.nsIn K mainGlobals "_law_next" = some (some (.ref f3)))
    (l3 : K.lookup f3 = some ⟨oc3, od3, .func (PySem.W.fnOf "_law_next" "_law_next" (defArgs s__law_next) (defBody s__law_next) (defScope s__law_next) .none kV3 dc3 pm3 an3 cd3 ct3), sl3⟩) (c3 : PySem.W.codeIn K cd3 "_law_next" = true) (k3 : PySem.W.keepIn K (.ref f3) = true)
    {f4 : Addr} {od4 an4 : Option Addr} {sl4 : Array (Option Value)} {oc4 kV4 dc4 pm4 cd4 ct4 : Value}
    (a4 : PySem.W.nsIn K mainGlobals "_law_shape" = some (some (.ref f4)))
    (l4 : K.lookup f4 = some ⟨oc4, od4, .func (PySem.W.fnOf "_law_shape" "_law_shape" (defArgs s__law_shape) (defBody s__law_shape) (defScope s__law_shape) .none kV4 dc4 pm4 an4 cd4 ct4), sl4⟩) (c4 : PySem.W.codeIn K cd4 "_law_shape" = true) (k4 : PySem.W.keepIn K (.ref f4) = true)
    {f5 : Addr} {od5 an5 : Option Addr} {sl5 : Array (Option Value)} {oc5 kV5 dc5 pm5 cd5 ct5 : Value}
    (a5 : PySem.W.nsIn K mainGlobals "_law_word" = some (some (.ref f5)))
    (l5 : K.lookup f5 = some ⟨oc5, od5, .func (PySem.W.fnOf "_law_word" "_law_word" (defArgs s__law_word) (defBody s__law_word) (defScope s__law_word) .none kV5 dc5 pm5 an5 cd5 ct5), sl5⟩) (c5 : PySem.W.codeIn K cd5 "_law_word" = true) (k5 : PySem.W.keepIn K (.ref f5) = true)
    {f6 : Addr} {od6 an6 : Option Addr} {sl6 : Array (Option Value)} {oc6 kV6 dc6 pm6 cd6 ct6 : Value}
    (a6 : PySem.W.nsIn K mainGlobals "_law_number" = some (some (.ref f6)))
    (l6 : K.lookup f6 = some ⟨oc6, od6, .func (PySem.W.fnOf "_law_number" "_law_number" (defArgs s__law_number) (defBody s__law_number) (defScope s__law_number) .none kV6 dc6 pm6 an6 cd6 ct6), sl6⟩) (c6 : PySem.W.codeIn K cd6 "_law_number" = true) (k6 : PySem.W.keepIn K (.ref f6) = true)
    {f7 : Addr} {od7 an7 : Option Addr} {sl7 : Array (Option Value)} {oc7 kV7 dc7 pm7 cd7 ct7 : Value}
    (a7 : PySem.W.nsIn K mainGlobals "_law_thing" = some (some (.ref f7)))
    (l7 : K.lookup f7 = some ⟨oc7, od7, .func (PySem.W.fnOf "_law_thing" "_law_thing" (defArgs s__law_thing) (defBody s__law_thing) (defScope s__law_thing) .none kV7 dc7 pm7 an7 cd7 ct7), sl7⟩) (c7 : PySem.W.codeIn K cd7 "_law_thing" = true) (k7 : PySem.W.keepIn K (.ref f7) = true)
    {f8 : Addr} {od8 an8 : Option Addr} {sl8 : Array (Option Value)} {oc8 kV8 dc8 pm8 cd8 ct8 : Value}
    (a8 : PySem.W.nsIn K mainGlobals "_law_leaf" = some (some (.ref f8)))
    (l8 : K.lookup f8 = some ⟨oc8, od8, .func (PySem.W.fnOf "_law_leaf" "_law_leaf" (defArgs s__law_leaf) (defBody s__law_leaf) (defScope s__law_leaf) .none kV8 dc8 pm8 an8 cd8 ct8), sl8⟩) (c8 : PySem.W.codeIn K cd8 "_law_leaf" = true) (k8 : PySem.W.keepIn K (.ref f8) = true)
    {f9 : Addr} {od9 an9 : Option Addr} {sl9 : Array (Option Value)} {oc9 kV9 dc9 pm9 cd9 ct9 : Value}
    (a9 : PySem.W.nsIn K mainGlobals "_law_expression" = some (some (.ref f9)))
    (l9 : K.lookup f9 = some ⟨oc9, od9, .func (PySem.W.fnOf "_law_expression" "_law_expression" (defArgs s__law_expression) (defBody s__law_expression) (defScope s__law_expression) .none kV9 dc9 pm9 an9 cd9 ct9), sl9⟩) (c9 : PySem.W.codeIn K cd9 "_law_expression" = true) (k9 : PySem.W.keepIn K (.ref f9) = true)
    {f10 : Addr} {od10 an10 : Option Addr} {sl10 : Array (Option Value)} {oc10 kV10 dc10 pm10 cd10 ct10 : Value}
    (a10 : PySem.W.nsIn K mainGlobals "_law_flag" = some (some (.ref f10)))
    (l10 : K.lookup f10 = some ⟨oc10, od10, .func (PySem.W.fnOf "_law_flag" "_law_flag" (defArgs s__law_flag) (defBody s__law_flag) (defScope s__law_flag) .none kV10 dc10 pm10 an10 cd10 ct10), sl10⟩) (c10 : PySem.W.codeIn K cd10 "_law_flag" = true) (k10 : PySem.W.keepIn K (.ref f10) = true)
    {f11 : Addr} {od11 an11 : Option Addr} {sl11 : Array (Option Value)} {oc11 kV11 dc11 pm11 ct11 : Value} {cc11 P11 : Addr} {tl11 : Value} {td11 : Option Addr} {tv11 : Array Value} {ts11 : Array (Option Value)}
    (a11 : PySem.W.nsIn K mainGlobals "_kind_from" = some (some (.ref f11)))
    (l11 : K.lookup f11 = some ⟨oc11, od11, .func (PySem.W.fnOf "_kind_from" "_kind_from" (defArgs s__kind_from) (defBody s__kind_from) (defScope s__kind_from) .none kV11 dc11 pm11 an11 (.ref cc11) ct11), sl11⟩) (c11 : PySem.W.codeIn K (.ref cc11) "_kind_from" = true) (k11 : PySem.W.keepIn K (.ref f11) = true)
    (t11 : K.lookup cc11 = some ⟨tl11, td11, .fields tv11, ts11⟩)
    (v11 : tv11[11]? = some (.ref P11))
    (tN11 : K.lookup P11 = none)
    (tR11 : ((PyProof.Rows.recsOf q).find? (fun e => e.name == ("_kind_from" : Str))).isSome = true)
    {f12 : Addr} {od12 an12 : Option Addr} {sl12 : Array (Option Value)} {oc12 kV12 dc12 pm12 cd12 ct12 : Value}
    (a12 : PySem.W.nsIn K mainGlobals "_index_of" = some (some (.ref f12)))
    (l12 : K.lookup f12 = some ⟨oc12, od12, .func (PySem.W.fnOf "_index_of" "_index_of" (defArgs s__index_of) (defBody s__index_of) (defScope s__index_of) .none kV12 dc12 pm12 an12 cd12 ct12), sl12⟩) (c12 : PySem.W.codeIn K cd12 "_index_of" = true) (k12 : PySem.W.keepIn K (.ref f12) = true)
    {f13 : Addr} {od13 an13 : Option Addr} {sl13 : Array (Option Value)} {oc13 kV13 dc13 pm13 cd13 ct13 : Value}
    (a13 : PySem.W.nsIn K mainGlobals "attr_index" = some (some (.ref f13)))
    (l13 : K.lookup f13 = some ⟨oc13, od13, .func (PySem.W.fnOf "attr_index" "attr_index" (defArgs s_attr_index) (defBody s_attr_index) (defScope s_attr_index) .none kV13 dc13 pm13 an13 cd13 ct13), sl13⟩) (c13 : PySem.W.codeIn K cd13 "attr_index" = true) (k13 : PySem.W.keepIn K (.ref f13) = true)
    {f14 : Addr} {od14 an14 : Option Addr} {sl14 : Array (Option Value)} {oc14 kV14 dc14 pm14 cd14 ct14 : Value}
    (a14 : PySem.W.nsIn K mainGlobals "is_text" = some (some (.ref f14)))
    (l14 : K.lookup f14 = some ⟨oc14, od14, .func (PySem.W.fnOf "is_text" "is_text" (defArgs s_is_text) (defBody s_is_text) (defScope s_is_text) .none kV14 dc14 pm14 an14 cd14 ct14), sl14⟩) (c14 : PySem.W.codeIn K cd14 "is_text" = true) (k14 : PySem.W.keepIn K (.ref f14) = true)
    {f15 : Addr} {od15 an15 : Option Addr} {sl15 : Array (Option Value)} {oc15 kV15 dc15 pm15 cd15 ct15 : Value}
    (a15 : PySem.W.nsIn K mainGlobals "is_integer" = some (some (.ref f15)))
    (l15 : K.lookup f15 = some ⟨oc15, od15, .func (PySem.W.fnOf "is_integer" "is_integer" (defArgs s_is_integer) (defBody s_is_integer) (defScope s_is_integer) .none kV15 dc15 pm15 an15 cd15 ct15), sl15⟩) (c15 : PySem.W.codeIn K cd15 "is_integer" = true) (k15 : PySem.W.keepIn K (.ref f15) = true)
    {f16 : Addr} {od16 an16 : Option Addr} {sl16 : Array (Option Value)} {oc16 kV16 dc16 pm16 cd16 ct16 : Value}
    (a16 : PySem.W.nsIn K mainGlobals "is_value" = some (some (.ref f16)))
    (l16 : K.lookup f16 = some ⟨oc16, od16, .func (PySem.W.fnOf "is_value" "is_value" (defArgs s_is_value) (defBody s_is_value) (defScope s_is_value) .none kV16 dc16 pm16 an16 cd16 ct16), sl16⟩) (c16 : PySem.W.codeIn K cd16 "is_value" = true) (k16 : PySem.W.keepIn K (.ref f16) = true)
    {f17 : Addr} {od17 an17 : Option Addr} {sl17 : Array (Option Value)} {oc17 kV17 dc17 pm17 cd17 ct17 : Value}
    (a17 : PySem.W.nsIn K mainGlobals "dim_index" = some (some (.ref f17)))
    (l17 : K.lookup f17 = some ⟨oc17, od17, .func (PySem.W.fnOf "dim_index" "dim_index" (defArgs s_dim_index) (defBody s_dim_index) (defScope s_dim_index) .none kV17 dc17 pm17 an17 cd17 ct17), sl17⟩) (c17 : PySem.W.codeIn K cd17 "dim_index" = true) (k17 : PySem.W.keepIn K (.ref f17) = true)
    {f18 : Addr} {od18 an18 : Option Addr} {sl18 : Array (Option Value)} {oc18 kV18 dc18 pm18 cd18 ct18 : Value}
    (a18 : PySem.W.findIn K (.ref C_Checker) "leaf" = some (some (.ref f18))) (i18 : PySem.W.isFn K (.ref f18) = true)
    (l18 : K.lookup f18 = some ⟨oc18, od18, .func (PySem.W.fnOf "leaf" "Checker.leaf" (defArgs s_Checker_leaf) (defBody s_Checker_leaf) (defScope s_Checker_leaf) .none kV18 dc18 pm18 an18 cd18 ct18), sl18⟩) (c18 : PySem.W.codeIn K cd18 "Checker.leaf" = true) (k18 : PySem.W.keepIn K (.ref f18) = true)
    {f19 : Addr} {od19 an19 : Option Addr} {sl19 : Array (Option Value)} {oc19 kV19 dc19 pm19 cd19 ct19 : Value}
    (a19 : PySem.W.findIn K (.ref C_Checker) "kind" = some (some (.ref f19))) (i19 : PySem.W.isFn K (.ref f19) = true)
    (l19 : K.lookup f19 = some ⟨oc19, od19, .func (PySem.W.fnOf "kind" "Checker.kind" (defArgs s_Checker_kind) (defBody s_Checker_kind) (defScope s_Checker_kind) .none kV19 dc19 pm19 an19 cd19 ct19), sl19⟩) (c19 : PySem.W.codeIn K cd19 "Checker.kind" = true) (k19 : PySem.W.keepIn K (.ref f19) = true)
    {f20 : Addr} {od20 an20 : Option Addr} {sl20 : Array (Option Value)} {oc20 kV20 dc20 pm20 cd20 ct20 : Value}
    (a20 : PySem.W.findIn K (.ref C_Checker) "__init__" = some (some (.ref f20))) (i20 : PySem.W.isFn K (.ref f20) = true)
    (l20 : K.lookup f20 = some ⟨oc20, od20, .func (PySem.W.fnOf "__init__" "Checker.__init__" (defArgs s_Checker___init__) (defBody s_Checker___init__) (defScope s_Checker___init__) .none kV20 dc20 pm20 an20 cd20 ct20), sl20⟩) (c20 : PySem.W.codeIn K cd20 "Checker.__init__" = true) (k20 : PySem.W.keepIn K (.ref f20) = true)
    {f21 : Addr} {od21 an21 : Option Addr} {sl21 : Array (Option Value)} {oc21 kV21 dc21 pm21 cd21 ct21 : Value}
    (a21 : PySem.W.nsIn K mainGlobals "kind_of" = some (some (.ref f21)))
    (l21 : K.lookup f21 = some ⟨oc21, od21, .func (PySem.W.fnOf "kind_of" "kind_of" (defArgs s_kind_of) (defBody s_kind_of) (defScope s_kind_of) .none kV21 dc21 pm21 an21 cd21 ct21), sl21⟩) (c21 : PySem.W.codeIn K cd21 "kind_of" = true) (k21 : PySem.W.keepIn K (.ref f21) = true)
    {f22 : Addr} {od22 an22 : Option Addr} {sl22 : Array (Option Value)} {oc22 kV22 dc22 pm22 cd22 ct22 : Value}
    (a22 : PySem.W.nsIn K mainGlobals "_law_told" = some (some (.ref f22)))
    (l22 : K.lookup f22 = some ⟨oc22, od22, .func (PySem.W.fnOf "_law_told" "_law_told" (defArgs s__law_told) (defBody s__law_told) (defScope s__law_told) .none kV22 dc22 pm22 an22 cd22 ct22), sl22⟩) (c22 : PySem.W.codeIn K cd22 "_law_told" = true) (k22 : PySem.W.keepIn K (.ref f22) = true)
    {f23 : Addr} {od23 an23 : Option Addr} {sl23 : Array (Option Value)} {oc23 kV23 dc23 pm23 cd23 ct23 : Value}
    (a23 : PySem.W.nsIn K mainGlobals "_law_count" = some (some (.ref f23)))
    (l23 : K.lookup f23 = some ⟨oc23, od23, .func (PySem.W.fnOf "_law_count" "_law_count" (defArgs s__law_count) (defBody s__law_count) (defScope s__law_count) .none kV23 dc23 pm23 an23 cd23 ct23), sl23⟩) (c23 : PySem.W.codeIn K cd23 "_law_count" = true) (k23 : PySem.W.keepIn K (.ref f23) = true)
    {f24 : Addr} {od24 an24 : Option Addr} {sl24 : Array (Option Value)} {oc24 kV24 dc24 pm24 cd24 ct24 : Value}
    (a24 : PySem.W.nsIn K mainGlobals "_law_replaced" = some (some (.ref f24)))
    (l24 : K.lookup f24 = some ⟨oc24, od24, .func (PySem.W.fnOf "_law_replaced" "_law_replaced" (defArgs s__law_replaced) (defBody s__law_replaced) (defScope s__law_replaced) .none kV24 dc24 pm24 an24 cd24 ct24), sl24⟩) (c24 : PySem.W.codeIn K cd24 "_law_replaced" = true) (k24 : PySem.W.keepIn K (.ref f24) = true)
    {f25 : Addr} {od25 an25 : Option Addr} {sl25 : Array (Option Value)} {oc25 kV25 dc25 pm25 cd25 ct25 : Value}
    (a25 : PySem.W.nsIn K mainGlobals "_law_joint" = some (some (.ref f25)))
    (l25 : K.lookup f25 = some ⟨oc25, od25, .func (PySem.W.fnOf "_law_joint" "_law_joint" (defArgs s__law_joint) (defBody s__law_joint) (defScope s__law_joint) .none kV25 dc25 pm25 an25 cd25 ct25), sl25⟩) (c25 : PySem.W.codeIn K cd25 "_law_joint" = true) (k25 : PySem.W.keepIn K (.ref f25) = true)
    {f26 : Addr} {od26 an26 : Option Addr} {sl26 : Array (Option Value)} {oc26 kV26 dc26 pm26 cd26 ct26 : Value}
    (a26 : PySem.W.nsIn K mainGlobals "_law_leaf_kind" = some (some (.ref f26)))
    (l26 : K.lookup f26 = some ⟨oc26, od26, .func (PySem.W.fnOf "_law_leaf_kind" "_law_leaf_kind" (defArgs s__law_leaf_kind) (defBody s__law_leaf_kind) (defScope s__law_leaf_kind) .none kV26 dc26 pm26 an26 cd26 ct26), sl26⟩) (c26 : PySem.W.codeIn K cd26 "_law_leaf_kind" = true) (k26 : PySem.W.keepIn K (.ref f26) = true)
    {f27 : Addr} {od27 an27 : Option Addr} {sl27 : Array (Option Value)} {oc27 kV27 dc27 pm27 cd27 ct27 : Value}
    (a27 : PySem.W.nsIn K mainGlobals "_law_kind" = some (some (.ref f27)))
    (l27 : K.lookup f27 = some ⟨oc27, od27, .func (PySem.W.fnOf "_law_kind" "_law_kind" (defArgs s__law_kind) (defBody s__law_kind) (defScope s__law_kind) .none kV27 dc27 pm27 an27 cd27 ct27), sl27⟩) (c27 : PySem.W.codeIn K cd27 "_law_kind" = true) (k27 : PySem.W.keepIn K (.ref f27) = true)
    {f28 : Addr} {od28 an28 : Option Addr} {sl28 : Array (Option Value)} {oc28 kV28 dc28 pm28 cd28 ct28 : Value}
    (a28 : PySem.W.nsIn K mainGlobals "parts_of" = some (some (.ref f28)))
    (l28 : K.lookup f28 = some ⟨oc28, od28, .func (PySem.W.fnOf "parts_of" "parts_of" (defArgs s_parts_of) (defBody s_parts_of) (defScope s_parts_of) .none kV28 dc28 pm28 an28 cd28 ct28), sl28⟩) (c28 : PySem.W.codeIn K cd28 "parts_of" = true) (k28 : PySem.W.keepIn K (.ref f28) = true)
    {f29 : Addr} {od29 an29 : Option Addr} {sl29 : Array (Option Value)} {oc29 kV29 dc29 pm29 cd29 ct29 : Value}
    (a29 : PySem.W.nsIn K mainGlobals "_law_strange" = some (some (.ref f29)))
    (l29 : K.lookup f29 = some ⟨oc29, od29, .func (PySem.W.fnOf "_law_strange" "_law_strange" (defArgs s__law_strange) (defBody s__law_strange) (defScope s__law_strange) .none kV29 dc29 pm29 an29 cd29 ct29), sl29⟩) (c29 : PySem.W.codeIn K cd29 "_law_strange" = true) (k29 : PySem.W.keepIn K (.ref f29) = true)
    {f30 : Addr} {od30 an30 : Option Addr} {sl30 : Array (Option Value)} {oc30 kV30 dc30 pm30 cd30 ct30 : Value}
    (a30 : PySem.W.nsIn K mainGlobals "law" = some (some (.ref f30)))
    (l30 : K.lookup f30 = some ⟨oc30, od30, .func (PySem.W.fnOf "law" "law" (defArgs s_law) (defBody s_law) (defScope s_law) .none kV30 dc30 pm30 an30 cd30 ct30), sl30⟩) (c30 : PySem.W.codeIn K cd30 "law" = true) (k30 : PySem.W.keepIn K (.ref f30) = true)
    {t_BEFORE : Tok} (g_BEFORE : PySem.W.nsIn K mainGlobals "BEFORE" = some (some (.str " !\"#$" t_BEFORE)))
    {t_BEHIND : Tok} (g_BEHIND : PySem.W.nsIn K mainGlobals "BEHIND" = some (some (.str "&'()*+,-./0123456789:;<=>?@ABCDEFGHIJKLMNOPQRSTUVWXYZ[\\]^_`abcdefghijklmnopqrstuvwxyz{|}~" t_BEHIND)))
    {t_BOUND : Tok} (g_BOUND : PySem.W.nsIn K mainGlobals "BOUND" = some (some (.int 1000000000000000000000000000000 t_BOUND)))
    {t_LONGEST : Tok} (g_LONGEST : PySem.W.nsIn K mainGlobals "LONGEST" = some (some (.int 200 t_LONGEST)))
    {a_KINDS : Addr} {od_KINDS : Option Addr} {sl_KINDS : Array (Option Value)} {n_KINDS : Nat} {t_KINDS_0 t_KINDS_1 t_KINDS_2 : Tok} (g_KINDS : PySem.W.nsIn K mainGlobals "KINDS" = some (some (.ref a_KINDS))) (lt_KINDS : K.lookup a_KINDS = some ⟨.type "tuple", od_KINDS, .seq #[.str "int" t_KINDS_0, .str "flag" t_KINDS_1, .str "text" t_KINDS_2] n_KINDS, sl_KINDS⟩)
    {a_LEAVES : Addr} {od_LEAVES : Option Addr} {sl_LEAVES : Array (Option Value)} {n_LEAVES : Nat} {t_LEAVES_0 t_LEAVES_1 t_LEAVES_2 : Tok} (g_LEAVES : PySem.W.nsIn K mainGlobals "LEAVES" = some (some (.ref a_LEAVES))) (lt_LEAVES : K.lookup a_LEAVES = some ⟨.type "tuple", od_LEAVES, .seq #[.str "value" t_LEAVES_0, .str "attr" t_LEAVES_1, .str "dim" t_LEAVES_2] n_LEAVES, sl_LEAVES⟩)
    {a_ARITHMETIC : Addr} {od_ARITHMETIC : Option Addr} {sl_ARITHMETIC : Array (Option Value)} {n_ARITHMETIC : Nat} {t_ARITHMETIC_0 t_ARITHMETIC_1 t_ARITHMETIC_2 t_ARITHMETIC_3 t_ARITHMETIC_4 : Tok} (g_ARITHMETIC : PySem.W.nsIn K mainGlobals "ARITHMETIC" = some (some (.ref a_ARITHMETIC))) (lt_ARITHMETIC : K.lookup a_ARITHMETIC = some ⟨.type "tuple", od_ARITHMETIC, .seq #[.str "add" t_ARITHMETIC_0, .str "sub" t_ARITHMETIC_1, .str "mul" t_ARITHMETIC_2, .str "div" t_ARITHMETIC_3, .str "mod" t_ARITHMETIC_4] n_ARITHMETIC, sl_ARITHMETIC⟩)
    {a_COMPARISONS : Addr} {od_COMPARISONS : Option Addr} {sl_COMPARISONS : Array (Option Value)} {n_COMPARISONS : Nat} {t_COMPARISONS_0 t_COMPARISONS_1 t_COMPARISONS_2 t_COMPARISONS_3 t_COMPARISONS_4 t_COMPARISONS_5 : Tok} (g_COMPARISONS : PySem.W.nsIn K mainGlobals "COMPARISONS" = some (some (.ref a_COMPARISONS))) (lt_COMPARISONS : K.lookup a_COMPARISONS = some ⟨.type "tuple", od_COMPARISONS, .seq #[.str "eq" t_COMPARISONS_0, .str "ne" t_COMPARISONS_1, .str "lt" t_COMPARISONS_2, .str "le" t_COMPARISONS_3, .str "gt" t_COMPARISONS_4, .str "ge" t_COMPARISONS_5] n_COMPARISONS, sl_COMPARISONS⟩)
    {d_PARTS_KIND : Addr} {es_PARTS_KIND : Array DictEntry} {dn_PARTS_KIND : Nat}
    (g_PARTS_KIND : PySem.W.nsIn K mainGlobals "PARTS_KIND" = some (some (.ref d_PARTS_KIND)))
    (ld_PARTS_KIND : K.lookup d_PARTS_KIND = some ⟨.type "dict", none, .dict es_PARTS_KIND dn_PARTS_KIND, #[]⟩)
    (kl_PARTS_KIND : PySem.W.KeysLit w.params es_PARTS_KIND.toList)
    (lo_PARTS_KIND : (d_PARTS_KIND == sysModules) = false)
    (er_PARTS_KIND : EntR K mg es_PARTS_KIND.toList lk_PARTS_KIND)
    {d_RESULT_KIND : Addr} {es_RESULT_KIND : Array DictEntry} {dn_RESULT_KIND : Nat}
    (g_RESULT_KIND : PySem.W.nsIn K mainGlobals "RESULT_KIND" = some (some (.ref d_RESULT_KIND)))
    (ld_RESULT_KIND : K.lookup d_RESULT_KIND = some ⟨.type "dict", none, .dict es_RESULT_KIND dn_RESULT_KIND, #[]⟩)
    (kl_RESULT_KIND : PySem.W.KeysLit w.params es_RESULT_KIND.toList)
    (lo_RESULT_KIND : (d_RESULT_KIND == sysModules) = false)
    (er_RESULT_KIND : EntR K mg es_RESULT_KIND.toList lk_RESULT_KIND)
    (n_all : PySem.W.nsIn K mainGlobals "all" = some none)
    (n_bool : PySem.W.nsIn K mainGlobals "bool" = some none)
    (n_int : PySem.W.nsIn K mainGlobals "int" = some none)
    (n_isinstance : PySem.W.nsIn K mainGlobals "isinstance" = some none)
    (n_len : PySem.W.nsIn K mainGlobals "len" = some none)
    (n_list : PySem.W.nsIn K mainGlobals "list" = some none)
    (n_range : PySem.W.nsIn K mainGlobals "range" = some none)
    (n_str : PySem.W.nsIn K mainGlobals "str" = some none)
    (n_sum : PySem.W.nsIn K mainGlobals "sum" = some none)
    (n_tuple : PySem.W.nsIn K mainGlobals "tuple" = some none)
    (hlaw : ∀ ns : List Int, ns.length ≤ 63 → m_law [.shr (.frz (ns.map D.int))] = .ret false (.bl true) []) :
    ∃ (fd : FuncData) (cs : List (Addr × Addr)), (∀ p ∈ cs, K.lookup p.2 = none ∧ ∃ y d', (PyProof.Rows.recsOf q).find? (fun e => e.name == y) = some d' ∧ PySem.W.tabIn K y = some p) ∧ (∀ (s : Shared) (v : Value), BindsTo s fd ⟨[v], []⟩ [("_law_script", v)]) ∧ ∀ base : Heap, K.In base → base.Ns mainGlobals mg → (∀ p ∈ cs, GxR.TabB base mg p.1 p.2) → FnOk l.prog w K mg base (L2.CX l.prog w) 25 fa fd ["_law_script"] (@spLaw ⟨cs.map Prod.snd⟩ 63 K) := by
  have e := hfa.symm.trans (PySem.W.mg_of X G a30)
  cases e
  let T : Txt l.prog w K mg := {
    f__law_draw := f0, fd__law_draw := _, F__law_draw := fun_mk (st := s__law_draw) l0 c0 k0, b__law_draw := (fun_mk (st := s__law_draw) l0 c0 k0).binds (ps := ["_law_cell", "_law_many", "_law_bound"]) fun _ _ _ _ _ _ us hl => match us, hl with | [_, _, _], _ => rfl
    m__law_draw := PySem.W.mg_of X G a0, k__law_draw := k0
    f__law_draws := f1, fd__law_draws := _, F__law_draws := fun_mk (st := s__law_draws) l1 c1 k1, b__law_draws := (fun_mk (st := s__law_draws) l1 c1 k1).binds (ps := ["_law_cells"]) fun _ _ _ _ _ _ us hl => match us, hl with | [_], _ => rfl
    m__law_draws := PySem.W.mg_of X G a1, k__law_draws := k1
    f_Shape___init__ := f2, fd_Shape___init__ := _, F_Shape___init__ := fun_mk (st := s_Shape___init__) l2 c2 k2, b_Shape___init__ := (fun_mk (st := s_Shape___init__) l2 c2 k2).binds (ps := ["self", "dims", "attrs"]) fun _ _ _ _ _ _ us hl => match us, hl with | [_, _, _], _ => rfl
    f__law_next := f3, fd__law_next := _, F__law_next := fun_mk (st := s__law_next) l3 c3 k3, b__law_next := (fun_mk (st := s__law_next) l3 c3 k3).binds (ps := ["_law_state", "_law_bound"]) fun _ _ _ _ _ _ us hl => match us, hl with | [_, _], _ => rfl
    m__law_next := PySem.W.mg_of X G a3, k__law_next := k3
    f__law_shape := f4, fd__law_shape := _, F__law_shape := fun_mk (st := s__law_shape) l4 c4 k4, b__law_shape := (fun_mk (st := s__law_shape) l4 c4 k4).binds (ps := ["_law_state"]) fun _ _ _ _ _ _ us hl => match us, hl with | [_], _ => rfl
    m__law_shape := PySem.W.mg_of X G a4, k__law_shape := k4
    f__law_word := f5, fd__law_word := _, F__law_word := fun_mk (st := s__law_word) l5 c5 k5, b__law_word := (fun_mk (st := s__law_word) l5 c5 k5).binds (ps := ["_law_state"]) fun _ _ _ _ _ _ us hl => match us, hl with | [_], _ => rfl
    m__law_word := PySem.W.mg_of X G a5, k__law_word := k5
    f__law_number := f6, fd__law_number := _, F__law_number := fun_mk (st := s__law_number) l6 c6 k6, b__law_number := (fun_mk (st := s__law_number) l6 c6 k6).binds (ps := ["_law_state"]) fun _ _ _ _ _ _ us hl => match us, hl with | [_], _ => rfl
    m__law_number := PySem.W.mg_of X G a6, k__law_number := k6
    f__law_thing := f7, fd__law_thing := _, F__law_thing := fun_mk (st := s__law_thing) l7 c7 k7, b__law_thing := (fun_mk (st := s__law_thing) l7 c7 k7).binds (ps := ["_law_state", "_law_kind_here"]) fun _ _ _ _ _ _ us hl => match us, hl with | [_, _], _ => rfl
    m__law_thing := PySem.W.mg_of X G a7, k__law_thing := k7
    f__law_leaf := f8, fd__law_leaf := _, F__law_leaf := fun_mk (st := s__law_leaf) l8 c8 k8, b__law_leaf := (fun_mk (st := s__law_leaf) l8 c8 k8).binds (ps := ["_law_state", "_law_shape_here", "_law_kind_here"]) fun _ _ _ _ _ _ us hl => match us, hl with | [_, _, _], _ => rfl
    m__law_leaf := PySem.W.mg_of X G a8, k__law_leaf := k8
    f__law_expression := f9, fd__law_expression := _, F__law_expression := fun_mk (st := s__law_expression) l9 c9 k9, b__law_expression := (fun_mk (st := s__law_expression) l9 c9 k9).binds (ps := ["_law_state", "_law_shape_here", "_law_kind_here", "_law_depth"]) fun _ _ _ _ _ _ us hl => match us, hl with | [_, _, _, _], _ => rfl
    m__law_expression := PySem.W.mg_of X G a9, k__law_expression := k9
    f__law_flag := f10, fd__law_flag := _, F__law_flag := fun_mk (st := s__law_flag) l10 c10 k10, b__law_flag := (fun_mk (st := s__law_flag) l10 c10 k10).binds (ps := ["_law_state", "_law_shape_here", "_law_depth"]) fun _ _ _ _ _ _ us hl => match us, hl with | [_, _, _], _ => rfl
    m__law_flag := PySem.W.mg_of X G a10, k__law_flag := k10
    f__kind_from := f11, fd__kind_from := _, c__kind_from_c := cc11, P__kind_from := P11, F__kind_from := ⟨⟨_, _, _, _, _, _, _, _, rfl, l11, c11⟩⟩, b__kind_from := (fun_mk (st := s__kind_from) l11 c11 k11).binds (ps := ["word", "kinds"]) fun _ _ _ _ _ _ us hl => match us, hl with | [_, _], _ => rfl
    m__kind_from := PySem.W.mg_of X G a11, k__kind_from := k11
    f__index_of := f12, fd__index_of := _, F__index_of := fun_mk (st := s__index_of) l12 c12 k12, b__index_of := (fun_mk (st := s__index_of) l12 c12 k12).binds (ps := ["rows", "name"]) fun _ _ _ _ _ _ us hl => match us, hl with | [_, _], _ => rfl
    m__index_of := PySem.W.mg_of X G a12, k__index_of := k12
    f_attr_index := f13, fd_attr_index := _, F_attr_index := fun_mk (st := s_attr_index) l13 c13 k13, b_attr_index := (fun_mk (st := s_attr_index) l13 c13 k13).binds (ps := ["shape", "name"]) fun _ _ _ _ _ _ us hl => match us, hl with | [_, _], _ => rfl
    m_attr_index := PySem.W.mg_of X G a13, k_attr_index := k13
    f_is_text := f14, fd_is_text := _, F_is_text := fun_mk (st := s_is_text) l14 c14 k14, b_is_text := (fun_mk (st := s_is_text) l14 c14 k14).binds (ps := ["text"]) fun _ _ _ _ _ _ us hl => match us, hl with | [_], _ => rfl
    m_is_text := PySem.W.mg_of X G a14, k_is_text := k14
    f_is_integer := f15, fd_is_integer := _, F_is_integer := fun_mk (st := s_is_integer) l15 c15 k15, b_is_integer := (fun_mk (st := s_is_integer) l15 c15 k15).binds (ps := ["value"]) fun _ _ _ _ _ _ us hl => match us, hl with | [_], _ => rfl
    m_is_integer := PySem.W.mg_of X G a15, k_is_integer := k15
    f_is_value := f16, fd_is_value := _, F_is_value := fun_mk (st := s_is_value) l16 c16 k16, b_is_value := (fun_mk (st := s_is_value) l16 c16 k16).binds (ps := ["kind", "value"]) fun _ _ _ _ _ _ us hl => match us, hl with | [_, _], _ => rfl
    m_is_value := PySem.W.mg_of X G a16, k_is_value := k16
    f_dim_index := f17, fd_dim_index := _, F_dim_index := fun_mk (st := s_dim_index) l17 c17 k17, b_dim_index := (fun_mk (st := s_dim_index) l17 c17 k17).binds (ps := ["shape", "name"]) fun _ _ _ _ _ _ us hl => match us, hl with | [_, _], _ => rfl
    m_dim_index := PySem.W.mg_of X G a17, k_dim_index := k17
    f_Checker_leaf := f18, fd_Checker_leaf := _, F_Checker_leaf := fun_mk (st := s_Checker_leaf) l18 c18 k18, b_Checker_leaf := (fun_mk (st := s_Checker_leaf) l18 c18 k18).binds (ps := ["self", "expression", "number"]) fun _ _ _ _ _ _ us hl => match us, hl with | [_, _, _], _ => rfl
    f_Checker_kind := f19, fd_Checker_kind := _, F_Checker_kind := fun_mk (st := s_Checker_kind) l19 c19 k19, b_Checker_kind := (fun_mk (st := s_Checker_kind) l19 c19 k19).binds (ps := ["self", "expression"]) fun _ _ _ _ _ _ us hl => match us, hl with | [_, _], _ => rfl
    f_Checker___init__ := f20, fd_Checker___init__ := _, F_Checker___init__ := fun_mk (st := s_Checker___init__) l20 c20 k20, b_Checker___init__ := (fun_mk (st := s_Checker___init__) l20 c20 k20).binds (ps := ["self", "shape"]) fun _ _ _ _ _ _ us hl => match us, hl with | [_, _], _ => rfl
    f_kind_of := f21, fd_kind_of := _, F_kind_of := fun_mk (st := s_kind_of) l21 c21 k21, b_kind_of := (fun_mk (st := s_kind_of) l21 c21 k21).binds (ps := ["expression", "shape"]) fun _ _ _ _ _ _ us hl => match us, hl with | [_, _], _ => rfl
    m_kind_of := PySem.W.mg_of X G a21, k_kind_of := k21
    f__law_told := f22, fd__law_told := _, F__law_told := fun_mk (st := s__law_told) l22 c22 k22, b__law_told := (fun_mk (st := s__law_told) l22 c22 k22).binds (ps := ["_law_expression_here", "_law_shape_here"]) fun _ _ _ _ _ _ us hl => match us, hl with | [_, _], _ => rfl
    m__law_told := PySem.W.mg_of X G a22, k__law_told := k22
    f__law_count := f23, fd__law_count := _, F__law_count := fun_mk (st := s__law_count) l23 c23 k23, b__law_count := (fun_mk (st := s__law_count) l23 c23 k23).binds (ps := ["_law_expression_here"]) fun _ _ _ _ _ _ us hl => match us, hl with | [_], _ => rfl
    m__law_count := PySem.W.mg_of X G a23, k__law_count := k23
    f__law_replaced := f24, fd__law_replaced := _, F__law_replaced := fun_mk (st := s__law_replaced) l24 c24 k24, b__law_replaced := (fun_mk (st := s__law_replaced) l24 c24 k24).binds (ps := ["_law_expression_here", "_law_number_here", "_law_new"]) fun _ _ _ _ _ _ us hl => match us, hl with | [_, _, _], _ => rfl
    m__law_replaced := PySem.W.mg_of X G a24, k__law_replaced := k24
    f__law_joint := f25, fd__law_joint := _, F__law_joint := fun_mk (st := s__law_joint) l25 c25 k25, b__law_joint := (fun_mk (st := s__law_joint) l25 c25 k25).binds (ps := ["_law_word_here", "_law_kinds"]) fun _ _ _ _ _ _ us hl => match us, hl with | [_, _], _ => rfl
    m__law_joint := PySem.W.mg_of X G a25, k__law_joint := k25
    f__law_leaf_kind := f26, fd__law_leaf_kind := _, F__law_leaf_kind := fun_mk (st := s__law_leaf_kind) l26 c26 k26, b__law_leaf_kind := (fun_mk (st := s__law_leaf_kind) l26 c26 k26).binds (ps := ["_law_expression_here", "_law_shape_here"]) fun _ _ _ _ _ _ us hl => match us, hl with | [_, _], _ => rfl
    m__law_leaf_kind := PySem.W.mg_of X G a26, k__law_leaf_kind := k26
    f__law_kind := f27, fd__law_kind := _, F__law_kind := fun_mk (st := s__law_kind) l27 c27 k27, b__law_kind := (fun_mk (st := s__law_kind) l27 c27 k27).binds (ps := ["_law_expression_here", "_law_shape_here", "_law_number_here"]) fun _ _ _ _ _ _ us hl => match us, hl with | [_, _, _], _ => rfl
    m__law_kind := PySem.W.mg_of X G a27, k__law_kind := k27
    f_parts_of := f28, fd_parts_of := _, F_parts_of := fun_mk (st := s_parts_of) l28 c28 k28, b_parts_of := (fun_mk (st := s_parts_of) l28 c28 k28).binds (ps := ["expression"]) fun _ _ _ _ _ _ us hl => match us, hl with | [_], _ => rfl
    m_parts_of := PySem.W.mg_of X G a28, k_parts_of := k28
    f__law_strange := f29, fd__law_strange := _, F__law_strange := fun_mk (st := s__law_strange) l29 c29 k29, b__law_strange := (fun_mk (st := s__law_strange) l29 c29 k29).binds (ps := ["_law_state", "_law_shape_here"]) fun _ _ _ _ _ _ us hl => match us, hl with | [_, _], _ => rfl
    m__law_strange := PySem.W.mg_of X G a29, k__law_strange := k29
    f_law := fa, fd_law := _, F_law := fun_mk (st := s_law) l30 c30 k30, b_law := (fun_mk (st := s_law) l30 c30 k30).binds (ps := ["_law_script"]) fun _ _ _ _ _ _ us hl => match us, hl with | [_], _ => rfl
    m_law := PySem.W.mg_of X G a30, k_law := k30
    C_ManysidesError := C_ManysidesError, cm_ManysidesError := PySem.W.mg_of X G aC_ManysidesError
    C_InvalidQuery := C_InvalidQuery, cm_InvalidQuery := PySem.W.mg_of X G aC_InvalidQuery
    C_InvalidWords := C_InvalidWords, cm_InvalidWords := PySem.W.mg_of X G aC_InvalidWords
    f_ManysidesError_i := f_ManysidesError, cc_ManysidesError_i := cc_ManysidesError, cd_ManysidesError_i := cda_ManysidesError, fd_ManysidesError_i := _, su_ManysidesError_i := ⟨⟨_, _, _, _, _, _, _, _, _, rfl, lf_ManysidesError⟩, co_ManysidesError, ⟨_, _, _, _, _, _, lc_ManysidesError, lv_ManysidesError, ff_ManysidesError⟩, ⟨_, _, _, ce_ManysidesError⟩, Option.isSome_iff_exists.mp ic_ManysidesError, PySem.W.mg_none_of X G ns_super, tp_super⟩, b_ManysidesError_i := binds_full lT_ManysidesError rfl (fun us hl => match us, hl with | [_, _, _], _ => ⟨_, rfl, rfl⟩), ty_ManysidesError_i := ty_ManysidesError, fn_ManysidesError_i := fi_ManysidesError
    f_InvalidQuery_i := f_InvalidQuery, cc_InvalidQuery_i := cc_InvalidQuery, cd_InvalidQuery_i := cda_InvalidQuery, fd_InvalidQuery_i := _, su_InvalidQuery_i := ⟨⟨_, _, _, _, _, _, _, _, _, rfl, lf_InvalidQuery⟩, co_InvalidQuery, ⟨_, _, _, _, _, _, lc_InvalidQuery, lv_InvalidQuery, ff_InvalidQuery⟩, ⟨_, _, _, ce_InvalidQuery⟩, Option.isSome_iff_exists.mp ic_InvalidQuery, PySem.W.mg_none_of X G ns_super, tp_super⟩, b_InvalidQuery_i := .all (fun us hl => match us, hl with | [_, _], _ => rfl), ty_InvalidQuery_i := ty_InvalidQuery, fn_InvalidQuery_i := fi_InvalidQuery
    em_InvalidQuery := ⟨⟨⟨_, _, _, _, _, _, _, _, _, _, _, _, _, _, _, lC_InvalidQuery, rv_InvalidQuery⟩, sa_InvalidQuery, bx_InvalidQuery, tt_InvalidQuery, kk_InvalidQuery⟩, ⟨mm_InvalidQuery, op_any⟩, um_InvalidQuery, ve_InvalidQuery, np_InvalidQuery, nn_InvalidQuery⟩, es_InvalidQuery := ⟨ms_InvalidQuery, op_any⟩, eu_InvalidQuery := uc_InvalidQuery, ei_InvalidQuery := i_InvalidQuery, er_InvalidQuery := ⟨ga_InvalidQuery, gg_InvalidQuery, bx_InvalidQuery, hd_InvalidQuery, hc_InvalidQuery, x_hn, x_ht, mo_InvalidQuery, np_InvalidQuery, nn_InvalidQuery⟩
    hx_InvalidQuery_ManysidesError := hx_InvalidQuery_ManysidesError
    ix_InvalidQuery_InvalidQuery := ix_InvalidQuery_InvalidQuery
    ix_InvalidQuery_InvalidWords := ix_InvalidQuery_InvalidWords
    C_Shape := C_Shape, cm_Shape := PySem.W.mg_of X G aC_Shape, cl_Shape := ⟨pg_Shape, hd_Shape, po_Shape, sa_Shape⟩
    mk_Shape := ⟨mk_Shape, a2, i2, kc_Shape⟩
    C_Checker := C_Checker, cm_Checker := PySem.W.mg_of X G aC_Checker, cl_Checker := ⟨pg_Checker, hd_Checker, po_Checker, sa_Checker⟩
    mk_Checker := ⟨mk_Checker, a20, i20, kc_Checker⟩
    na_Checker_count := na_Checker_count
    na_Checker_shape := na_Checker_shape
    na_Shape_attrs := na_Shape_attrs
    na_Shape_dims := na_Shape_dims
    me_Checker_kind := ⟨a19, i19, k19⟩
    me_Checker_leaf := ⟨a18, i18, k18⟩
    t_BEFORE := t_BEFORE, c_BEFORE := PySem.W.mg_of X G g_BEFORE
    t_BEHIND := t_BEHIND, c_BEHIND := PySem.W.mg_of X G g_BEHIND
    t_BOUND := t_BOUND, c_BOUND := PySem.W.mg_of X G g_BOUND
    t_LONGEST := t_LONGEST, c_LONGEST := PySem.W.mg_of X G g_LONGEST
    a_KINDS := a_KINDS, c_KINDS := PySem.W.mg_of X G g_KINDS, r_KINDS := rep_tuple (vs := [.str "int", .str "flag", .str "text"]) lt_KINDS rfl rfl (by rw [sizeLine_eq]; exact Nat.le_of_ble_eq_true rfl) (.cons ⟨_, rfl⟩ (.cons ⟨_, rfl⟩ (.cons ⟨_, rfl⟩ (.nil)))) (fun _ => .cons (.str _) (.cons (.str _) (.cons (.str _) (.nil))))
    a_LEAVES := a_LEAVES, c_LEAVES := PySem.W.mg_of X G g_LEAVES, r_LEAVES := rep_tuple (vs := [.str "value", .str "attr", .str "dim"]) lt_LEAVES rfl rfl (by rw [sizeLine_eq]; exact Nat.le_of_ble_eq_true rfl) (.cons ⟨_, rfl⟩ (.cons ⟨_, rfl⟩ (.cons ⟨_, rfl⟩ (.nil)))) (fun _ => .cons (.str _) (.cons (.str _) (.cons (.str _) (.nil))))
    a_ARITHMETIC := a_ARITHMETIC, c_ARITHMETIC := PySem.W.mg_of X G g_ARITHMETIC, r_ARITHMETIC := rep_tuple (vs := [.str "add", .str "sub", .str "mul", .str "div", .str "mod"]) lt_ARITHMETIC rfl rfl (by rw [sizeLine_eq]; exact Nat.le_of_ble_eq_true rfl) (.cons ⟨_, rfl⟩ (.cons ⟨_, rfl⟩ (.cons ⟨_, rfl⟩ (.cons ⟨_, rfl⟩ (.cons ⟨_, rfl⟩ (.nil)))))) (fun _ => .cons (.str _) (.cons (.str _) (.cons (.str _) (.cons (.str _) (.cons (.str _) (.nil))))))
    a_COMPARISONS := a_COMPARISONS, c_COMPARISONS := PySem.W.mg_of X G g_COMPARISONS, r_COMPARISONS := rep_tuple (vs := [.str "eq", .str "ne", .str "lt", .str "le", .str "gt", .str "ge"]) lt_COMPARISONS rfl rfl (by rw [sizeLine_eq]; exact Nat.le_of_ble_eq_true rfl) (.cons ⟨_, rfl⟩ (.cons ⟨_, rfl⟩ (.cons ⟨_, rfl⟩ (.cons ⟨_, rfl⟩ (.cons ⟨_, rfl⟩ (.cons ⟨_, rfl⟩ (.nil))))))) (fun _ => .cons (.str _) (.cons (.str _) (.cons (.str _) (.cons (.str _) (.cons (.str _) (.cons (.str _) (.nil)))))))
    d_PARTS_KIND := d_PARTS_KIND, cg_PARTS_KIND := PySem.W.mg_of X G g_PARTS_KIND, gd_PARTS_KIND := gd_mk ld_PARTS_KIND kl_PARTS_KIND lo_PARTS_KIND er_PARTS_KIND
    d_RESULT_KIND := d_RESULT_KIND, cg_RESULT_KIND := PySem.W.mg_of X G g_RESULT_KIND, gd_RESULT_KIND := gd_mk ld_RESULT_KIND kl_RESULT_KIND lo_RESULT_KIND er_RESULT_KIND
    n_all := PySem.W.mg_none_of X G n_all
    n_bool := PySem.W.mg_none_of X G n_bool
    n_int := PySem.W.mg_none_of X G n_int
    n_isinstance := PySem.W.mg_none_of X G n_isinstance
    n_len := PySem.W.mg_none_of X G n_len
    n_list := PySem.W.mg_none_of X G n_list
    n_range := PySem.W.mg_none_of X G n_range
    n_str := PySem.W.mg_none_of X G n_str
    n_sum := PySem.W.mg_none_of X G n_sum
    n_tuple := PySem.W.mg_none_of X G n_tuple
  }
  refine ⟨T.fd_law, [(cc11, P11)], (tabs_one tN11 tR11 (tab_in a11 l11 rfl t11 v11) (fun _ h => absurd h List.not_mem_nil)), fun s v => .of_eq rfl, fun base _ _ hT => ?_⟩
  exact (@ok_law ⟨[P11]⟩ _ _ _ _ _ T (@TxB.mk ⟨[P11]⟩ _ _ _ _ _ _ (hT (cc11, P11) (by simp)) (show P11 ∈ ([P11] : List Addr) by simp))).imp (@law_sp ⟨[P11]⟩ _ _ _ _ hlaw)
end Mi

namespace Mi
open PySem L2
def stD (nums : List Int) (a : Nat) : D := .dK [(.inr (Str.ofString "numbers"), .lst (nums.map D.int)), (.inr (Str.ofString "at"), .int a)]
def nv (nums : List Int) (a : Nat) (b : Int) : Int := (nums.getD (((a : Int).fmod nums.length).toNat) 0 + (a : Int).fdiv nums.length).fmod b
theorem nv_ge {nums a b} (hb : 0 < b) : 0 ≤ nv nums a b := Int.fmod_nonneg_of_pos _ hb
theorem nv_lt {nums a b} (hb : 0 < b) : nv nums a b < b := Int.fmod_lt_of_pos _ hb
theorem next_eq {nums : List Int} {a : Nat} {b : Int} (h0 : 0 < nums.length) (hl : nums.length ≤ 100000) (hb : 0 < b) :
    m__law_next [.own true (stD nums a), .shr (.int b)] = .ret false (.int (nv nums a b)) [stD nums (a + 1)] := by
  have g1 : ∀ env : En, getOwn env 0 = some (stD nums a) → eDGetO 0 (eC (.str (Str.ofString "numbers"))) env = .ok (.lst (nums.map D.int)) env := by
    intro env h
    simp [eDGetO, h, stD, dGet, dLook_cons, ofString_inj]
  have g2 : ∀ env : En, getOwn env 0 = some (stD nums a) → eDGetO 0 (eC (.str (Str.ofString "at"))) env = .ok (.int a) env := by
    intro env h
    simp [eDGetO, h, stD, dGet, dLook_cons, ofString_inj]
  have k0 : (nums.length : Int) ≠ 0 := by omega
  have k1 : (nums.length : Int).natAbs.log2 < 9000 := Nat.lt_trans (log2_lt (k := 20) (by omega) (by decide)) (by decide)
  have k6 := dMod_i (a : Int) nums.length k0
  have k7 := dDiv_i (a : Int) nums.length k0 k1
  have k2 : 0 ≤ (a : Int).fmod nums.length := Int.fmod_nonneg_of_pos _ (by omega)
  have k3 : (a : Int).fmod nums.length < nums.length := Int.fmod_lt_of_pos _ (by omega)
  have k4 : dIx (.lst (nums.map D.int)) (.int ((a : Int).fmod nums.length)) = some (.int (nums.getD (((a : Int).fmod nums.length).toNat) 0)) := by
    rw [dIx_l _ _ k2 (by rw [List.length_map]; exact k3), List.getElem?_map, List.getD_eq_getElem?_getD, List.getElem?_eq_getElem (by omega)]
    rfl
  have k5 : b ≠ 0 := by omega
  have g3 : dPut (stD nums a) (.str (Str.ofString "at")) (.int ((a : Int) + 1)) = some (stD nums (a + 1)) := by
    simp [stD, dPut, dPutL, ofString_inj]
  simp [m__law_next, runF, b__law_next, argsE, g1, g2, g3, getOwn, k6, k7, k4, dMod_i, k5, mPut, eV, outsAt]
  simp [nv]

theorem rngD_drop (n : Nat) : rngD 0 n = (List.range n).map fun (k : Nat) => D.int (k : Int) := rngD_nat n
theorem draw_eq (c b : Int) (hb : 0 < b) (hb2 : b.natAbs.log2 < 9000) : ∃ L : List Int, m__law_draw [.shr (.int c), .shr (.int 40), .shr (.int b)] = .ret true (.lst (L.map D.int)) [] ∧ L.length = 40 := by
  obtain ⟨L, d, h, _⟩ := draw_gen c b 40 (by decide) hb hb2
  exact ⟨L, d, h⟩
theorem draws_eq (cs : List Int) (hcs : cs.length ≤ 100) : ∃ L : List Int, m__law_draws [.shr (.lst (cs.map D.int))] = .ret true (stD L 0) [] ∧ L.length = 40 * cs.length := by
  have sh : dShl (.int 1) (.int 20) = some (.int 1048576) := rfl
  obtain ⟨env', h1, h2⟩ := forL_all (g := gN 2) (body := (mSet 1 (eOp dAdd (eV 1) (eCallN 3 m__law_draw (rSh (eV 2) (rSh (eC (.int 40)) (rSh (eOp dShl (eC (.int 1)) (eC (.int 20))) rNil))))))) (clr := [2])
    (fun xs env => ∃ (L : List Int), L.length + 40 * xs.length = 40 * cs.length ∧ (∀ x ∈ xs, ∃ k : Int, x = .int k) ∧ env = [some (.shr (.lst (cs.map D.int))), some (.shr (.lst (L.map D.int))), none])
    (by
      rintro x xs env ⟨L, hL, hx, rfl⟩
      obtain ⟨k, rfl⟩ := hx x List.mem_cons_self
      obtain ⟨L2, e2, hL2⟩ := draw_eq k 1048576 (by decide) (by decide)
      have ha : dAdd (.lst (L.map D.int)) (.lst (L2.map D.int)) = some (.lst ((L ++ L2).map D.int)) := by
        simp at hL
        unfold dAdd
        simp only [List.length_map, List.map_append]
        exact if_pos (by omega)
      simp [eV, callN, ioIx, slotsOf, sh, e2, putOuts, ha, clrE]
      exact ⟨L ++ L2, by simp at hL ⊢; omega, fun y hy => hx y (List.mem_cons_of_mem _ hy), by simp⟩)
    (cs.map D.int) [some (.shr (.lst (cs.map D.int))), some (.shr (.lst [])), none]
    ⟨[], by simp, by
      intro x hx
      obtain ⟨k, _, rfl⟩ := List.mem_map.mp hx
      exact ⟨k, rfl⟩, rfl⟩
  obtain ⟨L, hL, _, rfl⟩ := h2
  refine ⟨L, ?_, by simpa using hL⟩
  simp [m__law_draws, runF, b__law_draws, lp__law_draws_1, argsE, eV, h1, outsAt, eDisp, pDisp, dPutL, stD, ofString_inj]
/-! the draws -/
section
variable {L : List Int} (h0 : 0 < L.length) (hl : L.length ≤ 100000)
include h0 hl
theorem pick_eq {a : Nat} {b : Int} (hb : 0 < b) : m__law_next [.own true (stD L a), .shr (.int b)] = .ret false (.int (nv L a b)) [stD L (a + 1)] := next_eq h0 hl hb
theorem word_eq (a : Nat) : ∃ s a', m__law_word [.own true (stD L a)] = .ret false (.str s) [stD L a'] ∧ OkS s ∧ s.length ≤ 3 := by
  have n4 := next_eq (a := a) h0 hl (show (0 : Int) < 4 by decide)
  have g4 := nv_ge (nums := L) (a := a) (show (0 : Int) < 4 by decide)
  have u4 := nv_lt (nums := L) (a := a) (show (0 : Int) < 4 by decide)
  have sm : small62 (nv L a 4) = true := small_of (by omega) (by omega)
  have al : (Str.ofString "abXY z09{~.\n").length = 12 := by decide +kernel
  have ao : OkS (Str.ofString "abXY z09{~.\n") := by decide +kernel
  obtain ⟨ds, env', h1, ⟨a', h2⟩, h3, h4⟩ := lc_all (i := 1) (m := (eOp dIx (eC (.str "abXY z09{~.\n")) (eCall 2 m__law_next (rIo 0 (rSh (eC (.int 12)) rNil))))) (vs := [1])
    (fun xs env => ∃ a, env = [some (.own true (stD L a)), none]) (fun d => ∃ c, d = .str ⟨#[c]⟩ ∧ okC c)
    (by
      rintro x xs env ⟨a, rfl⟩
      have n12 := next_eq (a := a) h0 hl (show (0 : Int) < 12 by decide)
      obtain ⟨c, e1, e2⟩ := dIx_sign (z := Str.ofString "abXY z09{~.\n") (i := nv L a 12) (by rw [al]; decide) (nv_ge (by decide)) (by rw [al]; exact nv_lt (by decide))
      simp [callR, rIo, getOwn, ioIx, slotsOf, putOuts, n12, e1, wipeE]
      exact ⟨ao c e2, _, rfl⟩)
    (rngD 0 (nv L a 4).toNat) [some (.own true (stD L (a + 1))), none] ⟨_, rfl⟩
  subst h2
  have h5 : ds.length = (nv L a 4).toNat := by rw [h4, rngD_drop, List.length_map, List.length_range]
  obtain ⟨s, e1, e2, e3⟩ := join_ones ds h3 (by omega)
  refine ⟨s, a', ?_, e2, by omega⟩
  have l2 : (rngD 0 (nv L a 4).toNat).length ≤ 16777216 := by omega
  simp [m__law_word, runF, b__law_word, lc__law_word_1, argsE, lcR, callR, rIo, getOwn, ioIx, slotsOf, putOuts, n4, iR1F_ok sm, h1, l2, wipeE, backE, e1, outsAt]
theorem number_eq (a : Nat) : ∃ n a', m__law_number [.own true (stD L a)] = .ret false (.int n) [stD L a'] ∧ -10 ^ 30 < n ∧ n < 10 ^ 30 := by
  have n9 := next_eq (a := a) h0 hl (show (0 : Int) < 9 by decide)
  have n5 := next_eq (a := a + 1) h0 hl (show (0 : Int) < 5 by decide)
  have nA := next_eq (a := a + 1) h0 hl (show (0 : Int) < 1048576 by decide)
  have nB := next_eq (a := a + 1 + 1) h0 hl (show (0 : Int) < 1048576 by decide)
  have nC := next_eq (a := a + 1) h0 hl (show (0 : Int) < 13 by decide)
  have p30 : dPow (.int 10) (.int 30) = some (.int 1000000000000000000000000000000) := rfl
  have p15 : dPow (.int 10) (.int 15) = some (.int 1000000000000000) := rfl
  have p29 : dPow (.int 10) (.int 29) = some (.int 100000000000000000000000000000) := rfl
  have s20 : dShl (.int 1) (.int 20) = some (.int 1048576) := rfl
  have s39 : dShl (.int 1) (.int 39) = some (.int 549755813888) := rfl
  by_cases c0 : nv L a 9 = 0
  · obtain ⟨z, e1, n, rfl, e2, e3⟩ := dIx_all (P := fun z => ∃ n, z = .int n ∧ -10 ^ 30 < n ∧ n < 10 ^ 30) (xs := [.int 999999999999999999999999999999, .int (-999999999999999999999999999999), .int 1000000000000000, .int (-1000000000000000), .int 100000000000000000000000000000]) (by
      intro x hx
      simp only [List.mem_cons, List.not_mem_nil, or_false] at hx
      rcases hx with rfl | rfl | rfl | rfl | rfl <;> exact ⟨_, rfl, by decide, by decide⟩) (i := nv L (a + 1) 5) (nv_ge (by decide)) (nv_lt (by decide))
    refine ⟨n, a + 1 + 1, ?_, e2, e3⟩
    simp [m__law_number, runF, b__law_number, argsE, callR, rIo, getOwn, ioIx, slotsOf, putOuts, n9, eV, c0, p30, p15, p29, n5, e1, outsAt]
  · by_cases c1 : nv L a 9 = 1
    · have a1 := nv_ge (nums := L) (a := a + 1) (show (0 : Int) < 1048576 by decide)
      have a2 := nv_lt (nums := L) (a := a + 1) (show (0 : Int) < 1048576 by decide)
      have b1 := nv_ge (nums := L) (a := a + 1 + 1) (show (0 : Int) < 1048576 by decide)
      have b2 := nv_lt (nums := L) (a := a + 1 + 1) (show (0 : Int) < 1048576 by decide)
      have mm := dMul_i (nv L (a + 1) 1048576) (nv L (a + 1 + 1) 1048576) (by omega) (by omega)
      have x1 : 0 ≤ nv L (a + 1) 1048576 * nv L (a + 1 + 1) 1048576 := Int.mul_nonneg a1 b1
      have x2 : nv L (a + 1) 1048576 * nv L (a + 1 + 1) 1048576 ≤ 1048576 * 1048576 := Int.mul_le_mul (by omega) (by omega) b1 (by decide)
      refine ⟨nv L (a + 1) 1048576 * nv L (a + 1 + 1) 1048576 - 549755813888, a + 1 + 1 + 1, ?_, by omega, by omega⟩
      simp [m__law_number, runF, b__law_number, argsE, callR, rIo, getOwn, ioIx, slotsOf, putOuts, n9, eV, c0, c1, s20, s39, nA, nB, mm, outsAt]
    · have a1 := nv_ge (nums := L) (a := a + 1) (show (0 : Int) < 13 by decide)
      have a2 := nv_lt (nums := L) (a := a + 1) (show (0 : Int) < 13 by decide)
      refine ⟨nv L (a + 1) 13 - 6, a + 1 + 1, ?_, by omega, by omega⟩
      simp [m__law_number, runF, b__law_number, argsE, callR, rIo, getOwn, ioIx, slotsOf, putOuts, n9, eV, c0, c1, nC, outsAt]
end
theorem mul_OkS {s : Str} (h : OkS s) (n : Int) (hn : 2 ≤ n) (h2 : s.length ≠ 0) : OkS (Txt.mul s n) ∧ (Txt.mul s n).length = s.length * n.toNat := by
  have e : (Txt.mul s n).cps.toList = (List.replicate n.toNat s.cps.toList).flatten := by
    unfold Txt.mul
    rw [if_neg (by omega), if_neg (by simp; omega)]
    have key : ∀ (k : Nat) (acc : Array Nat), ((List.replicate k s.cps).foldl (· ++ ·) acc).toList = acc.toList ++ (List.replicate k s.cps.toList).flatten := by
      intro k
      induction k with
      | zero => intro acc; simp
      | succ k ih => intro acc; rw [List.replicate_succ, List.foldl_cons, ih, List.replicate_succ]; simp
    show ((List.replicate n.toNat s.cps).foldl (· ++ ·) #[]).toList = _
    rw [key]; simp
  constructor
  · intro c hc
    rw [e] at hc
    obtain ⟨l, hl, hc⟩ := List.mem_flatten.mp hc
    rw [(List.mem_replicate.mp hl).2] at hc
    exact h c hc
  · rw [str_len, e, str_len]; simp [Nat.mul_comm]
section
variable {L : List Int} (h0 : 0 < L.length) (hl : L.length ≤ 100000)
include h0 hl
theorem thing_int (a : Nat) : ∃ n a', m__law_thing [.own true (stD L a), .shr (.str (Str.ofString "int"))] = .ret false (.int n) [stD L a'] ∧ -10 ^ 30 < n ∧ n < 10 ^ 30 := by
  obtain ⟨n, a', e, h1, h2⟩ := number_eq h0 hl a
  refine ⟨n, a', ?_, h1, h2⟩
  simp [m__law_thing, runF, b__law_thing, argsE, callR, rIo, getOwn, ioIx, slotsOf, putOuts, eV, e, outsAt]
theorem thing_flag (a : Nat) : ∃ b a', m__law_thing [.own true (stD L a), .shr (.str (Str.ofString "flag"))] = .ret false (.bl b) [stD L a'] := by
  have n2 := next_eq (a := a) h0 hl (show (0 : Int) < 2 by decide)
  refine ⟨decide (nv L a 2 = 1), a + 1, ?_⟩
  simp [m__law_thing, runF, b__law_thing, argsE, callR, rIo, getOwn, ioIx, slotsOf, putOuts, eV, n2, outsAt]
theorem thing_text (a : Nat) : ∃ s a', m__law_thing [.own true (stD L a), .shr (.str (Str.ofString "text"))] = .ret false (.str s) [stD L a'] ∧ OkS s ∧ s.length ≤ 200 := by
  have n12 := next_eq (a := a) h0 hl (show (0 : Int) < 12 by decide)
  by_cases c : nv L a 12 = 0
  · have n3 := next_eq (a := a + 1) h0 hl (show (0 : Int) < 3 by decide)
    have n4 := next_eq (a := a + 1 + 1) h0 hl (show (0 : Int) < 3 by decide)
    obtain ⟨z, e1, s, rfl, e2, e3, e4⟩ := dIx_all (P := fun z => ∃ s : Str, z = .str s ∧ OkS s ∧ s.length ≠ 0 ∧ s.length ≤ 2) (xs := [.str (Str.ofString "~"), .str (Str.ofString "ab"), .str (Str.ofString " ")]) (by
      intro x hx
      simp only [List.mem_cons, List.not_mem_nil, or_false] at hx
      rcases hx with rfl | rfl | rfl <;> exact ⟨_, rfl, by decide +kernel, by decide +kernel, by decide +kernel⟩) (i := nv L (a + 1) 3) (nv_ge (by decide)) (nv_lt (by decide))
    obtain ⟨z, d1, n, rfl, d2, d3⟩ := dIx_all (P := fun z => ∃ n : Int, z = .int n ∧ 2 ≤ n ∧ n ≤ 100) (xs := [.int 100, .int 99, .int 60]) (by
      intro x hx
      simp only [List.mem_cons, List.not_mem_nil, or_false] at hx
      rcases hx with rfl | rfl | rfl <;> exact ⟨_, rfl, by decide, by decide⟩) (i := nv L (a + 1 + 1) 3) (nv_ge (by decide)) (nv_lt (by decide))
    obtain ⟨q1, q2⟩ := mul_OkS e2 n d2 e3
    have hle : s.length * n.toNat ≤ 2 * 100 := Nat.mul_le_mul e4 (by omega)
    have hm : dMul (.str s) (.int n) = some (.str (Txt.mul s n)) := if_pos ⟨by omega, by omega, by omega⟩
    refine ⟨Txt.mul s n, a + 1 + 1 + 1, ?_, q1, by rw [q2]; omega⟩
    simp [m__law_thing, runF, b__law_thing, argsE, callR, rIo, getOwn, ioIx, slotsOf, putOuts, eV, n12, c, n3, n4, e1, d1, hm, outsAt]
  · obtain ⟨s, a', e, h1, h2⟩ := word_eq h0 hl (a + 1)
    refine ⟨s, a', ?_, h1, by omega⟩
    simp [m__law_thing, runF, b__law_thing, argsE, callR, rIo, getOwn, ioIx, slotsOf, putOuts, eV, n12, c, e, outsAt]
end
def Kd (k : String) : Prop := k = "int" ∨ k = "flag" ∨ k = "text"
end Mi

namespace Mi
open PySem L2
/-! ### shapes, places, values: what the law draws -/
structure Dm where
  n : String
  lo : Int
  hi : Int
  st : Int
def Dm.ok (d : Dm) : Prop := -5 ≤ d.lo ∧ d.lo ≤ d.hi ∧ d.hi ≤ d.lo + 5 ∧ d.lo ≤ 3 ∧ 1 ≤ d.st ∧ d.st ≤ 4
def dimD (d : Dm) : D := .tup [.str (Str.ofString d.n), .int d.lo, .int d.hi, .int d.st]
def abcd : List String := ["a", "b", "c", "d"]
def attrD (p : String × String) : D := .tup [.str (Str.ofString p.1), .str (Str.ofString p.2)]
def attrsD (ks : List String) : List D := (abcd.zip ks).map attrD
def shD (ds : List Dm) (ks : List String) : D := .ins (Str.ofString "Shape") [(Str.ofString "dims", .tup (ds.map dimD)), (Str.ofString "attrs", .tup (attrsD ks))]
structure ShOk (ds : List Dm) (ks : List String) : Prop where
  d1 : 1 ≤ ds.length
  d3 : ds.length ≤ 3
  dok : ∀ d ∈ ds, d.ok
  a1 : 1 ≤ ks.length
  a4 : ks.length ≤ 4
  kok : ∀ k ∈ ks, Kd k
theorem fGet_dims (ds : List Dm) (ks : List String) : fGet (Str.ofString "Shape") (Str.ofString "dims") (shD ds ks) = some (.tup (ds.map dimD)) := by
  simp [fGet, shD]
theorem fGet_attrs (ds : List Dm) (ks : List String) : fGet (Str.ofString "Shape") (Str.ofString "attrs") (shD ds ks) = some (.tup (attrsD ks)) := by
  have : (Str.ofString "attrs" == Str.ofString "dims") = false := by rw [beq_eq_false_iff_ne]; intro h; exact absurd (ofString_inj.mp h) (by decide)
  simp [fGet, shD, List.lookup, this]
theorem init_eq (x y : D) : m_Shape___init__ [.own true (.ins (Str.ofString "Shape") []), .shr x, .shr y] = .ret false .non [.ins (Str.ofString "Shape") [(Str.ofString "dims", x), (Str.ofString "attrs", y)]] := by
  simp [m_Shape___init__, runF, b_Shape___init__, argsE, mFPut, eV, fPut, ofString_inj, outsAt]
theorem attrsD_snoc (ks : List String) (k : String) (h : ks.length < 4) : attrsD (ks ++ [k]) = attrsD ks ++ [attrD (abcd.getD ks.length "", k)] := by
  match ks, h with
  | [], _ => rfl
  | [_], _ => rfl
  | [_, _], _ => rfl
  | [_, _, _], _ => rfl
  | _ :: _ :: _ :: _ :: _, h => simp only [List.length_cons] at h; omega
section
variable {L : List Int} (h0 : 0 < L.length) (hl : L.length ≤ 100000)
include h0 hl
theorem shape_eq (a : Nat) : ∃ ds ks a', m__law_shape [.own true (stD L a)] = .ret true (shD ds ks) [stD L a'] ∧ ShOk ds ks := by
  have n3 := next_eq (a := a) h0 hl (show (0 : Int) < 3 by decide)
  have g3 := nv_ge (nums := L) (a := a) (show (0 : Int) < 3 by decide)
  have u3 := nv_lt (nums := L) (a := a) (show (0 : Int) < 3 by decide)
  have sl : dSlL (.lst [.str (Str.ofString "x"), .str (Str.ofString "y"), .str (Str.ofString "z")]) none (some (1 + nv L a 3)) = some (.lst ([D.str (Str.ofString "x"), .str (Str.ofString "y"), .str (Str.ofString "z")].take (1 + nv L a 3).toNat)) := sl_take _ _ (by omega)
  have hxs : ∀ x ∈ [D.str (Str.ofString "x"), .str (Str.ofString "y"), .str (Str.ofString "z")].take (1 + nv L a 3).toNat, ∃ n, x = .str (Str.ofString n) := by
    intro x hx
    have := List.mem_of_mem_take hx
    simp only [List.mem_cons, List.not_mem_nil, or_false] at this
    rcases this with rfl | rfl | rfl <;> exact ⟨_, rfl⟩
  have hlen : ([D.str (Str.ofString "x"), .str (Str.ofString "y"), .str (Str.ofString "z")].take (1 + nv L a 3).toNat).length = (1 + nv L a 3).toNat := by
    rw [List.length_take]; simp only [List.length_cons, List.length_nil]; omega
  generalize [D.str (Str.ofString "x"), .str (Str.ofString "y"), .str (Str.ofString "z")].take (1 + nv L a 3).toNat = xs0 at sl hxs hlen
  have hm1 : 1 ≤ (1 + nv L a 3).toNat := by omega
  have hm3 : (1 + nv L a 3).toNat ≤ 3 := by omega
  generalize (1 + nv L a 3).toNat = m0 at hlen hm1 hm3
  obtain ⟨env', h1, _, a1, ds, hds, hdok, rfl⟩ := forL_all (g := gN 2) (body := (mSeq (mSet 5 (eOp dSub (eCall 2 m__law_next (rIo 0 (rSh (eC (.int 9)) rNil))) (eC (.int 5)))) (mApp 1 (eTup (aCons (eV 2) (aCons (eV 5) (aCons (eOp dAdd (eV 5) (eCall 2 m__law_next (rIo 0 (rSh (eC (.int 6)) rNil)))) (aCons (eOp dAdd (eC (.int 1)) (eCall 2 m__law_next (rIo 0 (rSh (eC (.int 4)) rNil)))) aNil)))))))) (clr := [2, 5])
    (fun xs env => (∀ x ∈ xs, ∃ n, x = .str (Str.ofString n)) ∧ ∃ a ds, List.length ds + xs.length = m0 ∧ (∀ d ∈ ds, Dm.ok d) ∧ env = [some (.own true (stD L a)), some (.own false (.lst (ds.map dimD))), none, none, none, none])
    (by
      rintro x xs env ⟨hx, a, ds, hds, hok, rfl⟩
      obtain ⟨n, rfl⟩ := hx _ List.mem_cons_self
      have hr := fun y hy => hx y (List.mem_cons_of_mem _ hy)
      have m9 := next_eq (a := a) h0 hl (show (0 : Int) < 9 by decide)
      have m6 := next_eq (a := a + 1) h0 hl (show (0 : Int) < 6 by decide)
      have m4 := next_eq (a := a + 1 + 1) h0 hl (show (0 : Int) < 4 by decide)
      have b9 := nv_ge (nums := L) (a := a) (show (0 : Int) < 9 by decide)
      have c9 := nv_lt (nums := L) (a := a) (show (0 : Int) < 9 by decide)
      have b6 := nv_ge (nums := L) (a := a + 1) (show (0 : Int) < 6 by decide)
      have c6 := nv_lt (nums := L) (a := a + 1) (show (0 : Int) < 6 by decide)
      have b4 := nv_ge (nums := L) (a := a + 1 + 1) (show (0 : Int) < 4 by decide)
      have c4 := nv_lt (nums := L) (a := a + 1 + 1) (show (0 : Int) < 4 by decide)
      have hl2 : ds.length < 16777216 := by omega
      simp [callR, rIo, getOwn, getOwnL, ioIx, slotsOf, putOuts, m9, m6, m4, eV, mApp, hl2, clrE]
      refine ⟨hr, _, ds ++ [⟨n, nv L a 9 - 5, nv L a 9 - 5 + nv L (a + 1) 6, 1 + nv L (a + 1 + 1) 4⟩], ?_, ?_, rfl, by simp [dimD]⟩
      · simp at hds ⊢; omega
      · intro d hd
        rcases List.mem_append.mp hd with h | h
        · exact hok d h
        · cases List.mem_singleton.mp h
          exact ⟨by show -5 ≤ nv L a 9 - 5; omega, by show nv L a 9 - 5 ≤ nv L a 9 - 5 + nv L (a + 1) 6; omega, by show nv L a 9 - 5 + nv L (a + 1) 6 ≤ nv L a 9 - 5 + 5; omega, by show nv L a 9 - 5 ≤ 3; omega, by show 1 ≤ 1 + nv L (a + 1 + 1) 4; omega, by show 1 + nv L (a + 1 + 1) 4 ≤ 4; omega⟩) xs0 [some (.own true (stD L (a + 1))), some (.own false (.lst [])), none, none, none, none] ⟨hxs, a + 1, [], by simp [hlen], by simp, rfl⟩
  have k4 := next_eq (a := a1) h0 hl (show (0 : Int) < 4 by decide)
  have g4 := nv_ge (nums := L) (a := a1) (show (0 : Int) < 4 by decide)
  have u4 := nv_lt (nums := L) (a := a1) (show (0 : Int) < 4 by decide)
  have s62 : small62 (1 + nv L a1 4) = true := small_of (by omega) (by omega)
  have hM1 : 1 ≤ (1 + nv L a1 4).toNat := by omega
  have hM4 : (1 + nv L a1 4).toNat ≤ 4 := by omega
  generalize hM : (1 + nv L a1 4).toNat = M at hM1 hM4
  have rg := rngD_drop M
  rw [List.range_eq_range'] at rg
  have i4 : ∀ i, dMod (.int i) (.int 4) = some (.int (i.fmod 4)) := fun i => dMod_i _ _ (by decide)
  obtain ⟨env2, h2, ks, a2, hks, hrest, hkok, rfl⟩ := forL_all (g := gN 4) (body := (mApp 3 (eTup (aCons (eOp dIx (eLst (aCons (eC (.str "a")) (aCons (eC (.str "b")) (aCons (eC (.str "c")) (aCons (eC (.str "d")) aNil))))) (eV 4)) (aCons (eOp dIx (eLst (aCons (eC (.str "int")) (aCons (eC (.str "flag")) (aCons (eC (.str "text")) (aCons (eC (.str "int")) aNil))))) (eOp dMod (eCB dInt (aCons (eOp dAdd (eV 4) (eCall 2 m__law_next (rIo 0 (rSh (eC (.int 3)) rNil)))) aNil)) (eC (.int 4)))) aNil))))) (clr := [4])
    (fun xs env => ∃ (ks : List String) (a : Nat), ks.length + xs.length = M ∧ xs = (List.range' ks.length xs.length).map (fun (k : Nat) => D.int (k : Int)) ∧ (∀ k ∈ ks, Kd k) ∧ env = [some (.own true (stD L a)), some (.own false (.lst (ds.map dimD))), none, some (.own false (.lst (attrsD ks))), none, none])
    (by
      rintro x xs env ⟨ks, a, hks, hx, hok, rfl⟩
      rw [List.length_cons, List.range'_succ, List.map_cons] at hx
      obtain ⟨rfl, hx2⟩ := List.cons.inj hx
      rw [List.length_cons] at hks
      have m3 := next_eq (a := a) h0 hl (show (0 : Int) < 3 by decide)
      have b3 := nv_ge (nums := L) (a := a) (show (0 : Int) < 3 by decide)
      have hk4 : ks.length < 4 := by omega
      have e1 : dIx (.lst [.str (Str.ofString "a"), .str (Str.ofString "b"), .str (Str.ofString "c"), .str (Str.ofString "d")]) (.int ks.length) = some (.str (Str.ofString (abcd.getD ks.length ""))) := by
        generalize ks.length = q at hk4
        match q, hk4 with
        | 0, _ => rfl
        | 1, _ => rfl
        | 2, _ => rfl
        | 3, _ => rfl
      obtain ⟨z, e2, k, rfl, e3⟩ := dIx_all (P := fun z => ∃ k, z = .str (Str.ofString k) ∧ Kd k) (xs := [.str (Str.ofString "int"), .str (Str.ofString "flag"), .str (Str.ofString "text"), .str (Str.ofString "int")]) (by
        intro x hx
        simp only [List.mem_cons, List.not_mem_nil, or_false] at hx
        rcases hx with rfl | rfl | rfl | rfl
        · exact ⟨_, rfl, .inl rfl⟩
        · exact ⟨_, rfl, .inr (.inl rfl)⟩
        · exact ⟨_, rfl, .inr (.inr rfl)⟩
        · exact ⟨_, rfl, .inl rfl⟩) (i := ((ks.length : Int) + nv L a 3).fmod 4) (Int.fmod_nonneg_of_pos _ (by decide)) (Int.fmod_lt_of_pos _ (by decide))
      have hl2 : (attrsD ks).length < 16777216 := by
        unfold attrsD
        rw [List.length_map, List.length_zip]
        have : abcd.length = 4 := rfl
        omega
      simp [callR, rIo, getOwn, getOwnL, ioIx, slotsOf, putOuts, m3, eV, mApp, hl2, clrE, e1, i4, e2]
      refine ⟨ks ++ [k], ?_, ?_, ?_, ⟨_, rfl⟩, by rw [attrsD_snoc ks k hk4]; simp [attrD]⟩
      · simp; omega
      · rw [List.length_append]; exact hx2
      · intro y hy
        rcases List.mem_append.mp hy with h | h
        · exact hok y h
        · cases List.mem_singleton.mp h; exact e3) (rngD 0 M) [some (.own true (stD L (a1 + 1))), some (.own false (.lst (ds.map dimD))), none, some (.own false (.lst [])), none, none] ⟨[], a1 + 1, by rw [rg]; simp, by rw [rg]; simp, by simp, rfl⟩
  refine ⟨ds, ks, a2, ?_, ⟨by simp at hds; omega, by simp at hds; omega, hdok, by simp at hks; omega, by simp at hks; omega, hkok⟩⟩
  simp [m__law_shape, runF, b__law_shape, lp__law_shape_1, lp__law_shape_2, argsE, callR, rIo, getOwn, getOwnL, ioIx, slotsOf, putOuts, n3, sl, h1, k4, iR1F_ok s62, hM]
  simp [h2, newR, ioIx, slotsOf, eTupO, getOwnL, getOwn, init_eq, outsAt, shD]
end
/-- a value of a kind -/
def KV (k : String) (v : D) : Prop := (k = "int" ∧ ∃ i, v = .int i ∧ -10 ^ 30 < i ∧ i < 10 ^ 30) ∨ (k = "flag" ∧ ∃ b, v = .bl b) ∨ (k = "text" ∧ ∃ s, v = .str s ∧ OkS s ∧ s.length ≤ 200)
/-- or none -/
def VK (k : String) (v : D) : Prop := v = .non ∨ KV k v
inductive RkV : List String → List D → Prop
  | nil : RkV [] []
  | cons {k : String} {v : D} {ks : List String} {vs : List D} : VK k v → RkV ks vs → RkV (k :: ks) (v :: vs)
theorem RkV.snoc : ∀ {ks : List String} {vs : List D} {k : String} {v : D}, RkV ks vs → VK k v → RkV (ks ++ [k]) (vs ++ [v])
  | _, _, _, _, .nil, h => .cons h .nil
  | _, _, _, _, .cons h r, g => .cons h (RkV.snoc r g)
theorem RkV.length : ∀ {ks : List String} {vs : List D}, RkV ks vs → vs.length = ks.length
  | _, _, .nil => rfl
  | _, _, .cons _ r => by simp [RkV.length r]
theorem RkV.get : ∀ {ks : List String} {vs : List D} {i : Nat} {k : String}, RkV ks vs → ks[i]? = some k → ∃ v, vs[i]? = some v ∧ VK k v
  | _, _, _, _, .nil, h => by simp at h
  | _, _, 0, _, .cons h r, e => by cases e; exact ⟨_, rfl, h⟩
  | _, _, i + 1, _, .cons h r, e => RkV.get (i := i) r (by simpa using e)
section
variable {L : List Int} (h0 : 0 < L.length) (hl : L.length ≤ 100000)
include h0 hl
theorem thing_k {k : String} (hk : Kd k) (a : Nat) : ∃ d a', m__law_thing [.own true (stD L a), .shr (.str (Str.ofString k))] = .ret false d [stD L a'] ∧ KV k d := by
  rcases hk with rfl | rfl | rfl
  · obtain ⟨n, a', e, h1, h2⟩ := thing_int h0 hl a
    exact ⟨_, a', e, .inl ⟨rfl, n, rfl, h1, h2⟩⟩
  · obtain ⟨n, a', e⟩ := thing_flag h0 hl a
    exact ⟨_, a', e, .inr (.inl ⟨rfl, n, rfl⟩)⟩
  · obtain ⟨s, a', e, h1, h2⟩ := thing_text h0 hl a
    exact ⟨_, a', e, .inr (.inr ⟨rfl, s, rfl, h1, h2⟩)⟩
end
end Mi

namespace Mi
open PySem L2
theorem toVs_strs : ∀ ns : List String, toVs (ns.map fun n => D.str (Str.ofString n)) = some (ns.map fun n => V.str (Str.ofString n))
  | [] => rfl
  | n :: ns => by
    show ((toV (.str (Str.ofString n))).bind fun v => (toVs (ns.map _)).map (v :: ·)) = _
    rw [toVs_strs ns]; rfl
theorem inV_strs (w : String) : ∀ ns : List String, inV (.str (Str.ofString w)) (ns.map fun n => V.str (Str.ofString n)) = ns.any fun n => decide (n = w)
  | [] => rfl
  | n :: ns => by
    have ih := inV_strs w ns
    unfold inV at ih ⊢
    rw [List.map_cons, List.any_cons, List.any_cons, ih]
    congr 1
    show (Str.ofString n == Str.ofString w) = _
    by_cases c : n = w
    · subst c; simp
    · rw [decide_eq_false c, beq_eq_false_iff_ne]
      intro h
      exact c (ofString_inj.mp h)
theorem dIn_t (w : String) (ns : List String) : dIn (.str (Str.ofString w)) (.tup (ns.map fun n => D.str (Str.ofString n))) = some (.bl (ns.any fun n => decide (n = w))) := by
  simp only [dIn, seqD, toV, Option.bind_some, toVs_strs, Option.map_some, inV_strs]
theorem dIn_l (w : String) (ns : List String) : dIn (.str (Str.ofString w)) (.lst (ns.map fun n => D.str (Str.ofString n))) = some (.bl (ns.any fun n => decide (n = w))) := dIn_t w ns
theorem dIn_f (w : String) (ns : List String) : dIn (.str (Str.ofString w)) (.ftp (ns.map fun n => D.str (Str.ofString n))) = some (.bl (ns.any fun n => decide (n = w))) := dIn_t w ns
def ArW (w : String) : Prop := w = "add" ∨ w = "sub" ∨ w = "mul" ∨ w = "div" ∨ w = "mod"
def CmW (w : String) : Prop := w = "eq" ∨ w = "ne" ∨ w = "lt" ∨ w = "le" ∨ w = "gt" ∨ w = "ge"
theorem pick2 (x : D) (b : Bool) : dIx (.lst [.non, x]) (.int (if b then 1 else 0)) = some (if b then x else .non) := by
  cases b <;> rfl
theorem dInt_b (b : Bool) : dInt [.bl b] = some (.int (if b then 1 else 0)) := rfl
inductive Ex (ds : List Dm) (ks : List String) : String → D → Nat → Prop
  | attr {j : Nat} {p : String × String} (n : Nat) (h : (abcd.zip ks)[j]? = some p) : Ex ds ks p.2 (.tup [.str (Str.ofString "attr"), .str (Str.ofString p.1)]) n
  | dim {j : Nat} {d : Dm} (n : Nat) (h : ds[j]? = some d) : Ex ds ks "int" (.tup [.str (Str.ofString "dim"), .str (Str.ofString d.n)]) n
  | value {k : String} {v : D} (n : Nat) (hk : Kd k) (h : VK k v) : Ex ds ks k (.tup [.str (Str.ofString "value"), .str (Str.ofString k), v]) n
  | nt {a : D} {n : Nat} : Ex ds ks "flag" a n → Ex ds ks "flag" (.tup [.str (Str.ofString "not"), a]) (n + 1)
  | mis {k : String} {a : D} {n : Nat} (hk : Kd k) : Ex ds ks k a n → Ex ds ks "flag" (.tup [.str (Str.ofString "is missing"), a]) (n + 1)
  | len {a : D} {n : Nat} : Ex ds ks "text" a n → Ex ds ks "int" (.tup [.str (Str.ofString "length"), a]) (n + 1)
  | sgn {w : String} {a : D} {n : Nat} (hw : w = "neg" ∨ w = "abs") : Ex ds ks "int" a n → Ex ds ks "int" (.tup [.str (Str.ofString w), a]) (n + 1)
  | dec {w : String} {a b : D} {n : Nat} (hw : w = "and" ∨ w = "or") : Ex ds ks "flag" a n → Ex ds ks "flag" b n → Ex ds ks "flag" (.tup [.str (Str.ofString w), a, b]) (n + 1)
  | cmp {w k : String} {a b : D} {n : Nat} (hw : CmW w) (hk : Kd k) : Ex ds ks k a n → Ex ds ks k b n → Ex ds ks "flag" (.tup [.str (Str.ofString w), a, b]) (n + 1)
  | join {a b : D} {n : Nat} : Ex ds ks "text" a n → Ex ds ks "text" b n → Ex ds ks "text" (.tup [.str (Str.ofString "joined"), a, b]) (n + 1)
  | ar {w : String} {a b : D} {n : Nat} (hw : ArW w) : Ex ds ks "int" a n → Ex ds ks "int" b n → Ex ds ks "int" (.tup [.str (Str.ofString w), a, b]) (n + 1)
  | els {k : String} {a b : D} {n : Nat} (hk : Kd k) : Ex ds ks k a n → Ex ds ks k b n → Ex ds ks k (.tup [.str (Str.ofString "or else"), a, b]) (n + 1)
  | cond {k : String} {c a b : D} {n : Nat} (hk : Kd k) : Ex ds ks "flag" c n → Ex ds ks k a n → Ex ds ks k b n → Ex ds ks k (.tup [.str (Str.ofString "if"), c, a, b]) (n + 1)
theorem Ex.mono {ds : List Dm} {ks : List String} : ∀ {k : String} {d : D} {n : Nat}, Ex ds ks k d n → Ex ds ks k d (n + 1)
  | _, _, _, .attr n h => .attr _ h
  | _, _, _, .dim n h => .dim _ h
  | _, _, _, .value n hk h => .value _ hk h
  | _, _, _, .nt a => .nt a.mono
  | _, _, _, .mis hk a => .mis hk a.mono
  | _, _, _, .len a => .len a.mono
  | _, _, _, .sgn hw a => .sgn hw a.mono
  | _, _, _, .dec hw a b => .dec hw a.mono b.mono
  | _, _, _, .cmp hw hk a b => .cmp hw hk a.mono b.mono
  | _, _, _, .join a b => .join a.mono b.mono
  | _, _, _, .ar hw a b => .ar hw a.mono b.mono
  | _, _, _, .els hk a b => .els hk a.mono b.mono
  | _, _, _, .cond hk c a b => .cond hk c.mono a.mono b.mono
theorem l1_0 (x : D) : dIx (.lst [x]) (.int 0) = some x := rfl
theorem l2_0 (x y : D) : dIx (.lst [x, y]) (.int 0) = some x := rfl
theorem l2_1 (x y : D) : dIx (.lst [x, y]) (.int 1) = some y := rfl
theorem l3_0 (x y z : D) : dIx (.lst [x, y, z]) (.int 0) = some x := rfl
theorem l3_1 (x y z : D) : dIx (.lst [x, y, z]) (.int 1) = some y := rfl
theorem l3_2 (x y z : D) : dIx (.lst [x, y, z]) (.int 2) = some z := rfl
theorem t_0 (x : D) (xs : List D) : dIx (.tup (x :: xs)) (.int 0) = some x := by
  show atI _ _ = _
  rw [atI_get _ _ (by decide) (by simp <;> omega)]; rfl
theorem t_1 (x y : D) (xs : List D) : dIx (.tup (x :: y :: xs)) (.int 1) = some y := by
  show atI _ _ = _
  rw [atI_get _ _ (by decide) (by simp <;> omega)]; rfl
theorem t_2 (x y z : D) (xs : List D) : dIx (.tup (x :: y :: z :: xs)) (.int 2) = some z := by
  show atI _ _ = _
  rw [atI_get _ _ (by decide) (by simp <;> omega)]; rfl
theorem sl1 (x : D) (xs : List D) : dSl (.tup (x :: xs)) (some 1) none = some (.tup xs) := slT_drop1 x xs
/-- a comprehension with a test, pure -/
theorem lc_filter {g : D → En → Option En} {t : M Bool} {m : M D} {vs : List Nat} {env : En} (p : D → Bool) (F : D → D) : ∀ (xs : List D), (∀ x ∈ xs, ∃ env1, g x env = some env1 ∧ t env1 = .ok (p x) env1 ∧ m env1 = .ok (F x) env1 ∧ wipeE env1 vs = env) → lcL g t m vs xs env = .ok ((xs.filter p).map F) env
  | [], _ => rfl
  | x :: xs, h => by
    obtain ⟨env1, h0, h1, h2, h3⟩ := h x List.mem_cons_self
    have ih := lc_filter p F xs fun y hy => h y (List.mem_cons_of_mem _ hy)
    cases hp : p x with
    | true =>
      rw [hp] at h1
      simp only [lcL, h0, h1, h2, h3, ih, List.filter_cons, hp, if_true, List.map_cons]
    | false =>
      rw [hp] at h1
      simp only [lcL, h0, h1, h3, ih, List.filter_cons, hp]
      rfl
section
variable {L : List Int} (h0 : 0 < L.length) (hl : L.length ≤ 100000) {ds : List Dm} {ks : List String}
include h0 hl
theorem leaf_eq (ok : ShOk ds ks) {k : String} (hk : Kd k) (a : Nat) : ∃ e a', m__law_leaf [.own true (stD L a), .shr (shD ds ks), .shr (.str (Str.ofString k))] = .ret false e [stD L a'] ∧ ∀ n, Ex ds ks k e n := by
  have fa := fGet_attrs ds ks
  have fd := fGet_dims ds ks
  have hlen : (attrsD ks).length ≤ 4 := by
    unfold attrsD
    rw [List.length_map, List.length_zip]
    have : abcd.length = 4 := rfl
    omega
  have hl2 : (attrsD ks).length ≤ 16777216 := by omega
  have lf := lc_filter (g := gT [gN 5, gN 6]) (t := eTest (eOp dEq (eV 6) (eV 2))) (m := eV 5) (vs := [5, 6]) (env := [some (.own true (stD L a)), some (.shr (shD ds ks)), some (.shr (.str (Str.ofString k))), none, none, none, none]) (fun d => match d with
    | .tup [_, .str y] => decide (y = Str.ofString k)
    | _ => false) (fun d => match d with
    | .tup (x :: _) => x
    | x => x) (attrsD ks) (by
      intro x hx
      obtain ⟨q, _, rfl⟩ := List.mem_map.mp hx
      refine ⟨[some (.own true (stD L a)), some (.shr (shD ds ks)), some (.shr (.str (Str.ofString k))), none, none, some (.shr (.str (Str.ofString q.1))), some (.shr (.str (Str.ofString q.2)))], rfl, ?_, rfl, rfl⟩
      simp [eV, attrD, ofString_inj])
  have hnm : ∀ z ∈ ((attrsD ks).filter (fun d => match d with
    | .tup [_, .str y] => decide (y = Str.ofString k)
    | _ => false)).map (fun d => match d with
    | .tup (x :: _) => x
    | x => x), ∃ (j : Nat) (p : String × String), (abcd.zip ks)[j]? = some p ∧ p.2 = k ∧ z = .str (Str.ofString p.1) := by
    intro z hz
    obtain ⟨d, hd, rfl⟩ := List.mem_map.mp hz
    obtain ⟨hd1, hd2⟩ := List.mem_filter.mp hd
    obtain ⟨p, hp, rfl⟩ := List.mem_map.mp hd1
    obtain ⟨j, hj⟩ := List.getElem?_of_mem hp
    exact ⟨j, p, hj, ofString_inj.mp (of_decide_eq_true hd2), rfl⟩
  have hnl : (((attrsD ks).filter (fun d => match d with
    | .tup [_, .str y] => decide (y = Str.ofString k)
    | _ => false)).map (fun d => match d with
    | .tup (x :: _) => x
    | x => x)).length ≤ 4 := by
    rw [List.length_map]
    exact Nat.le_trans (List.length_filter_le _ _) hlen
  generalize ((attrsD ks).filter (fun d => match d with
    | .tup [_, .str y] => decide (y = Str.ofString k)
    | _ => false)).map (fun d => match d with
    | .tup (x :: _) => x
    | x => x) = nms at lf hnm hnl
  have n6 := next_eq (a := a) h0 hl (show (0 : Int) < 6 by decide)
  obtain ⟨th, a2, e2, kv2⟩ := thing_k h0 hl hk (a + 1)
  obtain ⟨th3, a3, e3, kv3⟩ := thing_k h0 hl hk (a + 1 + 1)
  have n3 := next_eq (a := a + 1) h0 hl (show (0 : Int) < 3 by decide)
  by_cases c1 : nv L a 6 < 3 ∧ 0 < nms.length
  · obtain ⟨c1, c2⟩ := c1
    have c2' : (0 : Int) < (nms.length : Int) := by omega
    have nn := next_eq (a := a + 1) h0 hl c2'
    obtain ⟨z, e1, j, p, hj, hk2, rfl⟩ := dIx_all (P := fun z => ∃ (j : Nat) (p : String × String), (abcd.zip ks)[j]? = some p ∧ p.2 = k ∧ z = .str (Str.ofString p.1)) hnm (i := nv L (a + 1) nms.length) (nv_ge c2') (nv_lt c2')
    refine ⟨.tup [.str (Str.ofString "attr"), .str (Str.ofString p.1)], a + 1 + 1, ?_, fun n => by rw [← hk2]; exact .attr n hj⟩
    simp [m__law_leaf, runF, b__law_leaf, argsE, eV, fa, lcR, hl2, wipeE, backE, lf, callR, rIo, getOwn, ioIx, slotsOf, putOuts, n6, c1, c2, nn, e1, outsAt]
  · have t1 : ∀ e : En, e[4]? = some (some (.shr (.int (nv L a 6)))) → e[3]? = some (some (.shr (.lst nms))) → bAnd (eTest (eOp dLt (eV 4) (eC (.int 3)))) (eTest (eOp dGt (eCB dLen (aCons (eV 3) aNil)) (eC (.int 0)))) e = .ok false e := by
      intro e he1 he2
      by_cases c2 : nv L a 6 < 3
      · have c3 : ¬ 0 < nms.length := fun z => c1 ⟨c2, z⟩
        simp [eV, he1, he2, c2, c3]
      · simp [eV, he1, he2, c2]
    by_cases c3 : nv L a 6 < 4 ∧ k = "int"
    · obtain ⟨c3, rfl⟩ := c3
      have dl : (0 : Int) < (ds.length : Int) := by have := ok.d1; omega
      have nd := next_eq (a := a + 1) h0 hl dl
      have hix : ∃ (j : Nat) (d : Dm), ds[j]? = some d ∧ dIx (.tup (ds.map dimD)) (.int (nv L (a + 1) ds.length)) = some (dimD d) := by
        have g1 := nv_ge (nums := L) (a := a + 1) dl
        have g2 := nv_lt (nums := L) (a := a + 1) dl
        have hj : (nv L (a + 1) ds.length).toNat < ds.length := by omega
        refine ⟨(nv L (a + 1) ds.length).toNat, ds[(nv L (a + 1) ds.length).toNat], List.getElem?_eq_getElem hj, ?_⟩
        show atI _ _ = _
        rw [atI_get _ _ g1 (by rw [List.length_map]; exact g2), List.getElem?_map, List.getElem?_eq_getElem hj]; rfl
      obtain ⟨j, d, hj, e1⟩ := hix
      refine ⟨.tup [.str (Str.ofString "dim"), .str (Str.ofString d.n)], a + 1 + 1, ?_, fun n => .dim n hj⟩
      have z0 : dIx (dimD d) (.int 0) = some (.str (Str.ofString d.n)) := t_0 _ _
      simp [m__law_leaf, runF, b__law_leaf, argsE, eV, fa, fd, lcR, hl2, wipeE, backE, lf, callR, rIo, getOwn, ioIx, slotsOf, putOuts, n6, -bAnd_ap, t1, outsAt]
      simp [eV, c3, fd, nd, e1, z0, callR, rIo, getOwn, ioIx, slotsOf, putOuts, outsAt]
    · have t2 : ∀ e : En, e[4]? = some (some (.shr (.int (nv L a 6)))) → e[2]? = some (some (.shr (.str (Str.ofString k)))) → bAnd (eTest (eOp dLt (eV 4) (eC (.int 4)))) (eTest (eOp dEq (eV 2) (eC (.str "int")))) e = .ok false e := by
        intro e he1 he2
        by_cases c2 : nv L a 6 < 4
        · have c4 : ¬ k = "int" := fun z => c3 ⟨c2, z⟩
          simp [eV, he1, he2, c2, c4]
        · simp [eV, he1, he2, c2]
      by_cases c5 : nv L a 6 = 5
      · by_cases c6 : nv L (a + 1) 3 = 0
        · refine ⟨.tup [.str (Str.ofString "value"), .str (Str.ofString k), .non], a + 1 + 1, ?_, fun n => .value n hk (.inl rfl)⟩
          simp [m__law_leaf, runF, b__law_leaf, argsE, eV, fa, fd, lcR, hl2, wipeE, backE, lf, callR, rIo, getOwn, ioIx, slotsOf, putOuts, n6, -bAnd_ap, t1, t2, outsAt]
          simp [eV, c5, c6, n3, callR, rIo, getOwn, ioIx, slotsOf, putOuts, outsAt]
        · refine ⟨.tup [.str (Str.ofString "value"), .str (Str.ofString k), th3], a3, ?_, fun n => .value n hk (.inr kv3)⟩
          simp [m__law_leaf, runF, b__law_leaf, argsE, eV, fa, fd, lcR, hl2, wipeE, backE, lf, callR, rIo, getOwn, ioIx, slotsOf, putOuts, n6, -bAnd_ap, t1, t2, outsAt]
          simp [eV, c5, c6, n3, e3, callR, rIo, getOwn, ioIx, slotsOf, putOuts, outsAt]
      · refine ⟨.tup [.str (Str.ofString "value"), .str (Str.ofString k), th], a2, ?_, fun n => .value n hk (.inr kv2)⟩
        simp [m__law_leaf, runF, b__law_leaf, argsE, eV, fa, fd, lcR, hl2, wipeE, backE, lf, callR, rIo, getOwn, ioIx, slotsOf, putOuts, n6, -bAnd_ap, t1, t2, outsAt]
        simp [eV, c5, e2, callR, rIo, getOwn, ioIx, slotsOf, putOuts, outsAt]
end
section
variable {L : List Int} (h0 : 0 < L.length) (hl : L.length ≤ 100000) {ds : List Dm} {ks : List String}
def EP (L : List Int) (ds : List Dm) (ks : List String) (f q : Nat) : Prop := ∀ k, Kd k → ∀ a, ∃ e a', (fam__law_expression f).1 [.own true (stD L a), .shr (shD ds ks), .shr (.str (Str.ofString k)), .shr (.int q)] = .ret false e [stD L a'] ∧ Ex ds ks k e q
def FP (L : List Int) (ds : List Dm) (ks : List String) (f q : Nat) : Prop := ∀ a, ∃ e a', (fam__law_expression f).2 [.own true (stD L a), .shr (shD ds ks), .shr (.int q)] = .ret false e [stD L a'] ∧ Ex ds ks "flag" e q
include h0 hl
theorem flag_step {f q : Nat} (hE : EP L ds ks f q) : FP L ds ks (f + 1) (q + 1) := by
  intro a
  have n9 := next_eq (a := a) h0 hl (show (0 : Int) < 9 by decide)
  have g9 := nv_ge (nums := L) (a := a) (show (0 : Int) < 9 by decide)
  have u9 := nv_lt (nums := L) (a := a) (show (0 : Int) < 9 by decide)
  have fl : Kd "flag" := .inr (.inl rfl)
  by_cases c0 : nv L a 9 = 0
  · obtain ⟨e, a1, e1, x1⟩ := hE "flag" fl (a + 1)
    refine ⟨_, a1, ?_, .nt x1⟩
    simp [fam__law_expression, runF, b__law_flag, argsE, eV, callR, rIo, getOwn, ioIx, slotsOf, putOuts, n9, c0, e1, outsAt]
  by_cases c1 : nv L a 9 = 1
  · have n3 := next_eq (a := a + 1) h0 hl (show (0 : Int) < 3 by decide)
    obtain ⟨z, d1, k, rfl, hk⟩ := dIx_all (P := fun z => ∃ k, z = .str (Str.ofString k) ∧ Kd k) (xs := [.str (Str.ofString "int"), .str (Str.ofString "flag"), .str (Str.ofString "text")]) (by
        intro x hx
        simp only [List.mem_cons, List.not_mem_nil, or_false] at hx
        rcases hx with rfl | rfl | rfl
        · exact ⟨_, rfl, .inl rfl⟩
        · exact ⟨_, rfl, .inr (.inl rfl)⟩
        · exact ⟨_, rfl, .inr (.inr rfl)⟩) (i := nv L (a + 1) 3) (nv_ge (by decide)) (nv_lt (by decide))
    obtain ⟨e, a1, e1, x1⟩ := hE k hk (a + 1 + 1)
    refine ⟨_, a1, ?_, .mis hk x1⟩
    simp [fam__law_expression, runF, b__law_flag, argsE, eV, callR, rIo, getOwn, ioIx, slotsOf, putOuts, n9, c0, c1, n3, d1, e1, outsAt]
  by_cases c4 : nv L a 9 < 4
  · have hw : ∃ w, dIx (.lst [.str (Str.ofString "and"), .str (Str.ofString "or")]) (.int (nv L a 9 - 2)) = some (.str (Str.ofString w)) ∧ (w = "and" ∨ w = "or") := by
      have : nv L a 9 = 2 ∨ nv L a 9 = 3 := by omega
      rcases this with h | h
      · exact ⟨"and", by rw [h]; rfl, .inl rfl⟩
      · exact ⟨"or", by rw [h]; rfl, .inr rfl⟩
    obtain ⟨w, d1, hw⟩ := hw
    obtain ⟨e, a1, e1, x1⟩ := hE "flag" fl (a + 1)
    obtain ⟨e', a2, e2, x2⟩ := hE "flag" fl a1
    refine ⟨_, a2, ?_, .dec hw x1 x2⟩
    simp [fam__law_expression, runF, b__law_flag, argsE, eV, callR, rIo, getOwn, ioIx, slotsOf, putOuts, n9, c0, c1, c4, d1, e1, e2, outsAt]
  · have n5 := next_eq (a := a + 1) h0 hl (show (0 : Int) < 5 by decide)
    have n6 := next_eq (a := a + 1 + 1) h0 hl (show (0 : Int) < 6 by decide)
    obtain ⟨z, d1, k, rfl, hk⟩ := dIx_all (P := fun z => ∃ k, z = .str (Str.ofString k) ∧ Kd k) (xs := [.str (Str.ofString "int"), .str (Str.ofString "int"), .str (Str.ofString "int"), .str (Str.ofString "text"), .str (Str.ofString "flag")]) (by
        intro x hx
        simp only [List.mem_cons, List.not_mem_nil, or_false] at hx
        rcases hx with rfl | rfl | rfl | rfl | rfl
        · exact ⟨_, rfl, .inl rfl⟩
        · exact ⟨_, rfl, .inl rfl⟩
        · exact ⟨_, rfl, .inl rfl⟩
        · exact ⟨_, rfl, .inr (.inr rfl)⟩
        · exact ⟨_, rfl, .inr (.inl rfl)⟩) (i := nv L (a + 1) 5) (nv_ge (by decide)) (nv_lt (by decide))
    obtain ⟨z, d2, w, rfl, hw⟩ := dIx_all (P := fun z => ∃ w, z = .str (Str.ofString w) ∧ CmW w) (xs := [.str (Str.ofString "eq"), .str (Str.ofString "ne"), .str (Str.ofString "lt"), .str (Str.ofString "le"), .str (Str.ofString "gt"), .str (Str.ofString "ge")]) (by
        intro x hx
        simp only [List.mem_cons, List.not_mem_nil, or_false] at hx
        unfold CmW
        rcases hx with rfl | rfl | rfl | rfl | rfl | rfl <;> exact ⟨_, rfl, by simp⟩) (i := nv L (a + 1 + 1) 6) (nv_ge (by decide)) (nv_lt (by decide))
    obtain ⟨e, a1, e1, x1⟩ := hE k hk (a + 1 + 1 + 1)
    obtain ⟨e', a2, e2, x2⟩ := hE k hk a1
    refine ⟨_, a2, ?_, .cmp hw hk x1 x2⟩
    simp [fam__law_expression, runF, b__law_flag, argsE, eV, callR, rIo, getOwn, ioIx, slotsOf, putOuts, n9, c0, c1, c4, n5, n6, d1, d2, e1, e2, outsAt]
theorem expr_zero (ok : ShOk ds ks) (f : Nat) : EP L ds ks (f + 1) 0 := by
  intro k hk a
  have n10 := next_eq (a := a) h0 hl (show (0 : Int) < 10 by decide)
  obtain ⟨e, a1, e1, x1⟩ := leaf_eq h0 hl ok hk (a + 1)
  refine ⟨e, a1, ?_, x1 0⟩
  simp [fam__law_expression, runF, b__law_expression, argsE, eV, callR, rIo, getOwn, ioIx, slotsOf, putOuts, n10, e1, outsAt]
theorem expr_step (ok : ShOk ds ks) {f q : Nat} (hE : EP L ds ks f q) (hF : FP L ds ks f (q + 1)) : EP L ds ks (f + 1) (q + 1) := by
  intro k hk a
  have n10 := next_eq (a := a) h0 hl (show (0 : Int) < 10 by decide)
  have fl : Kd "flag" := .inr (.inl rfl)
  have tx : Kd "text" := .inr (.inr rfl)
  have it : Kd "int" := .inl rfl
  have nq : ¬ ((q : Int) + 1 ≤ 0) := by omega
  by_cases c0 : nv L a 10 = 0
  · obtain ⟨e, a1, e1, x1⟩ := leaf_eq h0 hl ok hk (a + 1)
    refine ⟨e, a1, ?_, x1 _⟩
    simp [fam__law_expression, runF, b__law_expression, argsE, eV, callR, rIo, getOwn, ioIx, slotsOf, putOuts, n10, c0, nq, e1, outsAt]
  by_cases c1 : nv L a 10 = 1
  · obtain ⟨e, a1, e1, x1⟩ := hE k hk (a + 1)
    obtain ⟨e', a2, e2, x2⟩ := hE k hk a1
    obtain ⟨e'', a3, e3, x3⟩ := hE "flag" fl a2
    have cat : dAdd (.tup [.str (Str.ofString "if"), e'']) (.tup [e, e']) = some (.tup [.str (Str.ofString "if"), e'', e, e']) := rfl
    refine ⟨_, a3, ?_, .cond hk x3 x1 x2⟩
    simp [fam__law_expression, runF, b__law_expression, argsE, eV, callR, rIo, getOwn, ioIx, slotsOf, putOuts, n10, c0, c1, nq, e1, e2, e3, cat, outsAt]
  by_cases c2 : nv L a 10 = 2
  · obtain ⟨e, a1, e1, x1⟩ := hE k hk (a + 1)
    obtain ⟨e', a2, e2, x2⟩ := hE k hk a1
    refine ⟨_, a2, ?_, .els hk x1 x2⟩
    simp [fam__law_expression, runF, b__law_expression, argsE, eV, callR, rIo, getOwn, ioIx, slotsOf, putOuts, n10, c0, c1, c2, nq, e1, e2, outsAt]
  rcases hk with rfl | rfl | rfl
  · by_cases c3 : nv L a 10 = 3
    · obtain ⟨e, a1, e1, x1⟩ := hE "text" tx (a + 1)
      refine ⟨_, a1, ?_, .len x1⟩
      simp [fam__law_expression, runF, b__law_expression, argsE, eV, callR, rIo, getOwn, ioIx, slotsOf, putOuts, n10, c0, c1, c2, c3, nq, e1, outsAt]
    by_cases c4 : nv L a 10 = 4
    · have n2 := next_eq (a := a + 1) h0 hl (show (0 : Int) < 2 by decide)
      obtain ⟨z, d1, w, rfl, hw⟩ := dIx_all (P := fun z => ∃ w, z = .str (Str.ofString w) ∧ (w = "neg" ∨ w = "abs")) (xs := [.str (Str.ofString "neg"), .str (Str.ofString "abs")]) (by
        intro x hx
        simp only [List.mem_cons, List.not_mem_nil, or_false] at hx
        rcases hx with rfl | rfl <;> exact ⟨_, rfl, by simp⟩) (i := nv L (a + 1) 2) (nv_ge (by decide)) (nv_lt (by decide))
      obtain ⟨e, a1, e1, x1⟩ := hE "int" it (a + 1 + 1)
      refine ⟨_, a1, ?_, .sgn hw x1⟩
      simp [fam__law_expression, runF, b__law_expression, argsE, eV, callR, rIo, getOwn, ioIx, slotsOf, putOuts, n10, c0, c1, c2, c3, c4, nq, n2, d1, e1, outsAt]
    · have n5 := next_eq (a := a + 1) h0 hl (show (0 : Int) < 5 by decide)
      obtain ⟨z, d1, w, rfl, hw⟩ := dIx_all (P := fun z => ∃ w, z = .str (Str.ofString w) ∧ ArW w) (xs := [.str (Str.ofString "add"), .str (Str.ofString "sub"), .str (Str.ofString "mul"), .str (Str.ofString "div"), .str (Str.ofString "mod")]) (by
        intro x hx
        simp only [List.mem_cons, List.not_mem_nil, or_false] at hx
        unfold ArW
        rcases hx with rfl | rfl | rfl | rfl | rfl <;> exact ⟨_, rfl, by simp⟩) (i := nv L (a + 1) 5) (nv_ge (by decide)) (nv_lt (by decide))
      obtain ⟨e, a1, e1, x1⟩ := hE "int" it (a + 1 + 1)
      obtain ⟨e', a2, e2, x2⟩ := hE "int" it a1
      refine ⟨_, a2, ?_, .ar hw x1 x2⟩
      simp [fam__law_expression, runF, b__law_expression, argsE, eV, callR, rIo, getOwn, ioIx, slotsOf, putOuts, n10, c0, c1, c2, c3, c4, nq, n5, d1, e1, e2, outsAt]
  · obtain ⟨e, a1, e1, x1⟩ := hF (a + 1)
    refine ⟨e, a1, ?_, x1⟩
    have e1' : (fam__law_expression f).2 [Slot.own true (stD L (a + 1)), Slot.shr (shD ds ks), Slot.shr (D.int ((q : Int) + 1))] = .ret false e [stD L a1] := e1
    simp [fam__law_expression, runF, b__law_expression, argsE, eV, callR, rIo, getOwn, ioIx, slotsOf, putOuts, n10, c0, c1, c2, nq, e1', outsAt]
  · obtain ⟨e, a1, e1, x1⟩ := hE "text" tx (a + 1)
    obtain ⟨e', a2, e2, x2⟩ := hE "text" tx a1
    refine ⟨_, a2, ?_, .join x1 x2⟩
    simp [fam__law_expression, runF, b__law_expression, argsE, eV, callR, rIo, getOwn, ioIx, slotsOf, putOuts, n10, c0, c1, c2, nq, e1, e2, outsAt]
theorem expr_all (ok : ShOk ds ks) : ∀ q f : Nat, 2 * q + 1 ≤ f → EP L ds ks f q
  | 0, f + 1, _ => expr_zero h0 hl ok f
  | q + 1, f + 2, h => expr_step h0 hl ok (expr_all ok q (f + 1) (by omega)) (flag_step h0 hl (expr_all ok q f (by omega)))
  | 0, 0, h => by omega
  | q + 1, 0, h => by omega
  | q + 1, 1, h => by omega
end
end Mi

namespace Mi
open PySem L2
/-! expressions as trees -/
inductive Lf where
  | nm (n : String) | dm (n : String) | vl (w : String) (v : D)
inductive XT where
  | lf (l : Lf) | nd (w : String) (ps : List XT)
def lfD : Lf → D
  | .nm n => .tup [.str (Str.ofString "attr"), .str (Str.ofString n)]
  | .dm n => .tup [.str (Str.ofString "dim"), .str (Str.ofString n)]
  | .vl w v => .tup [.str (Str.ofString "value"), .str (Str.ofString w), v]
mutual
def toD : XT → D
  | .lf l => lfD l
  | .nd w ps => .tup (.str (Str.ofString w) :: toDs ps)
def toDs : List XT → List D
  | [] => []
  | t :: ts => toD t :: toDs ts
end
mutual
def size : XT → Nat
  | .lf _ => 1
  | .nd _ ps => 1 + sizes ps
def sizes : List XT → Nat
  | [] => 0
  | t :: ts => size t + sizes ts
end
theorem size_pos : ∀ t : XT, 0 < size t
  | .lf _ => by rw [size]; decide
  | .nd _ ps => by rw [size]; omega
theorem toDs_len : ∀ ts : List XT, (toDs ts).length = ts.length
  | [] => by rw [toDs]; rfl
  | t :: ts => by rw [toDs, List.length_cons, List.length_cons, toDs_len ts]
theorem toDs_map : ∀ ts : List XT, toDs ts = ts.map toD
  | [] => by rw [toDs]; rfl
  | t :: ts => by rw [toDs, List.map_cons, toDs_map ts]
def words : List (String × Nat) := [("neg", 1), ("abs", 1), ("not", 1), ("is missing", 1), ("length", 1), ("add", 2), ("sub", 2), ("mul", 2), ("div", 2), ("mod", 2), ("eq", 2), ("ne", 2), ("lt", 2), ("le", 2), ("gt", 2), ("ge", 2), ("and", 2), ("or", 2), ("joined", 2), ("or else", 2), ("if", 3)]
/-- a value of any sort -/
def VV (v : D) : Prop := v = .non ∨ (∃ i, v = .int i) ∨ (∃ b, v = .bl b) ∨ ∃ s, v = .str s ∧ OkS s ∧ s.length ≤ 200
def LfOk : Lf → Prop
  | .vl w v => (Kd w ∨ w = "number") ∧ VV v
  | _ => True
def XOk : Nat → XT → Prop
  | 0, _ => False
  | _ + 1, .lf l => LfOk l
  | f + 1, .nd w ps => (w, ps.length) ∈ words ∧ ∀ p ∈ ps, XOk f p
theorem XOk.mono : ∀ {f : Nat} {t : XT}, XOk f t → XOk (f + 1) t
  | _ + 1, .lf l, h => h
  | f + 1, .nd w ps, h => ⟨h.1, fun p hp => (h.2 p hp).mono⟩
theorem XOk.le {f g : Nat} {t : XT} (h : XOk f t) (hg : f ≤ g) : XOk g t := by
  induction hg with
  | refl => exact h
  | step _ ih => exact ih.mono
theorem words_len {w : String} {n : Nat} (h : (w, n) ∈ words) : 1 ≤ n ∧ n ≤ 3 := by
  have : words.all (fun p => decide (1 ≤ p.2 ∧ p.2 ≤ 3)) = true := by decide
  exact of_decide_eq_true (List.all_eq_true.mp this _ h)
theorem words_nl {w : String} {n : Nat} (h : (w, n) ∈ words) : (["value", "attr", "dim"].any fun x => decide (x = w)) = false := by
  have : words.all (fun p => !(["value", "attr", "dim"].any fun x => decide (x = p.1))) = true := by decide +kernel
  simpa using List.all_eq_true.mp this _ h
/-! what stands at the head -/
theorem head_nd (w : String) (ps : List XT) : dIx (toD (.nd w ps)) (.int 0) = some (.str (Str.ofString w)) := by
  rw [toD]; exact t_0 _ _
theorem sl_nd (w : String) (ps : List XT) : dSl (toD (.nd w ps)) (some 1) none = some (.tup (toDs ps)) := by
  rw [toD]; exact sl1 _ _
def lfW : Lf → String
  | .nm _ => "attr"
  | .dm _ => "dim"
  | .vl _ _ => "value"
theorem head_lf (l : Lf) : dIx (toD (.lf l)) (.int 0) = some (.str (Str.ofString (lfW l))) := by
  rw [toD]; cases l <;> exact t_0 _ _
theorem lfW_in (l : Lf) : (["value", "attr", "dim"].any fun x => decide (x = lfW l)) = true := by
  cases l
  · show (["value", "attr", "dim"].any fun x => decide (x = "attr")) = true; decide +kernel
  · show (["value", "attr", "dim"].any fun x => decide (x = "dim")) = true; decide +kernel
  · show (["value", "attr", "dim"].any fun x => decide (x = "value")) = true; decide +kernel
theorem in_leaves_l (w : String) : dIn (.str (Str.ofString w)) (.lst [.str (Str.ofString "value"), .str (Str.ofString "attr"), .str (Str.ofString "dim")]) = some (.bl (["value", "attr", "dim"].any fun x => decide (x = w))) := dIn_l w ["value", "attr", "dim"]
theorem in_leaves_k (w : String) : dIn (.str (Str.ofString w)) k_LEAVES = some (.bl (["value", "attr", "dim"].any fun x => decide (x = w))) := dIn_f w ["value", "attr", "dim"]
/-! counting -/
theorem lc_mapT {α : Type} {g : D → En → Option En} {m : M D} {vs : List Nat} {env : En} (I F : α → D) : ∀ (xs : List α), (∀ x ∈ xs, ∃ env1 env2, g (I x) env = some env1 ∧ m env1 = .ok (F x) env2 ∧ wipeE env2 vs = env) → lcL g (M.pure true) m vs (xs.map I) env = .ok (xs.map F) env
  | [], _ => rfl
  | x :: xs, h => by
    obtain ⟨env1, env2, h0, h1, h2⟩ := h x List.mem_cons_self
    have ih := lc_mapT I F xs fun y hy => h y (List.mem_cons_of_mem _ hy)
    simp only [List.map_cons, lcL, h0, M.pure_ap, h1, h2, ih]
theorem ints_map : ∀ ns : List Int, isInts (ns.map D.int) = some ns
  | [] => rfl
  | n :: ns => by
    show (isInts (ns.map D.int)).map (n :: ·) = _
    rw [ints_map ns]; rfl
theorem sizes_sum : ∀ ts : List XT, (ts.map fun t => (size t : Int)).sum = (sizes ts : Int)
  | [] => by rw [sizes]; rfl
  | t :: ts => by rw [sizes, List.map_cons, List.sum_cons, sizes_sum ts]; omega
theorem sum_sizes (ts : List XT) : dSum [.lst (ts.map fun t => D.int (size t : Int))] = some (.int (sizes ts : Int)) := by
  have e : (ts.map fun t => D.int (size t : Int)) = (ts.map fun t => (size t : Int)).map D.int := by rw [List.map_map]; rfl
  show (isInts _).map _ = _
  rw [e, ints_map, Option.map_some, sizes_sum]
theorem count_eq : ∀ (f : Nat) (t : XT), XOk f t → fam__law_count f [.shr (toD t)] = .ret false (.int (size t : Int)) []
  | 0, _, h => h.elim
  | f + 1, .lf l, h => by
    have h1 := head_lf l
    have h2 := lfW_in l
    have h3 := in_leaves_l (lfW l)
    rw [h2] at h3
    rw [size]
    simp [fam__law_count, runF, b__law_count, argsE, eV, h1, h3, outsAt]
  | f + 1, .nd w ps, h => by
    obtain ⟨hw, hp⟩ := h
    have h1 := head_nd w ps
    have h2 := words_nl hw
    have h3 := in_leaves_l w
    rw [h2] at h3
    have h4 := sl_nd w ps
    have hl := words_len hw
    have lm := lc_mapT (g := gN 1) (m := eCall 1 (fam__law_count f) (rSh (eV 1) rNil)) (vs := [1]) (env := [some (.shr (toD (.nd w ps))), none]) toD (fun t => D.int (size t : Int)) ps (by
      intro t ht
      refine ⟨[some (.shr (toD (.nd w ps))), some (.shr (toD t))], [some (.shr (toD (.nd w ps))), some (.shr (toD t))], rfl, ?_, rfl⟩
      have := count_eq f t (hp t ht)
      simp [eV, callR, ioIx, slotsOf, putOuts, this])
    have hl2 : ps.length ≤ 16777216 := by omega
    have hs := sum_sizes ps
    have e1 : (1 : Int) + (sizes ps : Int) = (size (.nd w ps) : Int) := by rw [size]; omega
    simp only [toDs_map] at h4
    simp [fam__law_count, runF, b__law_count, argsE, eV, h1, h3, h4, lcR, hl2, wipeE, backE, lm, hs, e1, outsAt]
end Mi

namespace Mi
open PySem L2
/-! the kind of an expression from those of its parts -/
def joint (w : String) (k : List String) : Option String :=
  if w = "is missing" then some "flag"
  else if w ∈ ["neg", "abs", "add", "sub", "mul", "div", "mod"] then (if k.all (· = "int") then some "int" else none)
  else if w ∈ ["not", "and", "or"] then (if k.all (· = "flag") then some "flag" else none)
  else if w = "length" then (if k.all (· = "text") then some "int" else none)
  else if w = "joined" then (if k.all (· = "text") then some "text" else none)
  else if w = "if" then (if k.getD 0 "" = "flag" ∧ k.getD 1 "" = k.getD 2 "" then some (k.getD 1 "") else none)
  else if w = "or else" then (if k.getD 0 "" = k.getD 1 "" then some (k.getD 0 "") else none)
  else if k.getD 0 "" = k.getD 1 "" then some "flag" else none
def optD : Option String → D
  | some s => .str (Str.ofString s)
  | none => .non
def isRes (r : Fin) (o : Option String) : Bool := match r, o with
  | .ret false (.str z) [], some s => decide (z.cps.toList = (Str.ofString s).cps.toList)
  | .ret false .non [], none => true
  | _, _ => false
theorem isRes_eq {r : Fin} {o : Option String} (h : isRes r o = true) : r = .ret false (optD o) [] := by
  unfold isRes at h
  split at h
  · rename_i z s
    have e := of_decide_eq_true h
    have : z = Str.ofString s := by
      cases z with
      | mk c => 
        have e2 : c = (Str.ofString s).cps := Array.toList_inj.mp e
        cases hs : Str.ofString s with
        | mk c2 => rw [hs] at e2; rw [e2]
    rw [this]; rfl
  · rfl
  · cases h
def kinds3 : List String := ["int", "flag", "text"]
def lists3 : Nat → List (List String)
  | 0 => [[]]
  | n + 1 => (lists3 n).flatMap fun l => kinds3.map fun k => k :: l
theorem lists3_mem : ∀ {l : List String}, (∀ k ∈ l, Kd k) → l ∈ lists3 l.length
  | [], _ => List.mem_cons_self
  | k :: l, h => by
    show k :: l ∈ (lists3 l.length).flatMap _
    refine List.mem_flatMap.mpr ⟨l, lists3_mem fun x hx => h x (List.mem_cons_of_mem _ hx), List.mem_map.mpr ⟨k, ?_, rfl⟩⟩
    rcases h k List.mem_cons_self with rfl | rfl | rfl <;> simp [kinds3]
def kndsD (l : List String) : List D := l.map fun k => .str (Str.ofString k)
def chk (p : String × Nat) : Bool := (lists3 p.2).all fun l => isRes (m__kind_from [.shr (.str (Str.ofString p.1)), .shr (.lst (kndsD l))]) (joint p.1 l) && isRes (m__law_joint [.shr (.str (Str.ofString p.1)), .shr (.lst (kndsD l))]) (joint p.1 l)
theorem chk_all : words.all chk = true := by kernel_rfl
theorem joint_eq {w : String} {l : List String} (hw : (w, l.length) ∈ words) (hl : ∀ k ∈ l, Kd k) :
    m__kind_from [.shr (.str (Str.ofString w)), .shr (.lst (kndsD l))] = .ret false (optD (joint w l)) [] ∧ m__law_joint [.shr (.str (Str.ofString w)), .shr (.lst (kndsD l))] = .ret false (optD (joint w l)) [] := by
  have h1 := List.all_eq_true.mp chk_all _ hw
  have h2 := List.all_eq_true.mp h1 _ (lists3_mem hl)
  rw [Bool.and_eq_true] at h2
  exact ⟨isRes_eq h2.1, isRes_eq h2.2⟩
theorem joint_kd {w : String} {l : List String} {k : String} (hw : (w, l.length) ∈ words) (hl : ∀ k ∈ l, Kd k) (h : joint w l = some k) : Kd k := by
  have c : words.all (fun p => (lists3 p.2).all fun l => match joint p.1 l with | some k => decide (k = "int" ∨ k = "flag" ∨ k = "text") | none => true) = true := by decide +kernel
  have h1 := List.all_eq_true.mp (List.all_eq_true.mp c _ hw) _ (lists3_mem hl)
  simp only at h1
  rw [h] at h1
  exact (of_decide_eq_true h1 : k = "int" ∨ k = "flag" ∨ k = "text")
end Mi

namespace Mi
open PySem L2
theorem is_text_eq {s : Str} (h : OkS s) : m_is_text [.shr (.str s)] = .ret false (.bl true) [] := by
  have b1 : (Str.ofString " !\"#$").cps.toList = [32, 33, 34, 35, 36] := by decide +kernel
  have b2 : (Str.ofString "&'()*+,-./0123456789:;<=>?@ABCDEFGHIJKLMNOPQRSTUVWXYZ[\\]^_`abcdefghijklmnopqrstuvwxyz{|}~").cps.toList = List.range' 38 89 := by decide +kernel
  have b3 : Str.ofString "\n" = ⟨#[10]⟩ := by decide +kernel
  obtain ⟨env', h1, h2⟩ := forL_all (g := gN 1) (body := (mIf (bAnd (eTest (eOp dNotIn (eV 1) (eC (.str " !\"#$")))) (bAnd (eTest (eOp dNotIn (eV 1) (eC (.str "&'()*+,-./0123456789:;<=>?@ABCDEFGHIJKLMNOPQRSTUVWXYZ[\\]^_`abcdefghijklmnopqrstuvwxyz{|}~")))) (eTest (eOp dNe (eV 1) (eC (.str "\n")))))) (mRet (eC (.bl false))) mNx)) (clr := [1])
    (fun xs env => (∀ x ∈ xs, ∃ c, x = .str ⟨#[c]⟩ ∧ okC c) ∧ env = [some (.shr (.str s)), none])
    (by
      rintro x xs env ⟨hx, rfl⟩
      obtain ⟨c, rfl, hc⟩ := hx x List.mem_cons_self
      have hr := fun y hy => hx y (List.mem_cons_of_mem _ hy)
      have i1 : dNotIn (.str ⟨#[c]⟩) (.str (Str.ofString " !\"#$")) = some (.bl (!decide (c ∈ [32, 33, 34, 35, 36]))) := by
        show some (D.bl (!inS _ _)) = _
        rw [in_sign, b1]
      have i2 : dNotIn (.str ⟨#[c]⟩) (.str (Str.ofString "&'()*+,-./0123456789:;<=>?@ABCDEFGHIJKLMNOPQRSTUVWXYZ[\\]^_`abcdefghijklmnopqrstuvwxyz{|}~")) = some (.bl (!decide (c ∈ List.range' 38 89))) := by
        show some (D.bl (!inS _ _)) = _
        rw [in_sign, b2]
      have i3 : dNe (.str ⟨#[c]⟩) (.str (Str.ofString "\n")) = some (.bl (!decide (c = 10))) := by
        rw [dNe_s (strOk_one hc) (strOk_of _), b3, decide_eq_decide.mpr one_inj]
      simp only [Tn_gN]
      by_cases m1 : c ∈ [32, 33, 34, 35, 36]
      · simp only [m1, decide_true, Bool.not_true] at i1
        simp [eV, i1, clrE]
        exact hr
      · by_cases m2 : c ∈ List.range' 38 89
        · simp only [m1, m2, decide_true, Bool.not_true, decide_false, Bool.not_false] at i1 i2
          simp [eV, i1, i2, clrE]
          exact hr
        · have m3 : c = 10 := by
            unfold okC at hc
            rw [List.mem_range'_1] at m2
            simp at m1
            omega
          simp only [m1, m2, m3, decide_true, Bool.not_true, decide_false, Bool.not_false] at i1 i2 i3
          subst m3
          simp [eV, i1, i2, i3, clrE]
          exact hr)
    (s.cps.toList.map fun c => .str ⟨#[c]⟩) [some (.shr (.str s)), none] ⟨by
      intro x hx
      obtain ⟨c, hc, rfl⟩ := List.mem_map.mp hx
      exact ⟨c, rfl, h c hc⟩, rfl⟩
  obtain ⟨_, rfl⟩ := h2
  simp [m_is_text, runF, b_is_text, lp_is_text_1, argsE, eV, h1, outsAt]
/-! ### the place of a name in rows -/
abbrev Row := String × List D
def rowsD (rs : List Row) : List D := rs.map fun r => .tup (.str (Str.ofString r.1) :: r.2)
structure First (rs : List Row) (n : String) (j : Nat) : Prop where
  at_ : ∃ t, rs[j]? = some (n, t)
  no : ∀ i, i < j → ∀ r, rs[i]? = some r → r.1 ≠ n
theorem first_idx : ∀ (rs : List Row) (n : String), (∃ r ∈ rs, r.1 = n) → ∃ j, First rs n j
  | [], _, h => by obtain ⟨_, h, _⟩ := h; cases h
  | r :: rs, n, h => by
    by_cases c : r.1 = n
    · refine ⟨0, ⟨r.2, by rw [List.getElem?_cons_zero, ← c]⟩, fun i hi => absurd hi (Nat.not_lt_zero i)⟩
    · obtain ⟨q, hq, e⟩ := h
      rcases List.mem_cons.mp hq with rfl | hq
      · exact absurd e c
      · obtain ⟨j, ⟨t, h1⟩, h2⟩ := first_idx rs n ⟨q, hq, e⟩
        refine ⟨j + 1, ⟨t, by rw [List.getElem?_cons_succ]; exact h1⟩, fun i hi r' hr => ?_⟩
        cases i with
        | zero => cases hr; exact c
        | succ i => exact h2 i (by omega) r' (by simpa using hr)
theorem dIx_t (xs : List D) (j : Nat) (h : j < xs.length) : dIx (.tup xs) (.int j) = xs[j]? := by
  show atI _ _ = _
  rw [atI_get _ _ (by omega) (by omega), Int.toNat_natCast]
theorem index_eq {rs : List Row} {n : String} {j : Nat} (h : First rs n j) (hl : rs.length ≤ 1000) : m__index_of [.shr (.tup (rowsD rs)), .shr (.str (Str.ofString n))] = .ret false (.int j) [] := by
  have hrl : (rowsD rs).length = rs.length := List.length_map ..
  have key : ∀ m i : Nat, i + m = rs.length → i ≤ j → ∃ e, forL (gN 2) (mIf (eTest (eOp dEq (eOp dIx (eOp dIx (eV 0) (eV 2)) (eC (.int 0))) (eV 1))) (mRet (eV 2)) mNx) [2] ((List.range' i m).map fun (k : Nat) => D.int (k : Int)) [some (.shr (.tup (rowsD rs))), some (.shr (.str (Str.ofString n))), none] = .ok (.rt false (.int j)) e := by
    intro m
    induction m with
    | zero =>
      intro i h1 h2
      obtain ⟨t, ht⟩ := h.at_
      obtain ⟨hlt, _⟩ := List.getElem?_eq_some_iff.mp ht
      omega
    | succ m ih =>
      intro i h1 h2
      rw [List.range'_succ, List.map_cons]
      have hi : i < rs.length := by omega
      have hx : dIx (.tup (rowsD rs)) (.int i) = some (.tup (.str (Str.ofString rs[i].1) :: rs[i].2)) := by
        rw [dIx_t _ _ (by rw [hrl]; exact hi), rowsD, List.getElem?_map, List.getElem?_eq_getElem hi]; rfl
      by_cases c : i = j
      · subst c
        obtain ⟨t, ht⟩ := h.at_
        rw [List.getElem?_eq_getElem hi] at ht
        have hn : rs[i].1 = n := by rw [Option.some.inj ht]
        refine ⟨_, forL_rt (env2 := [some (.shr (.tup (rowsD rs))), some (.shr (.str (Str.ofString n))), some (.shr (.int i))]) rfl ?_⟩
        simp [eV, hx, t_0, hn]
      · have hn : rs[i].1 ≠ n := h.no i (by omega) _ (List.getElem?_eq_getElem hi)
        rw [forL_nx (env2 := [some (.shr (.tup (rowsD rs))), some (.shr (.str (Str.ofString n))), some (.shr (.int i))]) rfl (by simp [eV, hx, t_0, hn])]
        exact ih (i + 1) (by omega) (by omega)
  obtain ⟨e, h1⟩ := key rs.length 0 (by omega) (Nat.zero_le _)
  have rg : rngD 0 rs.length = (List.range' 0 rs.length).map fun (k : Nat) => D.int (k : Int) := by
    rw [rngD_drop, List.range_eq_range']
  rw [← rg] at h1
  have s62 : small62 (rs.length : Int) = true := small_of (by omega) (by omega)
  simp [m__index_of, runF, b__index_of, lp__index_of_1, argsE, eV, outsAt, hrl, iR1F_ok s62, h1]
theorem index_no {rs : List Row} {n : String} (h : ∀ r ∈ rs, r.1 ≠ n) (hl : rs.length ≤ 1000) : m__index_of [.shr (.tup (rowsD rs)), .shr (.str (Str.ofString n))] = .ret false .non [] := by
  have hrl : (rowsD rs).length = rs.length := List.length_map ..
  have key : ∀ m i : Nat, i + m = rs.length → ∃ e, forL (gN 2) (mIf (eTest (eOp dEq (eOp dIx (eOp dIx (eV 0) (eV 2)) (eC (.int 0))) (eV 1))) (mRet (eV 2)) mNx) [2] ((List.range' i m).map fun (k : Nat) => D.int (k : Int)) [some (.shr (.tup (rowsD rs))), some (.shr (.str (Str.ofString n))), none] = .ok .nx e := by
    intro m
    induction m with
    | zero => intro i h1; exact ⟨_, rfl⟩
    | succ m ih =>
      intro i h1
      rw [List.range'_succ, List.map_cons]
      have hi : i < rs.length := by omega
      have hx : dIx (.tup (rowsD rs)) (.int i) = some (.tup (.str (Str.ofString rs[i].1) :: rs[i].2)) := by
        rw [dIx_t _ _ (by rw [hrl]; exact hi), rowsD, List.getElem?_map, List.getElem?_eq_getElem hi]; rfl
      have hn : rs[i].1 ≠ n := h _ (List.getElem_mem hi)
      rw [forL_nx (env2 := [some (.shr (.tup (rowsD rs))), some (.shr (.str (Str.ofString n))), some (.shr (.int i))]) rfl (by simp [eV, hx, t_0, hn])]
      exact ih (i + 1) (by omega)
  obtain ⟨e, h1⟩ := key rs.length 0 (by omega)
  have rg : rngD 0 rs.length = (List.range' 0 rs.length).map fun (k : Nat) => D.int (k : Int) := by
    rw [rngD_drop, List.range_eq_range']
  rw [← rg] at h1
  have s62 : small62 (rs.length : Int) = true := small_of (by omega) (by omega)
  simp [m__index_of, runF, b__index_of, lp__index_of_1, argsE, eV, outsAt, hrl, iR1F_ok s62, h1]
def attrR (ks : List String) : List Row := (abcd.zip ks).map fun p => (p.1, [D.str (Str.ofString p.2)])
def dimR (ds : List Dm) : List Row := ds.map fun d => (d.n, [D.int d.lo, .int d.hi, .int d.st])
theorem attrR_eq (ks : List String) : attrsD ks = rowsD (attrR ks) := by simp [attrsD, attrD, rowsD, attrR]
theorem dimR_eq (ds : List Dm) : ds.map dimD = rowsD (dimR ds) := by
  simp only [rowsD, dimR, List.map_map]; rfl
theorem is_value_ok {k : String} {v : D} (h : KV k v) : m_is_value [.shr (.str (Str.ofString k)), .shr v] = .ret false (.bl true) [] := by
  have ng : ∀ i, dNeg (.int i) = some (.int (-i)) := fun _ => rfl
  rcases h with ⟨rfl, i, rfl, h1, h2⟩ | ⟨rfl, b, rfl⟩ | ⟨rfl, s, rfl, o, l⟩
  · have h1' : -1000000000000000000000000000000 < i := by omega
    have h2' : i < 1000000000000000000000000000000 := by omega
    have e : m_is_integer [.shr (.int i)] = .ret false (.bl true) [] := by simp [m_is_integer, runF, b_is_integer, argsE, eV, outsAt]
    simp [m_is_value, runF, b_is_value, argsE, eV, outsAt, callR, ioIx, slotsOf, putOuts, e, ng, h1', h2']
  · simp [m_is_value, runF, b_is_value, argsE, eV, outsAt]
  · have ln : dLen [.str s] = some (.int s.length) := dLen_s s (by omega)
    have c : (s.length : Int) ≤ 200 := by omega
    simp [m_is_value, runF, b_is_value, argsE, eV, outsAt, ln, c, callR, ioIx, slotsOf, putOuts, is_text_eq o]
theorem VK.ne {k : String} {v : D} (h : VK k v) : dNe v v = some (.bl false) := by
  rcases h with rfl | ⟨_, i, rfl, _⟩ | ⟨_, b, rfl⟩ | ⟨_, s, rfl, o, _⟩
  · rfl
  · simp
  · simp
  · rw [dNe_s o.ok o.ok]; simp
end Mi

namespace Mi
open PySem L2
/-! leaves -/
@[simp] theorem seqR_exn (n : M Fl) (x : Xn) (e : En) : seqR (.exn x e) n = .exn x e := rfl
@[simp] theorem mRaise_ap (c : Str) (m : M D) (env : En) : mRaise c m env = (m env).bind fun d e => match d with
  | .int i => .exn ⟨c, i⟩ e
  | _ => .stuck := rfl
def valOk (w : String) : D → Bool
  | .non => decide (w = "int" ∨ w = "flag" ∨ w = "text")
  | .int i => decide (w = "int" ∧ -1000000000000000000000000000000 < i ∧ i < 1000000000000000000000000000000)
  | .bl _ => decide (w = "flag")
  | .str _ => decide (w = "text")
  | _ => false
def lfKind (ds : List Dm) (ks : List String) : Lf → Option String
  | .nm n => ((abcd.zip ks).find? fun p => decide (p.1 = n)).map (·.2)
  | .dm n => if (ds.any fun d => decide (d.n = n)) = true then some "int" else none
  | .vl w v => if valOk w v = true then some w else none
def ckD (sh : D) (c : Nat) : D := .ins (Str.ofString "Checker") [(Str.ofString "shape", sh), (Str.ofString "count", .int c)]
theorem fGet_sh (sh : D) (c : Nat) : fGet (Str.ofString "Checker") (Str.ofString "shape") (ckD sh c) = some sh := by
  simp [fGet, ckD]
theorem is_value_all {w : String} {v : D} (hw : Kd w) (hv : VV v) : v ≠ .non → m_is_value [.shr (.str (Str.ofString w)), .shr v] = .ret false (.bl (valOk w v)) [] := by
  intro nn
  have ng : ∀ i, dNeg (.int i) = some (.int (-i)) := fun _ => rfl
  rcases hv with rfl | ⟨i, rfl⟩ | ⟨b, rfl⟩ | ⟨s, rfl, o, l⟩
  · exact absurd rfl nn
  · have e : m_is_integer [.shr (.int i)] = .ret false (.bl true) [] := by simp [m_is_integer, runF, b_is_integer, argsE, eV, outsAt]
    rcases hw with rfl | rfl | rfl
    · by_cases h1 : -1000000000000000000000000000000 < i
      · by_cases h2 : i < 1000000000000000000000000000000
        · simp [m_is_value, runF, b_is_value, argsE, eV, outsAt, callR, ioIx, slotsOf, putOuts, e, ng, h1, h2, valOk]
        · simp [m_is_value, runF, b_is_value, argsE, eV, outsAt, callR, ioIx, slotsOf, putOuts, e, ng, h1, h2, valOk]
      · simp [m_is_value, runF, b_is_value, argsE, eV, outsAt, callR, ioIx, slotsOf, putOuts, e, ng, h1, valOk]
    · simp [m_is_value, runF, b_is_value, argsE, eV, outsAt, callR, ioIx, slotsOf, putOuts, e, ng, valOk]
    · simp [m_is_value, runF, b_is_value, argsE, eV, outsAt, callR, ioIx, slotsOf, putOuts, e, ng, valOk]
  · have e : m_is_integer [.shr (.bl b)] = .ret false (.bl false) [] := by simp [m_is_integer, runF, b_is_integer, argsE, eV, outsAt]
    rcases hw with rfl | rfl | rfl <;> simp [m_is_value, runF, b_is_value, argsE, eV, outsAt, callR, ioIx, slotsOf, putOuts, e, ng, valOk]
  · have e : m_is_integer [.shr (.str s)] = .ret false (.bl false) [] := by simp [m_is_integer, runF, b_is_integer, argsE, eV, outsAt]
    have ln : dLen [.str s] = some (.int s.length) := dLen_s s (by omega)
    have c : (s.length : Int) ≤ 200 := by omega
    rcases hw with rfl | rfl | rfl <;> simp [m_is_value, runF, b_is_value, argsE, eV, outsAt, callR, ioIx, slotsOf, putOuts, e, ng, ln, c, is_text_eq o, valOk]
theorem in_kinds (w : String) : dIn (.str (Str.ofString w)) k_KINDS = some (.bl (["int", "flag", "text"].any fun x => decide (x = w))) := dIn_f w ["int", "flag", "text"]
theorem find_filter {α : Type} (p : α → Bool) : ∀ l : List α, (l.filter p)[0]? = l.find? p
  | [] => rfl
  | a :: l => by
    rw [List.filter_cons, List.find?_cons]
    cases h : p a with
    | true => rfl
    | false => exact find_filter p l
theorem catN (xs : List D) (h : xs.length ≤ 1000) : dAdd (.lst xs) (.lst [.non]) = some (.lst (xs ++ [.non])) := by
  unfold dAdd
  exact if_pos (by simp; omega)
theorem dIx_0l (xs : List D) : dIx (.lst (xs ++ [.non])) (.int 0) = some ((xs[0]?).getD .non) := by
  cases xs with
  | nil => rfl
  | cons x xs =>
    have h := atI_get (x :: xs ++ [D.non]) 0 (by omega) (by simp; omega)
    show atI (x :: xs ++ [D.non]) 0 = _
    rw [h]; rfl
theorem lfKind_vl (ds : List Dm) (ks : List String) (w : String) (v : D) : lfKind ds ks (.vl w v) = if valOk w v = true then some w else none := rfl
theorem lfKind_dm (ds : List Dm) (ks : List String) (n : String) : lfKind ds ks (.dm n) = if (ds.any fun d => decide (d.n = n)) = true then some "int" else none := rfl
theorem lfKind_nm (ds : List Dm) (ks : List String) (n : String) : lfKind ds ks (.nm n) = ((abcd.zip ks).find? fun p => decide (p.1 = n)).map (·.2) := rfl
section
variable {ds : List Dm} {ks : List String} (ok : ShOk ds ks)
include ok
theorem attr_ix (n : String) : (∃ (j : Nat) (p : String × String), (abcd.zip ks)[j]? = some p ∧ ((abcd.zip ks).find? fun p => decide (p.1 = n)) = some p ∧ m_attr_index [.shr (shD ds ks), .shr (.str (Str.ofString n))] = .ret false (.int j) []) ∨
    (((abcd.zip ks).find? fun p => decide (p.1 = n)) = none ∧ m_attr_index [.shr (shD ds ks), .shr (.str (Str.ofString n))] = .ret false .non []) := by
  have hl : (attrR ks).length ≤ 1000 := by
    unfold attrR
    rw [List.length_map, List.length_zip]
    have := ok.a4
    omega
  have fa := fGet_attrs ds ks
  rw [attrR_eq] at fa
  by_cases c : ∃ r ∈ attrR ks, r.1 = n
  · obtain ⟨j, hj⟩ := first_idx _ _ c
    obtain ⟨t, ht⟩ := hj.at_
    have hx := index_eq hj hl
    unfold attrR at ht
    rw [List.getElem?_map] at ht
    obtain ⟨p, e1, e2⟩ := Option.map_eq_some_iff.mp ht
    refine .inl ⟨j, p, e1, ?_, ?_⟩
    · refine List.find?_eq_some_iff_getElem.mpr ⟨decide_eq_true (Prod.mk.inj e2).1, ?_⟩
      obtain ⟨lt, e3⟩ := List.getElem?_eq_some_iff.mp e1
      refine ⟨j, lt, e3, fun i hi => ?_⟩
      have := hj.no i hi ((abcd.zip ks)[i].1, [D.str (Str.ofString (abcd.zip ks)[i].2)]) (by unfold attrR; rw [List.getElem?_map, List.getElem?_eq_getElem (by omega)]; rfl)
      simpa using this
    · simp [m_attr_index, runF, b_attr_index, argsE, eV, fa, callR, ioIx, slotsOf, putOuts, hx, outsAt]
  · have c' : ∀ r ∈ attrR ks, r.1 ≠ n := fun r hr e => c ⟨r, hr, e⟩
    have hx := index_no c' hl
    refine .inr ⟨?_, ?_⟩
    · rw [List.find?_eq_none]
      intro p hp
      have := c' (p.1, [D.str (Str.ofString p.2)]) (List.mem_map.mpr ⟨p, hp, rfl⟩)
      simpa using this
    · simp [m_attr_index, runF, b_attr_index, argsE, eV, fa, callR, ioIx, slotsOf, putOuts, hx, outsAt]
theorem dim_ix (n : String) : ((ds.any fun d => decide (d.n = n)) = true ∧ ∃ j : Nat, m_dim_index [.shr (shD ds ks), .shr (.str (Str.ofString n))] = .ret false (.int j) []) ∨
    ((ds.any fun d => decide (d.n = n)) = false ∧ m_dim_index [.shr (shD ds ks), .shr (.str (Str.ofString n))] = .ret false .non []) := by
  have hl : (dimR ds).length ≤ 1000 := by
    unfold dimR
    rw [List.length_map]
    have := ok.d3
    omega
  have fa := fGet_dims ds ks
  rw [dimR_eq] at fa
  by_cases c : ∃ r ∈ dimR ds, r.1 = n
  · obtain ⟨j, hj⟩ := first_idx _ _ c
    have hx := index_eq hj hl
    refine .inl ⟨?_, j, ?_⟩
    · obtain ⟨r, hr, e⟩ := c
      obtain ⟨d, hd, rfl⟩ := List.mem_map.mp hr
      exact List.any_eq_true.mpr ⟨d, hd, decide_eq_true e⟩
    · simp [m_dim_index, runF, b_dim_index, argsE, eV, fa, callR, ioIx, slotsOf, putOuts, hx, outsAt]
  · have c' : ∀ r ∈ dimR ds, r.1 ≠ n := fun r hr e => c ⟨r, hr, e⟩
    have hx := index_no c' hl
    refine .inr ⟨?_, ?_⟩
    · rw [List.any_eq_false]
      intro d hd
      have := c' (d.n, [D.int d.lo, .int d.hi, .int d.st]) (List.mem_map.mpr ⟨d, hd, rfl⟩)
      simpa using this
    · simp [m_dim_index, runF, b_dim_index, argsE, eV, fa, callR, ioIx, slotsOf, putOuts, hx, outsAt]
theorem leaf_prog {l : Lf} (hl : LfOk l) (c : Nat) (q : Nat) : m_Checker_leaf [.own true (ckD (shD ds ks) c), .shr (lfD l), .shr (.int q)] = match lfKind ds ks l with
    | some k => .ret false (.str (Str.ofString k)) [ckD (shD ds ks) c]
    | none => .exn ⟨Str.ofString "InvalidQuery", q⟩ [ckD (shD ds ks) c] := by
  have fs := fGet_sh (shD ds ks) c
  cases l with
  | nm n =>
    have fa := fGet_attrs ds ks
    rcases attr_ix ok n with ⟨j, p, e1, e2, e3⟩ | ⟨e2, e3⟩
    · have d1 : dIx (.tup (attrsD ks)) (.int j) = some (attrD p) := by
        have lt := (List.getElem?_eq_some_iff.mp e1).1
        rw [dIx_t _ _ (by unfold attrsD; rw [List.length_map]; exact lt)]
        unfold attrsD
        rw [List.getElem?_map, e1]; rfl
      have d2 : dIx (attrD p) (.int 1) = some (.str (Str.ofString p.2)) := t_1 _ _ _
      simp [m_Checker_leaf, runF, b_Checker_leaf, argsE, eV, lfD, t_0, t_1, eFldO, getOwn, fs, callR, ioIx, slotsOf, putOuts, e3, fa, d1, d2, outsAt, lfKind, e2]
    · simp [m_Checker_leaf, runF, b_Checker_leaf, argsE, eV, lfD, t_0, t_1, eFldO, getOwn, fs, callR, ioIx, slotsOf, putOuts, e3, fa, outsAt, lfKind, e2, mRaise]
  | dm n =>
    rcases dim_ix ok n with ⟨e2, j, e3⟩ | ⟨e2, e3⟩
    · simp [m_Checker_leaf, runF, b_Checker_leaf, argsE, eV, lfD, t_0, t_1, eFldO, getOwn, fs, callR, ioIx, slotsOf, putOuts, e3, outsAt, lfKind, e2]
    · simp [m_Checker_leaf, runF, b_Checker_leaf, argsE, eV, lfD, t_0, t_1, eFldO, getOwn, fs, callR, ioIx, slotsOf, putOuts, e3, outsAt, lfKind, e2, mRaise]
  | vl w v =>
    obtain ⟨hw, hv⟩ := hl
    have ik := in_kinds w
    have sl : dSl (.tup [.str (Str.ofString "value"), .str (Str.ofString w), v]) (some 1) none = some (.tup [.str (Str.ofString w), v]) := sl1 _ _
    have h0 : m_Checker_leaf [.own true (ckD (shD ds ks) c), .shr (.tup [.str (Str.ofString "value"), .str (Str.ofString w), v]), .shr (.int q)] = match valOk w v with
      | true => .ret false (.str (Str.ofString w)) [ckD (shD ds ks) c]
      | false => .exn ⟨Str.ofString "InvalidQuery", q⟩ [ckD (shD ds ks) c] := by
      rcases hw with hw | rfl
      · have any1 : (["int", "flag", "text"].any fun x => decide (x = w)) = true := by rcases hw with rfl | rfl | rfl <;> decide +kernel
        rw [any1] at ik
        by_cases nn : v = .non
        · subst nn
          have v1 : valOk w .non = true := decide_eq_true hw
          simp [m_Checker_leaf, runF, b_Checker_leaf, argsE, eV, t_0, mAsg, sl, gT, gN, gAll, ik, v1, outsAt]
        · have iv := is_value_all hw hv nn
          have nv : isNon v = false := by cases v <;> first | rfl | exact absurd rfl nn
          cases hvv : valOk w v with
          | true => 
            rw [hvv] at iv
            simp [m_Checker_leaf, runF, b_Checker_leaf, argsE, eV, t_0, mAsg, sl, gT, gN, gAll, ik, iv, nv, callR, ioIx, slotsOf, putOuts, outsAt]
          | false =>
            rw [hvv] at iv
            simp [m_Checker_leaf, runF, b_Checker_leaf, argsE, eV, t_0, mAsg, sl, gT, gN, gAll, ik, iv, nv, callR, ioIx, slotsOf, putOuts, outsAt]
      · have any1 : (["int", "flag", "text"].any fun x => decide (x = "number")) = false := by decide +kernel
        rw [any1] at ik
        have v1 : valOk "number" v = false := by
          rcases hv with rfl | ⟨i, rfl⟩ | ⟨b, rfl⟩ | ⟨s, rfl, _⟩ <;> simp [valOk]
        simp [m_Checker_leaf, runF, b_Checker_leaf, argsE, eV, t_0, mAsg, sl, gT, gN, gAll, ik, v1, outsAt]
    show m_Checker_leaf [.own true (ckD (shD ds ks) c), .shr (.tup [.str (Str.ofString "value"), .str (Str.ofString w), v]), .shr (.int q)] = _
    rw [h0, lfKind_vl]
    cases valOk w v <;> rfl
theorem leaf_law {l : Lf} (hl : LfOk l) : m__law_leaf_kind [.shr (lfD l), .shr (shD ds ks)] = .ret false (optD (lfKind ds ks l)) [] := by
  cases l with
  | nm n =>
    have fa := fGet_attrs ds ks
    have hlen : (attrsD ks).length ≤ 4 := by
      unfold attrsD
      rw [List.length_map, List.length_zip]
      have : abcd.length = 4 := rfl
      omega
    have hl2 : (attrsD ks).length ≤ 16777216 := by omega
    have lf := lc_filter (g := gT [gN 7, gN 5]) (t := eTest (eOp dEq (eV 7) (eOp dIx (eV 0) (eC (.int 1))))) (m := eV 5) (vs := [7, 5]) (env := [some (.shr (lfD (.nm n))), some (.shr (shD ds ks)), none, none, none, none, none, none, none]) (fun d => match d with
      | .tup (.str y :: _) => decide (y = Str.ofString n)
      | _ => false) (fun d => match d with
      | .tup [_, x] => x
      | x => x) (attrsD ks) (by
        intro x hx
        obtain ⟨q, _, rfl⟩ := List.mem_map.mp hx
        refine ⟨[some (.shr (lfD (.nm n))), some (.shr (shD ds ks)), none, none, none, some (.shr (.str (Str.ofString q.2))), none, some (.shr (.str (Str.ofString q.1))), none], rfl, ?_, rfl, rfl⟩
        simp [eV, attrD, lfD, t_1, ofString_inj])
    have hf : ((attrsD ks).filter (fun d => match d with
      | .tup (.str y :: _) => decide (y = Str.ofString n)
      | _ => false)).map (fun d => match d with
      | .tup [_, x] => x
      | x => x) = ((abcd.zip ks).filter fun p => decide (p.1 = n)).map fun p => D.str (Str.ofString p.2) := by
      unfold attrsD
      rw [List.filter_map, List.map_map]
      congr 1
      apply List.filter_congr
      intro p _
      simp [attrD, ofString_inj]
    rw [hf] at lf
    have hfl : (((abcd.zip ks).filter fun p => decide (p.1 = n)).map fun p => D.str (Str.ofString p.2)).length ≤ 1000 := by
      rw [List.length_map]
      refine Nat.le_trans (List.length_filter_le _ _) ?_
      rw [List.length_zip]
      have : abcd.length = 4 := rfl
      omega
    have hc := catN _ hfl
    have hx := dIx_0l (((abcd.zip ks).filter fun p => decide (p.1 = n)).map fun p => D.str (Str.ofString p.2))
    have hg : ((((abcd.zip ks).filter fun p => decide (p.1 = n)).map fun p => D.str (Str.ofString p.2))[0]?).getD .non = optD (lfKind ds ks (.nm n)) := by
      rw [List.getElem?_map, find_filter]
      rw [lfKind_nm]
      cases (abcd.zip ks).find? fun p => decide (p.1 = n) <;> rfl
    rw [hg] at hx
    generalize ((abcd.zip ks).filter fun p => decide (p.1 = n)).map (fun p => D.str (Str.ofString p.2)) = fs at lf hc hx
    have z0 : dIx (lfD (.nm n)) (.int 0) = some (.str (Str.ofString "attr")) := t_0 _ _
    simp [m__law_leaf_kind, runF, b__law_leaf_kind, argsE, eV, z0, fa, lcR, hl2, wipeE, backE, lf, hc, hx, outsAt]
  | dm n =>
    have fa := fGet_dims ds ks
    have hl2 : (ds.map dimD).length ≤ 16777216 := by rw [List.length_map]; have := ok.d3; omega
    have lm := lc_mapT (g := gN 8) (m := eOp dIx (eV 8) (eC (.int 0))) (vs := [8]) (env := [some (.shr (lfD (.dm n))), some (.shr (shD ds ks)), none, none, none, none, none, none, none]) dimD (fun d => D.str (Str.ofString d.n)) ds (by
      intro d _
      refine ⟨[some (.shr (lfD (.dm n))), some (.shr (shD ds ks)), none, none, none, none, none, none, some (.shr (dimD d))], [some (.shr (lfD (.dm n))), some (.shr (shD ds ks)), none, none, none, none, none, none, some (.shr (dimD d))], rfl, ?_, rfl⟩
      have : dIx (dimD d) (.int 0) = some (.str (Str.ofString d.n)) := t_0 _ _
      simp [eV, this])
    have hin : dIn (.str (Str.ofString n)) (.lst (ds.map fun d => D.str (Str.ofString d.n))) = some (.bl ((ds.map (·.n)).any fun x => decide (x = n))) := by
      have := dIn_l n (ds.map (·.n))
      rw [List.map_map] at this
      exact this
    have z0 : dIx (lfD (.dm n)) (.int 0) = some (.str (Str.ofString "dim")) := t_0 _ _
    have z1 : dIx (lfD (.dm n)) (.int 1) = some (.str (Str.ofString n)) := t_1 _ _ _
    have ha : ((ds.map (·.n)).any fun x => decide (x = n)) = ds.any fun d => decide (d.n = n) := by rw [List.any_map]; rfl
    rw [ha] at hin
    have hp := pick2 (.str (Str.ofString "int")) (ds.any fun d => decide (d.n = n))
    have hb := dInt_b (ds.any fun d => decide (d.n = n))
    have ho : (if (ds.any fun d => decide (d.n = n)) = true then D.str (Str.ofString "int") else .non) = optD (lfKind ds ks (.dm n)) := by
      rw [lfKind_dm]
      cases ds.any fun d => decide (d.n = n) <;> rfl
    rw [ho] at hp
    simp only [List.length_map] at hl2
    generalize (ds.any fun d => decide (d.n = n)) = bb at hin hb hp
    simp [m__law_leaf_kind, runF, b__law_leaf_kind, argsE, eV, z0, z1, fa, lcR, hl2, wipeE, backE, lm, hin, hb, hp, outsAt]
  | vl w v =>
    obtain ⟨hw, hv⟩ := hl
    have z0 : dIx (lfD (.vl w v)) (.int 0) = some (.str (Str.ofString "value")) := t_0 _ _
    have ng : ∀ i, dNeg (.int i) = some (.int (-i)) := fun _ => rfl
    have pw : dPow (.int 10) (.int 30) = some (.int 1000000000000000000000000000000) := rfl
    have d0 : dInt [.bl false] = some (.int 0) := rfl
    have d1 : dInt [.bl true] = some (.int 1) := rfl
    have p0 : ∀ x : D, dIx (.lst [.non, x]) (.int 0) = some .non := fun _ => rfl
    have p1 : ∀ x : D, dIx (.lst [.non, x]) (.int 1) = some x := fun _ => rfl
    have h1 : m__law_leaf_kind [.shr (.tup [.str (Str.ofString "value"), .str (Str.ofString w), v]), .shr (shD ds ks)] = .ret false (if valOk w v = true then .str (Str.ofString w) else .non) [] := by
      rcases hv with rfl | ⟨i, rfl⟩ | ⟨b, rfl⟩ | ⟨s, rfl, _⟩
      · rcases hw with (rfl | rfl | rfl) | rfl <;> simp [m__law_leaf_kind, runF, b__law_leaf_kind, argsE, eV, t_0, mAsg, gT, gN, gAll, d0, d1, p0, p1, valOk, outsAt]
      · by_cases c1 : -1000000000000000000000000000000 < i
        · by_cases c2 : i < 1000000000000000000000000000000
          · rcases hw with (rfl | rfl | rfl) | rfl <;> simp [m__law_leaf_kind, runF, b__law_leaf_kind, argsE, eV, t_0, mAsg, gT, gN, gAll, d0, d1, p0, p1, valOk, outsAt, ng, pw, c1, c2]
          · rcases hw with (rfl | rfl | rfl) | rfl <;> simp [m__law_leaf_kind, runF, b__law_leaf_kind, argsE, eV, t_0, mAsg, gT, gN, gAll, d0, d1, p0, p1, valOk, outsAt, ng, pw, c1, c2]
        · rcases hw with (rfl | rfl | rfl) | rfl <;> simp [m__law_leaf_kind, runF, b__law_leaf_kind, argsE, eV, t_0, mAsg, gT, gN, gAll, d0, d1, p0, p1, valOk, outsAt, ng, pw, c1]
      · rcases hw with (rfl | rfl | rfl) | rfl <;> simp [m__law_leaf_kind, runF, b__law_leaf_kind, argsE, eV, t_0, mAsg, gT, gN, gAll, d0, d1, p0, p1, valOk, outsAt]
      · rcases hw with (rfl | rfl | rfl) | rfl <;> simp [m__law_leaf_kind, runF, b__law_leaf_kind, argsE, eV, t_0, mAsg, gT, gN, gAll, d0, d1, p0, p1, valOk, outsAt]
    show m__law_leaf_kind [.shr (.tup [.str (Str.ofString "value"), .str (Str.ofString w), v]), .shr (shD ds ks)] = _
    rw [h1, lfKind_vl]
    cases valOk w v <;> rfl
end
end Mi

namespace Mi
open PySem L2
/-! the kind of an expression, or the number of the first wrong one -/
section
variable (ds : List Dm) (ks : List String)
mutual
def kd : XT → Nat → String ⊕ Nat
  | .lf l, c => match lfKind ds ks l with
    | some k => .inl k
    | none => .inr c
  | .nd w ps, c => match kds ps (c + 1) with
    | .inl kl => match joint w kl with
      | some k => .inl k
      | none => .inr c
    | .inr p => .inr p
def kds : List XT → Nat → List String ⊕ Nat
  | [], _ => .inl []
  | t :: ts, c => match kd t c with
    | .inl k => match kds ts (c + size t) with
      | .inl kl => .inl (k :: kl)
      | .inr p => .inr p
    | .inr p => .inr p
end
end
section
variable {ds : List Dm} {ks : List String} (ok : ShOk ds ks)
theorem kds_nil (c : Nat) : kds ds ks [] c = .inl [] := by rw [kds]
theorem kds_cons (t : XT) (ts : List XT) (c : Nat) : kds ds ks (t :: ts) c = match kd ds ks t c with
    | .inl k => match kds ds ks ts (c + size t) with
      | .inl kl => .inl (k :: kl)
      | .inr p => .inr p
    | .inr p => .inr p := by rw [kds]
theorem kd_lf (l : Lf) (c : Nat) : kd ds ks (.lf l) c = match lfKind ds ks l with
    | some k => .inl k
    | none => .inr c := by rw [kd]
theorem kd_nd (w : String) (ps : List XT) (c : Nat) : kd ds ks (.nd w ps) c = match kds ds ks ps (c + 1) with
    | .inl kl => match joint w kl with
      | some k => .inl k
      | none => .inr c
    | .inr p => .inr p := by rw [kd]
include ok
theorem lf_kd {l : Lf} (hl : LfOk l) {k : String} (h : lfKind ds ks l = some k) : Kd k := by
  cases l with
  | nm n =>
    rw [lfKind_nm] at h
    obtain ⟨p, e1, e2⟩ := Option.map_eq_some_iff.mp h
    have := List.mem_of_find?_eq_some e1
    have h2 := (List.of_mem_zip this).2
    rw [e2] at h2
    exact ok.kok k h2
  | dm n =>
    rw [lfKind_dm] at h
    split at h
    · cases h; exact .inl rfl
    · cases h
  | vl w v =>
    rw [lfKind_vl] at h
    split at h
    · rename_i hv
      cases h
      rcases hl.1 with z | rfl
      · exact z
      · rcases hl.2 with rfl | ⟨i, rfl⟩ | ⟨b, rfl⟩ | ⟨s, rfl, _⟩ <;> simp [valOk] at hv
    · cases h
theorem kds_ok {f : Nat} (ih : ∀ t, XOk f t → ∀ c k, kd ds ks t c = .inl k → Kd k) : ∀ (ps : List XT), (∀ p ∈ ps, XOk f p) → ∀ c kl, kds ds ks ps c = .inl kl → kl.length = ps.length ∧ ∀ k ∈ kl, Kd k
  | [], _, c, kl, h => by
    rw [kds_nil] at h
    cases h
    exact ⟨rfl, fun _ h => by cases h⟩
  | t :: ts, hp, c, kl, h => by
    rw [kds_cons] at h
    cases e : kd ds ks t c with
    | inr p => rw [e] at h; cases h
    | inl k =>
      rw [e] at h
      cases e2 : kds ds ks ts (c + size t) with
      | inr p => simp only [e2] at h; cases h
      | inl kl2 =>
        simp only [e2] at h
        cases h
        obtain ⟨h1, h2⟩ := kds_ok ih ts (fun p hp' => hp p (List.mem_cons_of_mem _ hp')) _ _ e2
        refine ⟨by rw [List.length_cons, List.length_cons, h1], fun x hx => ?_⟩
        rcases List.mem_cons.mp hx with rfl | hx
        · exact ih t (hp t List.mem_cons_self) c _ e
        · exact h2 x hx
theorem kd_ok : ∀ (f : Nat) (t : XT), XOk f t → ∀ c k, kd ds ks t c = .inl k → Kd k
  | 0, _, h, _, _, _ => h.elim
  | f + 1, .lf l, h, c, k, e => by
    rw [kd_lf] at e
    cases q : lfKind ds ks l with
    | none => rw [q] at e; cases e
    | some k2 => rw [q] at e; cases e; exact lf_kd ok h q
  | f + 1, .nd w ps, h, c, k, e => by
    rw [kd_nd] at e
    cases q : kds ds ks ps (c + 1) with
    | inr p => rw [q] at e; cases e
    | inl kl =>
      simp only [q] at e
      obtain ⟨h1, h2⟩ := kds_ok ok (kd_ok f) ps h.2 _ _ q
      cases q2 : joint w kl with
      | none => simp only [q2] at e; cases e
      | some k2 =>
        simp only [q2] at e
        cases e
        exact joint_kd (by rw [h1]; exact h.1) h2 q2
/-! the law's reading -/
def told : String ⊕ Nat → D
  | .inl k => .tup [.str (Str.ofString "kind"), .str (Str.ofString k)]
  | .inr p => .tup [.str (Str.ofString "wrong"), .int p]
theorem law_parts {f : Nat} (hf : f ≤ 12) (ih : ∀ t, XOk f t → ∀ c : Nat, fam__law_kind f [.shr (toD t), .shr (shD ds ks), .shr (.int c)] = .ret false (told (kd ds ks t c)) []) (s0 s2 : Option Slot) :
    ∀ (ps : List XT), (∀ p ∈ ps, XOk f p) → ∀ (c : Nat) (acc : List String), acc.length + ps.length ≤ 100 → match kds ds ks ps c with
      | .inl kl => forL (gN 5) (lp__law_kind_1 (fam__law_kind f)) [5, 7] (toDs ps) [s0, some (.shr (shD ds ks)), s2, some (.own false (.lst (kndsD acc))), some (.shr (.int c)), none, none, none] = .ok .nx [s0, some (.shr (shD ds ks)), s2, some (.own false (.lst (kndsD (acc ++ kl)))), some (.shr (.int (c + sizes ps : Nat))), none, none, none]
      | .inr p => ∃ e, forL (gN 5) (lp__law_kind_1 (fam__law_kind f)) [5, 7] (toDs ps) [s0, some (.shr (shD ds ks)), s2, some (.own false (.lst (kndsD acc))), some (.shr (.int c)), none, none, none] = .ok (.rt false (told (.inr p))) e
  | [], _, c, acc, _ => by
    rw [kds_nil, toDs, sizes]
    simp [forL_nil]
  | t :: ts, hp, c, acc, hacc => by
    have ht := hp t List.mem_cons_self
    have hk := ih t ht c
    have hc : m__law_count 12 [.shr (toD t)] = .ret false (.int (size t : Int)) [] := count_eq 12 t (ht.le hf)
    rw [List.length_cons] at hacc
    have hal : (kndsD acc).length ≤ 16777216 := by unfold kndsD; rw [List.length_map]; omega
    have hal2 : (kndsD acc).length < 16777216 := by unfold kndsD; rw [List.length_map]; omega
    rw [kds_cons, toDs]
    cases e : kd ds ks t c with
    | inr p =>
      rw [e] at hk
      refine ⟨_, forL_rt (env2 := [s0, some (.shr (shD ds ks)), s2, some (.own false (.lst (kndsD acc))), some (.shr (.int c)), some (.shr (toD t)), none, some (.shr (told (.inr p)))]) rfl ?_⟩
      have t0 : dIx (told (.inr p)) (.int 0) = some (.str (Str.ofString "wrong")) := t_0 _ _
      simp [lp__law_kind_1, eV, callR, ioIx, slotsOf, putOuts, hk, t0]
    | inl k =>
      rw [e] at hk
      have t0 : dIx (told (.inl k)) (.int 0) = some (.str (Str.ofString "kind")) := t_0 _ _
      have t1 : dIx (told (.inl k)) (.int 1) = some (.str (Str.ofString k)) := t_1 _ _ _
      have step : forL (gN 5) (lp__law_kind_1 (fam__law_kind f)) [5, 7] (toD t :: toDs ts) [s0, some (.shr (shD ds ks)), s2, some (.own false (.lst (kndsD acc))), some (.shr (.int c)), none, none, none]
          = forL (gN 5) (lp__law_kind_1 (fam__law_kind f)) [5, 7] (toDs ts) [s0, some (.shr (shD ds ks)), s2, some (.own false (.lst (kndsD (acc ++ [k])))), some (.shr (.int (c + size t : Nat))), none, none, none] := by
        rw [forL_nx (env2 := [s0, some (.shr (shD ds ks)), s2, some (.own false (.lst (kndsD (acc ++ [k])))), some (.shr (.int (c + size t : Nat))), some (.shr (toD t)), none, some (.shr (told (.inl k)))]) rfl]
        · rfl
        · have hl3 : acc.length < 16777216 := by omega
          simp [lp__law_kind_1, eV, callR, ioIx, slotsOf, putOuts, hk, t0, t1, mApp, getOwnL, getOwn, hc, kndsD, hl3]
      rw [step]
      have := law_parts hf ih s0 s2 ts (fun p h => hp p (List.mem_cons_of_mem _ h)) (c + size t) (acc ++ [k]) (by rw [List.length_append]; show acc.length + 1 + ts.length ≤ 100; omega)
      cases e2 : kds ds ks ts (c + size t) with
      | inr p =>
        rw [e2] at this
        exact this
      | inl kl =>
        rw [e2] at this
        simp only at this ⊢
        rw [this, sizes]
        simp [Nat.add_assoc]
theorem optD_nn (k : String) : isNon (optD (some k)) = false := rfl
theorem law_kind : ∀ (f : Nat), f ≤ 12 → ∀ t, XOk f t → ∀ c : Nat, fam__law_kind f [.shr (toD t), .shr (shD ds ks), .shr (.int c)] = .ret false (told (kd ds ks t c)) []
  | 0, _, _, h, _ => h.elim
  | f + 1, hf, .lf l, h, c => by
    have h1 := head_lf l
    have h2 := lfW_in l
    have h3 := in_leaves_l (lfW l)
    rw [h2] at h3
    have h4 := leaf_law ok (l := l) h
    have h5 : toD (.lf l) = lfD l := by rw [toD]
    rw [kd_lf]
    cases e : lfKind ds ks l with
    | none =>
      rw [e] at h4
      have h4 : m__law_leaf_kind [.shr (lfD l), .shr (shD ds ks)] = .ret false .non [] := h4
      rw [h5] at h1 ⊢
      simp [fam__law_kind, runF, b__law_kind, argsE, eV, h1, h3, callR, ioIx, slotsOf, putOuts, h4, outsAt, told]
    | some k =>
      rw [e] at h4
      have h4 : m__law_leaf_kind [.shr (lfD l), .shr (shD ds ks)] = .ret false (.str (Str.ofString k)) [] := h4
      rw [h5] at h1 ⊢
      simp [fam__law_kind, runF, b__law_kind, argsE, eV, h1, h3, callR, ioIx, slotsOf, putOuts, h4, outsAt, told]
  | f + 1, hf, .nd w ps, h, c => by
    obtain ⟨hw, hp⟩ := h
    have h1 := head_nd w ps
    have h2 := words_nl hw
    have h3 := in_leaves_l w
    rw [h2] at h3
    have h4 := sl_nd w ps
    have hl := words_len hw
    have lp := law_parts ok (by omega) (law_kind f (by omega)) (some (.shr (toD (.nd w ps)))) (some (.shr (.int c))) ps hp (c + 1) [] (by simp; omega)
    rw [kd_nd]
    have ec : (c : Int) + 1 = ((c + 1 : Nat) : Int) := by omega
    have e0 : kndsD [] = [] := rfl
    rw [e0] at lp
    cases e : kds ds ks ps (c + 1) with
    | inr p =>
      rw [e] at lp
      obtain ⟨ev, lp⟩ := lp
      rw [← ec] at lp
      simp [fam__law_kind, runF, b__law_kind, argsE, eV, h1, h3, h4, lp, outsAt]
    | inl kl =>
      rw [e] at lp
      simp only [List.nil_append] at lp ⊢
      rw [← ec] at lp
      obtain ⟨k1, k2⟩ := kds_ok ok (kd_ok ok f) ps hp _ _ e
      have hj := (joint_eq (w := w) (l := kl) (by rw [k1]; exact hw) k2).2
      cases ej : joint w kl with
      | none =>
        rw [ej] at hj
        have hj : m__law_joint [.shr (.str (Str.ofString w)), .shr (.lst (kndsD kl))] = .ret false .non [] := hj
        simp [fam__law_kind, runF, b__law_kind, argsE, eV, h1, h3, h4, lp, mFrz, callR, ioIx, slotsOf, putOuts, hj, outsAt, told]
      | some k =>
        rw [ej] at hj
        have hj : m__law_joint [.shr (.str (Str.ofString w)), .shr (.lst (kndsD kl))] = .ret false (.str (Str.ofString k)) [] := hj
        simp [fam__law_kind, runF, b__law_kind, argsE, eV, h1, h3, h4, lp, mFrz, callR, ioIx, slotsOf, putOuts, hj, outsAt, told]
end
end Mi

namespace Mi
open PySem L2
section
variable {ds : List Dm} {ks : List String} (ok : ShOk ds ks)
theorem isM_ck (m : String) (sh : D) (c : Nat) (h1 : m ≠ "shape") (h2 : m ≠ "count") : isM (Str.ofString "Checker") (Str.ofString m) (ckD sh c) = true := by
  simp [isM, ckD, List.lookup_cons, ofString_inj, h1, h2, beq_eq_false_iff_ne.mpr]
theorem ck_count (sh : D) (c : Nat) : fGet (Str.ofString "Checker") (Str.ofString "count") (ckD sh c) = some (.int c) := by
  have q : (Str.ofString "count" == Str.ofString "shape") = false := by decide +kernel
  simp [fGet, ckD, List.lookup_cons, q]
theorem ck_aug (sh : D) (c : Nat) (rest : En) : mFAug 0 (Str.ofString "Checker") (Str.ofString "count") (· + ·) (eC (.int 1)) (some (.own true (ckD sh c)) :: rest) = .ok .nx (some (.own true (ckD sh (c + 1))) :: rest) := by
  have := ck_count sh c
  simp [mFAug, getOwn, this]
  simp [ckD, fPut, ofString_inj]
@[simp] theorem eLcX_ap (mi : M (List D)) (g : D → En → Option En) (t : M Bool) (m : M D) (vs : List Nat) (env : En) : eLcX mi g t m vs env = (mi env).bind fun ds env => if ds.length ≤ 16777216 then endLX env vs (lcLX g t m vs ds (wipeE env vs)) else .stuck := rfl
def iq (p : Nat) : Xn := ⟨Str.ofString "InvalidQuery", p⟩
theorem prog_parts {f : Nat} (sh : D)
    (ih : ∀ t, XOk f t → ∀ c : Nat, match kd ds ks t c with
      | .inl k => fam_Checker_kind f [.own true (ckD sh c), .shr (toD t)] = .ret false (.str (Str.ofString k)) [ckD sh (c + size t)]
      | .inr p => ∃ c', fam_Checker_kind f [.own true (ckD sh c), .shr (toD t)] = .exn (iq p) [ckD sh c'])
    (s1 s2 s3 s4 : Option Slot) : ∀ (ps : List XT), (∀ p ∈ ps, XOk f p) → ∀ (c : Nat), match kds ds ks ps c with
      | .inl kl => lcLX (gN 5) (M.pure true) (lc_Checker_kind_1 (fam_Checker_kind f)) [5] (toDs ps) [some (.own true (ckD sh c)), s1, s2, s3, s4, none] = .ok (kndsD kl) [some (.own true (ckD sh (c + sizes ps))), s1, s2, s3, s4, none]
      | .inr p => ∃ c', lcLX (gN 5) (M.pure true) (lc_Checker_kind_1 (fam_Checker_kind f)) [5] (toDs ps) [some (.own true (ckD sh c)), s1, s2, s3, s4, none] = .exn (iq p) [some (.own true (ckD sh c')), s1, s2, s3, s4, none]
  | [], _, c => by
    rw [kds_nil, toDs, sizes]; rfl
  | t :: ts, hp, c => by
    have hk := ih t (hp t List.mem_cons_self) c
    have im := isM_ck "kind" sh c (by decide) (by decide)
    rw [kds_cons, toDs]
    cases e : kd ds ks t c with
    | inr p =>
      rw [e] at hk
      obtain ⟨c', hk⟩ := hk
      refine ⟨c', ?_⟩
      have el : lc_Checker_kind_1 (fam_Checker_kind f) [some (.own true (ckD sh c)), s1, s2, s3, s4, some (.shr (toD t))] = .exn (iq p) [some (.own true (ckD sh c')), s1, s2, s3, s4, some (.shr (toD t))] := by
        simp [lc_Checker_kind_1, rIoM, getOwn, im, eV, callR, ioIx, slotsOf, putOuts, hk]
      have g1 : gN 5 (toD t) [some (.own true (ckD sh c)), s1, s2, s3, s4, none] = some [some (.own true (ckD sh c)), s1, s2, s3, s4, some (.shr (toD t))] := rfl
      simp only [lcLX, g1, M.pure_ap, el, wipeE]
      rfl
    | inl k =>
      rw [e] at hk
      have el : lc_Checker_kind_1 (fam_Checker_kind f) [some (.own true (ckD sh c)), s1, s2, s3, s4, some (.shr (toD t))] = .ok (.str (Str.ofString k)) [some (.own true (ckD sh (c + size t))), s1, s2, s3, s4, some (.shr (toD t))] := by
        simp [lc_Checker_kind_1, rIoM, getOwn, im, eV, callR, ioIx, slotsOf, putOuts, hk]
      have g1 : gN 5 (toD t) [some (.own true (ckD sh c)), s1, s2, s3, s4, none] = some [some (.own true (ckD sh c)), s1, s2, s3, s4, some (.shr (toD t))] := rfl
      have w1 : wipeE [some (.own true (ckD sh (c + size t))), s1, s2, s3, s4, some (.shr (toD t))] [5] = [some (.own true (ckD sh (c + size t))), s1, s2, s3, s4, none] := rfl
      have rest := prog_parts sh ih s1 s2 s3 s4 ts (fun p h => hp p (List.mem_cons_of_mem _ h)) (c + size t)
      cases e2 : kds ds ks ts (c + size t) with
      | inr p =>
        rw [e2] at rest
        obtain ⟨c', rest⟩ := rest
        refine ⟨c', ?_⟩
        simp only [lcLX, g1, M.pure_ap, el, w1, rest]
      | inl kl =>
        rw [e2] at rest
        simp only at rest ⊢
        simp only [lcLX, g1, M.pure_ap, el, w1, rest, sizes, Nat.add_assoc]
        rfl
include ok
theorem prog_kind : ∀ (f : Nat) (t : XT), XOk f t → ∀ c : Nat, match kd ds ks t c with
      | .inl k => fam_Checker_kind f [.own true (ckD (shD ds ks) c), .shr (toD t)] = .ret false (.str (Str.ofString k)) [ckD (shD ds ks) (c + size t)]
      | .inr p => ∃ c', fam_Checker_kind f [.own true (ckD (shD ds ks) c), .shr (toD t)] = .exn (iq p) [ckD (shD ds ks) c']
  | 0, _, h, _ => h.elim
  | f + 1, .lf l, h, c => by
    have h1 := head_lf l
    have h2 := lfW_in l
    have h3 := in_leaves_k (lfW l)
    rw [h2] at h3
    have h4 := leaf_prog ok (l := l) h (c + 1) c
    have h5 : toD (.lf l) = lfD l := by rw [toD]
    have hc := ck_count (shD ds ks) c
    have ha := ck_aug (shD ds ks) c
    have im := isM_ck "leaf" (shD ds ks) (c + 1) (by decide) (by decide)
    rw [kd_lf, size]
    cases e : lfKind ds ks l with
    | none =>
      rw [e] at h4
      have h4 : m_Checker_leaf [.own true (ckD (shD ds ks) (c + 1)), .shr (lfD l), .shr (.int c)] = .exn (iq c) [ckD (shD ds ks) (c + 1)] := h4
      rw [h5] at h1 ⊢
      refine ⟨c + 1, ?_⟩
      simp [fam_Checker_kind, runF, b_Checker_kind, argsE, eV, eFldO, getOwn, hc, ha, h1, h3, rIoM, im, callR, ioIx, slotsOf, putOuts, h4, outsAt]
    | some k =>
      rw [e] at h4
      have h4 : m_Checker_leaf [.own true (ckD (shD ds ks) (c + 1)), .shr (lfD l), .shr (.int c)] = .ret false (.str (Str.ofString k)) [ckD (shD ds ks) (c + 1)] := h4
      rw [h5] at h1 ⊢
      simp [fam_Checker_kind, runF, b_Checker_kind, argsE, eV, eFldO, getOwn, hc, ha, h1, h3, rIoM, im, callR, ioIx, slotsOf, putOuts, h4, outsAt]
  | f + 1, .nd w ps, h, c => by
    obtain ⟨hw, hp⟩ := h
    have h1 := head_nd w ps
    have h2 := words_nl hw
    have h3 := in_leaves_k w
    rw [h2] at h3
    have h4 := sl_nd w ps
    have hl := words_len hw
    have hc := ck_count (shD ds ks) c
    have ha := ck_aug (shD ds ks) c
    have pp := prog_parts (shD ds ks) (prog_kind f) (some (.shr (toD (.nd w ps)))) (some (.shr (.int c))) none none ps hp (c + 1)
    have hl2 : (toDs ps).length ≤ 16777216 := by rw [toDs_len]; omega
    rw [kd_nd, size]
    cases e : kds ds ks ps (c + 1) with
    | inr p =>
      rw [e] at pp
      obtain ⟨c', pp⟩ := pp
      refine ⟨c', ?_⟩
      simp [fam_Checker_kind, runF, b_Checker_kind, argsE, eV, eFldO, getOwn, hc, ha, h1, h3, h4, hl2, wipeE, pp, endLX, backE, outsAt]
    | inl kl =>
      rw [e] at pp
      simp only at pp ⊢
      obtain ⟨k1, k2⟩ := kds_ok ok (kd_ok ok f) ps hp _ _ e
      have hj := (joint_eq (w := w) (l := kl) (by rw [k1]; exact hw) k2).1
      have es : c + 1 + sizes ps = c + (1 + sizes ps) := by omega
      cases ej : joint w kl with
      | none =>
        rw [ej] at hj
        have hj : m__kind_from [.shr (.str (Str.ofString w)), .shr (.lst (kndsD kl))] = .ret false .non [] := hj
        refine ⟨c + 1 + sizes ps, ?_⟩
        simp [fam_Checker_kind, runF, b_Checker_kind, argsE, eV, eFldO, getOwn, hc, ha, h1, h3, h4, hl2, wipeE, pp, endLX, backE, callR, ioIx, slotsOf, putOuts, hj, outsAt]
        rfl
      | some k =>
        rw [ej] at hj
        have hj : m__kind_from [.shr (.str (Str.ofString w)), .shr (.lst (kndsD kl))] = .ret false (.str (Str.ofString k)) [] := hj
        simp [fam_Checker_kind, runF, b_Checker_kind, argsE, eV, eFldO, getOwn, hc, ha, h1, h3, h4, hl2, wipeE, pp, endLX, backE, callR, ioIx, slotsOf, putOuts, hj, outsAt, es]
theorem init_ck : m_Checker___init__ [.own true (.ins (Str.ofString "Checker") []), .shr (shD ds ks)] = .ret false .non [ckD (shD ds ks) 0] := by
  simp [m_Checker___init__, runF, b_Checker___init__, argsE, mFPut, eV, fPut, ofString_inj, outsAt, ckD]
theorem kind_of_eq {f : Nat} (hf : f ≤ 12) {t : XT} (h : XOk f t) : match kd ds ks t 0 with
      | .inl k => m_kind_of [.shr (toD t), .shr (shD ds ks)] = .ret false (.str (Str.ofString k)) []
      | .inr p => m_kind_of [.shr (toD t), .shr (shD ds ks)] = .exn (iq p) [] := by
  have pk := prog_kind ok 12 t (h.le hf) 0
  have hi := init_ck ok
  have im := isM_ck "kind" (shD ds ks) 0 (by decide) (by decide)
  cases e : kd ds ks t 0 with
  | inl k =>
    rw [e] at pk
    simp only at pk ⊢
    have pk : m_Checker_kind 12 [.own true (ckD (shD ds ks) 0), .shr (toD t)] = .ret false (.str (Str.ofString k)) [ckD (shD ds ks) (0 + size t)] := pk
    simp [m_kind_of, runF, b_kind_of, argsE, eNewM, eV, newR, ioIx, slotsOf, hi, im, newM, pk, outsAt]
  | inr p =>
    rw [e] at pk
    obtain ⟨c', pk⟩ := pk
    have pk : m_Checker_kind 12 [.own true (ckD (shD ds ks) 0), .shr (toD t)] = .exn (iq p) [ckD (shD ds ks) c'] := pk
    simp [m_kind_of, runF, b_kind_of, argsE, eNewM, eV, newR, ioIx, slotsOf, hi, im, newM, pk, outsAt]
theorem told_eq {f : Nat} (hf : f ≤ 12) {t : XT} (h : XOk f t) : m__law_told [.shr (toD t), .shr (shD ds ks)] = .ret false (told (kd ds ks t 0)) [] := by
  have pk := kind_of_eq ok hf h
  cases e : kd ds ks t 0 with
  | inl k =>
    rw [e] at pk
    simp [m__law_told, runF, b__law_told, argsE, mTry, eV, callR, ioIx, slotsOf, putOuts, pk, outsAt, told]
  | inr p =>
    rw [e] at pk
    simp only at pk
    have l1 : tb_ManysidesError.lookup (Str.ofString "InvalidQuery") = some true := by decide +kernel
    have l2 : ti_InvalidQuery.lookup (Str.ofString "InvalidQuery") = some true := by decide +kernel
    have l3 : ti_InvalidWords.lookup (Str.ofString "InvalidQuery") = some false := by decide +kernel
    simp [m__law_told, runF, b__law_told, argsE, mTry, eV, callR, ioIx, slotsOf, putOuts, pk, iq, l1, eTab, l2, l3, outsAt, told]
end
end Mi

namespace Mi
open PySem L2
/-! a part exchanged -/
mutual
def rep : XT → Int → XT → XT
  | .lf l, j, u => if j = 0 then u else .lf l
  | .nd w ps, j, u => if j = 0 then u else .nd w (reps ps (j - 1) u)
def reps : List XT → Int → XT → List XT
  | [], _, _ => []
  | t :: ts, j, u => (if 0 ≤ j ∧ j < size t then rep t j u else t) :: reps ts (j - size t) u
end
theorem reps_len : ∀ (ts : List XT) (j : Int) (u : XT), (reps ts j u).length = ts.length
  | [], _, _ => by rw [reps]
  | t :: ts, j, u => by rw [reps, List.length_cons, List.length_cons, reps_len ts]
theorem reps_ok {f g : Nat} {u : XT} (ih : ∀ t j, XOk f t → XOk (g + f) (rep t j u)) : ∀ (ts : List XT) (j : Int), (∀ p ∈ ts, XOk f p) → ∀ p ∈ reps ts j u, XOk (g + f) p
  | [], _, _, p, hp => by rw [reps] at hp; cases hp
  | t :: ts, j, h, p, hp => by
    rw [reps] at hp
    rcases List.mem_cons.mp hp with rfl | hp
    · split
      · exact ih t j (h t List.mem_cons_self)
      · exact (h t List.mem_cons_self).le (by omega)
    · exact reps_ok ih ts _ (fun q hq => h q (List.mem_cons_of_mem _ hq)) p hp
theorem rep_ok {g : Nat} {u : XT} (hu : XOk g u) : ∀ (f : Nat) (t : XT) (j : Int), XOk f t → XOk (g + f) (rep t j u)
  | 0, _, _, h => h.elim
  | f + 1, .lf l, j, h => by
    rw [rep]
    split
    · exact hu.le (by omega)
    · exact h
  | f + 1, .nd w ps, j, h => by
    rw [rep]
    split
    · exact hu.le (by omega)
    · exact ⟨by rw [reps_len]; exact h.1, reps_ok (rep_ok hu f) ps _ h.2⟩
theorem repl_loop {f : Nat} (hf : f ≤ 12) (u : XT) (ih : ∀ t, XOk f t → ∀ j : Int, 0 ≤ j → j < size t → fam__law_replaced f [.shr (toD t), .shr (.int j), .shr (toD u)] = .ret false (toD (rep t j u)) []) (s0 s1 : Option Slot) :
    ∀ (ps : List XT), (∀ p ∈ ps, XOk f p) → ∀ (j : Int) (acc : List D), acc.length + ps.length ≤ 100 →
      forL (gN 5) (lp__law_replaced_1 (fam__law_replaced f)) [5, 6] (toDs ps) [s0, s1, some (.shr (toD u)), some (.shr (.int j)), some (.own false (.lst acc)), none, none] = .ok .nx [s0, s1, some (.shr (toD u)), some (.shr (.int (j - sizes ps))), some (.own false (.lst (acc ++ toDs (reps ps j u)))), none, none]
  | [], _, j, acc, _ => by
    rw [toDs, reps, toDs, sizes]
    simp [forL_nil]
  | t :: ts, hp, j, acc, hacc => by
    have ht := hp t List.mem_cons_self
    have hc : m__law_count 12 [.shr (toD t)] = .ret false (.int (size t : Int)) [] := count_eq 12 t (ht.le hf)
    rw [List.length_cons] at hacc
    have hl3 : acc.length < 16777216 := by omega
    rw [toDs]
    have step : forL (gN 5) (lp__law_replaced_1 (fam__law_replaced f)) [5, 6] (toD t :: toDs ts) [s0, s1, some (.shr (toD u)), some (.shr (.int j)), some (.own false (.lst acc)), none, none]
        = forL (gN 5) (lp__law_replaced_1 (fam__law_replaced f)) [5, 6] (toDs ts) [s0, s1, some (.shr (toD u)), some (.shr (.int (j - size t))), some (.own false (.lst (acc ++ [toD (if 0 ≤ j ∧ j < size t then rep t j u else t)]))), none, none] := by
      rw [forL_nx (env2 := [s0, s1, some (.shr (toD u)), some (.shr (.int (j - size t))), some (.own false (.lst (acc ++ [toD (if 0 ≤ j ∧ j < size t then rep t j u else t)]))), some (.shr (toD t)), some (.shr (.int (size t)))]) rfl]
      · rfl
      · by_cases c1 : 0 ≤ j
        · by_cases c2 : j < (size t : Int)
          · have hr := ih t ht j c1 c2
            simp [lp__law_replaced_1, eV, callR, ioIx, slotsOf, putOuts, hc, c1, c2, hr, mApp, getOwnL, getOwn, hl3]
          · simp [lp__law_replaced_1, eV, callR, ioIx, slotsOf, putOuts, hc, c1, c2, mApp, getOwnL, getOwn, hl3]
        · simp [lp__law_replaced_1, eV, callR, ioIx, slotsOf, putOuts, hc, c1, mApp, getOwnL, getOwn, hl3]
    rw [step, repl_loop hf u ih s0 s1 ts (fun p h => hp p (List.mem_cons_of_mem _ h)) (j - size t) _ (by rw [List.length_append]; show acc.length + 1 + ts.length ≤ 100; omega), reps, toDs, sizes]
    have e : j - (size t : Int) - (sizes ts : Int) = j - ((size t + sizes ts : Nat) : Int) := by omega
    rw [e]
    simp
theorem repl_eq (u : XT) : ∀ (f : Nat), f ≤ 12 → ∀ t, XOk f t → ∀ j : Int, 0 ≤ j → j < size t → fam__law_replaced f [.shr (toD t), .shr (.int j), .shr (toD u)] = .ret false (toD (rep t j u)) []
  | 0, _, _, h, _, _, _ => h.elim
  | f + 1, hf, .lf l, h, j, h0, h1 => by
    rw [size] at h1
    have e : j = 0 := by omega
    subst e
    rw [rep]
    simp [fam__law_replaced, runF, b__law_replaced, argsE, eV, outsAt]
  | f + 1, hf, .nd w ps, h, j, h0, h1 => by
    obtain ⟨hw, hp⟩ := h
    have hl := words_len hw
    rw [rep]
    by_cases c : j = 0
    · subst c
      simp [fam__law_replaced, runF, b__law_replaced, argsE, eV, outsAt]
    · have hh := head_nd w ps
      have h4 := sl_nd w ps
      have lp := repl_loop (by omega) u (repl_eq u f (by omega)) (some (.shr (toD (.nd w ps)))) (some (.shr (.int j))) ps hp (j - 1) [] (by simp; omega)
      have cat : dAdd (.tup [.str (Str.ofString w)]) (.tup (toDs (reps ps (j - 1) u))) = some (toD (.nd w (reps ps (j - 1) u))) := by
        rw [toD]
        unfold dAdd
        exact if_pos (by rw [toDs_len, reps_len]; simp; omega)
      simp [fam__law_replaced, runF, b__law_replaced, argsE, eV, c, h4, lp, hh, eTupO, getOwnL, getOwn, cat, outsAt]
/-! parts -/
def partsX : XT → List XT
  | .lf _ => []
  | .nd _ ps => ps
theorem parts_eq {f : Nat} {t : XT} (h : XOk f t) : m_parts_of [.shr (toD t)] = .ret false (.lst (toDs (partsX t))) [] := by
  cases f with
  | zero => exact h.elim
  | succ f =>
    cases t with
    | lf l =>
      have h1 := head_lf l
      have h2 := lfW_in l
      have h3 := in_leaves_k (lfW l)
      rw [h2] at h3
      simp [m_parts_of, runF, b_parts_of, argsE, eV, h1, h3, outsAt, partsX, toDs]
    | nd w ps =>
      have h1 := head_nd w ps
      have h2 := words_nl h.1
      have h3 := in_leaves_k w
      rw [h2] at h3
      have h4 := sl_nd w ps
      have hl := words_len h.1
      have hl2 : (toDs ps).length ≤ 16777216 := by rw [toDs_len]; omega
      have dl : dListOf (.tup (toDs ps)) = some (.lst (toDs ps)) := rfl
      simp [m_parts_of, runF, b_parts_of, argsE, eV, h1, h3, h4, outsAt, partsX, eListOf, dl]
theorem XOk.sh : ∀ {f : Nat} {t : XT}, XOk f t → Sh f (toD t)
  | 0, _, h => h.elim
  | f + 1, .lf l, h => by
    rw [toD]
    cases l with
    | nm n =>
        refine .tup fun x hx => ?_
        simp only [List.mem_cons, List.not_mem_nil, or_false] at hx
        rcases hx with rfl | rfl <;> exact .str (strOk_of _)
    | dm n =>
        refine .tup fun x hx => ?_
        simp only [List.mem_cons, List.not_mem_nil, or_false] at hx
        rcases hx with rfl | rfl <;> exact .str (strOk_of _)
    | vl w v =>
        refine .tup fun x hx => ?_
        simp only [List.mem_cons, List.not_mem_nil, or_false] at hx
        rcases hx with rfl | rfl | rfl
        · exact .str (strOk_of _)
        · exact .str (strOk_of _)
        · rcases h.2 with rfl | ⟨i, rfl⟩ | ⟨b, rfl⟩ | ⟨s, rfl, o, _⟩
          · exact .non
          · exact .int
          · exact .bl
          · exact .str o.ok
  | f + 1, .nd w ps, h => by
    rw [toD, toDs_map]
    refine .tup fun x hx => ?_
    rcases List.mem_cons.mp hx with rfl | hx
    · exact .str (strOk_of _)
    · obtain ⟨p, hp, rfl⟩ := List.mem_map.mp hx
      exact (h.2 p hp).sh
theorem parts_sh {f : Nat} {t : XT} (h : XOk f t) : Sh f (.lst (toDs (partsX t))) := by
  cases f with
  | zero => exact h.elim
  | succ f =>
    rw [toDs_map]
    refine .lst fun x hx => ?_
    obtain ⟨p, hp, rfl⟩ := List.mem_map.mp hx
    cases t with
    | lf l => cases hp
    | nd w ps => exact (h.2 p hp).sh
theorem told_sh (r : String ⊕ Nat) : Sh 1 (told r) := by
  cases r with
  | inl k =>
      refine .tup fun x hx => ?_
      simp only [List.mem_cons, List.not_mem_nil, or_false] at hx
      rcases hx with rfl | rfl <;> exact .str (strOk_of _)
  | inr p =>
      refine .tup fun x hx => ?_
      simp only [List.mem_cons, List.not_mem_nil, or_false] at hx
      rcases hx with rfl | rfl
      · exact .str (strOk_of _)
      · exact .int
end Mi

namespace Mi
open PySem L2
/-! the drawn expressions are trees of their kinds -/
theorem find_nodup {α : Type} : ∀ {l : List (String × α)} {p : String × α}, (l.map (·.1)).Nodup → p ∈ l → (l.find? fun q => decide (q.1 = p.1)) = some p
  | q :: l, p, nd, h => by
    rw [List.map_cons, List.nodup_cons] at nd
    rw [List.find?_cons]
    rcases List.mem_cons.mp h with rfl | h
    · simp
    · have ne : q.1 ≠ p.1 := fun e => nd.1 (by rw [e]; exact List.mem_map.mpr ⟨p, h, rfl⟩)
      rw [decide_eq_false ne]
      exact find_nodup nd.2 h
theorem zip_sub {α β : Type} : ∀ (l : List α) (m : List β), ((l.zip m).map (·.1)).Sublist l
  | [], _ => .slnil
  | x :: l, [] => List.nil_sublist _
  | x :: l, y :: m => (zip_sub l m).cons_cons x
theorem zip_nodup (ks : List String) : ((abcd.zip ks).map (·.1)).Nodup := (zip_sub abcd ks).nodup (by decide +kernel)
section
variable {ds : List Dm} {ks : List String}
theorem kds1 {a : XT} {k : String} (h : ∀ c, kd ds ks a c = .inl k) (c : Nat) : kds ds ks [a] c = .inl [k] := by
  rw [kds_cons, h, kds_nil]
theorem kds2 {a b : XT} {k l : String} (h : ∀ c, kd ds ks a c = .inl k) (g : ∀ c, kd ds ks b c = .inl l) (c : Nat) : kds ds ks [a, b] c = .inl [k, l] := by
  rw [kds_cons, h, kds1 g]
theorem kds3 {a b d : XT} {k l m : String} (h : ∀ c, kd ds ks a c = .inl k) (g : ∀ c, kd ds ks b c = .inl l) (i : ∀ c, kd ds ks d c = .inl m) (c : Nat) : kds ds ks [a, b, d] c = .inl [k, l, m] := by
  rw [kds_cons, h, kds2 g i]
theorem kd_of {w k : String} {ps : List XT} {kl : List String} (h : ∀ c, kds ds ks ps c = .inl kl) (hj : joint w kl = some k) (c : Nat) : kd ds ks (.nd w ps) c = .inl k := by
  rw [kd_nd, h]
  simp only [hj]
theorem nd_ok {w : String} {ps : List XT} {f : Nat} (n : Nat) (h : (w, n) ∈ words) (g : ∀ p ∈ ps, XOk f p) (hn : ps.length = n := by rfl) : XOk (f + 1) (.nd w ps) := ⟨by rw [hn]; exact h, g⟩
theorem all1 {f : Nat} {a : XT} (h : XOk f a) : ∀ p ∈ [a], XOk f p := fun p hp => by rw [List.mem_singleton.mp hp]; exact h
theorem all2 {f : Nat} {a b : XT} (h : XOk f a) (g : XOk f b) : ∀ p ∈ [a, b], XOk f p := fun p hp => by
  rcases List.mem_cons.mp hp with rfl | hp
  · exact h
  · exact all1 g p hp
theorem all3 {f : Nat} {a b c : XT} (h : XOk f a) (g : XOk f b) (i : XOk f c) : ∀ p ∈ [a, b, c], XOk f p := fun p hp => by
  rcases List.mem_cons.mp hp with rfl | hp
  · exact h
  · exact all2 g i p hp
theorem ex_xt {k : String} {d : D} {n : Nat} (h : Ex ds ks k d n) : ∃ t, toD t = d ∧ XOk (n + 1) t ∧ ∀ c, kd ds ks t c = .inl k := by
  induction h with
  | @attr j p n h =>
    refine ⟨.lf (.nm p.1), by rw [toD]; rfl, True.intro, fun c => ?_⟩
    rw [kd_lf, lfKind_nm, find_nodup (zip_nodup ks) (List.mem_of_getElem? h)]
    rfl
  | @dim j d n h =>
    refine ⟨.lf (.dm d.n), by rw [toD]; rfl, True.intro, fun c => ?_⟩
    have e : (ds.any fun x => decide (x.n = d.n)) = true := List.any_eq_true.mpr ⟨d, List.mem_of_getElem? h, by simp⟩
    rw [kd_lf, lfKind_dm, e]
    rfl
  | @value k v n hk h =>
    have hv : VV v := by
      rcases h with rfl | ⟨_, i, rfl, _⟩ | ⟨_, b, rfl⟩ | ⟨_, s, rfl, o, l⟩
      · exact .inl rfl
      · exact .inr (.inl ⟨i, rfl⟩)
      · exact .inr (.inr (.inl ⟨b, rfl⟩))
      · exact .inr (.inr (.inr ⟨s, rfl, o, l⟩))
    refine ⟨.lf (.vl k v), by rw [toD]; rfl, ⟨.inl hk, hv⟩, fun c => ?_⟩
    have e : valOk k v = true := by
      rcases h with rfl | ⟨rfl, i, rfl, h1, h2⟩ | ⟨rfl, b, rfl⟩ | ⟨rfl, s, rfl, o, l⟩
      · exact decide_eq_true hk
      · exact decide_eq_true ⟨rfl, by omega, by omega⟩
      · exact (decide_eq_true rfl : decide ("flag" = "flag") = true)
      · exact (decide_eq_true rfl : decide ("text" = "text") = true)
    rw [kd_lf, lfKind_vl, e]
    rfl
  | nt _ ih =>
    obtain ⟨t, rfl, o, g⟩ := ih
    exact ⟨.nd "not" [t], by rw [toD, toDs, toDs], nd_ok 1 (by decide +kernel) (all1 o), kd_of (kds1 g) (by decide +kernel)⟩
  | mis hk _ ih =>
    obtain ⟨t, rfl, o, g⟩ := ih
    exact ⟨.nd "is missing" [t], by rw [toD, toDs, toDs], nd_ok 1 (by decide +kernel) (all1 o), kd_of (kds1 g) (by rcases hk with rfl | rfl | rfl <;> decide +kernel)⟩
  | len _ ih =>
    obtain ⟨t, rfl, o, g⟩ := ih
    exact ⟨.nd "length" [t], by rw [toD, toDs, toDs], nd_ok 1 (by decide +kernel) (all1 o), kd_of (kds1 g) (by decide +kernel)⟩
  | @sgn w _ _ hw _ ih =>
    obtain ⟨t, rfl, o, g⟩ := ih
    exact ⟨.nd w [t], by rw [toD, toDs, toDs], nd_ok 1 (by rcases hw with rfl | rfl <;> decide +kernel) (all1 o), kd_of (kds1 g) (by rcases hw with rfl | rfl <;> decide +kernel)⟩
  | @dec w _ _ _ hw _ _ ih1 ih2 =>
    obtain ⟨t, rfl, o, g⟩ := ih1
    obtain ⟨t2, rfl, o2, g2⟩ := ih2
    exact ⟨.nd w [t, t2], by rw [toD, toDs, toDs, toDs], nd_ok 2 (by rcases hw with rfl | rfl <;> decide +kernel) (all2 o o2), kd_of (kds2 g g2) (by rcases hw with rfl | rfl <;> decide +kernel)⟩
  | @cmp w k _ _ _ hw hk _ _ ih1 ih2 =>
    obtain ⟨t, rfl, o, g⟩ := ih1
    obtain ⟨t2, rfl, o2, g2⟩ := ih2
    exact ⟨.nd w [t, t2], by rw [toD, toDs, toDs, toDs], nd_ok 2 (by rcases hw with rfl | rfl | rfl | rfl | rfl | rfl <;> decide +kernel) (all2 o o2), kd_of (kds2 g g2) (by rcases hw with rfl | rfl | rfl | rfl | rfl | rfl <;> rcases hk with rfl | rfl | rfl <;> decide +kernel)⟩
  | join _ _ ih1 ih2 =>
    obtain ⟨t, rfl, o, g⟩ := ih1
    obtain ⟨t2, rfl, o2, g2⟩ := ih2
    exact ⟨.nd "joined" [t, t2], by rw [toD, toDs, toDs, toDs], nd_ok 2 (by decide +kernel) (all2 o o2), kd_of (kds2 g g2) (by decide +kernel)⟩
  | @ar w _ _ _ hw _ _ ih1 ih2 =>
    obtain ⟨t, rfl, o, g⟩ := ih1
    obtain ⟨t2, rfl, o2, g2⟩ := ih2
    exact ⟨.nd w [t, t2], by rw [toD, toDs, toDs, toDs], nd_ok 2 (by rcases hw with rfl | rfl | rfl | rfl | rfl <;> decide +kernel) (all2 o o2), kd_of (kds2 g g2) (by rcases hw with rfl | rfl | rfl | rfl | rfl <;> decide +kernel)⟩
  | els hk _ _ ih1 ih2 =>
    obtain ⟨t, rfl, o, g⟩ := ih1
    obtain ⟨t2, rfl, o2, g2⟩ := ih2
    exact ⟨.nd "or else" [t, t2], by rw [toD, toDs, toDs, toDs], nd_ok 2 (by decide +kernel) (all2 o o2), kd_of (kds2 g g2) (by rcases hk with rfl | rfl | rfl <;> decide +kernel)⟩
  | cond hk _ _ _ ih0 ih1 ih2 =>
    obtain ⟨t0, rfl, o0, g0⟩ := ih0
    obtain ⟨t, rfl, o, g⟩ := ih1
    obtain ⟨t2, rfl, o2, g2⟩ := ih2
    exact ⟨.nd "if" [t0, t, t2], by rw [toD, toDs, toDs, toDs, toDs], nd_ok 3 (by decide +kernel) (all3 o0 o o2), kd_of (kds3 g0 g g2) (by rcases hk with rfl | rfl | rfl <;> decide +kernel)⟩
end
/-! strange parts -/
section
variable {L : List Int} (h0 : 0 < L.length) (hl : L.length ≤ 100000) {ds : List Dm} {ks : List String} (ok : ShOk ds ks)
include h0 hl ok
theorem one_of {a : Nat} {n : Int} (xs : List D) (hn : (xs.length : Int) = n) (h : 0 < n) : ∃ x ∈ xs, dIx (.lst xs) (.int (nv L a n)) = some x := by
  obtain ⟨z, h1, h2⟩ := dIx_all (P := fun z => z ∈ xs) (fun x hx => hx) (i := nv L a n) (nv_ge h) (by rw [hn]; exact nv_lt h)
  exact ⟨z, h2, h1⟩
theorem strange_eq (a : Nat) : ∃ u a', m__law_strange [.own true (stD L a), .shr (shD ds ks)] = .ret false (toD u) [stD L a'] ∧ XOk 2 u := by
  have n6 := next_eq (a := a) h0 hl (show (0 : Int) < 6 by decide)
  have n3 := next_eq (a := a + 1) h0 hl (show (0 : Int) < 3 by decide)
  by_cases c0 : nv L a 6 = 0
  · obtain ⟨x, hx, e⟩ := one_of h0 hl ok (a := a + 1) (n := 3) [.str (Str.ofString "q"), .str (Str.ofString "x"), .str (Str.ofString "")] rfl (by decide)
    have hx : ∃ n, x = .str (Str.ofString n) := by
      simp only [List.mem_cons, List.not_mem_nil, or_false] at hx
      rcases hx with rfl | rfl | rfl <;> exact ⟨_, rfl⟩
    obtain ⟨n, rfl⟩ := hx
    refine ⟨.lf (.nm n), a + 1 + 1, ?_, True.intro⟩
    rw [toD]
    simp [m__law_strange, runF, b__law_strange, argsE, eV, callR, rIo, getOwn, ioIx, slotsOf, putOuts, n6, c0, n3, e, outsAt, lfD]
  by_cases c1 : nv L a 6 = 1
  · obtain ⟨x, hx, e⟩ := one_of h0 hl ok (a := a + 1) (n := 3) [.str (Str.ofString "a"), .str (Str.ofString "w"), .str (Str.ofString "z")] rfl (by decide)
    have hx : ∃ n, x = .str (Str.ofString n) := by
      simp only [List.mem_cons, List.not_mem_nil, or_false] at hx
      rcases hx with rfl | rfl | rfl <;> exact ⟨_, rfl⟩
    obtain ⟨n, rfl⟩ := hx
    refine ⟨.lf (.dm n), a + 1 + 1, ?_, True.intro⟩
    rw [toD]
    simp [m__law_strange, runF, b__law_strange, argsE, eV, callR, rIo, getOwn, ioIx, slotsOf, putOuts, n6, c0, c1, n3, e, outsAt, lfD]
  by_cases c2 : nv L a 6 = 2
  · have n4 := next_eq (a := a + 1) h0 hl (show (0 : Int) < 4 by decide)
    have n4' := next_eq (a := a + 1 + 1) h0 hl (show (0 : Int) < 4 by decide)
    obtain ⟨x, hx, e⟩ := one_of h0 hl ok (a := a + 1) (n := 4) [.str (Str.ofString "int"), .str (Str.ofString "flag"), .str (Str.ofString "text"), .str (Str.ofString "number")] rfl (by decide)
    obtain ⟨v, hv, e2⟩ := one_of h0 hl ok (a := a + 1 + 1) (n := 4) [.int 5, .bl true, .str (Str.ofString "a"), .int 1000000000000000000000000000000] rfl (by decide)
    have pw : dPow (.int 10) (.int 30) = some (.int 1000000000000000000000000000000) := rfl
    have hx : ∃ n, x = .str (Str.ofString n) ∧ (Kd n ∨ n = "number") := by
      simp only [List.mem_cons, List.not_mem_nil, or_false] at hx
      rcases hx with rfl | rfl | rfl | rfl
      · exact ⟨_, rfl, .inl (.inl rfl)⟩
      · exact ⟨_, rfl, .inl (.inr (.inl rfl))⟩
      · exact ⟨_, rfl, .inl (.inr (.inr rfl))⟩
      · exact ⟨_, rfl, .inr rfl⟩
    have hv : VV v := by
      simp only [List.mem_cons, List.not_mem_nil, or_false] at hv
      rcases hv with rfl | rfl | rfl | rfl
      · exact .inr (.inl ⟨_, rfl⟩)
      · exact .inr (.inr (.inl ⟨_, rfl⟩))
      · exact .inr (.inr (.inr ⟨_, rfl, by decide +kernel, by decide +kernel⟩))
      · exact .inr (.inl ⟨_, rfl⟩)
    obtain ⟨n, rfl, hn⟩ := hx
    refine ⟨.lf (.vl n v), a + 1 + 1 + 1, ?_, hn, hv⟩
    rw [toD]
    simp [m__law_strange, runF, b__law_strange, argsE, eV, callR, rIo, getOwn, ioIx, slotsOf, putOuts, n6, c0, c1, c2, n4, n4', e, e2, pw, outsAt, lfD]
  · obtain ⟨x, hx, e⟩ := one_of h0 hl ok (a := a + 1) (n := 3) [.str (Str.ofString "int"), .str (Str.ofString "flag"), .str (Str.ofString "text")] rfl (by decide)
    have hx : ∃ n, x = .str (Str.ofString n) ∧ Kd n := by
      simp only [List.mem_cons, List.not_mem_nil, or_false] at hx
      rcases hx with rfl | rfl | rfl
      · exact ⟨_, rfl, .inl rfl⟩
      · exact ⟨_, rfl, .inr (.inl rfl)⟩
      · exact ⟨_, rfl, .inr (.inr rfl)⟩
    obtain ⟨n, rfl, hn⟩ := hx
    obtain ⟨d, a', e1, x1⟩ := expr_all h0 hl ok 1 12 (by decide) n hn (a + 1 + 1)
    obtain ⟨t, rfl, o, _⟩ := ex_xt x1
    have e1 : m__law_expression 12 [.own true (stD L (a + 1 + 1)), .shr (shD ds ks), .shr (.str (Str.ofString n)), .shr (.int 1)] = .ret false (toD t) [stD L a'] := e1
    refine ⟨t, a', ?_, o⟩
    simp [m__law_strange, runF, b__law_strange, argsE, eV, callR, rIo, getOwn, ioIx, slotsOf, putOuts, n6, c0, c1, c2, n3, e, e1, outsAt]
end
end Mi

namespace Mi
open PySem L2
theorem sl_frz (ns : List Int) (m : Nat) : dSlL (.frz (ns.map D.int)) none (some (m : Int)) = some (.lst ((ns.take m).map D.int)) := by
  show some (D.lst (cutD _ _ _)) = _
  unfold cutD
  rw [HT.sIx_none, List.drop_zero, Nat.sub_zero, HT.sIx_nat, List.map_take]
  congr 2
  rw [List.take_eq_take_iff]
  omega
theorem dNotIn_ls (w : String) (ns : List String) : dNotIn (.str (Str.ofString w)) (.lst (ns.map fun n => D.str (Str.ofString n))) = some (.bl (!(ns.any fun n => decide (n = w)))) := by
  show ((toVs (ns.map fun n => D.str (Str.ofString n))).map fun vs => D.bl (!inV (.str (Str.ofString w)) vs)) = _
  rw [toVs_strs, Option.map_some, inV_strs]
theorem notin_leaves (w : String) : dNotIn (.str (Str.ofString w)) (.lst [.str (Str.ofString "value"), .str (Str.ofString "attr"), .str (Str.ofString "dim")]) = some (.bl (!(["value", "attr", "dim"].any fun x => decide (x = w)))) := dNotIn_ls w ["value", "attr", "dim"]
theorem XOk.wd : ∀ {f : Nat} {w : String} {ps : List XT}, XOk f (.nd w ps) → (w, ps.length) ∈ words
  | 0, _, _, h => h.elim
  | _ + 1, _, _, h => h.1
section
variable {L : List Int} (h0 : 0 < L.length) (hl : L.length ≤ 100000) {ds : List Dm} {ks : List String} (ok : ShOk ds ks)
include h0 hl ok
theorem in_turn {t : XT} {f : Nat} (hf : f ≤ 12) (ht : XOk f t) (a : Nat) {s0 s3 s4 s6 s7 s8 : Option Slot} : ∃ a' u s8', lp_law_1 [s0, some (.own false (stD L a)), some (.shr (shD ds ks)), s3, s4, some (.shr (toD t)), s6, s7, s8] = .ok .nx [s0, some (.own false (stD L a')), some (.shr (shD ds ks)), s3, s4, some (.shr (toD u)), s6, s7, s8'] ∧ XOk (2 + f) u := by
  have hc : m__law_count 12 [.shr (toD t)] = .ret false (.int (size t : Int)) [] := count_eq 12 t (ht.le hf)
  have sp := size_pos t
  have nn := next_eq (a := a) h0 hl (show (0 : Int) < (size t : Int) by omega)
  obtain ⟨u, a', e1, hu⟩ := strange_eq h0 hl ok (a + 1)
  have hr : m__law_replaced 12 [.shr (toD t), .shr (.int (nv L a (size t))), .shr (toD u)] = .ret false (toD (rep t (nv L a (size t)) u)) [] := repl_eq u 12 (Nat.le_refl _) t (ht.le hf) _ (nv_ge (by omega)) (nv_lt (by omega))
  refine ⟨a', rep t (nv L a (size t)) u, some (.shr (.int (nv L a (size t)))), ?_, rep_ok hu f t _ ht⟩
  simp [lp_law_1, eV, callR, rIo, getOwn, ioIx, slotsOf, putOuts, hc, nn, e1, hr]
theorem in_loop {t : XT} (ht : XOk 4 t) (m : Nat) (hm : m ≤ 2) (a : Nat) {s0 s3 s4 : Option Slot} : ∃ a' u s6 s7 s8, forL (gN 6) lp_law_1 [6] (rngD 0 m) [s0, some (.own false (stD L a)), some (.shr (shD ds ks)), s3, s4, some (.shr (toD t)), none, none, none] = .ok .nx [s0, some (.own false (stD L a')), some (.shr (shD ds ks)), s3, s4, some (.shr (toD u)), s6, s7, s8] ∧ XOk 8 u := by
  have hlen : (rngD 0 m).length = m := by rw [rngD_drop, List.length_map, List.length_range]
  obtain ⟨env', h1, _, a', u, s6, s7, s8, hu, rfl⟩ := forL_all (g := gN 6) (body := lp_law_1) (clr := [6])
    (fun xs env => xs.length ≤ 2 ∧ ∃ a u s6 s7 s8, XOk (8 - 2 * xs.length) u ∧ env = [s0, some (.own false (stD L a)), some (.shr (shD ds ks)), s3, s4, some (.shr (toD u)), s6, s7, s8])
    (by
      rintro x xs env ⟨hx, a, u, s6, s7, s8, hu, rfl⟩
      rw [List.length_cons] at hx hu
      obtain ⟨a', u', s8', h, hu'⟩ := in_turn h0 hl ok (by omega) hu a (s0 := s0) (s3 := s3) (s4 := s4) (s6 := some (.shr x)) (s7 := s7) (s8 := s8)
      have e : 2 + (8 - 2 * (xs.length + 1)) = 8 - 2 * xs.length := by omega
      rw [e] at hu'
      rw [Tn_gN]
      simp only [List.set, h, Nx_ok, clrE]
      exact ⟨by omega, a', u', none, s7, s8', hu', rfl⟩) (rngD 0 m) [s0, some (.own false (stD L a)), some (.shr (shD ds ks)), s3, s4, some (.shr (toD t)), none, none, none] ⟨by rw [hlen]; exact hm, a, t, none, none, none, ht.le (by rw [hlen]; omega), rfl⟩
  exact ⟨a', u, s6, s7, s8, h1, hu⟩
theorem ou_loop (a : Nat) {s0 : Option Slot} : ∃ a', forL (gN 3) lp_law_2 [3, 4, 5, 6, 7, 8] (rngD 0 6) [s0, some (.own false (stD L a)), some (.shr (shD ds ks)), none, none, none, none, none, none] = .ok .nx [s0, some (.own false (stD L a')), some (.shr (shD ds ks)), none, none, none, none, none, none] := by
  have m3 : ∀ i, dMod (.int i) (.int 3) = some (.int (i.fmod 3)) := fun i => dMod_i _ _ (by decide)
  obtain ⟨env', h1, _, a', rfl⟩ := forL_all (g := gN 3) (body := lp_law_2) (clr := [3, 4, 5, 6, 7, 8])
    (fun xs env => (∀ x ∈ xs, ∃ i : Int, x = .int i) ∧ ∃ a, env = [s0, some (.own false (stD L a)), some (.shr (shD ds ks)), none, none, none, none, none, none])
    (by
      rintro x xs env ⟨hx, a, rfl⟩
      obtain ⟨i, rfl⟩ := hx _ List.mem_cons_self
      have hr := fun y hy => hx y (List.mem_cons_of_mem _ hy)
      obtain ⟨z, d1, k, rfl, hk⟩ := dIx_all (P := fun z => ∃ k, z = .str (Str.ofString k) ∧ Kd k) (xs := [.str (Str.ofString "int"), .str (Str.ofString "flag"), .str (Str.ofString "text")]) (by
        intro x hx
        simp only [List.mem_cons, List.not_mem_nil, or_false] at hx
        rcases hx with rfl | rfl | rfl
        · exact ⟨_, rfl, .inl rfl⟩
        · exact ⟨_, rfl, .inr (.inl rfl)⟩
        · exact ⟨_, rfl, .inr (.inr rfl)⟩) (i := i.fmod 3) (Int.fmod_nonneg_of_pos _ (by decide)) (Int.fmod_lt_of_pos _ (by decide))
      obtain ⟨e, a1, e1, x1⟩ := expr_all h0 hl ok 3 12 (by decide) k hk a
      obtain ⟨t, rfl, ot, gt⟩ := ex_xt x1
      have e1' : m__law_expression 12 [.own true (stD L a), .shr (shD ds ks), .shr (.str (Str.ofString k)), .shr (.int 3)] = .ret false (toD t) [stD L a1] := e1
      have t1 := told_eq ok (by decide : 4 ≤ 12) ot
      rw [gt 0] at t1
      have q1 : dNe (told (.inl k)) (.tup [.str (Str.ofString "kind"), .str (Str.ofString k)]) = some (.bl false) := dNe_self (told_sh (.inl k))
      have n2 := next_eq (a := a1) h0 hl (show (0 : Int) < 2 by decide)
      have g2 := nv_ge (nums := L) (a := a1) (show (0 : Int) < 2 by decide)
      have u2 := nv_lt (nums := L) (a := a1) (show (0 : Int) < 2 by decide)
      obtain ⟨m, hm, hm2⟩ : ∃ m : Nat, (1 : Int) + nv L a1 2 = m ∧ m ≤ 2 := ⟨(1 + nv L a1 2).toNat, by omega, by omega⟩
      have sm : small62 (m : Int) = true := small_of (by omega) (by omega)
      obtain ⟨a2, u, s6, s7, s8, h, hu⟩ := in_loop h0 hl ok ot m hm2 (a1 + 1) (s0 := s0) (s3 := some (.shr (.int i))) (s4 := some (.shr (.str (Str.ofString k))))
      have t2 := told_eq ok (by decide : 8 ≤ 12) hu
      have l2 : m__law_kind 12 [.shr (toD u), .shr (shD ds ks), .shr (.int 0)] = .ret false (told (kd ds ks u 0)) [] := law_kind ok 12 (Nat.le_refl _) u (hu.le (by decide)) 0
      have q2 := dNe_self (told_sh (kd ds ks u 0))
      have pq := parts_eq hu
      have q3 := dNe_self (parts_sh hu)
      have rg : iR1F [.int m] = fun env => Res.ok (rngD 0 m) env := by
        funext env
        have := iR1F_ok (env := env) sm
        rw [Int.toNat_natCast] at this
        exact this
      simp [lp_law_2, eV, m3, d1, callR, rIo, getOwn, ioIx, slotsOf, putOuts, e1', t1, q1, n2, hm, rg, h, t2, l2, q2]
      cases u with
      | lf l =>
        have w1 := head_lf l
        have w3 := notin_leaves (lfW l)
        rw [lfW_in l] at w3
        have e0 : toDs (partsX (.lf l)) = [] := by rw [partsX, toDs]
        rw [e0] at pq q3
        simp [w1, w3, eV, callR, ioIx, slotsOf, putOuts, pq, q3, clrE]
        exact ⟨hr, _, rfl⟩
      | nd w ps =>
        have w1 := head_nd w ps
        have w4 := sl_nd w ps
        have w3 := notin_leaves w
        rw [words_nl (XOk.wd hu)] at w3
        have dl : dListOf (.tup (toDs ps)) = some (.lst (toDs ps)) := rfl
        rw [partsX] at pq q3
        simp [w1, w3, w4, eListOf, dl, eV, callR, ioIx, slotsOf, putOuts, pq, q3, clrE]
        exact ⟨hr, _, rfl⟩) (rngD 0 6) [s0, some (.own false (stD L a)), some (.shr (shD ds ks)), none, none, none, none, none, none] ⟨by
        intro x hx
        rw [rngD_drop] at hx
        obtain ⟨j, _, rfl⟩ := List.mem_map.mp hx
        exact ⟨_, rfl⟩, a, rfl⟩
  exact ⟨a', h1⟩
end
theorem law_true : ∀ ns : List Int, ns.length ≤ 63 → m_law [.shr (.frz (ns.map D.int))] = .ret false (.bl true) [] := by
  intro ns hn
  have ce : dSlL (.frz (ns.map D.int)) none (some 8) = some (.lst ((ns.take 8).map D.int)) := sl_frz ns 8
  have ha : dAdd (.lst ((ns.take 8).map D.int)) (.lst [.int 5]) = some (.lst ((ns.take 8 ++ [5]).map D.int)) := by
    refine (if_pos ?_).trans (by rw [List.map_append]; rfl)
    simp only [List.length_map, List.length_take, List.length_cons, List.length_nil]; omega
  obtain ⟨L, e1, e2⟩ := draws_eq (ns.take 8 ++ [5]) (by simp; omega)
  have h0 : 0 < L.length := by rw [e2, List.length_append]; simp only [List.length_cons, List.length_nil]; omega
  have hl : L.length ≤ 100000 := by rw [e2, List.length_append, List.length_take]; simp only [List.length_cons, List.length_nil]; omega
  generalize (ns.take 8 ++ [5]).map D.int = Z at ha e1
  generalize (ns.take 8).map D.int = Y at ha ce
  obtain ⟨ds, ks, a1, s1, ok⟩ := shape_eq h0 hl 0
  have s6 : small62 6 = true := small_of (by decide) (by decide)
  obtain ⟨a2, h1⟩ := ou_loop h0 hl ok a1 (s0 := some (.shr (.frz (ns.map D.int))))
  simp [m_law, runF, b_law, argsE, eV, ce, ha, callN, callR, rIo, getOwn, ioIx, slotsOf, putOuts, e1, s1, iR1F_ok s6, h1, outsAt]
end Mi

open PySem PySem.W PyProof.Rows in
theorem PySem.Challenge.cw_manysides_k05_kinds_of_expressions_holds : PySem.Challenge.rw_manysides_k05_kinds_of_expressions.Holds := by
  w_on; o_law; k_head; (case hw => w_witness2)
  k_fill
  refine Mi.walk_tabs (l := PySem.Challenge.rw_manysides_k05_kinds_of_expressions) (n := 63) (k := 25) (x := "_law_script") rfl (by decide) rfl ⟨rfl, by decide, by decide⟩ (fun w h Y => PySem.W.kIn_of Y) ?F
  case F =>
    intro w mg fa h KX G hmg
    refine' Mi.all_mk KX G hmg ?aC_ManysidesError ?aC_InvalidQuery ?aC_InvalidWords ?ns_super ?op_any ?tp_super ?x_hn ?x_ht ?i_ManysidesError ?lf_ManysidesError ?lT_ManysidesError ?co_ManysidesError ?lc_ManysidesError ?lv_ManysidesError ?ff_ManysidesError ?ce_ManysidesError ?ic_ManysidesError ?ty_ManysidesError ?fi_ManysidesError ?i_InvalidQuery ?lf_InvalidQuery ?co_InvalidQuery ?lc_InvalidQuery ?lv_InvalidQuery ?ff_InvalidQuery ?ce_InvalidQuery ?ic_InvalidQuery ?ty_InvalidQuery ?fi_InvalidQuery ?lC_InvalidQuery ?rv_InvalidQuery ?sa_InvalidQuery ?bx_InvalidQuery ?tt_InvalidQuery ?kk_InvalidQuery ?ve_InvalidQuery ?np_InvalidQuery ?nn_InvalidQuery ?ga_InvalidQuery ?gg_InvalidQuery ?hd_InvalidQuery ?hc_InvalidQuery ?mo_InvalidQuery ?mm_InvalidQuery ?ms_InvalidQuery ?um_InvalidQuery ?uc_InvalidQuery ?hx_InvalidQuery_ManysidesError ?ix_InvalidQuery_InvalidQuery ?ix_InvalidQuery_InvalidWords ?aC_Shape ?pg_Shape ?hd_Shape ?po_Shape ?sa_Shape ?mk_Shape ?kc_Shape ?aC_Checker ?pg_Checker ?hd_Checker ?po_Checker ?sa_Checker ?mk_Checker ?kc_Checker ?na_Checker_count ?na_Checker_shape ?na_Shape_attrs ?na_Shape_dims ?a0 ?l0 ?c0 ?k0 ?a1 ?l1 ?c1 ?k1 ?a2 ?i2 ?l2 ?c2 ?k2 ?a3 ?l3 ?c3 ?k3 ?a4 ?l4 ?c4 ?k4 ?a5 ?l5 ?c5 ?k5 ?a6 ?l6 ?c6 ?k6 ?a7 ?l7 ?c7 ?k7 ?a8 ?l8 ?c8 ?k8 ?a9 ?l9 ?c9 ?k9 ?a10 ?l10 ?c10 ?k10 ?a11 ?l11 ?c11 ?k11 ?t11 ?v11 ?tN11 ?tR11 ?a12 ?l12 ?c12 ?k12 ?a13 ?l13 ?c13 ?k13 ?a14 ?l14 ?c14 ?k14 ?a15 ?l15 ?c15 ?k15 ?a16 ?l16 ?c16 ?k16 ?a17 ?l17 ?c17 ?k17 ?a18 ?i18 ?l18 ?c18 ?k18 ?a19 ?i19 ?l19 ?c19 ?k19 ?a20 ?i20 ?l20 ?c20 ?k20 ?a21 ?l21 ?c21 ?k21 ?a22 ?l22 ?c22 ?k22 ?a23 ?l23 ?c23 ?k23 ?a24 ?l24 ?c24 ?k24 ?a25 ?l25 ?c25 ?k25 ?a26 ?l26 ?c26 ?k26 ?a27 ?l27 ?c27 ?k27 ?a28 ?l28 ?c28 ?k28 ?a29 ?l29 ?c29 ?k29 ?a30 ?l30 ?c30 ?k30 ?g_BEFORE ?g_BEHIND ?g_BOUND ?g_LONGEST ?g_KINDS ?lt_KINDS ?g_LEAVES ?lt_LEAVES ?g_ARITHMETIC ?lt_ARITHMETIC ?g_COMPARISONS ?lt_COMPARISONS ?g_PARTS_KIND ?ld_PARTS_KIND ?kl_PARTS_KIND ?lo_PARTS_KIND ?er_PARTS_KIND ?g_RESULT_KIND ?ld_RESULT_KIND ?kl_RESULT_KIND ?lo_RESULT_KIND ?er_RESULT_KIND ?n_all ?n_bool ?n_int ?n_isinstance ?n_len ?n_list ?n_range ?n_str ?n_sum ?n_tuple Mi.law_true
    (case aC_ManysidesError => k_is)
    (case aC_InvalidQuery => k_is)
    (case aC_InvalidWords => k_is)
    (case ns_super => k_is)
    (case op_any => k_is)
    (case tp_super => first | rfl | decide +kernel)
    (case x_hn => k_is)
    (case x_ht => k_is)
    (case i_ManysidesError => k_is)
    (case lf_ManysidesError => k_is)
    (case lT_ManysidesError => k_is)
    (case co_ManysidesError => k_is)
    (case lc_ManysidesError => k_is)
    (case lv_ManysidesError => rfl)
    (case ff_ManysidesError => first | rfl | decide +kernel)
    (case ce_ManysidesError => k_is)
    (case ic_ManysidesError => k_is)
    (case ty_ManysidesError => k_is)
    (case fi_ManysidesError => k_is)
    (case i_InvalidQuery => k_is)
    (case lf_InvalidQuery => k_is)
    (case co_InvalidQuery => k_is)
    (case lc_InvalidQuery => k_is)
    (case lv_InvalidQuery => rfl)
    (case ff_InvalidQuery => first | rfl | decide +kernel)
    (case ce_InvalidQuery => k_is)
    (case ic_InvalidQuery => k_is)
    (case ty_InvalidQuery => k_is)
    (case fi_InvalidQuery => k_is)
    (case lC_InvalidQuery => k_is)
    (case rv_InvalidQuery => first | rfl | decide +kernel)
    (case sa_InvalidQuery => k_is)
    (case bx_InvalidQuery => k_is)
    (case tt_InvalidQuery => k_is)
    (case kk_InvalidQuery => k_is)
    (case ve_InvalidQuery => k_is)
    (case np_InvalidQuery => k_is)
    (case nn_InvalidQuery => k_is)
    (case ga_InvalidQuery => k_is)
    (case gg_InvalidQuery => k_is)
    (case hd_InvalidQuery => k_is)
    (case hc_InvalidQuery => k_is)
    (case mo_InvalidQuery => k_is)
    (case mm_InvalidQuery => k_is)
    (case ms_InvalidQuery => k_is)
    (case um_InvalidQuery => ks_is)
    (case uc_InvalidQuery => ks_is)
    (case hx_InvalidQuery_ManysidesError => first | k_is | kernel_rfl | decide +kernel)
    (case ix_InvalidQuery_InvalidQuery => first | kit_is | kernel_rfl | decide +kernel)
    (case ix_InvalidQuery_InvalidWords => first | kit_is | kernel_rfl | decide +kernel)
    (case aC_Shape => k_is)
    (case pg_Shape => k_is)
    (case hd_Shape => k_is)
    (case po_Shape => k_is)
    (case sa_Shape => k_is)
    (case mk_Shape => k_is)
    (case kc_Shape => k_is)
    (case aC_Checker => k_is)
    (case pg_Checker => k_is)
    (case hd_Checker => k_is)
    (case po_Checker => k_is)
    (case sa_Checker => k_is)
    (case mk_Checker => k_is)
    (case kc_Checker => k_is)
    (case na_Checker_count => k_is)
    (case na_Checker_shape => k_is)
    (case na_Shape_attrs => k_is)
    (case na_Shape_dims => k_is)
    (case a0 => k_is)
    (case l0 => k_is)
    (case c0 => k_is)
    (case k0 => k_is)
    (case a1 => k_is)
    (case l1 => k_is)
    (case c1 => k_is)
    (case k1 => k_is)
    (case a2 => k_is)
    (case i2 => k_is)
    (case l2 => k_is)
    (case c2 => k_is)
    (case k2 => k_is)
    (case a3 => k_is)
    (case l3 => k_is)
    (case c3 => k_is)
    (case k3 => k_is)
    (case a4 => k_is)
    (case l4 => k_is)
    (case c4 => k_is)
    (case k4 => k_is)
    (case a5 => k_is)
    (case l5 => k_is)
    (case c5 => k_is)
    (case k5 => k_is)
    (case a6 => k_is)
    (case l6 => k_is)
    (case c6 => k_is)
    (case k6 => k_is)
    (case a7 => k_is)
    (case l7 => k_is)
    (case c7 => k_is)
    (case k7 => k_is)
    (case a8 => k_is)
    (case l8 => k_is)
    (case c8 => k_is)
    (case k8 => k_is)
    (case a9 => k_is)
    (case l9 => k_is)
    (case c9 => k_is)
    (case k9 => k_is)
    (case a10 => k_is)
    (case l10 => k_is)
    (case c10 => k_is)
    (case k10 => k_is)
    (case a11 => k_is)
    (case l11 => k_is)
    (case c11 => k_is)
    (case k11 => k_is)
    (case t11 => k_is)
    (case v11 => rfl)
    (case tN11 => first | kernel_rfl | decide +kernel)
    (case tR11 => first | kernel_rfl | decide +kernel)
    (case a12 => k_is)
    (case l12 => k_is)
    (case c12 => k_is)
    (case k12 => k_is)
    (case a13 => k_is)
    (case l13 => k_is)
    (case c13 => k_is)
    (case k13 => k_is)
    (case a14 => k_is)
    (case l14 => k_is)
    (case c14 => k_is)
    (case k14 => k_is)
    (case a15 => k_is)
    (case l15 => k_is)
    (case c15 => k_is)
    (case k15 => k_is)
    (case a16 => k_is)
    (case l16 => k_is)
    (case c16 => k_is)
    (case k16 => k_is)
    (case a17 => k_is)
    (case l17 => k_is)
    (case c17 => k_is)
    (case k17 => k_is)
    (case a18 => k_is)
    (case i18 => k_is)
    (case l18 => k_is)
    (case c18 => k_is)
    (case k18 => k_is)
    (case a19 => k_is)
    (case i19 => k_is)
    (case l19 => k_is)
    (case c19 => k_is)
    (case k19 => k_is)
    (case a20 => k_is)
    (case i20 => k_is)
    (case l20 => k_is)
    (case c20 => k_is)
    (case k20 => k_is)
    (case a21 => k_is)
    (case l21 => k_is)
    (case c21 => k_is)
    (case k21 => k_is)
    (case a22 => k_is)
    (case l22 => k_is)
    (case c22 => k_is)
    (case k22 => k_is)
    (case a23 => k_is)
    (case l23 => k_is)
    (case c23 => k_is)
    (case k23 => k_is)
    (case a24 => k_is)
    (case l24 => k_is)
    (case c24 => k_is)
    (case k24 => k_is)
    (case a25 => k_is)
    (case l25 => k_is)
    (case c25 => k_is)
    (case k25 => k_is)
    (case a26 => k_is)
    (case l26 => k_is)
    (case c26 => k_is)
    (case k26 => k_is)
    (case a27 => k_is)
    (case l27 => k_is)
    (case c27 => k_is)
    (case k27 => k_is)
    (case a28 => k_is)
    (case l28 => k_is)
    (case c28 => k_is)
    (case k28 => k_is)
    (case a29 => k_is)
    (case l29 => k_is)
    (case c29 => k_is)
    (case k29 => k_is)
    (case a30 => k_is)
    (case l30 => k_is)
    (case c30 => k_is)
    (case k30 => k_is)
    (case g_BEFORE => k_is)
    (case g_BEHIND => k_is)
    (case g_BOUND => k_is)
    (case g_LONGEST => k_is)
    (case g_KINDS => k_is)
    (case lt_KINDS => k_is)
    (case g_LEAVES => k_is)
    (case lt_LEAVES => k_is)
    (case g_ARITHMETIC => k_is)
    (case lt_ARITHMETIC => k_is)
    (case g_COMPARISONS => k_is)
    (case lt_COMPARISONS => k_is)
    (case g_PARTS_KIND => k_is)
    (case ld_PARTS_KIND => k_is)
    (case kl_PARTS_KIND => repeat (first | exact Mi.kl_nil | refine Mi.kl_cons ⟨_, _, rfl, rfl⟩ ?_))
    (case lo_PARTS_KIND => first | rfl | decide +kernel)
    (case er_PARTS_KIND => repeat (first | exact Mi.EntR.nil | refine Mi.EntR.cs ?_ | refine Mi.EntR.ci ?_))
    (case g_RESULT_KIND => k_is)
    (case ld_RESULT_KIND => k_is)
    (case kl_RESULT_KIND => repeat (first | exact Mi.kl_nil | refine Mi.kl_cons ⟨_, _, rfl, rfl⟩ ?_))
    (case lo_RESULT_KIND => first | rfl | decide +kernel)
    (case er_RESULT_KIND => repeat (first | exact Mi.EntR.nil | refine Mi.EntR.cs ?_ | refine Mi.EntR.ci ?_))
    (case n_all => k_is)
    (case n_bool => k_is)
    (case n_int => k_is)
    (case n_isinstance => k_is)
    (case n_len => k_is)
    (case n_list => k_is)
    (case n_range => k_is)
    (case n_str => k_is)
    (case n_sum => k_is)
    (case n_tuple => k_is)

