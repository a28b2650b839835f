import PyProof.Rows.All
import Wide.All
import OpenK.AllK
import Wide.FinOn
import HandS.ForMost
import HandS.Exc
import HandS.TryOnly
import HandS.ExcOwn
import HandS.WordsExc
import HandS.ExcInit
import HandS.ExcIs
import HandS.TupAny
import HandS.TupMul
import HandS.CallLocal
import HandS.Deep
import HandS.IsInst
import HandS.Style
import HandS.Conv
import HandS.Zip
import HandS.Walk
import HandS.Defaults
import HandS.HeadHook2
import KE.GoesMore
import KE.GoesEnum
import KE.KStateDown
import KE.KIsAll
import HandS.Base
import HandS.Call
import HandS.Ends
import HandS.More
import HandS.Words
import HandS.Head0
import HandS.Head1
import HandS.Head2
import HandS.HeadEnd
import HandS.HeadHook1
import HandS.HeadHook3
import HandS.HeadHook4
import PySem.Challenge.RW_onepicture_k22_whole_weavings_shrunk
set_option Elab.async false
set_option linter.all false
set_option maxRecDepth 100000
set_option maxHeartbeats 4000000
/-! # Values as plain data, evaluation as a big-step judgement over the hand layer -/
namespace Bs
open PySem PySem.Spec PyProof.Rows L2
/-- plain data: what an immutable value is; `box a`: the mutable object at a; `play r`: a Play in the manner "sweep" whose rows are r -/
inductive Dt where
  | non | bl (b : Bool) | int (i : Int) | str (x : Str) | tup (l : List Dt) | lst (l : List Dt) | play (r : Dt) | box (a : Addr) | ty (n : String)
def PC (K : PySem.W.Frag) : Addr := He.ga K "Play"
mutual
/-- the value v is the data d; lists stand outside of M -/
def Rep (K : PySem.W.Frag) (M : List Addr) (H : Hp) : Dt → V → Prop
  | .non, v => v = .non
  | .bl b, v => v = .bl b
  | .int i, v => v = .int i
  | .str x, v => v = .str x
  | .tup l, v => ∃ a xs, v = .ref a ∧ SqT K H a xs ∧ Reps K M H l xs
  | .lst l, v => ∃ a xs, v = .ref a ∧ Rd H a (.lst xs) ∧ a ∉ M ∧ Reps K M H l xs
  | .play r, v => ∃ a dx vi vr, v = .ref a ∧ H a = some (.ins (PC K) dx [("kind", .str "sweep"), ("inputs", vi), ("rows", vr)]) ∧ Rep K M H r vi ∧ Rep K M H r vr
  | .box a, v => v = .ref a
  | .ty n, v => v = .ty n
def Reps (K : PySem.W.Frag) (M : List Addr) (H : Hp) : List Dt → List V → Prop
  | [], xs => xs = []
  | d :: ds, xs => ∃ x r, xs = x :: r ∧ Rep K M H d x ∧ Reps K M H ds r
end
/-- all but what stands in A is as it was -/
def Off (A : List Addr) (H H' : Hp) : Prop := ∀ b o, b ∉ A → H b = some o → H' b = some o
theorem Off.refl (A : List Addr) (H : Hp) : Off A H H := fun _ _ _ h => h
theorem Off.trans {A : List Addr} {H H1 H2 : Hp} (a : Off A H H1) (b : Off A H1 H2) : Off A H H2 := fun x o n h => b x o n (a x o n h)
theorem Off.mono {A B : List Addr} {H H' : Hp} (h : Off A H H') (s : ∀ a ∈ A, a ∈ B) : Off B H H' := fun x o n e => h x o (fun m => n (s x m)) e
theorem Off.of {A : List Addr} {H H' : Hp} (h : Same H H') : Off A H H' := fun x o _ e => h x o e
theorem Off.same {H H' : Hp} (h : Off [] H H') : Same H H' := fun x o e => h x o (fun m => nomatch m) e
/-- M's objects are lists and dicts -/
def MOk (M : List Addr) (H : Hp) : Prop := ∀ a ∈ M, (∃ xs, H a = some (.lst xs)) ∨ ∃ kvs, H a = some (.dK kvs)
theorem MOk.same {M : List Addr} {H H' : Hp} (m : MOk M H) (s : Same H H') : MOk M H' := fun a h => (m a h).imp (fun ⟨xs, e⟩ => ⟨xs, s _ _ e⟩) fun ⟨k, e⟩ => ⟨k, s _ _ e⟩
theorem MOk.tup {M : List Addr} {H : Hp} (m : MOk M H) {a : Addr} {xs : List V} (e : H a = some (.tup xs)) : a ∉ M := fun h => by
  rcases m a h with ⟨ys, e2⟩ | ⟨ys, e2⟩ <;> (rw [e] at e2; cases e2)
theorem MOk.frz {M : List Addr} {H : Hp} (m : MOk M H) {a : Addr} {o : Obj} {u : HO} (e : H a = some (.frz o u)) : a ∉ M := fun h => by
  rcases m a h with ⟨ys, e2⟩ | ⟨ys, e2⟩ <;> (rw [e] at e2; cases e2)
theorem MOk.ins {M : List Addr} {H : Hp} (m : MOk M H) {a C dx : Addr} {fs : List (Str × V)} (e : H a = some (.ins C dx fs)) : a ∉ M := fun h => by
  rcases m a h with ⟨ys, e2⟩ | ⟨ys, e2⟩ <;> (rw [e] at e2; cases e2)
/-- whatever stands in M is a list or a dict -/
def NT (M : List Addr) (H : Hp) : Prop := ∀ a ∈ M, ∀ o, H a = some o → (∃ xs, o = .lst xs) ∨ ∃ kvs, o = .dK kvs
theorem MOk.nt {M : List Addr} {H : Hp} (m : MOk M H) : NT M H := fun a ha o e => (m a ha).imp (fun ⟨xs, e2⟩ => ⟨xs, Option.some.inj (e.symm.trans e2)⟩) fun ⟨xs, e2⟩ => ⟨xs, Option.some.inj (e.symm.trans e2)⟩
theorem NT.tup {M : List Addr} {H : Hp} (m : NT M H) {a : Addr} {xs : List V} (e : H a = some (.tup xs)) : a ∉ M := fun h => by
  rcases m a h _ e with ⟨ys, e2⟩ | ⟨ys, e2⟩ <;> cases e2
theorem NT.frz {M : List Addr} {H : Hp} (m : NT M H) {a : Addr} {o : Obj} {u : HO} (e : H a = some (.frz o u)) : a ∉ M := fun h => by
  rcases m a h _ e with ⟨ys, e2⟩ | ⟨ys, e2⟩ <;> cases e2
theorem NT.ins {M : List Addr} {H : Hp} (m : NT M H) {a C dx : Addr} {fs : List (Str × V)} (e : H a = some (.ins C dx fs)) : a ∉ M := fun h => by
  rcases m a h _ e with ⟨ys, e2⟩ | ⟨ys, e2⟩ <;> cases e2
section
variable {K : PySem.W.Frag} {M M' : List Addr} {H H' : Hp}
theorem sqT_off {a : Addr} {xs : List V} (m : NT M H) (o : Off M H H') (h : SqT K H a xs) : SqT K H' a xs := by
  rcases h with (h | ⟨ob, h⟩) | h
  · exact .inl (.inl (o _ _ (m.tup h) h))
  · exact .inl (.inr ⟨ob, o _ _ (m.frz h) h⟩)
  · exact .inr h
theorem rd_off {a : Addr} {xs : List V} (m : NT M H) (o : Off M H H') (n : a ∉ M) (h : Rd H a (.lst xs)) : Rd H' a (.lst xs) := by
  rcases h with h | ⟨ob, h⟩
  · exact .inl (o _ _ n h)
  · exact .inr ⟨ob, o _ _ n h⟩
mutual
theorem Rep.off (m : NT M H) (o : Off M H H') : ∀ (d : Dt) (v : V), Rep K M H d v → Rep K M H' d v
  | .non, _, h => h
  | .bl _, _, h => h
  | .int _, _, h => h
  | .str _, _, h => h
  | .tup l, _, h => by
    obtain ⟨a, xs, e, s, r⟩ := h
    exact ⟨a, xs, e, sqT_off m o s, Reps.off m o l xs r⟩
  | .lst l, _, h => by
    obtain ⟨a, xs, e, s, n, r⟩ := h
    exact ⟨a, xs, e, rd_off m o n s, n, Reps.off m o l xs r⟩
  | .play r, _, h => by
    obtain ⟨a, dx, vi, vr, e, s, r1, r2⟩ := h
    exact ⟨a, dx, vi, vr, e, o _ _ (m.ins s) s, Rep.off m o r vi r1, Rep.off m o r vr r2⟩
  | .box _, _, h => h
  | .ty _, _, h => h
theorem Reps.off (m : NT M H) (o : Off M H H') : ∀ (ds : List Dt) (vs : List V), Reps K M H ds vs → Reps K M H' ds vs
  | [], _, h => h
  | d :: ds, _, h => by
    obtain ⟨x, r, e, h1, h2⟩ := h
    exact ⟨x, r, e, Rep.off m o d x h1, Reps.off m o ds r h2⟩
end
mutual
theorem Rep.same (o : Same H H') : ∀ (d : Dt) (v : V), Rep K M H d v → Rep K M H' d v
  | .non, _, h => h
  | .bl _, _, h => h
  | .int _, _, h => h
  | .str _, _, h => h
  | .tup l, _, h => by
    obtain ⟨a, xs, e, s, r⟩ := h
    refine ⟨a, xs, e, ?_, Reps.same o l xs r⟩
    rcases s with (s | ⟨ob, s⟩) | s
    · exact .inl (.inl (o _ _ s))
    · exact .inl (.inr ⟨ob, o _ _ s⟩)
    · exact .inr s
  | .lst l, _, h => by
    obtain ⟨a, xs, e, s, n, r⟩ := h
    exact ⟨a, xs, e, s.imp (o _ _) fun ⟨ob, s⟩ => ⟨ob, o _ _ s⟩, n, Reps.same o l xs r⟩
  | .play r, _, h => by
    obtain ⟨a, dx, vi, vr, e, s, r1, r2⟩ := h
    exact ⟨a, dx, vi, vr, e, o _ _ s, Rep.same o r vi r1, Rep.same o r vr r2⟩
  | .box _, _, h => h
  | .ty _, _, h => h
theorem Reps.same (o : Same H H') : ∀ (ds : List Dt) (vs : List V), Reps K M H ds vs → Reps K M H' ds vs
  | [], _, h => h
  | d :: ds, _, h => by
    obtain ⟨x, r, e, h1, h2⟩ := h
    exact ⟨x, r, e, Rep.same o d x h1, Reps.same o ds r h2⟩
end
/-! lists stand outside of a smaller part too; of a larger one where what is added holds nothing yet -/
mutual
theorem Rep.re (o : ∀ a xs, Rd H a (.lst xs) → a ∉ M → a ∉ M') : ∀ (d : Dt) (v : V), Rep K M H d v → Rep K M' H d v
  | .non, _, h => h
  | .bl _, _, h => h
  | .int _, _, h => h
  | .str _, _, h => h
  | .tup l, _, h => by
    obtain ⟨a, xs, e, s, r⟩ := h
    exact ⟨a, xs, e, s, Reps.re o l xs r⟩
  | .lst l, _, h => by
    obtain ⟨a, xs, e, s, n, r⟩ := h
    exact ⟨a, xs, e, s, o a xs s n, Reps.re o l xs r⟩
  | .play r, _, h => by
    obtain ⟨a, dx, vi, vr, e, s, r1, r2⟩ := h
    exact ⟨a, dx, vi, vr, e, s, Rep.re o r vi r1, Rep.re o r vr r2⟩
  | .box _, _, h => h
  | .ty _, _, h => h
theorem Reps.re (o : ∀ a xs, Rd H a (.lst xs) → a ∉ M → a ∉ M') : ∀ (ds : List Dt) (vs : List V), Reps K M H ds vs → Reps K M' H ds vs
  | [], _, h => h
  | d :: ds, _, h => by
    obtain ⟨x, r, e, h1, h2⟩ := h
    exact ⟨x, r, e, Rep.re o d x h1, Reps.re o ds r h2⟩
end
theorem rd_some {a : Addr} {u : HO} (h : Rd H a u) : H a ≠ none := by
  rcases h with h | ⟨ob, h⟩ <;> (rw [h]; exact fun z => by cases z)
theorem Rep.sub {d : Dt} {v : V} (s : ∀ a ∈ M', a ∈ M) (h : Rep K M H d v) : Rep K M' H d v := Rep.re (fun a _ _ n m => n (s a m)) d v h
theorem Reps.sub {d : List Dt} {v : List V} (s : ∀ a ∈ M', a ∈ M) (h : Reps K M H d v) : Reps K M' H d v := Reps.re (fun a _ _ n m => n (s a m)) d v h
theorem Rep.more {p : Addr} {d : Dt} {v : V} (e : H p = none) (h : Rep K M H d v) : Rep K (p :: M) H d v :=
  Rep.re (fun a xs s n m => by
    rcases List.mem_cons.mp m with q | q
    · exact rd_some s (by rw [q, e])
    · exact n q) d v h
theorem Reps.more {p : Addr} {d : List Dt} {v : List V} (e : H p = none) (h : Reps K M H d v) : Reps K (p :: M) H d v :=
  Reps.re (fun a xs s n m => by
    rcases List.mem_cons.mp m with q | q
    · exact rd_some s (by rw [q, e])
    · exact n q) d v h
theorem Reps.length : ∀ {ds : List Dt} {vs : List V}, Reps K M H ds vs → vs.length = ds.length
  | [], _, h => by
    rw [show _ = _ from h] <;> rfl
  | d :: ds, _, h => by
    obtain ⟨x, r, e, _, h2⟩ := h
    rw [e]
    exact congrArg (· + 1) (Reps.length h2)
theorem Reps.get : ∀ {ds : List Dt} {vs : List V} {i : Nat} {d : Dt}, Reps K M H ds vs → ds[i]? = some d → ∃ v, vs[i]? = some v ∧ Rep K M H d v
  | [], _, _, _, _, e => by cases e
  | d :: ds, _, 0, d', h, e => by
    obtain ⟨x, r, rfl, h1, h2⟩ := h
    have : d = d' := Option.some.inj e
    subst this
    exact ⟨x, rfl, h1⟩
  | d :: ds, _, i + 1, d', h, e => by
    obtain ⟨x, r, rfl, h1, h2⟩ := h
    exact Reps.get h2 (i := i) e
theorem Reps.snoc : ∀ {ds : List Dt} {vs : List V} {d : Dt} {v : V}, Reps K M H ds vs → Rep K M H d v → Reps K M H (ds ++ [d]) (vs ++ [v])
  | [], _, d, v, h, q => by
    rw [show _ = _ from h]
    exact ⟨v, [], rfl, q, rfl⟩
  | e :: ds, _, d, v, h, q => by
    obtain ⟨x, r, rfl, h1, h2⟩ := h
    exact ⟨x, r ++ [v], rfl, h1, Reps.snoc h2 q⟩
theorem Reps.append : ∀ {ds es : List Dt} {vs ws : List V}, Reps K M H ds vs → Reps K M H es ws → Reps K M H (ds ++ es) (vs ++ ws)
  | [], _, _, _, h, q => by
    rw [show _ = _ from h]
    exact q
  | e :: ds, _, _, _, h, q => by
    obtain ⟨x, r, rfl, h1, h2⟩ := h
    exact ⟨x, r ++ _, rfl, h1, Reps.append h2 q⟩
theorem Reps.take : ∀ {ds : List Dt} {vs : List V} (n : Nat), Reps K M H ds vs → Reps K M H (ds.take n) (vs.take n)
  | _, _, 0, _ => by
    rw [List.take_zero, List.take_zero]
    rfl
  | [], _, n + 1, h => by
    rw [show _ = _ from h]
    rfl
  | e :: ds, _, n + 1, h => by
    obtain ⟨x, r, rfl, h1, h2⟩ := h
    exact ⟨x, r.take n, rfl, h1, Reps.take n h2⟩
theorem Reps.drop : ∀ {ds : List Dt} {vs : List V} (n : Nat), Reps K M H ds vs → Reps K M H (ds.drop n) (vs.drop n)
  | _, _, 0, h => h
  | [], _, n + 1, h => by
    rw [show _ = _ from h]
    rfl
  | e :: ds, _, n + 1, h => by
    obtain ⟨x, r, rfl, h1, h2⟩ := h
    exact Reps.drop n h2
theorem Reps.set : ∀ {ds : List Dt} {vs : List V} (i : Nat) {d : Dt} {v : V}, Reps K M H ds vs → Rep K M H d v → Reps K M H (ds.set i d) (vs.set i v)
  | [], _, _, _, _, h, _ => by
    rw [show _ = _ from h]
    rfl
  | e :: ds, _, 0, d, v, h, q => by
    obtain ⟨x, r, rfl, h1, h2⟩ := h
    exact ⟨v, r, rfl, q, h2⟩
  | e :: ds, _, i + 1, d, v, h, q => by
    obtain ⟨x, r, rfl, h1, h2⟩ := h
    exact ⟨x, r.set i v, rfl, h1, Reps.set i h2 q⟩
theorem Reps.rep {ds : List Dt} {vs : List V} (h : Reps K M H ds vs) : ∀ n : Nat, Reps K M H (List.replicate n ds).flatten (List.replicate n vs).flatten
  | 0 => rfl
  | n + 1 => by
    rw [List.replicate_succ, List.replicate_succ, List.flatten_cons, List.flatten_cons]
    exact h.append (Reps.rep h n)
theorem reps_of : ∀ {ds : List Dt} {vs : List V}, vs.length = ds.length → (∀ (i : Nat) (d : Dt) (v : V), ds[i]? = some d → vs[i]? = some v → Rep K M H d v) → Reps K M H ds vs
  | [], vs, l, _ => List.eq_nil_of_length_eq_zero l
  | d :: ds, [], l, _ => by cases l
  | d :: ds, v :: vs, l, h => ⟨v, vs, rfl, h 0 d v rfl rfl, reps_of (Nat.succ.inj l) fun i => h (i + 1)⟩
end
/-! ### environments -/
/-- what a mutable object holds: a list, a dict from ints to ints -/
inductive Bx where
  | l (ds : List Dt) | d (kvs : List (Int × Int))
def BxOk (K : PySem.W.Frag) (M : List Addr) (H : Hp) (a : Addr) : Bx → Prop
  | .l ds => ∃ xs, H a = some (.lst xs) ∧ Reps K M H ds xs
  | .d kvs => H a = some (.dK (kvs.map fun p => ((Sum.inl p.1 : Key), V.int p.2)))
/-- M: the mutable objects; ρ: the slots; μ: what is known of mutable objects -/
structure En where
  M : List Addr
  ρ : List (Option Dt)
  μ : List (Addr × Bx)
abbrev En.A (E : En) : List Addr := E.μ.map (·.1)
abbrev En.put (E : En) (i : Nat) (d : Dt) : En := ⟨E.M, E.ρ.set i (some d), E.μ⟩
/-- the frame of a running def: M0 what its caller may change, st which heaps may stand, al which objects it may change -/
structure Fr where
  M0 : List Addr
  st : Hp → Prop
  al : Addr → Prop
  same : ∀ H H', st H → Same H H' → st H'
  put : ∀ H p o, st H → al p → st (upd H p o)
  new : ∀ H p, st H → H p = none → al p
structure RepE (K : PySem.W.Frag) (F : Fr) (H : Hp) (E : En) (σ : L2.St) : Prop where
  st : F.st H
  mok : MOk E.M H
  sub : ∀ a ∈ F.M0, a ∈ E.M
  len : E.ρ.length = σ.length
  at_ : ∀ (i : Nat) (d : Dt), E.ρ[i]? = some (some d) → ∃ v, σ[i]? = some (some v) ∧ Rep K E.M H d v
  box : ∀ p ∈ E.μ, p.1 ∈ E.M ∧ F.al p.1 ∧ BxOk K E.M H p.1 p.2
  nd : E.A.Nodup
section
variable {K : PySem.W.Frag} {F : Fr} {H H' : Hp} {E E' : En} {σ : L2.St}
theorem BxOk.same {M : List Addr} {a : Addr} {b : Bx} (h : BxOk K M H a b) (s : Same H H') : BxOk K M H' a b := by
  cases b with
  | l ds =>
    obtain ⟨xs, e, r⟩ := h
    exact ⟨xs, s _ _ e, Reps.same s _ _ r⟩
  | d kvs => exact s _ _ h
theorem RepE.same (r : RepE K F H E σ) (s : Same H H') : RepE K F H' E σ :=
  ⟨F.same _ _ r.st s, r.mok.same s, r.sub, r.len, fun i d e => (r.at_ i d e).imp fun v h => ⟨h.1, Rep.same s _ _ h.2⟩, fun p hp => ⟨(r.box p hp).1, (r.box p hp).2.1, (r.box p hp).2.2.same s⟩, r.nd⟩
theorem RepE.aM (r : RepE K F H E σ) : ∀ a ∈ E.A, a ∈ E.M := fun a ha => by
  obtain ⟨p, hp, e⟩ := List.mem_map.mp ha
  rw [← e]
  exact (r.box p hp).1
end
structure Fit (E E' : En) : Prop where
  M : E'.M = E.M
  ρ : E'.ρ = E.ρ
  A : E'.A = E.A
theorem Fit.refl (E : En) : Fit E E := ⟨rfl, rfl, rfl⟩
theorem Fit.trans {E E1 E2 : En} (a : Fit E E1) (b : Fit E1 E2) : Fit E E2 := ⟨b.M.trans a.M, b.ρ.trans a.ρ, b.A.trans a.A⟩
/-! ### judgements -/
/-- the expression e gives the data d, the environment is E' behind it -/
structure Ev (X : Cx) (F : Fr) (e : Expr) (E : En) (d : Dt) (E' : En) : Prop where
  fit : Fit E E'
  run : ∀ (pins : List (Addr × Obj)) (s : Shared) (σ : L2.St) (H : Hp) (Q : VK), Inv X pins σ H s → RepE X.K F H E σ →
    (∀ v H', RepE X.K F H' E' σ → Off E.A H H' → Rep X.K E.M H' d v → Q v H') → wpAny (model X.prog X.w) X.A (eval e X.env) (EP X pins σ Q) X.xe s
structure EvT (X : Cx) (F : Fr) (e : Expr) (E : En) (b : Bool) (E' : En) : Prop where
  fit : Fit E E'
  run : ∀ (pins : List (Addr × Obj)) (s : Shared) (σ : L2.St) (H : Hp) (Q : Bool → Hp → Prop), Inv X pins σ H s → RepE X.K F H E σ →
    (∀ H', RepE X.K F H' E' σ → Off E.A H H' → Q b H') → wpAny (model X.prog X.w) X.A (isTrue e X.env (eval e X.env)) (TP X pins σ Q) X.xe s
structure EvW (X : Cx) (F : Fr) (e : Expr) (E : En) (b : Bool) (E' : En) : Prop where
  fit : Fit E E'
  run : ∀ (whole : Sem Value) (pins : List (Addr × Obj)) (s : Shared) (σ : L2.St) (H : Hp) (Q : Bool → Hp → Prop), Inv X pins σ H s → RepE X.K F H E σ →
    (∀ H', RepE X.K F H' E' σ → Off E.A H H' → Q b H') → wpAny (model X.prog X.w) X.A (isTrue e X.env whole) (TP X pins σ Q) X.xe s
structure EvA (X : Cx) (F : Fr) (es : List Expr) (E : En) (ds : List Dt) (E' : En) : Prop where
  fit : Fit E E'
  len : ds.length = es.length
  run : ∀ (pos : Pos) (pins : List (Addr × Obj)) (s : Shared) (σ : L2.St) (H : Hp) (Q : List V → Hp → Prop), Inv X pins σ H s → RepE X.K F H E σ →
    (∀ vs H', RepE X.K F H' E' σ → Off E.A H H' → Reps X.K E.M H' ds vs → Q vs H') → wpAny (model X.prog X.w) X.A (spliced (backTo pos (starEach es X.env))) (AP X pins σ Q) X.xe s
def tE (X : Cx) (F : Fr) (e : Expr) : TE := fun σ H Q => ∃ E d E', RepE X.K F H E σ ∧ Ev X F e E d E' ∧ ∀ v H', RepE X.K F H' E' σ → Off E.A H H' → Rep X.K E.M H' d v → Q v H'
def tT (X : Cx) (F : Fr) (e : Expr) : TT := fun σ H Q => ∃ E b E', RepE X.K F H E σ ∧ EvT X F e E b E' ∧ ∀ H', RepE X.K F H' E' σ → Off E.A H H' → Q b H'
def tW (X : Cx) (F : Fr) (e : Expr) : TT := fun σ H Q => ∃ E b E', RepE X.K F H E σ ∧ EvW X F e E b E' ∧ ∀ H', RepE X.K F H' E' σ → Off E.A H H' → Q b H'
def tA (X : Cx) (F : Fr) (es : List Expr) : TA := fun σ H Q => ∃ E ds E', RepE X.K F H E σ ∧ EvA X F es E ds E' ∧ ∀ vs H', RepE X.K F H' E' σ → Off E.A H H' → Reps X.K E.M H' ds vs → Q vs H'
section
variable {X : Cx} {F : Fr} {e a b c : Expr} {es : List Expr} {E E1 E2 E3 : En} {d da db dc : Dt} {ds : List Dt} {σ : L2.St} {H : Hp} {k k1 k2 : Bool} {pos : Pos}
theorem pe_ev : PE X e (tE X F e) := ⟨fun pins s σ H Q I ⟨_, _, _, r, h, q⟩ => h.run pins s σ H Q I r q⟩
theorem pt_ev : PT X e (tT X F e) := ⟨fun pins s σ H Q I ⟨_, _, _, r, h, q⟩ => h.run pins s σ H Q I r q⟩
theorem pw_ev : PW X e (tW X F e) := ⟨fun w pins s σ H Q I ⟨_, _, _, r, h, q⟩ => h.run w pins s σ H Q I r q⟩
theorem pa_ev : PA X es (tA X F es) := ⟨fun pos pins s σ H Q I ⟨_, _, _, r, h, q⟩ => h.run pos pins s σ H Q I r q⟩
/-- a part is run -/
theorem tE_run {R : V → Hp → Prop} (h : Ev X F e E d E1) (r : RepE X.K F H E σ) (q : ∀ v H', RepE X.K F H' E1 σ → Off E.A H H' → Rep X.K E.M H' d v → R v H') : tE X F e σ H R := ⟨E, d, E1, r, h, q⟩
theorem tT_run {R : Bool → Hp → Prop} (h : EvT X F e E k E1) (r : RepE X.K F H E σ) (q : ∀ H', RepE X.K F H' E1 σ → Off E.A H H' → R k H') : tT X F e σ H R := ⟨E, k, E1, r, h, q⟩
theorem tW_run {R : Bool → Hp → Prop} (h : EvW X F e E k E1) (r : RepE X.K F H E σ) (q : ∀ H', RepE X.K F H' E1 σ → Off E.A H H' → R k H') : tW X F e σ H R := ⟨E, k, E1, r, h, q⟩
theorem tA_run {R : List V → Hp → Prop} (h : EvA X F es E ds E1) (r : RepE X.K F H E σ) (q : ∀ vs H', RepE X.K F H' E1 σ → Off E.A H H' → Reps X.K E.M H' ds vs → R vs H') : tA X F es σ H R := ⟨E, ds, E1, r, h, q⟩
/-- an expression by a rule of the layer -/
theorem ev_of {t : TE} (fit : Fit E E1) (h : PE X e t) (g : ∀ σ H, RepE X.K F H E σ → t σ H fun v H' => RepE X.K F H' E1 σ ∧ Off E.A H H' ∧ Rep X.K E.M H' d v) : Ev X F e E d E1 :=
  ⟨fit, fun pins s σ H Q I r q => thn (h.run pins s σ H _ I (g σ H r)) fun u s' ⟨v, H', I', rv, z⟩ => ⟨v, H', I', rv, q v H' z.1 z.2.1 z.2.2⟩⟩
theorem evt_of {t : TT} (fit : Fit E E1) (h : PT X e t) (g : ∀ σ H, RepE X.K F H E σ → t σ H fun b H' => RepE X.K F H' E1 σ ∧ Off E.A H H' ∧ b = k) : EvT X F e E k E1 :=
  ⟨fit, fun pins s σ H Q I r q => thn (h.run pins s σ H _ I (g σ H r)) fun u s' ⟨H', I', z⟩ => ⟨H', I', by rw [z.2.2]; exact q H' z.1 z.2.1⟩⟩
theorem evw_of {t : TT} (fit : Fit E E1) (h : PW X e t) (g : ∀ σ H, RepE X.K F H E σ → t σ H fun b H' => RepE X.K F H' E1 σ ∧ Off E.A H H' ∧ b = k) : EvW X F e E k E1 :=
  ⟨fit, fun w pins s σ H Q I r q => thn (h.run w pins s σ H _ I (g σ H r)) fun u s' ⟨H', I', z⟩ => ⟨H', I', by rw [z.2.2]; exact q H' z.1 z.2.1⟩⟩
theorem EvW.t (h : EvW X F e E k E1) : EvT X F e E k E1 := ⟨h.fit, fun pins s σ H Q I r q => h.run _ pins s σ H Q I r q⟩
/-- a part's value behind a later part -/
theorem Rep.step {v : V} {M : List Addr} {H H' : Hp} (f : Fit E E1) (r : RepE X.K F H E1 σ) (o : Off E1.A H H') (h : Rep X.K E.M H d v) : Rep X.K E.M H' d v := by
  have m := r.mok
  rw [f.M] at m
  exact Rep.off m.nt (o.mono fun a ha => by
    have := r.aM a ha
    rwa [f.M] at this) d v h
theorem Reps.step {vs : List V} {H H' : Hp} (f : Fit E E1) (r : RepE X.K F H E1 σ) (o : Off E1.A H H') (h : Reps X.K E.M H ds vs) : Reps X.K E.M H' ds vs := by
  have m := r.mok
  rw [f.M] at m
  exact Reps.off m.nt (o.mono fun a ha => by
    have := r.aM a ha
    rwa [f.M] at this) ds vs h
/-- two parts, one behind the other -/
theorem t2 {R : V → V → Hp → Prop} (ha : Ev X F a E da E1) (hb : Ev X F b E1 db E2) (r : RepE X.K F H E σ)
    (h : ∀ x y H2, RepE X.K F H2 E2 σ → Off E.A H H2 → Rep X.K E.M H2 da x → Rep X.K E.M H2 db y → R x y H2) : tE X F a σ H fun x H1 => tE X F b σ H1 fun y H2 => R x y H2 :=
  tE_run ha r fun x H1 r1 o1 p1 => tE_run hb r1 fun y H2 r2 o2 p2 => h x y H2 r2 (o1.trans (by
    rw [ha.fit.A] at o2
    exact o2)) (Rep.step (X := X) (σ := σ) (M := []) ha.fit r1 o2 p1) (by
    rw [ha.fit.M] at p2
    exact p2)
end
end Bs
set_option Elab.async false
set_option linter.all false
set_option maxRecDepth 100000
set_option maxHeartbeats 4000000
namespace Bs
open PySem PySem.Spec PyProof.Rows L2
/-- a name of the module, as data -/
def GD (K : PySem.W.Frag) (mg : Str → Option Value) (x : Str) (d : Dt) : Prop := ∃ v u, mg x = some u ∧ RelV v u ∧ ∀ M H, Rep K M H d v
/-- an operation on values, as one on data -/
def OpD (X : Cx) (f : Value → Value → Sem Value) (da db d : Dt) : Prop := ∃ r : R2, OpR X f r ∧ ∀ (M : List Addr) (H : Hp) (x y : V) (Q : VK), MOk M H → Rep X.K M H da x → Rep X.K M H db y →
  (∀ v H', Same H H' → Rep X.K M H' d v → Q v H') → r x y H Q
/-- a call of a built-in, as one on data -/
def CallD (X : Cx) (f : Value) (ds : List Dt) (d : Dt) : Prop := ∃ r : List V → Hp → VK → Prop, CallR X f r ∧ ∀ (M : List Addr) (H : Hp) (xs : List V) (Q : VK), MOk M H → Reps X.K M H ds xs →
  (∀ v H', Same H H' → Rep X.K M H' d v → Q v H') → r xs H Q
section
variable {X : Cx} {F : Fr} {e a b c : Expr} {es : List Expr} {E E1 E2 E3 : En} {d da db dc : Dt} {ds : List Dt} {σ : L2.St} {H : Hp} {k k1 k2 : Bool} {pos : Pos}
/-! ### names, constants -/
theorem ev_var (i : Nat) {x : Str} (hd : E.ρ[i]? = some (some d)) (hN : X.N[i]? = some x := by rfl) (hv : Vis X.env.scope x := by first | exact Or.inl rfl | exact Or.inr (Or.inl rfl) | exact Or.inr (Or.inr rfl))
    (h1 : (x == ("__debug__" : Str)) = false := by decide) (h2 : (x == ("__classdict__" : Str)) = false := by decide) : Ev X F (.Name x pos) E d E :=
  ev_of (.refl _) (pe_var hN hv h1 h2) fun σ H r => let ⟨v, e, p⟩ := r.at_ i d hd; ⟨v, e, r, .refl _ _, p⟩
theorem ev_int {i : Int} {j} : Ev X F (.Constant (.int i) j pos) E (.int i) E := ev_of (.refl _) pe_int fun σ H r => ⟨r, .refl _ _, rfl⟩
theorem ev_bl {i : Bool} {j} : Ev X F (.Constant (.bool i) j pos) E (.bl i) E := ev_of (.refl _) pe_bl fun σ H r => ⟨r, .refl _ _, rfl⟩
theorem ev_non {j} : Ev X F (.Constant .none j pos) E .non E := ev_of (.refl _) pe_non fun σ H r => ⟨r, .refl _ _, rfl⟩
theorem ev_str {x : Str} {j} : Ev X F (.Constant (.str x) j pos) E (.str x) E := ev_of (.refl _) pe_str fun σ H r => ⟨r, .refl _ _, rfl⟩
theorem ev_glob {x : Str} (g : GD X.K X.mg x d) (hg : Gl X x := by rfl) (h1 : (x == ("__debug__" : Str)) = false := by decide) : Ev X F (.Name x pos) E d E :=
  let ⟨v, u, hm, r, p⟩ := g; ev_of (.refl _) (pe_glob hg hm r h1) fun σ H q => ⟨q, .refl _ _, p _ _⟩
/-! ### operators -/
theorem ev_bin {op : Operator} (o : OpD X (binaryOp op) da db d) (ha : Ev X F a E da E1) (hb : Ev X F b E1 db E2) : Ev X F (.BinOp a op b pos) E d E2 :=
  let ⟨r, ho, hr⟩ := o; ev_of (ha.fit.trans hb.fit) (pe_op ho pe_ev pe_ev) fun σ H q => t2 ha hb q fun x y H2 r2 o2 p1 p2 => hr E.M H2 x y _ (by
    have := r2.mok
    rwa [hb.fit.M, ha.fit.M] at this) p1 p2 fun v H' sm rv => ⟨r2.same sm, o2.trans (.of sm), rv⟩
theorem ev_cmp {op : CmpOp} (o : OpD X (compareOp op) da db d) (ha : Ev X F a E da E1) (hb : Ev X F b E1 db E2) (hm : behindInMarks op b = false := by first | exact nomark _ | rfl) : Ev X F (.Compare a [op] [b] pos) E d E2 :=
  let ⟨r, ho, hr⟩ := o; ev_of (ha.fit.trans hb.fit) (pe_cmpR ho pe_ev pe_ev hm) fun σ H q => t2 ha hb q fun x y H2 r2 o2 p1 p2 => hr E.M H2 x y _ (by
    have := r2.mok
    rwa [hb.fit.M, ha.fit.M] at this) p1 p2 fun v H' sm rv => ⟨r2.same sm, o2.trans (.of sm), rv⟩
theorem evt_cmp {op : CmpOp} (o : OpD X (compareOp op) da db (.bl k)) (ha : Ev X F a E da E1) (hb : Ev X F b E1 db E2) (hm : behindInMarks op b = false := by first | exact nomark _ | rfl) : EvT X F (.Compare a [op] [b] pos) E k E2 :=
  let ⟨r, ho, hr⟩ := o; evt_of (ha.fit.trans hb.fit) (pt_cmpR ho pe_ev pe_ev hm) fun σ H q => t2 ha hb q fun x y H2 r2 o2 p1 p2 => hr E.M H2 x y _ (by
    have := r2.mok
    rwa [hb.fit.M, ha.fit.M] at this) p1 p2 fun v H' sm rv => ⟨k, rv, r2.same sm, o2.trans (.of sm), rfl⟩
/-- a op b op' c: the first says True -/
theorem ev_chainT {op op' : CmpOp} (o : OpD X (compareOp op) da db (.bl true)) (o' : OpD X (compareOp op') db dc d) (ha : Ev X F a E da E1) (hb : Ev X F b E1 db E2) (hc : Ev X F c E2 dc E3)
    (hm : lastMarks [op, op'] [b, c] = false := by with_unfolding_all rfl) : Ev X F (.Compare a [op, op'] [b, c] pos) E d E3 :=
  let ⟨r, ho, hr⟩ := o; let ⟨r', ho', hr'⟩ := o'
  ev_of ((ha.fit.trans hb.fit).trans hc.fit) (pe_chain ho ho' pe_ev pe_ev pe_ev hm) fun σ H q => t2 ha hb q fun x y H2 r2 o2 p1 p2 => hr E.M H2 x y _ (by
    have := r2.mok
    rwa [hb.fit.M, ha.fit.M] at this) p1 p2 fun v H3 sm rv => ⟨true, rv, iteT (tE_run hc (r2.same sm) fun z H4 r4 o4 p4 => hr' E.M H4 y z _ (by
      have := r4.mok
      rwa [hc.fit.M, hb.fit.M, ha.fit.M] at this) (Rep.step (X := X) (M := []) (ha.fit.trans hb.fit) (r2.same sm) o4 (Rep.same sm _ _ p2)) (by
      rwa [hb.fit.M, ha.fit.M] at p4) fun w H' sm' rw' => ⟨r4.same sm', ((o2.trans (.of sm)).trans (by
        rwa [hb.fit.A, ha.fit.A] at o4)).trans (.of sm'), rw'⟩)⟩
theorem ev_chainF {op op' : CmpOp} (o : OpD X (compareOp op) da db (.bl false)) (ho' : ∃ r, OpR X (compareOp op') r) (ha : Ev X F a E da E1) (hb : Ev X F b E1 db E2)
    (hm : lastMarks [op, op'] [b, c] = false := by with_unfolding_all rfl) : Ev X F (.Compare a [op, op'] [b, c] pos) E (.bl false) E2 :=
  let ⟨r, ho, hr⟩ := o; let ⟨r', ho'⟩ := ho'
  ev_of (ha.fit.trans hb.fit) (pe_chain ho ho' pe_ev pe_ev (pe_ev (F := F)) hm) fun σ H q => t2 ha hb q fun x y H2 r2 o2 p1 p2 => hr E.M H2 x y _ (by
    have := r2.mok
    rwa [hb.fit.M, ha.fit.M] at this) p1 p2 fun v H3 sm rv => ⟨false, rv, iteF ⟨r2.same sm, o2.trans (.of sm), rfl⟩⟩
theorem ev_neg {i : Int} (ha : Ev X F a E (.int i) E1) : Ev X F (.UnaryOp .USub a pos) E (.int (-i)) E1 :=
  ev_of ha.fit (pe_un un_neg pe_ev) fun σ H q => tE_run ha q fun v H' r1 o1 p => ⟨i, p, r1, o1, rfl⟩
/-! ### and, or, not -/
theorem ev_one {op} (h : Ev X F a E d E1) : Ev X F (.BoolOp op [a] pos) E d E1 := ev_of h.fit (pe_one pe_ev) fun σ H q => tE_run h q fun v H' r1 o1 p => ⟨r1, o1, p⟩
theorem ev_andT (ha : Ev X F a E (.bl true) E1) (hb : Ev X F (.BoolOp .And (b :: es) pos) E1 d E2) : Ev X F (.BoolOp .And (a :: b :: es) pos) E d E2 :=
  ev_of (ha.fit.trans hb.fit) (pe_and pe_ev pe_ev) fun σ H q => tE_run ha q fun v H1 r1 o1 p => ⟨true, p, iteT (tE_run hb r1 fun w H2 r2 o2 p2 => ⟨r2, o1.trans (by rwa [ha.fit.A] at o2), by rwa [ha.fit.M] at p2⟩)⟩
theorem ev_andF (ha : Ev X F a E (.bl false) E1) : Ev X F (.BoolOp .And (a :: b :: es) pos) E (.bl false) E1 :=
  ev_of ha.fit (pe_and pe_ev (pe_ev (F := F))) fun σ H q => tE_run ha q fun v H1 r1 o1 p => ⟨false, p, iteF ⟨r1, o1, rfl⟩⟩
theorem ev_orT (ha : Ev X F a E (.bl true) E1) : Ev X F (.BoolOp .Or (a :: b :: es) pos) E (.bl true) E1 :=
  ev_of ha.fit (pe_or pe_ev (pe_ev (F := F))) fun σ H q => tE_run ha q fun v H1 r1 o1 p => ⟨true, p, iteT ⟨r1, o1, rfl⟩⟩
theorem ev_orF (ha : Ev X F a E (.bl false) E1) (hb : Ev X F (.BoolOp .Or (b :: es) pos) E1 d E2) : Ev X F (.BoolOp .Or (a :: b :: es) pos) E d E2 :=
  ev_of (ha.fit.trans hb.fit) (pe_or pe_ev pe_ev) fun σ H q => tE_run ha q fun v H1 r1 o1 p => ⟨false, p, iteF (tE_run hb r1 fun w H2 r2 o2 p2 => ⟨r2, o1.trans (by rwa [ha.fit.A] at o2), by rwa [ha.fit.M] at p2⟩)⟩
theorem ev_not (ha : Ev X F a E (.bl k) E1) : Ev X F (.UnaryOp .Not a pos) E (.bl (!k)) E1 := ev_of ha.fit (pe_not pe_ev) fun σ H q => tE_run ha q fun v H1 r1 o1 p => ⟨k, p, r1, o1, rfl⟩
/-- a and b, both flags -/
theorem ev_and (ha : Ev X F a E (.bl k1) E) (hb : k1 = true → Ev X F (.BoolOp .And (b :: es) pos) E (.bl k2) E) : Ev X F (.BoolOp .And (a :: b :: es) pos) E (.bl (k1 && k2)) E := by
  cases k1 with
  | true => exact ev_andT ha (hb rfl)
  | false => exact ev_andF ha
theorem ev_or (ha : Ev X F a E (.bl k1) E) (hb : k1 = false → Ev X F (.BoolOp .Or (b :: es) pos) E (.bl k2) E) : Ev X F (.BoolOp .Or (a :: b :: es) pos) E (.bl (k1 || k2)) E := by
  cases k1 with
  | true => exact ev_orT ha
  | false => exact ev_orF ha (hb rfl)
/-! ### tests -/
theorem evt_val (h : Ev X F e E (.bl k) E1) (he : ∀ whole, isTrue e X.env whole = (do let v ← whole; standAt e.pos; holding [v] (truthy v)) := by intro _; rfl) : EvT X F e E k E1 :=
  evt_of h.fit (pt_val pe_ev he) fun σ H q => tE_run h q fun v H1 r1 o1 p => ⟨k, p, r1, o1, rfl⟩
theorem evt_not (h : EvT X F a E k E1) : EvT X F (.UnaryOp .Not a pos) E (!k) E1 := evt_of h.fit (pt_not pt_ev) fun σ H q => tT_run h q fun H1 r1 o1 => ⟨r1, o1, rfl⟩
theorem evw_and1 (h : EvT X F a E k E1) : EvW X F (.BoolOp .And [a] pos) E k E1 := evw_of h.fit (pw_and1 pt_ev) fun σ H q => tT_run h q fun H1 r1 o1 => ⟨r1, o1, rfl⟩
theorem evw_or1 (h : EvT X F a E k E1) : EvW X F (.BoolOp .Or [a] pos) E k E1 := evw_of h.fit (pw_or1 pt_ev) fun σ H q => tT_run h q fun H1 r1 o1 => ⟨r1, o1, rfl⟩
theorem evw_and (h : EvT X F a E k1 E) (hb : k1 = true → EvW X F (.BoolOp .And (b :: es) pos) E k2 E) : EvW X F (.BoolOp .And (a :: b :: es) pos) E (k1 && k2) E := by
  cases k1 with
  | true => exact evw_of (.refl _) (pw_and pt_ev pw_ev) fun σ H q => tT_run h q fun H1 r1 o1 => iteT (tW_run (hb rfl) r1 fun H2 r2 o2 => ⟨r2, o1.trans o2, rfl⟩)
  | false => exact evw_of (.refl _) (pw_and pt_ev (pw_ev (F := F))) fun σ H q => tT_run h q fun H1 r1 o1 => iteF ⟨r1, o1, rfl⟩
theorem evw_or (h : EvT X F a E k1 E) (hb : k1 = false → EvW X F (.BoolOp .Or (b :: es) pos) E k2 E) : EvW X F (.BoolOp .Or (a :: b :: es) pos) E (k1 || k2) E := by
  cases k1 with
  | true => exact evw_of (.refl _) (pw_or pt_ev (pw_ev (F := F))) fun σ H q => tT_run h q fun H1 r1 o1 => iteT ⟨r1, o1, rfl⟩
  | false => exact evw_of (.refl _) (pw_or pt_ev pw_ev) fun σ H q => tT_run h q fun H1 r1 o1 => iteF (tW_run (hb rfl) r1 fun H2 r2 o2 => ⟨r2, o1.trans o2, rfl⟩)
theorem ev_if (hc : EvT X F c E k E1) (ha : k = true → Ev X F a E1 d E2) (hb : k = false → Ev X F b E1 d E2) : Ev X F (.IfExp c a b pos) E d E2 := by
  cases k with
  | true => exact ev_of (hc.fit.trans (ha rfl).fit) (pe_ifExp pt_ev pe_ev (pe_ev (F := F))) fun σ H q => tT_run hc q fun H1 r1 o1 => iteT (tE_run (ha rfl) r1 fun v H2 r2 o2 p => ⟨r2, o1.trans (by rwa [hc.fit.A] at o2), by rwa [hc.fit.M] at p⟩)
  | false => exact ev_of (hc.fit.trans (hb rfl).fit) (pe_ifExp pt_ev (pe_ev (F := F)) pe_ev) fun σ H q => tT_run hc q fun H1 r1 o1 => iteF (tE_run (hb rfl) r1 fun v H2 r2 o2 p => ⟨r2, o1.trans (by rwa [hc.fit.A] at o2), by rwa [hc.fit.M] at p⟩)
/-! ### argument lists, displays -/
theorem eva_nil : EvA X F [] E [] E := ⟨.refl _, rfl, fun pos pins s σ H Q I r q => pa_nil.run pos pins s σ H Q I (q [] H r (.refl _ _) rfl)⟩
theorem eva_cons (ha : Ev X F e E d E1) (hr : EvA X F es E1 ds E2) (hs : starEach (e :: es) X.env = (false, eval e X.env) :: starEach es X.env := by rfl) : EvA X F (e :: es) E (d :: ds) E2 :=
  ⟨ha.fit.trans hr.fit, congrArg (· + 1) hr.len, fun pos pins s σ H Q I r q => (pa_cons pe_ev pa_ev hs).run pos pins s σ H Q I (tE_run ha r fun v H1 r1 o1 p1 => tA_run hr r1 fun vs H2 r2 o2 p2 =>
    q (v :: vs) H2 r2 (o1.trans (by rwa [ha.fit.A] at o2)) ⟨v, vs, rfl, Rep.step (X := X) (M := []) ha.fit r1 o2 p1, by rwa [ha.fit.M] at p2⟩)⟩
theorem same_up {H : Hp} {p : Addr} {o : HO} (h : H p = none) : Same H (upd H p o) := fun b x e => by
  rw [upd_ne (ne_of_none e h)]
  exact e
theorem rep_tup {K : PySem.W.Frag} {M : List Addr} {H : Hp} {ds : List Dt} {vs : List V} {p : Addr} (h : H p = none) (r : Reps K M H ds vs) : Rep K M (upd H p (.tup vs)) (.tup ds) (.ref p) :=
  ⟨p, vs, rfl, .of upd_same, Reps.same (same_up h) _ _ r⟩
theorem rep_lst {K : PySem.W.Frag} {M : List Addr} {H : Hp} {ds : List Dt} {vs : List V} {p : Addr} (m : MOk M H) (h : H p = none) (r : Reps K M H ds vs) : Rep K M (upd H p (.lst vs)) (.lst ds) (.ref p) :=
  ⟨p, vs, rfl, .of upd_same, fun z => by
    rcases m p z with ⟨_, e⟩ | ⟨_, e⟩ <;> (rw [h] at e; cases e), Reps.same (same_up h) _ _ r⟩
theorem small100 {n : Nat} (h : n ≤ 100) : n ≤ sizeLine := Nat.le_trans h (by decide)
theorem ev_tup {x1} (h : EvA X F es E ds E1) (hl : es.length ≤ 100 := by decide) : Ev X F (.Tuple es x1 pos) E (.tup ds) E1 :=
  ev_of h.fit (pe_tup pa_ev) fun σ H q => tA_run h q fun vs H1 r1 o1 p => ⟨small100 (by rw [p.length, h.len]; exact hl), fun l hl => ⟨r1.same (same_up hl), o1.trans (.of (same_up hl)), rep_tup hl p⟩⟩
theorem ev_lst (h : EvA X F es E ds E1) (hl : es.length ≤ 100 := by decide) : Ev X F (.List es pos) E (.lst ds) E1 :=
  ev_of h.fit (pe_lst pa_ev) fun σ H q => tA_run h q fun vs H1 r1 o1 p => ⟨small100 (by rw [p.length, h.len]; exact hl), fun l hl => ⟨r1.same (same_up hl), o1.trans (.of (same_up hl)), rep_lst (by
    have := r1.mok
    rwa [h.fit.M] at this) hl p⟩⟩
/-! ### calls of built-ins -/
theorem ev_callB {x : Str} {p : Pos} {id : String} (hc : CallD X (.builtin id) ds d) (hm : X.mg x = none) (hv : bootBuiltins x = some (.builtin id)) (ha : EvA X F (e :: es) E ds E1) (hg : Gl X x := by rfl) (hn : x ≠ "__name__" := by decide) (hdb : (x == ("__debug__" : Str)) = false := by decide)
    (he : starEach (e :: es) X.env = (false, eval e X.env) :: starEach es X.env := by rfl) (hpl : (backTo pos (starEach es X.env)).any (·.1) = false := by rfl) : Ev X F (.Call (.Name x p) (e :: es) [] pos) E d E1 :=
  let ⟨r, hr, hq⟩ := hc; ev_of ha.fit (pe_callB hr hg hm hv pa_ev hn hdb he hpl) fun σ H q => tA_run ha q fun vs H1 r1 o1 p => hq E.M H1 vs _ (by
    have := r1.mok
    rwa [ha.fit.M] at this) p fun v H' sm rv => ⟨r1.same sm, o1.trans (.of sm), rv⟩
theorem ev_callTy {x : Str} {p : Pos} {T : String} (hc : CallD X (.type T) ds d) (hm : X.mg x = none) (hv : bootBuiltins x = some (.type T)) (ha : EvA X F (e :: es) E ds E1) (hg : Gl X x := by rfl) (hn : x ≠ "__name__" := by decide) (hdb : (x == ("__debug__" : Str)) = false := by decide)
    (he : starEach (e :: es) X.env = (false, eval e X.env) :: starEach es X.env := by rfl) (hpl : (backTo pos (starEach es X.env)).any (·.1) = false := by rfl) : Ev X F (.Call (.Name x p) (e :: es) [] pos) E d E1 :=
  let ⟨r, hr, hq⟩ := hc; ev_of ha.fit (pe_callTy hr hg hm hv pa_ev hn hdb he hpl) fun σ H q => tA_run ha q fun vs H1 r1 o1 p => hq E.M H1 vs _ (by
    have := r1.mok
    rwa [ha.fit.M] at this) p fun v H' sm rv => ⟨r1.same sm, o1.trans (.of sm), rv⟩
end
end Bs
set_option Elab.async false
set_option linter.all false
set_option maxRecDepth 100000
set_option maxHeartbeats 4000000
namespace Bs
open PySem PySem.Spec PyProof.Rows L2
section
variable {X : Cx} {d da db dc : Dt}
/-! ### ints -/
theorem opd_add {i j : Int} : OpD X (binaryOp .Add) (.int i) (.int j) (.int (i + j)) := ⟨_, op_add, fun M H x y Q m p1 p2 q => ⟨i, j, p1, p2, q _ H (.refl _) rfl⟩⟩
theorem opd_sub {i j : Int} : OpD X (binaryOp .Sub) (.int i) (.int j) (.int (i - j)) := ⟨_, op_sub, fun M H x y Q m p1 p2 q => ⟨i, j, p1, p2, q _ H (.refl _) rfl⟩⟩
theorem opd_mul {i j : Int} (c : CMul i j) : OpD X (binaryOp .Mult) (.int i) (.int j) (.int (i * j)) := ⟨_, op_mul, fun M H x y Q m p1 p2 q => ⟨i, j, p1, p2, c, q _ H (.refl _) rfl⟩⟩
theorem opd_fdiv {i j : Int} (c : CDiv i j) : OpD X (binaryOp .FloorDiv) (.int i) (.int j) (.int (i / j)) := ⟨_, op_fdiv, fun M H x y Q m p1 p2 q => ⟨i, j, p1, p2, c, q _ H (.refl _) rfl⟩⟩
theorem opd_mod {i j : Int} (c : 0 < j) : OpD X (binaryOp .Mod) (.int i) (.int j) (.int (i % j)) := ⟨_, op_mod, fun M H x y Q m p1 p2 q => ⟨i, j, p1, p2, c, q _ H (.refl _) rfl⟩⟩
theorem opd_pow {i j : Int} (c : CPow i j) : OpD X (binaryOp .Pow) (.int i) (.int j) (.int (i ^ j.toNat)) := ⟨_, op_pow, fun M H x y Q m p1 p2 q => ⟨i, j, p1, p2, c, q _ H (.refl _) rfl⟩⟩
theorem opd_lt {i j : Int} : OpD X (compareOp .Lt) (.int i) (.int j) (.bl (decide (i < j))) := ⟨_, op_lt, fun M H x y Q m p1 p2 q => ⟨i, j, p1, p2, q _ H (.refl _) rfl⟩⟩
theorem opd_le {i j : Int} : OpD X (compareOp .LtE) (.int i) (.int j) (.bl (decide (i ≤ j))) := ⟨_, op_le, fun M H x y Q m p1 p2 q => ⟨i, j, p1, p2, q _ H (.refl _) rfl⟩⟩
theorem opd_gt {i j : Int} : OpD X (compareOp .Gt) (.int i) (.int j) (.bl (decide (j < i))) := ⟨_, op_gt, fun M H x y Q m p1 p2 q => ⟨i, j, p1, p2, q _ H (.refl _) rfl⟩⟩
theorem opd_ge {i j : Int} : OpD X (compareOp .GtE) (.int i) (.int j) (.bl (decide (j ≤ i))) := ⟨_, op_ge, fun M H x y Q m p1 p2 q => ⟨i, j, p1, p2, q _ H (.refl _) rfl⟩⟩
theorem opd_eqI {i j : Int} : OpD X (compareOp .Eq) (.int i) (.int j) (.bl (decide (i = j))) := ⟨_, op_eq, fun M H x y Q m p1 p2 q => by
  rw [show x = _ from p1, show y = _ from p2]
  exact ⟨rfl, q _ H (.refl _) (by show V.bl _ = V.bl _; rw [dec_int]; by_cases h : i = j <;> simp [h])⟩⟩
theorem opd_eqS {i j : Str} : OpD X (compareOp .Eq) (.str i) (.str j) (.bl (decide (i = j))) := ⟨_, op_eq, fun M H x y Q m p1 p2 q => by
  rw [show x = _ from p1, show y = _ from p2]
  exact ⟨rfl, q _ H (.refl _) (by show V.bl _ = V.bl _; rw [dec_str]; by_cases h : i = j <;> simp [h])⟩⟩
theorem opd_eqB {i j : Bool} : OpD X (compareOp .Eq) (.bl i) (.bl j) (.bl (decide (i = j))) := ⟨_, op_eq, fun M H x y Q m p1 p2 q => by
  rw [show x = _ from p1, show y = _ from p2]
  exact ⟨rfl, q _ H (.refl _) (by show V.bl _ = V.bl _; rw [dec_bl]; cases i <;> cases j <;> rfl)⟩⟩
theorem opd_neS {i j : Str} : OpD X (compareOp .NotEq) (.str i) (.str j) (.bl (!decide (i = j))) := ⟨_, op_ne, fun M H x y Q m p1 p2 q => by
  rw [show x = _ from p1, show y = _ from p2]
  exact ⟨rfl, q _ H (.refl _) (by show V.bl _ = V.bl _; rw [dec_str]; by_cases h : i = j <;> simp [h])⟩⟩
theorem opd_neB {i j : Bool} : OpD X (compareOp .NotEq) (.bl i) (.bl j) (.bl (!decide (i = j))) := ⟨_, op_ne, fun M H x y Q m p1 p2 q => by
  rw [show x = _ from p1, show y = _ from p2]
  exact ⟨rfl, q _ H (.refl _) (by show V.bl _ = V.bl _; rw [dec_bl]; cases i <;> cases j <;> rfl)⟩⟩
/-! ### is -/
def isNon : Dt → Bool
  | .non => true
  | _ => false
theorem rep_non {K : PySem.W.Frag} {M : List Addr} {H : Hp} {v : V} (p : Rep K M H d v) : decide (v = .non) = isNon d := by
  cases d with
  | non =>
    rw [show v = _ from p]
    rfl
  | bl b =>
    rw [show v = _ from p]
    rfl
  | int b =>
    rw [show v = _ from p]
    rfl
  | str b =>
    rw [show v = _ from p]
    rfl
  | tup l =>
    obtain ⟨a, xs, e, _⟩ := p
    rw [e]
    rfl
  | lst l =>
    obtain ⟨a, xs, e, _⟩ := p
    rw [e]
    rfl
  | play l =>
    obtain ⟨a, dx, vi, vr, e, _⟩ := p
    rw [e]
    rfl
  | box a =>
    rw [show v = _ from p]
    rfl
  | ty a =>
    rw [show v = _ from p]
    rfl
theorem opd_isN : OpD X (compareOp .Is) d .non (.bl (isNon d)) := ⟨_, op_isN, fun M H x y Q m p1 p2 q => ⟨p2, q _ H (.refl _) (by rw [rep_non p1] <;> rfl)⟩⟩
theorem opd_notN : OpD X (compareOp .IsNot) d .non (.bl (!isNon d)) := ⟨_, op_notN, fun M H x y Q m p1 p2 q => ⟨p2, q _ H (.refl _) (by rw [rep_non p1] <;> rfl)⟩⟩
theorem opd_isB {i j : Bool} : OpD X (compareOp .Is) (.bl i) (.bl j) (.bl (decide (i = j))) := ⟨_, op_isBl, fun M H x y Q m p1 p2 q => ⟨i, j, p1, p2, q _ H (.refl _) rfl⟩⟩
theorem op_nonBl : OpR X (compareOp .Is) (fun x y H Q => ∃ b : Bool, x = .non ∧ y = .bl b ∧ Q (.bl false) H) := by
  intro pins s σ H x y v u Q I rx ry h
  obtain ⟨b, rfl, rfl, q⟩ := h
  cases (show v = Value.none from rx)
  cases (show u = Value.bool b from ry)
  exact wpAny_is_other rfl (fun z => by cases z) ⟨.bl false, H, I, rfl, q⟩
theorem opd_nonB {j : Bool} : OpD X (compareOp .Is) .non (.bl j) (.bl false) := ⟨_, op_nonBl, fun M H x y Q m p1 p2 q => ⟨j, p1, p2, q _ H (.refl _) rfl⟩⟩
/-! ### tuples -/
theorem opd_catT {l l' : List Dt} (hz : l.length + l'.length ≤ 10000) : OpD X (binaryOp .Add) (.tup l) (.tup l') (.tup (l ++ l')) := ⟨_, op_catA, fun M H x y Q m p1 p2 q => by
  obtain ⟨a, xs, rfl, s1, r1⟩ := p1
  obtain ⟨b, ys, rfl, s2, r2⟩ := p2
  refine ⟨a, b, xs, ys, rfl, rfl, s1, s2, Nat.le_trans (by rw [r1.length, r2.length]; exact hz) (by decide), fun e => q _ H (.refl _) ?_, fun e e' => q _ H (.refl _) ?_, fun e e' p hp => q _ _ (same_up hp) ?_⟩
  · subst e
    have : l = [] := List.eq_nil_of_length_eq_zero r1.length.symm
    subst this
    exact ⟨b, ys, rfl, s2, r2⟩
  · subst e'
    have : l' = [] := List.eq_nil_of_length_eq_zero r2.length.symm
    subst this
    exact ⟨a, xs, rfl, s1, by rwa [List.append_nil]⟩
  · exact rep_tup hp (r1.append r2)⟩
theorem opd_repT {l : List Dt} {k : Int} (hl : l ≠ []) (h2 : 2 ≤ k) (h3 : k ≤ 1000) (hz : l.length ≤ 1000) : OpD X (binaryOp .Mult) (.tup l) (.int k) (.tup (List.replicate k.toNat l).flatten) := ⟨_, op_repT, fun M H x y Q m p1 p2 q => by
  obtain ⟨a, xs, rfl, s1, r1⟩ := p1
  refine ⟨a, k, xs, rfl, p2, s1, fun e => hl ?_, h2, h3, by rw [r1.length]; exact hz, fun p hp => q _ _ (same_up hp) (rep_tup hp (r1.rep _))⟩
  subst e
  exact List.eq_nil_of_length_eq_zero r1.length.symm⟩
/-! ### equality of data at any depth -/
mutual
def py : Dt → PyData
  | .non => .none
  | .bl b => .bool b
  | .int i => .int i
  | .str x => .str x
  | .tup l => .tuple (pys l)
  | .lst l => .list (pys l)
  | .play _ => .none
  | .box _ => .none
  | .ty _ => .none
def pys : List Dt → List PyData
  | [] => []
  | d :: ds => py d :: pys ds
end
mutual
/-- data that == compares, at most n deep, its texts well made -/
def shp : Nat → Dt → Bool
  | _, .non => true
  | _, .bl _ => true
  | _, .int _ => true
  | _, .str x => (PyData.str x).canLay0
  | n + 1, .tup l => shps n l
  | n + 1, .lst l => shps n l
  | _, _ => false
def shps : Nat → List Dt → Bool
  | _, [] => true
  | n, d :: ds => shp n d && shps n ds
end
mutual
theorem shp_ok : ∀ (n : Nat) (d : Dt), shp n d = true → (py d).canLay0 = true ∧ (py d).depth ≤ n
  | _, .non, _ => ⟨rfl, Nat.zero_le _⟩
  | _, .bl _, _ => ⟨rfl, Nat.zero_le _⟩
  | _, .int _, _ => ⟨rfl, Nat.zero_le _⟩
  | _, .str x, h => ⟨by cases ‹Nat› <;> exact h, Nat.zero_le _⟩
  | 0, .tup _, h => by cases h
  | 0, .lst _, h => by cases h
  | n + 1, .tup l, h => let ⟨h1, h2⟩ := shps_ok n l h; ⟨h1, Nat.succ_le_succ h2⟩
  | n + 1, .lst l, h => let ⟨h1, h2⟩ := shps_ok n l h; ⟨h1, Nat.succ_le_succ h2⟩
  | n, .play _, h => by cases n <;> cases h
  | n, .box _, h => by cases n <;> cases h
  | n, .ty _, h => by cases n <;> cases h
theorem shps_ok : ∀ (n : Nat) (ds : List Dt), shps n ds = true → PyData.canLayAll0 (pys ds) = true ∧ PyData.depthAll (pys ds) ≤ n
  | _, [], _ => ⟨rfl, Nat.zero_le _⟩
  | n, d :: ds, h => by
    have h' := Bool.and_eq_true_iff.mp (show (shp n d && shps n ds) = true from h)
    obtain ⟨a1, a2⟩ := shp_ok n d h'.1
    obtain ⟨b1, b2⟩ := shps_ok n ds h'.2
    exact ⟨Bool.and_eq_true_iff.mpr ⟨a1, b1⟩, Nat.max_le.mpr ⟨a2, b2⟩⟩
end
mutual
theorem rep_dp {K : PySem.W.Frag} {M : List Addr} {H : Hp} : ∀ (n : Nat) (d : Dt) (v : V), shp n d = true → Rep K M H d v → Dp K H v (py d)
  | _, .non, v, _, p => by rw [show v = _ from p]; exact .non
  | _, .bl b, v, _, p => by rw [show v = _ from p]; exact .bl b
  | _, .int b, v, _, p => by rw [show v = _ from p]; exact .int b
  | _, .str b, v, _, p => by rw [show v = _ from p]; exact .str b
  | 0, .tup _, _, h, _ => by cases h
  | 0, .lst _, _, h, _ => by cases h
  | n + 1, .tup l, v, h, p => by
    obtain ⟨a, xs, e, s, r⟩ := p
    rw [e]
    exact .tup s (reps_dp n l xs h r)
  | n + 1, .lst l, v, h, p => by
    obtain ⟨a, xs, e, s, _, r⟩ := p
    rw [e]
    exact .lst (.inl s) (reps_dp n l xs h r)
  | n, .play _, _, h, _ => by cases n <;> cases h
  | n, .box _, _, h, _ => by cases n <;> cases h
  | n, .ty _, _, h, _ => by cases n <;> cases h
theorem reps_dp {K : PySem.W.Frag} {M : List Addr} {H : Hp} : ∀ (n : Nat) (ds : List Dt) (vs : List V), shps n ds = true → Reps K M H ds vs → DpAll K H vs (pys ds)
  | _, [], _, _, p => by rw [show _ = _ from p]; exact .nil
  | n, d :: ds, vs, h, p => by
    obtain ⟨x, r, e, h1, h2⟩ := p
    have h' := Bool.and_eq_true_iff.mp (show (shp n d && shps n ds) = true from h)
    rw [e]
    exact .cons (rep_dp n d x h'.1 h1) (reps_dp n ds r h'.2 h2)
end
theorem shp_shaped {n : Nat} (hn : n ≤ 64) (h : shp n d = true) : SeqAt.shaped (py d) = true := by
  obtain ⟨h1, h2⟩ := shp_ok n d h
  unfold SeqAt.shaped
  rw [h1, decide_eq_true (Nat.le_trans h2 hn)] <;> rfl
def eqv (a b : Dt) : Bool := PyData.eqv (py a) (py b)
theorem opd_eqD (hu : X.A.units + 64 < cLine) (n : Nat) (h1 : shp n da = true) (h2 : shp n db = true) (hn : n ≤ 64 := by decide) : OpD X (compareOp .Eq) da db (.bl (eqv da db)) := ⟨_, op_eqD hu, fun M H x y Q m p1 p2 q =>
  ⟨_, _, rep_dp n _ _ h1 p1, rep_dp n _ _ h2 p2, shp_shaped hn h1, shp_shaped hn h2, q _ H (.refl _) rfl⟩⟩
theorem pys_any (f : PyData → Bool) : ∀ l : List Dt, (pys l).any f = l.any fun d => f (py d)
  | [] => rfl
  | d :: ds => by
    show (f (py d) || (pys ds).any f) = _
    rw [pys_any f ds] <;> rfl
theorem opd_notInD {l : List Dt} (hu : X.A.units + 65 < cLine) (n : Nat) (h1 : shp n d = true) (h2 : shp n (.lst l) = true) (hn : n ≤ 64 := by decide) : OpD X (compareOp .NotIn) d (.lst l) (.bl (!l.any fun z => eqv z d)) := ⟨_, op_notInD hu, fun M H x y Q m p1 p2 q =>
  ⟨py d, pys l, rep_dp n _ _ h1 p1, rep_dp n _ _ h2 p2, shp_shaped hn h1, shp_shaped hn h2, q _ H (.refl _) (by
    rw [pys_any] <;> rfl)⟩⟩
/-! ### in, of flat items -/
def flD : Dt → Bool
  | .non => true
  | .bl _ => true
  | .int _ => true
  | .str _ => true
  | _ => false
def flV : Dt → V
  | .bl b => .bl b
  | .int b => .int b
  | .str b => .str b
  | _ => .non
theorem rep_fl {K : PySem.W.Frag} {M : List Addr} {H : Hp} {v : V} (f : flD d = true) (p : Rep K M H d v) : v = flV d ∧ flatV v = true := by
  cases d with
  | non => exact ⟨p, by rw [show v = _ from p] <;> rfl⟩
  | bl b => exact ⟨p, by rw [show v = _ from p] <;> rfl⟩
  | int b => exact ⟨p, by rw [show v = _ from p] <;> rfl⟩
  | str b => exact ⟨p, by rw [show v = _ from p] <;> rfl⟩
  | _ => cases f
theorem reps_fl {K : PySem.W.Frag} {M : List Addr} {H : Hp} : ∀ {ds : List Dt} {vs : List V}, ds.all flD = true → Reps K M H ds vs → vs = ds.map flV ∧ vs.all flatV = true
  | [], _, _, p => ⟨p, by rw [show _ = _ from p] <;> rfl⟩
  | d :: ds, vs, f, p => by
    obtain ⟨x, r, e, h1, h2⟩ := p
    have h' := Bool.and_eq_true_iff.mp (show (flD d && ds.all flD) = true from f)
    obtain ⟨a1, a2⟩ := rep_fl h'.1 h1
    obtain ⟨b1, b2⟩ := reps_fl h'.2 h2
    subst e
    exact ⟨by rw [a1, b1] <;> rfl, Bool.and_eq_true_iff.mpr ⟨a2, b2⟩⟩
theorem opd_inT {l : List Dt} (h1 : flD d = true) (h2 : l.all flD = true) : OpD X (compareOp .In) d (.tup l) (.bl (inV (flV d) (l.map flV))) := ⟨_, op_in_seq, fun M H x y Q m p1 p2 q => by
  obtain ⟨a, xs, rfl, s, r⟩ := p2
  obtain ⟨e1, f1⟩ := rep_fl h1 p1
  obtain ⟨e2, f2⟩ := reps_fl h2 r
  exact ⟨a, xs, rfl, .inr s, f1, f2, q _ H (.refl _) (by rw [e1, e2] <;> rfl)⟩⟩
theorem opd_inL {l : List Dt} (h1 : flD d = true) (h2 : l.all flD = true) : OpD X (compareOp .In) d (.lst l) (.bl (inV (flV d) (l.map flV))) := ⟨_, op_in_seq, fun M H x y Q m p1 p2 q => by
  obtain ⟨a, xs, rfl, s, _, r⟩ := p2
  obtain ⟨e1, f1⟩ := rep_fl h1 p1
  obtain ⟨e2, f2⟩ := reps_fl h2 r
  exact ⟨a, xs, rfl, .inl (.inl s), f1, f2, q _ H (.refl _) (by rw [e1, e2] <;> rfl)⟩⟩
theorem opd_notInT {l : List Dt} (h1 : flD d = true) (h2 : l.all flD = true) : OpD X (compareOp .NotIn) d (.tup l) (.bl (!inV (flV d) (l.map flV))) := ⟨_, op_notIn_seq, fun M H x y Q m p1 p2 q => by
  obtain ⟨a, xs, rfl, s, r⟩ := p2
  obtain ⟨e1, f1⟩ := rep_fl h1 p1
  obtain ⟨e2, f2⟩ := reps_fl h2 r
  exact ⟨a, xs, rfl, .inr s, f1, f2, q _ H (.refl _) (by rw [e1, e2] <;> rfl)⟩⟩
/-! ### calls -/
theorem calld_lenT {l : List Dt} : CallD X (.builtin "len") [.tup l] (.int (l.length : Nat)) := ⟨_, call_len_seq, fun M H xs Q m p q => by
  obtain ⟨x, r, rfl, ⟨a, ys, rfl, s, rr⟩, e⟩ := p
  rw [show r = _ from e]
  exact ⟨a, ys, rfl, .inr s, q _ H (.refl _) (by rw [rr.length] <;> rfl)⟩⟩
theorem calld_lenL {l : List Dt} : CallD X (.builtin "len") [.lst l] (.int (l.length : Nat)) := ⟨_, call_len_seq, fun M H xs Q m p q => by
  obtain ⟨x, r, rfl, ⟨a, ys, rfl, s, _, rr⟩, e⟩ := p
  rw [show r = _ from e]
  exact ⟨a, ys, rfl, .inl (.inl s), q _ H (.refl _) (by rw [rr.length] <;> rfl)⟩⟩
theorem reps_bls {K : PySem.W.Frag} {M : List Addr} {H : Hp} : ∀ {bs : List Bool} {vs : List V}, Reps K M H (bs.map Dt.bl) vs → vs = bs.map V.bl
  | [], _, p => p
  | b :: bs, vs, p => by
    obtain ⟨x, r, rfl, h1, h2⟩ := p
    rw [show x = _ from h1, reps_bls h2] <;> rfl
theorem calld_all {bs : List Bool} (hc : X.calm = true) : CallD X (.builtin "all") [.lst (bs.map Dt.bl)] (.bl (bs.all id)) := ⟨_, cr_all hc, fun M H xs Q m p q => by
  obtain ⟨x, r, rfl, ⟨a, ys, rfl, s, _, rr⟩, e⟩ := p
  rw [show r = _ from e]
  exact ⟨a, bs, rfl, .inl (by rwa [reps_bls rr] at s), q _ H (.refl _) rfl⟩⟩
theorem calld_tupL {l : List Dt} : CallD X (.type "tuple") [.lst l] (.tup l) := ⟨_, call_tuple_of, fun M H xs Q m p q => by
  obtain ⟨x, r, rfl, ⟨a, ys, rfl, s, _, rr⟩, e⟩ := p
  rw [show r = _ from e]
  exact ⟨a, ys, rfl, .inl ⟨.inl s, fun p hp => q _ _ (same_up hp) (rep_tup hp rr)⟩⟩⟩
theorem calld_tupT {l : List Dt} : CallD X (.type "tuple") [.tup l] (.tup l) := ⟨_, call_tuple_of, fun M H xs Q m p q => by
  obtain ⟨x, r, rfl, ⟨a, ys, rfl, s, rr⟩, e⟩ := p
  rw [show r = _ from e]
  exact ⟨a, ys, rfl, .inr ⟨s, q _ H (.refl _) ⟨a, ys, rfl, s, rr⟩⟩⟩⟩
theorem calld_int {i : Int} : CallD X (.type "int") [.int i] (.int i) := ⟨_, call_int1, fun M H xs Q m p q => by
  obtain ⟨x, r, rfl, h1, e⟩ := p
  rw [show r = _ from e, show x = _ from h1]
  exact .inl ⟨i, rfl, q _ H (.refl _) rfl⟩⟩
theorem calld_intB {k : Bool} : CallD X (.type "int") [.bl k] (.int (if k then 1 else 0)) := ⟨_, call_int1, fun M H xs Q m p q => by
  obtain ⟨x, r, rfl, h1, e⟩ := p
  rw [show r = _ from e, show x = _ from h1]
  exact .inr ⟨k, rfl, q _ H (.refl _) rfl⟩⟩
theorem calld_abs {i : Int} : CallD X (.builtin "abs") [.int i] (.int (if i < 0 then -i else i)) := ⟨_, call_abs, fun M H xs Q m p q => by
  obtain ⟨x, r, rfl, h1, e⟩ := p
  rw [show r = _ from e, show x = _ from h1]
  exact ⟨i, rfl, q _ H (.refl _) rfl⟩⟩
end
end Bs
set_option Elab.async false
set_option linter.all false
set_option maxRecDepth 100000
set_option maxHeartbeats 4000000
namespace Bs
open PySem PySem.Spec PyProof.Rows L2
theorem atI_rep {K : PySem.W.Frag} {M : List Addr} {H : Hp} {ds : List Dt} {vs : List V} {k : Int} {d : Dt} (r : Reps K M H ds vs) (h : atI ds k = some d) : ∃ v, atI vs k = some v ∧ Rep K M H d v := by
  unfold atI at h ⊢
  rw [r.length]
  cases e : ixN ds.length k with
  | none =>
    rw [e] at h
    cases h
  | some j =>
    rw [e] at h
    exact r.get h
def cutD (l : List Dt) (lo hi : Option Int) : List Dt := (l.drop (HT.sIx l.length 0 lo)).take (HT.sIx l.length l.length hi - HT.sIx l.length 0 lo)
theorem cut_rep {K : PySem.W.Frag} {M : List Addr} {H : Hp} {ds : List Dt} {vs : List V} {lo hi : Option Int} (r : Reps K M H ds vs) : Reps K M H (cutD ds lo hi) (cutV vs lo hi) := by
  unfold cutD cutV
  rw [r.length]
  exact (r.drop _).take _
theorem cut_all {l : List Dt} {lo hi : Option Int} (h : HT.sIx l.length 0 lo = 0 ∧ HT.sIx l.length l.length hi = l.length) : cutD l lo hi = l := by
  unfold cutD
  rw [h.1, h.2]
  simp
theorem cut_to (l : List Dt) (n : Nat) : cutD l none (some (n : Int)) = l.take n := by
  unfold cutD
  rw [HT.sIx_none, HT.sIx_nat]
  simp
theorem cut_from (l : List Dt) (n : Nat) : cutD l (some (n : Int)) none = l.drop n := by
  unfold cutD
  rw [HT.sIx_none, HT.sIx_nat, List.take_of_length_le (by rw [List.length_drop]; omega)]
  by_cases h : n ≤ l.length
  · rw [Nat.min_eq_left h]
  · rw [Nat.min_eq_right (by omega), List.drop_of_length_le (by omega), List.drop_of_length_le (by omega)]
/-- a part of a slice -/
structure EvO (X : Cx) (F : Fr) (e : Option Expr) (E : En) (o : Option Int) (E' : En) : Prop where
  fit : Fit E E'
  run : ∀ (pins : List (Addr × Obj)) (s : Shared) (σ : L2.St) (H : Hp) (Q : Option Int → Hp → Prop), Inv X pins σ H s → RepE X.K F H E σ →
    (∀ H', RepE X.K F H' E' σ → Off E.A H H' → Q o H') → wpAny (model X.prog X.w) X.A (evalPart e X.env) (fun u s' => ∃ o H', Inv X pins σ H' s' ∧ IsPart u o ∧ Q o H') X.xe s
def tO (X : Cx) (F : Fr) (e : Option Expr) : TO := fun σ H Q => ∃ E o E', RepE X.K F H E σ ∧ EvO X F e E o E' ∧ ∀ H', RepE X.K F H' E' σ → Off E.A H H' → Q o H'
/-- the dict from ints to ints -/
def look (kvs : List (Int × Int)) (k : Int) : Option Int := (kvs.find? fun p => decide (p.1 = k)).map (·.2)
theorem look_val (k : Int) : ∀ kvs : List (Int × Int), valV (kvs.map fun p => ((Sum.inl p.1 : Key), V.int p.2)) (.inl k) = (look kvs k).map V.int
  | [] => rfl
  | p :: r => by
    rw [List.map_cons]
    by_cases e : p.1 = k
    · rw [valV_pos (congrArg Sum.inl e)]
      unfold look
      rw [List.find?_cons_of_pos (by simpa using e)] <;> rfl
    · rw [valV_neg (fun z => e (Sum.inl.inj z)), look_val k r]
      unfold look
      rw [List.find?_cons_of_neg (by simpa using e)]
def putD (kvs : List (Int × Int)) (k v : Int) : List (Int × Int) :=
  if (kvs.any fun p => decide (p.1 = k)) = true then kvs.map (fun p => if p.1 = k then (p.1, v) else p) else kvs ++ [(k, v)]
theorem putD_put (kvs : List (Int × Int)) (k v : Int) : putK (kvs.map fun p => ((Sum.inl p.1 : Key), V.int p.2)) (.inl k) (.int v) = (putD kvs k v).map fun p => ((Sum.inl p.1 : Key), V.int p.2) := by
  unfold putK putD
  have e : ((kvs.map fun p => ((Sum.inl p.1 : Key), V.int p.2)).any fun kv => decide (kv.1 = Sum.inl k)) = kvs.any fun p => decide (p.1 = k) := by
    rw [List.any_map]
    congr 1
    funext p
    simp
  rw [e]
  split
  · rw [List.map_map, List.map_map]
    congr 1
    funext p
    by_cases h : p.1 = k
    · simp [h]
    · simp [h]
  · rw [List.map_append] <;> rfl
theorem look_put (kvs : List (Int × Int)) (k v j : Int) : look (putD kvs k v) j = if j = k then some v else look kvs j := by
  have h := valV_put (kvs.map fun p => ((Sum.inl p.1 : Key), V.int p.2)) (.inl k) (.inl j) (.int v)
  rw [putD_put, look_val, look_val] at h
  by_cases e : j = k
  · subst e
    rw [if_pos rfl] at h ⊢
    cases q : look (putD kvs j v) j with
    | none =>
      rw [q] at h
      cases h
    | some z =>
      rw [q] at h
      have : z = v := by simpa using h
      rw [this]
  · rw [if_neg (fun z => e (Sum.inl.inj z))] at h
    rw [if_neg e]
    cases q : look (putD kvs k v) j with
    | none =>
      rw [q] at h
      cases q2 : look kvs j with
      | none => rfl
      | some z =>
        rw [q2] at h
        cases h
    | some z =>
      rw [q] at h
      cases q2 : look kvs j with
      | none =>
        rw [q2] at h
        cases h
      | some z2 =>
        rw [q2] at h
        have : z = z2 := by simpa using h
        rw [this]
theorem putD_length (kvs : List (Int × Int)) (k v : Int) : (putD kvs k v).length ≤ kvs.length + 1 := by
  unfold putD
  split
  · rw [List.length_map]
    omega
  · rw [List.length_append] <;> exact Nat.le_refl _
section
variable {X : Cx} {F : Fr} {e a b c : Expr} {es : List Expr} {E E1 E2 E3 : En} {d da db dc : Dt} {ds : List Dt} {σ : L2.St} {H : Hp} {k k1 k2 : Bool} {pos p2 : Pos} {lo hi : Option Expr}
theorem po_ev {e : Option Expr} : PO X e (tO X F e) := ⟨fun pins s σ H Q I ⟨_, _, _, r, h, q⟩ => h.run pins s σ H Q I r q⟩
theorem evo_none : EvO X F none E none E := ⟨.refl _, fun pins s σ H Q I r q => L2.po_none.run pins s σ H Q I (q H r (.refl _ _))⟩
theorem evo_some {i : Int} (h : Ev X F e E (.int i) E1) : EvO X F (some e) E (some i) E1 := ⟨h.fit, fun pins s σ H Q I r q => (L2.po_some pe_ev).run pins s σ H Q I (tE_run h r fun v H' r1 o1 p => ⟨i, p, q H' r1 o1⟩)⟩
/-! ### subscripts -/
theorem ev_ixT {l : List Dt} {k : Int} (ha : Ev X F a E (.tup l) E1) (hb : Ev X F b E1 (.int k) E2) (h : atI l k = some d) (hs : PlainIx b := by intro _ _; rfl) : Ev X F (.Subscript a b pos) E d E2 :=
  ev_of (ha.fit.trans hb.fit) (pe_ix ix_tup pe_ev pe_ev hs) fun σ H q => t2 ha hb q fun x y H2 r2 o2 ⟨p, xs, e, s, rr⟩ p2 => let ⟨v, hv, rv⟩ := atI_rep rr h; ⟨p, xs, k, v, e, p2, s, hv, r2, o2, rv⟩
theorem ev_ixL {l : List Dt} {k : Int} (ha : Ev X F a E (.lst l) E1) (hb : Ev X F b E1 (.int k) E2) (h : atI l k = some d) (hs : PlainIx b := by intro _ _; rfl) : Ev X F (.Subscript a b pos) E d E2 :=
  ev_of (ha.fit.trans hb.fit) (pe_ix ix_list pe_ev pe_ev hs) fun σ H q => t2 ha hb q fun x y H2 r2 o2 ⟨p, xs, e, s, _, rr⟩ p2 => let ⟨v, hv, rv⟩ := atI_rep rr h; ⟨p, xs, k, v, e, p2, .inl s, hv, r2, o2, rv⟩
/-- of a list that may change -/
theorem ev_ixB {l : List Dt} {k : Int} {p : Addr} (ha : Ev X F a E (.box p) E1) (hb : Ev X F b E1 (.int k) E2) (hm : (p, Bx.l l) ∈ E2.μ) (h : atI l k = some d) (hs : PlainIx b := by intro _ _; rfl) : Ev X F (.Subscript a b pos) E d E2 :=
  ev_of (ha.fit.trans hb.fit) (pe_ix ix_list pe_ev pe_ev hs) fun σ H q => t2 ha hb q fun x y H2 r2 o2 p1 p2 => by
    obtain ⟨xs, ex, rr⟩ := (r2.box _ hm).2.2
    rw [hb.fit.M, ha.fit.M] at rr
    obtain ⟨v, hv, rv⟩ := atI_rep rr h
    exact ⟨p, xs, k, v, p1, p2, .of ex, hv, r2, o2, rv⟩
/-- d[k] of a dict that may change -/
theorem ev_ixD {kvs : List (Int × Int)} {k z : Int} {p : Addr} (hu : X.A.units + 1 < cLine) (ha : Ev X F a E (.box p) E1) (hb : Ev X F b E1 (.int k) E2) (hm : (p, Bx.d kvs) ∈ E2.μ) (h : look kvs k = some z) (hs : NoSl b := by intro _ _; rfl) : Ev X F (.Subscript a b pos) E (.int z) E2 :=
  ev_of (ha.fit.trans hb.fit) (pe_dget hu pe_ev pe_ev hs) fun σ H q => t2 ha hb q fun x y H2 r2 o2 p1 p2 => by
    have eb : H2 p = some (.dK (kvs.map fun p => ((Sum.inl p.1 : Key), V.int p.2))) := (r2.box _ hm).2.2
    rw [show x = _ from p1, show y = _ from p2]
    refine ⟨p, .int z, rfl, ?_, r2, o2, rfl⟩
    have g := DGet.k (k := Sum.inl k) eb
    rw [look_val, h] at g
    exact g
theorem ev_slT {l : List Dt} {i j : Option Int} (ha : Ev X F a E (.tup l) E1) (hl : EvO X F lo E1 i E2) (hh : EvO X F hi E2 j E3) : Ev X F (.Subscript a (.Slice lo hi none p2) pos) E (.tup (cutD l i j)) E3 :=
  ev_of ((ha.fit.trans hl.fit).trans hh.fit) (pe_slice sl_tupA pe_ev po_ev po_ev) fun σ H q => tE_run ha q fun x H1 r1 o1 p1 => ⟨E1, i, E2, r1, hl, fun H2 r2 o2 => ⟨E2, j, E3, r2, hh, fun H3 r3 o3 => by
    rw [ha.fit.A] at o2
    rw [hl.fit.A, ha.fit.A] at o3
    have oo := o2.trans o3
    obtain ⟨a, xs, rfl, s, rr⟩ := Rep.step (X := X) (M := []) ha.fit r1 (by rw [ha.fit.A]; exact oo) p1
    refine ⟨a, xs, rfl, s, fun hw => ⟨r3, o1.trans oo, a, xs, rfl, s, ?_⟩, fun hw p hp => ⟨r3.same (same_up hp), (o1.trans oo).trans (.of (same_up hp)), rep_tup hp (cut_rep rr)⟩⟩
    rw [rr.length] at hw
    rw [cut_all hw]
    exact rr⟩⟩
theorem ev_slL {l : List Dt} {i j : Option Int} (ha : Ev X F a E (.lst l) E1) (hl : EvO X F lo E1 i E2) (hh : EvO X F hi E2 j E3) : Ev X F (.Subscript a (.Slice lo hi none p2) pos) E (.lst (cutD l i j)) E3 :=
  ev_of ((ha.fit.trans hl.fit).trans hh.fit) (pe_slice sl_list pe_ev po_ev po_ev) fun σ H q => tE_run ha q fun x H1 r1 o1 p1 => ⟨E1, i, E2, r1, hl, fun H2 r2 o2 => ⟨E2, j, E3, r2, hh, fun H3 r3 o3 => by
    rw [ha.fit.A] at o2
    rw [hl.fit.A, ha.fit.A] at o3
    have oo := o2.trans o3
    obtain ⟨a, xs, rfl, s, n, rr⟩ := Rep.step (X := X) (M := []) ha.fit r1 (by rw [ha.fit.A]; exact oo) p1
    have m := r3.mok
    rw [hh.fit.M, hl.fit.M, ha.fit.M] at m
    exact ⟨a, xs, rfl, .inl s, fun p hp => ⟨r3.same (same_up hp), (o1.trans oo).trans (.of (same_up hp)), rep_lst m hp (cut_rep rr)⟩⟩⟩⟩
theorem ev_slB {l : List Dt} {i j : Option Int} {p : Addr} (ha : Ev X F a E (.box p) E1) (hl : EvO X F lo E1 i E2) (hh : EvO X F hi E2 j E3) (hm : (p, Bx.l l) ∈ E3.μ) : Ev X F (.Subscript a (.Slice lo hi none p2) pos) E (.lst (cutD l i j)) E3 :=
  ev_of ((ha.fit.trans hl.fit).trans hh.fit) (pe_slice sl_list pe_ev po_ev po_ev) fun σ H q => tE_run ha q fun x H1 r1 o1 p1 => ⟨E1, i, E2, r1, hl, fun H2 r2 o2 => ⟨E2, j, E3, r2, hh, fun H3 r3 o3 => by
    rw [ha.fit.A] at o2
    rw [hl.fit.A, ha.fit.A] at o3
    have oo := o2.trans o3
    obtain ⟨xs, ex, rr⟩ := (r3.box _ hm).2.2
    have m := r3.mok
    rw [hh.fit.M, hl.fit.M, ha.fit.M] at m rr
    exact ⟨p, xs, p1, .of ex, fun p hp => ⟨r3.same (same_up hp), (o1.trans oo).trans (.of (same_up hp)), rep_lst m hp (cut_rep rr)⟩⟩⟩⟩
/-! ### the play's fields -/
structure PlayK (K : PySem.W.Frag) : Prop where
  cl : Cls K (PC K)
  k : NoAttr K (PC K) "kind"
  i : NoAttr K (PC K) "inputs"
  r : NoAttr K (PC K) "rows"
theorem ev_kind (T : PlayK X.K) (ha : Ev X F a E (.play d) E1) (hb : attributeBase a "kind" X.env (eval a X.env) = eval a X.env := by rfl) : Ev X F (.Attribute a "kind" pos) E (.str "sweep") E1 :=
  ev_of ha.fit (pe_fld pe_ev hb) fun σ H q => tE_run ha q fun x H1 r1 o1 ⟨p, dx, vi, vr, e, h, q1, q2⟩ => ⟨p, _, dx, _, .str "sweep", e, h, T.cl, T.k, rfl, r1, o1, rfl⟩
theorem ev_inputs (T : PlayK X.K) (ha : Ev X F a E (.play d) E1) (hb : attributeBase a "inputs" X.env (eval a X.env) = eval a X.env := by rfl) : Ev X F (.Attribute a "inputs" pos) E d E1 :=
  ev_of ha.fit (pe_fld pe_ev hb) fun σ H q => tE_run ha q fun x H1 r1 o1 ⟨p, dx, vi, vr, e, h, q1, q2⟩ => ⟨p, _, dx, _, vi, e, h, T.cl, T.i, rfl, r1, o1, q1⟩
theorem ev_rows (T : PlayK X.K) (ha : Ev X F a E (.play d) E1) (hb : attributeBase a "rows" X.env (eval a X.env) = eval a X.env := by rfl) : Ev X F (.Attribute a "rows" pos) E d E1 :=
  ev_of ha.fit (pe_fld pe_ev hb) fun σ H q => tE_run ha q fun x H1 r1 o1 ⟨p, dx, vi, vr, e, h, q1, q2⟩ => ⟨p, _, dx, _, vr, e, h, T.cl, T.r, rfl, r1, o1, q2⟩
/-! ### isinstance -/
def tyD : Dt → Option String
  | .non => some "NoneType"
  | .bl _ => some "bool"
  | .int _ => some "int"
  | .str _ => some "str"
  | .tup _ => some "tuple"
  | .lst _ => some "list"
  | _ => none
theorem rep_ty {K : PySem.W.Frag} {M : List Addr} {H : Hp} {v : V} {n : String} (h : tyD d = some n) (p : Rep K M H d v) : TyX K H v (.type n) := by
  cases d with
  | non =>
    cases h
    rw [show v = _ from p]
    exact .base .non
  | bl b =>
    cases h
    rw [show v = _ from p]
    exact .base (.bl b)
  | int b =>
    cases h
    rw [show v = _ from p]
    exact .base (.int b)
  | str b =>
    cases h
    rw [show v = _ from p]
    exact .base (.str b)
  | tup l =>
    cases h
    obtain ⟨a, xs, e, s, _⟩ := p
    rw [e]
    rcases s with (s | ⟨o, s⟩) | ⟨o, its, n, s, c, _⟩
    · exact .base (.tup s)
    · exact .fTuple s
    · exact .kTuple s c
  | lst l =>
    cases h
    obtain ⟨a, xs, e, s, _⟩ := p
    rw [e]
    rcases s with s | ⟨o, s⟩
    · exact .base (.lst s)
    · exact .base (.frz s)
  | _ => cases h
theorem ev_isi {x : Str} {p p' : Pos} {T t : String} (ha : Ev X F a E d E1) (ht : tyD d = some t) (hk : kitB t T = some k) (hI : X.mg "isinstance" = none) (hm : X.mg x = none) (hv : bootBuiltins x = some (.type T)) (hg : Gl X "isinstance" := by rfl) (hgx : Gl X x := by rfl) (hn : x ≠ "__name__" := by decide) (hdb : (x == ("__debug__" : Str)) = false := by decide)
    (hs : starEach [a, .Name x p'] X.env = (false, eval a X.env) :: starEach [.Name x p'] X.env := by rfl) (hs2 : starEach [.Name x p'] X.env = (false, eval (.Name x p') X.env) :: starEach [] X.env := by rfl) (hpl : (backTo pos (starEach [.Name x p'] X.env)).any (·.1) = false := by rfl) :
    Ev X F (.Call (.Name "isinstance" p) [a, .Name x p'] [] pos) E (.bl k) E1 :=
  ev_of ha.fit (pe_callB call_isi hg hI boot_isinstance (pa_cons pe_ev (pa_cons (pe_bltn (v := .ty T) hgx hm hv rfl hn hdb) pa_nil hs2) hs) (by decide) (by decide) hs hpl) fun σ H q => tE_run ha q fun v H1 r1 o1 p1 =>
    ⟨v, .ty T, _, _, k, rfl, .ty T, rep_ty ht p1, kit_ty hk, r1, o1, rfl⟩
theorem ev_isi2 {x y : Str} {p p' p'' pt : Pos} {kt} {T U t : String} (ha : Ev X F a E d E1) (ht : tyD d = some t) (hk : kitB t T = some k1) (hk2 : kitB t U = some k2) (hI : X.mg "isinstance" = none) (hm : X.mg x = none) (hv : bootBuiltins x = some (.type T)) (hm2 : X.mg y = none) (hv2 : bootBuiltins y = some (.type U))
    (hg : Gl X "isinstance" := by rfl) (hgx : Gl X x := by rfl) (hgy : Gl X y := by rfl) (hn : x ≠ "__name__" := by decide) (hdb : (x == ("__debug__" : Str)) = false := by decide) (hn2 : y ≠ "__name__" := by decide) (hdb2 : (y == ("__debug__" : Str)) = false := by decide)
    (hs : starEach [a, .Tuple [.Name x p', .Name y p''] kt pt] X.env = (false, eval a X.env) :: starEach [.Tuple [.Name x p', .Name y p''] kt pt] X.env := by rfl)
    (hs2 : starEach [.Tuple [.Name x p', .Name y p''] kt pt] X.env = (false, eval (.Tuple [.Name x p', .Name y p''] kt pt) X.env) :: starEach [] X.env := by rfl)
    (hs3 : starEach [.Name x p', .Name y p''] X.env = (false, eval (.Name x p') X.env) :: starEach [.Name y p''] X.env := by rfl)
    (hs4 : starEach [.Name y p''] X.env = (false, eval (.Name y p'') X.env) :: starEach [] X.env := by rfl) (hpl : (backTo pos (starEach [.Tuple [.Name x p', .Name y p''] kt pt] X.env)).any (·.1) = false := by rfl) :
    Ev X F (.Call (.Name "isinstance" p) [a, .Tuple [.Name x p', .Name y p''] kt pt] [] pos) E (.bl (k1 || k2)) E1 :=
  ev_of ha.fit (pe_callB call_isiT hg hI boot_isinstance (pa_cons pe_ev (pa_cons (pe_tup (pa_cons (pe_bltn (v := .ty T) hgx hm hv rfl hn hdb) (pa_cons (pe_bltn (v := .ty U) hgy hm2 hv2 rfl hn2 hdb2) pa_nil hs4) hs3)) pa_nil hs2) hs) (by decide) (by decide) hs hpl) fun σ H q => tE_run ha q fun v H1 r1 o1 p1 =>
    ⟨by show 2 ≤ sizeLine; decide, fun tp htp => ⟨v, tp, [.ty T, .ty U], _, [.type T, .type U], k1 || k2, rfl, upd_same, .cons (.ty T) (.cons (.ty U) .nil), rep_ty ht (Rep.same (same_up htp) _ _ p1),
      kitAny_cons (kit_ty hk) (fun e => kitAny_cons (kit_ty hk2) (fun e2 => by rw [e, e2]; exact kitAny_nil) (fun e2 => by rw [e, e2] <;> rfl)) (fun e => by rw [e] <;> rfl), r1.same (same_up htp), o1.trans (.of (same_up htp)), rfl⟩⟩
end
end Bs
set_option Elab.async false
set_option linter.all false
set_option maxRecDepth 100000
set_option maxHeartbeats 4000000
namespace PySem
open Sem (wp)
open AutoSeq1 (wpAny_loadPart')
theorem meets_enumerate_newT (l : Addr) (items : Array Value) (n : Nat) (dct : Option Addr) (sl : Array (Option Value)) :
    Meets (Builtin.«enumerate.__new__» ⟨[.type "enumerate", .ref l], []⟩) (fun _ R s => s.heap.get? l = some { cls := .type "tuple", dict := dct, data := .seq items n, slots := sl } ∧
      R (.ok (.ret (.ref (s.heap.push { cls := .type "tuple_iterator", data := .fields #[.ref l, .int 0 0] }).objs.size)))
        { s with heap := (s.heap.push { cls := .type "tuple_iterator", data := .fields #[.ref l, .int 0 0] }).push { cls := .type "enumerate", data := .fields #[.none, .bool false, .ref s.heap.objs.size, rawInt 0, .none, .none] } }) :=
  .of_wp fun prog w A R s h => by
    obtain ⟨hp, g, d, tk, os⟩ := s; obtain ⟨hl, h⟩ := h
    have hsub := sub_enumerate
    have hL : Heap.IsTuple (Shared.heap ⟨hp, g, d, tk, os⟩) l items := ⟨_, hl, rfl, n, rfl⟩
    wp_walk using wpAny_loadPart' hl
    refine wpAny_stack_any fun st => wpAny_pure ?_
    split
    · rename_i c _ _ _ _ _
      cases (c == Value.type "enumerate")
      · wp_walk using wpAny_loadPart' hl, wpAny_pyIter_tuple hL
        exact ⟨_, rfl, h⟩
      · wp_walk using wpAny_loadPart' hl, wpAny_pyIter_tuple hL
        exact ⟨_, rfl, h⟩
    · wp_walk using wpAny_loadPart' hl, wpAny_pyIter_tuple hL
      exact ⟨_, rfl, h⟩
section
variable {prog : Program} {w : World} {A : Around} {E : Value → Shared → Prop} {s : Shared}
theorem call_enumerate_tuple {l : Addr} {items : Array Value} {Q : Value → Shared → Prop} (hL : s.heap.IsTuple l items)
    (h : ∀ h', IsEnum h' (s.heap.objs.size + 1) s.heap.objs.size 0 .none → h'.IsTupleIter s.heap.objs.size l 0 → h'.objs.size = s.heap.objs.size + 2 →
      (∀ b o, s.heap.get? b = some o → h'.get? b = some o) → Q (.ref (s.heap.objs.size + 1)) { s with heap := h' }) :
    wpAny (model prog w) A (call (.type "enumerate") [.ref l]) Q E s := by
  obtain ⟨⟨c, dct, dt, sl⟩, hl, hc, n, hd⟩ := hL
  replace hc : c = .type "tuple" := hc
  replace hd : dt = .seq items n := hd
  subst hc hd
  refine callType_new F.called_enumerate (by decide) (F.typeCall_enumerate_1 _) (F.newCall_enumerate_1 _) (fun obj => F.args_object_init_2 obj _) F.entry_enumerate_new
    (meets_enumerate_newT l items n dct sl) ⟨hl, ?_⟩
  have hz : (s.heap.push { cls := .type "tuple_iterator", data := .fields #[.ref l, .int 0 0] }).objs.size = s.heap.objs.size + 1 := Heap.size_push ..
  show _ ∧ _
  rw [hz]
  have he : IsEnum ((s.heap.push { cls := .type "tuple_iterator", data := .fields #[.ref l, .int 0 0] }).push
      { cls := .type "enumerate", data := .fields #[.none, .bool false, .ref s.heap.objs.size, rawInt 0, .none, .none] }) (s.heap.objs.size + 1) s.heap.objs.size 0 .none := by
    have := Heap.get?_push_size (s.heap.push { cls := .type "tuple_iterator", data := .fields #[.ref l, .int 0 0] })
      (o := { cls := .type "enumerate", data := .fields #[.none, .bool false, .ref s.heap.objs.size, rawInt 0, .none, .none] }) rfl
    rw [hz] at this; exact this
  refine ⟨⟨_, he, rfl⟩, h _ he ⟨_, Heap.get?_push_of_some _ (Heap.get?_push_size _ rfl), rfl, rfl⟩ (by rw [Heap.size_push, hz]) fun b o x => Heap.get?_push_of_some _ (Heap.get?_push_of_some _ x)⟩
theorem wpAny_pyNext_enum_endT {e it t : Addr} {i : Nat} {items : Array Value} {old : Value} {Q : Option Value → Shared → Prop} (hh : A.handled = none) (he : IsEnum s.heap e it i old) (hit : s.heap.IsTupleIter it t i) (ht : s.heap.IsTuple t items) (hn : items[i]? = none)
    (hQ : ∀ h', Heap.ExtBut it s.heap h' → Q none { s with heap := h' }) : wpAny (model prog w) A (pyNext (.ref e)) Q E s := by
  have hT : s.TypeIs (.ref e) "enumerate" := ⟨_, he, rfl⟩
  unfold pyNext
  refine wpAny_bind (wpAny_attempt (wpAny_callSpecial?_slot (name := Str.ofString "__next__") hT F.slot_enumerate_next
    (wpAny_call_entry F.slot_enumerate_next hT F.entry_enumerate_next ?_ (F.args_enumerate_next_1 _))))
  show wpAny _ _ (field (.ref e) 2 >>= _) _ _ _
  refine wpAny_bind (wpAny_field he rfl (x := .ref it) rfl ?_)
  refine wpAny_bind (wpAny_nextOf_tuple_end (show A.in1.handled = none from hh) hit ht hn fun h' x he' hx' => ?_)
  obtain ⟨o, ho, hc⟩ := hx'
  refine wpAny_bind (wpAny_isInstance (T := "StopIteration") (b := true) ⟨o, ho, hc⟩ isSubtype_stop ?_)
  exact wpAny_pure (hQ _ he')
end
end PySem
namespace L2
open PySem PySem.Spec PyProof.Rows
/-! ### enumerate(tuple) -/
def IteT (K : PySem.W.Frag) (a : Addr) : It :=
  ⟨fun i H => ∃ (xs : List V) (x : V), SqT K H a xs ∧ xs[i]? = some x, fun i H v H' => ∃ T x, v = .ref T ∧ H T = none ∧ H' = upd H T (.tup [.int (i : Nat), x]) ∧ ∀ xs, SqT K H a xs → xs[i]? = some x, fun i H => ∃ xs : List V, SqT K H a xs ∧ xs.length ≤ i⟩
theorem tup_ne_enum {h : Heap} {e it a : Addr} {k : Int} {old : Value} {its : Array Value} (he : IsEnum h e it k old) (p : IsTup h a its) : e ≠ a := fun z => by
  obtain ⟨o, ho, hc, n, hd⟩ := p
  rw [← z, show h.get? e = _ from he] at ho
  rw [← Option.some.inj ho] at hc
  exact absurd hc (by intro z; injection z with z; exact absurd z (by decide))
theorem tup_ne_iter {h : Heap} {it a : Addr} {i : Nat} {its : Array Value} (he : h.IsTupleIter it a i) (p : IsTup h a its) : a ≠ it := fun z => by
  obtain ⟨o, ho, hc, n, hd⟩ := p
  obtain ⟨o2, ho2, hc2, hd2⟩ := he
  rw [z, ho2] at ho
  rw [← Option.some.inj ho, hc2] at hc
  exact absurd hc (by intro z; injection z with z; exact absurd z (by decide))
theorem turn_enumT {P : Program} {w : World} {K : PySem.W.Frag} {elts : List Expr} {kk : Nat} {tpos : Pos} (a e it : Addr) :
    Turn P w K (.Tuple elts kk tpos) (IteT K a) [e, it] e (fun i h => (∃ old, IsEnum h e it ((i : Nat) : Int) old) ∧ h.IsTupleIter it a i ∧ e ≠ it) where
  mem := by simp
  obj := fun i h st b hb => by
    obtain ⟨⟨old, he⟩, ⟨o, ho, hc, hd⟩, _⟩ := st
    have e' : b = e ∨ b = it := by simpa using hb
    rcases e' with z | z
    · rw [z]; exact ⟨_, he, fun v q => nomatch q⟩
    · rw [z]; exact ⟨o, ho, fun v q => by rw [hd] at q; cases q⟩
  keep := fun i h h' st k => let ⟨⟨old, he⟩, hi, hne⟩ := st; ⟨⟨old, k e (by simp) _ he⟩, hi.at fun o q => k it (by simp) o q, hne⟩
  item := by
    intro X hP hw hK hc i pins s σ H E I hf st hg
    subst hP hw hK
    obtain ⟨⟨old, he⟩, hit, hne⟩ := st
    obtain ⟨xs, x, hq, hx⟩ := hg
    obtain ⟨its, rv, p, hz⟩ := I.tuple hq
    obtain ⟨u, hu, ru⟩ := rv.get hx
    have hel : e < s.heap.objs.size := Heap.lt_size he
    have hil : it < s.heap.objs.size := by obtain ⟨_, q, _⟩ := hit; exact Heap.lt_size q
    have hlt : i < its.toArray.size := by
      rw [List.size_toArray]
      exact (List.getElem?_eq_some_iff.mp hu).1
    have hea : e ≠ a := tup_ne_enum he p
    refine wpAny_pyNext_enum_itemD (Draws.tuple (A := X.A.in1) (show X.A.in1.handled = none from I.ok.hd hc) it a (tup_ne_iter hit p) its.toArray) he ⟨hit, p⟩ hlt hne (by simp [hne, hea]) fun x' h' tk hP ho hst hT hsz hk => ?_
    have ex : x' = u := Option.some.inj (hP.symm.trans (by simpa using hu))
    subst ex
    refine ⟨_, rfl, wpAny_letOwnedTupleGo_enum (s := { s with heap := h', toks := tk + 1 }) ho fun h'' he' sb => ?_⟩
    have hT2 : h''.get? s.heap.objs.size = some { cls := .type "tuple", data := .seq #[.int i tk, x'] } := (sb.2 _ (Nat.ne_of_gt hel)).trans hT
    have new : ObjOk X.prog X.w (upd H s.heap.objs.size (.tup [.int (i : Nat), x])) h'' s.heap.objs.size (.tup [.int (i : Nat), x]) :=
      ⟨by show 2 ≤ sizeLine; decide, [.int i tk, x'], .cons ⟨_, rfl⟩ (.cons ru .nil), ⟨_, hT2, rfl, _, rfl⟩⟩
    have I1 : Inv X pins σ (upd H s.heap.objs.size (.tup [.int (i : Nat), x])) { s with heap := h'', toks := tk + 1 } :=
      I.turnedNew (ch := [e, it]) (fun b ob hb q => (sb.2 b (fun z => hb (by simp [z]))).trans (hk b ob (fun z => hb (by simp [z])) (fun z => hb (by simp [z])) q)) hf (Nat.le_refl _) new
    refine ⟨.ref s.heap.objs.size, _, I1, rfl, ⟨_, x, rfl, I.hok.fresh (Nat.le_refl _), rfl, fun ys hy => by rw [I.tuple_inj hy hq]; exact hx⟩, ⟨⟨x', ?_⟩, hst.1.at fun o q => (sb.2 it (Ne.symm hne)).trans q, hne⟩, fun b hb => ?_⟩
    · have e1 : ((i + 1 : Nat) : Int) = (i : Int) + 1 := by omega
      rw [e1]; exact he'
    · have hb' : b < s.heap.objs.size := by
        have e' : b = e ∨ b = it := by simpa using hb
        rcases e' with z | z
        · rw [z]; exact hel
        · rw [z]; exact hil
      rw [upd_ne (Nat.ne_of_lt hb')]
      exact (hf b hb).1
  done := by
    intro X hP hw hK hc i pins s σ H E I hf st hg
    subst hP hw hK
    obtain ⟨⟨old, he⟩, hit, hne⟩ := st
    obtain ⟨xs, hq, hx⟩ := hg
    obtain ⟨its, rv, p, hz⟩ := I.tuple hq
    obtain ⟨f0, f1, f2, f3, f4, f5⟩ := hf it (by simp)
    have hl := rv.length
    have hsize : its.toArray.size ≤ i := by
      rw [List.size_toArray]
      omega
    have hTn : its.toArray[i]? = none := by
      rw [Array.getElem?_eq_none]
      exact hsize
    exact wpAny_pyNext_enum_endT (I.ok.hd hc) he hit p hTn fun h' eb => ⟨rfl, I.turned (t' := s.toks) (fun b o hb q => eb b o hb q) f0 f1 f3 f4 f5⟩
  self := fun A i s Q E st h => let ⟨⟨_, he⟩, _⟩ := st; wpAny_pyIter_enum he h
def iEnumT (K : PySem.W.Frag) (ta : TA) : TI := fun σ H R => ta σ H fun vs H1 => ∃ a xs, vs = [.ref a] ∧ SqT K H1 a xs ∧ R (IteT K a) H1
theorem pi_enumT {X : Cx} {e : Expr} {ta : TA} {p pos tpos : Pos} {elts : List Expr} {kk : Nat} (hg : Gl X "enumerate") (hm : X.mg "enumerate" = none) (ha : PA X [e] ta) (hs : starEach [e] X.env = [(false, eval e X.env)] := by rfl) :
    PI X (.Tuple elts kk tpos) (.Call (.Name "enumerate" p) [e] [] pos) (iEnumT X.K ta) := by
  refine ⟨fun pins s σ H R I h => ?_⟩
  refine Call_ (ld_blt I hg hm boot_enumerate (PyProof.Rows.callWith_type1 (thn (ha.run pos pins s σ H _ I h) fun us s1 ⟨vs, H1, I1, r1, q1⟩ => ?_) hs rfl))
  obtain ⟨a, xs, ex, hq, q⟩ := q1
  subst ex
  cases r1 with
  | cons r rr =>
    cases rr
    cases r
    obtain ⟨its, rv, p', hz⟩ := I1.tuple hq
    refine call_enumerate_tuple p' fun h' he hit hsz hk => wpAny_pyIter_enum he ?_
    have I2 : Inv X pins σ H1 { s1 with heap := h' } := I1.kept (t' := s1.toks) hk
    refine ⟨s1.heap.objs.size + 1, [s1.heap.objs.size + 1, s1.heap.objs.size], _, _, H1, rfl, I2, turn_enumT a (s1.heap.objs.size + 1) s1.heap.objs.size, ⟨⟨.none, he⟩, hit, Nat.succ_ne_self _⟩, fun b hb => ?_, q⟩
    have e' : b = s1.heap.objs.size + 1 ∨ b = s1.heap.objs.size := by simpa using hb
    have hle : s1.heap.objs.size ≤ b := by
      rcases e' with z | z
      · rw [z]; exact Nat.le_add_right _ _
      · rw [z]; exact Nat.le_refl _
    exact I1.fpOk hle (I1.hok.fresh hle)
end L2
set_option Elab.async false
set_option linter.all false
set_option maxRecDepth 100000
set_option maxHeartbeats 4000000
namespace Bs
open PySem PySem.Spec PyProof.Rows L2
/-! ### calls of the text's own defs -/
/-- a def that changes nothing that stands: R its arguments and its value -/
def spR (K : PySem.W.Frag) (R : List Dt → Dt → Prop) : Sp := fun vs H Q _ => ∃ M ds d, MOk M H ∧ Reps K M H ds vs ∧ R ds d ∧ ∀ v H', Same H H' → Rep K M H' d v → Q v H'
/-- .. that may change the list that its first argument is -/
def spB (K : PySem.W.Frag) (R : List Dt → List Dt → Dt → List Dt → Prop) : Sp := fun vs H Q _ => ∃ M a c ds d c' xs vs', MOk M H ∧ a ∈ M ∧ vs = .ref a :: vs' ∧ Reps K M H ds vs' ∧ H a = some (.lst xs) ∧ Reps K M H c xs ∧ R ds c d c' ∧
  ∀ v H' xs', Off [a] H H' → H' a = some (.lst xs') → Reps K M H' c' xs' → Rep K M H' d v → Q v H'
structure Pf (P : Program) (w : World) (K : PySem.W.Frag) (mg : Str → Option Value) (base : Heap) (x : Str) (k : Nat) (sp : Sp) : Prop where
  ex : ∃ (f : Addr) (fd : FuncData) (ps : List Str), FnOk P w K mg base CX0 k f fd ps sp ∧ mg x = some (.ref f) ∧ PySem.W.keepIn K (.ref f) = true ∧ Binds K fd ps []
section
variable {X : Cx} {F : Fr} {e a b c : Expr} {es : List Expr} {E E1 E2 E3 : En} {d da db dc : Dt} {ds : List Dt} {σ : L2.St} {H : Hp} {k k1 k2 : Bool} {pos p : Pos} {x : Str}
theorem ev_call {n : Nat} {R : List Dt → Dt → Prop} (T : Pf X.prog X.w X.K X.mg X.base x n (spR X.K R)) (hr : Room n X.A) (ha : EvA X F (e :: es) E ds E1) (h : R ds d) (hg : Gl X x := by rfl) (hdb : (x == ("__debug__" : Str)) = false := by decide)
    (he : starEach (e :: es) X.env = (false, eval e X.env) :: starEach es X.env := by rfl) (hpl : (backTo pos (starEach es X.env)).any (·.1) = false := by rfl) : Ev X F (.Call (.Name x p) (e :: es) [] pos) E d E1 :=
  let ⟨f, fd, ps, G, hm, hk, hb⟩ := T.ex; ev_of ha.fit (pe_call G hr hg hm hk hb .nil pass0 pa_ev hdb he hpl) fun σ H q => tA_run ha q fun vs H1 r1 o1 p1 => by
    have m := r1.mok
    rw [ha.fit.M] at m
    exact ⟨E.M, ds, d, m, by rw [List.append_nil]; exact p1, h, fun v H' sm rv => ⟨r1.same sm, o1.trans (.of sm), rv⟩⟩
end
/-! ### heaps and frames -/
theorem Fr.off (F : Fr) {a : Addr} {H H' : Hp} {o : HO} (h : F.st H) (al : F.al a) (f : Off [a] H H') (e : H' a = some o) : F.st H' :=
  F.same _ _ (F.put H a o h al) fun b x q => by
    by_cases z : b = a
    · rw [z, upd_same] at q
      rw [z, e, ← q]
    · rw [upd_ne z] at q
      exact f b x (by simpa using z) q
def setB (μ : List (Addr × Bx)) (a : Addr) (b : Bx) : List (Addr × Bx) := μ.map fun p => if p.1 = a then (a, b) else p
theorem setB_A (μ : List (Addr × Bx)) (a : Addr) (b : Bx) : (setB μ a b).map (·.1) = μ.map (·.1) := by
  unfold setB
  rw [List.map_map]
  congr 1
  funext p
  by_cases h : p.1 = a
  · simp [h]
  · simp [h]
section
variable {K : PySem.W.Frag} {F : Fr} {H H' : Hp} {E E' : En} {σ : L2.St}
theorem BxOk.off {M : List Addr} {a b : Addr} {x : Bx} (m : NT M H) (h : BxOk K M H b x) (f : Off [a] H H') (n : b ≠ a) (ha : a ∈ M) : BxOk K M H' b x := by
  cases x with
  | l ds =>
    obtain ⟨xs, e, r⟩ := h
    exact ⟨xs, f _ _ (by simpa using n) e, Reps.off m (f.mono fun z hz => by
      rw [List.mem_singleton.mp hz]
      exact ha) _ _ r⟩
  | d kvs => exact f _ _ (by simpa using n) h
/-- one mutable object is changed -/
theorem RepE.chg {a : Addr} {x x' : Bx} (r : RepE K F H E σ) (hm : (a, x) ∈ E.μ) (f : Off [a] H H') (ok : BxOk K E.M H' a x') : RepE K F H' ⟨E.M, E.ρ, setB E.μ a x'⟩ σ := by
  have ha := (r.box _ hm).1
  have hal := (r.box _ hm).2.1
  have ho : ∃ o, H' a = some o ∧ ((∃ xs, o = .lst xs) ∨ ∃ kvs, o = .dK kvs) := by
    cases x' with
    | l ds =>
      obtain ⟨xs, e, _⟩ := ok
      exact ⟨_, e, .inl ⟨xs, rfl⟩⟩
    | d kvs => exact ⟨_, ok, .inr ⟨_, rfl⟩⟩
  obtain ⟨o, eo, ho⟩ := ho
  have fm : Off E.M H H' := f.mono fun z hz => by
    rw [List.mem_singleton.mp hz]
    exact ha
  refine ⟨F.off r.st hal f eo, fun b hb => ?_, r.sub, r.len, fun i d e => (r.at_ i d e).imp fun v h => ⟨h.1, Rep.off r.mok.nt fm _ _ h.2⟩, fun p hp => ?_, ?_⟩
  · by_cases z : b = a
    · rw [z, eo]
      rcases ho with ⟨xs, rfl⟩ | ⟨xs, rfl⟩
      · exact .inl ⟨xs, rfl⟩
      · exact .inr ⟨xs, rfl⟩
    · exact (r.mok b hb).imp (fun ⟨xs, e⟩ => ⟨xs, f _ _ (by simpa using z) e⟩) fun ⟨xs, e⟩ => ⟨xs, f _ _ (by simpa using z) e⟩
  · obtain ⟨q, hq, e⟩ := List.mem_map.mp hp
    by_cases z : q.1 = a
    · rw [if_pos z] at e
      subst e
      exact ⟨ha, hal, ok⟩
    · rw [if_neg z] at e
      subst e
      obtain ⟨h1, h2, h3⟩ := r.box _ hq
      exact ⟨h1, h2, h3.off r.mok.nt f z ha⟩
  · show ((setB E.μ a x').map (·.1)).Nodup
    rw [setB_A]
    exact r.nd
/-- a new mutable object -/
theorem RepE.mask {D : Addr} {vs : List V} (r : RepE K F H E σ) (hD : H D = none) : RepE K F (upd H D (.lst vs)) ⟨D :: E.M, E.ρ, E.μ⟩ σ := by
  have sm := same_up (o := .lst vs) hD
  have r' := r.same sm
  refine ⟨r'.st, fun b hb => ?_, fun a ha => List.mem_cons_of_mem _ (r.sub a ha), r.len, fun i d e => (r.at_ i d e).imp fun v h => ⟨h.1, Rep.same sm _ _ (Rep.more hD h.2)⟩, fun p hp => ?_, r.nd⟩
  · rcases List.mem_cons.mp hb with z | z
    · rw [z]
      exact .inl ⟨vs, upd_same⟩
    · exact r'.mok b z
  · obtain ⟨h1, h2, h3⟩ := r.box p hp
    refine ⟨List.mem_cons_of_mem _ h1, h2, ?_⟩
    cases e : p.2 with
    | l ds =>
      rw [e] at h3
      obtain ⟨xs, e1, e2⟩ := h3
      exact ⟨xs, sm _ _ e1, Reps.same sm _ _ (Reps.more hD e2)⟩
    | d kvs =>
      rw [e] at h3
      exact sm _ _ h3
/-- what is masked besides is let go -/
theorem RepE.unmask {D : Addr} {M : List Addr} (r : RepE K F H ⟨D :: M, E.ρ, E.μ⟩ σ) (hs : ∀ a ∈ F.M0, a ∈ M) (hb : ∀ p ∈ E.μ, p.1 ∈ M) : RepE K F H ⟨M, E.ρ, E.μ⟩ σ := by
  have sb : ∀ a ∈ M, a ∈ (D :: M) := fun a ha => List.mem_cons_of_mem _ ha
  refine ⟨r.st, fun b hb => r.mok b (sb b hb), hs, r.len, fun i d e => (r.at_ i d e).imp fun v h => ⟨h.1, Rep.sub sb h.2⟩, fun p hp => ?_, r.nd⟩
  obtain ⟨h1, h2, h3⟩ := r.box p hp
  refine ⟨hb p hp, h2, ?_⟩
  cases e : p.2 with
  | l ds =>
    rw [e] at h3
    obtain ⟨xs, e1, e2⟩ := h3
    exact ⟨xs, e1, Reps.sub sb e2⟩
  | d kvs =>
    rw [e] at h3
    exact h3
end
/-! ### slots -/
def sets (σ : L2.St) : List Nat → List V → L2.St
  | i :: is, v :: vs => sets (σ.set i (some v)) is vs
  | _, _ => σ
def setsD (ρ : List (Option Dt)) : List Nat → List Dt → List (Option Dt)
  | i :: is, d :: ds => setsD (ρ.set i (some d)) is ds
  | _, _ => ρ
def wipeD (ρ : List (Option Dt)) : List Nat → List (Option Dt)
  | [] => ρ
  | v :: vs => (wipeD ρ vs).set v none
section
variable {K : PySem.W.Frag} {F : Fr} {H H' : Hp} {E E' : En} {σ : L2.St}
theorem RepE.put {i : Nat} {d : Dt} {v : V} (r : RepE K F H E σ) (h : Rep K E.M H d v) : RepE K F H ⟨E.M, E.ρ.set i (some d), E.μ⟩ (σ.set i (some v)) := by
  refine ⟨r.st, r.mok, r.sub, by rw [List.length_set, List.length_set]; exact r.len, fun j d' e => ?_, r.box, r.nd⟩
  have hl : j < (E.ρ.set i (some d)).length := (List.getElem?_eq_some_iff.mp e).1
  rw [List.length_set] at hl
  by_cases z : i = j
  · subst z
    have e1 : (E.ρ.set i (some d))[i]? = some (some d) := List.getElem?_set_self hl
    have e2 : d' = d := Option.some.inj (Option.some.inj (e.symm.trans e1))
    subst e2
    exact ⟨v, List.getElem?_set_self (by rw [← r.len]; exact hl), h⟩
  · have e1 : E.ρ[j]? = some (some d') := by
      have := e
      rwa [List.getElem?_set_ne z] at this
    rw [List.getElem?_set_ne z]
    exact r.at_ j d' e1
theorem RepE.sets : ∀ {is : List Nat} {ds : List Dt} {vs : List V} {E : En} {σ : L2.St}, RepE K F H E σ → Reps K E.M H ds vs → RepE K F H ⟨E.M, setsD E.ρ is ds, E.μ⟩ (sets σ is vs)
  | [], _, _, _, _, r, _ => r
  | i :: is, [], vs, _, _, r, h => by
    rw [show vs = [] from h]
    exact r
  | i :: is, d :: ds, _, E, σ, r, h => by
    obtain ⟨x, vs, rfl, h1, h2⟩ := h
    exact RepE.sets (E := ⟨E.M, E.ρ.set i (some d), E.μ⟩) (r.put h1) h2
theorem wipeD_get (ρ : List (Option Dt)) (i : Nat) (d : Dt) : ∀ vs : List Nat, (wipeD ρ vs)[i]? = some (some d) → i ∉ vs ∧ ρ[i]? = some (some d)
  | [], h => ⟨(fun z => nomatch z), h⟩
  | v :: vs, h => by
    have h' : ((wipeD ρ vs).set v none)[i]? = some (some d) := h
    by_cases z : v = i
    · subst z
      have hl := (List.getElem?_eq_some_iff.mp h').1
      rw [List.length_set] at hl
      rw [List.getElem?_set_self hl] at h'
      cases h'
    · rw [List.getElem?_set_ne z] at h'
      obtain ⟨h1, h2⟩ := wipeD_get ρ i d vs h'
      exact ⟨fun m => by
        rcases List.mem_cons.mp m with q | q
        · exact z q.symm
        · exact h1 q, h2⟩
theorem wipeD_length (ρ : List (Option Dt)) : ∀ vs : List Nat, (wipeD ρ vs).length = ρ.length
  | [] => rfl
  | v :: vs => by
    show ((wipeD ρ vs).set v none).length = _
    rw [List.length_set, wipeD_length ρ vs]
theorem RepE.wipe (r : RepE K F H E σ) (vs : List Nat) : RepE K F H ⟨E.M, wipeD E.ρ vs, E.μ⟩ (wipe σ vs) :=
  ⟨r.st, r.mok, r.sub, by rw [wipeD_length, wipe_length]; exact r.len, fun i d e => by
    obtain ⟨h1, h2⟩ := wipeD_get _ _ _ _ e
    rw [wipe_out h1]
    exact r.at_ i d h2, r.box, r.nd⟩
theorem sets_length : ∀ (is : List Nat) (vs : List V) (σ : L2.St), (sets σ is vs).length = σ.length
  | [], _, _ => by
    cases ‹List V› <;> rfl
  | i :: is, [], _ => rfl
  | i :: is, v :: vs, σ => by
    show (sets (σ.set i (some v)) is vs).length = _
    rw [sets_length is vs, List.length_set]
theorem sets_out {i : Nat} : ∀ {is : List Nat} {vs : List V} {σ : L2.St}, i ∉ is → (sets σ is vs)[i]? = σ[i]?
  | [], vs, _, _ => by
    cases vs <;> rfl
  | j :: is, [], _, _ => rfl
  | j :: is, v :: vs, σ, h => by
    show (sets (σ.set j (some v)) is vs)[i]? = _
    rw [sets_out (fun m => h (List.mem_cons_of_mem _ m)), List.getElem?_set_ne fun e => h (by rw [e]; exact List.mem_cons_self)]
theorem wipe_in {i : Nat} : ∀ {vs : List Nat} {σ : L2.St}, i ∈ vs → (wipe σ vs)[i]? = if i < σ.length then some none else none
  | v :: vs, σ, h => by
    show ((wipe σ vs).set v none)[i]? = _
    by_cases z : v = i
    · subst z
      by_cases hl : v < σ.length
      · rw [List.getElem?_set_self (by rw [wipe_length]; exact hl), if_pos hl]
      · rw [if_neg hl, List.getElem?_eq_none (by rw [List.length_set, wipe_length]; omega)]
    · rw [List.getElem?_set_ne z]
      rcases List.mem_cons.mp h with q | q
      · exact absurd q.symm z
      · exact wipe_in q
theorem wipe_sets {is vs : List Nat} {ws : List V} {σ : L2.St} (h : ∀ i ∈ is, i ∈ vs) : wipe (sets (wipe σ vs) is ws) vs = wipe σ vs := by
  refine List.ext_getElem? fun i => ?_
  by_cases m : i ∈ vs
  · rw [wipe_in m, wipe_in m, sets_length, wipe_length]
  · rw [wipe_out m, sets_out (fun z => m (h i z))]
end
/-- a target: what it stores of the data d into which slots -/
def Tgt (K : PySem.W.Frag) (g : TG) (is : List Nat) (d : Dt) (ds : List Dt) : Prop := ∀ (M : List Addr) (H : Hp) (v : V) (σ : L2.St) (Q : L2.St → Hp → Prop), Rep K M H d v → (∀ vs, Reps K M H ds vs → Q (sets σ is vs) H) → g v σ H Q
theorem tgt_name {K : PySem.W.Frag} {i : Nat} {d : Dt} : Tgt K (gName i) [i] d [d] := fun M H v σ Q r q => q [v] ⟨v, [], rfl, r, rfl⟩
/-- names, one behind another -/
def gNames : List Nat → TGs
  | [] => gNil
  | i :: is => gCons (gName i) (gNames is)
theorem gNames_run {Q : L2.St → Hp → Prop} {H : Hp} : ∀ {is : List Nat} {vs : List V} {σ : L2.St}, vs.length = is.length → Q (sets σ is vs) H → gNames is vs σ H Q
  | [], [], _, _, q => ⟨rfl, q⟩
  | i :: is, v :: vs, σ, l, q => ⟨v, vs, rfl, gNames_run (σ := σ.set i (some v)) (Nat.succ.inj l) q⟩
theorem tgt_tup {K : PySem.W.Frag} {is : List Nat} {ds : List Dt} {n : Nat} (hn : n = is.length) (hl : ds.length = is.length) : Tgt K (gTup K n (gNames is)) is (.tup ds) ds := fun M H v σ Q ⟨a, xs, e, s, r⟩ q =>
  ⟨a, xs, e, s, by rw [r.length, hl, hn], gNames_run (by rw [r.length, hl]) (q xs r)⟩
/-! ### what is walked -/
structure WalkD (K : PySem.W.Frag) (M : List Addr) (J : It) (H1 : Hp) (ys : List Dt) : Prop where
  go : ∀ (M' : List Addr) (i : Nat) (H : Hp), (∀ a ∈ M', a ∈ M ∨ H1 a = none) → i < ys.length → Off M' H1 H → J.go i H
  stop : ∀ (M' : List Addr) (H : Hp), (∀ a ∈ M', a ∈ M ∨ H1 a = none) → Off M' H1 H → J.stop ys.length H
  yld : ∀ (M' : List Addr) (i : Nat) (H : Hp) (x : V) (H' : Hp), (∀ a ∈ M', a ∈ M ∨ H1 a = none) → i < ys.length → Off M' H1 H → J.yld i H x H' → Same H H' ∧ ∃ d, ys[i]? = some d ∧ Rep K M' H' d x
structure EvI (X : Cx) (F : Fr) (tg iter : Expr) (E : En) (ys : List Dt) (E1 : En) : Prop where
  fit : Fit E E1
  ex : ∃ wi, PI X tg iter wi ∧ ∀ (σ : L2.St) (H : Hp) (R : It → Hp → Prop), RepE X.K F H E σ → (∀ J H1, RepE X.K F H1 E1 σ → Off E.A H H1 → WalkD X.K E.M J H1 ys → R J H1) → wi σ H R
theorem nt_of {M M' : List Addr} {H : Hp} (m : MOk M H) (h : ∀ a ∈ M', a ∈ M ∨ H a = none) : NT M' H := fun a ha o e => by
  rcases h a ha with z | z
  · exact m.nt a z o e
  · rw [z] at e
    cases e
theorem reps_more {K : PySem.W.Frag} {M M' : List Addr} {H : Hp} {ds : List Dt} {vs : List V} (h : ∀ a ∈ M', a ∈ M ∨ H a = none) (r : Reps K M H ds vs) : Reps K M' H ds vs :=
  Reps.re (fun a xs s n m => by
    rcases h a m with z | z
    · exact n z
    · exact rd_some s z) _ _ r
section
variable {K : PySem.W.Frag} {M : List Addr} {H1 : Hp} {ds es : List Dt} {xs ys : List V} {a b : Addr}
theorem off_notin {M' : List Addr} (h : ∀ a ∈ M', a ∈ M ∨ H1 a = none) {xs : List V} (n : a ∉ M) (s : Rd H1 a (.lst xs)) : a ∉ M' := fun m => by
  rcases h a m with z | z
  · exact n z
  · exact rd_some s z
theorem walk_lst (m : MOk M H1) (s : Rd H1 a (.lst xs)) (n : a ∉ M) (r : Reps K M H1 ds xs) : WalkD K M (Itl K a) H1 ds where
  go := fun M' i H h hi o => by
    have hx : i < xs.length := by rw [r.length]; exact hi
    exact ⟨xs, xs[i], .inl (rd_off (nt_of m h) o (off_notin h n s) s), List.getElem?_eq_getElem hx⟩
  stop := fun M' H h o => ⟨xs, .inl (rd_off (nt_of m h) o (off_notin h n s) s), by rw [r.length]; exact Nat.le_refl _⟩
  yld := fun M' i H x H' h hi o ⟨e, q⟩ => by
    subst e
    have hx := q xs (.inl (rd_off (nt_of m h) o (off_notin h n s) s))
    obtain ⟨v, hv, rv⟩ := Reps.get (reps_more h r) (List.getElem?_eq_getElem hi)
    have ev : v = x := Option.some.inj (hv.symm.trans hx)
    subst ev
    exact ⟨.refl _, ds[i], List.getElem?_eq_getElem hi, Rep.off (nt_of m h) o _ _ rv⟩
theorem walk_tp (m : MOk M H1) (s : SqT K H1 a xs) (r : Reps K M H1 ds xs) : WalkD K M (Itt K a) H1 ds where
  go := fun M' i H h hi o => by
    have hx : i < xs.length := by rw [r.length]; exact hi
    exact ⟨xs, xs[i], sqT_off (nt_of m h) o s, List.getElem?_eq_getElem hx⟩
  stop := fun M' H h o => ⟨xs, sqT_off (nt_of m h) o s, by rw [r.length]; exact Nat.le_refl _⟩
  yld := fun M' i H x H' h hi o ⟨e, q⟩ => by
    subst e
    have hx := q xs (sqT_off (nt_of m h) o s)
    obtain ⟨v, hv, rv⟩ := Reps.get (reps_more h r) (List.getElem?_eq_getElem hi)
    have ev : v = x := Option.some.inj (hv.symm.trans hx)
    subst ev
    exact ⟨.refl _, ds[i], List.getElem?_eq_getElem hi, Rep.off (nt_of m h) o _ _ rv⟩
/-- the ints lo, lo + 1, .. -/
def intsD (n : Nat) : List Dt := (List.range n).map fun i => Dt.int (i : Nat)
theorem intsD_length (n : Nat) : (intsD n).length = n := by
  unfold intsD
  rw [List.length_map, List.length_range]
theorem intsD_get {n i : Nat} (h : i < n) : (intsD n)[i]? = some (.int (i : Nat)) := by
  unfold intsD
  rw [List.getElem?_map, List.getElem?_range h] <;> rfl
theorem walk_rg {n : Nat} : WalkD K M (Itr 0 n) H1 (intsD n) where
  go := fun M' i H h hi o => by
    rw [intsD_length] at hi
    exact hi
  stop := fun M' H h o => by
    rw [intsD_length]
    exact Nat.le_refl n
  yld := fun M' i H x H' h hi o ⟨e, q⟩ => by
    subst e
    rw [intsD_length] at hi
    refine ⟨.refl _, _, intsD_get hi, ?_⟩
    rw [q, Int.zero_add]
    rfl
/-- pairs of a number and an item -/
def enumD (ds : List Dt) : List Dt := (List.range ds.length).map fun i => Dt.tup [.int (i : Nat), ds.getD i .non]
theorem enumD_length (ds : List Dt) : (enumD ds).length = ds.length := by
  unfold enumD
  rw [List.length_map, List.length_range]
theorem enumD_get {ds : List Dt} {i : Nat} {d : Dt} (h : ds[i]? = some d) : (enumD ds)[i]? = some (.tup [.int (i : Nat), d]) := by
  have hl := (List.getElem?_eq_some_iff.mp h).1
  unfold enumD
  rw [List.getElem?_map, List.getElem?_range hl, Option.map_some, List.getD_eq_getElem?_getD, h] <;> rfl
theorem rep_pair {K : PySem.W.Frag} {M : List Addr} {H : Hp} {T : Addr} {d d' : Dt} {x y : V} (n : H T = none) (r : Rep K M H d x) (r' : Rep K M H d' y) : Rep K M (upd H T (.tup [x, y])) (.tup [d, d']) (.ref T) :=
  rep_tup n ⟨x, [y], rfl, r, y, [], rfl, r', rfl⟩
theorem walk_enL (m : MOk M H1) (s : Rd H1 a (.lst xs)) (n : a ∉ M) (r : Reps K M H1 ds xs) : WalkD K M (Ite K a) H1 (enumD ds) where
  go := fun M' i H h hi o => by
    rw [enumD_length] at hi
    have hx : i < xs.length := by rw [r.length]; exact hi
    exact ⟨xs, xs[i], .inl (rd_off (nt_of m h) o (off_notin h n s) s), List.getElem?_eq_getElem hx⟩
  stop := fun M' H h o => ⟨xs, .inl (rd_off (nt_of m h) o (off_notin h n s) s), by rw [r.length, enumD_length]; exact Nat.le_refl _⟩
  yld := fun M' i H x H' h hi o ⟨T, y, e, nT, eH, q⟩ => by
    subst e eH
    rw [enumD_length] at hi
    have hx := q xs (.inl (rd_off (nt_of m h) o (off_notin h n s) s))
    obtain ⟨v, hv, rv⟩ := Reps.get (reps_more h r) (List.getElem?_eq_getElem hi)
    have ev : v = y := Option.some.inj (hv.symm.trans hx)
    subst ev
    exact ⟨same_up nT, _, enumD_get (List.getElem?_eq_getElem hi), rep_pair nT rfl (Rep.off (nt_of m h) o _ _ rv)⟩
theorem walk_enT (m : MOk M H1) (s : SqT K H1 a xs) (r : Reps K M H1 ds xs) : WalkD K M (IteT K a) H1 (enumD ds) where
  go := fun M' i H h hi o => by
    rw [enumD_length] at hi
    have hx : i < xs.length := by rw [r.length]; exact hi
    exact ⟨xs, xs[i], sqT_off (nt_of m h) o s, List.getElem?_eq_getElem hx⟩
  stop := fun M' H h o => ⟨xs, sqT_off (nt_of m h) o s, by rw [r.length, enumD_length]; exact Nat.le_refl _⟩
  yld := fun M' i H x H' h hi o ⟨T, y, e, nT, eH, q⟩ => by
    subst e eH
    rw [enumD_length] at hi
    have hx := q xs (sqT_off (nt_of m h) o s)
    obtain ⟨v, hv, rv⟩ := Reps.get (reps_more h r) (List.getElem?_eq_getElem hi)
    have ev : v = y := Option.some.inj (hv.symm.trans hx)
    subst ev
    exact ⟨same_up nT, _, enumD_get (List.getElem?_eq_getElem hi), rep_pair nT rfl (Rep.off (nt_of m h) o _ _ rv)⟩
/-- pairs of items -/
def zipD (ds es : List Dt) : List Dt := (ds.zip es).map fun p => Dt.tup [p.1, p.2]
theorem zipD_length (ds es : List Dt) : (zipD ds es).length = min ds.length es.length := by
  unfold zipD
  rw [List.length_map, List.length_zip]
theorem zipD_get {ds es : List Dt} {i : Nat} {d d' : Dt} (h : ds[i]? = some d) (h' : es[i]? = some d') : (zipD ds es)[i]? = some (.tup [d, d']) := by
  unfold zipD
  rw [List.getElem?_map, show (ds.zip es)[i]? = some (d, d') from List.getElem?_zip_eq_some.mpr ⟨h, h'⟩] <;> rfl
theorem walk_zpL (m : MOk M H1) (s : Rd H1 a (.lst xs)) (n : a ∉ M) (r : Reps K M H1 ds xs) (s' : Rd H1 b (.lst ys)) (n' : b ∉ M) (r' : Reps K M H1 es ys) : WalkD K M (Itz K a b) H1 (zipD ds es) where
  go := fun M' i H h hi o => by
    rw [zipD_length] at hi
    have hx : i < xs.length := by rw [r.length]; omega
    have hy : i < ys.length := by rw [r'.length]; omega
    exact ⟨xs, ys, xs[i], ys[i], .inl (rd_off (nt_of m h) o (off_notin h n s) s), .inl (rd_off (nt_of m h) o (off_notin h n' s') s'), List.getElem?_eq_getElem hx, List.getElem?_eq_getElem hy⟩
  stop := fun M' H h o => ⟨xs, ys, .inl (rd_off (nt_of m h) o (off_notin h n s) s), .inl (rd_off (nt_of m h) o (off_notin h n' s') s'), by rw [r.length, r'.length, zipD_length]; omega⟩
  yld := fun M' i H x H' h hi o ⟨T, y, z, e, nT, eH, q, q'⟩ => by
    subst e eH
    rw [zipD_length] at hi
    have hx := q xs (.inl (rd_off (nt_of m h) o (off_notin h n s) s))
    have hy := q' ys (.inl (rd_off (nt_of m h) o (off_notin h n' s') s'))
    have i1 : i < ds.length := by omega
    have i2 : i < es.length := by omega
    obtain ⟨v, hv, rv⟩ := Reps.get (reps_more h r) (List.getElem?_eq_getElem i1)
    obtain ⟨v', hv', rv'⟩ := Reps.get (reps_more h r') (List.getElem?_eq_getElem i2)
    have ev : v = y := Option.some.inj (hv.symm.trans hx)
    have ev' : v' = z := Option.some.inj (hv'.symm.trans hy)
    subst ev ev'
    exact ⟨same_up nT, _, zipD_get (List.getElem?_eq_getElem i1) (List.getElem?_eq_getElem i2), rep_pair nT (Rep.off (nt_of m h) o _ _ rv) (Rep.off (nt_of m h) o _ _ rv')⟩
theorem walk_zpT (m : MOk M H1) (s : SqT K H1 a xs) (r : Reps K M H1 ds xs) (s' : SqT K H1 b ys) (r' : Reps K M H1 es ys) : WalkD K M (RZ.ItzT K a b) H1 (zipD ds es) where
  go := fun M' i H h hi o => by
    rw [zipD_length] at hi
    have hx : i < xs.length := by rw [r.length]; omega
    have hy : i < ys.length := by rw [r'.length]; omega
    exact ⟨xs, ys, xs[i], ys[i], sqT_off (nt_of m h) o s, sqT_off (nt_of m h) o s', List.getElem?_eq_getElem hx, List.getElem?_eq_getElem hy⟩
  stop := fun M' H h o => ⟨xs, ys, sqT_off (nt_of m h) o s, sqT_off (nt_of m h) o s', by rw [r.length, r'.length, zipD_length]; omega⟩
  yld := fun M' i H x H' h hi o ⟨T, y, z, e, nT, eH, q, q'⟩ => by
    subst e eH
    rw [zipD_length] at hi
    have hx := q xs (sqT_off (nt_of m h) o s)
    have hy := q' ys (sqT_off (nt_of m h) o s')
    have i1 : i < ds.length := by omega
    have i2 : i < es.length := by omega
    obtain ⟨v, hv, rv⟩ := Reps.get (reps_more h r) (List.getElem?_eq_getElem i1)
    obtain ⟨v', hv', rv'⟩ := Reps.get (reps_more h r') (List.getElem?_eq_getElem i2)
    have ev : v = y := Option.some.inj (hv.symm.trans hx)
    have ev' : v' = z := Option.some.inj (hv'.symm.trans hy)
    subst ev ev'
    exact ⟨same_up nT, _, zipD_get (List.getElem?_eq_getElem i1) (List.getElem?_eq_getElem i2), rep_pair nT (Rep.off (nt_of m h) o _ _ rv) (Rep.off (nt_of m h) o _ _ rv')⟩
end
section
variable {X : Cx} {F : Fr} {e a b tg iter : Expr} {es : List Expr} {E E1 E2 E3 : En} {d da db dc : Dt} {ds ds' : List Dt} {pos p tpos : Pos} {elts : List Expr} {kk : Nat}
theorem evi_lst (h : Ev X F iter E (.lst ds) E1) : EvI X F tg iter E ds E1 := ⟨h.fit, _, pi_list pe_ev, fun σ H R r q => tE_run h r fun v H1 r1 o1 ⟨a, xs, e, s, n, rr⟩ => by
  have m := r1.mok
  rw [h.fit.M] at m
  exact ⟨a, e, ⟨xs, .inl s⟩, q _ H1 r1 o1 (walk_lst m s n rr)⟩⟩
theorem evi_tup (h : Ev X F iter E (.tup ds) E1) : EvI X F tg iter E ds E1 := ⟨h.fit, _, pi_tup pe_ev, fun σ H R r q => tE_run h r fun v H1 r1 o1 ⟨a, xs, e, s, rr⟩ => by
  have m := r1.mok
  rw [h.fit.M] at m
  exact ⟨a, e, ⟨xs, s⟩, q _ H1 r1 o1 (walk_tp m s rr)⟩⟩
theorem evi_range {n : Nat} (hm : X.mg "range" = none) (h : Ev X F a E (.int (n : Nat)) E1) (hn : n ≤ 100000) (hg : Gl X "range" := by rfl) (hs : starEach [a] X.env = [(false, eval a X.env)] := by rfl) : EvI X F tg (.Call (.Name "range" p) [a] [] pos) E (intsD n) E1 :=
  ⟨h.fit, _, pi_range1 hg hm (pa_cons pe_ev pa_nil hs) hs, fun σ H R r q => tE_run h r fun v H1 r1 o1 e => ⟨(n : Nat), by rw [show v = _ from e], by omega, by omega, q _ H1 r1 o1 (by rw [Int.toNat_natCast]; exact walk_rg)⟩⟩
theorem evi_range2 {n m : Nat} (hm : X.mg "range" = none) (h : Ev X F a E (.int (n : Nat)) E1) (h2 : Ev X F b E1 (.int (m : Nat)) E2) (hn : n ≤ 100000) (hn2 : m ≤ 100000) (hg : Gl X "range" := by rfl)
    (hs : starEach [a, b] X.env = [(false, eval a X.env), (false, eval b X.env)] := by rfl) (hs2 : starEach [b] X.env = [(false, eval b X.env)] := by rfl) :
    EvI X F tg (.Call (.Name "range" p) [a, b] [] pos) E ((List.range (m - n)).map fun i => Dt.int ((n + i : Nat) : Int)) E2 :=
  ⟨h.fit.trans h2.fit, _, pi_range2 hg hm (pa_cons pe_ev (pa_cons pe_ev pa_nil hs2) (by rw [hs, hs2])) hs hs2, fun σ H R r q => t2 h h2 r fun v u H1 r1 o1 e e2 => ⟨(n : Nat), (m : Nat), by rw [show v = _ from e, show u = _ from e2], ⟨by omega, by omega, by omega, by omega⟩, q _ H1 r1 o1 (by
    have en : ((m : Int) - (n : Int)).toNat = m - n := by omega
    rw [en]
    refine ⟨fun M' i H h hi o => ?_, fun M' H h o => ?_, fun M' i H x H' h hi o ⟨e, q⟩ => ?_⟩
    · rw [List.length_map, List.length_range] at hi
      exact hi
    · rw [List.length_map, List.length_range]
      exact Nat.le_refl (m - n)
    · subst e
      rw [List.length_map, List.length_range] at hi
      refine ⟨.refl _, _, by rw [List.getElem?_map, List.getElem?_range hi] <;> rfl, ?_⟩
      rw [q]
      exact congrArg V.int (by omega))⟩⟩
theorem evi_enumL (hm : X.mg "enumerate" = none) (h : Ev X F e E (.lst ds) E1) (hg : Gl X "enumerate" := by rfl) (hs : starEach [e] X.env = [(false, eval e X.env)] := by rfl) : EvI X F (.Tuple elts kk tpos) (.Call (.Name "enumerate" p) [e] [] pos) E (enumD ds) E1 :=
  ⟨h.fit, _, pi_enum hg hm (pa_cons pe_ev pa_nil hs) hs, fun σ H R r q => tE_run h r fun v H1 r1 o1 ⟨a, xs, e, s, n, rr⟩ => by
    have m := r1.mok
    rw [h.fit.M] at m
    exact ⟨a, xs, by rw [e], .inl s, q _ H1 r1 o1 (walk_enL m s n rr)⟩⟩
theorem evi_enumT (hm : X.mg "enumerate" = none) (h : Ev X F e E (.tup ds) E1) (hg : Gl X "enumerate" := by rfl) (hs : starEach [e] X.env = [(false, eval e X.env)] := by rfl) : EvI X F (.Tuple elts kk tpos) (.Call (.Name "enumerate" p) [e] [] pos) E (enumD ds) E1 :=
  ⟨h.fit, _, pi_enumT hg hm (pa_cons pe_ev pa_nil hs) hs, fun σ H R r q => tE_run h r fun v H1 r1 o1 ⟨a, xs, e, s, rr⟩ => by
    have m := r1.mok
    rw [h.fit.M] at m
    exact ⟨a, xs, by rw [e], s, q _ H1 r1 o1 (walk_enT m s rr)⟩⟩
theorem evi_zipL (hm : X.mg "zip" = none) (h : Ev X F a E (.lst ds) E) (h2 : Ev X F b E (.lst ds') E) (hg : Gl X "zip" := by rfl) (hs : starEach [a, b] X.env = (false, eval a X.env) :: starEach [b] X.env := by rfl) (hs2 : starEach [b] X.env = [(false, eval b X.env)] := by rfl)
    (hpl : (backTo pos (starEach [b] X.env)).any (·.1) = false := by rfl) : EvI X F (.Tuple elts kk tpos) (.Call (.Name "zip" p) [a, b] [] pos) E (zipD ds ds') E :=
  ⟨h.fit, _, RZ.pi_zipA hg hm (pa_cons pe_ev (pa_cons pe_ev pa_nil hs2) hs) hs hpl, fun σ H R r q => t2 h h2 r fun v u H1 r1 o1 ⟨a, xs, e, s, n, rr⟩ ⟨b, ys, e2, s2, n2, rr2⟩ =>
    ⟨a, b, xs, ys, by rw [e, e2], .inl ⟨.inl s, .inl s2, q _ H1 r1 o1 (walk_zpL r1.mok s n rr s2 n2 rr2)⟩⟩⟩
theorem evi_zipT (hm : X.mg "zip" = none) (h : Ev X F a E (.tup ds) E) (h2 : Ev X F b E (.tup ds') E) (hg : Gl X "zip" := by rfl) (hs : starEach [a, b] X.env = (false, eval a X.env) :: starEach [b] X.env := by rfl) (hs2 : starEach [b] X.env = [(false, eval b X.env)] := by rfl)
    (hpl : (backTo pos (starEach [b] X.env)).any (·.1) = false := by rfl) : EvI X F (.Tuple elts kk tpos) (.Call (.Name "zip" p) [a, b] [] pos) E (zipD ds ds') E :=
  ⟨h.fit, _, RZ.pi_zipA hg hm (pa_cons pe_ev (pa_cons pe_ev pa_nil hs2) hs) hs hpl, fun σ H R r q => t2 h h2 r fun v u H1 r1 o1 ⟨a, xs, e, s, rr⟩ ⟨b, ys, e2, s2, rr2⟩ =>
    ⟨a, b, xs, ys, by rw [e, e2], .inr ⟨s, s2, q _ H1 r1 o1 (walk_zpT r1.mok s rr s2 rr2)⟩⟩⟩
end
end Bs
set_option Elab.async false
set_option linter.all false
set_option maxRecDepth 100000
set_option maxHeartbeats 4000000
namespace Bs
open PySem PySem.Spec PyProof.Rows L2
/-- in every block of the comprehension with this scope -/
def Bk (X : Cx) (scope : Scope) (P : Cx → Prop) : Prop := ∀ (s : Shared) (H : Hp) (C : Addr) (cl : List (Str × Addr)) (fp : List Addr), P (X.blk s H scope (compEnvC scope cl C X.env) fp)
structure EvTs (X : Cx) (F : Fr) (ifs : List Expr) (E : En) (b : Bool) (E' : En) : Prop where
  fit : Fit E E'
  run : ∀ (pins : List (Addr × Obj)) (s : Shared) (σ : L2.St) (H : Hp) (Q : Bool → Hp → Prop), Inv X pins σ H s → RepE X.K F H E σ → (∀ H', RepE X.K F H' E' σ → Off E.A H H' → Q b H') →
    wpAny (model X.prog X.w) X.A (forIn ifs true fun c r => if r = true then do let ok ← isTrue c X.env (eval c X.env); pure (ForInStep.yield ok) else pure (ForInStep.yield r)) (TP X pins σ Q) X.xe s
theorem evts_nil {X : Cx} {F : Fr} {E : En} : EvTs X F [] E true E := ⟨.refl _, fun pins s σ H Q I r q => pts_nil.run pins s σ H Q I (q H r (.refl _ _))⟩
theorem evts_one {X : Cx} {F : Fr} {E E' : En} {c : Expr} {b : Bool} (h : EvT X F c E b E') : EvTs X F [c] E b E' := ⟨h.fit, fun pins s σ H Q I r q => (pts_one pt_ev).run pins s σ H Q I (tT_run h r q)⟩
def tBk (X : Cx) (F : Fr) (scope : Scope) (e : Expr) : TE := fun σ H Q => ∃ E d E', RepE X.K F H E σ ∧ Bk X scope (fun Y => Ev Y F e E d E') ∧ ∀ v H', RepE X.K F H' E' σ → Off E.A H H' → Rep X.K E.M H' d v → Q v H'
def tBkT (X : Cx) (F : Fr) (scope : Scope) (ifs : List Expr) : TT := fun σ H Q => ∃ E b E', RepE X.K F H E σ ∧ Bk X scope (fun Y => EvTs Y F ifs E b E') ∧ ∀ H', RepE X.K F H' E' σ → Off E.A H H' → Q b H'
section
variable {K : PySem.W.Frag} {F : Fr} {H H' : Hp} {σ σ' : L2.St} {M : List Addr} {ρ ρ' : List (Option Dt)} {μ μ' : List (Addr × Bx)} {D : Addr}
/-- the slots of the one, what is known of the mutable objects of the other -/
theorem RepE.mix (r : RepE K F H ⟨M, ρ, μ⟩ σ) (r' : RepE K F H' ⟨M, ρ', μ'⟩ σ') (o : Off M H H') : RepE K F H' ⟨M, ρ, μ'⟩ σ :=
  ⟨r'.st, r'.mok, r.sub, r.len, fun i d e => (r.at_ i d e).imp fun v h => ⟨h.1, Rep.off r.mok.nt o _ _ h.2⟩, r'.box, r'.nd⟩
/-- the list that is being made grows -/
theorem RepE.acc {vs ws : List V} (r : RepE K F H ⟨D :: M, ρ, μ⟩ σ) (al : F.al D) (hD : H D = some (.lst vs)) (n : D ∉ μ.map (·.1)) : RepE K F (upd H D (.lst ws)) ⟨D :: M, ρ, μ⟩ σ := by
  have o : Off [D] H (upd H D (.lst ws)) := fun b x m e => by
    rw [upd_ne (by simpa using m)]
    exact e
  have o' : Off (D :: M) H (upd H D (.lst ws)) := o.mono fun a ha => by
    rw [List.mem_singleton.mp ha]
    exact List.mem_cons_self
  refine ⟨F.put _ _ _ r.st al, fun b hb => ?_, r.sub, r.len, fun i d e => (r.at_ i d e).imp fun v h => ⟨h.1, Rep.off r.mok.nt o' _ _ h.2⟩, fun p hp => ?_, r.nd⟩
  · by_cases z : b = D
    · rw [z]
      exact .inl ⟨ws, upd_same⟩
    · rw [upd_ne z]
      exact r.mok b hb
  · obtain ⟨h1, h2, h3⟩ := r.box p hp
    exact ⟨h1, h2, h3.off r.mok.nt o (fun e => n (by rw [← e]; exact List.mem_map_of_mem hp)) List.mem_cons_self⟩
end
section
variable {X : Cx} {F : Fr} {elt tg iter : Expr} {ifs : List Expr} {E E1 : En} {ys l : List Dt} {scope : Scope} {own : List (Str × Nat)} {pos : Pos} {g : TG} {is : List Nat} {μ' : List (Addr × Bx)}
theorem tlc_run (src : EvI X F tg iter E ys E1) (his : ∀ i ∈ is, i ∈ own.map (·.2)) (hl : ys.length ≤ 10000) (P : Nat → List Dt → List (Addr × Bx) → Prop) (h0 : P 0 [] E1.μ)
    (step : ∀ (D : Addr) (i : Nat) (d : Dt) (acc : List Dt) (μ : List (Addr × Bx)), D ∉ E.M → ys[i]? = some d → P i acc μ → μ.map (·.1) = E.A →
      ∃ ds, Tgt X.K g is d ds ∧ ∃ b μ2, μ2.map (·.1) = E.A ∧ Bk X scope (fun Y => EvTs Y F ifs ⟨D :: E.M, setsD (wipeD E.ρ (own.map (·.2))) is ds, μ⟩ b ⟨D :: E.M, setsD (wipeD E.ρ (own.map (·.2))) is ds, μ2⟩) ∧
        (b = true → ∃ y μ3, μ3.map (·.1) = E.A ∧ Bk X scope (fun Y => Ev Y F elt ⟨D :: E.M, setsD (wipeD E.ρ (own.map (·.2))) is ds, μ2⟩ y ⟨D :: E.M, setsD (wipeD E.ρ (own.map (·.2))) is ds, μ3⟩) ∧ P (i + 1) (acc ++ [y]) μ3) ∧ (b = false → P (i + 1) acc μ2))
    (done : ∀ acc μ, P ys.length acc μ → acc = l ∧ μ = μ') {J : It} {H H1 : Hp} {σ : L2.St} {Q : VK} (r : RepE X.K F H E σ) (r1 : RepE X.K F H1 E1 σ) (o1 : Off E.A H H1) (wd : WalkD X.K E.M J H1 ys)
    (q : ∀ v H', RepE X.K F H' ⟨E.M, E.ρ, μ'⟩ σ → Off E.A H H' → Rep X.K E.M H' (.lst l) v → Q v H') (D : Addr) (hD : H1 D = none) :
    ∃ W : Nat → Nat → Hp → Prop, (∃ m, W 0 m (upd H1 D (.lst []))) ∧ ∀ i m H, W i m H → (J.stop i H ∧ Q (.ref D) H) ∨ (J.go i H ∧ ∃ Nx : Hp → Prop, (∀ H', Nx H' → ∃ m', m' < m ∧ W (i + 1) m' H') ∧
      ∀ x H', J.yld i H x H' → g x (wipe σ (own.map (·.2))) H' fun σ2 H2 => wipe σ2 (own.map (·.2)) = wipe σ (own.map (·.2)) ∧ tBkT X F scope ifs σ2 H2 fun b H3 =>
        if b = true then tBk X F scope elt σ2 H3 fun y H4 => ∃ acc, H4 D = some (.lst acc) ∧ acc.length < sizeLine ∧ Nx (upd H4 D (.lst (acc ++ [y]))) else Nx H3) := by
  have eM := src.fit.M
  have eρ := src.fit.ρ
  have eA := src.fit.A
  have nDM : D ∉ E.M := fun m => by
    rw [← eM] at m
    rcases r1.mok D m with ⟨_, e⟩ | ⟨_, e⟩ <;> (rw [hD] at e; cases e)
  have al : F.al D := F.new _ _ r1.st hD
  have hM : ∀ a ∈ (D :: E.M), a ∈ E.M ∨ H1 a = none := fun a ha => by
    rcases List.mem_cons.mp ha with z | z
    · rw [z]
      exact .inr hD
    · exact .inl z
  have hAM : ∀ a ∈ (D :: E.A), a ∈ (D :: E.M) := fun a ha => by
    rcases List.mem_cons.mp ha with z | z
    · rw [z]
      exact List.mem_cons_self
    · exact List.mem_cons_of_mem _ (r.aM a z)
  have nDA : D ∉ E.A := fun m => nDM (r.aM D m)
  refine ⟨fun i m H' => i + m = ys.length ∧ ∃ acc μ, P i acc μ ∧ μ.map (·.1) = E.A ∧ RepE X.K F H' ⟨D :: E.M, E.ρ, μ⟩ σ ∧ Off (D :: E.A) H1 H' ∧ (∃ vs, H' D = some (.lst vs) ∧ Reps X.K (D :: E.M) H' acc vs) ∧ acc.length ≤ i,
    ⟨ys.length, Nat.zero_add _, [], E1.μ, h0, eA, ?_, ?_, ⟨[], upd_same, rfl⟩, Nat.le_refl _⟩, fun i m H' hW => ?_⟩
  · have z := RepE.mask (vs := []) r1 hD
    rw [eM, eρ] at z
    exact z
  · exact fun b x n e => by
      rw [upd_ne (fun z => n (by rw [z]; exact List.mem_cons_self))]
      exact e
  · obtain ⟨em, acc, μ, hP, hA, rr, oo, ⟨vs, hv, rv⟩, hlen⟩ := hW
    by_cases hi : i < ys.length
    · refine .inr ⟨wd.go (D :: E.M) i H' hM hi (oo.mono hAM), fun H'' => ∃ acc μ, P (i + 1) acc μ ∧ μ.map (·.1) = E.A ∧ RepE X.K F H'' ⟨D :: E.M, E.ρ, μ⟩ σ ∧ Off (D :: E.A) H1 H'' ∧ (∃ vs, H'' D = some (.lst vs) ∧ Reps X.K (D :: E.M) H'' acc vs) ∧ acc.length ≤ i + 1,
        fun H'' hN => ⟨m - 1, by omega, by omega, hN⟩, fun x H2 hy => ?_⟩
      obtain ⟨sm, d, hd, rd⟩ := wd.yld (D :: E.M) i H' x H2 hM hi (oo.mono hAM) hy
      obtain ⟨ds, tg', b, μ2, eA2, hT, hYes, hNo⟩ := step D i d acc μ nDM hd hP hA
      have r2 := (rr.same sm).wipe (own.map (·.2))
      refine tg' (D :: E.M) H2 x _ _ rd fun us hus => ⟨wipe_sets his, ⟨D :: E.M, setsD (wipeD E.ρ (own.map (·.2))) is ds, μ⟩, b, _, RepE.sets (E := ⟨D :: E.M, wipeD E.ρ (own.map (·.2)), μ⟩) r2 hus, hT, fun H3 r4 o4 => ?_⟩
      have o4' : Off E.A H2 H3 := by
        have : Off (μ.map (·.1)) H2 H3 := o4
        rwa [hA] at this
      have hv3 : H3 D = some (.lst vs) := o4' D _ nDA (sm _ _ hv)
      have oM3 : Off (D :: E.M) H' H3 := fun b x n e => o4' b x (fun z => n (hAM b (List.mem_cons_of_mem _ z))) (sm b x e)
      have oo3 : Off (D :: E.A) H1 H3 := fun b x n e => o4' b x (fun z => n (List.mem_cons_of_mem _ z)) (sm b x (oo b x n e))
      cases b with
      | false =>
        exact iteF ⟨acc, μ2, hNo rfl, eA2, rr.mix r4 oM3, oo3, ⟨vs, hv3, Reps.off rr.mok.nt oM3 _ _ rv⟩, Nat.le_succ_of_le hlen⟩
      | true =>
        refine iteT ?_
        obtain ⟨y, μ3, eA3, hE, hP3⟩ := hYes rfl
        refine ⟨_, y, _, r4, hE, fun v H4 r5 o5 p5 => ⟨vs, ?_, ?_, acc ++ [y], μ3, hP3, ?_, ?_, ?_, ⟨vs ++ [v], upd_same, ?_⟩, ?_⟩⟩
        · have : Off (μ2.map (·.1)) H3 H4 := o5
          rw [eA2] at this
          exact this D _ nDA hv3
        · rw [rv.length]
          have : (10000 : Nat) < sizeLine := by decide
          omega
        · exact eA3
        · have o5' : Off E.A H3 H4 := by
            have : Off (μ2.map (·.1)) H3 H4 := o5
            rwa [eA2] at this
          have z : RepE X.K F H4 ⟨D :: E.M, E.ρ, μ3⟩ σ := rr.mix r5 fun b x n e => o5' b x (fun z => n (hAM b (List.mem_cons_of_mem _ z))) (oM3 b x n e)
          refine z.acc al (o5' D _ nDA hv3) ?_
          rw [eA3]
          exact nDA
        · have o5' : Off E.A H3 H4 := by
            have : Off (μ2.map (·.1)) H3 H4 := o5
            rwa [eA2] at this
          exact fun b x n e => by
            rw [upd_ne (fun z => n (by rw [z]; exact List.mem_cons_self))]
            exact o5' b x (fun z => n (List.mem_cons_of_mem _ z)) (oo3 b x n e)
        · have o5' : Off E.A H3 H4 := by
            have : Off (μ2.map (·.1)) H3 H4 := o5
            rwa [eA2] at this
          have oM4 : Off (D :: E.M) H' H4 := fun b x n e => o5' b x (fun z => n (hAM b (List.mem_cons_of_mem _ z))) (oM3 b x n e)
          have oD : Off (D :: E.M) H4 (upd H4 D (.lst (vs ++ [v]))) := fun b x n e => by
            rw [upd_ne (fun z => n (by rw [z]; exact List.mem_cons_self))]
            exact e
          exact Reps.snoc (Reps.off r5.mok.nt oD _ _ (Reps.off rr.mok.nt oM4 _ _ rv)) (Rep.off r5.mok.nt oD _ _ p5)
        · rw [List.length_append]
          exact Nat.succ_le_succ hlen
    · have ei : i = ys.length := by omega
      subst ei
      obtain ⟨e1, e2⟩ := done _ _ hP
      subst e1 e2
      refine .inl ⟨wd.stop (D :: E.M) H' hM (oo.mono hAM), q _ _ ?_ ?_ ?_⟩
      · exact RepE.unmask (E := ⟨D :: E.M, E.ρ, μ⟩) rr r.sub fun p hp => r.aM p.1 (by
          rw [← hA]
          exact List.mem_map_of_mem hp)
      · exact fun b x n e => oo b x (fun z => by
          rcases List.mem_cons.mp z with z | z
          · have := o1 b x n e
            rw [z, hD] at this
            cases this
          · exact n z) (o1 b x n e)
      · exact ⟨D, vs, rfl, .of hv, nDM, Reps.sub (fun a ha => List.mem_cons_of_mem _ ha) rv⟩
theorem ev_lc (hN : X.N.Nodup) (src : EvI X F tg iter E ys E1) (ok : BlkOk X.N X.env.scope scope own) (hg : Bk X scope fun Y => PG Y tg g) (his : ∀ i ∈ is, i ∈ own.map (·.2)) (hl : ys.length ≤ 10000) (hfit : μ'.map (·.1) = E.A)
    (P : Nat → List Dt → List (Addr × Bx) → Prop) (h0 : P 0 [] E1.μ)
    (step : ∀ (D : Addr) (i : Nat) (d : Dt) (acc : List Dt) (μ : List (Addr × Bx)), D ∉ E.M → ys[i]? = some d → P i acc μ → μ.map (·.1) = E.A →
      ∃ ds, Tgt X.K g is d ds ∧ ∃ b μ2, μ2.map (·.1) = E.A ∧ Bk X scope (fun Y => EvTs Y F ifs ⟨D :: E.M, setsD (wipeD E.ρ (own.map (·.2))) is ds, μ⟩ b ⟨D :: E.M, setsD (wipeD E.ρ (own.map (·.2))) is ds, μ2⟩) ∧
        (b = true → ∃ y μ3, μ3.map (·.1) = E.A ∧ Bk X scope (fun Y => Ev Y F elt ⟨D :: E.M, setsD (wipeD E.ρ (own.map (·.2))) is ds, μ2⟩ y ⟨D :: E.M, setsD (wipeD E.ρ (own.map (·.2))) is ds, μ3⟩) ∧ P (i + 1) (acc ++ [y]) μ3) ∧ (b = false → P (i + 1) acc μ2))
    (done : ∀ acc μ, P ys.length acc μ → acc = l ∧ μ = μ') (hc : X.calm = true := by rfl) (hs : ∀ x, foldedSetIterable iter X.env x = pure x := by intro _; rfl) :
    Ev X F (.ListComp elt [⟨tg, iter, ifs, 0⟩] scope pos) E (.lst l) ⟨E.M, E.ρ, μ'⟩ :=
  let ⟨wi, hpi, hwi⟩ := src.ex
  ev_of ⟨rfl, rfl, hfit⟩ (pe_lc (tt := tBkT X F scope ifs) (te := tBk X F scope elt) hc hN hpi ok hg (fun s H C cl fp => ⟨fun pins s' σ H' Q I ⟨_, _, _, r, h, q⟩ => (h s H C cl fp).run pins s' σ H' Q I r q⟩)
    (fun s H C cl fp => ⟨fun pins s' σ H' Q I ⟨_, _, _, r, h, q⟩ => (h s H C cl fp).run pins s' σ H' Q I r q⟩) hs) fun σ H r => hwi σ H _ r fun J H1 r1 o1 wd D hD => tlc_run (Q := fun v H' => RepE X.K F H' ⟨E.M, E.ρ, μ'⟩ σ ∧ Off E.A H H' ∧ Rep X.K E.M H' (.lst l) v) src his hl P h0 step done r r1 o1 wd (fun v H' a b c => ⟨a, b, c⟩) D hD
/-- without side effects: which items are kept (p), what is made of them (f) -/
theorem ev_lcP (hN : X.N.Nodup) (src : EvI X F tg iter E ys E) (ok : BlkOk X.N X.env.scope scope own) (hg : Bk X scope fun Y => PG Y tg g) (his : ∀ i ∈ is, i ∈ own.map (·.2)) (hl : ys.length ≤ 10000) (p : Nat → Bool) (f : Nat → Dt)
    (step : ∀ (D : Addr) (i : Nat) (d : Dt), D ∉ E.M → ys[i]? = some d → ∃ ds, Tgt X.K g is d ds ∧ Bk X scope (fun Y => EvTs Y F ifs ⟨D :: E.M, setsD (wipeD E.ρ (own.map (·.2))) is ds, E.μ⟩ (p i) ⟨D :: E.M, setsD (wipeD E.ρ (own.map (·.2))) is ds, E.μ⟩) ∧
      (p i = true → Bk X scope (fun Y => Ev Y F elt ⟨D :: E.M, setsD (wipeD E.ρ (own.map (·.2))) is ds, E.μ⟩ (f i) ⟨D :: E.M, setsD (wipeD E.ρ (own.map (·.2))) is ds, E.μ⟩)))
    (done : ((List.range ys.length).filter p).map f = l) (hc : X.calm = true := by rfl) (hs : ∀ x, foldedSetIterable iter X.env x = pure x := by intro _; rfl) :
    Ev X F (.ListComp elt [⟨tg, iter, ifs, 0⟩] scope pos) E (.lst l) E := by
  refine ev_lc (μ' := E.μ) hN src ok hg his hl rfl (fun i acc μ => acc = ((List.range i).filter p).map f ∧ μ = E.μ) ⟨rfl, rfl⟩ (fun D i d acc μ nD hd hP hA => ?_) (fun acc μ hP => ⟨hP.1.trans done, hP.2⟩) hc hs
  obtain ⟨rfl, rfl⟩ := hP
  obtain ⟨ds, ht, h1, h2⟩ := step D i d nD hd
  refine ⟨ds, ht, p i, E.μ, rfl, h1, fun e => ⟨f i, E.μ, rfl, h2 e, ?_, rfl⟩, fun e => ⟨?_, rfl⟩⟩
  · rw [List.range_succ, List.filter_append, List.filter_cons_of_pos e, List.map_append] <;> rfl
  · rw [List.range_succ, List.filter_append, List.filter_cons_of_neg (by rw [e]; exact Bool.false_ne_true), List.map_append]
    simp
/-- every item -/
theorem ev_lcM (hN : X.N.Nodup) (src : EvI X F tg iter E ys E) (ok : BlkOk X.N X.env.scope scope own) (hg : Bk X scope fun Y => PG Y tg g) (his : ∀ i ∈ is, i ∈ own.map (·.2)) (hl : ys.length ≤ 10000) (f : Nat → Dt)
    (step : ∀ (D : Addr) (i : Nat) (d : Dt), D ∉ E.M → ys[i]? = some d → ∃ ds, Tgt X.K g is d ds ∧
      Bk X scope (fun Y => Ev Y F elt ⟨D :: E.M, setsD (wipeD E.ρ (own.map (·.2))) is ds, E.μ⟩ (f i) ⟨D :: E.M, setsD (wipeD E.ρ (own.map (·.2))) is ds, E.μ⟩))
    (done : (List.range ys.length).map f = l) (hc : X.calm = true := by rfl) (hs : ∀ x, foldedSetIterable iter X.env x = pure x := by intro _; rfl) :
    Ev X F (.ListComp elt [⟨tg, iter, [], 0⟩] scope pos) E (.lst l) E :=
  ev_lcP hN src ok hg his hl (fun _ => true) f (fun D i d nD hd => let ⟨ds, ht, h⟩ := step D i d nD hd; ⟨ds, ht, fun _ _ _ _ _ => evts_nil, fun _ => h⟩) (by
    rw [← done]
    congr 1
    simp) hc hs
end
end Bs
set_option Elab.async false
set_option linter.all false
set_option maxRecDepth 100000
set_option maxHeartbeats 4000000
namespace Bs
open PySem PySem.Spec PyProof.Rows L2
/-- what is wanted behind statements -/
structure Pe where
  nx : En → Prop
  rt : Dt → En → Prop
  bk : En → Prop := fun _ => False
  ct : En → Prop := fun _ => False
structure Imp (K : PySem.W.Frag) (F : Fr) (P : Pe) (D : Ends) : Prop where
  nx : ∀ (σ : L2.St) (H : Hp) (E : En), RepE K F H E σ → P.nx E → D.nx σ H
  rt : ∀ (v : V) (H : Hp) (d : Dt) (E : En) (σ : L2.St), RepE K F H E σ → Rep K F.M0 H d v → P.rt d E → D.rt v H
  bk : ∀ (σ : L2.St) (H : Hp) (E : En), RepE K F H E σ → P.bk E → D.bk σ H
  ct : ∀ (σ : L2.St) (H : Hp) (E : En), RepE K F H E σ → P.ct E → D.ct σ H
structure Run (X : Cx) (F : Fr) (sts : List Stmt) (E : En) (P : Pe) : Prop where
  run : ∀ (pins : List (Addr × Obj)) (s : Shared) (σ : L2.St) (H : Hp) (D : Ends), Inv X pins σ H s → RepE X.K F H E σ → Imp X.K F P D → wpAny (model X.prog X.w) X.A (execs sts X.env) (SP X pins D) X.xe s
def tSs (X : Cx) (sts : List Stmt) : TS := fun D σ H => ∃ F E P, RepE X.K F H E σ ∧ Run X F sts E P ∧ Imp X.K F P D
section
variable {X : Cx} {F : Fr} {e a b c o : Expr} {es : List Expr} {E E1 E2 E3 : En} {d da db dc : Dt} {ds : List Dt} {σ : L2.St} {H : Hp} {k k1 k2 : Bool} {pos p p' lp ap cp tp : Pos} {st : Stmt} {sts rest : List Stmt} {P : Pe} {x : Str}
theorem pss_ev : PSs X sts (tSs X sts) := ⟨fun pins s σ H D I ⟨_, _, _, r, h, i⟩ => h.run pins s σ H D I r i⟩
theorem run_of {t : TS} (h : PSs X sts t) (g : ∀ σ H D, RepE X.K F H E σ → Imp X.K F P D → t D σ H) : Run X F sts E P := ⟨fun pins s σ H D I r i => h.run pins s σ H D I (g σ H D r i)⟩
theorem run_nil (h : P.nx E) : Run X F [] E P := run_of pss_nil fun σ H D r i => i.nx σ H E r h
/-- weaker ends -/
theorem Run.imp {P' : Pe} (h : Run X F sts E P) (h1 : ∀ E, P.nx E → P'.nx E) (h2 : ∀ d E, P.rt d E → P'.rt d E) (h3 : ∀ E, P.bk E → P'.bk E) (h4 : ∀ E, P.ct E → P'.ct E) : Run X F sts E P' :=
  ⟨fun pins s σ H D I r i => h.run pins s σ H D I r ⟨fun σ H E r q => i.nx σ H E r (h1 E q), fun v H d E σ r p q => i.rt v H d E σ r p (h2 d E q), fun σ H E r q => i.bk σ H E r (h3 E q), fun σ H E r q => i.ct σ H E r (h4 E q)⟩⟩
/-- x = e -/
theorem run_set (i : Nat) (hN : X.N.Nodup) (h : Ev X F e E d E1) (q : Run X F rest ⟨E1.M, E1.ρ.set i (some d), E1.μ⟩ P) (hi : X.N[i]? = some x := by rfl) (hx : Loc X.env.scope x := by first | exact Or.inl rfl | exact Or.inr rfl) (hs : swapsWith e (some (.Name x p')) pos.line X.env = pure false := by rfl)
    (hf : X.fn x = true ∨ X.env.scope.names.lookup x = some .local := by first | exact .inl rfl | exact .inr rfl) : Run X F (.Assign [.Name x p'] e pos :: rest) E P :=
  run_of (pss_cons (ps_set hN hi hx pe_ev hs hf) pss_ev) fun σ H D r i => tE_run h r fun v H1 r1 o1 p1 => ⟨F, _, P, r1.put (by rw [h.fit.M]; exact p1), q, i⟩
/-- a, b, .. = e, a tuple -/
theorem run_unp {ts : List Expr} {kt : Nat} (is : List Nat) (h : Ev X F e E (.tup ds) E1) (hg : PGs X ts (gNames is)) (hl : ds.length = is.length) (q : Run X F rest ⟨E1.M, setsD E1.ρ is ds, E1.μ⟩ P) (hc : X.calm = true := by rfl)
    (hn : (assignEach ts X.env).length = is.length := by rfl) (hst : (assignEach ts X.env).findIdx? (·.1) = none := by rfl) (hs : swapsWithSole [.Tuple ts kt tp] e pos.line X.env = pure false := by rfl) (hw : swappedStores [.Tuple ts kt tp] e X.env = pure none := by rfl)
    (h1 : (assignEach [.Tuple ts kt tp] X.env).map (·.2) = [assign (.Tuple ts kt tp) X.env] := by rfl) : Run X F (.Assign [.Tuple ts kt tp] e pos :: rest) E P :=
  run_of (pss_cons (ps_asg pe_ev (pg_tup hc hg hn hst) hs hw h1) pss_ev) fun σ H D r i => tE_run h r fun v H1 r1 o1 p1 => tgt_tup rfl hl E.M H1 v σ _ p1 fun vs hvs => ⟨F, _, P, r1.sets (by rw [h.fit.M]; exact hvs), q, i⟩
/-- a, b = e, f -/
theorem run_par {x y : Str} {px py pt pt2 : Pos} {kt k2 : Nat} (i j : Nat) (hN : X.N.Nodup) (ha : Ev X F a E da E1) (hb : Ev X F b E1 db E2) (q : Run X F rest ⟨E2.M, (E2.ρ.set i (some da)).set j (some db), E2.μ⟩ P) (hij : i ≠ j := by decide)
    (hi : X.N[i]? = some x := by rfl) (hj : X.N[j]? = some y := by rfl) (hx : X.env.scope.names.lookup x = some .local := by rfl) (hy : X.env.scope.names.lookup y = some .local := by rfl) (hc : X.calm = true := by rfl)
    (hw : swappedStores [.Tuple [.Name x px, .Name y py] kt pt] (.Tuple [a, b] k2 pt2) X.env = pure (some [x, y]) := by rfl) (hs : swapsWithSole [.Tuple [.Name x px, .Name y py] kt pt] (.Tuple [a, b] k2 pt2) pos.line X.env = pure false := by rfl)
    (hs1 : starEach [a, b] X.env = (false, eval a X.env) :: starEach [b] X.env := by rfl) (hs2 : starEach [b] X.env = (false, eval b X.env) :: starEach [] X.env := by rfl) :
    Run X F (.Assign [.Tuple [.Name x px, .Name y py] kt pt] (.Tuple [a, b] k2 pt2) pos :: rest) E P :=
  run_of (pss_cons (ps_par hc hN hi hj hij hx hy (pa_cons pe_ev (pa_cons pe_ev pa_nil hs2) hs1) hw hs) pss_ev) fun σ H D r i => t2 ha hb r fun v u H1 r1 o1 p1 p2 => ⟨v, u, rfl, F, _, P, (r1.put (by rw [hb.fit.M, ha.fit.M]; exact p1)).put (E := ⟨E2.M, _, E2.μ⟩) (by
    rw [show (⟨E2.M, _, E2.μ⟩ : En).M = E2.M from rfl, hb.fit.M, ha.fit.M]
    exact p2), q, i⟩
theorem run_ret (h : Ev X F e E d E1) (q : P.rt d E1) : Run X F (.Return (some e) pos :: rest) E P :=
  run_of (pss_cons (ps_ret pe_ev) (pss_ev (sts := rest))) fun σ H D r i => tE_run h r fun v H1 r1 o1 p1 => i.rt v H1 d E1 σ r1 (p1.sub r.sub) q
/-- a list of one's own is handed out -/
theorem run_retB {l : Addr} (h : Ev X F e E (.box l) E1) (hm : (l, Bx.l ds) ∈ E1.μ) (n : l ∉ F.M0) (q : P.rt (.lst ds) E1) : Run X F (.Return (some e) pos :: rest) E P :=
  run_of (pss_cons (ps_ret pe_ev) (pss_ev (sts := rest))) fun σ H D r i => tE_run h r fun v H1 r1 o1 p1 => i.rt v H1 _ E1 σ r1 (by
    obtain ⟨xs, e, rr⟩ := (r1.box _ hm).2.2
    exact ⟨l, xs, p1, .of e, n, Reps.sub (fun a ha => r1.sub a ha) rr⟩) q
theorem run_if (hc : EvT X F c E k E1) {A B : List Stmt} (ha : k = true → Run X F A E1 { P with nx := fun E' => Run X F rest E' P }) (hb : k = false → Run X F B E1 { P with nx := fun E' => Run X F rest E' P }) : Run X F (.If c A B pos :: rest) E P :=
  run_of (pss_cons (ps_if pt_ev pss_ev pss_ev) pss_ev) fun σ H D r i => tT_run hc r fun H1 r1 o1 => by
    cases k with
    | true => exact iteT ⟨F, E1, _, r1, ha rfl, ⟨fun σ H E r q => ⟨F, E, P, r, q, i⟩, i.rt, i.bk, i.ct⟩⟩
    | false => exact iteF ⟨F, E1, _, r1, hb rfl, ⟨fun σ H E r q => ⟨F, E, P, r, q, i⟩, i.rt, i.bk, i.ct⟩⟩
/-- an expression whose value is dropped -/
theorem run_expr (h : Ev X F e E d E1) (q : Run X F rest E1 P) (hs : swapsWith e none pos.line X.env = pure false := by rfl) : Run X F (.Expr e pos :: rest) E P :=
  run_of (pss_cons (ps_expr pe_ev hs) pss_ev) fun σ H D r i => tE_run h r fun v H1 r1 o1 p1 => ⟨F, _, P, r1, q, i⟩
/-- a method's call that changes a list: append -/
theorem ev_append {l : Addr} (ho : Ev X F o E (.box l) E) (he : Ev X F e E d E1) (hm : (l, Bx.l ds) ∈ E.μ) (hm1 : (l, Bx.l ds) ∈ E1.μ) (hl : ds.length ≤ 100000) (hbase : attributeBase o "append" X.env (eval o X.env) = eval o X.env := by rfl) (hs : starEach [e] X.env = (false, eval e X.env) :: starEach [] X.env := by rfl)
    (hfew : ((backTo cp (starEach (e :: []) X.env)).all (fun x => !x.1) && (backToKw cp (keywordEach [] X.env)).all (fun x => x.1.isSome)
      && decide ((e :: ([] : List Expr)).length + ([] : List Keyword).length + (if ([] : List Keyword).isEmpty then 0 else 1) < 30)) = true := by rfl) (hline : (ap.endLine == cp.line) = true := by rfl) :
    Ev X F (.Call (.Attribute o "append" ap) [e] [] cp) E .non ⟨E1.M, E1.ρ, setB E1.μ l (.l (ds ++ [d]))⟩ :=
  ev_of (he.fit.trans ⟨rfl, rfl, setB_A _ _ _⟩) (pe_bm PySem.F.plainAttrs_list PySem.F.slot_list_append PySem.F.type_list_append mt_append pe_ev (pa_cons pe_ev pa_nil hs) hbase hfew hline hs) fun σ H r => tE_run ho r fun v H1 r1 o1 p1 => by
    obtain ⟨xs, ex, rx⟩ := (r1.box _ hm).2.2
    rw [show v = _ from p1]
    refine ⟨.inl ⟨rfl, xs, .of ex⟩, tE_run he r1 fun u H2 r2 o2 p2 => ?_⟩
    obtain ⟨ys, ey, ry⟩ := (r2.box _ hm1).2.2
    have of : Off [l] H2 (upd H2 l (.lst (ys ++ [u]))) := fun b x n e => by
      rw [upd_ne (by simpa using n)]
      exact e
    have hM : l ∈ E1.M := (r2.box _ hm1).1
    have ofM : Off E1.M H2 (upd H2 l (.lst (ys ++ [u]))) := of.mono fun a ha => by
      rw [List.mem_singleton.mp ha]
      exact hM
    refine ⟨l, ys, u, rfl, rfl, ey, ?_, ?_, (o1.trans o2).trans (of.mono fun a ha => ?_), rfl⟩
    · rw [ry.length]
      have : (100000 : Nat) < sizeLine := by decide
      omega
    · refine r2.chg hm1 of ⟨_, upd_same, Reps.off r2.mok.nt ofM _ _ (ry.snoc ?_)⟩
      rw [he.fit.M]
      exact p2
    · rw [List.mem_singleton.mp ha]
      exact List.mem_map_of_mem hm
/-- d[k] = v -/
theorem run_setD {l : Addr} {kvs : List (Int × Int)} {kk z : Int} {ov iv : Expr} (hu : X.A.units + 1 < cLine) (hv : Ev X F e E (.int z) E1) (ho : Ev X F ov E1 (.box l) E1) (hi : Ev X F iv E1 (.int kk) E1) (hm : (l, Bx.d kvs) ∈ E1.μ) (hl : kvs.length ≤ 100000)
    (q : Run X F rest ⟨E1.M, E1.ρ, setB E1.μ l (.d (putD kvs kk z))⟩ P) (hs : swapsWith e (some (.Subscript ov iv p')) pos.line X.env = pure false := by rfl) : Run X F (.Assign [.Subscript ov iv p'] e pos :: rest) E P :=
  run_of (pss_cons (ps_dput hu pe_ev pe_ev pe_ev hs) pss_ev) fun σ H D r i => tE_run hv r fun v H1 r1 o1 p1 => tE_run ho r1 fun u H2 r2 o2 p2 => tE_run hi r2 fun y H3 r3 o3 p3 => by
    have eb : H3 l = some (.dK (kvs.map fun p => ((Sum.inl p.1 : Key), V.int p.2))) := (r3.box _ hm).2.2
    rw [show v = _ from p1, show u = _ from p2, show y = _ from p3]
    have g := DPut.k (k := Sum.inl kk) (v := .int z) eb (by
      rw [List.length_map]
      have : (100000 : Nat) < sizeLine := by decide
      omega)
    rw [putD_put] at g
    refine ⟨l, _, rfl, g, F, _, P, r3.chg hm (fun b x n e => ?_) (show BxOk X.K E1.M _ l (.d (putD kvs kk z)) from upd_same), q, i⟩
    rw [upd_ne (by simpa using n)]
    exact e
/-- xs[k] = v -/
theorem run_setL {l : Addr} {ov iv : Expr} {kk : Int} {j : Nat} (hv : Ev X F e E d E1) (ho : Ev X F ov E1 (.box l) E1) (hi : Ev X F iv E1 (.int kk) E1) (hm : (l, Bx.l ds) ∈ E1.μ) (hj : ixN ds.length kk = some j)
    (q : Run X F rest ⟨E1.M, E1.ρ, setB E1.μ l (.l (ds.set j d))⟩ P) (hs : swapsWithSole [.Subscript ov iv p'] e pos.line X.env = pure false := by rfl) (hw : swappedStores [.Subscript ov iv p'] e X.env = pure none := by rfl)
    (h1 : (assignEach [.Subscript ov iv p'] X.env).map (·.2) = [assign (.Subscript ov iv p') X.env] := by rfl)
    (hst : ∀ v, assign (.Subscript ov iv p') X.env v = (do
      let ov ← holding [v] (eval ov X.env)
      let iv ← holding [v, ov] (eval iv X.env)
      standAt p'
      holding [v, ov, iv] (setItem ov iv v)
      release [v, ov, iv] []) := by intro _; rfl) : Run X F (.Assign [.Subscript ov iv p'] e pos :: rest) E P :=
  run_of (pss_cons (ps_asg pe_ev (pg_sub pe_ev pe_ev set_list hst) hs hw h1) pss_ev) fun σ H D r i => tE_run hv r fun v H1 r1 o1 p1 => tE_run ho r1 fun u H2 r2 o2 p2 => tE_run hi r2 fun y H3 r3 o3 p3 => by
    obtain ⟨ys, ey, ry⟩ := (r3.box _ hm).2.2
    have of : Off [l] H3 (upd H3 l (.lst (ys.set j v))) := fun b x n e => by
      rw [upd_ne (by simpa using n)]
      exact e
    have hM : l ∈ E1.M := (r3.box _ hm).1
    have ofM : Off E1.M H3 (upd H3 l (.lst (ys.set j v))) := of.mono fun a ha => by
      rw [List.mem_singleton.mp ha]
      exact hM
    have pv : Rep X.K E1.M H3 d v := by
      have p1' : Rep X.K E1.M H1 d v := by rw [hv.fit.M]; exact p1
      exact Rep.step (X := X) (M := []) (.refl _) r1 (o2.trans o3) p1'
    exact ⟨l, ys, kk, j, p2, p3, ey, by rw [ry.length]; exact hj, F, _, P, r3.chg (x' := .l (ds.set j d)) hm of ⟨_, upd_same, Reps.off r3.mok.nt ofM _ _ (ry.set j pv)⟩, q, i⟩
/-- x = [..], a list that may change -/
theorem run_newL (i : Nat) (hN : X.N.Nodup) (h : EvA X F es E ds E1) (q : ∀ l, l ∉ E1.M → Run X F rest ⟨l :: E1.M, E1.ρ.set i (some (.box l)), (l, .l ds) :: E1.μ⟩ P) (hl : es.length ≤ 100 := by decide) (hi : X.N[i]? = some x := by rfl) (hx : Loc X.env.scope x := by first | exact Or.inl rfl | exact Or.inr rfl)
    (hs : swapsWith (.List es lp) (some (.Name x p')) pos.line X.env = pure false := by rfl) (hf : X.fn x = true ∨ X.env.scope.names.lookup x = some .local := by first | exact .inl rfl | exact .inr rfl) : Run X F (.Assign [.Name x p'] (.List es lp) pos :: rest) E P :=
  run_of (pss_cons (ps_set hN hi hx (pe_lst pa_ev) hs hf) pss_ev) fun σ H D r i => tA_run h r fun vs H1 r1 o1 p1 => ⟨small100 (by rw [p1.length, h.len]; exact hl), fun l hl => by
    have nM : l ∉ E1.M := fun m => by
      rcases r1.mok l m with ⟨_, e⟩ | ⟨_, e⟩ <;> (rw [hl] at e; cases e)
    have r2 := RepE.mask (vs := vs) r1 hl
    have r3 : RepE X.K F (upd H1 l (.lst vs)) ⟨l :: E1.M, E1.ρ, (l, .l ds) :: E1.μ⟩ σ := ⟨r2.st, r2.mok, r2.sub, r2.len, r2.at_, fun z hz => by
      rcases List.mem_cons.mp hz with e | e
      · subst e
        exact ⟨List.mem_cons_self, F.new _ _ r1.st hl, vs, upd_same, Reps.same (same_up hl) _ _ (Reps.more hl (by rw [h.fit.M]; exact p1))⟩
      · exact r2.box z e, List.nodup_cons.mpr ⟨fun m => nM (r1.aM l m), r2.nd⟩⟩
    exact ⟨F, _, P, r3.put (d := .box l) rfl, q l nM, i⟩⟩
theorem RepE.maskD {K : PySem.W.Frag} {H : Hp} {E : En} {σ : L2.St} {D : Addr} (r : RepE K F H E σ) (hD : H D = none) : RepE K F (upd H D (.dK [])) ⟨D :: E.M, E.ρ, (D, .d []) :: E.μ⟩ σ := by
  have sm := same_up (o := .dK []) hD
  have r' := r.same sm
  have nM : D ∉ E.M := fun m => by
    rcases r.mok D m with ⟨_, e⟩ | ⟨_, e⟩ <;> (rw [hD] at e; cases e)
  refine ⟨r'.st, fun b hb => ?_, fun a ha => List.mem_cons_of_mem _ (r.sub a ha), r.len, fun i d e => (r.at_ i d e).imp fun v h => ⟨h.1, Rep.same sm _ _ (Rep.more hD h.2)⟩, fun p hp => ?_, List.nodup_cons.mpr ⟨fun m => nM (r.aM D m), r.nd⟩⟩
  · rcases List.mem_cons.mp hb with z | z
    · rw [z]
      exact .inr ⟨[], upd_same⟩
    · exact r'.mok b z
  · rcases List.mem_cons.mp hp with e | hp
    · subst e
      exact ⟨List.mem_cons_self, F.new _ _ r.st hD, upd_same⟩
    · obtain ⟨h1, h2, h3⟩ := r.box p hp
      refine ⟨List.mem_cons_of_mem _ h1, h2, ?_⟩
      cases e : p.2 with
      | l ds =>
        rw [e] at h3
        obtain ⟨xs, e1, e2⟩ := h3
        exact ⟨xs, sm _ _ e1, Reps.same sm _ _ (Reps.more hD e2)⟩
      | d kvs =>
        rw [e] at h3
        exact sm _ _ h3
/-- x = {} -/
theorem run_newD (i : Nat) (hN : X.N.Nodup) (q : ∀ l, l ∉ E.M → Run X F rest ⟨l :: E.M, E.ρ.set i (some (.box l)), (l, .d []) :: E.μ⟩ P) (hi : X.N[i]? = some x := by rfl) (hx : Loc X.env.scope x := by first | exact Or.inl rfl | exact Or.inr rfl)
    (hs : swapsWith (.Dict [] [] lp) (some (.Name x p')) pos.line X.env = pure false := by rfl) (hf : X.fn x = true ∨ X.env.scope.names.lookup x = some .local := by first | exact .inl rfl | exact .inr rfl) : Run X F (.Assign [.Name x p'] (.Dict [] [] lp) pos :: rest) E P :=
  run_of (pss_cons (ps_set hN hi hx pe_dnewK hs hf) pss_ev) fun σ H D r i l hl => by
    have nM : l ∉ E.M := fun m => by
      rcases r.mok l m with ⟨_, e⟩ | ⟨_, e⟩ <;> (rw [hl] at e; cases e)
    exact ⟨F, _, P, (r.maskD hl).put (d := .box l) rfl, q l nM, i⟩
/-- d.get(k, z) -/
theorem ev_getD {l : Addr} {kvs : List (Int × Int)} {kk z : Int} {o f : Expr} (hu : X.A.units + 1 < cLine) (ho : Ev X F o E (.box l) E) (he : Ev X F e E (.int kk) E) (hf : Ev X F f E (.int z) E) (hm : (l, Bx.d kvs) ∈ E.μ) (m : M2 X o "get" ap e f cp) :
    Ev X F (.Call (.Attribute o "get" ap) [e, f] [] cp) E (.int ((look kvs kk).getD z)) E :=
  ev_of (.refl _) (pe_dget2 hu pe_ev pe_ev pe_ev m) fun σ H r => tE_run ho r fun v H1 r1 o1 p1 => by
    have eb : H1 l = some (.dK (kvs.map fun p => ((Sum.inl p.1 : Key), V.int p.2))) := (r1.box _ hm).2.2
    rw [show v = _ from p1]
    refine ⟨l, rfl, .inl ⟨_, .of eb⟩, tE_run he r1 fun u H2 r2 o2 p2 => tE_run hf r2 fun y H3 r3 o3 p3 => ?_⟩
    have eb3 : H3 l = some (.dK (kvs.map fun p => ((Sum.inl p.1 : Key), V.int p.2))) := (r3.box _ hm).2.2
    rw [show u = _ from p2, show y = _ from p3]
    refine ⟨_, DGet.k (k := Sum.inl kk) eb3, r3, (o1.trans o2).trans o3, ?_⟩
    rw [look_val]
    cases look kvs kk <;> rfl
/-- a def that changes its first argument's list -/
theorem ev_callX {n : Nat} {R : List Dt → List Dt → Dt → List Dt → Prop} {l : Addr} {c c' : List Dt} (T : Pf X.prog X.w X.K X.mg X.base x n (spB X.K R)) (hr : Room n X.A) (ha : EvA X F (e :: es) E (.box l :: ds) E1) (hm : (l, Bx.l c) ∈ E1.μ) (h : R ds c d c') (hg : Gl X x := by rfl) (hdb : (x == ("__debug__" : Str)) = false := by decide)
    (he : starEach (e :: es) X.env = (false, eval e X.env) :: starEach es X.env := by rfl) (hpl : (backTo pos (starEach es X.env)).any (·.1) = false := by rfl) : Ev X F (.Call (.Name x p) (e :: es) [] pos) E d ⟨E1.M, E1.ρ, setB E1.μ l (.l c')⟩ :=
  let ⟨f, fd, ps, G, hmg, hk, hb⟩ := T.ex; ev_of (ha.fit.trans ⟨rfl, rfl, setB_A _ _ _⟩) (pe_call G hr hg hmg hk hb .nil pass0 pa_ev hdb he hpl) fun σ H q => tA_run ha q fun vs H1 r1 o1 p1 => by
    obtain ⟨v, vs', rfl, hv, hvs⟩ := p1
    obtain ⟨hM, hal, xs, ex, rx⟩ := r1.box _ hm
    have m := r1.mok
    rw [ha.fit.M] at m rx hM
    refine ⟨E.M, l, c, ds, d, c', xs, vs', m, hM, by rw [List.append_nil, show v = _ from hv], hvs, ex, rx, h, fun v H' xs' of ex' rx' rd => ⟨?_, o1.trans (of.mono fun a ha' => ?_), rd⟩⟩
    · refine r1.chg hm of ⟨xs', ex', ?_⟩
      rw [ha.fit.M]
      exact rx'
    · rw [List.mem_singleton.mp ha', ← ha.fit.A]
      exact List.mem_map_of_mem hm
end
/-! ### frames within frames -/
def Fr.sub (F : Fr) (A : List Addr) (H1 : Hp) : Fr where
  M0 := F.M0
  st := fun H => F.st H ∧ Off A H1 H
  al := fun p => F.al p ∧ (p ∈ A ∨ H1 p = none)
  same := fun H H' ⟨h1, h2⟩ s => ⟨F.same _ _ h1 s, h2.trans (.of s)⟩
  put := fun H p o ⟨h1, h2⟩ ⟨a1, a2⟩ => ⟨F.put _ _ _ h1 a1, fun b x n e => by
    rw [upd_ne (fun z => by
      rcases a2 with q | q
      · exact n (by rw [z]; exact q)
      · rw [← z, e] at q
        cases q)]
    exact h2 b x n e⟩
  new := fun H p ⟨h1, h2⟩ e => ⟨F.new _ _ h1 e, by
    by_cases m : p ∈ A
    · exact .inl m
    · refine .inr ?_
      cases q : H1 p with
      | none => rfl
      | some o =>
        rw [h2 p o m q] at e
        cases e⟩
structure Sub (F1 F : Fr) : Prop where
  M0 : F1.M0 = F.M0
  st : ∀ H, F1.st H → F.st H
section
variable {K : PySem.W.Frag} {F : Fr} {H H1 : Hp} {E E' : En} {σ : L2.St}
theorem RepE.down (r : RepE K F H E σ) : RepE K (F.sub E.A H) H E σ :=
  ⟨⟨r.st, .refl _ _⟩, r.mok, r.sub, r.len, r.at_, fun p hp => ⟨(r.box p hp).1, ⟨(r.box p hp).2.1, .inl (List.mem_map_of_mem hp)⟩, (r.box p hp).2.2⟩, r.nd⟩
theorem RepE.up {A : List Addr} (r : RepE K (F.sub A H1) H E σ) : RepE K F H E σ :=
  ⟨r.st.1, r.mok, r.sub, r.len, r.at_, fun p hp => ⟨(r.box p hp).1, (r.box p hp).2.1.1, (r.box p hp).2.2⟩, r.nd⟩
theorem Imp.up {P : Pe} {D : Ends} {A : List Addr} (i : Imp K F P D) : Imp K (F.sub A H1) P D :=
  ⟨fun σ H E r q => i.nx σ H E r.up q, fun v H d E σ r p q => i.rt v H d E σ r.up p q, fun σ H E r q => i.bk σ H E r.up q, fun σ H E r q => i.ct σ H E r.up q⟩
end
section
variable {X : Cx} {F : Fr} {tg iter c : Expr} {body rest : List Stmt} {E E1 : En} {ys : List Dt} {P : Pe} {pos : Pos} {g : TG} {is : List Nat}
/-- for tg in iter: body -/
theorem run_for (hp : PassesOwn (model X.prog X.w) X.A X.env X.xe) (src : EvI X F tg iter E ys E1) (hg : PG X tg g) (I : Nat → En → Prop) (h0 : I 0 E1) (hfix : ∀ i E', I i E' → E'.M = E.M ∧ E'.A = E.A)
    (step : ∀ F1, Sub F1 F → ∀ (i : Nat) (d : Dt) (E' : En), ys[i]? = some d → I i E' → ∃ ds, Tgt X.K g is d ds ∧ Run X F1 body ⟨E'.M, setsD E'.ρ is ds, E'.μ⟩ ⟨I (i + 1), P.rt, fun E' => Run X F rest E' P, I (i + 1)⟩)
    (done : ∀ E', I ys.length E' → Run X F rest E' P) (hc : X.calm = true := by rfl) (hs : ∀ x, foldedSetIterable iter X.env x = pure x := by intro _; rfl) : Run X F (.For tg iter body [] pos :: rest) E P := by
  obtain ⟨wi, hpi, hwi⟩ := src.ex
  refine run_of (pss_cons (ps_for hp hc hpi hg pss_ev hs) pss_ev) fun σ H D r im => hwi σ H _ r fun J H1 r1 o1 wd => ?_
  have eM := src.fit.M
  have eA := src.fit.A
  refine ⟨fun i m σ' H' => i + m = ys.length ∧ ∃ E', I i E' ∧ RepE X.K (F.sub E1.A H1) H' E' σ', ⟨ys.length, Nat.zero_add _, E1, h0, r1.down⟩, fun i m σ' H' hW => ?_⟩
  obtain ⟨em, E', hI, rr⟩ := hW
  obtain ⟨fM, fA⟩ := hfix i E' hI
  have hM : ∀ a ∈ E.M, a ∈ E.M ∨ H1 a = none := fun a ha => .inl ha
  have oo : Off E.M H1 H' := rr.st.2.mono fun a ha => by
    have := r1.aM a ha
    rwa [eM] at this
  by_cases hi : i < ys.length
  · refine .inr ⟨wd.go E.M i H' hM hi oo, fun σ' H' => ∃ E', I (i + 1) E' ∧ RepE X.K (F.sub E1.A H1) H' E' σ', fun σ'' H'' hN => ⟨m - 1, by omega, by omega, hN⟩, fun x H2 hy => ?_⟩
    obtain ⟨sm, d, hd, rd⟩ := wd.yld E.M i H' x H2 hM hi oo hy
    obtain ⟨ds, ht, hR⟩ := step (F.sub E1.A H1) ⟨rfl, fun _ h => h.1⟩ i d E' hd hI
    refine ht E.M H2 x σ' _ rd fun vs hvs => ?_
    exact ⟨F.sub E1.A H1, _, _, (rr.same sm).sets (by rw [fM]; exact hvs), hR, fun σ H E r q => ⟨E, q, r⟩, fun v H d E σ r p q => im.rt v H d E σ r.up p q, fun σ H E r q => ⟨F, E, P, r.up, q, im⟩, fun σ H E r q => ⟨E, q, r⟩⟩
  · have ei : i = ys.length := by omega
    subst ei
    exact .inl ⟨wd.stop E.M H' hM oo, F, E', P, rr.up, done E' hI, im⟩
/-- while c: body -/
theorem run_while (hp : PassesOwn (model X.prog X.w) X.A X.env X.xe) (I : Nat → En → Prop) {n : Nat} (h0 : I n E)
    (step : ∀ (n : Nat) (E' : En), I n E' → ∃ k E2, EvT X F c E' k E2 ∧ (k = true → Run X F body E2 ⟨fun E3 => ∃ m, m < n ∧ I m E3, P.rt, fun E3 => Run X F rest E3 P, fun E3 => ∃ m, m < n ∧ I m E3⟩) ∧ (k = false → Run X F rest E2 P)) : Run X F (.While c body [] pos :: rest) E P := by
  refine run_of (pss_cons (ps_while hp (pt_ev (F := F)) pss_ev) pss_ev) fun σ H D r im => ⟨fun m σ' H' => ∃ E', I m E' ∧ RepE X.K F H' E' σ', ⟨n, E, h0, r⟩, fun m σ' H' hW => ?_⟩
  obtain ⟨E', hI, rr⟩ := hW
  obtain ⟨k, E2, hT, hY, hNo⟩ := step m E' hI
  refine tT_run hT rr fun H2 r2 o2 => ?_
  cases k with
  | true => exact iteT ⟨fun σ' H' => ∃ m', m' < m ∧ ∃ E', I m' E' ∧ RepE X.K F H' E' σ', fun σ'' H'' hN => hN, F, E2, _, r2, hY rfl, fun σ H E r ⟨m', h1, h2⟩ => ⟨m', h1, E, h2, r⟩, im.rt, fun σ H E r q => ⟨F, E, P, r, q, im⟩, fun σ H E r ⟨m', h1, h2⟩ => ⟨m', h1, E, h2, r⟩⟩
  | false => exact iteF ⟨F, E2, P, r2, hNo rfl, im⟩
end
end Bs
set_option Elab.async false
set_option linter.all false
set_option maxRecDepth 100000
set_option maxHeartbeats 4000000
namespace Bs
open PySem PySem.Spec PyProof.Rows L2
/-- the frame of a def that is entered at H; it may change what stands in A -/
def frame0 (M A : List Addr) (H : Hp) : Fr where
  M0 := M
  st := fun H' => Off A H H'
  al := fun p => p ∈ A ∨ H p = none
  same := fun H1 H2 h s => h.trans (.of s)
  put := fun H1 p o h a b x n e => by
    rw [upd_ne (fun z => by
      rcases a with q | q
      · exact n (by rw [z]; exact q)
      · rw [← z, e] at q
        cases q)]
    exact h b x n e
  new := fun H1 p h e => by
    by_cases m : p ∈ A
    · exact .inl m
    · refine .inr ?_
      cases q : H p with
      | none => rfl
      | some o =>
        rw [h p o m q] at e
        cases e
theorem start_get {K : PySem.W.Frag} {M : List Addr} {H : Hp} {N : List Str} {ds : List Dt} {vs : List V} (r : Reps K M H ds vs) (i : Nat) (d : Dt) (e : (ds.map some ++ List.replicate (N.length - ds.length) (none : Option Dt))[i]? = some (some d)) :
    ∃ v, (L2.start N vs)[i]? = some (some v) ∧ Rep K M H d v := by
  unfold L2.start
  by_cases h : i < ds.length
  · rw [List.getElem?_append_left (by rw [List.length_map]; exact h), List.getElem?_map] at e
    rw [List.getElem?_append_left (by rw [List.length_map, r.length]; exact h), List.getElem?_map]
    cases q : ds[i]? with
    | none =>
      rw [q] at e
      cases e
    | some z =>
      rw [q] at e
      have ez : z = d := by simpa using e
      subst ez
      obtain ⟨v, hv, rv⟩ := r.get q
      exact ⟨v, by rw [hv] <;> rfl, rv⟩
  · rw [List.getElem?_append_right (by rw [List.length_map]; omega)] at e
    have := List.mem_of_getElem? e
    have := List.eq_of_mem_replicate this
    cases this
theorem start_length {N : List Str} {ds : List Dt} {vs : List V} (h : vs.length = ds.length) : (ds.map some ++ List.replicate (N.length - ds.length) (none : Option Dt)).length = (L2.start N vs).length := by
  unfold L2.start
  rw [List.length_append, List.length_append, List.length_map, List.length_map, List.length_replicate, List.length_replicate, h]
/-- the environment at a def's entry -/
abbrev En0 (F : Fr) (N : List Str) (ds : List Dt) (μ : List (Addr × Bx)) : En := ⟨F.M0, ds.map some ++ List.replicate (N.length - ds.length) none, μ⟩
abbrev Cb (P : Program) (w : World) (K : PySem.W.Frag) (mg : Str → Option Value) (base : Heap) (N : List Str) (x : Str) (sc : Scope) (f : Addr) (cdv : Value) (A : Around) (outer : List Env) (s : Shared) (H : Hp) (E : XK) : Cx :=
  (cxOf CX0 P w K mg base N x sc f cdv A outer s H E).nox
section
variable {P : Program} {w : World} {K : PySem.W.Frag} {mg : Str → Option Value} {base : Heap} {x : Str} {st : Stmt} {f : Addr} {fd : FuncData} {N ps : List Str} {k : Nat}
theorem pf_mk {R : List Dt → Dt → Prop} (D : FunD K x x (defArgs st) (defBody st) (defScope st) [] [] f fd) (S : FnScope N ps (defScope st)) (hm : mg x = some (.ref f))
    (hb : ∀ (kV doc pm : Value) (an : Option Addr) (cdv ct : Value) (us : List Value), us.length = ps.length → bindArgs (PySem.W.fnOf x x (defArgs st) (defBody st) (defScope st) .none kV doc pm an cdv ct) ⟨us, []⟩ = pure (ps.zip us))
    (hlen : ∀ ds d, R ds d → ds.length = ps.length)
    (body : ∀ (cdv : Value) (A : Around) (outer : List Env) (s : Shared) (H : Hp) (E : XK), Room k (A.deeper (envOfC x (defScope st) s.heap.objs.size f cdv)) → ∀ (F : Fr) (ds : List Dt) (d : Dt), R ds d →
      Run (Cb P w K mg base N x (defScope st) f cdv A outer s H E) F (defBody st) (En0 F N ds []) ⟨fun _ => d = .non, fun d' _ => d' = d, fun _ => False, fun _ => False⟩) : Pf P w K mg base x (k + 1) (spR K R) := by
  refine ⟨f, fd, ps, D.ok S (fun vs H Q E h => ?_) (fun cdv A outer s H vs Q E hr h => ?_), hm, D.kp, D.bindsN hb⟩
  · obtain ⟨M, ds, d, m, rp, hR, q⟩ := h
    rw [rp.length]
    exact hlen ds d hR
  · obtain ⟨M, ds, d, m, rp, hR, q⟩ := h
    refine ⟨_, PSs.nox (pss_ev (X := Cb P w K mg base N x (defScope st) f cdv A outer s H E)), frame0 M [] H, En0 (frame0 M [] H) N ds [], _, ⟨.refl _ _, m, fun a ha => ha, start_length rp.length, start_get rp, (fun p hp => nomatch hp), List.nodup_nil⟩,
      body cdv A outer s H E hr (frame0 M [] H) ds d hR, fun σ H' E' r e => ?_, fun v H' d' E' σ r p e => ?_, fun σ H' E' r e => e.elim, fun σ H' E' r e => e.elim⟩
    · refine q _ H' r.st.same ?_
      rw [e]
      rfl
    · rw [e] at p
      exact q v H' r.st.same p
/-- a def that changes its first argument's list -/
theorem pfB_mk {R : List Dt → List Dt → Dt → List Dt → Prop} (D : FunD K x x (defArgs st) (defBody st) (defScope st) [] [] f fd) (S : FnScope N ps (defScope st)) (hm : mg x = some (.ref f))
    (hb : ∀ (kV doc pm : Value) (an : Option Addr) (cdv ct : Value) (us : List Value), us.length = ps.length → bindArgs (PySem.W.fnOf x x (defArgs st) (defBody st) (defScope st) .none kV doc pm an cdv ct) ⟨us, []⟩ = pure (ps.zip us))
    (hlen : ∀ ds c d c', R ds c d c' → ds.length + 1 = ps.length)
    (body : ∀ (cdv : Value) (A : Around) (outer : List Env) (s : Shared) (H : Hp) (E : XK), Room k (A.deeper (envOfC x (defScope st) s.heap.objs.size f cdv)) → ∀ (F : Fr) (a : Addr) (ds c : List Dt) (d : Dt) (c' : List Dt), R ds c d c' → a ∈ F.M0 →
      Run (Cb P w K mg base N x (defScope st) f cdv A outer s H E) F (defBody st) (En0 F N (.box a :: ds) [(a, .l c)]) ⟨fun _ => False, fun d' E' => d' = d ∧ (a, Bx.l c') ∈ E'.μ, fun _ => False, fun _ => False⟩) : Pf P w K mg base x (k + 1) (spB K R) := by
  refine ⟨f, fd, ps, D.ok S (fun vs H Q E h => ?_) (fun cdv A outer s H vs Q E hr h => ?_), hm, D.kp, D.bindsN hb⟩
  · obtain ⟨M, a, c, ds, d, c', xs, vs', m, ha, rfl, rp, ex, rx, hR, q⟩ := h
    show vs'.length + 1 = _
    rw [rp.length]
    exact hlen ds c d c' hR
  · obtain ⟨M, a, c, ds, d, c', xs, vs', m, ha, rfl, rp, ex, rx, hR, q⟩ := h
    have rp' : Reps K M H (.box a :: ds) (.ref a :: vs') := ⟨.ref a, vs', rfl, rfl, rp⟩
    refine ⟨_, PSs.nox (pss_ev (X := Cb P w K mg base N x (defScope st) f cdv A outer s H E)), frame0 M [a] H, En0 (frame0 M [a] H) N (.box a :: ds) [(a, .l c)], _, ⟨.refl _ _, m, fun a ha => ha, start_length rp'.length, start_get rp', fun p hp => ?_, List.nodup_cons.mpr ⟨(fun z => nomatch z), List.nodup_nil⟩⟩,
      body cdv A outer s H E hr (frame0 M [a] H) a ds c d c' hR ha, fun σ H' E' r e => e.elim, fun v H' d' E' σ r p e => ?_, fun σ H' E' r e => e.elim, fun σ H' E' r e => e.elim⟩
    · have e := List.mem_singleton.mp hp
      subst e
      exact ⟨ha, .inl (List.mem_singleton.mpr rfl), xs, ex, rx⟩
    · obtain ⟨e1, e2⟩ := e
      obtain ⟨xs', ex', rx'⟩ := (r.box _ e2).2.2
      rw [e1] at p
      exact q v H' xs' r.st ex' (Reps.sub (fun a ha => r.sub a ha) rx') p
end
section
variable {X : Cx} {F : Fr} {elt tg iter : Expr} {ifs : List Expr} {rest : List Stmt} {P : Pe} {E E1 : En} {ys l : List Dt} {scope : Scope} {own : List (Str × Nat)} {pos spos py : Pos} {g : TG} {is : List Nat} {μ' : List (Addr × Bx)} {y : Str}
/-- y = [..] -/
theorem run_setLc (i : Nat) (hN : X.N.Nodup) (src : EvI X F tg iter E ys E1) (ok : BlkOk X.N X.env.scope scope own) (hg : Bk X scope fun Y => PG Y tg g) (his : ∀ i ∈ is, i ∈ own.map (·.2)) (hl : ys.length ≤ 10000) (hfit : μ'.map (·.1) = E.A)
    (Pv : Nat → List Dt → List (Addr × Bx) → Prop) (h0 : Pv 0 [] E1.μ)
    (step : ∀ (D : Addr) (i : Nat) (d : Dt) (acc : List Dt) (μ : List (Addr × Bx)), D ∉ E.M → ys[i]? = some d → Pv i acc μ → μ.map (·.1) = E.A →
      ∃ ds, Tgt X.K g is d ds ∧ ∃ b μ2, μ2.map (·.1) = E.A ∧ Bk X scope (fun Y => EvTs Y F ifs ⟨D :: E.M, setsD (wipeD E.ρ (own.map (·.2))) is ds, μ⟩ b ⟨D :: E.M, setsD (wipeD E.ρ (own.map (·.2))) is ds, μ2⟩) ∧
        (b = true → ∃ y μ3, μ3.map (·.1) = E.A ∧ Bk X scope (fun Y => Ev Y F elt ⟨D :: E.M, setsD (wipeD E.ρ (own.map (·.2))) is ds, μ2⟩ y ⟨D :: E.M, setsD (wipeD E.ρ (own.map (·.2))) is ds, μ3⟩) ∧ Pv (i + 1) (acc ++ [y]) μ3) ∧ (b = false → Pv (i + 1) acc μ2))
    (done : ∀ acc μ, Pv ys.length acc μ → acc = l ∧ μ = μ') (q : Run X F rest ⟨E.M, E.ρ.set i (some (.lst l)), μ'⟩ P)
    (hsw : swapsWith (.ListComp elt [⟨tg, iter, ifs, 0⟩] scope pos) (some (.Name y py)) spos.line X.env = pure true) (hy : X.N[i]? = some y := by rfl) (hyl : X.env.scope.names.lookup y = some .local := by rfl) (hc : X.calm = true := by rfl) (hs : ∀ x, foldedSetIterable iter X.env x = pure x := by intro _; rfl) :
    Run X F (.Assign [.Name y py] (.ListComp elt [⟨tg, iter, ifs, 0⟩] scope pos) spos :: rest) E P :=
  let ⟨wi, hpi, hwi⟩ := src.ex
  run_of (pss_cons (ps_setLc (i := i) (tt := tBkT X F scope ifs) (te := tBk X F scope elt) hc hN hy hyl hsw hpi ok hg (fun s H C cl fp => ⟨fun pins s' σ H' Q I ⟨_, _, _, r, h, q⟩ => (h s H C cl fp).run pins s' σ H' Q I r q⟩)
    (fun s H C cl fp => ⟨fun pins s' σ H' Q I ⟨_, _, _, r, h, q⟩ => (h s H C cl fp).run pins s' σ H' Q I r q⟩) hs) pss_ev) fun σ H D r im => hwi σ H _ r fun J H1 r1 o1 wd l hl' =>
      tlc_run (Q := fun v H' => gName i v σ H' (tSs X rest D)) src his hl Pv h0 step done r r1 o1 wd (fun v H' a b c => ⟨F, _, P, a.put c, q, im⟩) l hl'
end
end Bs
set_option Elab.async false
set_option linter.all false
set_option maxRecDepth 100000
set_option maxHeartbeats 0
namespace Hd
open PySem PySem.Spec PyProof.Rows L2
def top (i : Nat) : Stmt := PySem.Challenge.pw_onepicture_k22_whole_weavings_shrunk.main.body.getD i (.Pass ⟨0, 0, 0, 0⟩)
/-- the j-th statement of the class's body -/
def meth (i j : Nat) : Stmt := inClass (top i) j
def df (n : Str) (st : Stmt) : He.DefD := ⟨(n, none), n, n, defArgs st, defBody st, defScope st, [], []⟩
def dm (c m q : Str) (st : Stmt) : He.DefD := ⟨(c, some m), m, q, defArgs st, defBody st, defScope st, [], []⟩
abbrev s_is_integer : Stmt := top 6
abbrev s_is_within : Stmt := top 7
abbrev s_is_below : Stmt := top 8
abbrev s_is_sized : Stmt := top 9
abbrev s_is_listed : Stmt := top 11
abbrev s_replaced : Stmt := top 12
abbrev s_is_deed : Stmt := top 29
abbrev s_is_script : Stmt := top 30
abbrev s_is_row_of : Stmt := top 34
abbrev s_are_inputs : Stmt := top 35
abbrev s_is_hand : Stmt := top 37
abbrev s_fresh : Stmt := top 56
abbrev s_manner_cell : Stmt := top 57
abbrev s_manner_state : Stmt := top 58
abbrev s_is_put_next : Stmt := top 59
abbrev s_manner_next : Stmt := top 60
abbrev s_picture_of : Stmt := top 62
abbrev s_result_of : Stmt := top 64
abbrev s_after_sweep : Stmt := top 65
abbrev s_manner_after : Stmt := top 66
abbrev s_begins_look : Stmt := top 67
abbrev s_cell_of : Stmt := top 84
abbrev s_state_of : Stmt := top 85
abbrev s_next_of : Stmt := top 86
abbrev s_after_of : Stmt := top 87
abbrev s_begun : Stmt := top 88
abbrev s_after_step : Stmt := top 89
abbrev s_standings_of : Stmt := top 90
abbrev s_result_now : Stmt := top 93
abbrev s_all_looks : Stmt := top 94
abbrev s_moment_of : Stmt := top 95
abbrev s_pictures_of : Stmt := top 96
abbrev s_least_moments : Stmt := top 97
abbrev s_is_bad : Stmt := top 100
abbrev s_is_wrong : Stmt := top 101
abbrev s_is_weaving : Stmt := top 102
abbrev s_without_one : Stmt := top 103
abbrev s_shrunk : Stmt := top 104
abbrev z_law_fresh : Stmt := top 106
abbrev z_law_begun : Stmt := top 107
abbrev z_law_manner : Stmt := top 108
abbrev z_law_behind : Stmt := top 113
abbrev z_law_wrong : Stmt := top 114
abbrev z_law_hand : Stmt := top 115
abbrev z_law_draw : Stmt := top 116
abbrev z_law_movers : Stmt := top 117
abbrev z_law_some_weaving : Stmt := top 118
abbrev z_law_flag : Stmt := top 119
abbrev z_law_is : Stmt := top 120
abbrev z_law_shrunk : Stmt := top 121
abbrev z_law_told : Stmt := top 122
abbrev s_law : Stmt := top 123
abbrev s_Play : Stmt := meth 36 0
abbrev s_NoWeaving : Stmt := meth 3 0
def fn0 : List He.DefD := [df "is_integer" s_is_integer, df "is_within" s_is_within, df "is_below" s_is_below, df "is_sized" s_is_sized, df "is_listed" s_is_listed, df "replaced" s_replaced, df "is_deed" s_is_deed, df "is_script" s_is_script, df "is_row_of" s_is_row_of, df "are_inputs" s_are_inputs, df "is_hand" s_is_hand, df "fresh" s_fresh, df "manner_cell" s_manner_cell, df "manner_state" s_manner_state, df "is_put_next" s_is_put_next, df "manner_next" s_manner_next, df "picture_of" s_picture_of, df "result_of" s_result_of, df "after_sweep" s_after_sweep, df "manner_after" s_manner_after]
def fn1 : List He.DefD := [df "begins_look" s_begins_look, df "cell_of" s_cell_of, df "state_of" s_state_of, df "next_of" s_next_of, df "after_of" s_after_of, df "begun" s_begun, df "after_step" s_after_step, df "standings_of" s_standings_of, df "result_now" s_result_now, df "all_looks" s_all_looks, df "moment_of" s_moment_of, df "pictures_of" s_pictures_of, df "least_moments" s_least_moments, df "is_bad" s_is_bad, df "is_wrong" s_is_wrong, df "is_weaving" s_is_weaving, df "without_one" s_without_one, df "shrunk" s_shrunk, df "_law_fresh" z_law_fresh, df "_law_begun" z_law_begun]
def fn2 : List He.DefD := [df "_law_manner" z_law_manner, df "_law_behind" z_law_behind, df "_law_wrong" z_law_wrong, df "_law_hand" z_law_hand, df "_law_draw" z_law_draw, df "_law_movers" z_law_movers, df "_law_some_weaving" z_law_some_weaving, df "_law_flag" z_law_flag, df "_law_is" z_law_is, df "_law_shrunk" z_law_shrunk, df "_law_told" z_law_told, df "law" s_law, dm "Play" "__init__" "Play.__init__" s_Play, dm "NoWeaving" "__init__" "NoWeaving.__init__" s_NoWeaving]
def fn : List He.DefD := fn0 ++ fn1 ++ fn2
def fa0 : List He.Fa := [.glo "is_integer", .glo "is_within", .glo "is_below", .glo "is_sized", .glo "is_listed", .glo "replaced", .glo "is_deed", .glo "is_script", .glo "is_row_of", .glo "are_inputs", .glo "is_hand", .glo "fresh", .glo "manner_cell", .glo "manner_state", .glo "is_put_next", .glo "manner_next", .glo "picture_of", .glo "result_of", .glo "after_sweep", .glo "manner_after", .glo "begins_look", .glo "cell_of", .glo "state_of", .glo "next_of", .glo "after_of", .glo "begun", .glo "after_step", .glo "standings_of", .glo "result_now", .glo "all_looks"]
def fa1 : List He.Fa := [.glo "moment_of", .glo "pictures_of", .glo "least_moments", .glo "is_bad", .glo "is_wrong", .glo "is_weaving", .glo "without_one", .glo "shrunk", .glo "_law_fresh", .glo "_law_begun", .glo "_law_manner", .glo "_law_behind", .glo "_law_wrong", .glo "_law_hand", .glo "_law_draw", .glo "_law_movers", .glo "_law_some_weaving", .glo "_law_flag", .glo "_law_is", .glo "_law_shrunk", .glo "_law_told", .glo "law", .glo "Play", .glo "NoWeaving", .glo "NotWrong", .glo "PictureError", .glo "MANNERS", .glo "FIRST_CELL", .free "isinstance", .free "len"]
def fa2 : List He.Fa := [.free "all", .free "tuple", .free "list", .free "range", .free "zip", .free "enumerate", .free "int", .free "bool", .free "str", .free "abs", .free "ValueError", .str "SWEEP" "sweep", .str "TWICE" "twice", .str "BORROW" "borrow", .str "LEVELS" "levels", .str "NAMES" "names", .str "NEAR" "near", .str "CHAIN" "chain", .str "PUT" "put", .str "SEE" "see", .str "LOOK_manners" "look", .int "MOST_HANDS" 5, .int "MOST_DEEDS" 6, .int "MOST_VALUE" 1000, .cls "Play", .mkr "Play", .noat "Play" "kind", .noat "Play" "inputs", .noat "Play" "rows", .exc "NotWrong"]
def fa3 : List He.Fa := [.exm "NotWrong" "PictureError" true, .exm "NoWeaving" "NoWeaving" true, .keep "PictureError", .keep "NoWeaving"]
def fa : List He.Fa := fa0 ++ fa1 ++ fa2 ++ fa3
def oexB (K : PySem.W.Frag) (C : Addr) : Bool := (match K.lookup C with
  | some ⟨.type "type", _, .cls cd, sl⟩ => (match cd.mro, sl.toList with
    | .ref D :: bm, [_, _, _, _, some (.builtin n), _] => D == C && n == "ValueError.__new__" && !cd.hasDel && cd.hasDict && PySem.HandSPX.refsVE bm
    | _, _ => false)
  | _ => false)
def exL (K : PySem.W.Frag) : List Bool := [
  He.tupB K "MANNERS" [.str "sweep", .str "twice", .str "borrow"],
  He.tupB K "FIRST_CELL" [.int 0, .int 0, .non],
  oexB K (He.ga K "NoWeaving"),
  decide (PySem.W.findIn K (.ref (He.ga K "NoWeaving")) "__setattr__" = some (some (.builtin "object.__setattr__"))),
  decide (PySem.W.subIn K (.ref (He.ga K "NoWeaving")) (.type "BaseException") = some true),
  decide (PySem.W.typeIn K (.ref (He.ga K "NoWeaving")) = some (.type "type")),
  decide (PySem.W.findIn K (.ref (He.ga K "NoWeaving")) "index" = some none),
  decide (PySem.W.findIn K (.ref (He.ga K "NoWeaving")) "__init__" = some (some (.ref (He.ma K (He.ga K "NoWeaving") "__init__")))),
  decide (PySem.W.typeIn K (.ref (He.ma K (He.ga K "NoWeaving") "__init__")) = some (.type "function")),
  decide (PySem.W.findIn K (.ref (He.ga K "NotWrong")) "__getattribute__" = some (some (.builtin "BaseException.__getattribute__"))),
  decide (PySem.W.findIn K (.ref (He.ga K "NotWrong")) "__getattr__" = some none),
  decide (PySem.W.subIn K (.ref (He.ga K "NotWrong")) (.type "BaseException") = some true),
  PySem.W.hasDictIn K (He.ga K "NotWrong"),
  decide (PySem.W.findIn K (.ref (He.ga K "NotWrong")) "__class__" = some (some (.builtin "object.__class__"))),
  decide (PySem.W.specialIn K (.builtin "object.__class__") "__get__" = some (some (.builtin "getset_descriptor.__get__"))),
  decide (PySem.W.takesIn K (.builtin "object.__class__") = some true),
  decide (PySem.W.mroIn K (He.ga K "NotWrong") (.type "object") = some true),
  decide (PySem.W.kitOne K (.ref (He.ga K "NotWrong")) (.ref (He.ga K "NotWrong")) = some true),
  decide (PySem.W.kitOne K (.ref (He.ga K "NotWrong")) (.type "ValueError") = some true)]
def exB (K : PySem.W.Frag) : Bool := (exL K).all id
def lo0 : List PySem.Str := [("__name__" : PySem.Str), ("PictureError" : PySem.Str), ("BadPlay" : PySem.Str), ("NoWeaving" : PySem.Str), ("NotWrong" : PySem.Str), ("is_integer" : PySem.Str), ("is_within" : PySem.Str), ("is_below" : PySem.Str), ("is_sized" : PySem.Str), ("is_pair" : PySem.Str), ("is_listed" : PySem.Str), ("replaced" : PySem.Str), ("MOST_HANDS" : PySem.Str), ("MOST_DEEDS" : PySem.Str), ("MOST_VALUE" : PySem.Str), ("MOST_ROUNDS" : PySem.Str), ("MOST_THING" : PySem.Str), ("SWEEP" : PySem.Str), ("TWICE" : PySem.Str), ("BORROW" : PySem.Str), ("LEVELS" : PySem.Str), ("NAMES" : PySem.Str), ("NEAR" : PySem.Str), ("CHAIN" : PySem.Str), ("MANNERS" : PySem.Str), ("PUT" : PySem.Str), ("SEE" : PySem.Str), ("is_deed" : PySem.Str), ("is_script" : PySem.Str), ("is_value" : PySem.Str), ("is_near_value" : PySem.Str), ("is_lot" : PySem.Str), ("is_row_of" : PySem.Str), ("are_inputs" : PySem.Str), ("Play" : PySem.Str)]
def lo1 : List PySem.Str := [("is_hand" : PySem.Str), ("flat" : PySem.Str), ("is_older" : PySem.Str), ("is_within_lot" : PySem.Str), ("are_chain" : PySem.Str), ("is_of_others" : PySem.Str), ("manner_fault" : PySem.Str), ("hands_of" : PySem.Str), ("is_strange" : PySem.Str), ("has_more" : PySem.Str), ("level_fault" : PySem.Str), ("name_fault" : PySem.Str), ("near_fault" : PySem.Str), ("chain_fault" : PySem.Str), ("raw_fault" : PySem.Str), ("LOOK_manners" : PySem.Str), ("FIRST_CELL" : PySem.Str), ("fresh" : PySem.Str), ("manner_cell" : PySem.Str), ("manner_state" : PySem.Str), ("is_put_next" : PySem.Str), ("manner_next" : PySem.Str), ("numbers_of" : PySem.Str), ("picture_of" : PySem.Str), ("lent" : PySem.Str), ("result_of" : PySem.Str), ("after_sweep" : PySem.Str), ("manner_after" : PySem.Str), ("begins_look" : PySem.Str), ("LOOK_levels" : PySem.Str), ("level_cell" : PySem.Str), ("level_state" : PySem.Str), ("level_next" : PySem.Str), ("level_after" : PySem.Str), ("top_cell" : PySem.Str)]
def lo2 : List PySem.Str := [("top_state" : PySem.Str), ("top_next" : PySem.Str), ("wish_by" : PySem.Str), ("after_names" : PySem.Str), ("after_near" : PySem.Str), ("after_chain" : PySem.Str), ("top_after" : PySem.Str), ("cell_of" : PySem.Str), ("state_of" : PySem.Str), ("next_of" : PySem.Str), ("after_of" : PySem.Str), ("begun" : PySem.Str), ("after_step" : PySem.Str), ("standings_of" : PySem.Str), ("run" : PySem.Str), ("result_now" : PySem.Str), ("all_looks" : PySem.Str), ("moment_of" : PySem.Str), ("pictures_of" : PySem.Str), ("least_moments" : PySem.Str), ("came_in" : PySem.Str), ("is_bad" : PySem.Str), ("is_wrong" : PySem.Str), ("is_weaving" : PySem.Str), ("without_one" : PySem.Str), ("shrunk" : PySem.Str), ("_law_fresh" : PySem.Str), ("_law_begun" : PySem.Str), ("_law_manner" : PySem.Str), ("_law_level" : PySem.Str), ("_law_name" : PySem.Str), ("_law_top" : PySem.Str), ("_law_chain" : PySem.Str), ("_law_behind" : PySem.Str), ("_law_wrong" : PySem.Str)]
def lo3 : List PySem.Str := [("_law_hand" : PySem.Str), ("_law_draw" : PySem.Str), ("_law_movers" : PySem.Str), ("_law_some_weaving" : PySem.Str), ("_law_flag" : PySem.Str), ("_law_is" : PySem.Str), ("_law_shrunk" : PySem.Str), ("_law_told" : PySem.Str)]
def lo : List PySem.Str := lo0 ++ lo1 ++ lo2 ++ lo3
/-! ### a Hook of one's own: the part of the heap that is looked at, forced once -/
def forceL : List (Addr × Obj) → (List (Addr × Obj) → He.AlD × Bool) → He.AlD × Bool
  | [], k => k []
  | (a, ⟨c, d, t, s⟩) :: r, k => HandSHeadRun.frNat a fun a => forceL r fun l => k ((a, ⟨c, d, t, s⟩) :: l)
theorem forceL_eq : ∀ (l : List (Addr × Obj)) (k : List (Addr × Obj) → He.AlD × Bool), forceL l k = k l
  | [], _ => rfl
  | (a, ⟨c, d, t, s⟩) :: r, k => by
    show HandSHeadRun.frNat a (fun a => forceL r fun l => k ((a, ⟨c, d, t, s⟩) :: l)) = _
    rw [HandSHeadRun.frNat_eq, forceL_eq r]
def isDun (x : Str) : Bool := match x.cps.toList with
  | 95 :: 95 :: _ => true
  | _ => false
def entV (o : Obj) : List Addr := match o.data with
  | .dict es _ => es.toList.filterMap fun e => match e.key, e.val with
    | .str x _, .ref a => (match isDun x with | true => none | false => some a)
    | _, _ => none
  | _ => []
def allV (o : Obj) : List Addr := match o.data with
  | .dict es _ => es.toList.flatMap fun e => He.refV e.val
  | _ => []
def nxt (o : Obj) : List Addr := match o.data with
  | .func fd => He.refV fd.code
  | .cls cd => [cd.ns]
  | _ => []
def via (g : Addr → Option Obj) (f : Obj → List Addr) (l : List Addr) : List Addr := l.flatMap fun a => match g a with
  | some o => f o
  | none => []
def reach (g : Addr → Option Obj) : List Addr :=
  (fun l0 => (fun l1 => (fun l2 => mainGlobals :: (l0 ++ (l1 ++ (l2 ++ via g nxt l2)))) (via g allV l1)) (via g nxt l0)) (via g entV [mainGlobals])
def ofK (fa : List He.Fa) (fn : List He.DefD) (ex : PySem.W.Frag → Bool) (K : PySem.W.Frag) : He.AlD × Bool := (He.obsD fa fn K, ex K)
def hookA (fa : List He.Fa) (fn : List He.DefD) (ex : PySem.W.Frag → Bool) : PySem.W.Hook where
  α := He.AlD × Bool
  obs := fun s => forceL (He.frG s.heap.get? (reach s.heap.get?)) (ofK fa fn ex)
  val := fun _ => (He.valD fn, true)
  says := fun _ h => ∃ K : PySem.W.Frag, K.In h ∧ He.SaysD fa fn K ∧ ex K = true
  of := fun _ s e => ⟨He.frG s.heap.get? (reach s.heap.get?), He.frG_in, by
    rw [forceL_eq] at e
    exact ⟨congrArg (fun z : He.AlD × Bool => z.1) e, congrArg (fun z : He.AlD × Bool => z.2) e⟩⟩
  keeps := fun _ _ _ ⟨K, hK, c⟩ k => ⟨K, PySem.W.Frag.In.keeps hK k, c⟩
abbrev R : PySem.W.OpenRow := PySem.W.OpenLaw.row PySem.Challenge.rw_onepicture_k22_whole_weavings_shrunk
abbrev hk : PySem.W.Hook := hookA fa fn exB
def ob (s : PySem.W.SharedT) : He.AlD × Bool := forceL (He.frG (HandSHeadRun.getT s) (reach (HandSHeadRun.getT s))) (ofK fa fn exB)
theorem ob_eq (s : PySem.W.SharedT) : ob s = hk.obs s.abs := by
  have e : HandSHeadRun.getT s = s.abs.heap.get? := funext (HandSHeadRun.getT_eq s)
  unfold ob
  rw [e] <;> rfl
end Hd
set_option Elab.async false
set_option linter.all false
set_option maxRecDepth 100000
set_option maxHeartbeats 4000000
/-! what the head tells, by names -/
namespace Bs
open PySem PySem.Spec PyProof.Rows L2
structure Tx (K : PySem.W.Frag) (mg : Str → Option Value) : Prop where
  ex : ∃ h : Heap, K.In h ∧ h.Ns mainGlobals mg
  c : He.SaysD Hd.fa Hd.fn K
  e : Hd.exB K = true
theorem all_at {l : List Bool} (h : l.all id = true) {i : Nat} {b : Bool} (e : l[i]? = some b) : b = true := List.all_eq_true.mp h b (List.mem_of_getElem? e)
section
variable {K : PySem.W.Frag} {mg : Str → Option Value}
theorem Tx.d_is_integer (T : Tx K mg) : ∃ fd, FunD K "is_integer" "is_integer" (defArgs Hd.s_is_integer) (defBody Hd.s_is_integer) (defScope Hd.s_is_integer) [] [] (He.ga K "is_integer") fd := T.c.def_ 0 rfl
theorem Tx.d_is_within (T : Tx K mg) : ∃ fd, FunD K "is_within" "is_within" (defArgs Hd.s_is_within) (defBody Hd.s_is_within) (defScope Hd.s_is_within) [] [] (He.ga K "is_within") fd := T.c.def_ 1 rfl
theorem Tx.d_is_below (T : Tx K mg) : ∃ fd, FunD K "is_below" "is_below" (defArgs Hd.s_is_below) (defBody Hd.s_is_below) (defScope Hd.s_is_below) [] [] (He.ga K "is_below") fd := T.c.def_ 2 rfl
theorem Tx.d_is_sized (T : Tx K mg) : ∃ fd, FunD K "is_sized" "is_sized" (defArgs Hd.s_is_sized) (defBody Hd.s_is_sized) (defScope Hd.s_is_sized) [] [] (He.ga K "is_sized") fd := T.c.def_ 3 rfl
theorem Tx.d_is_listed (T : Tx K mg) : ∃ fd, FunD K "is_listed" "is_listed" (defArgs Hd.s_is_listed) (defBody Hd.s_is_listed) (defScope Hd.s_is_listed) [] [] (He.ga K "is_listed") fd := T.c.def_ 4 rfl
theorem Tx.d_replaced (T : Tx K mg) : ∃ fd, FunD K "replaced" "replaced" (defArgs Hd.s_replaced) (defBody Hd.s_replaced) (defScope Hd.s_replaced) [] [] (He.ga K "replaced") fd := T.c.def_ 5 rfl
theorem Tx.d_is_deed (T : Tx K mg) : ∃ fd, FunD K "is_deed" "is_deed" (defArgs Hd.s_is_deed) (defBody Hd.s_is_deed) (defScope Hd.s_is_deed) [] [] (He.ga K "is_deed") fd := T.c.def_ 6 rfl
theorem Tx.d_is_script (T : Tx K mg) : ∃ fd, FunD K "is_script" "is_script" (defArgs Hd.s_is_script) (defBody Hd.s_is_script) (defScope Hd.s_is_script) [] [] (He.ga K "is_script") fd := T.c.def_ 7 rfl
theorem Tx.d_is_row_of (T : Tx K mg) : ∃ fd, FunD K "is_row_of" "is_row_of" (defArgs Hd.s_is_row_of) (defBody Hd.s_is_row_of) (defScope Hd.s_is_row_of) [] [] (He.ga K "is_row_of") fd := T.c.def_ 8 rfl
theorem Tx.d_are_inputs (T : Tx K mg) : ∃ fd, FunD K "are_inputs" "are_inputs" (defArgs Hd.s_are_inputs) (defBody Hd.s_are_inputs) (defScope Hd.s_are_inputs) [] [] (He.ga K "are_inputs") fd := T.c.def_ 9 rfl
theorem Tx.d_is_hand (T : Tx K mg) : ∃ fd, FunD K "is_hand" "is_hand" (defArgs Hd.s_is_hand) (defBody Hd.s_is_hand) (defScope Hd.s_is_hand) [] [] (He.ga K "is_hand") fd := T.c.def_ 10 rfl
theorem Tx.d_fresh (T : Tx K mg) : ∃ fd, FunD K "fresh" "fresh" (defArgs Hd.s_fresh) (defBody Hd.s_fresh) (defScope Hd.s_fresh) [] [] (He.ga K "fresh") fd := T.c.def_ 11 rfl
theorem Tx.d_manner_cell (T : Tx K mg) : ∃ fd, FunD K "manner_cell" "manner_cell" (defArgs Hd.s_manner_cell) (defBody Hd.s_manner_cell) (defScope Hd.s_manner_cell) [] [] (He.ga K "manner_cell") fd := T.c.def_ 12 rfl
theorem Tx.d_manner_state (T : Tx K mg) : ∃ fd, FunD K "manner_state" "manner_state" (defArgs Hd.s_manner_state) (defBody Hd.s_manner_state) (defScope Hd.s_manner_state) [] [] (He.ga K "manner_state") fd := T.c.def_ 13 rfl
theorem Tx.d_is_put_next (T : Tx K mg) : ∃ fd, FunD K "is_put_next" "is_put_next" (defArgs Hd.s_is_put_next) (defBody Hd.s_is_put_next) (defScope Hd.s_is_put_next) [] [] (He.ga K "is_put_next") fd := T.c.def_ 14 rfl
theorem Tx.d_manner_next (T : Tx K mg) : ∃ fd, FunD K "manner_next" "manner_next" (defArgs Hd.s_manner_next) (defBody Hd.s_manner_next) (defScope Hd.s_manner_next) [] [] (He.ga K "manner_next") fd := T.c.def_ 15 rfl
theorem Tx.d_picture_of (T : Tx K mg) : ∃ fd, FunD K "picture_of" "picture_of" (defArgs Hd.s_picture_of) (defBody Hd.s_picture_of) (defScope Hd.s_picture_of) [] [] (He.ga K "picture_of") fd := T.c.def_ 16 rfl
theorem Tx.d_result_of (T : Tx K mg) : ∃ fd, FunD K "result_of" "result_of" (defArgs Hd.s_result_of) (defBody Hd.s_result_of) (defScope Hd.s_result_of) [] [] (He.ga K "result_of") fd := T.c.def_ 17 rfl
theorem Tx.d_after_sweep (T : Tx K mg) : ∃ fd, FunD K "after_sweep" "after_sweep" (defArgs Hd.s_after_sweep) (defBody Hd.s_after_sweep) (defScope Hd.s_after_sweep) [] [] (He.ga K "after_sweep") fd := T.c.def_ 18 rfl
theorem Tx.d_manner_after (T : Tx K mg) : ∃ fd, FunD K "manner_after" "manner_after" (defArgs Hd.s_manner_after) (defBody Hd.s_manner_after) (defScope Hd.s_manner_after) [] [] (He.ga K "manner_after") fd := T.c.def_ 19 rfl
theorem Tx.d_begins_look (T : Tx K mg) : ∃ fd, FunD K "begins_look" "begins_look" (defArgs Hd.s_begins_look) (defBody Hd.s_begins_look) (defScope Hd.s_begins_look) [] [] (He.ga K "begins_look") fd := T.c.def_ 20 rfl
theorem Tx.d_cell_of (T : Tx K mg) : ∃ fd, FunD K "cell_of" "cell_of" (defArgs Hd.s_cell_of) (defBody Hd.s_cell_of) (defScope Hd.s_cell_of) [] [] (He.ga K "cell_of") fd := T.c.def_ 21 rfl
theorem Tx.d_state_of (T : Tx K mg) : ∃ fd, FunD K "state_of" "state_of" (defArgs Hd.s_state_of) (defBody Hd.s_state_of) (defScope Hd.s_state_of) [] [] (He.ga K "state_of") fd := T.c.def_ 22 rfl
theorem Tx.d_next_of (T : Tx K mg) : ∃ fd, FunD K "next_of" "next_of" (defArgs Hd.s_next_of) (defBody Hd.s_next_of) (defScope Hd.s_next_of) [] [] (He.ga K "next_of") fd := T.c.def_ 23 rfl
theorem Tx.d_after_of (T : Tx K mg) : ∃ fd, FunD K "after_of" "after_of" (defArgs Hd.s_after_of) (defBody Hd.s_after_of) (defScope Hd.s_after_of) [] [] (He.ga K "after_of") fd := T.c.def_ 24 rfl
theorem Tx.d_begun (T : Tx K mg) : ∃ fd, FunD K "begun" "begun" (defArgs Hd.s_begun) (defBody Hd.s_begun) (defScope Hd.s_begun) [] [] (He.ga K "begun") fd := T.c.def_ 25 rfl
theorem Tx.d_after_step (T : Tx K mg) : ∃ fd, FunD K "after_step" "after_step" (defArgs Hd.s_after_step) (defBody Hd.s_after_step) (defScope Hd.s_after_step) [] [] (He.ga K "after_step") fd := T.c.def_ 26 rfl
theorem Tx.d_standings_of (T : Tx K mg) : ∃ fd, FunD K "standings_of" "standings_of" (defArgs Hd.s_standings_of) (defBody Hd.s_standings_of) (defScope Hd.s_standings_of) [] [] (He.ga K "standings_of") fd := T.c.def_ 27 rfl
theorem Tx.d_result_now (T : Tx K mg) : ∃ fd, FunD K "result_now" "result_now" (defArgs Hd.s_result_now) (defBody Hd.s_result_now) (defScope Hd.s_result_now) [] [] (He.ga K "result_now") fd := T.c.def_ 28 rfl
theorem Tx.d_all_looks (T : Tx K mg) : ∃ fd, FunD K "all_looks" "all_looks" (defArgs Hd.s_all_looks) (defBody Hd.s_all_looks) (defScope Hd.s_all_looks) [] [] (He.ga K "all_looks") fd := T.c.def_ 29 rfl
theorem Tx.d_moment_of (T : Tx K mg) : ∃ fd, FunD K "moment_of" "moment_of" (defArgs Hd.s_moment_of) (defBody Hd.s_moment_of) (defScope Hd.s_moment_of) [] [] (He.ga K "moment_of") fd := T.c.def_ 30 rfl
theorem Tx.d_pictures_of (T : Tx K mg) : ∃ fd, FunD K "pictures_of" "pictures_of" (defArgs Hd.s_pictures_of) (defBody Hd.s_pictures_of) (defScope Hd.s_pictures_of) [] [] (He.ga K "pictures_of") fd := T.c.def_ 31 rfl
theorem Tx.d_least_moments (T : Tx K mg) : ∃ fd, FunD K "least_moments" "least_moments" (defArgs Hd.s_least_moments) (defBody Hd.s_least_moments) (defScope Hd.s_least_moments) [] [] (He.ga K "least_moments") fd := T.c.def_ 32 rfl
theorem Tx.d_is_bad (T : Tx K mg) : ∃ fd, FunD K "is_bad" "is_bad" (defArgs Hd.s_is_bad) (defBody Hd.s_is_bad) (defScope Hd.s_is_bad) [] [] (He.ga K "is_bad") fd := T.c.def_ 33 rfl
theorem Tx.d_is_wrong (T : Tx K mg) : ∃ fd, FunD K "is_wrong" "is_wrong" (defArgs Hd.s_is_wrong) (defBody Hd.s_is_wrong) (defScope Hd.s_is_wrong) [] [] (He.ga K "is_wrong") fd := T.c.def_ 34 rfl
theorem Tx.d_is_weaving (T : Tx K mg) : ∃ fd, FunD K "is_weaving" "is_weaving" (defArgs Hd.s_is_weaving) (defBody Hd.s_is_weaving) (defScope Hd.s_is_weaving) [] [] (He.ga K "is_weaving") fd := T.c.def_ 35 rfl
theorem Tx.d_without_one (T : Tx K mg) : ∃ fd, FunD K "without_one" "without_one" (defArgs Hd.s_without_one) (defBody Hd.s_without_one) (defScope Hd.s_without_one) [] [] (He.ga K "without_one") fd := T.c.def_ 36 rfl
theorem Tx.d_shrunk (T : Tx K mg) : ∃ fd, FunD K "shrunk" "shrunk" (defArgs Hd.s_shrunk) (defBody Hd.s_shrunk) (defScope Hd.s_shrunk) [] [] (He.ga K "shrunk") fd := T.c.def_ 37 rfl
theorem Tx.d__law_fresh (T : Tx K mg) : ∃ fd, FunD K "_law_fresh" "_law_fresh" (defArgs Hd.z_law_fresh) (defBody Hd.z_law_fresh) (defScope Hd.z_law_fresh) [] [] (He.ga K "_law_fresh") fd := T.c.def_ 38 rfl
theorem Tx.d__law_begun (T : Tx K mg) : ∃ fd, FunD K "_law_begun" "_law_begun" (defArgs Hd.z_law_begun) (defBody Hd.z_law_begun) (defScope Hd.z_law_begun) [] [] (He.ga K "_law_begun") fd := T.c.def_ 39 rfl
theorem Tx.d__law_manner (T : Tx K mg) : ∃ fd, FunD K "_law_manner" "_law_manner" (defArgs Hd.z_law_manner) (defBody Hd.z_law_manner) (defScope Hd.z_law_manner) [] [] (He.ga K "_law_manner") fd := T.c.def_ 40 rfl
theorem Tx.d__law_behind (T : Tx K mg) : ∃ fd, FunD K "_law_behind" "_law_behind" (defArgs Hd.z_law_behind) (defBody Hd.z_law_behind) (defScope Hd.z_law_behind) [] [] (He.ga K "_law_behind") fd := T.c.def_ 41 rfl
theorem Tx.d__law_wrong (T : Tx K mg) : ∃ fd, FunD K "_law_wrong" "_law_wrong" (defArgs Hd.z_law_wrong) (defBody Hd.z_law_wrong) (defScope Hd.z_law_wrong) [] [] (He.ga K "_law_wrong") fd := T.c.def_ 42 rfl
theorem Tx.d__law_hand (T : Tx K mg) : ∃ fd, FunD K "_law_hand" "_law_hand" (defArgs Hd.z_law_hand) (defBody Hd.z_law_hand) (defScope Hd.z_law_hand) [] [] (He.ga K "_law_hand") fd := T.c.def_ 43 rfl
theorem Tx.d__law_draw (T : Tx K mg) : ∃ fd, FunD K "_law_draw" "_law_draw" (defArgs Hd.z_law_draw) (defBody Hd.z_law_draw) (defScope Hd.z_law_draw) [] [] (He.ga K "_law_draw") fd := T.c.def_ 44 rfl
theorem Tx.d__law_movers (T : Tx K mg) : ∃ fd, FunD K "_law_movers" "_law_movers" (defArgs Hd.z_law_movers) (defBody Hd.z_law_movers) (defScope Hd.z_law_movers) [] [] (He.ga K "_law_movers") fd := T.c.def_ 45 rfl
theorem Tx.d__law_some_weaving (T : Tx K mg) : ∃ fd, FunD K "_law_some_weaving" "_law_some_weaving" (defArgs Hd.z_law_some_weaving) (defBody Hd.z_law_some_weaving) (defScope Hd.z_law_some_weaving) [] [] (He.ga K "_law_some_weaving") fd := T.c.def_ 46 rfl
theorem Tx.d__law_flag (T : Tx K mg) : ∃ fd, FunD K "_law_flag" "_law_flag" (defArgs Hd.z_law_flag) (defBody Hd.z_law_flag) (defScope Hd.z_law_flag) [] [] (He.ga K "_law_flag") fd := T.c.def_ 47 rfl
theorem Tx.d__law_is (T : Tx K mg) : ∃ fd, FunD K "_law_is" "_law_is" (defArgs Hd.z_law_is) (defBody Hd.z_law_is) (defScope Hd.z_law_is) [] [] (He.ga K "_law_is") fd := T.c.def_ 48 rfl
theorem Tx.d__law_shrunk (T : Tx K mg) : ∃ fd, FunD K "_law_shrunk" "_law_shrunk" (defArgs Hd.z_law_shrunk) (defBody Hd.z_law_shrunk) (defScope Hd.z_law_shrunk) [] [] (He.ga K "_law_shrunk") fd := T.c.def_ 49 rfl
theorem Tx.d__law_told (T : Tx K mg) : ∃ fd, FunD K "_law_told" "_law_told" (defArgs Hd.z_law_told) (defBody Hd.z_law_told) (defScope Hd.z_law_told) [] [] (He.ga K "_law_told") fd := T.c.def_ 50 rfl
theorem Tx.d_law (T : Tx K mg) : ∃ fd, FunD K "law" "law" (defArgs Hd.s_law) (defBody Hd.s_law) (defScope Hd.s_law) [] [] (He.ga K "law") fd := T.c.def_ 51 rfl
theorem Tx.d_Play (T : Tx K mg) : ∃ fd, FunD K "__init__" "Play.__init__" (defArgs Hd.s_Play) (defBody Hd.s_Play) (defScope Hd.s_Play) [] [] (He.ma K (He.ga K "Play") "__init__") fd := T.c.def_ 52 rfl
theorem Tx.d_NoWeaving (T : Tx K mg) : ∃ fd, FunD K "__init__" "NoWeaving.__init__" (defArgs Hd.s_NoWeaving) (defBody Hd.s_NoWeaving) (defScope Hd.s_NoWeaving) [] [] (He.ma K (He.ga K "NoWeaving") "__init__") fd := T.c.def_ 53 rfl
theorem Tx.g_is_integer (T : Tx K mg) : mg "is_integer" = some (.ref (He.ga K "is_integer")) := let ⟨_, X, G⟩ := T.ex; He.glo_ok X G (T.c.fact 0 rfl)
theorem Tx.g_is_within (T : Tx K mg) : mg "is_within" = some (.ref (He.ga K "is_within")) := let ⟨_, X, G⟩ := T.ex; He.glo_ok X G (T.c.fact 1 rfl)
theorem Tx.g_is_below (T : Tx K mg) : mg "is_below" = some (.ref (He.ga K "is_below")) := let ⟨_, X, G⟩ := T.ex; He.glo_ok X G (T.c.fact 2 rfl)
theorem Tx.g_is_sized (T : Tx K mg) : mg "is_sized" = some (.ref (He.ga K "is_sized")) := let ⟨_, X, G⟩ := T.ex; He.glo_ok X G (T.c.fact 3 rfl)
theorem Tx.g_is_listed (T : Tx K mg) : mg "is_listed" = some (.ref (He.ga K "is_listed")) := let ⟨_, X, G⟩ := T.ex; He.glo_ok X G (T.c.fact 4 rfl)
theorem Tx.g_replaced (T : Tx K mg) : mg "replaced" = some (.ref (He.ga K "replaced")) := let ⟨_, X, G⟩ := T.ex; He.glo_ok X G (T.c.fact 5 rfl)
theorem Tx.g_is_deed (T : Tx K mg) : mg "is_deed" = some (.ref (He.ga K "is_deed")) := let ⟨_, X, G⟩ := T.ex; He.glo_ok X G (T.c.fact 6 rfl)
theorem Tx.g_is_script (T : Tx K mg) : mg "is_script" = some (.ref (He.ga K "is_script")) := let ⟨_, X, G⟩ := T.ex; He.glo_ok X G (T.c.fact 7 rfl)
theorem Tx.g_is_row_of (T : Tx K mg) : mg "is_row_of" = some (.ref (He.ga K "is_row_of")) := let ⟨_, X, G⟩ := T.ex; He.glo_ok X G (T.c.fact 8 rfl)
theorem Tx.g_are_inputs (T : Tx K mg) : mg "are_inputs" = some (.ref (He.ga K "are_inputs")) := let ⟨_, X, G⟩ := T.ex; He.glo_ok X G (T.c.fact 9 rfl)
theorem Tx.g_is_hand (T : Tx K mg) : mg "is_hand" = some (.ref (He.ga K "is_hand")) := let ⟨_, X, G⟩ := T.ex; He.glo_ok X G (T.c.fact 10 rfl)
theorem Tx.g_fresh (T : Tx K mg) : mg "fresh" = some (.ref (He.ga K "fresh")) := let ⟨_, X, G⟩ := T.ex; He.glo_ok X G (T.c.fact 11 rfl)
theorem Tx.g_manner_cell (T : Tx K mg) : mg "manner_cell" = some (.ref (He.ga K "manner_cell")) := let ⟨_, X, G⟩ := T.ex; He.glo_ok X G (T.c.fact 12 rfl)
theorem Tx.g_manner_state (T : Tx K mg) : mg "manner_state" = some (.ref (He.ga K "manner_state")) := let ⟨_, X, G⟩ := T.ex; He.glo_ok X G (T.c.fact 13 rfl)
theorem Tx.g_is_put_next (T : Tx K mg) : mg "is_put_next" = some (.ref (He.ga K "is_put_next")) := let ⟨_, X, G⟩ := T.ex; He.glo_ok X G (T.c.fact 14 rfl)
theorem Tx.g_manner_next (T : Tx K mg) : mg "manner_next" = some (.ref (He.ga K "manner_next")) := let ⟨_, X, G⟩ := T.ex; He.glo_ok X G (T.c.fact 15 rfl)
theorem Tx.g_picture_of (T : Tx K mg) : mg "picture_of" = some (.ref (He.ga K "picture_of")) := let ⟨_, X, G⟩ := T.ex; He.glo_ok X G (T.c.fact 16 rfl)
theorem Tx.g_result_of (T : Tx K mg) : mg "result_of" = some (.ref (He.ga K "result_of")) := let ⟨_, X, G⟩ := T.ex; He.glo_ok X G (T.c.fact 17 rfl)
theorem Tx.g_after_sweep (T : Tx K mg) : mg "after_sweep" = some (.ref (He.ga K "after_sweep")) := let ⟨_, X, G⟩ := T.ex; He.glo_ok X G (T.c.fact 18 rfl)
theorem Tx.g_manner_after (T : Tx K mg) : mg "manner_after" = some (.ref (He.ga K "manner_after")) := let ⟨_, X, G⟩ := T.ex; He.glo_ok X G (T.c.fact 19 rfl)
theorem Tx.g_begins_look (T : Tx K mg) : mg "begins_look" = some (.ref (He.ga K "begins_look")) := let ⟨_, X, G⟩ := T.ex; He.glo_ok X G (T.c.fact 20 rfl)
theorem Tx.g_cell_of (T : Tx K mg) : mg "cell_of" = some (.ref (He.ga K "cell_of")) := let ⟨_, X, G⟩ := T.ex; He.glo_ok X G (T.c.fact 21 rfl)
theorem Tx.g_state_of (T : Tx K mg) : mg "state_of" = some (.ref (He.ga K "state_of")) := let ⟨_, X, G⟩ := T.ex; He.glo_ok X G (T.c.fact 22 rfl)
theorem Tx.g_next_of (T : Tx K mg) : mg "next_of" = some (.ref (He.ga K "next_of")) := let ⟨_, X, G⟩ := T.ex; He.glo_ok X G (T.c.fact 23 rfl)
theorem Tx.g_after_of (T : Tx K mg) : mg "after_of" = some (.ref (He.ga K "after_of")) := let ⟨_, X, G⟩ := T.ex; He.glo_ok X G (T.c.fact 24 rfl)
theorem Tx.g_begun (T : Tx K mg) : mg "begun" = some (.ref (He.ga K "begun")) := let ⟨_, X, G⟩ := T.ex; He.glo_ok X G (T.c.fact 25 rfl)
theorem Tx.g_after_step (T : Tx K mg) : mg "after_step" = some (.ref (He.ga K "after_step")) := let ⟨_, X, G⟩ := T.ex; He.glo_ok X G (T.c.fact 26 rfl)
theorem Tx.g_standings_of (T : Tx K mg) : mg "standings_of" = some (.ref (He.ga K "standings_of")) := let ⟨_, X, G⟩ := T.ex; He.glo_ok X G (T.c.fact 27 rfl)
theorem Tx.g_result_now (T : Tx K mg) : mg "result_now" = some (.ref (He.ga K "result_now")) := let ⟨_, X, G⟩ := T.ex; He.glo_ok X G (T.c.fact 28 rfl)
theorem Tx.g_all_looks (T : Tx K mg) : mg "all_looks" = some (.ref (He.ga K "all_looks")) := let ⟨_, X, G⟩ := T.ex; He.glo_ok X G (T.c.fact 29 rfl)
theorem Tx.g_moment_of (T : Tx K mg) : mg "moment_of" = some (.ref (He.ga K "moment_of")) := let ⟨_, X, G⟩ := T.ex; He.glo_ok X G (T.c.fact 30 rfl)
theorem Tx.g_pictures_of (T : Tx K mg) : mg "pictures_of" = some (.ref (He.ga K "pictures_of")) := let ⟨_, X, G⟩ := T.ex; He.glo_ok X G (T.c.fact 31 rfl)
theorem Tx.g_least_moments (T : Tx K mg) : mg "least_moments" = some (.ref (He.ga K "least_moments")) := let ⟨_, X, G⟩ := T.ex; He.glo_ok X G (T.c.fact 32 rfl)
theorem Tx.g_is_bad (T : Tx K mg) : mg "is_bad" = some (.ref (He.ga K "is_bad")) := let ⟨_, X, G⟩ := T.ex; He.glo_ok X G (T.c.fact 33 rfl)
theorem Tx.g_is_wrong (T : Tx K mg) : mg "is_wrong" = some (.ref (He.ga K "is_wrong")) := let ⟨_, X, G⟩ := T.ex; He.glo_ok X G (T.c.fact 34 rfl)
theorem Tx.g_is_weaving (T : Tx K mg) : mg "is_weaving" = some (.ref (He.ga K "is_weaving")) := let ⟨_, X, G⟩ := T.ex; He.glo_ok X G (T.c.fact 35 rfl)
theorem Tx.g_without_one (T : Tx K mg) : mg "without_one" = some (.ref (He.ga K "without_one")) := let ⟨_, X, G⟩ := T.ex; He.glo_ok X G (T.c.fact 36 rfl)
theorem Tx.g_shrunk (T : Tx K mg) : mg "shrunk" = some (.ref (He.ga K "shrunk")) := let ⟨_, X, G⟩ := T.ex; He.glo_ok X G (T.c.fact 37 rfl)
theorem Tx.g__law_fresh (T : Tx K mg) : mg "_law_fresh" = some (.ref (He.ga K "_law_fresh")) := let ⟨_, X, G⟩ := T.ex; He.glo_ok X G (T.c.fact 38 rfl)
theorem Tx.g__law_begun (T : Tx K mg) : mg "_law_begun" = some (.ref (He.ga K "_law_begun")) := let ⟨_, X, G⟩ := T.ex; He.glo_ok X G (T.c.fact 39 rfl)
theorem Tx.g__law_manner (T : Tx K mg) : mg "_law_manner" = some (.ref (He.ga K "_law_manner")) := let ⟨_, X, G⟩ := T.ex; He.glo_ok X G (T.c.fact 40 rfl)
theorem Tx.g__law_behind (T : Tx K mg) : mg "_law_behind" = some (.ref (He.ga K "_law_behind")) := let ⟨_, X, G⟩ := T.ex; He.glo_ok X G (T.c.fact 41 rfl)
theorem Tx.g__law_wrong (T : Tx K mg) : mg "_law_wrong" = some (.ref (He.ga K "_law_wrong")) := let ⟨_, X, G⟩ := T.ex; He.glo_ok X G (T.c.fact 42 rfl)
theorem Tx.g__law_hand (T : Tx K mg) : mg "_law_hand" = some (.ref (He.ga K "_law_hand")) := let ⟨_, X, G⟩ := T.ex; He.glo_ok X G (T.c.fact 43 rfl)
theorem Tx.g__law_draw (T : Tx K mg) : mg "_law_draw" = some (.ref (He.ga K "_law_draw")) := let ⟨_, X, G⟩ := T.ex; He.glo_ok X G (T.c.fact 44 rfl)
theorem Tx.g__law_movers (T : Tx K mg) : mg "_law_movers" = some (.ref (He.ga K "_law_movers")) := let ⟨_, X, G⟩ := T.ex; He.glo_ok X G (T.c.fact 45 rfl)
theorem Tx.g__law_some_weaving (T : Tx K mg) : mg "_law_some_weaving" = some (.ref (He.ga K "_law_some_weaving")) := let ⟨_, X, G⟩ := T.ex; He.glo_ok X G (T.c.fact 46 rfl)
theorem Tx.g__law_flag (T : Tx K mg) : mg "_law_flag" = some (.ref (He.ga K "_law_flag")) := let ⟨_, X, G⟩ := T.ex; He.glo_ok X G (T.c.fact 47 rfl)
theorem Tx.g__law_is (T : Tx K mg) : mg "_law_is" = some (.ref (He.ga K "_law_is")) := let ⟨_, X, G⟩ := T.ex; He.glo_ok X G (T.c.fact 48 rfl)
theorem Tx.g__law_shrunk (T : Tx K mg) : mg "_law_shrunk" = some (.ref (He.ga K "_law_shrunk")) := let ⟨_, X, G⟩ := T.ex; He.glo_ok X G (T.c.fact 49 rfl)
theorem Tx.g__law_told (T : Tx K mg) : mg "_law_told" = some (.ref (He.ga K "_law_told")) := let ⟨_, X, G⟩ := T.ex; He.glo_ok X G (T.c.fact 50 rfl)
theorem Tx.g_law (T : Tx K mg) : mg "law" = some (.ref (He.ga K "law")) := let ⟨_, X, G⟩ := T.ex; He.glo_ok X G (T.c.fact 51 rfl)
theorem Tx.g_Play (T : Tx K mg) : mg "Play" = some (.ref (He.ga K "Play")) := let ⟨_, X, G⟩ := T.ex; He.glo_ok X G (T.c.fact 52 rfl)
theorem Tx.g_NoWeaving (T : Tx K mg) : mg "NoWeaving" = some (.ref (He.ga K "NoWeaving")) := let ⟨_, X, G⟩ := T.ex; He.glo_ok X G (T.c.fact 53 rfl)
theorem Tx.g_NotWrong (T : Tx K mg) : mg "NotWrong" = some (.ref (He.ga K "NotWrong")) := let ⟨_, X, G⟩ := T.ex; He.glo_ok X G (T.c.fact 54 rfl)
theorem Tx.g_PictureError (T : Tx K mg) : mg "PictureError" = some (.ref (He.ga K "PictureError")) := let ⟨_, X, G⟩ := T.ex; He.glo_ok X G (T.c.fact 55 rfl)
theorem Tx.g_MANNERS (T : Tx K mg) : mg "MANNERS" = some (.ref (He.ga K "MANNERS")) := let ⟨_, X, G⟩ := T.ex; He.glo_ok X G (T.c.fact 56 rfl)
theorem Tx.g_FIRST_CELL (T : Tx K mg) : mg "FIRST_CELL" = some (.ref (He.ga K "FIRST_CELL")) := let ⟨_, X, G⟩ := T.ex; He.glo_ok X G (T.c.fact 57 rfl)
theorem Tx.n_isinstance (T : Tx K mg) : mg "isinstance" = none := let ⟨_, X, G⟩ := T.ex; He.free_ok X G (T.c.fact 58 rfl)
theorem Tx.n_len (T : Tx K mg) : mg "len" = none := let ⟨_, X, G⟩ := T.ex; He.free_ok X G (T.c.fact 59 rfl)
theorem Tx.n_all (T : Tx K mg) : mg "all" = none := let ⟨_, X, G⟩ := T.ex; He.free_ok X G (T.c.fact 60 rfl)
theorem Tx.n_tuple (T : Tx K mg) : mg "tuple" = none := let ⟨_, X, G⟩ := T.ex; He.free_ok X G (T.c.fact 61 rfl)
theorem Tx.n_list (T : Tx K mg) : mg "list" = none := let ⟨_, X, G⟩ := T.ex; He.free_ok X G (T.c.fact 62 rfl)
theorem Tx.n_range (T : Tx K mg) : mg "range" = none := let ⟨_, X, G⟩ := T.ex; He.free_ok X G (T.c.fact 63 rfl)
theorem Tx.n_zip (T : Tx K mg) : mg "zip" = none := let ⟨_, X, G⟩ := T.ex; He.free_ok X G (T.c.fact 64 rfl)
theorem Tx.n_enumerate (T : Tx K mg) : mg "enumerate" = none := let ⟨_, X, G⟩ := T.ex; He.free_ok X G (T.c.fact 65 rfl)
theorem Tx.n_int (T : Tx K mg) : mg "int" = none := let ⟨_, X, G⟩ := T.ex; He.free_ok X G (T.c.fact 66 rfl)
theorem Tx.n_bool (T : Tx K mg) : mg "bool" = none := let ⟨_, X, G⟩ := T.ex; He.free_ok X G (T.c.fact 67 rfl)
theorem Tx.n_str (T : Tx K mg) : mg "str" = none := let ⟨_, X, G⟩ := T.ex; He.free_ok X G (T.c.fact 68 rfl)
theorem Tx.n_abs (T : Tx K mg) : mg "abs" = none := let ⟨_, X, G⟩ := T.ex; He.free_ok X G (T.c.fact 69 rfl)
theorem Tx.n_ValueError (T : Tx K mg) : mg "ValueError" = none := let ⟨_, X, G⟩ := T.ex; He.free_ok X G (T.c.fact 70 rfl)
theorem Tx.v_SWEEP (T : Tx K mg) : GD K mg "SWEEP" (.str "sweep") := let ⟨_, X, G⟩ := T.ex; let ⟨_, h⟩ := He.str_ok X G (T.c.fact 71 rfl); ⟨.str "sweep", _, h, ⟨_, rfl⟩, fun _ _ => rfl⟩
theorem Tx.v_TWICE (T : Tx K mg) : GD K mg "TWICE" (.str "twice") := let ⟨_, X, G⟩ := T.ex; let ⟨_, h⟩ := He.str_ok X G (T.c.fact 72 rfl); ⟨.str "twice", _, h, ⟨_, rfl⟩, fun _ _ => rfl⟩
theorem Tx.v_BORROW (T : Tx K mg) : GD K mg "BORROW" (.str "borrow") := let ⟨_, X, G⟩ := T.ex; let ⟨_, h⟩ := He.str_ok X G (T.c.fact 73 rfl); ⟨.str "borrow", _, h, ⟨_, rfl⟩, fun _ _ => rfl⟩
theorem Tx.v_LEVELS (T : Tx K mg) : GD K mg "LEVELS" (.str "levels") := let ⟨_, X, G⟩ := T.ex; let ⟨_, h⟩ := He.str_ok X G (T.c.fact 74 rfl); ⟨.str "levels", _, h, ⟨_, rfl⟩, fun _ _ => rfl⟩
theorem Tx.v_NAMES (T : Tx K mg) : GD K mg "NAMES" (.str "names") := let ⟨_, X, G⟩ := T.ex; let ⟨_, h⟩ := He.str_ok X G (T.c.fact 75 rfl); ⟨.str "names", _, h, ⟨_, rfl⟩, fun _ _ => rfl⟩
theorem Tx.v_NEAR (T : Tx K mg) : GD K mg "NEAR" (.str "near") := let ⟨_, X, G⟩ := T.ex; let ⟨_, h⟩ := He.str_ok X G (T.c.fact 76 rfl); ⟨.str "near", _, h, ⟨_, rfl⟩, fun _ _ => rfl⟩
theorem Tx.v_CHAIN (T : Tx K mg) : GD K mg "CHAIN" (.str "chain") := let ⟨_, X, G⟩ := T.ex; let ⟨_, h⟩ := He.str_ok X G (T.c.fact 77 rfl); ⟨.str "chain", _, h, ⟨_, rfl⟩, fun _ _ => rfl⟩
theorem Tx.v_PUT (T : Tx K mg) : GD K mg "PUT" (.str "put") := let ⟨_, X, G⟩ := T.ex; let ⟨_, h⟩ := He.str_ok X G (T.c.fact 78 rfl); ⟨.str "put", _, h, ⟨_, rfl⟩, fun _ _ => rfl⟩
theorem Tx.v_SEE (T : Tx K mg) : GD K mg "SEE" (.str "see") := let ⟨_, X, G⟩ := T.ex; let ⟨_, h⟩ := He.str_ok X G (T.c.fact 79 rfl); ⟨.str "see", _, h, ⟨_, rfl⟩, fun _ _ => rfl⟩
theorem Tx.v_LOOK_manners (T : Tx K mg) : GD K mg "LOOK_manners" (.str "look") := let ⟨_, X, G⟩ := T.ex; let ⟨_, h⟩ := He.str_ok X G (T.c.fact 80 rfl); ⟨.str "look", _, h, ⟨_, rfl⟩, fun _ _ => rfl⟩
theorem Tx.v_MOST_HANDS (T : Tx K mg) : GD K mg "MOST_HANDS" (.int 5) := let ⟨_, X, G⟩ := T.ex; let ⟨_, h⟩ := He.int_ok X G (T.c.fact 81 rfl); ⟨.int 5, _, h, ⟨_, rfl⟩, fun _ _ => rfl⟩
theorem Tx.v_MOST_DEEDS (T : Tx K mg) : GD K mg "MOST_DEEDS" (.int 6) := let ⟨_, X, G⟩ := T.ex; let ⟨_, h⟩ := He.int_ok X G (T.c.fact 82 rfl); ⟨.int 6, _, h, ⟨_, rfl⟩, fun _ _ => rfl⟩
theorem Tx.v_MOST_VALUE (T : Tx K mg) : GD K mg "MOST_VALUE" (.int 1000) := let ⟨_, X, G⟩ := T.ex; let ⟨_, h⟩ := He.int_ok X G (T.c.fact 83 rfl); ⟨.int 1000, _, h, ⟨_, rfl⟩, fun _ _ => rfl⟩
theorem Tx.mk_Play (T : Tx K mg) : Mk K (PC K) (He.ma K (He.ga K "Play") "__init__") := He.mkr_ok (T.c.fact 85 rfl)
theorem Tx.exc_NotWrong (T : Tx K mg) : PySem.W.excIn K (He.ga K "NotWrong") He.veBase "ValueError.__new__" = true ∧ PySem.W.keepIn K (.ref (He.ga K "NotWrong")) = true ∧ PySem.W.subIn K (.ref (He.ga K "NotWrong")) (.type "BaseException") = some true ∧ PySem.W.typeIn K (.ref (He.ga K "NotWrong")) = some (.type "type") := He.exc_ok (T.c.fact 89 rfl)
theorem Tx.exm_NotWrong (T : Tx K mg) : PySem.W.exmOne K (.ref (He.ga K "NotWrong")) (.ref (He.ga K "PictureError")) = some true := He.exm_ok (T.c.fact 90 rfl)
theorem Tx.exm_NoWeaving (T : Tx K mg) : PySem.W.exmOne K (.ref (He.ga K "NoWeaving")) (.ref (He.ga K "NoWeaving")) = some true := He.exm_ok (T.c.fact 91 rfl)
theorem Tx.keep_PictureError (T : Tx K mg) : PySem.W.keepIn K (.ref (He.ga K "PictureError")) = true := He.keep_ok (T.c.fact 92 rfl)
theorem Tx.keep_NoWeaving (T : Tx K mg) : PySem.W.keepIn K (.ref (He.ga K "NoWeaving")) = true := He.keep_ok (T.c.fact 93 rfl)
theorem Tx.play (T : Tx K mg) : PlayK K := ⟨He.cls_ok (T.c.fact 84 rfl), He.noat_ok (T.c.fact 86 rfl), He.noat_ok (T.c.fact 87 rfl), He.noat_ok (T.c.fact 88 rfl)⟩
theorem Tx.v_MANNERS (T : Tx K mg) : GD K mg "MANNERS" (.tup [.str "sweep", .str "twice", .str "borrow"]) :=
  ⟨.ref _, _, T.g_MANNERS, rfl, fun M H => ⟨_, _, rfl, He.tupB_ok (all_at T.e (i := 0) rfl) H, _, _, rfl, rfl, _, _, rfl, rfl, _, _, rfl, rfl, rfl⟩⟩
theorem Tx.v_FIRST_CELL (T : Tx K mg) : GD K mg "FIRST_CELL" (.tup [.int 0, .int 0, .non]) :=
  ⟨.ref _, _, T.g_FIRST_CELL, rfl, fun M H => ⟨_, _, rfl, He.tupB_ok (all_at T.e (i := 1) rfl) H, _, _, rfl, rfl, _, _, rfl, rfl, _, _, rfl, rfl, rfl⟩⟩
theorem Tx.v_is_script (T : Tx K mg) : GD K mg "is_script" (.box (He.ga K "is_script")) := ⟨.ref _, _, T.g_is_script, rfl, fun M H => rfl⟩
end
end Bs
set_option Elab.async false
set_option linter.all false
set_option maxRecDepth 100000
set_option maxHeartbeats 4000000
/-! # The mirror: plays in the manner "sweep" in plain Lean, and how their data are laid -/
namespace Bs
open PySem PySem.Spec PyProof.Rows L2
abbrev Cell := Int × Int
inductive Deed where
  | see | put (v : Int)
abbrev Row := List Deed
/-- the state of a hand: none is over; how many deeds are done, what was looked at -/
abbrev Hs := Option (Nat × List Cell)
structure Sd where
  cells : List Cell
  states : List Hs
  told : List (List (List Cell))
def isPut : Deed → Bool
  | .see => false
  | .put _ => true
def freshS (row : Bs.Row) (done : Nat) : Hs := if done < row.length then some (done, []) else none
def begunS (rows : List Bs.Row) : Sd := ⟨rows.map fun _ => (0, 0), rows.map fun r => freshS r 0, rows.map fun _ => []⟩
/-- what a step gives: the cell that is put, the state, what is told -/
def afterS (row : Bs.Row) (cells : List Cell) (h done : Nat) (now : List Cell) : Option Cell × Hs × Option (List Cell) :=
  match row[done]? with
  | some (.put v) => (some ((cells.getD h (0, 0)).1 + 1, v), freshS row (done + 1), none)
  | _ => if now.length + 1 = cells.length then (none, freshS row (done + 1), some (now ++ [cells.getD now.length (0, 0)])) else (none, some (done, now ++ [cells.getD now.length (0, 0)]), none)
def stepS (rows : List Bs.Row) (s : Sd) (h : Nat) : Sd :=
  match s.states.getD h none with
  | none => s
  | some (done, now) =>
    let r := afterS (rows.getD h []) s.cells h done now
    ⟨(match r.1 with | some c => s.cells.set h c | none => s.cells), s.states.set h r.2.1, (match r.2.2 with | some p => s.told.set h (s.told.getD h [] ++ [p]) | none => s.told)⟩
/-! ### how the data are laid -/
def encDeed : Deed → Dt
  | .see => .tup [.str "see"]
  | .put v => .tup [.str "put", .int v]
def encRow (r : Bs.Row) : Dt := .tup (r.map encDeed)
def encRows (rows : List Bs.Row) : Dt := .tup (rows.map encRow)
def encPlay (rows : List Bs.Row) : Dt := .play (encRows rows)
def encCell (c : Cell) : Dt := .tup [.int c.1, .int c.2, .non]
def encCells (cs : List Cell) : Dt := .tup (cs.map encCell)
def encPE (c : Cell) : Dt := .tup [.int c.1, .int c.2]
def encPic (p : List Cell) : Dt := .tup (p.map encPE)
def encSt : Hs → Dt
  | none => .non
  | some (done, now) => .tup [.int (done : Nat), .non, .non, encCells now, .non]
def encTold (l : List (List Cell)) : Dt := .tup (l.map encPic)
def encSd (s : Sd) : Dt := .tup [encCells s.cells, .tup (s.states.map encSt), .tup (s.told.map encTold)]
/-- a play that is one: at most five hands, at most six deeds each, small values -/
structure PlayOk (rows : List Bs.Row) : Prop where
  n1 : 2 ≤ rows.length
  n5 : rows.length ≤ 5
  len : ∀ r ∈ rows, r.length ≤ 6
  val : ∀ r ∈ rows, ∀ d ∈ r, ∀ v, d = .put v → 0 ≤ v ∧ v ≤ 999
/-- a standing of the play -/
structure SdOk (rows : List Bs.Row) (s : Sd) : Prop where
  hc : s.cells.length = rows.length
  hs : s.states.length = rows.length
  ht : s.told.length = rows.length
  st : ∀ (h done : Nat) (now : List Cell), s.states[h]? = some (some (done, now)) → done < (rows.getD h []).length ∧ now.length < rows.length ∧ (s.told.getD h []).length ≤ done
theorem at_map {α : Type} {l : List α} {f : α → Dt} {i : Nat} {x : α} (h : l[i]? = some x) : atI (l.map f) (i : Int) = some (f x) := atI_nat (by rw [List.getElem?_map, h] <;> rfl)
theorem getD_of {α : Type} {l : List α} {i : Nat} {d x : α} (h : l[i]? = some x) : l.getD i d = x := by
  rw [List.getD_eq_getElem?_getD, h] <;> rfl
theorem get_lt {α : Type} {l : List α} {i : Nat} (d : α) (h : i < l.length) : l[i]? = some (l.getD i d) := by
  rw [List.getD_eq_getElem?_getD, List.getElem?_eq_getElem h] <;> rfl
/-- a weaving, handed as a tuple or as a list -/
def seqD (t : Bool) (w : List Nat) : Dt := if t then .tup (w.map fun (h : Nat) => Dt.int (h : Int)) else .lst (w.map fun (h : Nat) => Dt.int (h : Int))
end Bs
set_option Elab.async false
set_option linter.all false
set_option maxRecDepth 100000
set_option maxHeartbeats 4000000
/-! further rules -/
namespace Bs
open PySem PySem.Spec PyProof.Rows L2
theorem bt_tuple : bootBuiltins "tuple" = some (.type "tuple") := by decide +kernel
theorem bt_list : bootBuiltins "list" = some (.type "list") := by decide +kernel
theorem bt_str : bootBuiltins "str" = some (.type "str") := by decide +kernel
theorem bt_int : bootBuiltins "int" = some (.type "int") := by decide +kernel
theorem bt_bool : bootBuiltins "bool" = some (.type "bool") := by decide +kernel
theorem bt_len : bootBuiltins "len" = some (.builtin "len") := by decide +kernel
theorem bt_all : bootBuiltins "all" = some (.builtin "all") := by decide +kernel
theorem bt_abs : bootBuiltins "abs" = some (.builtin "abs") := by decide +kernel
theorem bt_isinstance : bootBuiltins "isinstance" = some (.builtin "isinstance") := by decide +kernel
section
variable {X : Cx} {F : Fr} {e a b c o : Expr} {es : List Expr} {E E1 E2 E3 : En} {d da db dc : Dt} {ds : List Dt} {k : Bool} {pos p : Pos} {x : Str} {j i m : Int}
theorem opd_eqK (hu : X.A.units + 64 < cLine) (n : Nat) (h1 : shp n da = true) (h2 : shp n db = true) (h : eqv da db = k) (hn : n ≤ 64 := by decide) : OpD X (compareOp .Eq) da db (.bl k) := by
  rw [← h]
  exact opd_eqD hu n h1 h2 hn
theorem opd_inK {l : List Dt} (h1 : flD d = true) (h2 : l.all flD = true) (h : inV (flV d) (l.map flV) = k) : OpD X (compareOp .In) d (.tup l) (.bl k) := by
  rw [← h]
  exact opd_inT h1 h2
theorem opd_notInK {l : List Dt} (h1 : flD d = true) (h2 : l.all flD = true) (h : (!inV (flV d) (l.map flV)) = k) : OpD X (compareOp .NotIn) d (.tup l) (.bl k) := by
  rw [← h]
  exact opd_notInT h1 h2
theorem opd_eqSK {i j : Str} (h : decide (i = j) = k) : OpD X (compareOp .Eq) (.str i) (.str j) (.bl k) := by
  rw [← h]
  exact opd_eqS
theorem opd_neSK {i j : Str} (h : (!decide (i = j)) = k) : OpD X (compareOp .NotEq) (.str i) (.str j) (.bl k) := by
  rw [← h]
  exact opd_neS
theorem opd_eqIK {i j : Int} (h : decide (i = j) = k) : OpD X (compareOp .Eq) (.int i) (.int j) (.bl k) := by
  rw [← h]
  exact opd_eqI
theorem opd_ltK {i j : Int} (h : decide (i < j) = k) : OpD X (compareOp .Lt) (.int i) (.int j) (.bl k) := by
  rw [← h]
  exact opd_lt
theorem opd_gtK {i j : Int} (h : decide (j < i) = k) : OpD X (compareOp .Gt) (.int i) (.int j) (.bl k) := by
  rw [← h]
  exact opd_gt
theorem opd_geK {i j : Int} (h : decide (j ≤ i) = k) : OpD X (compareOp .GtE) (.int i) (.int j) (.bl k) := by
  rw [← h]
  exact opd_ge
theorem opd_leK {i j : Int} (h : decide (i ≤ j) = k) : OpD X (compareOp .LtE) (.int i) (.int j) (.bl k) := by
  rw [← h]
  exact opd_le
theorem opd_isNK (h : isNon d = k) : OpD X (compareOp .Is) d .non (.bl k) := by
  rw [← h]
  exact opd_isN
theorem opd_notNK (h : (!isNon d) = k) : OpD X (compareOp .IsNot) d .non (.bl k) := by
  rw [← h]
  exact opd_notN
/-- a <= b <= c of numbers -/
theorem ev_chainLe (ha : Ev X F a E (.int j) E) (hb : Ev X F b E (.int i) E) (hc : Ev X F c E (.int m) E) (hm : lastMarks [.LtE, .LtE] [b, c] = false := by with_unfolding_all rfl) :
    Ev X F (.Compare a [.LtE, .LtE] [b, c] pos) E (.bl (decide (j ≤ i) && decide (i ≤ m))) E := by
  cases h : decide (j ≤ i) with
  | true => exact ev_chainT (opd_leK h) opd_le ha hb hc hm
  | false => exact ev_chainF (opd_leK h) ⟨_, op_le⟩ ha hb hm
/-- a call of a def that a slot holds -/
theorem ev_callL {n : Nat} {R : List Dt → Dt → Prop} {f : Addr} {y : Str} (T : Pf X.prog X.w X.K X.mg X.base y n (spR X.K R)) (hm : X.mg y = some (.ref f)) (i : Nat) (hd : E.ρ[i]? = some (some (.box f))) (hr : Room n X.A) (ha : EvA X F (e :: es) E ds E1) (h : R ds d) (hN : X.N[i]? = some x := by rfl)
    (hv : Vis X.env.scope x := by first | exact Or.inl rfl | exact Or.inr (Or.inl rfl) | exact Or.inr (Or.inr rfl)) (hdb : (x == ("__debug__" : Str)) = false := by decide) (hcd : (x == ("__classdict__" : Str)) = false := by decide)
    (he : starEach (e :: es) X.env = (false, eval e X.env) :: starEach es X.env := by rfl) (hpl : (backTo pos (starEach es X.env)).any (·.1) = false := by rfl) : Ev X F (.Call (.Name x p) (e :: es) [] pos) E d E1 :=
  let ⟨f', fd, ps, G, hm', hk, hb⟩ := T.ex; by
    have ef : f' = f := by
      rw [hm] at hm'
      injection hm' with z
      injection z with z
      exact z.symm
    subst ef
    exact ev_of ha.fit (pe_callL G hr hN hv hk hb .nil pass0 pa_ev hdb hcd he hpl) fun σ H q => by
      obtain ⟨v, ev, rv⟩ := q.at_ i _ hd
      rw [show v = _ from rv] at ev
      refine ⟨ev, tA_run ha q fun vs H1 r1 o1 p1 => ?_⟩
      have m := r1.mok
      rw [ha.fit.M] at m
      exact ⟨E.M, ds, d, m, by rw [List.append_nil]; exact p1, h, fun v H' sm rv => ⟨r1.same sm, o1.trans (.of sm), rv⟩⟩
theorem map_get {α : Type} {l : List α} {f : α → Dt} {i : Nat} {d : Dt} (h : (l.map f)[i]? = some d) : ∃ x, l[i]? = some x ∧ d = f x := by
  rw [List.getElem?_map] at h
  cases e : l[i]? with
  | none =>
    rw [e] at h
    cases h
  | some x =>
    rw [e] at h
    exact ⟨x, rfl, (Option.some.inj h).symm⟩
theorem all_bl (n : Nat) : (List.range n).map (fun _ => Dt.bl true) = (List.replicate n true).map Dt.bl := by
  induction n with
  | zero => rfl
  | succ n ih =>
    rw [List.range_succ, List.map_append, ih, List.replicate_succ', List.map_append] <;> rfl
theorem all_true (n : Nat) : (List.replicate n true).all id = true := by
  induction n with
  | zero => rfl
  | succ n ih =>
    rw [List.replicate_succ, List.all_cons, ih] <;> rfl
theorem calld_allT {n : Nat} (hc : X.calm = true) : CallD X (.builtin "all") [.lst ((List.replicate n true).map Dt.bl)] (.bl true) := by
  have h := calld_all (X := X) (bs := List.replicate n true) hc
  rw [all_true] at h
  exact h
/-- list(range(n)) -/
theorem ev_listRg {n : Nat} {p2 pos2 : Pos} (hl : X.mg "list" = none) (hr : X.mg "range" = none) (h : Ev X F a E (.int (n : Nat)) E1) (hn : n ≤ 100000) (hc : X.calm = true := by rfl) (hg : Gl X "list" := by rfl) (hg2 : Gl X "range" := by rfl)
    (na : starEach [a] X.env = (false, eval a X.env) :: starEach [] X.env := by rfl) (nb : starEach [.Call (.Name "range" p2) [a] [] pos2] X.env = (false, eval (.Call (.Name "range" p2) [a] [] pos2) X.env) :: starEach [] X.env := by rfl) :
    Ev X F (.Call (.Name "list" p) [.Call (.Name "range" p2) [a] [] pos2] [] pos) E (.lst (intsD n)) E1 :=
  ev_of h.fit (pe_listRg hc hg hl (prg_1 hg2 hr pe_ev na) nb) fun σ H q => tE_run h q fun v H1 r1 o1 e => ⟨(n : Nat), e, RgOk.of_le (by omega) (by omega) (by omega) (by omega), fun l hl => ⟨r1.same (same_up hl), o1.trans (.of (same_up hl)), by
    have m := r1.mok
    rw [h.fit.M] at m
    refine rep_lst m hl (reps_of (by rw [rgV_length, intsD_length]; omega) fun i d v e1 e2 => ?_)
    unfold intsD at e1
    unfold rgV at e2
    obtain ⟨x, hx, rfl⟩ := map_get e1
    have hi := (List.getElem?_eq_some_iff.mp hx).1
    rw [List.length_range] at hi
    rw [List.getElem?_range hi] at hx
    rw [List.getElem?_map, List.getElem?_range (by omega)] at e2
    rw [← Option.some.inj e2, ← Option.some.inj hx]
    show V.int _ = V.int _
    rw [Int.zero_add]⟩⟩
theorem range_map {α β : Type} (l : List α) (f : α → β) (d : α) : (List.range l.length).map (fun i => f (l.getD i d)) = l.map f := by
  refine List.ext_getElem? fun i => ?_
  rw [List.getElem?_map, List.getElem?_map]
  by_cases h : i < l.length
  · rw [List.getElem?_range h, get_lt d h] <;> rfl
  · rw [List.getElem?_eq_none (by rw [List.length_range]; omega), List.getElem?_eq_none (by omega)] <;> rfl
theorem rep_one (n : Nat) (d : Dt) : (List.replicate n [d]).flatten = List.replicate n d := by
  induction n with
  | zero => rfl
  | succ n ih =>
    rw [List.replicate_succ, List.flatten_cons, ih, List.replicate_succ] <;> rfl
theorem map_const {α β : Type} (l : List α) (d : β) : l.map (fun _ => d) = List.replicate l.length d := by
  induction l with
  | nil => rfl
  | cons a l ih =>
    rw [List.map_cons, ih] <;> rfl
theorem shp_cells (cs : List Cell) : shp 4 (encCells cs) = true := by
  show shps 3 (cs.map encCell) = true
  induction cs with
  | nil => rfl
  | cons c cs ih =>
    show (shp 3 (encCell c) && shps 3 (cs.map encCell)) = true
    rw [ih] <;> rfl
theorem shp_pic (cs : List Cell) : shp 4 (encPic cs) = true := by
  show shps 3 (cs.map encPE) = true
  induction cs with
  | nil => rfl
  | cons c cs ih =>
    show (shp 3 (encPE c) && shps 3 (cs.map encPE)) = true
    rw [ih] <;> rfl
theorem eqv_nil (cs : List Cell) : eqv (encCells cs) (.tup []) = cs.isEmpty := by
  cases cs <;> rfl
theorem evq {d' : Dt} (h : Ev X F e E d E1) (q : d = d') : Ev X F e E d' E1 := q ▸ h
theorem ite_never {P : Pe} {A B : List Stmt} {rest : List Stmt} (hc : EvT X F c E false E1) (hb : Run X F B E1 { P with nx := fun E' => Run X F rest E' P }) : Run X F (.If c A B pos :: rest) E P := run_if hc (fun e => Bool.noConfusion e) fun _ => hb
theorem ite_always {P : Pe} {A B : List Stmt} {rest : List Stmt} (hc : EvT X F c E true E1) (hb : Run X F A E1 { P with nx := fun E' => Run X F rest E' P }) : Run X F (.If c A B pos :: rest) E P := run_if hc (fun _ => hb) fun e => Bool.noConfusion e
end
end Bs
set_option Elab.async false
set_option linter.all false
set_option maxRecDepth 100000
set_option maxHeartbeats 4000000
namespace Bs
open PySem PySem.Spec PyProof.Rows L2
section
variable {P : Program} {w : World} {K : PySem.W.Frag} {mg : Str → Option Value} {base : Heap}

theorem ok_is_integer (T : Tx K mg) : Pf P w K mg base "is_integer" 1 (spR K fun ds d => ∃ i, ds = [.int i] ∧ d = .bl true) := by
  obtain ⟨fd, D⟩ := T.d_is_integer
  have nd : (["thing"] : List Str).Nodup := by decide +kernel
  refine pf_mk (N := ["thing"]) (ps := ["thing"]) D ⟨rfl, rfl, rfl, nd, rfl, by decide +kernel, by decide +kernel⟩ T.g_is_integer (fun _ _ _ _ _ _ us hl => match us, hl with | [_], _ => rfl)
    (fun ds d h => by
      obtain ⟨i, e, e2⟩ := h
      subst e e2
      rfl) fun cdv A outer s H E hr F ds d h => ?_
  obtain ⟨i, e, e2⟩ := h
  subst e e2
  exact run_ret (ev_andT (ev_isi (k := true) (ev_var 0 rfl) rfl (by decide +kernel) T.n_isinstance T.n_int bt_int) (ev_one (ev_not (ev_isi (k := false) (ev_var 0 rfl) rfl (by decide +kernel) T.n_isinstance T.n_bool bt_bool)))) rfl

theorem ok_is_within (T : Tx K mg) : Pf P w K mg base "is_within" 2 (spR K fun ds d => ∃ i a b, ds = [.int i, .int a, .int b] ∧ d = .bl (decide (a ≤ i) && decide (i ≤ b))) := by
  obtain ⟨fd, D⟩ := T.d_is_within
  have nd : (["thing", "least", "most"] : List Str).Nodup := by decide +kernel
  refine pf_mk (N := ["thing", "least", "most"]) (ps := ["thing", "least", "most"]) D ⟨rfl, rfl, rfl, nd, rfl, by decide +kernel, by decide +kernel⟩ T.g_is_within (fun _ _ _ _ _ _ us hl => match us, hl with | [_, _, _], _ => rfl)
    (fun ds d h => by
      obtain ⟨i, a, b, e, e2⟩ := h
      subst e e2
      rfl) fun cdv A outer s H E hr F ds d h => ?_
  obtain ⟨i, a, b, e, e2⟩ := h
  subst e e2
  exact run_ret (ev_andT (ev_call (ok_is_integer T) (hr.mono (by decide)) (eva_cons (ev_var 0 rfl) eva_nil) ⟨i, rfl, rfl⟩) (ev_one (ev_chainLe (ev_var 1 rfl) (ev_var 0 rfl) (ev_var 2 rfl)))) rfl

theorem ok_is_below (T : Tx K mg) : Pf P w K mg base "is_below" 3 (spR K fun ds d => ∃ i a, ds = [.int i, .int a] ∧ d = .bl (decide (0 ≤ i) && decide (i ≤ a - 1))) := by
  obtain ⟨fd, D⟩ := T.d_is_below
  have nd : (["thing", "many"] : List Str).Nodup := by decide +kernel
  refine pf_mk (N := ["thing", "many"]) (ps := ["thing", "many"]) D ⟨rfl, rfl, rfl, nd, rfl, by decide +kernel, by decide +kernel⟩ T.g_is_below (fun _ _ _ _ _ _ us hl => match us, hl with | [_, _], _ => rfl)
    (fun ds d h => by
      obtain ⟨i, a, e, e2⟩ := h
      subst e e2
      rfl) fun cdv A outer s H E hr F ds d h => ?_
  obtain ⟨i, a, e, e2⟩ := h
  subst e e2
  exact run_ret (ev_call (ok_is_within T) (hr.mono (by decide)) (eva_cons (ev_var 0 rfl) (eva_cons ev_int (eva_cons (ev_bin opd_sub (ev_var 1 rfl) ev_int) eva_nil))) ⟨i, 0, a - 1, rfl, rfl⟩) rfl

theorem ok_is_sized (T : Tx K mg) : Pf P w K mg base "is_sized" 1 (spR K fun ds d => ∃ l a b, ds = [.tup l, .int a, .int b] ∧ d = .bl (decide (a ≤ ((l.length : Nat) : Int)) && decide (((l.length : Nat) : Int) ≤ b))) := by
  obtain ⟨fd, D⟩ := T.d_is_sized
  have nd : (["thing", "least", "most"] : List Str).Nodup := by decide +kernel
  refine pf_mk (N := ["thing", "least", "most"]) (ps := ["thing", "least", "most"]) D ⟨rfl, rfl, rfl, nd, rfl, by decide +kernel, by decide +kernel⟩ T.g_is_sized (fun _ _ _ _ _ _ us hl => match us, hl with | [_, _, _], _ => rfl)
    (fun ds d h => by
      obtain ⟨l, a, b, e, e2⟩ := h
      subst e e2
      rfl) fun cdv A outer s H E hr F ds d h => ?_
  obtain ⟨l, a, b, e, e2⟩ := h
  subst e e2
  exact run_ret (ev_andT (ev_isi (k := true) (ev_var 0 rfl) rfl (by decide +kernel) T.n_isinstance T.n_tuple bt_tuple) (ev_one (ev_chainLe (ev_var 1 rfl) (ev_callB calld_lenT T.n_len bt_len (eva_cons (ev_var 0 rfl) eva_nil)) (ev_var 2 rfl)))) rfl

theorem ok_is_listed (T : Tx K mg) : Pf P w K mg base "is_listed" 1 (spR K fun ds d => ∃ t w, ds = [seqD t w] ∧ d = .bl true) := by
  obtain ⟨fd, D⟩ := T.d_is_listed
  have nd : (["thing"] : List Str).Nodup := by decide +kernel
  refine pf_mk (N := ["thing"]) (ps := ["thing"]) D ⟨rfl, rfl, rfl, nd, rfl, by decide +kernel, by decide +kernel⟩ T.g_is_listed (fun _ _ _ _ _ _ us hl => match us, hl with | [_], _ => rfl)
    (fun ds d h => by
      obtain ⟨t, w, e, e2⟩ := h
      subst e e2
      rfl) fun cdv A outer s H E hr F ds d h => ?_
  obtain ⟨t, w, e, e2⟩ := h
  subst e e2
  cases t with
  | true => exact run_ret (ev_isi2 (k1 := false) (k2 := true) (ev_var 0 rfl) rfl (by decide +kernel) (by decide +kernel) T.n_isinstance T.n_list bt_list T.n_tuple bt_tuple) rfl
  | false => exact run_ret (ev_isi2 (k1 := true) (k2 := false) (ev_var 0 rfl) rfl (by decide +kernel) (by decide +kernel) T.n_isinstance T.n_list bt_list T.n_tuple bt_tuple) rfl

theorem cut_set (l : List Dt) (n : Nat) (d : Dt) (h : n < l.length) : cutD l none (some (n : Int)) ++ [d] ++ cutD l (some ((n : Int) + 1)) none = l.set n d := by
  rw [cut_to, show ((n : Int) + 1) = ((n + 1 : Nat) : Int) by omega, cut_from, List.set_eq_take_append_cons_drop, if_pos h]
  simp

theorem ok_replaced (T : Tx K mg) : Pf P w K mg base "replaced" 1 (spR K fun ds d => ∃ l n x, ds = [.tup l, .int ((n : Nat) : Int), x] ∧ n < l.length ∧ l.length ≤ 1000 ∧ d = .tup (l.set n x)) := by
  obtain ⟨fd, D⟩ := T.d_replaced
  have nd : (["items", "number", "item"] : List Str).Nodup := by decide +kernel
  refine pf_mk (N := ["items", "number", "item"]) (ps := ["items", "number", "item"]) D ⟨rfl, rfl, rfl, nd, rfl, by decide +kernel, by decide +kernel⟩ T.g_replaced (fun _ _ _ _ _ _ us hl => match us, hl with | [_, _, _], _ => rfl)
    (fun ds d h => by
      obtain ⟨l, n, x, e, hn, hl, e2⟩ := h
      subst e e2
      rfl) fun cdv A outer s H E hr F ds d h => ?_
  obtain ⟨l, n, x, e, hn, hl, e2⟩ := h
  subst e e2
  rw [← cut_set l n x hn]
  refine run_ret (ev_bin (opd_catT ?_) (ev_bin (opd_catT ?_) (ev_slT (ev_var 0 rfl) evo_none (evo_some (ev_var 1 rfl))) (ev_tup (eva_cons (ev_var 2 rfl) eva_nil))) (ev_slT (ev_var 0 rfl) (evo_some (ev_bin opd_add (ev_var 1 rfl) ev_int)) evo_none)) rfl
  · rw [cut_to, show ((n : Int) + 1) = ((n + 1 : Nat) : Int) by omega, cut_from, List.length_append, List.length_take, List.length_drop]
    simp
    omega
  · rw [cut_to, List.length_take]
    simp
    omega

theorem ok_is_deed (T : Tx K mg) : Pf P w K mg base "is_deed" 4 (spR K fun ds d => ∃ x, ds = [encDeed x] ∧ (∀ v, x = .put v → 0 ≤ v ∧ v ≤ 999) ∧ d = .bl true) := by
  obtain ⟨fd, D⟩ := T.d_is_deed
  have nd : (["thing"] : List Str).Nodup := by decide +kernel
  refine pf_mk (N := ["thing"]) (ps := ["thing"]) D ⟨rfl, rfl, rfl, nd, rfl, by decide +kernel, by decide +kernel⟩ T.g_is_deed (fun _ _ _ _ _ _ us hl => match us, hl with | [_], _ => rfl)
    (fun ds d h => by
      obtain ⟨x, e, hv, e2⟩ := h
      subst e e2
      rfl) fun cdv A outer s H E hr F ds d h => ?_
  obtain ⟨x, e, hv, e2⟩ := h
  subst e e2
  cases x with
  | see =>
    refine ite_never (EvW.t (evw_or (k1 := false) (k2 := false) (evt_not (k := true) (evt_val (ev_call (ok_is_sized T) (hr.mono (by decide)) (eva_cons (ev_var 0 rfl) (eva_cons ev_int (eva_cons ev_int eva_nil))) ⟨_, _, _, rfl, rfl⟩)))
      fun _ => evw_or1 (evt_not (k := true) (evt_val (ev_isi (k := true) (ev_ixT (ev_var 0 rfl) ev_int (atI_nat (j := 0) rfl)) rfl (by decide +kernel) T.n_isinstance T.n_str bt_str))))) (run_nil ?_)
    exact run_ret (ev_orT (ev_cmp (opd_eqK hr.units 5 (by decide +kernel) (by decide +kernel) (by decide +kernel)) (ev_var 0 rfl) (ev_tup (eva_cons (ev_glob T.v_SEE) eva_nil)))) rfl
  | put v =>
    obtain ⟨h0, h9⟩ := hv v rfl
    refine ite_never (EvW.t (evw_or (k1 := false) (k2 := false) (evt_not (k := true) (evt_val (ev_call (ok_is_sized T) (hr.mono (by decide)) (eva_cons (ev_var 0 rfl) (eva_cons ev_int (eva_cons ev_int eva_nil))) ⟨_, _, _, rfl, rfl⟩)))
      fun _ => evw_or1 (evt_not (k := true) (evt_val (ev_isi (k := true) (ev_ixT (ev_var 0 rfl) ev_int (atI_nat (j := 0) rfl)) rfl (by decide +kernel) T.n_isinstance T.n_str bt_str))))) (run_nil ?_)
    exact run_ret (ev_orF (ev_cmp (opd_eqK hr.units 5 (by simp [encDeed, shp, shps]; decide +kernel) (by decide +kernel) (by simp [encDeed, eqv, py, pys, PyData.eqv, PyData.eqvAll]; try decide)) (ev_var 0 rfl) (ev_tup (eva_cons (ev_glob T.v_SEE) eva_nil)))
      (ev_one (ev_andT (ev_cmp (opd_eqIK rfl) (ev_callB calld_lenT T.n_len bt_len (eva_cons (ev_var 0 rfl) eva_nil)) ev_int) (ev_andT (ev_cmp (opd_eqSK (by decide)) (ev_ixT (ev_var 0 rfl) ev_int (atI_nat (j := 0) rfl)) (ev_glob T.v_PUT))
        (ev_one (ev_call (ok_is_below T) (hr.mono (by decide)) (eva_cons (ev_ixT (ev_var 0 rfl) ev_int (atI_nat (j := 1) rfl)) (eva_cons (ev_glob T.v_MOST_VALUE) eva_nil)) ⟨v, 1000, rfl, by rw [decide_eq_true h0, decide_eq_true (by omega)] <;> rfl⟩)))))) rfl

end
end Bs
set_option Elab.async false
set_option linter.all false
set_option maxRecDepth 100000
set_option maxHeartbeats 4000000
namespace Bs
open PySem PySem.Spec PyProof.Rows L2
section
variable {P : Program} {w : World} {K : PySem.W.Frag} {mg : Str → Option Value} {base : Heap}

theorem playOk_row {rows : List Bs.Row} (h : PlayOk rows) {i : Nat} {r : Bs.Row} (e : rows[i]? = some r) : r.length ≤ 6 ∧ ∀ d ∈ r, ∀ v, d = .put v → 0 ≤ v ∧ v ≤ 999 := ⟨h.len r (List.mem_of_getElem? e), h.val r (List.mem_of_getElem? e)⟩

theorem ok_is_script (T : Tx K mg) : Pf P w K mg base "is_script" 5 (spR K fun ds d => ∃ r : Bs.Row, ds = [encRow r] ∧ r.length ≤ 6 ∧ (∀ x ∈ r, ∀ v, x = .put v → 0 ≤ v ∧ v ≤ 999) ∧ d = .bl true) := by
  obtain ⟨fd, D⟩ := T.d_is_script
  have nd : (["thing", "deed"] : List Str).Nodup := by decide +kernel
  refine pf_mk (N := ["thing", "deed"]) (ps := ["thing"]) D ⟨rfl, rfl, rfl, nd, rfl, by decide +kernel, by decide +kernel⟩ T.g_is_script (fun _ _ _ _ _ _ us hl => match us, hl with | [_], _ => rfl)
    (fun ds d h => by
      obtain ⟨r, e, hl, hv, e2⟩ := h
      subst e e2
      rfl) fun cdv A outer s H E hr F ds d h => ?_
  obtain ⟨r, e, hl, hv, e2⟩ := h
  subst e e2
  refine run_ret (ev_andT (ev_call (ok_is_sized T) (hr.mono (by decide)) (eva_cons (ev_var 0 rfl) (eva_cons ev_int (eva_cons (ev_glob T.v_MOST_DEEDS) eva_nil))) ⟨r.map encDeed, 0, 6, rfl, ?_⟩)
    (ev_one (ev_callB (calld_allT (n := r.length) rfl) T.n_all bt_all (eva_cons (ev_lcM (own := [("deed", 1)]) (g := gName 1) (is := [1]) (f := fun _ => .bl true) nd (evi_tup (ds := r.map encDeed) (ev_var 0 rfl)) (blkOk_by (N := ["thing", "deed"]) (sc := (defScope Hd.s_is_script)) (by decide +kernel)) (fun _ _ _ _ _ => pg_name nd rfl (.inl rfl)) (by decide) ?_ (fun D i d nD hd => ?_) ?_) eva_nil)))) rfl
  · rw [List.length_map, decide_eq_true (by omega), decide_eq_true (by omega)] <;> rfl
  · rw [List.length_map]
    omega
  · obtain ⟨x, hx, rfl⟩ := map_get hd
    exact ⟨[encDeed x], tgt_name, fun _ _ _ _ _ => ev_call (ok_is_deed T) (hr.mono (by decide)) (eva_cons (ev_var 1 rfl) eva_nil) ⟨x, rfl, hv x (List.mem_of_getElem? hx), rfl⟩⟩
  · rw [List.length_map]
    exact all_bl _

theorem ok_is_row_of (T : Tx K mg) : Pf P w K mg base "is_row_of" 6 (spR K fun ds d => ∃ rows, ds = [.box (He.ga K "is_script"), encRows rows] ∧ PlayOk rows ∧ d = .bl true) := by
  obtain ⟨fd, D⟩ := T.d_is_row_of
  have nd : (["is_one", "thing", "item"] : List Str).Nodup := by decide +kernel
  refine pf_mk (N := ["is_one", "thing", "item"]) (ps := ["is_one", "thing"]) D ⟨rfl, rfl, rfl, nd, rfl, by decide +kernel, by decide +kernel⟩ T.g_is_row_of (fun _ _ _ _ _ _ us hl => match us, hl with | [_, _], _ => rfl)
    (fun ds d h => by
      obtain ⟨rows, e, hp, e2⟩ := h
      subst e e2
      rfl) fun cdv A outer s H E hr F ds d h => ?_
  obtain ⟨rows, e, hp, e2⟩ := h
  subst e e2
  refine run_ret (ev_andT (ev_call (ok_is_sized T) (hr.mono (by decide)) (eva_cons (ev_var 1 rfl) (eva_cons ev_int (eva_cons (ev_glob T.v_MOST_HANDS) eva_nil))) ⟨rows.map encRow, 1, 5, rfl, ?_⟩)
    (ev_one (ev_callB (calld_allT (n := rows.length) rfl) T.n_all bt_all (eva_cons (ev_lcM (own := [("item", 2)]) (g := gName 2) (is := [2]) (f := fun _ => .bl true) nd (evi_tup (ds := rows.map encRow) (ev_var 1 rfl)) (blkOk_by (N := ["is_one", "thing", "item"]) (sc := (defScope Hd.s_is_row_of)) (by decide +kernel)) (fun _ _ _ _ _ => pg_name nd rfl (.inl rfl)) (by decide) ?_ (fun D i d nD hd => ?_) ?_) eva_nil)))) rfl
  · have h1 := hp.n1
    have h5 := hp.n5
    rw [List.length_map, decide_eq_true (by omega), decide_eq_true (by omega)] <;> rfl
  · have h5 := hp.n5
    rw [List.length_map]
    omega
  · obtain ⟨x, hx, rfl⟩ := map_get hd
    exact ⟨[encRow x], tgt_name, fun _ _ _ _ _ => ev_callL (ok_is_script T) T.g_is_script 0 rfl (hr.mono (by decide)) (eva_cons (ev_var 2 rfl) eva_nil) ⟨x, rfl, (playOk_row hp hx).1, (playOk_row hp hx).2, rfl⟩⟩
  · rw [List.length_map]
    exact all_bl _

theorem ok_are_inputs (T : Tx K mg) : Pf P w K mg base "are_inputs" 7 (spR K fun ds d => ∃ rows, ds = [.str "sweep", encRows rows] ∧ PlayOk rows ∧ d = .bl true) := by
  obtain ⟨fd, D⟩ := T.d_are_inputs
  have nd : (["kind", "thing"] : List Str).Nodup := by decide +kernel
  refine pf_mk (N := ["kind", "thing"]) (ps := ["kind", "thing"]) D ⟨rfl, rfl, rfl, nd, rfl, by decide +kernel, by decide +kernel⟩ T.g_are_inputs (fun _ _ _ _ _ _ us hl => match us, hl with | [_, _], _ => rfl)
    (fun ds d h => by
      obtain ⟨rows, e, hp, e2⟩ := h
      subst e e2
      rfl) fun cdv A outer s H E hr F ds d h => ?_
  obtain ⟨rows, e, hp, e2⟩ := h
  subst e e2
  refine ite_always (evt_cmp (opd_inK rfl rfl (by decide +kernel)) (ev_var 0 rfl) (ev_glob T.v_MANNERS)) ?_
  exact run_ret (ev_call (ok_is_row_of T) (hr.mono (by decide)) (eva_cons (ev_glob T.v_is_script) (eva_cons (ev_var 1 rfl) eva_nil)) ⟨rows, rfl, hp, rfl⟩) rfl

theorem ok_is_hand (T : Tx K mg) : Pf P w K mg base "is_hand" 4 (spR K fun ds d => ∃ rows i, ds = [encPlay rows, .int i] ∧ d = .bl (decide (0 ≤ i) && decide (i ≤ ((rows.length : Nat) : Int) - 1))) := by
  obtain ⟨fd, D⟩ := T.d_is_hand
  have nd : (["play", "thing"] : List Str).Nodup := by decide +kernel
  refine pf_mk (N := ["play", "thing"]) (ps := ["play", "thing"]) D ⟨rfl, rfl, rfl, nd, rfl, by decide +kernel, by decide +kernel⟩ T.g_is_hand (fun _ _ _ _ _ _ us hl => match us, hl with | [_, _], _ => rfl)
    (fun ds d h => by
      obtain ⟨rows, i, e, e2⟩ := h
      subst e e2
      rfl) fun cdv A outer s H E hr F ds d h => ?_
  obtain ⟨rows, i, e, e2⟩ := h
  subst e e2
  refine run_ret (ev_call (ok_is_below T) (hr.mono (by decide)) (eva_cons (ev_var 1 rfl) (eva_cons (ev_callB (calld_lenT (l := rows.map encRow)) T.n_len bt_len (eva_cons (ev_rows T.play (ev_var 0 rfl)) eva_nil)) eva_nil)) ⟨i, _, rfl, ?_⟩) rfl
  rw [List.length_map]

end
end Bs
set_option Elab.async false
set_option linter.all false
set_option maxRecDepth 100000
set_option maxHeartbeats 4000000
namespace Bs
open PySem PySem.Spec PyProof.Rows L2
section
variable {P : Program} {w : World} {K : PySem.W.Frag} {mg : Str → Option Value} {base : Heap}

def encAfter (r : Option Cell × Hs × Option (List Cell)) : Dt := .tup [(match r.1 with | some c => encCell c | none => .non), encSt r.2.1, (match r.2.2 with | some p => encPic p | none => .non)]

theorem ok_fresh (T : Tx K mg) : Pf P w K mg base "fresh" 1 (spR K fun ds d => ∃ (rows : List Bs.Row) (h n : Nat), ds = [encPlay rows, .int (h : Nat), .int (n : Nat)] ∧ h < rows.length ∧ d = encSt (freshS (rows.getD h []) n)) := by
  obtain ⟨fd, D⟩ := T.d_fresh
  have nd : (["play", "hand", "done"] : List Str).Nodup := by decide +kernel
  refine pf_mk (N := ["play", "hand", "done"]) (ps := ["play", "hand", "done"]) D ⟨rfl, rfl, rfl, nd, rfl, by decide +kernel, by decide +kernel⟩ T.g_fresh (fun _ _ _ _ _ _ us hl => match us, hl with | [_, _, _], _ => rfl)
    (fun ds d h => by
      obtain ⟨rows, h, n, e, hh, e2⟩ := h
      subst e e2
      rfl) fun cdv A outer s H E hr F ds d h => ?_
  obtain ⟨rows, h, n, e, hh, e2⟩ := h
  subst e e2
  exact run_ret (ev_if (evt_cmp opd_lt (ev_var 2 rfl) (ev_callB (calld_lenT (l := (rows.getD h []).map encDeed)) T.n_len bt_len (eva_cons (ev_ixT (ev_rows T.play (ev_var 0 rfl)) (ev_var 1 rfl) (at_map (get_lt [] hh))) eva_nil)))
    (fun e => evq (ev_tup (eva_cons (ev_var 2 rfl) (eva_cons ev_non (eva_cons ev_non (eva_cons (ev_tup eva_nil) (eva_cons ev_non eva_nil)))))) (by
      have e := of_decide_eq_true e
      rw [List.length_map] at e
      unfold freshS
      rw [if_pos (by omega)]
      rfl))
    (fun e => evq ev_non (by
      have e := of_decide_eq_false e
      rw [List.length_map] at e
      unfold freshS
      rw [if_neg (by omega)]
      rfl))) rfl

theorem ok_manner_cell (T : Tx K mg) : Pf P w K mg base "manner_cell" 1 (spR K fun ds d => ∃ (rows : List Bs.Row) (h : Nat), ds = [encPlay rows, .int (h : Nat)] ∧ d = encCell (0, 0)) := by
  obtain ⟨fd, D⟩ := T.d_manner_cell
  have nd : (["play", "hand"] : List Str).Nodup := by decide +kernel
  refine pf_mk (N := ["play", "hand"]) (ps := ["play", "hand"]) D ⟨rfl, rfl, rfl, nd, rfl, by decide +kernel, by decide +kernel⟩ T.g_manner_cell (fun _ _ _ _ _ _ us hl => match us, hl with | [_, _], _ => rfl)
    (fun ds d h => by
      obtain ⟨rows, h, e, e2⟩ := h
      subst e e2
      rfl) fun cdv A outer s H E hr F ds d h => ?_
  obtain ⟨rows, h, e, e2⟩ := h
  subst e e2
  exact run_ret (ev_glob T.v_FIRST_CELL) rfl

theorem ok_manner_state (T : Tx K mg) : Pf P w K mg base "manner_state" 2 (spR K fun ds d => ∃ (rows : List Bs.Row) (h : Nat), ds = [encPlay rows, .int (h : Nat)] ∧ h < rows.length ∧ d = encSt (freshS (rows.getD h []) 0)) := by
  obtain ⟨fd, D⟩ := T.d_manner_state
  have nd : (["play", "hand"] : List Str).Nodup := by decide +kernel
  refine pf_mk (N := ["play", "hand"]) (ps := ["play", "hand"]) D ⟨rfl, rfl, rfl, nd, rfl, by decide +kernel, by decide +kernel⟩ T.g_manner_state (fun _ _ _ _ _ _ us hl => match us, hl with | [_, _], _ => rfl)
    (fun ds d h => by
      obtain ⟨rows, h, e, hh, e2⟩ := h
      subst e e2
      rfl) fun cdv A outer s H E hr F ds d h => ?_
  obtain ⟨rows, h, e, hh, e2⟩ := h
  subst e e2
  exact run_ret (ev_call (ok_fresh T) (hr.mono (by decide)) (eva_cons (ev_var 0 rfl) (eva_cons (ev_var 1 rfl) (eva_cons ev_int eva_nil))) ⟨rows, h, 0, rfl, hh, rfl⟩) rfl

theorem ok_is_put_next (T : Tx K mg) : Pf P w K mg base "is_put_next" 1 (spR K fun ds d => ∃ (rows : List Bs.Row) (h done : Nat) (now : List Cell) (x : Deed), ds = [encPlay rows, .int (h : Nat), encSt (some (done, now))] ∧ h < rows.length ∧ (rows.getD h [])[done]? = some x ∧ d = .bl (isPut x)) := by
  obtain ⟨fd, D⟩ := T.d_is_put_next
  have nd : (["play", "hand", "state"] : List Str).Nodup := by decide +kernel
  refine pf_mk (N := ["play", "hand", "state"]) (ps := ["play", "hand", "state"]) D ⟨rfl, rfl, rfl, nd, rfl, by decide +kernel, by decide +kernel⟩ T.g_is_put_next (fun _ _ _ _ _ _ us hl => match us, hl with | [_, _, _], _ => rfl)
    (fun ds d h => by
      obtain ⟨rows, h, done, now, x, e, hh, hx, e2⟩ := h
      subst e e2
      rfl) fun cdv A outer s H E hr F ds d h => ?_
  obtain ⟨rows, h, done, now, x, e, hh, hx, e2⟩ := h
  subst e e2
  cases x with
  | see =>
    exact ite_always (evt_cmp (opd_neSK (i := "see") (by decide)) (ev_ixT (ev_ixT (ev_ixT (ev_rows T.play (ev_var 0 rfl)) (ev_var 1 rfl) (at_map (get_lt [] hh))) (ev_ixT (ev_var 2 rfl) ev_int (atI_nat (j := 0) rfl)) (at_map hx)) ev_int (atI_nat (j := 0) rfl)) (ev_glob T.v_PUT)) (run_ret ev_bl rfl)
  | put v =>
    refine ite_never (evt_cmp (opd_neSK (i := "put") (by decide)) (ev_ixT (ev_ixT (ev_ixT (ev_rows T.play (ev_var 0 rfl)) (ev_var 1 rfl) (at_map (get_lt [] hh))) (ev_ixT (ev_var 2 rfl) ev_int (atI_nat (j := 0) rfl)) (at_map hx)) ev_int (atI_nat (j := 0) rfl)) (ev_glob T.v_PUT)) (run_nil ?_)
    exact run_ret (ev_orT (ev_cmp (opd_neSK (by decide)) (ev_kind T.play (ev_var 0 rfl)) (ev_glob T.v_BORROW))) rfl

def nextD (x : Deed) (now : List Cell) : Dt := if isPut x then .tup [.str "put"] else .tup [.str "look", .int (now.length : Nat)]

theorem ok_manner_next (T : Tx K mg) : Pf P w K mg base "manner_next" 2 (spR K fun ds d => ∃ (rows : List Bs.Row) (h done : Nat) (now : List Cell) (x : Deed), ds = [encPlay rows, .int (h : Nat), encSt (some (done, now))] ∧ h < rows.length ∧ (rows.getD h [])[done]? = some x ∧ d = nextD x now) := by
  obtain ⟨fd, D⟩ := T.d_manner_next
  have nd : (["play", "hand", "state"] : List Str).Nodup := by decide +kernel
  refine pf_mk (N := ["play", "hand", "state"]) (ps := ["play", "hand", "state"]) D ⟨rfl, rfl, rfl, nd, rfl, by decide +kernel, by decide +kernel⟩ T.g_manner_next (fun _ _ _ _ _ _ us hl => match us, hl with | [_, _, _], _ => rfl)
    (fun ds d h => by
      obtain ⟨rows, h, done, now, x, e, hh, hx, e2⟩ := h
      subst e e2
      rfl) fun cdv A outer s H E hr F ds d h => ?_
  obtain ⟨rows, h, done, now, x, e, hh, hx, e2⟩ := h
  subst e e2
  exact run_ret (ev_if (evt_val (ev_call (ok_is_put_next T) (hr.mono (by decide)) (eva_cons (ev_var 0 rfl) (eva_cons (ev_var 1 rfl) (eva_cons (ev_var 2 rfl) eva_nil))) ⟨rows, h, done, now, x, rfl, hh, hx, rfl⟩))
    (fun e => evq (ev_tup (eva_cons (ev_glob T.v_PUT) eva_nil)) (by
      unfold nextD
      rw [if_pos e]))
    (fun e => evq (ev_tup (eva_cons (ev_glob T.v_LOOK_manners) (eva_cons (ev_callB (calld_lenT (l := now.map encCell)) T.n_len bt_len (eva_cons (ev_ixT (ev_var 2 rfl) ev_int (atI_nat (j := 3) rfl)) eva_nil)) eva_nil))) (by
      unfold nextD
      rw [e, if_neg Bool.false_ne_true, List.length_map]))) rfl

theorem ok_picture_of (T : Tx K mg) : Pf P w K mg base "picture_of" 1 (spR K fun ds d => ∃ cs : List Cell, ds = [encCells cs] ∧ cs.length ≤ 1000 ∧ d = encPic cs) := by
  obtain ⟨fd, D⟩ := T.d_picture_of
  have nd : (["cells", "cell"] : List Str).Nodup := by decide +kernel
  refine pf_mk (N := ["cells", "cell"]) (ps := ["cells"]) D ⟨rfl, rfl, rfl, nd, rfl, by decide +kernel, by decide +kernel⟩ T.g_picture_of (fun _ _ _ _ _ _ us hl => match us, hl with | [_], _ => rfl)
    (fun ds d h => by
      obtain ⟨cs, e, hl, e2⟩ := h
      subst e e2
      rfl) fun cdv A outer s H E hr F ds d h => ?_
  obtain ⟨cs, e, hl, e2⟩ := h
  subst e e2
  exact run_ret (ev_callTy (calld_tupL (l := cs.map encPE)) T.n_tuple bt_tuple (eva_cons (ev_lcM (own := [("cell", 1)]) (g := gName 1) (is := [1]) (f := fun i => encPE (cs.getD i (0, 0))) nd (evi_tup (ds := cs.map encCell) (ev_var 0 rfl)) (blkOk_by (N := ["cells", "cell"]) (sc := (defScope Hd.s_picture_of)) (by decide +kernel)) (fun _ _ _ _ _ => pg_name nd rfl (.inl rfl)) (by decide)
    (by rw [List.length_map]; omega) (fun D i d nD hd => by
      obtain ⟨x, hx, rfl⟩ := map_get hd
      refine ⟨[encCell x], tgt_name, fun _ _ _ _ _ => evq (ev_slT (ev_var 1 rfl) evo_none (evo_some ev_int)) ?_⟩
      rw [getD_of hx]
      exact congrArg Dt.tup (cut_to [.int x.1, .int x.2, .non] 2)) (by
      rw [List.length_map]
      exact range_map cs encPE (0, 0))) eva_nil)) rfl

theorem ok_result_of (T : Tx K mg) : Pf P w K mg base "result_of" 2 (spR K fun ds d => ∃ cs : List Cell, ds = [.str "sweep", .non, .non, encCells cs] ∧ cs.length ≤ 1000 ∧ d = encPic cs) := by
  obtain ⟨fd, D⟩ := T.d_result_of
  have nd : (["kind", "first", "last", "cells"] : List Str).Nodup := by decide +kernel
  refine pf_mk (N := ["kind", "first", "last", "cells"]) (ps := ["kind", "first", "last", "cells"]) D ⟨rfl, rfl, rfl, nd, rfl, by decide +kernel, by decide +kernel⟩ T.g_result_of (fun _ _ _ _ _ _ us hl => match us, hl with | [_, _, _, _], _ => rfl)
    (fun ds d h => by
      obtain ⟨cs, e, hl, e2⟩ := h
      subst e e2
      rfl) fun cdv A outer s H E hr F ds d h => ?_
  obtain ⟨cs, e, hl, e2⟩ := h
  subst e e2
  exact ite_always (EvW.t (evw_or (k1 := true) (k2 := true) (evt_cmp (opd_eqSK (by decide)) (ev_var 0 rfl) (ev_glob T.v_SWEEP)) fun e => Bool.noConfusion e)) (run_ret (ev_call (ok_picture_of T) (hr.mono (by decide)) (eva_cons (ev_var 3 rfl) eva_nil) ⟨cs, rfl, hl, rfl⟩) rfl)

theorem ok_after_sweep (T : Tx K mg) : Pf P w K mg base "after_sweep" 3 (spR K fun ds d => ∃ (rows : List Bs.Row) (h done : Nat) (now cs : List Cell), ds = [encPlay rows, .int (h : Nat), encSt (some (done, now)), encCells cs] ∧ h < rows.length ∧ cs.length ≤ 1000 ∧ (rows.getD h [])[done]? = some .see ∧ d = encAfter (none, freshS (rows.getD h []) (done + 1), some cs)) := by
  obtain ⟨fd, D⟩ := T.d_after_sweep
  have nd : (["play", "hand", "state", "cells", "done", "first", "last", "now", "ready", "found", "numbers"] : List Str).Nodup := by decide +kernel
  refine pf_mk (N := ["play", "hand", "state", "cells", "done", "first", "last", "now", "ready", "found", "numbers"]) (ps := ["play", "hand", "state", "cells"]) D ⟨rfl, rfl, rfl, nd, rfl, by decide +kernel, by decide +kernel⟩ T.g_after_sweep (fun _ _ _ _ _ _ us hl => match us, hl with | [_, _, _, _], _ => rfl)
    (fun ds d h => by
      obtain ⟨rows, h, done, now, cs, e, hh, hl, hx, e2⟩ := h
      subst e e2
      rfl) fun cdv A outer s H E hr F ds d h => ?_
  obtain ⟨rows, h, done, now, cs, e, hh, hl, hx, e2⟩ := h
  subst e e2
  refine run_unp [4, 5, 6, 7, 8] (ev_var 2 rfl) (pgs_cons (pg_name nd rfl (.inl rfl)) (pgs_cons (pg_name nd rfl (.inl rfl)) (pgs_cons (pg_name nd rfl (.inl rfl)) (pgs_cons (pg_name nd rfl (.inl rfl)) (pgs_cons (pg_name nd rfl (.inl rfl)) pgs_nil))))) rfl ?_
  refine run_set 9 nd (ev_call (ok_result_of T) (hr.mono (by decide)) (eva_cons (ev_kind T.play (ev_var 0 rfl)) (eva_cons (ev_var 5 rfl) (eva_cons (ev_var 6 rfl) (eva_cons (ev_var 3 rfl) eva_nil)))) ⟨cs, rfl, hl, rfl⟩) ?_
  refine ite_never (evt_cmp (opd_isNK (d := encPic cs) rfl) (ev_var 9 rfl) ev_non) (run_nil ?_)
  refine ite_never (evt_cmp (opd_eqSK (i := "see") (by decide)) (ev_ixT (ev_ixT (ev_ixT (ev_rows T.play (ev_var 0 rfl)) (ev_var 1 rfl) (at_map (get_lt [] hh))) (ev_var 4 rfl) (at_map hx)) ev_int (atI_nat (j := 0) rfl)) (ev_glob T.v_PUT)) (run_nil ?_)
  exact run_ret (ev_tup (eva_cons ev_non (eva_cons (ev_call (ok_fresh T) (hr.mono (by decide)) (eva_cons (ev_var 0 rfl) (eva_cons (ev_var 1 rfl) (eva_cons (ev_bin opd_add (ev_var 4 rfl) ev_int) eva_nil))) ⟨rows, h, done + 1, by simp, hh, rfl⟩) (eva_cons (ev_var 9 rfl) eva_nil)))) rfl

end
end Bs
set_option Elab.async false
set_option linter.all false
set_option maxRecDepth 100000
set_option maxHeartbeats 4000000
namespace Bs
open PySem PySem.Spec PyProof.Rows L2
section
variable {P : Program} {w : World} {K : PySem.W.Frag} {mg : Str → Option Value} {base : Heap}

theorem ok_manner_after (T : Tx K mg) : Pf P w K mg base "manner_after" 4 (spR K fun ds d => ∃ (rows : List Bs.Row) (h done : Nat) (now cs : List Cell) (x : Deed), ds = [encPlay rows, .int (h : Nat), encCells cs, encSt (some (done, now))] ∧ h < rows.length ∧ (rows.getD h [])[done]? = some x ∧ cs.length = rows.length ∧ rows.length ≤ 5 ∧ now.length < rows.length ∧ d = encAfter (afterS (rows.getD h []) cs h done now)) := by
  obtain ⟨fd, D⟩ := T.d_manner_after
  have nd : (["play", "hand", "cells", "state", "done", "first", "last", "now", "ready", "cell", "looked"] : List Str).Nodup := by decide +kernel
  refine pf_mk (N := ["play", "hand", "cells", "state", "done", "first", "last", "now", "ready", "cell", "looked"]) (ps := ["play", "hand", "cells", "state"]) D ⟨rfl, rfl, rfl, nd, rfl, by decide +kernel, by decide +kernel⟩ T.g_manner_after (fun _ _ _ _ _ _ us hl => match us, hl with | [_, _, _, _], _ => rfl)
    (fun ds d h => by
      obtain ⟨rows, h, done, now, cs, x, e, hh, hx, hc, h5, hn, e2⟩ := h
      subst e e2
      rfl) fun cdv A outer s H E hr F ds d h => ?_
  obtain ⟨rows, h, done, now, cs, x, e, hh, hx, hc, h5, hn, e2⟩ := h
  subst e e2
  refine run_unp [4, 5, 6, 7, 8] (ev_var 3 rfl) (pgs_cons (pg_name nd rfl (.inl rfl)) (pgs_cons (pg_name nd rfl (.inl rfl)) (pgs_cons (pg_name nd rfl (.inl rfl)) (pgs_cons (pg_name nd rfl (.inl rfl)) (pgs_cons (pg_name nd rfl (.inl rfl)) pgs_nil))))) rfl ?_
  cases x with
  | put v =>
    refine ite_always (evt_val (ev_call (ok_is_put_next T) (hr.mono (by decide)) (eva_cons (ev_var 0 rfl) (eva_cons (ev_var 1 rfl) (eva_cons (ev_var 3 rfl) eva_nil))) ⟨rows, h, done, now, _, rfl, hh, hx, rfl⟩)) ?_
    refine run_set 9 nd (ev_tup (eva_cons (ev_bin opd_add (ev_ixT (ev_ixT (ev_var 2 rfl) (ev_var 1 rfl) (at_map (get_lt (0, 0) (by omega)))) ev_int (atI_nat (j := 0) rfl)) ev_int)
      (eva_cons (ev_ixT (ev_ixT (ev_ixT (ev_rows T.play (ev_var 0 rfl)) (ev_var 1 rfl) (at_map (get_lt [] hh))) (ev_var 4 rfl) (at_map hx)) ev_int (atI_nat (j := 1) rfl)) (eva_cons (ev_var 8 rfl) eva_nil)))) ?_
    refine run_ret (ev_tup (eva_cons (ev_var 9 rfl) (eva_cons (ev_call (ok_fresh T) (hr.mono (by decide)) (eva_cons (ev_var 0 rfl) (eva_cons (ev_var 1 rfl) (eva_cons (ev_bin opd_add (ev_var 4 rfl) ev_int) eva_nil))) ⟨rows, h, done + 1, by simp, hh, rfl⟩) (eva_cons ev_non eva_nil)))) ?_
    unfold afterS
    rw [hx]
    rfl
  | see =>
    refine ite_never (evt_val (ev_call (ok_is_put_next T) (hr.mono (by decide)) (eva_cons (ev_var 0 rfl) (eva_cons (ev_var 1 rfl) (eva_cons (ev_var 3 rfl) eva_nil))) ⟨rows, h, done, now, _, rfl, hh, hx, rfl⟩)) (run_nil ?_)
    have hlk : now.map encCell ++ [encCell (cs.getD now.length (0, 0))] = (now ++ [cs.getD now.length (0, 0)]).map encCell := by
      rw [List.map_append] <;> rfl
    refine run_set 10 nd (evq (ev_bin (opd_catT (l := now.map encCell) (l' := [encCell (cs.getD now.length (0, 0))]) (by rw [List.length_map]; simp; omega)) (ev_var 7 rfl)
      (ev_tup (eva_cons (ev_ixT (ev_var 2 rfl) (ev_callB (calld_lenT (l := now.map encCell)) T.n_len bt_len (eva_cons (ev_var 7 rfl) eva_nil)) (by
        rw [List.length_map]
        exact at_map (get_lt (0, 0) (by omega)))) eva_nil))) (congrArg Dt.tup hlk)) ?_
    have hif : ∀ k, decide (now.length + 1 = cs.length) = k → (decide (((((now ++ [cs.getD now.length (0, 0)]).map encCell).length : Nat) : Int) = (((cs.map encCell).length : Nat) : Int)) = k) := fun k hk => by
      rw [← hk, List.length_map, List.length_map, List.length_append]
      simp
      omega
    cases hk : decide (now.length + 1 = cs.length) with
    | true =>
      refine ite_always (evt_cmp (opd_eqIK (hif true hk)) (ev_callB calld_lenT T.n_len bt_len (eva_cons (ev_var 10 rfl) eva_nil)) (ev_callB calld_lenT T.n_len bt_len (eva_cons (ev_var 2 rfl) eva_nil))) ?_
      refine run_ret (ev_call (ok_after_sweep T) (hr.mono (by decide)) (eva_cons (ev_var 0 rfl) (eva_cons (ev_var 1 rfl) (eva_cons (ev_var 3 rfl) (eva_cons (ev_var 10 rfl) eva_nil)))) ⟨rows, h, done, now, now ++ [cs.getD now.length (0, 0)], rfl, hh, by rw [List.length_append]; simp; omega, hx, rfl⟩) ?_
      unfold afterS
      rw [hx]
      show _ = encAfter (if now.length + 1 = cs.length then _ else _)
      rw [if_pos (of_decide_eq_true hk)]
    | false =>
      refine ite_never (evt_cmp (opd_eqIK (hif false hk)) (ev_callB calld_lenT T.n_len bt_len (eva_cons (ev_var 10 rfl) eva_nil)) (ev_callB calld_lenT T.n_len bt_len (eva_cons (ev_var 2 rfl) eva_nil))) (run_nil ?_)
      refine run_ret (ev_tup (eva_cons ev_non (eva_cons (ev_tup (eva_cons (ev_var 4 rfl) (eva_cons (ev_var 5 rfl) (eva_cons (ev_var 6 rfl) (eva_cons (ev_var 10 rfl) (eva_cons ev_non eva_nil)))))) (eva_cons ev_non eva_nil)))) ?_
      unfold afterS
      rw [hx]
      show _ = encAfter (if now.length + 1 = cs.length then _ else _)
      rw [if_neg (of_decide_eq_false hk)]
      rfl

theorem ok_begins_look (T : Tx K mg) : Pf P w K mg base "begins_look" 2 (spR K fun ds d => ∃ (rows : List Bs.Row) (h done : Nat) (now : List Cell) (x : Deed), ds = [encPlay rows, .int (h : Nat), encSt (some (done, now))] ∧ h < rows.length ∧ (rows.getD h [])[done]? = some x ∧ d = .bl (now.isEmpty && !isPut x)) := by
  obtain ⟨fd, D⟩ := T.d_begins_look
  have nd : (["play", "hand", "state"] : List Str).Nodup := by decide +kernel
  refine pf_mk (N := ["play", "hand", "state"]) (ps := ["play", "hand", "state"]) D ⟨rfl, rfl, rfl, nd, rfl, by decide +kernel, by decide +kernel⟩ T.g_begins_look (fun _ _ _ _ _ _ us hl => match us, hl with | [_, _, _], _ => rfl)
    (fun ds d h => by
      obtain ⟨rows, h, done, now, x, e, hh, hx, e2⟩ := h
      subst e e2
      rfl) fun cdv A outer s H E hr F ds d h => ?_
  obtain ⟨rows, h, done, now, x, e, hh, hx, e2⟩ := h
  subst e e2
  refine run_ret (ev_andT (ev_cmp (opd_isNK rfl) (ev_ixT (ev_var 2 rfl) ev_int (atI_nat (j := 1) rfl)) ev_non) (ev_and (k1 := now.isEmpty) (ev_cmp (opd_eqK hr.units 4 (shp_cells now) rfl (eqv_nil now)) (ev_ixT (ev_var 2 rfl) ev_int (atI_nat (j := 3) rfl)) (ev_tup eva_nil))
    fun _ => ev_one (ev_not (ev_call (ok_is_put_next T) (hr.mono (by decide)) (eva_cons (ev_var 0 rfl) (eva_cons (ev_var 1 rfl) (eva_cons (ev_var 2 rfl) eva_nil))) ⟨rows, h, done, now, x, rfl, hh, hx, rfl⟩)))) rfl

theorem ok_cell_of (T : Tx K mg) : Pf P w K mg base "cell_of" 2 (spR K fun ds d => ∃ (rows : List Bs.Row) (h : Nat), ds = [encPlay rows, .int (h : Nat)] ∧ d = encCell (0, 0)) := by
  obtain ⟨fd, D⟩ := T.d_cell_of
  have nd : (["play", "hand"] : List Str).Nodup := by decide +kernel
  refine pf_mk (N := ["play", "hand"]) (ps := ["play", "hand"]) D ⟨rfl, rfl, rfl, nd, rfl, by decide +kernel, by decide +kernel⟩ T.g_cell_of (fun _ _ _ _ _ _ us hl => match us, hl with | [_, _], _ => rfl)
    (fun ds d h => by
      obtain ⟨rows, h, e, e2⟩ := h
      subst e e2
      rfl) fun cdv A outer s H E hr F ds d h => ?_
  obtain ⟨rows, h, e, e2⟩ := h
  subst e e2
  exact ite_always (evt_cmp (opd_inK (k := true) rfl rfl (by decide +kernel)) (ev_kind T.play (ev_var 0 rfl)) (ev_glob T.v_MANNERS)) (run_ret (ev_call (ok_manner_cell T) (hr.mono (by decide)) (eva_cons (ev_var 0 rfl) (eva_cons (ev_var 1 rfl) eva_nil)) ⟨rows, h, rfl, rfl⟩) rfl)

theorem ok_state_of (T : Tx K mg) : Pf P w K mg base "state_of" 3 (spR K fun ds d => ∃ (rows : List Bs.Row) (h : Nat), ds = [encPlay rows, .int (h : Nat)] ∧ h < rows.length ∧ d = encSt (freshS (rows.getD h []) 0)) := by
  obtain ⟨fd, D⟩ := T.d_state_of
  have nd : (["play", "hand"] : List Str).Nodup := by decide +kernel
  refine pf_mk (N := ["play", "hand"]) (ps := ["play", "hand"]) D ⟨rfl, rfl, rfl, nd, rfl, by decide +kernel, by decide +kernel⟩ T.g_state_of (fun _ _ _ _ _ _ us hl => match us, hl with | [_, _], _ => rfl)
    (fun ds d h => by
      obtain ⟨rows, h, e, hh, e2⟩ := h
      subst e e2
      rfl) fun cdv A outer s H E hr F ds d h => ?_
  obtain ⟨rows, h, e, hh, e2⟩ := h
  subst e e2
  exact ite_always (evt_cmp (opd_inK (k := true) rfl rfl (by decide +kernel)) (ev_kind T.play (ev_var 0 rfl)) (ev_glob T.v_MANNERS)) (run_ret (ev_call (ok_manner_state T) (hr.mono (by decide)) (eva_cons (ev_var 0 rfl) (eva_cons (ev_var 1 rfl) eva_nil)) ⟨rows, h, rfl, hh, rfl⟩) rfl)

theorem ok_next_of (T : Tx K mg) : Pf P w K mg base "next_of" 3 (spR K fun ds d => ∃ (rows : List Bs.Row) (h done : Nat) (now : List Cell) (x : Deed), ds = [encPlay rows, .int (h : Nat), encSt (some (done, now))] ∧ h < rows.length ∧ (rows.getD h [])[done]? = some x ∧ d = nextD x now) := by
  obtain ⟨fd, D⟩ := T.d_next_of
  have nd : (["play", "hand", "state"] : List Str).Nodup := by decide +kernel
  refine pf_mk (N := ["play", "hand", "state"]) (ps := ["play", "hand", "state"]) D ⟨rfl, rfl, rfl, nd, rfl, by decide +kernel, by decide +kernel⟩ T.g_next_of (fun _ _ _ _ _ _ us hl => match us, hl with | [_, _, _], _ => rfl)
    (fun ds d h => by
      obtain ⟨rows, h, done, now, x, e, hh, hx, e2⟩ := h
      subst e e2
      rfl) fun cdv A outer s H E hr F ds d h => ?_
  obtain ⟨rows, h, done, now, x, e, hh, hx, e2⟩ := h
  subst e e2
  exact ite_always (evt_cmp (opd_inK (k := true) rfl rfl (by decide +kernel)) (ev_kind T.play (ev_var 0 rfl)) (ev_glob T.v_MANNERS)) (run_ret (ev_call (ok_manner_next T) (hr.mono (by decide)) (eva_cons (ev_var 0 rfl) (eva_cons (ev_var 1 rfl) (eva_cons (ev_var 2 rfl) eva_nil))) ⟨rows, h, done, now, x, rfl, hh, hx, rfl⟩) rfl)

theorem ok_after_of (T : Tx K mg) : Pf P w K mg base "after_of" 5 (spR K fun ds d => ∃ (rows : List Bs.Row) (h done : Nat) (now cs : List Cell) (x : Deed), ds = [encPlay rows, .int (h : Nat), encCells cs, encSt (some (done, now))] ∧ h < rows.length ∧ (rows.getD h [])[done]? = some x ∧ cs.length = rows.length ∧ rows.length ≤ 5 ∧ now.length < rows.length ∧ d = encAfter (afterS (rows.getD h []) cs h done now)) := by
  obtain ⟨fd, D⟩ := T.d_after_of
  have nd : (["play", "hand", "cells", "state"] : List Str).Nodup := by decide +kernel
  refine pf_mk (N := ["play", "hand", "cells", "state"]) (ps := ["play", "hand", "cells", "state"]) D ⟨rfl, rfl, rfl, nd, rfl, by decide +kernel, by decide +kernel⟩ T.g_after_of (fun _ _ _ _ _ _ us hl => match us, hl with | [_, _, _, _], _ => rfl)
    (fun ds d h => by
      obtain ⟨rows, h, done, now, cs, x, e, hh, hx, hc, h5, hn, e2⟩ := h
      subst e e2
      rfl) fun cdv A outer s H E hr F ds d h => ?_
  obtain ⟨rows, h, done, now, cs, x, e, hh, hx, hc, h5, hn, e2⟩ := h
  subst e e2
  exact ite_always (evt_cmp (opd_inK (k := true) rfl rfl (by decide +kernel)) (ev_kind T.play (ev_var 0 rfl)) (ev_glob T.v_MANNERS)) (run_ret (ev_call (ok_manner_after T) (hr.mono (by decide)) (eva_cons (ev_var 0 rfl) (eva_cons (ev_var 1 rfl) (eva_cons (ev_var 2 rfl) (eva_cons (ev_var 3 rfl) eva_nil)))) ⟨rows, h, done, now, cs, x, rfl, hh, hx, hc, h5, hn, rfl⟩) rfl)

theorem ok_begun (T : Tx K mg) : Pf P w K mg base "begun" 4 (spR K fun ds d => ∃ rows, ds = [encPlay rows] ∧ PlayOk rows ∧ d = encSd (begunS rows)) := by
  obtain ⟨fd, D⟩ := T.d_begun
  have nd : (["play", "hands", "cells", "hand"] : List Str).Nodup := by decide +kernel
  refine pf_mk (N := ["play", "hands", "cells", "hand"]) (ps := ["play"]) D ⟨rfl, rfl, rfl, nd, rfl, by decide +kernel, by decide +kernel⟩ T.g_begun (fun _ _ _ _ _ _ us hl => match us, hl with | [_], _ => rfl)
    (fun ds d h => by
      obtain ⟨rows, e, hp, e2⟩ := h
      subst e e2
      rfl) fun cdv A outer s H E hr F ds d h => ?_
  obtain ⟨rows, e, hp, e2⟩ := h
  subst e e2
  have h1 := hp.n1
  have h5 := hp.n5
  have hD : ∀ {i : Nat} {d : Dt}, (intsD rows.length)[i]? = some d → i < rows.length ∧ d = .int (i : Nat) := fun {i d} e => by
    have hi := (List.getElem?_eq_some_iff.mp e).1
    rw [intsD_length] at hi
    exact ⟨hi, (Option.some.inj ((intsD_get hi).symm.trans e)).symm⟩
  refine run_set 1 nd (ev_listRg (n := rows.length) T.n_list T.n_range (evq (ev_callB (calld_lenT (l := rows.map encRow)) T.n_len bt_len (eva_cons (ev_rows T.play (ev_var 0 rfl)) eva_nil)) (by rw [List.length_map])) (by omega)) ?_
  refine run_set 2 nd (ev_callTy (calld_tupL (l := (begunS rows).cells.map encCell)) T.n_tuple bt_tuple (eva_cons (ev_lcM (own := [("hand", 3)]) (g := gName 3) (is := [3]) (f := fun i => encCell (0, 0)) nd (evi_lst (ds := intsD rows.length) (ev_var 1 rfl)) (blkOk_by (N := ["play", "hands", "cells", "hand"]) (sc := (defScope Hd.s_begun)) (by decide +kernel)) (fun _ _ _ _ _ => pg_name nd rfl (.inl rfl)) (by decide)
    (by rw [intsD_length]; omega) (fun D i d nD hd => by
      obtain ⟨hi, rfl⟩ := hD hd
      exact ⟨[.int (i : Nat)], tgt_name, fun _ _ _ _ _ => ev_call (ok_cell_of T) (hr.mono (by decide)) (eva_cons (ev_var 0 rfl) (eva_cons (ev_var 3 rfl) eva_nil)) ⟨rows, i, rfl, rfl⟩⟩) (by
      rw [intsD_length]
      show _ = (rows.map fun _ => ((0, 0) : Cell)).map encCell
      rw [List.map_map, map_const, List.length_range]
      exact (map_const rows _).symm)) eva_nil)) ?_
  refine run_ret (ev_tup (eva_cons (ev_var 2 rfl) (eva_cons (ev_callTy (calld_tupL (l := (begunS rows).states.map encSt)) T.n_tuple bt_tuple (eva_cons (ev_lcM (own := [("hand", 3)]) (g := gName 3) (is := [3]) (f := fun i => encSt (freshS (rows.getD i []) 0)) nd (evi_lst (ds := intsD rows.length) (ev_var 1 rfl)) (blkOk_by (N := ["play", "hands", "cells", "hand"]) (sc := (defScope Hd.s_begun)) (by decide +kernel)) (fun _ _ _ _ _ => pg_name nd rfl (.inl rfl)) (by decide)
    (by rw [intsD_length]; omega) (fun D i d nD hd => by
      obtain ⟨hi, rfl⟩ := hD hd
      exact ⟨[.int (i : Nat)], tgt_name, fun _ _ _ _ _ => ev_call (ok_state_of T) (hr.mono (by decide)) (eva_cons (ev_var 0 rfl) (eva_cons (ev_var 3 rfl) eva_nil)) ⟨rows, i, rfl, hi, rfl⟩⟩) (by
      rw [intsD_length]
      show _ = (rows.map fun r => freshS r 0).map encSt
      rw [List.map_map]
      exact range_map rows (fun r => encSt (freshS r 0)) [])) eva_nil))
    (eva_cons (ev_bin (opd_repT (l := [.tup []]) (k := (rows.length : Nat)) (fun z => by cases z) (by omega) (by omega) (by decide)) (ev_tup (eva_cons (ev_tup eva_nil) eva_nil)) (evq (ev_callB (calld_lenL (l := intsD rows.length)) T.n_len bt_len (eva_cons (ev_var 1 rfl) eva_nil)) (by rw [intsD_length]))) eva_nil)))) ?_
  rw [rep_one, Int.toNat_natCast]
  show _ = Dt.tup [_, _, .tup ((rows.map fun _ => ([] : List (List Cell))).map encTold)]
  rw [List.map_map, show (rows.map (encTold ∘ fun _ => [])) = rows.map (fun _ => Dt.tup []) from rfl, map_const]
  rfl

theorem set_map {α β : Type} (l : List α) (f : α → β) (i : Nat) (a : α) : (l.map f).set i (f a) = (l.set i a).map f := by rw [List.map_set]
theorem opt_match {α : Type} (o : Option α) (f : α → Dt) : (match o with | some c => f c | none => Dt.non) = (o.map f).getD .non := by cases o <;> rfl

end
end Bs
set_option Elab.async false
set_option linter.all false
set_option maxRecDepth 100000
set_option maxHeartbeats 4000000
namespace Bs
open PySem PySem.Spec PyProof.Rows L2
section
variable {P : Program} {w : World} {K : PySem.W.Frag} {mg : Str → Option Value} {base : Heap}

theorem encSd_cells (s : Sd) (cs : List Cell) (ss : List Hs) (ts : List (List (List Cell))) : encSd ⟨cs, ss, ts⟩ = .tup [.tup (cs.map encCell), .tup (ss.map encSt), .tup (ts.map encTold)] := rfl
/-- the deed that comes next -/
theorem SdOk.deed {rows : List Bs.Row} {s : Sd} (h : SdOk rows s) {i done : Nat} {now : List Cell} (e : s.states[i]? = some (some (done, now))) : ∃ x, (rows.getD i [])[done]? = some x := ⟨_, List.getElem?_eq_getElem (h.st i done now e).1⟩
theorem SdOk.lt {rows : List Bs.Row} {s : Sd} (h : SdOk rows s) {i : Nat} {a : Hs} (e : s.states[i]? = some a) : i < rows.length := by
  rw [← h.hs]
  exact (List.getElem?_eq_some_iff.mp e).1
def cellD (o : Option Cell) : Dt := match o with
  | some c => encCell c
  | none => .non
def picD (o : Option (List Cell)) : Dt := match o with
  | some p => encPic p
  | none => .non
theorem encAfter_eq (r : Option Cell × Hs × Option (List Cell)) : encAfter r = .tup [cellD r.1, encSt r.2.1, picD r.2.2] := rfl
theorem afterS_put {row : Bs.Row} {cs : List Cell} {h done : Nat} {now : List Cell} {v : Int} (e : row[done]? = some (.put v)) : afterS row cs h done now = (some ((cs.getD h (0, 0)).1 + 1, v), freshS row (done + 1), none) := by
  unfold afterS
  rw [e]
theorem afterS_see {row : Bs.Row} {cs : List Cell} {h done : Nat} {now : List Cell} (e : row[done]? = some .see) : (afterS row cs h done now).1 = none := by
  unfold afterS
  rw [e]
  dsimp only
  split <;> rfl
theorem nextD_eqv (x : Deed) (now : List Cell) : eqv (nextD x now) (.tup [.str "put"]) = isPut x := by
  cases x with
  | put v => exact (by decide +kernel : eqv (.tup [.str "put"]) (.tup [.str "put"]) = true)
  | see =>
    show PyData.eqv (.tuple [.str "look", .int (now.length : Nat)]) (.tuple [.str "put"]) = false
    simp [PyData.eqv, PyData.eqvAll]
theorem nextD_shp (x : Deed) (now : List Cell) : shp 4 (nextD x now) = true := by
  cases x with
  | put v => exact (by decide +kernel : shp 4 (.tup [.str "put"]) = true)
  | see =>
    show shps 3 [.str "look", .int (now.length : Nat)] = true
    simp [shps, shp]
    decide +kernel
theorem stepS_eq {rows : List Bs.Row} {s : Sd} {h done : Nat} {now : List Cell} (e : s.states[h]? = some (some (done, now))) : stepS rows s h =
    ⟨(match (afterS (rows.getD h []) s.cells h done now).1 with | some c => s.cells.set h c | none => s.cells), s.states.set h (afterS (rows.getD h []) s.cells h done now).2.1,
      (match (afterS (rows.getD h []) s.cells h done now).2.2 with | some p => s.told.set h (s.told.getD h [] ++ [p]) | none => s.told)⟩ := by
  unfold stepS
  rw [getD_of e] <;> rfl

theorem ok_after_step (T : Tx K mg) : Pf P w K mg base "after_step" 6 (spR K fun ds d => ∃ (rows : List Bs.Row) (z : Sd) (h done : Nat) (now : List Cell), ds = [encPlay rows, encSd z, .int (h : Nat)] ∧ PlayOk rows ∧ SdOk rows z ∧ z.states[h]? = some (some (done, now)) ∧ d = encSd (stepS rows z h)) := by
  obtain ⟨fd, D⟩ := T.d_after_step
  have nd : (["play", "standing", "hand", "cells", "states", "told", "cell", "state", "item"] : List Str).Nodup := by decide +kernel
  refine pf_mk (N := ["play", "standing", "hand", "cells", "states", "told", "cell", "state", "item"]) (ps := ["play", "standing", "hand"]) D ⟨rfl, rfl, rfl, nd, rfl, by decide +kernel, by decide +kernel⟩ T.g_after_step (fun _ _ _ _ _ _ us hl => match us, hl with | [_, _, _], _ => rfl)
    (fun ds d h => by
      obtain ⟨rows, z, h, done, now, e, hp, hz, hst, e2⟩ := h
      subst e e2
      rfl) fun cdv A outer s H E hr F ds d h => ?_
  obtain ⟨rows, z, h, done, now, e, hp, hz, hst, e2⟩ := h
  subst e e2
  have h5 := hp.n5
  have hh := hz.lt hst
  obtain ⟨x, hx⟩ := hz.deed hst
  obtain ⟨hd1, hd2, hd3⟩ := hz.st h done now hst
  have hlen : (rows.getD h []).length ≤ 6 := (playOk_row hp (get_lt [] hh)).1
  refine run_unp [3, 4, 5] (ev_var 1 rfl) (pgs_cons (pg_name nd rfl (.inl rfl)) (pgs_cons (pg_name nd rfl (.inl rfl)) (pgs_cons (pg_name nd rfl (.inl rfl)) pgs_nil))) rfl ?_
  refine run_unp [6, 7, 8] (evq (ev_call (ok_after_of T) (hr.mono (by decide)) (eva_cons (ev_var 0 rfl) (eva_cons (ev_var 2 rfl) (eva_cons (ev_var 3 rfl) (eva_cons (ev_ixT (ev_var 4 rfl) (ev_var 2 rfl) (at_map hst)) eva_nil)))) ⟨rows, h, done, now, z.cells, x, rfl, hh, hx, hz.hc, h5, hd2, rfl⟩) (encAfter_eq _))
    (pgs_cons (pg_name nd rfl (.inl rfl)) (pgs_cons (pg_name nd rfl (.inl rfl)) (pgs_cons (pg_name nd rfl (.inl rfl)) pgs_nil))) rfl ?_
  rw [stepS_eq hst]
  -- the last two statements, from cells C and told U
  have fin : ∀ (cs : List Cell) (us : List (List (List Cell))), Dt.tup [.tup (cs.map encCell), .tup ((z.states.map encSt).set h (encSt (afterS (rows.getD h []) z.cells h done now).2.1)), .tup (us.map encTold)] = encSd ⟨cs, z.states.set h (afterS (rows.getD h []) z.cells h done now).2.1, us⟩ := fun cs us => by
    rw [set_map]
    rfl
  have hss : h < (z.states.map encSt).length := by rw [List.length_map, hz.hs]; exact hh
  have hs5 : (z.states.map encSt).length ≤ 1000 := by rw [List.length_map, hz.hs]; omega
  have hcs : h < (z.cells.map encCell).length := by rw [List.length_map, hz.hc]; exact hh
  have hc5 : (z.cells.map encCell).length ≤ 1000 := by rw [List.length_map, hz.hc]; omega
  have hts : h < (z.told.map encTold).length := by rw [List.length_map, hz.ht]; exact hh
  have ht5 : (z.told.map encTold).length ≤ 1000 := by rw [List.length_map, hz.ht]; omega
  cases x with
  | put v =>
    rw [afterS_put hx] at fin ⊢
    refine ite_always (evt_cmp (opd_eqK hr.units 4 (nextD_shp (.put v) now) (by decide +kernel) (nextD_eqv (.put v) now)) (ev_call (ok_next_of T) (hr.mono (by decide)) (eva_cons (ev_var 0 rfl) (eva_cons (ev_var 2 rfl) (eva_cons (ev_ixT (ev_var 4 rfl) (ev_var 2 rfl) (at_map hst)) eva_nil))) ⟨rows, h, done, now, _, rfl, hh, hx, rfl⟩) (ev_tup (eva_cons (ev_glob T.v_PUT) eva_nil))) ?_
    refine run_set 3 nd (evq (ev_call (ok_replaced T) (hr.mono (by decide)) (eva_cons (ev_var 3 rfl) (eva_cons (ev_var 2 rfl) (eva_cons (ev_var 6 rfl) eva_nil))) ⟨z.cells.map encCell, h, encCell ((z.cells.getD h (0, 0)).1 + 1, v), rfl, hcs, hc5, rfl⟩) (congrArg Dt.tup (set_map z.cells encCell h _))) (run_nil ?_)
    refine ite_never (evt_cmp (opd_notNK (d := .non) rfl) (ev_var 8 rfl) ev_non) (run_nil ?_)
    exact run_ret (ev_tup (eva_cons (ev_var 3 rfl) (eva_cons (ev_call (ok_replaced T) (hr.mono (by decide)) (eva_cons (ev_var 4 rfl) (eva_cons (ev_var 2 rfl) (eva_cons (ev_var 7 rfl) eva_nil))) ⟨z.states.map encSt, h, _, rfl, hss, hs5, rfl⟩) (eva_cons (ev_var 5 rfl) eva_nil)))) (fin _ _)
  | see =>
    refine ite_never (evt_cmp (opd_eqK hr.units 4 (nextD_shp .see now) (by decide +kernel) (nextD_eqv .see now)) (ev_call (ok_next_of T) (hr.mono (by decide)) (eva_cons (ev_var 0 rfl) (eva_cons (ev_var 2 rfl) (eva_cons (ev_ixT (ev_var 4 rfl) (ev_var 2 rfl) (at_map hst)) eva_nil))) ⟨rows, h, done, now, _, rfl, hh, hx, rfl⟩) (ev_tup (eva_cons (ev_glob T.v_PUT) eva_nil))) (run_nil ?_)
    have h1 := afterS_see (cs := z.cells) (h := h) (now := now) hx
    generalize afterS (rows.getD h []) z.cells h done now = r at h1 fin ⊢
    obtain ⟨r1, r2, r3⟩ := r
    have h1 : r1 = none := h1
    subst h1
    cases r3 with
    | none =>
      refine ite_never (evt_cmp (opd_notNK (d := .non) rfl) (ev_var 8 rfl) ev_non) (run_nil ?_)
      exact run_ret (ev_tup (eva_cons (ev_var 3 rfl) (eva_cons (ev_call (ok_replaced T) (hr.mono (by decide)) (eva_cons (ev_var 4 rfl) (eva_cons (ev_var 2 rfl) (eva_cons (ev_var 7 rfl) eva_nil))) ⟨z.states.map encSt, h, _, rfl, hss, hs5, rfl⟩) (eva_cons (ev_var 5 rfl) eva_nil)))) (fin _ _)
    | some p =>
      refine ite_always (evt_cmp (opd_notNK (d := encPic p) rfl) (ev_var 8 rfl) ev_non) ?_
      refine run_set 5 nd (evq (ev_call (ok_replaced T) (hr.mono (by decide)) (eva_cons (ev_var 5 rfl) (eva_cons (ev_var 2 rfl) (eva_cons (ev_bin (opd_catT (l := (z.told.getD h []).map encPic) (l' := [encPic p]) (by rw [List.length_map]; show _ + 1 ≤ 10000; omega)) (ev_ixT (ev_var 5 rfl) (ev_var 2 rfl) (at_map (get_lt [] (by rw [hz.ht]; exact hh)))) (ev_tup (eva_cons (ev_var 8 rfl) eva_nil))) eva_nil)))
        ⟨z.told.map encTold, h, encTold (z.told.getD h [] ++ [p]), by unfold encTold; rw [List.map_append] <;> rfl, hts, ht5, rfl⟩) (congrArg Dt.tup (set_map z.told encTold h _))) (run_nil ?_)
      exact run_ret (ev_tup (eva_cons (ev_var 3 rfl) (eva_cons (ev_call (ok_replaced T) (hr.mono (by decide)) (eva_cons (ev_var 4 rfl) (eva_cons (ev_var 2 rfl) (eva_cons (ev_var 7 rfl) eva_nil))) ⟨z.states.map encSt, h, _, rfl, hss, hs5, rfl⟩) (eva_cons (ev_var 5 rfl) eva_nil)))) (fin _ _)

end
end Bs
set_option Elab.async false
set_option linter.all false
set_option maxRecDepth 100000
set_option maxHeartbeats 4000000
/-! raising, catching, making a Play -/
namespace Bs
open PySem PySem.Spec PyProof.Rows L2
/-- a def that raises an exception of the class C -/
def spX (K : PySem.W.Frag) (C : Addr) (Dn : Option Addr → Prop) (R : List Dt → Prop) : Sp := fun vs H Q E => ∃ M ds, MOk M H ∧ Reps K M H ds vs ∧ R ds ∧ ∀ H' d, Same H H' → Dn d → E (.ref C) d H'
structure PfX (P : Program) (w : World) (K : PySem.W.Frag) (mg : Str → Option Value) (base : Heap) (x : Str) (k : Nat) (sp : Sp) : Prop where
  ex : ∃ (f : Addr) (fd : FuncData) (ps : List Str), FnOk P w K mg base (L2.CX P w) k f fd ps sp ∧ mg x = some (.ref f) ∧ PySem.W.keepIn K (.ref f) = true ∧ Binds K fd ps []
abbrev Cbx (P : Program) (w : World) (K : PySem.W.Frag) (mg : Str → Option Value) (base : Heap) (N : List Str) (x : Str) (sc : Scope) (f : Addr) (cdv : Value) (A : Around) (outer : List Env) (s : Shared) (H : Hp) (E : XK) : Cx :=
  cxOf (L2.CX P w) P w K mg base N x sc f cdv A outer s H E
/-- what may be raised in the frame F -/
structure RaisesAt (X : Cx) (F : Fr) (C : Addr) (Dn : Option Addr → Prop) : Prop where
  ex : ∃ W : WX, Takes X W ∧ ∀ σ H d, F.st H → Dn d → W (.ref C) d σ H
theorem RaisesAt.sub {X : Cx} {F F1 : Fr} {C : Addr} {Dn : Option Addr → Prop} (s : Sub F1 F) (h : RaisesAt X F C Dn) : RaisesAt X F1 C Dn := let ⟨W, t, q⟩ := h.ex; ⟨W, t, fun σ H d st => q σ H d (s.st H st)⟩
section
variable {X : Cx} {F : Fr} {e : Expr} {rest : List Stmt} {E : En} {P : Pe} {pos : Pos} {C : Addr} {Dn : Option Addr → Prop} {t : L2.St → Hp → XK → Prop}
theorem run_raise (rz : RaisesAt X F C Dn) (he : PMk X e t) (h : ∀ σ H, RepE X.K F H E σ → ∀ Q : XK, (∀ d H', F.st H' → Dn d → Q (.ref C) d H') → t σ H Q) (hc : X.calm = true := by rfl) : Run X F (.Raise (some e) none pos :: rest) E P :=
  let ⟨W, tk, q⟩ := rz.ex; run_of (pss_cons (ps_raise (W := W) hc tk he) (pss_ev (sts := rest))) fun σ H D r i => h σ H r (fun cls d H' => W cls d σ H') fun d H' st dn => q σ H' d st dn
end
section
variable {P : Program} {w : World} {K : PySem.W.Frag} {mg : Str → Option Value} {base : Heap} {x : Str} {st : Stmt} {f : Addr} {fd : FuncData} {N ps : List Str} {k : Nat}
theorem pfX_mk {C : Addr} {Dn : Option Addr → Prop} {R : List Dt → Prop} (D : FunD K x x (defArgs st) (defBody st) (defScope st) [] [] f fd) (S : FnScope N ps (defScope st)) (hm : mg x = some (.ref f))
    (hb : ∀ (kV doc pm : Value) (an : Option Addr) (cdv ct : Value) (us : List Value), us.length = ps.length → bindArgs (PySem.W.fnOf x x (defArgs st) (defBody st) (defScope st) .none kV doc pm an cdv ct) ⟨us, []⟩ = pure (ps.zip us))
    (hlen : ∀ ds, R ds → ds.length = ps.length)
    (body : ∀ (cdv : Value) (A : Around) (outer : List Env) (s : Shared) (H : Hp) (E : XK), Room k (A.deeper (envOfC x (defScope st) s.heap.objs.size f cdv)) → ∀ (F : Fr) (ds : List Dt), R ds → RaisesAt (Cbx P w K mg base N x (defScope st) f cdv A outer s H E) F C Dn →
      Run (Cbx P w K mg base N x (defScope st) f cdv A outer s H E) F (defBody st) (En0 F N ds []) ⟨fun _ => False, fun _ _ => False, fun _ => False, fun _ => False⟩) : PfX P w K mg base x (k + 1) (spX K C Dn R) := by
  refine ⟨f, fd, ps, D.ok S (fun vs H Q E h => ?_) (fun cdv A outer s H vs Q E hr h => ?_), hm, D.kp, D.bindsN hb⟩
  · obtain ⟨M, ds, m, rp, hR, q⟩ := h
    rw [rp.length]
    exact hlen ds hR
  · obtain ⟨M, ds, m, rp, hR, q⟩ := h
    refine ⟨_, pss_ev (X := Cbx P w K mg base N x (defScope st) f cdv A outer s H E), frame0 M [] H, En0 (frame0 M [] H) N ds [], _, ⟨.refl _ _, m, fun a ha => ha, start_length rp.length, start_get rp, (fun p hp => nomatch hp), List.nodup_nil⟩,
      body cdv A outer s H E hr (frame0 M [] H) ds hR ⟨fun cls d _ H' => E cls d H', takes_of rfl rfl rfl rfl, fun σ H' d st dn => q H' d (Off.same st) dn⟩, fun σ H' E' r e => e.elim, fun v H' d' E' σ r p e => e.elim, fun σ H' E' r e => e.elim, fun σ H' E' r e => e.elim⟩
end
/-! ### try -/
section
variable {X : Cx} {F : Fr} {E E1 : En} {P : Pe} {pos pos' pos2 pos3 p np py : Pos} {h₀ : ExceptHandler} {hs : List ExceptHandler} {body rest suite : List Stmt} {b₀ : Stmt} {x y z n : Str} {c : Value} {e : Expr} {es : List Expr} {ds : List Dt} {C : Addr} {Dn : Option Addr → Prop}
/-- nothing is raised -/
theorem run_try_ok (hb : Run X.nox F body E { P with nx := fun E' => Run X F rest E' P }) : Run X F (.Try body (h₀ :: hs) [] [] pos :: rest) E P :=
  run_of (pss_cons (ps_try_thru0 (pss_ev (X := X.nox))) (pss_ev (X := X))) fun σ H D r i => ⟨F, E, _, r, hb, ⟨fun σ H E r q => ⟨F, E, P, r, q, i⟩, i.rt, i.bk, i.ct⟩⟩
def tAB (X : Cx) (F : Fr) (es : List Expr) : TA := fun σ H Q => ∃ E ds E1, RepE X.K F H E σ ∧ (∀ pn xe, EvA (X.tr pn xe) F es E ds E1) ∧ ∀ vs H', RepE X.K F H' E1 σ → Off E.A H H' → Reps X.K E.M H' ds vs → Q vs H'
theorem pa_ab {pn : List (Addr × Obj)} {xe : Value → Shared → Prop} : PA (X.tr pn xe) es (tAB X F es) := ⟨fun pos pins s σ H Q I ⟨_, _, _, r, h, q⟩ => (h pn xe).run pos pins s σ H Q I r q⟩
def tSu (X : Cx) (sts : List Stmt) (a : Addr) (cls : Value) (d : Option Addr) : TS := fun D σ H => ∃ F E P, RepE X.K F H E σ ∧ (∀ oe pn, Zc cls d oe → (∃ vs, oe.data = .fields vs) → Run (X.suite a ((a, oe) :: pn)) F sts E P) ∧ Imp X.K F P D
theorem pss_su {a : Addr} {oe : Obj} {cls : Value} {d : Option Addr} {pn : List (Addr × Obj)} (hz : Zc cls d oe) (hf : ∃ vs, oe.data = .fields vs) : PSs (X.suite a ((a, oe) :: pn)) body (tSu X body a cls d) :=
  ⟨fun pins s σ H D I ⟨_, _, _, r, h, i⟩ => (h oe pn hz hf).run pins s σ H D I r i⟩
/-- the call that is tried raises; the clause has no name -/
theorem run_try_only {k : Nat} {R : List Dt → Prop} (T : PfX X.prog X.w X.K X.mg X.base y k (spX X.K C Dn R)) (hr : Room k X.A) (hst : X.stack = X.env :: X.outer) (hf : X.env.frame = some X.env.locals) (hc : Names X x c) (hex : PySem.W.exmOne X.K (.ref C) c = some true)
    (ha : ∀ pn xe, EvA (X.tr pn xe) F (e :: es) E ds E1) (h : R ds)
    (hsu : ∀ (a : Addr) (oe : Obj) (d : Option Addr) (pn : List (Addr × Obj)), Zc (.ref C) d oe → (∃ vs, oe.data = .fields vs) → Dn d → Run (X.suite a ((a, oe) :: pn)) F (b₀ :: suite) E1 { P with nx := fun E' => Run X F rest E' P })
    (hg : Gl X y := by rfl) (hdb : (y == ("__debug__" : Str)) = false := by decide) (hs : swapsWith (.Call (.Name y p) (e :: es) [] pos) none pos2.line X.env = pure false := by rfl)
    (he : starEach (e :: es) X.env = (false, eval e X.env) :: starEach es X.env := by rfl) (hpl : (backTo pos (starEach es X.env)).any (·.1) = false := by rfl) :
    Run X F (.Try [.Expr (.Call (.Name y p) (e :: es) [] pos) pos2] [.ExceptHandler (some (.Name x np)) none (b₀ :: suite) pos'] [] [] pos3 :: rest) E P :=
  let ⟨f, fd, ps, G, hm, hk, hb⟩ := T.ex
  run_of (pss_cons (ps_try_only (tb := fun W => tDrop (tCallS (spX X.K C Dn R) (WE W) (tAB X F (e :: es)))) (ts := fun a cls d => tSu X (b₀ :: suite) a cls d) (Wout := fun _ _ _ _ => False) hst hf hc takes0
    (fun W pn xe tk _ => pss_one (ps_expr (X := X.tr pn xe) (pe_callS (X := X.tr pn xe) G hr hg hm hk hb (fun σ => passAt tk σ) pa_ab hdb he hpl) hs)) (fun a oe cls d pn hz hf => pss_su hz hf)) (pss_ev (X := X))) fun σ H D r i =>
    ⟨E, ds, E1, r, ha, fun vs H1 r1 o1 p1 => ⟨E.M, ds, by
      have m := r1.mok
      rwa [(ha [] fun _ _ => False).fit.M] at m, p1, h, fun H' d sm dn => ⟨true, hex, fun _ a na => ⟨F, E1, _, r1.same sm, fun oe pn hz hf => hsu a oe d pn hz hf dn, ⟨fun σ H E r q => ⟨F, E, P, r, q, i⟩, i.rt, i.bk, i.ct⟩⟩, fun z => Bool.noConfusion z⟩⟩⟩
theorem RepE.clear {K : PySem.W.Frag} {H : Hp} {σ : L2.St} (j : Nat) (r : RepE K F H E σ) : RepE K F H ⟨E.M, E.ρ.set j none, E.μ⟩ (σ.set j none) :=
  ⟨r.st, r.mok, r.sub, by rw [List.length_set, List.length_set]; exact r.len, fun i d e => by
    by_cases z : j = i
    · subst z
      have hl := (List.getElem?_eq_some_iff.mp e).1
      rw [List.length_set] at hl
      rw [List.getElem?_set_self hl] at e
      cases e
    · rw [List.getElem?_set_ne z] at e ⊢
      exact r.at_ i d e, r.box, r.nd⟩
/-- the call that is tried raises; the clause has a name, slot i -/
theorem run_try_as {k i j : Nat} {R : List Dt → Prop} (hN : X.N.Nodup) (T : PfX X.prog X.w X.K X.mg X.base y k (spX X.K C Dn R)) (hr : Room k X.A) (hst : X.stack = X.env :: X.outer) (hf : X.env.frame = some X.env.locals) (hc : Names X x c) (hex : PySem.W.exmOne X.K (.ref C) c = some true)
    (hi : X.N[i]? = some n) (hln : X.env.kindOf n = some .local) (ha : ∀ pn xe, EvA (X.tr pn xe) F (e :: es) E ds E1) (h : R ds)
    (hsu : ∀ (a : Addr) (oe : Obj) (d : Option Addr) (pn : List (Addr × Obj)), Zc (.ref C) d oe → (∃ vs, oe.data = .fields vs) → Dn d → Run (X.suite a ((a, oe) :: pn)) F (b₀ :: suite) ⟨E1.M, E1.ρ.set i (some (.box a)), E1.μ⟩ ⟨fun E' => Run X F rest ⟨E'.M, E'.ρ.set i none, E'.μ⟩ P, P.rt, fun _ => False, fun _ => False⟩)
    (hj : X.N[j]? = some z) (hz : Loc X.env.scope z) (hfn : X.fn z = true ∨ X.env.scope.names.lookup z = some .local)
    (hg : Gl X y := by rfl) (hdb : (y == ("__debug__" : Str)) = false := by decide) (hs : swapsWith (.Call (.Name y p) (e :: es) [] pos) (some (.Name z py)) pos2.line X.env = pure false := by rfl)
    (he : starEach (e :: es) X.env = (false, eval e X.env) :: starEach es X.env := by rfl) (hpl : (backTo pos (starEach es X.env)).any (·.1) = false := by rfl) :
    Run X F (.Try [.Assign [.Name z py] (.Call (.Name y p) (e :: es) [] pos) pos2] [.ExceptHandler (some (.Name x np)) (some n) (b₀ :: suite) pos'] [] [] pos3 :: rest) E P :=
  let ⟨f, fd, ps, G, hm, hk, hb⟩ := T.ex
  run_of (pss_cons (ps_try_as (i := i) (tb := fun W => tAsg (tCallS (spX X.K C Dn R) (WE W) (tAB X F (e :: es))) (gName j)) (ts := fun a cls d => tSu X (b₀ :: suite) a cls d) (Wout := fun _ _ _ _ => False) hst hf hN hi hln hc takes0
    (fun W pn xe tk _ => pss_one (ps_set (X := X.tr pn xe) (i := j) hN hj hz (pe_callS (X := X.tr pn xe) G hr hg hm hk hb (fun σ => passAt tk σ) pa_ab hdb he hpl) hs hfn)) (fun a oe cls d pn hz hf => pss_su hz hf)) (pss_ev (X := X))) fun σ H D r im =>
    ⟨E, ds, E1, r, ha, fun vs H1 r1 o1 p1 => ⟨E.M, ds, by
      have m := r1.mok
      rwa [(ha [] fun _ _ => False).fit.M] at m, p1, h, fun H' d sm dn => ⟨true, hex, fun _ a na => ⟨F, _, _, (r1.same sm).put (d := .box a) rfl, fun oe pn hz hf => hsu a oe d pn hz hf dn, ⟨fun σ H E r q => ⟨F, _, P, r.clear i, q, im⟩, im.rt, fun σ H E r q => q.elim, fun σ H E r q => q.elim⟩⟩, fun z => Bool.noConfusion z⟩⟩⟩
/-- isinstance(e, C) of the exception that the suite holds: an own class -/
theorem ev_isEg {i : Nat} {a D C : Addr} {oe : Obj} {pn : List (Addr × Obj)} {k : Bool} {p' p'' : Pos} (T : ExcC X.K D) (hz : Zc (.ref D) none oe) (hf : ∃ vs, oe.data = .fields vs) (hd : E.ρ[i]? = some (some (.box a))) (hN : X.N[i]? = some n) (hv : Vis X.env.scope n) (h1 : (n == ("__debug__" : Str)) = false) (h2 : (n == ("__classdict__" : Str)) = false)
    (hmC : X.mg x = some (.ref C)) (hgC : Gl X x) (hxd : (x == ("__debug__" : Str)) = false) (hk : PySem.W.kitOne X.K (.ref D) (.ref C) = some k) (hI : X.mg "isinstance" = none) (hg : Gl X "isinstance") 
    (hs : starEach [.Name n p', .Name x p''] X.env = (false, eval (.Name n p') X.env) :: starEach [.Name x p''] X.env := by rfl) (hs2 : starEach [.Name x p''] X.env = (false, eval (.Name x p'') X.env) :: starEach [] X.env := by rfl) (hpl : (backTo pos (starEach [.Name x p''] X.env)).any (·.1) = false := by rfl) :
    Ev (X.suite a ((a, oe) :: pn)) F (.Call (.Name "isinstance" p) [.Name n p', .Name x p''] [] pos) E (.bl k) E :=
  ev_of (.refl _) (pe_callB (X := X.suite a ((a, oe) :: pn)) (call_isE T hz hf) hg hI boot_isinstance (pa_cons (X := X.suite a ((a, oe) :: pn)) (pe_ev (X := X.suite a ((a, oe) :: pn)) (F := F)) (pa_cons (X := X.suite a ((a, oe) :: pn)) (pe_glob (X := X.suite a ((a, oe) :: pn)) (v := .ref C) hgC hmC rfl hxd) pa_nil hs2) hs) (by decide) (by decide) hs hpl) fun σ H q =>
    tE_run (ev_var (X := X.suite a ((a, oe) :: pn)) i hd hN hv h1 h2) q fun v H1 r1 o1 p1 => ⟨.ref C, .ref C, k, by rw [show v = _ from p1], fun u hu => hu, hk, r1, o1, rfl⟩
/-- .. a built-in class -/
theorem ev_isEb {i : Nat} {a D : Addr} {oe : Obj} {pn : List (Addr × Obj)} {k : Bool} {p' p'' : Pos} {t : String} (T : ExcC X.K D) (hz : Zc (.ref D) none oe) (hf : ∃ vs, oe.data = .fields vs) (hd : E.ρ[i]? = some (some (.box a))) (hN : X.N[i]? = some n) (hv : Vis X.env.scope n) (h1 : (n == ("__debug__" : Str)) = false) (h2 : (n == ("__classdict__" : Str)) = false)
    (hmC : X.mg x = none) (hbC : bootBuiltins x = some (.type t)) (hgC : Gl X x) (hxn : x ≠ "__name__") (hxd : (x == ("__debug__" : Str)) = false) (hk : PySem.W.kitOne X.K (.ref D) (.type t) = some k) (hI : X.mg "isinstance" = none) (hg : Gl X "isinstance") 
    (hs : starEach [.Name n p', .Name x p''] X.env = (false, eval (.Name n p') X.env) :: starEach [.Name x p''] X.env := by rfl) (hs2 : starEach [.Name x p''] X.env = (false, eval (.Name x p'') X.env) :: starEach [] X.env := by rfl) (hpl : (backTo pos (starEach [.Name x p''] X.env)).any (·.1) = false := by rfl) :
    Ev (X.suite a ((a, oe) :: pn)) F (.Call (.Name "isinstance" p) [.Name n p', .Name x p''] [] pos) E (.bl k) E :=
  ev_of (.refl _) (pe_callB (X := X.suite a ((a, oe) :: pn)) (call_isE T hz hf) hg hI boot_isinstance (pa_cons (X := X.suite a ((a, oe) :: pn)) (pe_ev (X := X.suite a ((a, oe) :: pn)) (F := F)) (pa_cons (X := X.suite a ((a, oe) :: pn)) (pe_bltn (X := X.suite a ((a, oe) :: pn)) (v := .ty t) hgC hmC hbC rfl hxn hxd) pa_nil hs2) hs) (by decide) (by decide) hs hpl) fun σ H q =>
    tE_run (ev_var (X := X.suite a ((a, oe) :: pn)) i hd hN hv h1 h2) q fun v H1 r1 o1 p1 => ⟨.ty t, .type t, k, by rw [show v = _ from p1], fun u hu => hu, hk, r1, o1, rfl⟩
end
/-! ### NoWeaving(index), NotWrong() -/
def spNI (K : PySem.W.Frag) (C : Addr) : Sp := fun vs H Q _ => ∃ (a : Addr) (y : V), vs = [.ref a, y] ∧ H a = some (exo a C none) ∧ ∀ dx, H dx = none → dx ≠ a → Q .non (upd (upd H dx (exd dx [("index", y)])) a (exo a C (some dx)))
section
variable {K : PySem.W.Frag} {mg : Str → Option Value} {P : Program} {w : World} {base : Heap}
theorem oexB_ok {C : Addr} (h : Hd.oexB K C = true) : ∃ nm q N bs bm sn sub ab col dd k0 k1 k2 k3 k5, K.lookup C = some (excClassObj nm q C N bs bm true sn sub ab col dd k0 k1 k2 k3 k5 "ValueError.__new__") ∧ PySem.HandSPX.refsVE bm = true := by
  unfold Hd.oexB at h
  split at h
  · rename_i dd cd sl ho
    split at h
    · rename_i D bm k0 k1 k2 k3 n k5 hm hs
      simp only [Bool.and_eq_true, beq_iff_eq, Bool.not_eq_true'] at h
      obtain ⟨⟨⟨⟨rfl, rfl⟩, hdel⟩, hd⟩, hr⟩ := h
      obtain ⟨nm, bs, mro, ns, qn, hdc, sn, sub, ab, col, del⟩ := cd
      dsimp only at hm hdel hd
      subst hm hdel hd
      have hsl : sl = #[k0, k1, k2, k3, some (.builtin "ValueError.__new__"), k5] := by
        obtain ⟨l⟩ := sl
        simp only at hs
        rw [hs]
      subst hsl
      exact ⟨nm, qn, ns, bs, bm, sn, sub, ab, col, dd, k0, k1, k2, k3, k5, ho, hr⟩
    · cases h
  · cases h
theorem Tx.oex (T : Tx K mg) : OexC K (He.ga K "NoWeaving") :=
  ⟨oexB_ok (all_at T.e (i := 2) rfl), of_decide_eq_true (all_at T.e (i := 3) rfl), of_decide_eq_true (all_at T.e (i := 4) rfl), of_decide_eq_true (all_at T.e (i := 5) rfl), T.keep_NoWeaving⟩
theorem Tx.excC (T : Tx K mg) : ExcC K (He.ga K "NotWrong") :=
  ⟨of_decide_eq_true (all_at T.e (i := 9) rfl), of_decide_eq_true (all_at T.e (i := 10) rfl), of_decide_eq_true (all_at T.e (i := 11) rfl), all_at T.e (i := 12) rfl, of_decide_eq_true (all_at T.e (i := 13) rfl), of_decide_eq_true (all_at T.e (i := 14) rfl), of_decide_eq_true (all_at T.e (i := 15) rfl), of_decide_eq_true (all_at T.e (i := 16) rfl)⟩
theorem ok_NoWeaving (T : Tx K mg) : ∃ fd, FnOk P w K mg base CX0 1 (He.ma K (He.ga K "NoWeaving") "__init__") fd ["self", "index"] (spNI K (He.ga K "NoWeaving")) ∧ Binds K fd ["self", "index"] [] := by
  obtain ⟨fd, D⟩ := T.d_NoWeaving
  have nd : (["self", "index"] : List Str).Nodup := by decide +kernel
  refine ⟨fd, D.ok (N := ["self", "index"]) ⟨rfl, rfl, rfl, nd, rfl, by decide +kernel, by decide +kernel⟩ (fun vs H Q E h => ?_) (fun cdv A outer s H vs Q E hr h => ⟨_, pss_one (ps_ost (pe_var (i := 0) rfl (.inl rfl)) (pe_var (i := 1) rfl (.inl rfl))), ?_⟩), D.bindsN fun _ _ _ _ _ _ us hl => match us, hl with | [_, _], _ => rfl⟩
  · obtain ⟨a, y, rfl, _⟩ := h
    rfl
  · obtain ⟨a, y, rfl, e, q⟩ := h
    exact ⟨_, rfl, _, rfl, a, _, rfl, T.oex, of_decide_eq_true (all_at T.e (i := 6) rfl), .inl ⟨e, fun dx n ne => q dx n ne⟩⟩
end
section
variable {X : Cx} {F : Fr} {E E1 : En} {P : Pe} {pos p pos2 : Pos} {e : Expr} {d : Dt} {rest : List Stmt}
theorem run_noWeaving (T : Tx X.K X.mg) (rz : RaisesAt X F (He.ga X.K "NoWeaving") fun _ => True) (he : Ev X F e E d E1) (hr : Room 2 X.A) (hg : Gl X "NoWeaving" := by rfl) (hc : X.calm = true := by rfl)
    (hs : starEach [e] X.env = (false, eval e X.env) :: starEach [] X.env := by rfl) (hpl : (backTo pos (starEach [] X.env)).any (·.1) = false := by rfl) : Run X F (.Raise (some (.Call (.Name "NoWeaving" p) [e] [] pos)) none pos2 :: rest) E P := by
  obtain ⟨fd, G, hb⟩ := ok_NoWeaving (P := X.prog) (w := X.w) (base := X.base) T
  refine run_raise rz (pmk_oex T.oex (of_decide_eq_true (all_at T.e (i := 7) rfl)) (of_decide_eq_true (all_at T.e (i := 8) rfl)) G hr hb .nil (fun _ _ _ _ _ _ _ h => False.elim h) hg T.g_NoWeaving (pa_cons (pe_ev (F := F)) pa_nil hs) (by decide) hs hpl) (fun σ H r Q q => ?_) hc
  refine tE_run he r fun v H1 r1 o1 p1 => ⟨by show 1 ≤ 1000; omega, fun a na => ⟨a, v, rfl, upd_same, fun dx nx ne => ⟨rfl, dx, [("index", v)], upd_same, ?_, ?_, q _ _ ?_ trivial⟩⟩⟩
  · rw [upd_ne ne, upd_same]
  · rw [upd_ne ne] at nx
    exact nx
  · refine F.same H1 _ r1.st fun b o eb => ?_
    rw [upd_ne ne] at nx
    have n1 : b ≠ dx := ne_of_none eb nx
    have n2 : b ≠ a := ne_of_none eb na
    rw [upd_ne n1, del_ne n2, upd_ne n2, upd_ne n1, upd_ne n2]
    exact eb
theorem run_notWrong (T : Tx X.K X.mg) (rz : RaisesAt X F (He.ga X.K "NotWrong") fun d => d = none) (hg : Gl X "NotWrong" := by rfl) (hc : X.calm = true := by rfl) : Run X F (.Raise (some (.Call (.Name "NotWrong" p) [] [] pos)) none pos2 :: rest) E P := by
  obtain ⟨q, kC, h1, h2⟩ := T.exc_NotWrong
  refine run_raise (t := fun _ H Q => Q (.ref (He.ga X.K "NotWrong")) none H) rz (fun pins s σ H Q I h => ?_) (fun σ H r Q q => q none H r.st rfl) hc
  refine wpAny_Call_Name_kw (ld_glob I hg T.g_NotWrong ?_ (by decide))
  refine PySem.W.callWith_K0 I.kIn kC ?_
  show wpAny _ _ (call (.ref (He.ga X.K "NotWrong")) []) _ _ _
  obtain ⟨bm, N, nm, qn, bs, hdct, sn, sub, ab, col, dd, k0, k1, k2, k3, k5, mN, hC, hN, hni, TT⟩ := exc_obj I.kIn q
  obtain ⟨hp, g, dr, tk, os⟩ := s
  refine wpAny_call_exc_subT PySem.F.excBase_ValueError TT hC hN hni (fun h' e hm => ?_) (by show 0 ≤ sizeLine; exact Nat.zero_le _)
  exact mk_of I hm (raises_own h1 h2) h (I.hok.gone hm.new)
end
end Bs
namespace Bs
open PySem PySem.Spec PyProof.Rows L2
section
variable {X : Cx} {F : Fr} {E E1 : En} {P : Pe} {c : Expr} {k : Bool} {pos : Pos} {rest : List Stmt}
/-- an if whose branches meet at E' -/
theorem run_ifJ (E' : En) (hc : EvT X F c E k E1) {A B : List Stmt} (ha : k = true → Run X F A E1 { P with nx := fun Z => Z = E' }) (hb : k = false → Run X F B E1 { P with nx := fun Z => Z = E' }) (hj : Run X F rest E' P) : Run X F (.If c A B pos :: rest) E P :=
  run_if hc (fun e => (ha e).imp (fun Z h => by
    rw [show Z = E' from h]
    exact hj) (fun _ _ h => h) (fun _ h => h) fun _ h => h) (fun e => (hb e).imp (fun Z h => by
    rw [show Z = E' from h]
    exact hj) (fun _ _ h => h) (fun _ h => h) fun _ h => h)
end
theorem hu_of {n : Nat} {A : Around} (hr : Room n A) : A.units + 1 < cLine := by
  have := hr.un
  omega
end Bs
namespace Bs
open PySem PySem.Spec PyProof.Rows L2
section
variable {X : Cx} {F : Fr} {elt tg iter : Expr} {ifs : List Expr} {rest : List Stmt} {P : Pe} {E : En} {ys l : List Dt} {scope : Scope} {own : List (Str × Nat)} {pos spos py : Pos} {g : TG} {is : List Nat} {y : Str}
/-- y = [..], without side effects: which items are kept, what is made of them -/
theorem run_setLcP (i : Nat) (hN : X.N.Nodup) (src : EvI X F tg iter E ys E) (ok : BlkOk X.N X.env.scope scope own) (hg : Bk X scope fun Y => PG Y tg g) (his : ∀ i ∈ is, i ∈ own.map (·.2)) (hl : ys.length ≤ 10000) (p : Nat → Bool) (f : Nat → Dt)
    (step : ∀ (D : Addr) (i : Nat) (d : Dt), D ∉ E.M → ys[i]? = some d → ∃ ds, Tgt X.K g is d ds ∧ Bk X scope (fun Y => EvTs Y F ifs ⟨D :: E.M, setsD (wipeD E.ρ (own.map (·.2))) is ds, E.μ⟩ (p i) ⟨D :: E.M, setsD (wipeD E.ρ (own.map (·.2))) is ds, E.μ⟩) ∧
      (p i = true → Bk X scope (fun Y => Ev Y F elt ⟨D :: E.M, setsD (wipeD E.ρ (own.map (·.2))) is ds, E.μ⟩ (f i) ⟨D :: E.M, setsD (wipeD E.ρ (own.map (·.2))) is ds, E.μ⟩)))
    (done : ((List.range ys.length).filter p).map f = l) (q : Run X F rest ⟨E.M, E.ρ.set i (some (.lst l)), E.μ⟩ P)
    (hsw : swapsWith (.ListComp elt [⟨tg, iter, ifs, 0⟩] scope pos) (some (.Name y py)) spos.line X.env = pure true := by rfl) (hy : X.N[i]? = some y := by rfl) (hyl : X.env.scope.names.lookup y = some .local := by rfl) (hc : X.calm = true := by rfl) (hs : ∀ x, foldedSetIterable iter X.env x = pure x := by intro _; rfl) :
    Run X F (.Assign [.Name y py] (.ListComp elt [⟨tg, iter, ifs, 0⟩] scope pos) spos :: rest) E P := by
  refine run_setLc (μ' := E.μ) i hN src ok hg his hl rfl (fun i acc μ => acc = ((List.range i).filter p).map f ∧ μ = E.μ) ⟨rfl, rfl⟩ (fun D i d acc μ nD hd hP hA => ?_) (fun acc μ hP => ⟨hP.1.trans done, hP.2⟩) q hsw hy hyl hc hs
  obtain ⟨rfl, rfl⟩ := hP
  obtain ⟨ds, ht, h1, h2⟩ := step D i d nD hd
  refine ⟨ds, ht, p i, E.μ, rfl, h1, fun e => ⟨f i, E.μ, rfl, h2 e, ?_, rfl⟩, fun e => ⟨?_, rfl⟩⟩
  · rw [List.range_succ, List.filter_append, List.filter_cons_of_pos e, List.map_append] <;> rfl
  · rw [List.range_succ, List.filter_append, List.filter_cons_of_neg (by rw [e]; exact Bool.false_ne_true), List.map_append]
    simp
theorem run_setLcM (i : Nat) (hN : X.N.Nodup) (src : EvI X F tg iter E ys E) (ok : BlkOk X.N X.env.scope scope own) (hg : Bk X scope fun Y => PG Y tg g) (his : ∀ i ∈ is, i ∈ own.map (·.2)) (hl : ys.length ≤ 10000) (f : Nat → Dt)
    (step : ∀ (D : Addr) (i : Nat) (d : Dt), D ∉ E.M → ys[i]? = some d → ∃ ds, Tgt X.K g is d ds ∧
      Bk X scope (fun Y => Ev Y F elt ⟨D :: E.M, setsD (wipeD E.ρ (own.map (·.2))) is ds, E.μ⟩ (f i) ⟨D :: E.M, setsD (wipeD E.ρ (own.map (·.2))) is ds, E.μ⟩))
    (done : (List.range ys.length).map f = l) (q : Run X F rest ⟨E.M, E.ρ.set i (some (.lst l)), E.μ⟩ P)
    (hsw : swapsWith (.ListComp elt [⟨tg, iter, [], 0⟩] scope pos) (some (.Name y py)) spos.line X.env = pure true := by rfl) (hy : X.N[i]? = some y := by rfl) (hyl : X.env.scope.names.lookup y = some .local := by rfl) (hc : X.calm = true := by rfl) (hs : ∀ x, foldedSetIterable iter X.env x = pure x := by intro _; rfl) :
    Run X F (.Assign [.Name y py] (.ListComp elt [⟨tg, iter, [], 0⟩] scope pos) spos :: rest) E P :=
  run_setLcP i hN src ok hg his hl (fun _ => true) f (fun D i d nD hd => let ⟨ds, ht, h⟩ := step D i d nD hd; ⟨ds, ht, fun _ _ _ _ _ => evts_nil, fun _ => h⟩) (by
    rw [← done]
    congr 1
    simp) q hsw hy hyl hc hs
end
end Bs
namespace Bs
open PySem PySem.Spec PyProof.Rows L2
section
variable {X : Cx} {F : Fr} {E E1 : En} {P : Pe} {c : Expr} {k : Bool} {pos p : Pos} {rest sts : List Stmt} {e : Expr} {ds : List Dt} {l D : Addr} {x : Bx} {M : List Addr} {ρ : List (Option Dt)} {μ : List (Addr × Bx)}
/-- an if whose branches meet in J -/
theorem run_ifG (J : En → Prop) (hc : EvT X F c E k E1) {A B : List Stmt} (ha : k = true → Run X F A E1 { P with nx := J }) (hb : k = false → Run X F B E1 { P with nx := J }) (hj : ∀ E', J E' → Run X F rest E' P) : Run X F (.If c A B pos :: rest) E P :=
  run_if hc (fun e => (ha e).imp hj (fun _ _ h => h) (fun _ h => h) fun _ h => h) (fun e => (hb e).imp hj (fun _ _ h => h) (fun _ h => h) fun _ h => h)
/-- a mutable object is let go -/
theorem run_drop (hs : ∀ a ∈ F.M0, a ∈ M) (hb : ∀ p ∈ μ, p.1 ∈ M) (h : Run X F sts ⟨M, ρ, μ⟩ P) : Run X F sts ⟨D :: M, ρ, (D, x) :: μ⟩ P :=
  ⟨fun pins s σ H Z I r i => h.run pins s σ H Z I (RepE.unmask (E := ⟨D :: M, ρ, μ⟩) (D := D) ⟨r.st, r.mok, r.sub, r.len, r.at_, fun p hp => r.box p (List.mem_cons_of_mem _ hp), (List.nodup_cons.mp r.nd).2⟩ hs hb) i⟩
/-- tuple(xs) of a list that may change -/
theorem ev_tupB (h : Ev X F e E (.box l) E1) (hm1 : (l, Bx.l ds) ∈ E1.μ) (hmt : X.mg "tuple" = none) (hg : Gl X "tuple" := by rfl) (he : starEach [e] X.env = (false, eval e X.env) :: starEach [] X.env := by rfl) (hpl : (backTo pos (starEach [] X.env)).any (·.1) = false := by rfl) :
    Ev X F (.Call (.Name "tuple" p) [e] [] pos) E (.tup ds) E1 :=
  ev_of h.fit (pe_callTy call_tuple_of hg hmt bt_tuple (pa_cons (pe_ev (F := F)) pa_nil he) (by decide) (by decide) he hpl) fun σ H q => tE_run h q fun v H1 r1 o1 p1 => by
    obtain ⟨xs, ex, rx⟩ := (r1.box _ hm1).2.2
    rw [h.fit.M] at rx
    exact ⟨l, xs, by rw [show v = _ from p1], .inl ⟨.of ex, fun p hp => ⟨r1.same (same_up hp), o1.trans (.of (same_up hp)), rep_tup hp rx⟩⟩⟩
end
end Bs
namespace Bs
open PySem PySem.Spec PyProof.Rows L2
/-- a list that the module's own text wrote -/
def KL (K : PySem.W.Frag) (a : Addr) (xs : List V) : Prop := ∃ (o : Obj) (its : Array Value) (n : Nat), K.lookup a = some o ∧ o.cls = .type "list" ∧ o.dict = none ∧ o.data = .seq its n ∧ its.size ≤ sizeLine ∧ Vals xs its.toList
theorem reps_ints {K : PySem.W.Frag} {M : List Addr} {H : Hp} : ∀ is : List Int, Reps K M H (is.map Dt.int) (is.map V.int)
  | [] => rfl
  | i :: is => ⟨.int i, is.map V.int, rfl, rfl, reps_ints is⟩
/-- the script: a list of ints -/
def ScriptD (K : PySem.W.Frag) (d : Dt) (is : List Int) : Prop := d = .lst (is.map Dt.int) ∨ ∃ a, d = .box a ∧ KL K a (is.map V.int)
section
variable {X : Cx} {F : Fr} {a : Expr} {E E1 E2 E3 : En} {lo hi : Option Expr} {pos p2 : Pos} {d : Dt}
theorem ev_slS {is : List Int} {i j : Option Int} (hS : ScriptD X.K d is) (ha : Ev X F a E d E1) (hl : EvO X F lo E1 i E2) (hh : EvO X F hi E2 j E3) : Ev X F (.Subscript a (.Slice lo hi none p2) pos) E (.lst (cutD (is.map Dt.int) i j)) E3 := by
  rcases hS with rfl | ⟨p, rfl, hK⟩
  · exact ev_slL ha hl hh
  · exact ev_of ((ha.fit.trans hl.fit).trans hh.fit) (pe_slice sl_list pe_ev po_ev po_ev) fun σ H q => tE_run ha q fun x H1 r1 o1 p1 => ⟨E1, i, E2, r1, hl, fun H2 r2 o2 => ⟨E2, j, E3, r2, hh, fun H3 r3 o3 => by
      rw [ha.fit.A] at o2
      rw [hl.fit.A, ha.fit.A] at o3
      have m := r3.mok
      rw [hh.fit.M, hl.fit.M, ha.fit.M] at m
      exact ⟨p, is.map V.int, p1, .inr hK, fun q hq => ⟨r3.same (same_up hq), (o1.trans (o2.trans o3)).trans (.of (same_up hq)), rep_lst m hq (cut_rep (reps_ints is))⟩⟩⟩⟩
end
section
variable {P : Program} {w : World} {K : PySem.W.Frag} {mg : Str → Option Value} {base : Heap} {x : Str} {st : Stmt} {f : Addr} {fd : FuncData} {N ps : List Str} {k : Nat}
/-- as pf_mk, of the function object itself -/
theorem pfF_mk {R : List Dt → Dt → Prop} (D : FunD K x x (defArgs st) (defBody st) (defScope st) [] [] f fd) (S : FnScope N ps (defScope st))
    (hlen : ∀ ds d, R ds d → ds.length = ps.length)
    (body : ∀ (cdv : Value) (A : Around) (outer : List Env) (s : Shared) (H : Hp) (E : XK), Room k (A.deeper (envOfC x (defScope st) s.heap.objs.size f cdv)) → ∀ (F : Fr) (ds : List Dt) (d : Dt), R ds d →
      Run (Cb P w K mg base N x (defScope st) f cdv A outer s H E) F (defBody st) (En0 F N ds []) ⟨fun _ => d = .non, fun d' _ => d' = d, fun _ => False, fun _ => False⟩) : FnOk P w K mg base CX0 (k + 1) f fd ps (spR K R) := by
  refine D.ok S (fun vs H Q E h => ?_) (fun cdv A outer s H vs Q E hr h => ?_)
  · obtain ⟨M, ds, d, m, rp, hR, q⟩ := h
    rw [rp.length]
    exact hlen ds d hR
  · obtain ⟨M, ds, d, m, rp, hR, q⟩ := h
    refine ⟨_, PSs.nox (pss_ev (X := Cb P w K mg base N x (defScope st) f cdv A outer s H E)), frame0 M [] H, En0 (frame0 M [] H) N ds [], _, ⟨.refl _ _, m, fun a ha => ha, start_length rp.length, start_get rp, (fun p hp => nomatch hp), List.nodup_nil⟩,
      body cdv A outer s H E hr (frame0 M [] H) ds d hR, fun σ H' E' r e => ?_, fun v H' d' E' σ r p e => ?_, fun σ H' E' r e => e.elim, fun σ H' E' r e => e.elim⟩
    · refine q _ H' r.st.same ?_
      rw [e]
      rfl
    · rw [e] at p
      exact q v H' r.st.same p
end
end Bs
set_option Elab.async false
set_option linter.all false
set_option maxRecDepth 100000
set_option maxHeartbeats 4000000
/-! Play(kind, inputs) -/
namespace Bs
open PySem PySem.Spec PyProof.Rows L2
section
variable {P : Program} {w : World} {K : PySem.W.Frag} {mg : Str → Option Value} {base : Heap}
def spI (K : PySem.W.Frag) : Sp := fun vs H Q _ => ∃ (M : List Addr) (a dx : Addr) (v : V) (rows : List Bs.Row), MOk M H ∧ vs = [.ref a, .str "sweep", v] ∧ Rep K M H (encRows rows) v ∧ PlayOk rows ∧ H a = some (.ins (PC K) dx []) ∧
  ∀ H', Off [a] H H' → H' a = some (.ins (PC K) dx [("kind", .str "sweep"), ("inputs", v), ("rows", v)]) → Q .non H'
theorem off_upd {H : Hp} {a : Addr} {o : HO} : Off [a] H (upd H a o) := fun b x n e => by
  rw [upd_ne (by simpa using n)]
  exact e
theorem ok_Play (T : Tx K mg) : ∃ fd, FnOk P w K mg base CX0 8 (He.ma K (He.ga K "Play") "__init__") fd ["self", "kind", "inputs"] (spI K) ∧ Binds K fd ["self", "kind", "inputs"] [] := by
  obtain ⟨fd, D⟩ := T.d_Play
  have nd : (["self", "kind", "inputs"] : List Str).Nodup := by decide +kernel
  refine ⟨fd, D.ok (N := ["self", "kind", "inputs"]) ⟨rfl, rfl, rfl, nd, rfl, by decide +kernel, by decide +kernel⟩ (fun vs H Q E h => ?_) (fun cdv A outer s H vs Q E hr h => ?_), D.bindsN fun _ _ _ _ _ _ us hl => match us, hl with | [_, _, _], _ => rfl⟩
  · obtain ⟨M, a, dx, v, rows, m, rfl, _⟩ := h
    rfl
  · obtain ⟨M, a, dx, v, rows, m, rfl, rv, hp, ea, q⟩ := h
    have F0 : Fr := frame0 M [] H
    refine ⟨_, PSs.nox (X := cxOf CX0 P w K mg base ["self", "kind", "inputs"] "Play.__init__" (defScope Hd.s_Play) (He.ma K (He.ga K "Play") "__init__") cdv A outer s H E)
      (pss_cons (ps_if (pt_ev (F := frame0 M [] H)) pss_never pss_nil) (pss_cons (ps_if (pt_ev (F := frame0 M [] H)) pss_never pss_nil)
      (pss_cons (ps_fld (pe_var (i := 0) rfl (.inl rfl)) (pe_var (i := 1) rfl (.inl rfl)) rfl) (pss_cons (ps_fld (pe_var (i := 0) rfl (.inl rfl)) (pe_var (i := 2) rfl (.inl rfl)) rfl)
      (pss_one (ps_fld (pe_var (i := 0) rfl (.inl rfl)) (pe_ifExp (pt_ev (F := frame0 M [a] H)) (pe_ix ix_tup (pe_var (i := 2) rfl (.inl rfl)) pe_int (by intro _ _; rfl)) (pe_var (i := 2) rfl (.inl rfl))) rfl)))))), ?_⟩
    have rp : Reps K M H [.box a, .str "sweep", encRows rows] [.ref a, .str "sweep", v] := ⟨_, _, rfl, rfl, _, _, rfl, rfl, _, _, rfl, rv, rfl⟩
    have r : RepE K (frame0 M [] H) H (En0 (frame0 M [] H) ["self", "kind", "inputs"] [.box a, .str "sweep", encRows rows] []) (start ["self", "kind", "inputs"] [.ref a, .str "sweep", v]) :=
      ⟨.refl _ _, m, fun a ha => ha, start_length rp.length, start_get rp, (fun p hp => nomatch hp), List.nodup_nil⟩
    refine tT_run (EvW.t (evw_or (k1 := false) (k2 := false) (evt_not (k := true) (evt_val (ev_isi (ev_var 1 rfl) rfl (by decide +kernel) T.n_isinstance T.n_str bt_str))) fun _ => evw_or1
      (evt_cmp (opd_notInK rfl (by decide +kernel) (by decide +kernel)) (ev_var 1 rfl) (ev_bin (opd_catT (by decide)) (ev_glob T.v_MANNERS) (ev_tup (eva_cons (ev_glob T.v_LEVELS) (eva_cons (ev_glob T.v_NAMES) (eva_cons (ev_glob T.v_NEAR) (eva_cons (ev_glob T.v_CHAIN) eva_nil))))))))) r fun H1 r1 o1 => iteF ?_
    refine tT_run (evt_not (k := true) (evt_val (ev_call (ok_are_inputs T) (hr.mono (by decide)) (eva_cons (ev_var 1 rfl) (eva_cons (ev_var 2 rfl) eva_nil)) ⟨rows, rfl, hp, rfl⟩))) r1 fun H2 r2 o2 => iteF ?_
    have oo := o1.trans o2
    have ea2 := oo a _ (fun z => nomatch z) ea
    have of : ∀ (fs : List (Str × V)), Off [a] H (upd H2 a (.ins (PC K) dx fs)) := fun fs => (oo.mono fun b hb => nomatch hb).trans off_upd
    have nM : a ∉ M := m.ins ea
    refine ⟨_, rfl, _, rfl, a, _, dx, [], rfl, ea2, T.play.cl, T.play.k, by decide, ?_⟩
    refine ⟨v, rfl, _, rfl, a, _, dx, _, rfl, upd_same, T.play.cl, T.play.i, by show 1 < 1000; omega, ?_⟩
    rw [upd_upd]
    have m2 : MOk M (upd H2 a (.ins (PC K) dx [("kind", .str "sweep"), ("inputs", v)])) := fun b hb => by
      rw [upd_ne (fun z => nM (by rw [← z]; exact hb))]
      exact r2.mok b hb
    have r3 : RepE K (frame0 M [a] H) (upd H2 a (.ins (PC K) dx [("kind", .str "sweep"), ("inputs", v)])) ⟨M, [some (.box a), some (.str "sweep"), none], []⟩ (start ["self", "kind", "inputs"] [.ref a, .str "sweep", v]) :=
      ⟨of _, m2, fun a ha => ha, rfl, fun i d e => (match i, e with
        | 0, e => by
          cases e
          exact ⟨_, rfl, rfl⟩
        | 1, e => by
          cases e
          exact ⟨_, rfl, rfl⟩
        | 2, e => by cases e), (fun p hp => nomatch hp), List.nodup_nil⟩
    refine tT_run (evt_cmp (opd_eqSK (i := "sweep") (k := false) (by decide)) (ev_var 1 rfl) (ev_glob T.v_NEAR)) r3 fun H3 r4 o3 => iteF ⟨v, rfl, _, rfl, a, _, dx, [("kind", .str "sweep"), ("inputs", v)], rfl, o3 a _ (fun z => nomatch z) upd_same, T.play.cl, T.play.r, by show 2 < 1000; omega, q _ ?_ ?_⟩
    · exact ((of _).trans (o3.mono fun b hb => nomatch hb)).trans off_upd
    · exact upd_same
section
variable {X : Cx} {F : Fr} {E E1 : En} {e : Expr} {es : List Expr} {p pos : Pos} {rows : List Bs.Row}
theorem ev_play (T : Tx X.K X.mg) (hr : Room 9 X.A) (ha : EvA X F (e :: es) E [.str "sweep", encRows rows] E1) (hp : PlayOk rows) (hg : Gl X "Play" := by rfl)
    (he : starEach (e :: es) X.env = (false, eval e X.env) :: starEach es X.env := by rfl) (hpl : (backTo pos (starEach es X.env)).any (·.1) = false := by rfl) : Ev X F (.Call (.Name "Play" p) (e :: es) [] pos) E (encPlay rows) E1 := by
  obtain ⟨fd, G, hb⟩ := ok_Play (P := X.prog) (w := X.w) (base := X.base) T
  refine ev_of ha.fit (pe_make (E := E0) T.mk_Play G hr hg T.g_Play hb .nil pass0 pa_ev (by decide) he hpl) fun σ H r => tA_run ha r fun vs H1 r1 o1 p1 => fun x dx nx nd ne => ?_
  obtain ⟨v0, _, rfl, rfl, v, _, rfl, rv, rfl⟩ := p1
  have sm : Same H1 (upd (upd H1 dx (.own x)) x (.ins (PC X.K) dx [])) := (same_up nd).trans (same_up (by rw [upd_ne (Ne.symm ne)]; exact nx))
  have m := r1.mok
  rw [ha.fit.M] at m
  refine ⟨E.M, x, dx, v, rows, m.same sm, rfl, Rep.same sm _ _ rv, hp, upd_same, fun H' of e' => ?_⟩
  have s2 : Same H1 H' := fun b o eb => of b o (by simpa using ne_of_none eb nx) (sm b o eb)
  exact ⟨rfl, r1.same s2, o1.trans (.of s2), x, dx, v, v, rfl, e', Rep.same s2 _ _ rv, Rep.same s2 _ _ rv⟩
end
end
end Bs
set_option Elab.async false
set_option linter.all false
set_option maxRecDepth 100000
set_option maxHeartbeats 4000000
/-! # The plain law: weavings, looks, moments, shrinking -/
namespace Bs
open PySem PySem.Spec PyProof.Rows L2
theorem begunS_ok (rows : List Bs.Row) (h2 : 2 ≤ rows.length) : SdOk rows (begunS rows) := by
  refine ⟨by simp [begunS], by simp [begunS], by simp [begunS], fun h done now e => ?_⟩
  have e : (rows.map fun r => freshS r 0)[h]? = some (some (done, now)) := e
  rw [List.getElem?_map] at e
  cases q : rows[h]? with
  | none =>
    rw [q] at e
    cases e
  | some r =>
    rw [q] at e
    have e : freshS r 0 = some (done, now) := Option.some.inj e
    unfold freshS at e
    rw [getD_of q]
    split at e
    · have e := Option.some.inj e
      have e1 : 0 = done := congrArg Prod.fst e
      have e2 : [] = now := congrArg Prod.snd e
      subst e1 e2
      refine ⟨by assumption, by show 0 < _; omega, ?_⟩
      show (List.getD (rows.map fun _ => ([] : List (List Cell))) h []).length ≤ 0
      rw [getD_of (x := []) (by rw [List.getElem?_map, q] <;> rfl)]
      exact Nat.le_refl _
    · cases e
theorem getD_set_self {α : Type} {l : List α} {i : Nat} {a d : α} (h : i < l.length) : (l.set i a).getD i d = a := getD_of (List.getElem?_set_self h)
theorem getD_set_ne {α : Type} {l : List α} {i j : Nat} {a d : α} (h : i ≠ j) : (l.set i a).getD j d = l.getD j d := by
  rw [List.getD_eq_getElem?_getD, List.getElem?_set_ne h, List.getD_eq_getElem?_getD]
theorem freshS_some {r : Bs.Row} {n done : Nat} {now : List Cell} (e : freshS r n = some (done, now)) : done = n ∧ now = [] ∧ n < r.length := by
  unfold freshS at e
  split at e
  · have e := Option.some.inj e
    exact ⟨(congrArg Prod.fst e).symm, (congrArg Prod.snd e).symm, by assumption⟩
  · cases e
theorem stepS_ok {rows : List Bs.Row} {s : Sd} (h2 : 2 ≤ rows.length) (z : SdOk rows s) (h : Nat) : SdOk rows (stepS rows s h) := by
  cases e0 : s.states[h]? with
  | none =>
    have : stepS rows s h = s := by
      unfold stepS
      rw [List.getD_eq_getElem?_getD, e0]
      rfl
    rw [this]
    exact z
  | some a =>
    cases a with
    | none =>
      have : stepS rows s h = s := by
        unfold stepS
        rw [getD_of e0]
      rw [this]
      exact z
    | some p =>
      obtain ⟨done, now⟩ := p
      have hh := z.lt e0
      obtain ⟨hd1, hd2, hd3⟩ := z.st h done now e0
      rw [stepS_eq e0]
      refine ⟨?_, ?_, ?_, fun k dn nw e => ?_⟩
      · dsimp only
        split
        · rw [List.length_set]
          exact z.hc
        · exact z.hc
      · show (s.states.set h _).length = _
        rw [List.length_set]
        exact z.hs
      · dsimp only
        split
        · rw [List.length_set]
          exact z.ht
        · exact z.ht
      · have e : (s.states.set h (afterS (rows.getD h []) s.cells h done now).2.1)[k]? = some (some (dn, nw)) := e
        by_cases hk : h = k
        · subst hk
          rw [List.getElem?_set_self (by rw [z.hs]; exact hh)] at e
          have e := Option.some.inj e
          show dn < _ ∧ _ ∧ _
          unfold afterS at e ⊢
          cases hx : (rows.getD h [])[done]? with
          | none =>
            have := List.getElem?_eq_none_iff.mp hx
            omega
          | some x =>
            rw [hx] at e
            cases x with
            | put v =>
              obtain ⟨rfl, rfl, h3⟩ := freshS_some e
              exact ⟨h3, by show 0 < _; omega, by show (s.told.getD h []).length ≤ _; omega⟩
            | see =>
              dsimp only at e ⊢
              split at e
              · rename_i hc
                obtain ⟨rfl, rfl, h3⟩ := freshS_some e
                refine ⟨h3, by show 0 < _; omega, ?_⟩
                rw [if_pos hc]
                show (List.getD (s.told.set h _) h []).length ≤ _
                rw [getD_set_self (by rw [z.ht]; exact hh), List.length_append]
                exact Nat.succ_le_succ hd3
              · rename_i hc
                have e := Option.some.inj e
                have e1 : done = dn := congrArg Prod.fst e
                have e2 : now ++ [s.cells.getD now.length (0, 0)] = nw := congrArg Prod.snd e
                subst e1 e2
                rw [if_neg hc]
                refine ⟨hd1, ?_, hd3⟩
                rw [List.length_append]
                rw [z.hc] at hc
                show now.length + 1 < _
                omega
        · rw [List.getElem?_set_ne hk] at e
          obtain ⟨a1, a2, a3⟩ := z.st k dn nw e
          refine ⟨a1, a2, ?_⟩
          dsimp only
          split
          · rw [getD_set_ne hk]
            exact a3
          · exact a3
/-! ### standings -/
def sAt (rows : List Bs.Row) (w : List Nat) (i : Nat) : Sd := (w.take i).foldl (stepS rows) (begunS rows)
theorem sAt_zero (rows : List Bs.Row) (w : List Nat) : sAt rows w 0 = begunS rows := by
  unfold sAt
  rw [List.take_zero] <;> rfl
theorem sAt_succ {rows : List Bs.Row} {w : List Nat} {i h : Nat} (e : w[i]? = some h) : sAt rows w (i + 1) = stepS rows (sAt rows w i) h := by
  unfold sAt
  have hl := (List.getElem?_eq_some_iff.mp e).1
  rw [List.take_succ, List.foldl_append, e] <;> rfl
theorem sAt_ok {rows : List Bs.Row} (h2 : 2 ≤ rows.length) (w : List Nat) : ∀ i : Nat, SdOk rows (sAt rows w i)
  | 0 => by
    rw [sAt_zero]
    exact begunS_ok rows h2
  | i + 1 => by
    cases e : w[i]? with
    | none =>
      have hl := List.getElem?_eq_none_iff.mp e
      have : sAt rows w (i + 1) = sAt rows w i := by
        unfold sAt
        rw [List.take_of_length_le (by omega), List.take_of_length_le hl]
      rw [this]
      exact sAt_ok h2 w i
    | some h =>
      rw [sAt_succ e]
      exact stepS_ok h2 (sAt_ok h2 w i) h
/-- the state of the hand that takes step i -/
def stAt (rows : List Bs.Row) (w : List Nat) (i : Nat) : Hs := (sAt rows w i).states.getD (w.getD i 0) none
def okW (rows : List Bs.Row) (w : List Nat) : Bool := (List.range w.length).all fun i => (stAt rows w i).isSome
def InW (rows : List Bs.Row) (w : List Nat) : Prop := ∀ h ∈ w, h < rows.length
theorem okW_at {rows : List Bs.Row} {w : List Nat} (h : okW rows w = true) {i : Nat} (hi : i < w.length) : ∃ done now, stAt rows w i = some (done, now) := by
  have h := List.all_eq_true.mp h i (List.mem_range.mpr hi)
  cases e : stAt rows w i with
  | none =>
    rw [e] at h
    cases h
  | some p => exact ⟨p.1, p.2, rfl⟩
/-- the first step that no hand can take -/
theorem okW_bad {rows : List Bs.Row} {w : List Nat} (h : okW rows w = false) : ∃ j, j < w.length ∧ stAt rows w j = none ∧ ∀ i, i < j → ∃ done now, stAt rows w i = some (done, now) := by
  have key : ∀ n : Nat, n ≤ w.length → (∀ i, i < n → ∃ done now, stAt rows w i = some (done, now)) ∨ ∃ j, j < n ∧ stAt rows w j = none ∧ ∀ i, i < j → ∃ done now, stAt rows w i = some (done, now) := by
    intro n
    induction n with
    | zero => exact fun _ => .inl fun i hi => absurd hi (Nat.not_lt_zero i)
    | succ n ih =>
      intro hn
      rcases ih (by omega) with a | ⟨j, a1, a2, a3⟩
      · cases e : stAt rows w n with
        | none => exact .inr ⟨n, Nat.lt_succ_self n, e, a⟩
        | some p =>
          refine .inl fun i hi => ?_
          by_cases z : i = n
          · rw [z]
            exact ⟨p.1, p.2, e⟩
          · exact a i (by omega)
      · exact .inr ⟨j, by omega, a2, a3⟩
  rcases key w.length (Nat.le_refl _) with a | ⟨j, a1, a2, a3⟩
  · exfalso
    have : okW rows w = true := List.all_eq_true.mpr fun i hi => by
      obtain ⟨d, n, e⟩ := a i (List.mem_range.mp hi)
      rw [e] <;> rfl
    rw [this] at h
    cases h
  · exact ⟨j, a1, a2, a3⟩
theorem stAt_get {rows : List Bs.Row} (h2 : 2 ≤ rows.length) {w : List Nat} (hw : InW rows w) {i h : Nat} {a : Hs} (e : w[i]? = some h) (es : stAt rows w i = a) : (sAt rows w i).states[h]? = some a := by
  unfold stAt at es
  rw [getD_of e] at es
  have hl : h < rows.length := hw h (List.mem_of_getElem? e)
  rw [get_lt none (by rw [(sAt_ok h2 w i).hs]; exact hl), es]
/-! ### looks -/
/-- what is told by step i -/
def picAt (rows : List Bs.Row) (w : List Nat) (i : Nat) : Option (List Cell) := match stAt rows w i with
  | none => none
  | some (done, now) => (afterS (rows.getD (w.getD i 0) []) (sAt rows w i).cells (w.getD i 0) done now).2.2
def isSee (rows : List Bs.Row) (w : List Nat) (i : Nat) : Bool := match stAt rows w i with
  | none => false
  | some (done, now) => match (rows.getD (w.getD i 0) [])[done]? with
    | some .see => true
    | _ => false
def isFresh (rows : List Bs.Row) (w : List Nat) (i : Nat) : Bool := match stAt rows w i with
  | none => false
  | some (done, now) => now.isEmpty
/-- where the hands began, as the law keeps it; as the program keeps it -/
def begL (rows : List Bs.Row) (w : List Nat) : Nat → List (Int × Int)
  | 0 => []
  | i + 1 => if isFresh rows w i then putD (begL rows w i) ((w.getD i 0 : Nat) : Int) ((i : Nat) : Int) else begL rows w i
def begP (rows : List Bs.Row) (w : List Nat) : Nat → List (Int × Int)
  | 0 => []
  | i + 1 => if isFresh rows w i && isSee rows w i then putD (begP rows w i) ((w.getD i 0 : Nat) : Int) ((i : Nat) : Int) else begP rows w i
theorem begL_len (rows : List Bs.Row) (w : List Nat) : ∀ i : Nat, (begL rows w i).length ≤ i
  | 0 => Nat.le_refl _
  | i + 1 => by
    show (if _ then _ else _ : List (Int × Int)).length ≤ _
    split
    · exact Nat.le_trans (putD_length _ _ _) (Nat.succ_le_succ (begL_len rows w i))
    · exact Nat.le_succ_of_le (begL_len rows w i)
theorem begP_len (rows : List Bs.Row) (w : List Nat) : ∀ i : Nat, (begP rows w i).length ≤ i
  | 0 => Nat.le_refl _
  | i + 1 => by
    show (if _ then _ else _ : List (Int × Int)).length ≤ _
    split
    · exact Nat.le_trans (putD_length _ _ _) (Nat.succ_le_succ (begP_len rows w i))
    · exact Nat.le_succ_of_le (begP_len rows w i)
/-- a hand amid a look: where it began, both say the same -/
theorem beg_same {rows : List Bs.Row} {w : List Nat} (h2 : 2 ≤ rows.length) (hw : InW rows w) : ∀ (i : Nat), i ≤ w.length → ∀ (h done : Nat) (now : List Cell), (sAt rows w i).states[h]? = some (some (done, now)) → now ≠ [] →
    ∃ b : Nat, b < i ∧ look (begL rows w i) ((h : Nat) : Int) = some ((b : Nat) : Int) ∧ look (begP rows w i) ((h : Nat) : Int) = some ((b : Nat) : Int)
  | 0, _, h, done, now, e, n => by
    exfalso
    rw [sAt_zero] at e
    have e : (rows.map fun r => freshS r 0)[h]? = some (some (done, now)) := e
    obtain ⟨r, _, e2⟩ : ∃ r, rows[h]? = some r ∧ freshS r 0 = some (done, now) := by
      rw [List.getElem?_map] at e
      cases q : rows[h]? with
      | none =>
        rw [q] at e
        cases e
      | some r =>
        rw [q] at e
        exact ⟨r, rfl, Option.some.inj e⟩
    exact n (freshS_some e2).2.1
  | i + 1, hi, h, done, now, e, n => by
    have ei : w[i]? = some (w.getD i 0) := get_lt 0 (by omega)
    generalize hk : w.getD i 0 = k at ei
    rw [sAt_succ ei] at e
    have hkl : k < rows.length := hw k (List.mem_of_getElem? ei)
    have zs := sAt_ok h2 w i
    have ih := beg_same h2 hw i (by omega)
    -- the state of k behind i steps
    cases es : stAt rows w i with
    | none =>
      have es' := stAt_get h2 hw ei es
      have same : stepS rows (sAt rows w i) k = sAt rows w i := by
        unfold stepS
        rw [getD_of es']
      rw [same] at e
      obtain ⟨b, h1, h3, h4⟩ := ih h done now e n
      refine ⟨b, by omega, ?_, ?_⟩
      · show look (if isFresh rows w i then _ else _) _ = _
        unfold isFresh
        rw [es]
        exact h3
      · show look (if isFresh rows w i && isSee rows w i then _ else _) _ = _
        unfold isFresh
        rw [es]
        exact h4
    | some p =>
      obtain ⟨dn, nw⟩ := p
      have es' := stAt_get h2 hw ei es
      rw [stepS_eq es'] at e
      have e : ((sAt rows w i).states.set k (afterS (rows.getD k []) (sAt rows w i).cells k dn nw).2.1)[h]? = some (some (done, now)) := e
      have eF : isFresh rows w i = nw.isEmpty := by
        unfold isFresh
        rw [es]
      by_cases hkh : k = h
      · subst hkh
        rw [List.getElem?_set_self (by rw [zs.hs]; exact hkl)] at e
        have e := Option.some.inj e
        -- k looks on: the deed is a see
        have hsee : (rows.getD k [])[dn]? = some .see := by
          cases hx : (rows.getD k [])[dn]? with
          | none =>
            have := List.getElem?_eq_none_iff.mp hx
            have := (zs.st k dn nw es').1
            omega
          | some x =>
            cases x with
            | see => rfl
            | put v =>
              unfold afterS at e
              rw [hx] at e
              exact absurd (freshS_some e).2.1 n
        have eS : isSee rows w i = true := by
          unfold isSee
          rw [es]
          dsimp only
          rw [hk, hsee]
        cases hn : nw with
        | nil =>
          refine ⟨i, by omega, ?_, ?_⟩
          · show look (if isFresh rows w i then _ else _) _ = _
            rw [eF, hn]
            show look (putD _ _ _) _ = _
            rw [hk, look_put, if_pos rfl]
          · show look (if isFresh rows w i && isSee rows w i then _ else _) _ = _
            rw [eF, eS, hn]
            show look (putD _ _ _) _ = _
            rw [hk, look_put, if_pos rfl]
        | cons c r =>
          obtain ⟨b, h1, h3, h4⟩ := ih k dn nw es' (by rw [hn]; exact fun z => by cases z)
          refine ⟨b, by omega, ?_, ?_⟩
          · show look (if isFresh rows w i then _ else _) _ = _
            rw [eF, hn]
            exact h3
          · show look (if isFresh rows w i && isSee rows w i then _ else _) _ = _
            rw [eF, hn]
            exact h4
      · rw [List.getElem?_set_ne hkh] at e
        obtain ⟨b, h1, h3, h4⟩ := ih h done now e n
        have nk : ((h : Nat) : Int) ≠ ((k : Nat) : Int) := by omega
        refine ⟨b, by omega, ?_, ?_⟩
        · show look (if isFresh rows w i then _ else _) _ = _
          split
          · rw [hk, look_put, if_neg nk]
            exact h3
          · exact h3
        · show look (if isFresh rows w i && isSee rows w i then _ else _) _ = _
          split
          · rw [hk, look_put, if_neg nk]
            exact h4
          · exact h4
/-- where the look began that step i ends -/
def bAt (rows : List Bs.Row) (w : List Nat) (i : Nat) : Nat := ((look (begL rows w (i + 1)) ((w.getD i 0 : Nat) : Int)).getD 0).toNat
theorem picAt_some {rows : List Bs.Row} {w : List Nat} (h2 : 2 ≤ rows.length) (hw : InW rows w) {i : Nat} (hi : i < w.length) {p : List Cell} (e : picAt rows w i = some p) :
    ∃ done now, stAt rows w i = some (done, now) ∧ (rows.getD (w.getD i 0) [])[done]? = some .see ∧ now.length + 1 = rows.length ∧ isSee rows w i = true := by
  unfold picAt at e
  cases es : stAt rows w i with
  | none =>
    rw [es] at e
    cases e
  | some q =>
    obtain ⟨done, now⟩ := q
    rw [es] at e
    have e : (afterS (rows.getD (w.getD i 0) []) (sAt rows w i).cells (w.getD i 0) done now).2.2 = some p := e
    have ei := get_lt 0 hi
    have zs := sAt_ok h2 w i
    obtain ⟨x, hx⟩ := zs.deed (stAt_get h2 hw ei es)
    unfold isSee
    rw [es]
    dsimp only
    unfold afterS at e
    rw [hx] at e
    cases x with
    | put v => cases e
    | see =>
      refine ⟨done, now, rfl, hx, ?_, by rw [hx]⟩
      dsimp only at e
      split at e
      · rw [← zs.hc]
        assumption
      · cases e
/-- .. and where it began -/
theorem look_end {rows : List Bs.Row} {w : List Nat} (h2 : 2 ≤ rows.length) (hw : InW rows w) {i : Nat} (hi : i < w.length) {p : List Cell} (e : picAt rows w i = some p) :
    bAt rows w i ≤ i ∧ look (begL rows w (i + 1)) ((w.getD i 0 : Nat) : Int) = some ((bAt rows w i : Nat) : Int) ∧ look (begP rows w (i + 1)) ((w.getD i 0 : Nat) : Int) = some ((bAt rows w i : Nat) : Int) := by
  obtain ⟨done, now, es, hx, hn, eS⟩ := picAt_some h2 hw hi e
  have eF : isFresh rows w i = now.isEmpty := by
    unfold isFresh
    rw [es]
  have key : ∃ b : Nat, b ≤ i ∧ look (begL rows w (i + 1)) ((w.getD i 0 : Nat) : Int) = some ((b : Nat) : Int) ∧ look (begP rows w (i + 1)) ((w.getD i 0 : Nat) : Int) = some ((b : Nat) : Int) := by
    cases hn' : now with
    | nil =>
      refine ⟨i, Nat.le_refl _, ?_, ?_⟩
      · show look (if isFresh rows w i then _ else _) _ = _
        rw [eF, hn']
        show look (putD _ _ _) _ = _
        rw [look_put, if_pos rfl]
      · show look (if isFresh rows w i && isSee rows w i then _ else _) _ = _
        rw [eF, eS, hn']
        show look (putD _ _ _) _ = _
        rw [look_put, if_pos rfl]
    | cons c r =>
      have ei := get_lt 0 hi
      obtain ⟨b, h1, h3, h4⟩ := beg_same h2 hw i (by omega) _ done now (stAt_get h2 hw ei es) (by rw [hn']; exact fun z => by cases z)
      refine ⟨b, by omega, ?_, ?_⟩
      · show look (if isFresh rows w i then _ else _) _ = _
        rw [eF, hn']
        exact h3
      · show look (if isFresh rows w i && isSee rows w i then _ else _) _ = _
        rw [eF, hn']
        exact h4
  obtain ⟨b, h1, h3, h4⟩ := key
  have eb : bAt rows w i = b := by
    unfold bAt
    rw [h3]
    exact Int.toNat_natCast b
  rw [eb]
  exact ⟨h1, h3, h4⟩
/-- the first moment, from b to t, at which the cells were p -/
def momAt (rows : List Bs.Row) (w : List Nat) (b t : Nat) (p : List Cell) : Option Nat := ((List.range (t + 1 - b)).map (b + ·)).find? fun m => decide ((sAt rows w m).cells = p)
/-- step i ends a look whose picture the cells never were -/
def liedAt (rows : List Bs.Row) (w : List Nat) (i : Nat) : Bool := match picAt rows w i with
  | none => false
  | some p => (momAt rows w (bAt rows w i) (i + 1) p).isNone
def wrongW (rows : List Bs.Row) (w : List Nat) : Bool := (List.range w.length).any (liedAt rows w)
/-- a weaving, and a wrong one -/
def gw (rows : List Bs.Row) (w : List Nat) : Bool := okW rows w && wrongW rows w
/-- w without step i -/
def outW (w : List Nat) (i : Nat) : List Nat := w.take i ++ w.drop (i + 1)
theorem outW_len {w : List Nat} {i : Nat} (h : i < w.length) : (outW w i).length + 1 = w.length := by
  unfold outW
  rw [List.length_append, List.length_take, List.length_drop]
  omega
theorem outW_in {rows : List Bs.Row} {w : List Nat} (h : InW rows w) (i : Nat) : InW rows (outW w i) := fun x hx => by
  rcases List.mem_append.mp hx with q | q
  · exact h x (List.mem_of_mem_take q)
  · exact h x (List.mem_of_mem_drop q)
/-- without the first step that can be left out -/
def oneW (rows : List Bs.Row) (w : List Nat) : Option (List Nat) := ((List.range w.length).map (outW w)).find? (gw rows)
def shrW (rows : List Bs.Row) : Nat → List Nat → List Nat
  | 0, w => w
  | n + 1, w => match oneW rows w with
    | none => w
    | some r => shrW rows n r
theorem oneW_some {rows : List Bs.Row} {w r : List Nat} (h : oneW rows w = some r) : gw rows r = true ∧ ∃ i, i < w.length ∧ r = outW w i := by
  have h1 := List.find?_some h
  have h2 := List.mem_of_find?_eq_some h
  obtain ⟨i, hi, e⟩ := List.mem_map.mp h2
  exact ⟨h1, i, List.mem_range.mp hi, e.symm⟩
theorem oneW_nil {rows : List Bs.Row} : oneW rows [] = none := rfl
theorem shrW_gw {rows : List Bs.Row} : ∀ (n : Nat) (w : List Nat), gw rows w = true → gw rows (shrW rows n w) = true
  | 0, w, h => h
  | n + 1, w, h => by
    show gw rows (match oneW rows w with
      | none => w
      | some r => shrW rows n r) = true
    cases e : oneW rows w with
    | none => exact h
    | some r => exact shrW_gw n r (oneW_some e).1
theorem shrW_in {rows : List Bs.Row} : ∀ (n : Nat) (w : List Nat), InW rows w → InW rows (shrW rows n w)
  | 0, w, h => h
  | n + 1, w, h => by
    show InW rows (match oneW rows w with
      | none => w
      | some r => shrW rows n r)
    cases e : oneW rows w with
    | none => exact h
    | some r =>
      obtain ⟨i, _, e2⟩ := (oneW_some e).2
      refine shrW_in n r ?_
      rw [e2]
      exact outW_in h i
theorem shrW_len {rows : List Bs.Row} : ∀ (n : Nat) (w : List Nat), (shrW rows n w).length ≤ w.length
  | 0, w => Nat.le_refl _
  | n + 1, w => by
    show (match oneW rows w with
      | none => w
      | some r => shrW rows n r).length ≤ _
    cases e : oneW rows w with
    | none => exact Nat.le_refl _
    | some r =>
      obtain ⟨i, hi, e2⟩ := (oneW_some e).2
      have h1 := shrW_len (rows := rows) n r
      have h2 := outW_len hi
      rw [← e2] at h2
      show (shrW rows n r).length ≤ _
      omega
theorem shrW_more {rows : List Bs.Row} {n : Nat} {w : List Nat} (h : w.length = n) {r : List Nat} (e : oneW rows w = some r) : shrW rows n w = shrW rows r.length r ∧ r.length + 1 = n := by
  obtain ⟨i, hi, e2⟩ := (oneW_some e).2
  have h2 := outW_len hi
  rw [← e2] at h2
  have : n = r.length + 1 := by omega
  subst this
  refine ⟨?_, rfl⟩
  show (match oneW rows w with
      | none => w
      | some r' => shrW rows r.length r') = shrW rows r.length r
  rw [e]
theorem shrW_none {rows : List Bs.Row} {n : Nat} {w : List Nat} (e : oneW rows w = none) : shrW rows n w = w := by
  cases n with
  | zero => rfl
  | succ n =>
    show (match oneW rows w with
      | none => w
      | some r => shrW rows n r) = _
    rw [e]
/-! ### equality of pictures -/
theorem eqv_pe (a b : Cell) : eqv (encPE a) (encPE b) = decide (a = b) := by
  obtain ⟨a1, a2⟩ := a
  obtain ⟨b1, b2⟩ := b
  show PyData.eqv (.tuple [.int a1, .int a2]) (.tuple [.int b1, .int b2]) = _
  by_cases h1 : a1 = b1 <;> by_cases h2 : a2 = b2 <;> simp [PyData.eqv, PyData.eqvAll, h1, h2]
theorem eqvAll_pics : ∀ a b : List Cell, PyData.eqvAll (pys (a.map encPE)) (pys (b.map encPE)) = decide (a = b)
  | [], [] => rfl
  | [], b :: bs => by
    simp [pys, PyData.eqvAll]
  | a :: as, [] => by
    simp [pys, PyData.eqvAll]
  | a :: as, b :: bs => by
    show (PyData.eqv (py (encPE a)) (py (encPE b)) && PyData.eqvAll (pys (as.map encPE)) (pys (bs.map encPE))) = _
    rw [eqvAll_pics as bs, show PyData.eqv (py (encPE a)) (py (encPE b)) = _ from eqv_pe a b]
    simp
theorem eqv_pic (a b : List Cell) : eqv (encPic a) (encPic b) = decide (a = b) := eqvAll_pics a b
end Bs
set_option Elab.async false
set_option linter.all false
set_option maxRecDepth 100000
set_option maxHeartbeats 4000000
namespace Bs
open PySem PySem.Spec PyProof.Rows L2
section
variable {P : Program} {w : World} {K : PySem.W.Frag} {mg : Str → Option Value} {base : Heap}

/-- a hand's number, as data -/
abbrev hD : Nat → Dt := fun h => .int ((h : Nat) : Int)
theorem seqD_t (w : List Nat) : seqD true w = .tup (w.map hD) := rfl
theorem seqD_f (w : List Nat) : seqD false w = .lst (w.map hD) := rfl
theorem enum_inv {α : Type} {l : List α} {f : α → Dt} {i : Nat} {d : Dt} (h : (enumD (l.map f))[i]? = some d) : ∃ x, l[i]? = some x ∧ d = .tup [.int ((i : Nat) : Int), f x] := by
  have hi := (List.getElem?_eq_some_iff.mp h).1
  rw [enumD_length, List.length_map] at hi
  have e : l[i]? = some l[i] := List.getElem?_eq_getElem hi
  have e2 := enumD_get (ds := l.map f) (i := i) (d := f l[i]) (by rw [List.getElem?_map, e] <;> rfl)
  exact ⟨_, e, Option.some.inj (h.symm.trans e2)⟩
theorem at_last {α : Type} (f : Nat → α) (n : Nat) : atI ((List.range (n + 1)).map f) (-1) = some (f n) := by
  unfold atI ixN
  rw [List.length_map, List.length_range, if_neg (by omega), if_pos (by omega), Option.bind_some]
  rw [List.getElem?_map, show (-1 + ((n + 1 : Nat) : Int)).toNat = n by omega, List.getElem?_range (Nat.lt_succ_self n)] <;> rfl
theorem setB_one {l : Addr} {x y : Bx} : setB [(l, x)] l y = [(l, y)] := by
  unfold setB
  simp
/-- all standings -/
def stands (rows : List Bs.Row) (w : List Nat) (i : Nat) : List Dt := (List.range (i + 1)).map fun m => encSd (sAt rows w m)
theorem stands_zero (rows : List Bs.Row) (w : List Nat) : stands rows w 0 = [encSd (begunS rows)] := by
  show [encSd (sAt rows w 0)] = _
  rw [sAt_zero]
theorem stands_succ {rows : List Bs.Row} {w : List Nat} {i h : Nat} (e : w[i]? = some h) : stands rows w i ++ [encSd (stepS rows (sAt rows w i) h)] = stands rows w (i + 1) := by
  unfold stands
  rw [List.range_succ (n := i + 1), List.map_append, ← sAt_succ e] <;> rfl
theorem stands_len (rows : List Bs.Row) (w : List Nat) (i : Nat) : (stands rows w i).length = i + 1 := by
  unfold stands
  rw [List.length_map, List.length_range]
theorem stands_last (rows : List Bs.Row) (w : List Nat) (i : Nat) : atI (stands rows w i) (-1) = some (encSd (sAt rows w i)) := at_last _ i
theorem stands_at {rows : List Bs.Row} {w : List Nat} {i m : Nat} (h : m ≤ i) : atI (stands rows w i) ((m : Nat) : Int) = some (encSd (sAt rows w m)) := atI_nat (by
  unfold stands
  rw [List.getElem?_map, List.getElem?_range (by omega)] <;> rfl)
section
variable {X : Cx} {F : Fr} {e : Expr} {E E1 : En} {t : Bool} {v : List Nat} {p pos tpos : Pos} {elts : List Expr} {kk : Nat}
theorem evi_enumS (hm : X.mg "enumerate" = none) (h : Ev X F e E (seqD t v) E1) (hg : Gl X "enumerate" := by rfl) (hs : starEach [e] X.env = [(false, eval e X.env)] := by rfl) : EvI X F (.Tuple elts kk tpos) (.Call (.Name "enumerate" p) [e] [] pos) E (enumD (v.map hD)) E1 := by
  cases t with
  | true => exact evi_enumT hm h hg hs
  | false => exact evi_enumL hm h hg hs
theorem calld_lenS : CallD X (.builtin "len") [seqD t v] (.int (v.length : Nat)) := by
  have e : (v.map hD).length = v.length := List.length_map ..
  cases t with
  | true =>
    have h := calld_lenT (X := X) (l := v.map hD)
    rw [e] at h
    exact h
  | false =>
    have h := calld_lenL (X := X) (l := v.map hD)
    rw [e] at h
    exact h
end
theorem hand_ok {rows : List Bs.Row} {h : Nat} (hh : h < rows.length) : (decide ((0 : Int) ≤ ((h : Nat) : Int)) && decide (((h : Nat) : Int) ≤ ((rows.length : Nat) : Int) - 1)) = true := by
  rw [decide_eq_true (by omega), decide_eq_true (by omega)] <;> rfl

theorem ok_standings_of (T : Tx K mg) : Pf P w K mg base "standings_of" 7 (spR K fun ds d => ∃ (rows : List Bs.Row) (t : Bool) (v : List Nat), ds = [encPlay rows, seqD t v] ∧ PlayOk rows ∧ InW rows v ∧ v.length ≤ 1000 ∧ okW rows v = true ∧ d = .lst (stands rows v v.length)) := by
  obtain ⟨fd, D⟩ := T.d_standings_of
  have nd : (["play", "weaving", "found", "index", "hand"] : List Str).Nodup := by decide +kernel
  refine pf_mk (N := ["play", "weaving", "found", "index", "hand"]) (ps := ["play", "weaving"]) D ⟨rfl, rfl, rfl, nd, rfl, by decide +kernel, by decide +kernel⟩ T.g_standings_of (fun _ _ _ _ _ _ us hl => match us, hl with | [_, _], _ => rfl)
    (fun ds d h => by
      obtain ⟨rows, t, v, e, hp, hw, hl, hok, e2⟩ := h
      subst e e2
      rfl) fun cdv A outer s H E hr F ds d h => ?_
  obtain ⟨rows, t, v, e, hp, hw, hl, hok, e2⟩ := h
  subst e e2
  have h2 := hp.n1
  
  refine ite_never (evt_not (k := true) (evt_val (ev_call (ok_is_listed T) (hr.mono (by decide)) (eva_cons (ev_var 1 rfl) eva_nil) ⟨t, v, rfl, rfl⟩))) (run_nil ?_)
  refine run_newL 2 nd (eva_cons (ev_call (ok_begun T) (hr.mono (by decide)) (eva_cons (ev_var 0 rfl) eva_nil) ⟨rows, rfl, hp, rfl⟩) eva_nil) fun l nl => ?_
  refine run_for (ys := enumD (v.map hD)) (is := [3, 4]) (g := gTup K 2 (gNames [3, 4])) .never (evi_enumS T.n_enumerate (ev_var 1 rfl)) (pg_tup rfl (pgs_cons (pg_name nd rfl (.inl rfl)) (pgs_cons (pg_name nd rfl (.inl rfl)) pgs_nil)))
    (fun i E' => ∃ a b, E' = ⟨l :: F.M0, [some (encPlay rows), some (seqD t v), some (.box l), a, b], [(l, .l (stands rows v i))]⟩) ⟨none, none, by rw [stands_zero] <;> rfl⟩ (fun i E' ⟨a, b, e⟩ => by
      subst e
      exact ⟨rfl, rfl⟩) (fun F1 sub i d E' hd ⟨a, b, e⟩ => ?_) (fun E' ⟨a, b, e⟩ => ?_)
  · subst e
    obtain ⟨h, hx, rfl⟩ := enum_inv hd
    have hh : h < rows.length := hw h (List.mem_of_getElem? hx)
    have hi := (List.getElem?_eq_some_iff.mp hx).1
    refine ⟨[.int ((i : Nat) : Int), hD h], tgt_tup rfl rfl, ?_⟩
    
    obtain ⟨done, now, es⟩ := okW_at hok (List.getElem?_eq_some_iff.mp hx).1
    · have hst := stAt_get h2 hw hx es
      refine ite_never (EvW.t (evw_or (k1 := false) (k2 := false) (evt_not (k := true) (evt_val (evq (ev_call (ok_is_hand T) (hr.mono (by decide)) (eva_cons (ev_var 0 rfl) (eva_cons (ev_var 4 rfl) eva_nil)) ⟨rows, _, rfl, rfl⟩) (congrArg Dt.bl (hand_ok hh))))) fun _ => evw_or1 (evt_cmp (opd_isNK (d := encSt (some (done, now))) rfl) (ev_ixT (ev_ixT (ev_ixB (ev_var 2 rfl) (ev_neg ev_int) List.mem_cons_self (stands_last rows v i)) ev_int (atI_nat (j := 1) rfl)) (ev_var 4 rfl) (at_map hst)) ev_non))) (run_nil ?_)
      refine run_expr (ev_append (ev_var 2 rfl) (ev_call (ok_after_step T) (hr.mono (by decide)) (eva_cons (ev_var 0 rfl) (eva_cons (ev_ixB (ev_var 2 rfl) (ev_neg ev_int) List.mem_cons_self (stands_last rows v i)) (eva_cons (ev_var 4 rfl) eva_nil))) ⟨rows, _, h, done, now, rfl, hp, sAt_ok h2 v i, hst, rfl⟩) List.mem_cons_self List.mem_cons_self (by rw [stands_len]; omega)) (run_nil ?_)
      exact ⟨_, _, by rw [setB_one, stands_succ hx] <;> rfl⟩
  · subst e
    rw [enumD_length, List.length_map]
    exact run_retB (ev_var 2 rfl) List.mem_cons_self nl rfl

theorem okX_standings_of (T : Tx K mg) : PfX P w K mg base "standings_of" 7 (spX K (He.ga K "NoWeaving") (fun _ => True) fun ds => ∃ (rows : List Bs.Row) (t : Bool) (v : List Nat), ds = [encPlay rows, seqD t v] ∧ PlayOk rows ∧ InW rows v ∧ v.length ≤ 1000 ∧ okW rows v = false) := by
  obtain ⟨fd, D⟩ := T.d_standings_of
  have nd : (["play", "weaving", "found", "index", "hand"] : List Str).Nodup := by decide +kernel
  refine pfX_mk (N := ["play", "weaving", "found", "index", "hand"]) (ps := ["play", "weaving"]) D ⟨rfl, rfl, rfl, nd, rfl, by decide +kernel, by decide +kernel⟩ T.g_standings_of (fun _ _ _ _ _ _ us hl => match us, hl with | [_, _], _ => rfl)
    (fun ds h => by
      obtain ⟨rows, t, v, e, hp, hw, hl, hok⟩ := h
      subst e
      rfl) fun cdv A outer s H E hr F ds h rz => ?_
  obtain ⟨rows, t, v, e, hp, hw, hl, hok⟩ := h
  subst e
  have h2 := hp.n1
  obtain ⟨j, hj, hbad, hgood⟩ := okW_bad hok
  refine ite_never (evt_not (k := true) (evt_val (ev_call (ok_is_listed T) (hr.mono (by decide)) (eva_cons (ev_var 1 rfl) eva_nil) ⟨t, v, rfl, rfl⟩))) (run_nil ?_)
  refine run_newL 2 nd (eva_cons (ev_call (ok_begun T) (hr.mono (by decide)) (eva_cons (ev_var 0 rfl) eva_nil) ⟨rows, rfl, hp, rfl⟩) eva_nil) fun l nl => ?_
  refine run_for (ys := enumD (v.map hD)) (is := [3, 4]) (g := gTup K 2 (gNames [3, 4])) (passes_of rfl) (evi_enumS T.n_enumerate (ev_var 1 rfl)) (pg_tup rfl (pgs_cons (pg_name nd rfl (.inl rfl)) (pgs_cons (pg_name nd rfl (.inl rfl)) pgs_nil)))
    (fun i E' => i ≤ j ∧ ∃ a b, E' = ⟨l :: F.M0, [some (encPlay rows), some (seqD t v), some (.box l), a, b], [(l, .l (stands rows v i))]⟩) ⟨Nat.zero_le _, none, none, by rw [stands_zero] <;> rfl⟩ (fun i E' ⟨hij, a, b, e⟩ => by
      subst e
      exact ⟨rfl, rfl⟩) (fun F1 sub i d E' hd ⟨hij, a, b, e⟩ => ?_) (fun E' ⟨hij, a, b, e⟩ => ?_)
  · subst e
    obtain ⟨h, hx, rfl⟩ := enum_inv hd
    have hh : h < rows.length := hw h (List.mem_of_getElem? hx)
    have hi := (List.getElem?_eq_some_iff.mp hx).1
    refine ⟨[.int ((i : Nat) : Int), hD h], tgt_tup rfl rfl, ?_⟩
    
    by_cases hj : i = j
    · subst hj
      have hst := stAt_get h2 hw hx hbad
      refine ite_always (EvW.t (evw_or (k1 := false) (k2 := true) (evt_not (k := true) (evt_val (evq (ev_call (ok_is_hand T) (hr.mono (by decide)) (eva_cons (ev_var 0 rfl) (eva_cons (ev_var 4 rfl) eva_nil)) ⟨rows, _, rfl, rfl⟩) (congrArg Dt.bl (hand_ok hh))))) fun _ => evw_or1 (evt_cmp (opd_isNK (d := encSt none) rfl) (ev_ixT (ev_ixT (ev_ixB (ev_var 2 rfl) (ev_neg ev_int) List.mem_cons_self (stands_last rows v i)) ev_int (atI_nat (j := 1) rfl)) (ev_var 4 rfl) (at_map hst)) ev_non))) ?_
      exact run_noWeaving T (rz.sub sub) (ev_var 3 rfl) (hr.mono (by decide))
    obtain ⟨done, now, es⟩ := hgood i (by omega)
    · have hst := stAt_get h2 hw hx es
      refine ite_never (EvW.t (evw_or (k1 := false) (k2 := false) (evt_not (k := true) (evt_val (evq (ev_call (ok_is_hand T) (hr.mono (by decide)) (eva_cons (ev_var 0 rfl) (eva_cons (ev_var 4 rfl) eva_nil)) ⟨rows, _, rfl, rfl⟩) (congrArg Dt.bl (hand_ok hh))))) fun _ => evw_or1 (evt_cmp (opd_isNK (d := encSt (some (done, now))) rfl) (ev_ixT (ev_ixT (ev_ixB (ev_var 2 rfl) (ev_neg ev_int) List.mem_cons_self (stands_last rows v i)) ev_int (atI_nat (j := 1) rfl)) (ev_var 4 rfl) (at_map hst)) ev_non))) (run_nil ?_)
      refine run_expr (ev_append (ev_var 2 rfl) (ev_call (ok_after_step T) (hr.mono (by decide)) (eva_cons (ev_var 0 rfl) (eva_cons (ev_ixB (ev_var 2 rfl) (ev_neg ev_int) List.mem_cons_self (stands_last rows v i)) (eva_cons (ev_var 4 rfl) eva_nil))) ⟨rows, _, h, done, now, rfl, hp, sAt_ok h2 v i, hst, rfl⟩) List.mem_cons_self List.mem_cons_self (by rw [stands_len]; omega)) (run_nil ?_)
      exact ⟨by omega, _, _, by rw [setB_one, stands_succ hx] <;> rfl⟩
  · exact absurd hij (by
      rw [enumD_length, List.length_map]
      omega)

end
end Bs
set_option Elab.async false
set_option linter.all false
set_option maxRecDepth 100000
set_option maxHeartbeats 4000000
namespace Bs
open PySem PySem.Spec PyProof.Rows L2
section
variable {P : Program} {w : World} {K : PySem.W.Frag} {mg : Str → Option Value} {base : Heap}

def momD : Option Nat → Dt
  | none => .non
  | some m => .int ((m : Nat) : Int)
def picsL (rows : List Bs.Row) (v : List Nat) (n : Nat) : List Dt := (List.range (n + 1)).map fun m => encPic (sAt rows v m).cells
theorem picsL_at {rows : List Bs.Row} {v : List Nat} {n m : Nat} (h : m ≤ n) : atI (picsL rows v n) ((m : Nat) : Int) = some (encPic (sAt rows v m).cells) := atI_nat (by
  unfold picsL
  rw [List.getElem?_map, List.getElem?_range (by omega)] <;> rfl)
theorem momAt_some {rows : List Bs.Row} {v : List Nat} {b t i : Nat} {p : List Cell} (hi : i < t + 1 - b) (hn : ∀ j, j < i → (sAt rows v (b + j)).cells ≠ p) (he : (sAt rows v (b + i)).cells = p) : momAt rows v b t p = some (b + i) := by
  unfold momAt
  rw [List.find?_eq_some_iff_getElem]
  refine ⟨decide_eq_true he, i, by simpa using hi, by simp, fun j hj => ?_⟩
  have := hn j hj
  simp [this]
theorem momAt_none {rows : List Bs.Row} {v : List Nat} {b t : Nat} {p : List Cell} (hn : ∀ j, j < t + 1 - b → (sAt rows v (b + j)).cells ≠ p) : momAt rows v b t p = none := by
  unfold momAt
  rw [List.find?_eq_none]
  intro x hx
  obtain ⟨j, hj, rfl⟩ := List.mem_map.mp hx
  have := hn j (List.mem_range.mp hj)
  simp [this]
theorem at_neg {α : Type} (l : List α) (d : α) : atI (l ++ [d]) (-1) = some d := by
  unfold atI ixN
  rw [List.length_append, if_neg (by omega), if_pos (by simp; omega), Option.bind_some]
  rw [show (-1 + ((l.length + [d].length : Nat) : Int)).toNat = l.length by simp; omega]
  simp

theorem ok_result_now (T : Tx K mg) : Pf P w K mg base "result_now" 1 (spR K fun ds d => ∃ (rows : List Bs.Row) (v : List Nat) (i h done : Nat) (now : List Cell), ds = [encSd (sAt rows v i), encSd (sAt rows v (i + 1)), hD h] ∧ PlayOk rows ∧ InW rows v ∧ v[i]? = some h ∧ stAt rows v i = some (done, now) ∧ d = picD (picAt rows v i)) := by
  obtain ⟨fd, D⟩ := T.d_result_now
  have nd : (["before", "behind", "hand", "state"] : List Str).Nodup := by decide +kernel
  refine pf_mk (N := ["before", "behind", "hand", "state"]) (ps := ["before", "behind", "hand"]) D ⟨rfl, rfl, rfl, nd, rfl, by decide +kernel, by decide +kernel⟩ T.g_result_now (fun _ _ _ _ _ _ us hl => match us, hl with | [_, _, _], _ => rfl)
    (fun ds d h => by
      obtain ⟨rows, v, i, h, done, now, e, hp, hw, hx, es, e2⟩ := h
      subst e e2
      rfl) fun cdv A outer s H E hr F ds d h => ?_
  obtain ⟨rows, v, i, h, done, now, e, hp, hw, hx, es, e2⟩ := h
  subst e e2
  have h2 := hp.n1
  have zs := sAt_ok h2 v i
  have zs' := sAt_ok h2 v (i + 1)
  have hh : h < rows.length := hw h (List.mem_of_getElem? hx)
  have hst := stAt_get h2 hw hx es
  have ep : picAt rows v i = (afterS (rows.getD h []) (sAt rows v i).cells h done now).2.2 := by
    unfold picAt
    rw [es, getD_of hx]
  have eS : sAt rows v (i + 1) = _ := (sAt_succ hx).trans (stepS_eq hst)
  rw [ep]
  generalize afterS (rows.getD h []) (sAt rows v i).cells h done now = r at eS
  obtain ⟨r1, r2, r3⟩ := r
  have ta := get_lt [] (show h < (sAt rows v i).told.length by rw [zs.ht]; exact hh)
  have tb := get_lt [] (show h < (sAt rows v (i + 1)).told.length by rw [zs'.ht]; exact hh)
  have sb := get_lt none (show h < (sAt rows v (i + 1)).states.length by rw [zs'.hs]; exact hh)
  cases r3 with
  | some p =>
    have et : (sAt rows v (i + 1)).told.getD h [] = (sAt rows v i).told.getD h [] ++ [p] := by
      rw [eS]
      exact getD_set_self (by rw [zs.ht]; exact hh)
    rw [et] at tb
    refine ite_always (evt_cmp (opd_gtK (by
      rw [List.length_map, List.length_map, List.length_append]
      exact decide_eq_true (by show ((_ : Nat) : Int) < ((_ + 1 : Nat) : Int); omega)))
      (ev_callB calld_lenT T.n_len bt_len (eva_cons (ev_ixT (ev_ixT (ev_var 1 rfl) ev_int (atI_nat (j := 2) rfl)) (ev_var 2 rfl) (at_map (f := encTold) tb)) eva_nil))
      (ev_callB calld_lenT T.n_len bt_len (eva_cons (ev_ixT (ev_ixT (ev_var 0 rfl) ev_int (atI_nat (j := 2) rfl)) (ev_var 2 rfl) (at_map (f := encTold) ta)) eva_nil))) ?_
    exact run_ret (ev_ixT (ev_ixT (ev_ixT (ev_var 1 rfl) ev_int (atI_nat (j := 2) rfl)) (ev_var 2 rfl) (at_map (f := encTold) tb)) (ev_neg ev_int) (by
      rw [List.map_append]
      exact at_neg _ (encPic p))) rfl
  | none =>
    have et : (sAt rows v (i + 1)).told.getD h [] = (sAt rows v i).told.getD h [] := by
      rw [eS]
    rw [et] at tb
    refine ite_never (evt_cmp (opd_gtK (decide_eq_false (by omega)))
      (ev_callB calld_lenT T.n_len bt_len (eva_cons (ev_ixT (ev_ixT (ev_var 1 rfl) ev_int (atI_nat (j := 2) rfl)) (ev_var 2 rfl) (at_map (f := encTold) tb)) eva_nil))
      (ev_callB calld_lenT T.n_len bt_len (eva_cons (ev_ixT (ev_ixT (ev_var 0 rfl) ev_int (atI_nat (j := 2) rfl)) (ev_var 2 rfl) (at_map (f := encTold) ta)) eva_nil))) (run_nil ?_)
    refine run_set 3 nd (ev_ixT (ev_ixT (ev_var 1 rfl) ev_int (atI_nat (j := 1) rfl)) (ev_var 2 rfl) (at_map (f := encSt) sb)) ?_
    generalize (sAt rows v (i + 1)).states.getD h none = q
    cases q with
    | none => exact ite_never (EvW.t (evw_and (k1 := false) (k2 := false) (evt_cmp (opd_notNK (d := encSt none) rfl) (ev_var 3 rfl) ev_non) fun e => Bool.noConfusion e)) (run_nil (run_ret ev_non rfl))
    | some q =>
      obtain ⟨dn, nw⟩ := q
      exact ite_never (EvW.t (evw_and (k1 := true) (k2 := false) (evt_cmp (opd_notNK (d := encSt (some (dn, nw))) rfl) (ev_var 3 rfl) ev_non) fun _ => evw_and (k1 := false) (k2 := false) (evt_cmp (opd_notNK (d := .non) rfl) (ev_ixT (ev_var 3 rfl) ev_int (atI_nat (j := 4) rfl)) ev_non) fun e => Bool.noConfusion e)) (run_nil (run_ret ev_non rfl))

theorem ok_pictures_of (T : Tx K mg) : Pf P w K mg base "pictures_of" 2 (spR K fun ds d => ∃ (rows : List Bs.Row) (v : List Nat) (n : Nat), ds = [.lst (stands rows v n)] ∧ PlayOk rows ∧ n ≤ 1000 ∧ d = .lst (picsL rows v n)) := by
  obtain ⟨fd, D⟩ := T.d_pictures_of
  have nd : (["stood", "standing"] : List Str).Nodup := by decide +kernel
  refine pf_mk (N := ["stood", "standing"]) (ps := ["stood"]) D ⟨rfl, rfl, rfl, nd, rfl, by decide +kernel, by decide +kernel⟩ T.g_pictures_of (fun _ _ _ _ _ _ us hl => match us, hl with | [_], _ => rfl)
    (fun ds d h => by
      obtain ⟨rows, v, n, e, hp, hn, e2⟩ := h
      subst e e2
      rfl) fun cdv A outer s H E hr F ds d h => ?_
  obtain ⟨rows, v, n, e, hp, hn, e2⟩ := h
  subst e e2
  have h2 := hp.n1
  have h5 := hp.n5
  exact run_ret (ev_lcM (own := [("standing", 1)]) (g := gName 1) (is := [1]) (f := fun m => encPic (sAt rows v m).cells) nd (evi_lst (ds := stands rows v n) (ev_var 0 rfl)) (blkOk_by (N := ["stood", "standing"]) (sc := (defScope Hd.s_pictures_of)) (by decide +kernel)) (fun _ _ _ _ _ => pg_name nd rfl (.inl rfl)) (by decide)
    (by rw [stands_len]; omega) (fun D i d nD hd => by
      obtain ⟨m, hm, rfl⟩ := map_get hd
      have hi := (List.getElem?_eq_some_iff.mp hm).1
      rw [List.length_range] at hi
      rw [List.getElem?_range hi] at hm
      obtain rfl := Option.some.inj hm
      exact ⟨[encSd (sAt rows v i)], tgt_name, fun _ _ _ _ _ => ev_call (ok_picture_of T) (hr.mono (by decide)) (eva_cons (ev_ixT (ev_var 1 rfl) ev_int (atI_nat (j := 0) rfl)) eva_nil) ⟨(sAt rows v i).cells, rfl, by rw [(sAt_ok h2 v i).hc]; omega, rfl⟩⟩) (by
      rw [stands_len]
      rfl)) rfl

theorem ok_moment_of (T : Tx K mg) : Pf P w K mg base "moment_of" 1 (spR K fun ds d => ∃ (rows : List Bs.Row) (v : List Nat) (n b t : Nat) (p : List Cell) (x y : Dt), ds = [.lst (picsL rows v n), .tup [x, y, .int ((b : Nat) : Int), .int ((t : Nat) : Int), encPic p]] ∧ t ≤ n ∧ n ≤ 1000 ∧ b ≤ t ∧ d = momD (momAt rows v b t p)) := by
  obtain ⟨fd, D⟩ := T.d_moment_of
  have nd : (["pictures", "look", "moment"] : List Str).Nodup := by decide +kernel
  refine pf_mk (N := ["pictures", "look", "moment"]) (ps := ["pictures", "look"]) D ⟨rfl, rfl, rfl, nd, rfl, by decide +kernel, by decide +kernel⟩ T.g_moment_of (fun _ _ _ _ _ _ us hl => match us, hl with | [_, _], _ => rfl)
    (fun ds d h => by
      obtain ⟨rows, v, n, b, t, p, x, y, e, ht, hn, hb, e2⟩ := h
      subst e e2
      rfl) fun cdv A outer s H E hr F ds d h => ?_
  obtain ⟨rows, v, n, b, t, p, x, y, e, ht, hn, hb, e2⟩ := h
  subst e e2
  refine run_for (ys := (List.range (t + 1 - b)).map fun i => Dt.int ((b + i : Nat) : Int)) (is := [2]) (g := gName 2) .never (evi_range2 (n := b) (m := t + 1) T.n_range (ev_ixT (ev_var 1 rfl) ev_int (atI_nat (j := 2) rfl)) (ev_bin opd_add (ev_ixT (ev_var 1 rfl) ev_int (atI_nat (j := 3) rfl)) ev_int) (by omega) (by omega)) (pg_name nd rfl (.inl rfl))
    (fun i E' => (∀ j, j < i → (sAt rows v (b + j)).cells ≠ p) ∧ ∃ a, E' = ⟨F.M0, [some (.lst (picsL rows v n)), some (.tup [x, y, .int ((b : Nat) : Int), .int ((t : Nat) : Int), encPic p]), a], []⟩) ⟨fun j hj => absurd hj (Nat.not_lt_zero j), none, rfl⟩ (fun i E' ⟨_, a, e⟩ => by
      subst e
      exact ⟨rfl, rfl⟩) (fun F1 sub i d E' hd ⟨hno, a, e⟩ => ?_) (fun E' ⟨hno, a, e⟩ => ?_)
  · subst e
    have hi := (List.getElem?_eq_some_iff.mp hd).1
    rw [List.length_map, List.length_range] at hi
    rw [List.getElem?_map, List.getElem?_range hi] at hd
    obtain rfl := Option.some.inj hd
    refine ⟨[.int ((b + i : Nat) : Int)], tgt_name, ?_⟩
    refine run_if (k := decide ((sAt rows v (b + i)).cells = p)) (evt_cmp (opd_eqK hr.units 4 (shp_pic _) (shp_pic _) (eqv_pic (sAt rows v (b + i)).cells p)) (ev_ixL (ev_var 0 rfl) (ev_var 2 rfl) (picsL_at (by omega))) (ev_ixT (ev_var 1 rfl) ev_int (atI_nat (j := 4) rfl))) (fun e => ?_) (fun e => run_nil (run_nil ⟨fun j hj => ?_, _, rfl⟩))
    · rw [momAt_some hi hno (of_decide_eq_true e)]
      exact run_ret (ev_var 2 rfl) rfl
    · by_cases z : j = i
      · rw [z]
        exact of_decide_eq_false e
      · exact hno j (by omega)
  · subst e
    rw [List.length_map, List.length_range] at hno
    rw [momAt_none hno]
    exact run_ret ev_non rfl

end
end Bs
set_option Elab.async false
set_option linter.all false
set_option maxRecDepth 100000
set_option maxHeartbeats 4000000
namespace Bs
open PySem PySem.Spec PyProof.Rows L2
section
variable {P : Program} {w : World} {K : PySem.W.Frag} {mg : Str → Option Value} {base : Heap}

/-- how many cells the hand of step i has looked at before it -/
def nowAt (rows : List Bs.Row) (v : List Nat) (i : Nat) : Nat := match stAt rows v i with
  | none => 0
  | some (_, now) => now.length
def cntA (rows : List Bs.Row) (v : List Nat) (i : Nat) (c : List (Int × Int)) : List (Int × Int) := if isFresh rows v i && isSee rows v i then putD c ((v.getD i 0 : Nat) : Int) 0 else c
def cntB (rows : List Bs.Row) (v : List Nat) (i : Nat) (c : List (Int × Int)) : List (Int × Int) := if nowAt rows v i + 1 = rows.length then putD c ((v.getD i 0 : Nat) : Int) ((look c ((v.getD i 0 : Nat) : Int)).getD 0 + 1) else c
def cntP (rows : List Bs.Row) (v : List Nat) : Nat → List (Int × Int)
  | 0 => []
  | i + 1 => cntB rows v i (cntA rows v i (cntP rows v i))
theorem cntA_len (rows : List Bs.Row) (v : List Nat) (i : Nat) (c : List (Int × Int)) : (cntA rows v i c).length ≤ c.length + 1 := by
  unfold cntA
  split
  · exact putD_length _ _ _
  · exact Nat.le_succ _
theorem cntB_len (rows : List Bs.Row) (v : List Nat) (i : Nat) (c : List (Int × Int)) : (cntB rows v i c).length ≤ c.length + 1 := by
  unfold cntB
  split
  · exact putD_length _ _ _
  · exact Nat.le_succ _
theorem cntP_len (rows : List Bs.Row) (v : List Nat) : ∀ i : Nat, (cntP rows v i).length ≤ 2 * i
  | 0 => Nat.le_refl _
  | i + 1 => by
    have h1 := cntP_len rows v i
    have h2 := cntA_len rows v i (cntP rows v i)
    have h3 := cntB_len rows v i (cntA rows v i (cntP rows v i))
    show (cntB rows v i (cntA rows v i (cntP rows v i))).length ≤ _
    omega
def lookD (rows : List Bs.Row) (v : List Nat) (i : Nat) : Dt := .tup [.tup [hD (v.getD i 0), .int ((match stAt rows v i with | none => 0 | some (done, _) => done : Nat) : Int), .int ((bAt rows v i : Nat) : Int), .int ((i + 1 : Nat) : Int), encPic ((picAt rows v i).getD [])],
  .int ((look (cntP rows v (i + 1)) ((v.getD i 0 : Nat) : Int)).getD 0)]
def lookI (rows : List Bs.Row) (v : List Nat) (i : Nat) : List Nat := (List.range i).filter fun j => (picAt rows v j).isSome
def looksL (rows : List Bs.Row) (v : List Nat) (i : Nat) : List Dt := (lookI rows v i).map (lookD rows v)
theorem looksL_some {rows : List Bs.Row} {v : List Nat} {i : Nat} {p : List Cell} (e : picAt rows v i = some p) : looksL rows v (i + 1) = looksL rows v i ++ [lookD rows v i] := by
  unfold looksL lookI
  rw [List.range_succ, List.filter_append, List.filter_cons_of_pos (by rw [e] <;> rfl), List.map_append] <;> rfl
theorem looksL_none {rows : List Bs.Row} {v : List Nat} {i : Nat} (e : picAt rows v i = none) : looksL rows v (i + 1) = looksL rows v i := by
  unfold looksL lookI
  rw [List.range_succ, List.filter_append, List.filter_cons_of_neg (by rw [e]; exact Bool.false_ne_true), List.map_append]
  simp
theorem looksL_len (rows : List Bs.Row) (v : List Nat) (i : Nat) : (looksL rows v i).length ≤ i := by
  unfold looksL lookI
  rw [List.length_map]
  exact Nat.le_trans (List.length_filter_le _ _) (by rw [List.length_range]; exact Nat.le_refl _)
section
variable {a b c : Addr} {x y z u : Bx}
theorem setB_1 (h1 : a ≠ b) (h2 : a ≠ c) : setB [(a, x), (b, y), (c, z)] a u = [(a, u), (b, y), (c, z)] := by
  unfold setB
  simp [h1.symm, h2.symm]
theorem setB_2 (h1 : a ≠ b) (h2 : b ≠ c) : setB [(a, x), (b, y), (c, z)] b u = [(a, x), (b, u), (c, z)] := by
  unfold setB
  simp [h1, h2.symm]
theorem setB_3 (h1 : a ≠ c) (h2 : b ≠ c) : setB [(a, x), (b, y), (c, z)] c u = [(a, x), (b, y), (c, u)] := by
  unfold setB
  simp [h1, h2]
end

theorem ok_all_looks (T : Tx K mg) : Pf P w K mg base "all_looks" 5 (spR K fun ds d => ∃ (rows : List Bs.Row) (t : Bool) (v : List Nat), ds = [encPlay rows, seqD t v, .lst (stands rows v v.length)] ∧ PlayOk rows ∧ InW rows v ∧ v.length ≤ 1000 ∧ okW rows v = true ∧ d = .lst (looksL rows v v.length)) := by
  obtain ⟨fd, D⟩ := T.d_all_looks
  have nd : (["play", "weaving", "stood", "found", "begins", "counts", "index", "hand", "before", "behind", "state", "picture"] : List Str).Nodup := by decide +kernel
  refine pf_mk (N := ["play", "weaving", "stood", "found", "begins", "counts", "index", "hand", "before", "behind", "state", "picture"]) (ps := ["play", "weaving", "stood"]) D ⟨rfl, rfl, rfl, nd, rfl, by decide +kernel, by decide +kernel⟩ T.g_all_looks (fun _ _ _ _ _ _ us hl => match us, hl with | [_, _, _], _ => rfl)
    (fun ds d h => by
      obtain ⟨rows, t, v, e, hp, hw, hl, hok, e2⟩ := h
      subst e e2
      rfl) fun cdv A outer s H E hr F ds d h => ?_
  obtain ⟨rows, t, v, e, hp, hw, hl, hok, e2⟩ := h
  subst e e2
  have h2 := hp.n1
  refine run_newL 3 nd eva_nil fun lf nf => ?_
  refine run_newD 4 nd fun lb nb => ?_
  refine run_newD 5 nd fun lc nc => ?_
  have ebf : lb ≠ lf := fun z => nb (by rw [z]; exact List.mem_cons_self)
  have ecb : lc ≠ lb := fun z => nc (by rw [z]; exact List.mem_cons_self)
  have ecf : lc ≠ lf := fun z => nc (by rw [z]; exact List.mem_cons_of_mem _ List.mem_cons_self)
  refine run_for (ys := enumD (v.map hD)) (is := [6, 7]) (g := gTup K 2 (gNames [6, 7])) .never (evi_enumS T.n_enumerate (ev_var 1 rfl)) (pg_tup rfl (pgs_cons (pg_name nd rfl (.inl rfl)) (pgs_cons (pg_name nd rfl (.inl rfl)) pgs_nil)))
    (fun i E' => ∃ a6 a7 a8 a9 a10 a11, E' = ⟨lc :: lb :: lf :: F.M0, [some (encPlay rows), some (seqD t v), some (.lst (stands rows v v.length)), some (.box lf), some (.box lb), some (.box lc), a6, a7, a8, a9, a10, a11], [(lc, .d (cntP rows v i)), (lb, .d (begP rows v i)), (lf, .l (looksL rows v i))]⟩)
    ⟨none, none, none, none, none, none, rfl⟩ (fun i E' ⟨a6, a7, a8, a9, a10, a11, e⟩ => by
      subst e
      exact ⟨rfl, rfl⟩) (fun F1 sub i d E' hd ⟨a6, a7, a8, a9, a10, a11, e⟩ => ?_) (fun E' ⟨a6, a7, a8, a9, a10, a11, e⟩ => ?_)
  · subst e
    obtain ⟨h, hx, rfl⟩ := enum_inv hd
    have hh : h < rows.length := hw h (List.mem_of_getElem? hx)
    have hi := (List.getElem?_eq_some_iff.mp hx).1
    obtain ⟨done, now, es⟩ := okW_at hok hi
    have hst := stAt_get h2 hw hx es
    have zs := sAt_ok h2 v i
    obtain ⟨x, hdx⟩ := zs.deed hst
    have eF : isFresh rows v i = now.isEmpty := by
      unfold isFresh
      rw [es]
    have eS : isSee rows v i = !isPut x := by
      unfold isSee
      rw [es]
      dsimp only
      rw [getD_of hx, hdx]
      cases x <;> rfl
    have eN : nowAt rows v i = now.length := by
      unfold nowAt
      rw [es]
    have lb1 := begP_len rows v i
    have lc1 := cntP_len rows v i
    have lc2 := cntA_len rows v i (cntP rows v i)
    refine ⟨[.int ((i : Nat) : Int), hD h], tgt_tup rfl rfl, ?_⟩
    refine run_par 8 9 nd (ev_ixL (ev_var 2 rfl) (ev_var 6 rfl) (stands_at (by omega))) (ev_ixL (ev_var 2 rfl) (ev_bin opd_add (ev_var 6 rfl) ev_int) (stands_at (m := i + 1) (by omega))) ?_
    refine run_set 10 nd (ev_ixT (ev_ixT (ev_var 8 rfl) ev_int (atI_nat (j := 1) rfl)) (ev_var 7 rfl) (at_map hst)) ?_
    refine run_ifJ (k := now.isEmpty && !isPut x) ⟨lc :: lb :: lf :: F.M0, [some (encPlay rows), some (seqD t v), some (.lst (stands rows v v.length)), some (.box lf), some (.box lb), some (.box lc), some (.int ((i : Nat) : Int)), some (hD h), some (encSd (sAt rows v i)), some (encSd (sAt rows v (i + 1))), some (encSt (some (done, now))), a11], [(lc, .d (cntA rows v i (cntP rows v i))), (lb, .d (begP rows v (i + 1))), (lf, .l (looksL rows v i))]⟩
      (evt_val (ev_call (ok_begins_look T) (hr.mono (by decide)) (eva_cons (ev_var 0 rfl) (eva_cons (ev_var 7 rfl) (eva_cons (ev_var 10 rfl) eva_nil))) ⟨rows, h, done, now, x, rfl, hh, hdx, rfl⟩)) (fun e => ?_) (fun e => run_nil ?_) ?_
    · refine run_setD (hu_of hr) (ev_var 6 rfl) (ev_var 4 rfl) (ev_var 7 rfl) (List.mem_cons_of_mem _ List.mem_cons_self) (by omega) (run_setD (hu_of hr) ev_int (ev_var 5 rfl) (ev_var 7 rfl) (by rw [setB_2 ecb ebf]; exact List.mem_cons_self) (by omega) (run_nil ?_))
      rw [setB_2 ecb ebf, setB_1 ecb ecf]
      have e1 : cntA rows v i (cntP rows v i) = putD (cntP rows v i) ((h : Nat) : Int) 0 := by
        unfold cntA
        rw [eF, eS, e, getD_of hx] <;> rfl
      have e2 : begP rows v (i + 1) = putD (begP rows v i) ((h : Nat) : Int) ((i : Nat) : Int) := by
        show (if isFresh rows v i && isSee rows v i then _ else _) = _
        rw [eF, eS, e, getD_of hx] <;> rfl
      rw [e1, e2] <;> rfl
    · have e1 : cntA rows v i (cntP rows v i) = cntP rows v i := by
        unfold cntA
        rw [eF, eS, e] <;> rfl
      have e2 : begP rows v (i + 1) = begP rows v i := by
        show (if isFresh rows v i && isSee rows v i then _ else _) = _
        rw [eF, eS, e] <;> rfl
      rw [e1, e2] <;> rfl
    refine run_ifJ (k := decide (now.length + 1 = rows.length)) ⟨lc :: lb :: lf :: F.M0, [some (encPlay rows), some (seqD t v), some (.lst (stands rows v v.length)), some (.box lf), some (.box lb), some (.box lc), some (.int ((i : Nat) : Int)), some (hD h), some (encSd (sAt rows v i)), some (encSd (sAt rows v (i + 1))), some (encSt (some (done, now))), a11], [(lc, .d (cntP rows v (i + 1))), (lb, .d (begP rows v (i + 1))), (lf, .l (looksL rows v i))]⟩
      (evt_cmp (opd_eqIK (by
        show decide ((((now.map encCell).length : Nat) : Int) + 1 = ((((sAt rows v i).cells.map encCell).length : Nat) : Int)) = _
        rw [List.length_map, List.length_map, zs.hc]
        by_cases z : now.length + 1 = rows.length
        · rw [decide_eq_true z, decide_eq_true (by omega)]
        · rw [decide_eq_false z, decide_eq_false (by omega)])) (ev_bin opd_add (ev_callB calld_lenT T.n_len bt_len (eva_cons (ev_ixT (ev_var 10 rfl) ev_int (atI_nat (j := 3) rfl)) eva_nil)) ev_int)
        (ev_callB calld_lenT T.n_len bt_len (eva_cons (ev_ixT (ev_var 8 rfl) ev_int (atI_nat (j := 0) rfl)) eva_nil))) (fun e => ?_) (fun e => run_nil ?_) ?_
    · refine run_setD (hu_of hr) (ev_bin opd_add (ev_getD (hu_of hr) (ev_var 5 rfl) (ev_var 7 rfl) ev_int List.mem_cons_self ?m2) ev_int) (ev_var 5 rfl) (ev_var 7 rfl) List.mem_cons_self (by omega) (run_nil ?_)
      case m2 => exact ⟨rfl, rfl, rfl, rfl⟩
      rw [setB_1 ecb ecf]
      have e1 : cntP rows v (i + 1) = putD (cntA rows v i (cntP rows v i)) ((h : Nat) : Int) ((look (cntA rows v i (cntP rows v i)) ((h : Nat) : Int)).getD 0 + 1) := by
        show cntB rows v i (cntA rows v i (cntP rows v i)) = _
        unfold cntB
        rw [eN, if_pos (of_decide_eq_true e), getD_of hx]
      rw [e1] <;> rfl
    · have e1 : cntP rows v (i + 1) = cntA rows v i (cntP rows v i) := by
        show cntB rows v i (cntA rows v i (cntP rows v i)) = _
        unfold cntB
        rw [eN, if_neg (of_decide_eq_false e)]
      rw [e1] <;> rfl
    refine run_set 11 nd (ev_call (ok_result_now T) (hr.mono (by decide)) (eva_cons (ev_var 8 rfl) (eva_cons (ev_var 9 rfl) (eva_cons (ev_var 7 rfl) eva_nil))) ⟨rows, v, i, h, done, now, rfl, hp, hw, hx, es, rfl⟩) ?_
    cases ep : picAt rows v i with
    | none => exact ite_never (evt_cmp (opd_notNK (d := picD none) rfl) (ev_var 11 rfl) ev_non) (run_nil (run_nil ⟨some (.int ((i : Nat) : Int)), some (hD h), some (encSd (sAt rows v i)), some (encSd (sAt rows v (i + 1))), some (encSt (some (done, now))), some (picD none), by rw [looksL_none ep] <;> rfl⟩))
    | some p =>
      obtain ⟨hb, hbL, hbP⟩ := look_end h2 hw hi ep
      obtain ⟨_, nw, es2, _, hn, _⟩ := picAt_some h2 hw hi ep
      have en : nowAt rows v i + 1 = rows.length := by
        unfold nowAt
        rw [es2]
        exact hn
      have hc : look (cntP rows v (i + 1)) ((h : Nat) : Int) = some ((look (cntP rows v (i + 1)) ((h : Nat) : Int)).getD 0) := by
        show look (cntB rows v i (cntA rows v i (cntP rows v i))) _ = some ((look (cntB rows v i (cntA rows v i (cntP rows v i))) _).getD 0)
        unfold cntB
        rw [if_pos en, getD_of hx, look_put, if_pos rfl]
        rfl
      rw [getD_of hx] at hbP
      refine ite_always (evt_cmp (opd_notNK (d := picD (some p)) rfl) (ev_var 11 rfl) ev_non) (run_expr (ev_append (ev_var 3 rfl) (ev_tup (eva_cons (ev_tup (eva_cons (ev_var 7 rfl) (eva_cons (ev_ixT (ev_var 10 rfl) ev_int (atI_nat (j := 0) rfl)) (eva_cons (ev_ixD (hu_of hr) (ev_var 4 rfl) (ev_var 7 rfl) (List.mem_cons_of_mem _ List.mem_cons_self) hbP)
        (eva_cons (ev_bin opd_add (ev_var 6 rfl) ev_int) (eva_cons (ev_var 11 rfl) eva_nil)))))) (eva_cons (ev_ixD (hu_of hr) (ev_var 5 rfl) (ev_var 7 rfl) List.mem_cons_self hc) eva_nil))) (List.mem_cons_of_mem _ (List.mem_cons_of_mem _ List.mem_cons_self)) (List.mem_cons_of_mem _ (List.mem_cons_of_mem _ List.mem_cons_self)) (by
          have := looksL_len rows v i
          omega)) (run_nil (run_nil ⟨some (.int ((i : Nat) : Int)), some (hD h), some (encSd (sAt rows v i)), some (encSd (sAt rows v (i + 1))), some (encSt (some (done, now))), some (picD (some p)), ?_⟩)))
      rw [setB_3 ecf ebf, looksL_some ep]
      unfold lookD
      rw [es, ep, getD_of hx]
      rfl
  · subst e
    rw [enumD_length, List.length_map]
    exact run_retB (ev_var 3 rfl) (List.mem_cons_of_mem _ (List.mem_cons_of_mem _ List.mem_cons_self)) nf rfl

end
end Bs
set_option Elab.async false
set_option linter.all false
set_option maxRecDepth 100000
set_option maxHeartbeats 4000000
namespace Bs
open PySem PySem.Spec PyProof.Rows L2
section
variable {P : Program} {w : World} {K : PySem.W.Frag} {mg : Str → Option Value} {base : Heap}

/-- what moment a look may stand at -/
def momI (rows : List Bs.Row) (v : List Nat) (j : Nat) : Dt := momD (momAt rows v (bAt rows v j) (j + 1) ((picAt rows v j).getD []))
def eqNon : V → Bool := fun y => eqV y .non
theorem momI_in (rows : List Bs.Row) (v : List Nat) : inV (flV .non) (((lookI rows v v.length).map (momI rows v)).map flV) = wrongW rows v := by
  unfold inV wrongW lookI
  rw [List.any_map, List.any_map, List.any_filter]
  congr 1
  funext j
  unfold liedAt momI
  simp only [Function.comp_apply]
  cases picAt rows v j with
  | none => rfl
  | some p =>
    show (true && eqV (flV (momD (momAt rows v (bAt rows v j) (j + 1) p))) V.non) = (momAt rows v (bAt rows v j) (j + 1) p).isNone
    cases momAt rows v (bAt rows v j) (j + 1) p <;> rfl
theorem momI_fl (rows : List Bs.Row) (v : List Nat) : ((lookI rows v v.length).map (momI rows v)).all flD = true := List.all_eq_true.mpr fun d hd => by
  obtain ⟨j, _, rfl⟩ := List.mem_map.mp hd
  unfold momI
  cases momAt rows v (bAt rows v j) (j + 1) ((picAt rows v j).getD []) <;> rfl

theorem ok_least_moments (T : Tx K mg) : Pf P w K mg base "least_moments" 8 (spR K fun ds d => ∃ (rows : List Bs.Row) (t : Bool) (v : List Nat), ds = [encPlay rows, seqD t v] ∧ PlayOk rows ∧ InW rows v ∧ v.length ≤ 1000 ∧ okW rows v = true ∧ d = .lst ((lookI rows v v.length).map (momI rows v))) := by
  obtain ⟨fd, D⟩ := T.d_least_moments
  have nd : (["play", "weaving", "stood", "pictures", "look", "many"] : List Str).Nodup := by decide +kernel
  refine pf_mk (N := ["play", "weaving", "stood", "pictures", "look", "many"]) (ps := ["play", "weaving"]) D ⟨rfl, rfl, rfl, nd, rfl, by decide +kernel, by decide +kernel⟩ T.g_least_moments (fun _ _ _ _ _ _ us hl => match us, hl with | [_, _], _ => rfl)
    (fun ds d h => by
      obtain ⟨rows, t, v, e, hp, hw, hl, hok, e2⟩ := h
      subst e e2
      rfl) fun cdv A outer s H E hr F ds d h => ?_
  obtain ⟨rows, t, v, e, hp, hw, hl, hok, e2⟩ := h
  subst e e2
  have h2 := hp.n1
  refine run_set 2 nd (ev_call (ok_standings_of T) (hr.mono (by decide)) (eva_cons (ev_var 0 rfl) (eva_cons (ev_var 1 rfl) eva_nil)) ⟨rows, t, v, rfl, hp, hw, hl, hok, rfl⟩) ?_
  refine run_set 3 nd (ev_call (ok_pictures_of T) (hr.mono (by decide)) (eva_cons (ev_var 2 rfl) eva_nil) ⟨rows, v, v.length, rfl, hp, hl, rfl⟩) ?_
  refine run_ret (ev_lcM (own := [("look", 4), ("many", 5)]) (g := gTup K 2 (gNames [4, 5])) (is := [4, 5]) (f := fun k => momI rows v ((lookI rows v v.length).getD k 0)) nd (evi_lst (ds := looksL rows v v.length) (ev_call (ok_all_looks T) (hr.mono (by decide)) (eva_cons (ev_var 0 rfl) (eva_cons (ev_var 1 rfl) (eva_cons (ev_var 2 rfl) eva_nil))) ⟨rows, t, v, rfl, hp, hw, hl, hok, rfl⟩)) (blkOk_by (N := ["play", "weaving", "stood", "pictures", "look", "many"]) (sc := (defScope Hd.s_least_moments)) (by decide +kernel))
    (fun _ _ _ _ _ => pg_tup rfl (pgs_cons (pg_name nd rfl (.inl rfl)) (pgs_cons (pg_name nd rfl (.inl rfl)) pgs_nil))) (by decide) (by
      have := looksL_len rows v v.length
      omega) (fun D k d nD hd => ?_) ?_) rfl
  · obtain ⟨j, hj, rfl⟩ := map_get hd
    have hmem := List.mem_filter.mp (List.mem_of_getElem? hj)
    have hjl := List.mem_range.mp hmem.1
    refine ⟨[_, _], tgt_tup rfl rfl, fun _ _ _ _ _ => ?_⟩
    cases ep : picAt rows v j with
    | none =>
      have := hmem.2
      rw [ep] at this
      cases this
    | some p =>
      obtain ⟨hb, _, _⟩ := look_end h2 hw hjl ep
      rw [getD_of hj]
      unfold momI
      rw [ep]
      exact ev_call (ok_moment_of T) (hr.mono (by decide)) (eva_cons (ev_var 3 rfl) (eva_cons (ev_var 4 rfl) eva_nil)) ⟨rows, v, v.length, bAt rows v j, j + 1, p, _, _, rfl, by omega, hl, by omega, rfl⟩
  · unfold looksL
    rw [List.length_map]
    exact range_map (lookI rows v v.length) (momI rows v) 0

theorem ok_is_bad (T : Tx K mg) : Pf P w K mg base "is_bad" 9 (spR K fun ds d => ∃ (rows : List Bs.Row) (t : Bool) (v : List Nat), ds = [encPlay rows, seqD t v] ∧ PlayOk rows ∧ InW rows v ∧ v.length ≤ 1000 ∧ okW rows v = true ∧ d = .bl (wrongW rows v)) := by
  obtain ⟨fd, D⟩ := T.d_is_bad
  have nd : (["play", "weaving", "here"] : List Str).Nodup := by decide +kernel
  refine pf_mk (N := ["play", "weaving", "here"]) (ps := ["play", "weaving"]) D ⟨rfl, rfl, rfl, nd, rfl, by decide +kernel, by decide +kernel⟩ T.g_is_bad (fun _ _ _ _ _ _ us hl => match us, hl with | [_, _], _ => rfl)
    (fun ds d h => by
      obtain ⟨rows, t, v, e, hp, hw, hl, hok, e2⟩ := h
      subst e e2
      rfl) fun cdv A outer s H E hr F ds d h => ?_
  obtain ⟨rows, t, v, e, hp, hw, hl, hok, e2⟩ := h
  subst e e2
  exact ite_always (evt_cmp (opd_inK (k := true) rfl rfl (by decide +kernel)) (ev_kind T.play (ev_var 0 rfl)) (ev_glob T.v_MANNERS)) (run_ret (evq (ev_cmp (opd_inL (l := (lookI rows v v.length).map (momI rows v)) rfl (momI_fl rows v)) ev_non (ev_call (ok_least_moments T) (hr.mono (by decide)) (eva_cons (ev_var 0 rfl) (eva_cons (ev_var 1 rfl) eva_nil)) ⟨rows, t, v, rfl, hp, hw, hl, hok, rfl⟩)) (congrArg Dt.bl (momI_in rows v))) rfl)

theorem ok_is_wrong (T : Tx K mg) : Pf P w K mg base "is_wrong" 10 (spR K fun ds d => ∃ (rows : List Bs.Row) (t : Bool) (v : List Nat), ds = [encPlay rows, seqD t v] ∧ PlayOk rows ∧ InW rows v ∧ v.length ≤ 1000 ∧ okW rows v = true ∧ d = .bl (wrongW rows v)) := by
  obtain ⟨fd, D⟩ := T.d_is_wrong
  have nd : (["play", "weaving"] : List Str).Nodup := by decide +kernel
  refine pf_mk (N := ["play", "weaving"]) (ps := ["play", "weaving"]) D ⟨rfl, rfl, rfl, nd, rfl, by decide +kernel, by decide +kernel⟩ T.g_is_wrong (fun _ _ _ _ _ _ us hl => match us, hl with | [_, _], _ => rfl)
    (fun ds d h => by
      obtain ⟨rows, t, v, e, hp, hw, hl, hok, e2⟩ := h
      subst e e2
      rfl) fun cdv A outer s H E hr F ds d h => ?_
  obtain ⟨rows, t, v, e, hp, hw, hl, hok, e2⟩ := h
  subst e e2
  exact run_ret (ev_call (ok_is_bad T) (hr.mono (by decide)) (eva_cons (ev_var 0 rfl) (eva_cons (ev_var 1 rfl) eva_nil)) ⟨rows, t, v, rfl, hp, hw, hl, hok, rfl⟩) rfl

theorem ok_is_weaving (T : Tx K mg) : Pf P w K mg base "is_weaving" 8 (spR K fun ds d => ∃ (rows : List Bs.Row) (t : Bool) (v : List Nat), ds = [encPlay rows, seqD t v] ∧ PlayOk rows ∧ InW rows v ∧ v.length ≤ 1000 ∧ d = .bl (okW rows v)) := by
  obtain ⟨fd, D⟩ := T.d_is_weaving
  have nd : (["play", "weaving"] : List Str).Nodup := by decide +kernel
  refine pf_mk (N := ["play", "weaving"]) (ps := ["play", "weaving"]) D ⟨rfl, rfl, rfl, nd, rfl, by decide +kernel, by decide +kernel⟩ T.g_is_weaving (fun _ _ _ _ _ _ us hl => match us, hl with | [_, _], _ => rfl)
    (fun ds d h => by
      obtain ⟨rows, t, v, e, hp, hw, hl, e2⟩ := h
      subst e e2
      rfl) fun cdv A outer s H E hr F ds d h => ?_
  obtain ⟨rows, t, v, e, hp, hw, hl, e2⟩ := h
  subst e e2
  cases hok : okW rows v with
  | true =>
    refine run_try_ok (run_expr (ev_call (ok_standings_of T) (hr.mono (by decide)) (eva_cons (ev_var 0 rfl) (eva_cons (ev_var 1 rfl) eva_nil)) ⟨rows, t, v, rfl, hp, hw, hl, hok, rfl⟩) (run_nil ?_))
    exact run_ret ev_bl rfl
  | false =>
    refine run_try_only (okX_standings_of T) (hr.mono (by decide)) rfl rfl ⟨rfl, by decide, .inl T.g_NoWeaving⟩ T.exm_NoWeaving (fun pn xe => eva_cons (ev_var 0 rfl) (eva_cons (ev_var 1 rfl) eva_nil)) ⟨rows, t, v, rfl, hp, hw, hl, hok⟩ fun a oe d pn hz hf hd => ?_
    exact run_ret ev_bl rfl

def optW : Option (List Nat) → Dt
  | none => .non
  | some r => .tup (r.map hD)
theorem cut_out (v : List Nat) (i : Nat) : cutD (v.map hD) none (some ((i : Nat) : Int)) ++ cutD (v.map hD) (some (((i : Nat) : Int) + 1)) none = (outW v i).map hD := by
  rw [cut_to, show ((i : Nat) : Int) + 1 = ((i + 1 : Nat) : Int) by omega, cut_from]
  unfold outW
  rw [List.map_append, List.map_take, List.map_drop]
theorem oneW_at {rows : List Bs.Row} {v : List Nat} {i : Nat} (hi : i < v.length) (hn : ∀ j, j < i → gw rows (outW v j) = false) (he : gw rows (outW v i) = true) : oneW rows v = some (outW v i) := by
  unfold oneW
  rw [List.find?_eq_some_iff_getElem]
  refine ⟨he, i, by simpa using hi, by simp, fun j hj => ?_⟩
  have := hn j hj
  simp [this]
theorem oneW_no {rows : List Bs.Row} {v : List Nat} (hn : ∀ j, j < v.length → gw rows (outW v j) = false) : oneW rows v = none := by
  unfold oneW
  rw [List.find?_eq_none]
  intro x hx
  obtain ⟨j, hj, rfl⟩ := List.mem_map.mp hx
  have := hn j (List.mem_range.mp hj)
  simp [this]

theorem ok_without_one (T : Tx K mg) : Pf P w K mg base "without_one" 10 (spR K fun ds d => ∃ (rows : List Bs.Row) (v : List Nat), ds = [encPlay rows, .tup (v.map hD)] ∧ PlayOk rows ∧ InW rows v ∧ v.length ≤ 1000 ∧ d = optW (oneW rows v)) := by
  obtain ⟨fd, D⟩ := T.d_without_one
  have nd : (["play", "weaving", "index", "rest"] : List Str).Nodup := by decide +kernel
  refine pf_mk (N := ["play", "weaving", "index", "rest"]) (ps := ["play", "weaving"]) D ⟨rfl, rfl, rfl, nd, rfl, by decide +kernel, by decide +kernel⟩ T.g_without_one (fun _ _ _ _ _ _ us hl => match us, hl with | [_, _], _ => rfl)
    (fun ds d h => by
      obtain ⟨rows, v, e, hp, hw, hl, e2⟩ := h
      subst e e2
      rfl) fun cdv A outer s H E hr F ds d h => ?_
  obtain ⟨rows, v, e, hp, hw, hl, e2⟩ := h
  subst e e2
  refine run_for (ys := intsD v.length) (is := [2]) (g := gName 2) .never (evi_range T.n_range (evq (ev_callB (calld_lenT (l := v.map hD)) T.n_len bt_len (eva_cons (ev_var 1 rfl) eva_nil)) (by rw [List.length_map])) (by omega)) (pg_name nd rfl (.inl rfl))
    (fun i E' => (∀ j, j < i → gw rows (outW v j) = false) ∧ ∃ a b, E' = ⟨F.M0, [some (encPlay rows), some (.tup (v.map hD)), a, b], []⟩) ⟨fun j hj => absurd hj (Nat.not_lt_zero j), none, none, rfl⟩ (fun i E' ⟨_, a, b, e⟩ => by
      subst e
      exact ⟨rfl, rfl⟩) (fun F1 sub i d E' hd ⟨hno, a, b, e⟩ => ?_) (fun E' ⟨hno, a, b, e⟩ => ?_)
  · subst e
    have hi := (List.getElem?_eq_some_iff.mp hd).1
    rw [intsD_length] at hi
    obtain rfl := Option.some.inj ((intsD_get hi).symm.trans hd)
    refine ⟨[.int ((i : Nat) : Int)], tgt_name, ?_⟩
    have ho := outW_len hi
    refine run_set 3 nd (evq (ev_bin (opd_catT (by
      rw [cut_to, show ((i : Nat) : Int) + 1 = ((i + 1 : Nat) : Int) by omega, cut_from, List.length_take, List.length_drop, List.length_map]
      omega)) (ev_slT (ev_var 1 rfl) evo_none (evo_some (ev_var 2 rfl))) (ev_slT (ev_var 1 rfl) (evo_some (ev_bin opd_add (ev_var 2 rfl) ev_int)) evo_none)) (congrArg Dt.tup (cut_out v i))) ?_
    refine run_if (k := gw rows (outW v i)) (EvW.t (evw_and (evt_val (ev_call (ok_is_weaving T) (hr.mono (by decide)) (eva_cons (ev_var 0 rfl) (eva_cons (ev_var 3 rfl) eva_nil)) ⟨rows, true, outW v i, rfl, hp, outW_in hw i, by omega, rfl⟩)) fun hok => evw_and1 (evt_val
      (ev_call (ok_is_bad T) (hr.mono (by decide)) (eva_cons (ev_var 0 rfl) (eva_cons (ev_var 3 rfl) eva_nil)) ⟨rows, true, outW v i, rfl, hp, outW_in hw i, by omega, hok, rfl⟩)))) (fun e => ?_) (fun e => run_nil (run_nil ⟨fun j hj => ?_, _, _, rfl⟩))
    · rw [oneW_at hi hno e]
      exact run_ret (ev_var 3 rfl) rfl
    · by_cases z : j = i
      · rw [z]
        exact e
      · exact hno j (by omega)
  · subst e
    rw [intsD_length] at hno
    rw [oneW_no hno]
    exact run_ret ev_non rfl

theorem calld_tupS {X : Cx} {t : Bool} {v : List Nat} : CallD X (.type "tuple") [seqD t v] (.tup (v.map hD)) := by
  cases t with
  | true => exact calld_tupT
  | false => exact calld_tupL

theorem ok_shrunk (T : Tx K mg) : Pf P w K mg base "shrunk" 11 (spR K fun ds d => ∃ (rows : List Bs.Row) (t : Bool) (v : List Nat), ds = [encPlay rows, seqD t v] ∧ PlayOk rows ∧ InW rows v ∧ v.length ≤ 1000 ∧ okW rows v = true ∧ wrongW rows v = true ∧ d = .tup ((shrW rows v.length v).map hD)) := by
  obtain ⟨fd, D⟩ := T.d_shrunk
  have nd : (["play", "weaving", "found", "rest"] : List Str).Nodup := by decide +kernel
  refine pf_mk (N := ["play", "weaving", "found", "rest"]) (ps := ["play", "weaving"]) D ⟨rfl, rfl, rfl, nd, rfl, by decide +kernel, by decide +kernel⟩ T.g_shrunk (fun _ _ _ _ _ _ us hl => match us, hl with | [_, _], _ => rfl)
    (fun ds d h => by
      obtain ⟨rows, t, v, e, hp, hw, hl, hok, hwr, e2⟩ := h
      subst e e2
      rfl) fun cdv A outer s H E hr F ds d h => ?_
  obtain ⟨rows, t, v, e, hp, hw, hl, hok, hwr, e2⟩ := h
  subst e e2
  refine ite_never (evt_not (k := true) (evt_val (evq (ev_call (ok_is_bad T) (hr.mono (by decide)) (eva_cons (ev_var 0 rfl) (eva_cons (ev_var 1 rfl) eva_nil)) ⟨rows, t, v, rfl, hp, hw, hl, hok, rfl⟩) (congrArg Dt.bl hwr)))) (run_nil ?_)
  refine run_set 2 nd ev_non (run_set 3 nd (ev_callTy calld_tupS T.n_tuple bt_tuple (eva_cons (ev_var 1 rfl) eva_nil)) ?_)
  refine run_while .never (n := v.length + 1) (fun m E' => (∃ r, m = r.length + 1 ∧ InW rows r ∧ r.length ≤ 1000 ∧ shrW rows r.length r = shrW rows v.length v ∧ ∃ a, E' = ⟨F.M0, [some (encPlay rows), some (seqD t v), a, some (.tup (r.map hD))], []⟩) ∨
    (m = 0 ∧ E' = ⟨F.M0, [some (encPlay rows), some (seqD t v), some (.tup ((shrW rows v.length v).map hD)), some .non], []⟩)) (.inl ⟨v, rfl, hw, hl, rfl, _, rfl⟩) fun m E' hI => ?_
  rcases hI with ⟨r, em, hr1, hr2, hs, a, e⟩ | ⟨em, e⟩
  · subst e
    refine ⟨true, _, evt_cmp (opd_notNK (d := .tup (r.map hD)) rfl) (ev_var 3 rfl) ev_non, fun _ => ?_, fun z => Bool.noConfusion z⟩
    refine run_set 2 nd (ev_var 3 rfl) (run_set 3 nd (ev_call (ok_without_one T) (hr.mono (by decide)) (eva_cons (ev_var 0 rfl) (eva_cons (ev_var 2 rfl) eva_nil)) ⟨rows, r, rfl, hp, hr1, hr2, rfl⟩) (run_nil ?_))
    cases eo : oneW rows r with
    | none =>
      rw [shrW_none eo] at hs
      exact ⟨0, by omega, .inr ⟨rfl, by rw [← hs] <;> rfl⟩⟩
    | some q =>
      obtain ⟨es, el⟩ := shrW_more rfl eo
      obtain ⟨i, hi, eq⟩ := (oneW_some eo).2
      exact ⟨q.length + 1, by omega, .inl ⟨q, rfl, by rw [eq]; exact outW_in hr1 i, by omega, es.symm.trans hs, _, rfl⟩⟩
  · subst e
    refine ⟨false, _, evt_cmp (opd_notNK (d := .non) rfl) (ev_var 3 rfl) ev_non, fun z => Bool.noConfusion z, fun _ => ?_⟩
    exact run_ret (ev_var 2 rfl) rfl

theorem okX_shrunk (T : Tx K mg) : PfX P w K mg base "shrunk" 11 (spX K (He.ga K "NotWrong") (fun d => d = none) fun ds => ∃ (rows : List Bs.Row) (t : Bool) (v : List Nat), ds = [encPlay rows, seqD t v] ∧ PlayOk rows ∧ InW rows v ∧ v.length ≤ 1000 ∧ okW rows v = true ∧ wrongW rows v = false) := by
  obtain ⟨fd, D⟩ := T.d_shrunk
  have nd : (["play", "weaving", "found", "rest"] : List Str).Nodup := by decide +kernel
  refine pfX_mk (N := ["play", "weaving", "found", "rest"]) (ps := ["play", "weaving"]) D ⟨rfl, rfl, rfl, nd, rfl, by decide +kernel, by decide +kernel⟩ T.g_shrunk (fun _ _ _ _ _ _ us hl => match us, hl with | [_, _], _ => rfl)
    (fun ds h => by
      obtain ⟨rows, t, v, e, hp, hw, hl, hok, hwr⟩ := h
      subst e
      rfl) fun cdv A outer s H E hr F ds h rz => ?_
  obtain ⟨rows, t, v, e, hp, hw, hl, hok, hwr⟩ := h
  subst e
  exact ite_always (evt_not (k := false) (evt_val (evq (ev_call (ok_is_bad T) (hr.mono (by decide)) (eva_cons (ev_var 0 rfl) (eva_cons (ev_var 1 rfl) eva_nil)) ⟨rows, t, v, rfl, hp, hw, hl, hok, rfl⟩) (congrArg Dt.bl hwr)))) (run_notWrong T rz)

end
end Bs
set_option Elab.async false
set_option linter.all false
set_option maxRecDepth 100000
set_option maxHeartbeats 4000000
namespace Bs
open PySem PySem.Spec PyProof.Rows L2
section
variable {P : Program} {w : World} {K : PySem.W.Frag} {mg : Str → Option Value} {base : Heap}

theorem ok__law_fresh (T : Tx K mg) : Pf P w K mg base "_law_fresh" 1 (spR K fun ds d => ∃ (row : Bs.Row) (k : Nat), ds = [encRow row, .int ((k : Nat) : Int)] ∧ k ≤ row.length ∧ d = encSt (freshS row k)) := by
  obtain ⟨fd, D⟩ := T.d__law_fresh
  have nd : (["_law_script", "_law_done"] : List Str).Nodup := by decide +kernel
  refine pf_mk (N := ["_law_script", "_law_done"]) (ps := ["_law_script", "_law_done"]) D ⟨rfl, rfl, rfl, nd, rfl, by decide +kernel, by decide +kernel⟩ T.g__law_fresh (fun _ _ _ _ _ _ us hl => match us, hl with | [_, _], _ => rfl)
    (fun ds d h => by
      obtain ⟨row, k, e, hk, e2⟩ := h
      subst e e2
      rfl) fun cdv A outer s H E hr F ds d h => ?_
  obtain ⟨row, k, e, hk, e2⟩ := h
  subst e e2
  refine run_ret (ev_if (k := decide (k = row.length)) (evt_cmp (opd_eqIK (by
      rw [List.length_map]
      by_cases z : k = row.length
      · rw [decide_eq_true z, decide_eq_true (by omega)]
      · rw [decide_eq_false z, decide_eq_false (by omega)])) (ev_var 1 rfl) (ev_callB (calld_lenT (l := row.map encDeed)) T.n_len bt_len (eva_cons (ev_var 0 rfl) eva_nil))) (fun e => evq ev_non (by
      have := of_decide_eq_true e
      unfold freshS
      rw [if_neg (by omega)] <;> rfl)) (fun e => evq (ev_tup (eva_cons (ev_var 1 rfl) (eva_cons ev_non (eva_cons ev_non (eva_cons (ev_tup eva_nil) (eva_cons ev_non eva_nil)))))) (by
      have := of_decide_eq_false e
      unfold freshS
      rw [if_pos (by omega)] <;> rfl))) rfl

theorem kinds_in {X : Cx} : OpD X (compareOp .In) (.str "sweep") (.tup [.str "sweep", .str "twice", .str "borrow"]) (.bl true) := opd_inK rfl rfl (by decide +kernel)

theorem ok__law_begun (T : Tx K mg) : Pf P w K mg base "_law_begun" 2 (spR K fun ds d => ∃ rows, ds = [encPlay rows] ∧ PlayOk rows ∧ d = encSd (begunS rows)) := by
  obtain ⟨fd, D⟩ := T.d__law_begun
  have nd : (["_law_play", "_law_kind", "_law_inputs", "_law_values", "_law_many", "_law_first", "_law_value", "_law_script"] : List Str).Nodup := by decide +kernel
  refine pf_mk (N := ["_law_play", "_law_kind", "_law_inputs", "_law_values", "_law_many", "_law_first", "_law_value", "_law_script"]) (ps := ["_law_play"]) D ⟨rfl, rfl, rfl, nd, rfl, by decide +kernel, by decide +kernel⟩ T.g__law_begun (fun _ _ _ _ _ _ us hl => match us, hl with | [_], _ => rfl)
    (fun ds d h => by
      obtain ⟨rows, e, hp, e2⟩ := h
      subst e e2
      rfl) fun cdv A outer s H E hr F ds d h => ?_
  obtain ⟨rows, e, hp, e2⟩ := h
  subst e e2
  have h1 := hp.n1
  have h5 := hp.n5
  refine run_par 1 2 nd (ev_kind T.play (ev_var 0 rfl)) (ev_inputs T.play (ev_var 0 rfl)) ?_
  refine ite_never (evt_cmp (opd_eqSK (i := "sweep") (k := false) (by decide)) (ev_var 1 rfl) ev_str) (run_nil ?_)
  refine run_set 4 nd (evq (ev_callB (calld_lenT (l := rows.map encRow)) T.n_len bt_len (eva_cons (ev_var 2 rfl) eva_nil)) (by rw [List.length_map])) ?_
  refine ite_always (evt_cmp kinds_in (ev_var 1 rfl) (ev_tup (eva_cons ev_str (eva_cons ev_str (eva_cons ev_str eva_nil))))) (run_ret (ev_tup (eva_cons (ev_bin (opd_repT (l := [encCell (0, 0)]) (k := (rows.length : Nat)) (fun z => by cases z) (by omega) (by omega) (by decide)) (ev_tup (eva_cons (ev_tup (eva_cons ev_int (eva_cons ev_int (eva_cons ev_non eva_nil)))) eva_nil)) (ev_var 4 rfl))
    (eva_cons (ev_callTy (calld_tupL (l := (begunS rows).states.map encSt)) T.n_tuple bt_tuple (eva_cons (ev_lcM (own := [("_law_script", 7)]) (g := gName 7) (is := [7]) (f := fun i => encSt (freshS (rows.getD i []) 0)) nd (evi_tup (ds := rows.map encRow) (ev_var 2 rfl)) (blkOk_by (N := ["_law_play", "_law_kind", "_law_inputs", "_law_values", "_law_many", "_law_first", "_law_value", "_law_script"]) (sc := (defScope Hd.z_law_begun)) (by decide +kernel)) (fun _ _ _ _ _ => pg_name nd rfl (.inl rfl)) (by decide)
      (by rw [List.length_map]; omega) (fun D i d nD hd => by
        obtain ⟨r, hr', rfl⟩ := map_get hd
        rw [getD_of hr']
        exact ⟨[encRow r], tgt_name, fun _ _ _ _ _ => ev_call (ok__law_fresh T) (hr.mono (by decide)) (eva_cons (ev_var 7 rfl) (eva_cons ev_int eva_nil)) ⟨r, 0, rfl, Nat.zero_le _, rfl⟩⟩) (by
        rw [List.length_map]
        show _ = (rows.map fun r => freshS r 0).map encSt
        rw [List.map_map]
        exact range_map rows (fun r => encSt (freshS r 0)) [])) eva_nil))
    (eva_cons (ev_bin (opd_repT (l := [.tup []]) (k := (rows.length : Nat)) (fun z => by cases z) (by omega) (by omega) (by decide)) (ev_tup (eva_cons (ev_tup eva_nil) eva_nil)) (ev_var 4 rfl)) eva_nil)))) ?_)
  rw [rep_one, rep_one, Int.toNat_natCast]
  show _ = Dt.tup [.tup ((rows.map fun _ => ((0, 0) : Cell)).map encCell), _, .tup ((rows.map fun _ => ([] : List (List Cell))).map encTold)]
  rw [List.map_map, List.map_map, show (rows.map (encTold ∘ fun _ => [])) = rows.map (fun _ => Dt.tup []) from rfl, map_const, show (rows.map (encCell ∘ fun _ => (0, 0))) = rows.map (fun _ => encCell (0, 0)) from rfl, map_const] <;> rfl

theorem ok__law_manner (T : Tx K mg) : Pf P w K mg base "_law_manner" 2 (spR K fun ds d => ∃ (row : Bs.Row) (cs : List Cell) (h done : Nat) (now : List Cell) (x : Deed), ds = [.str "sweep", encRow row, encCells cs, encSt (some (done, now)), hD h] ∧ row[done]? = some x ∧ now.length < cs.length ∧ h < cs.length ∧ cs.length ≤ 1000 ∧ d = encAfter (afterS row cs h done now)) := by
  obtain ⟨fd, D⟩ := T.d__law_manner
  have nd : (["_law_kind", "_law_script", "_law_cells", "_law_state", "_law_me", "_law_done", "_law_first", "_law_last", "_law_now", "_law_ready", "_law_numbers", "_law_picture", "_law_cell", "_law_number"] : List Str).Nodup := by decide +kernel
  refine pf_mk (N := ["_law_kind", "_law_script", "_law_cells", "_law_state", "_law_me", "_law_done", "_law_first", "_law_last", "_law_now", "_law_ready", "_law_numbers", "_law_picture", "_law_cell", "_law_number"]) (ps := ["_law_kind", "_law_script", "_law_cells", "_law_state", "_law_me"]) D ⟨rfl, rfl, rfl, nd, rfl, by decide +kernel, by decide +kernel⟩ T.g__law_manner (fun _ _ _ _ _ _ us hl => match us, hl with | [_, _, _, _, _], _ => rfl)
    (fun ds d h => by
      obtain ⟨row, cs, h, done, now, x, e, hx, hn, hh, hc, e2⟩ := h
      subst e e2
      rfl) fun cdv A outer s H E hr F ds d h => ?_
  obtain ⟨row, cs, h, done, now, x, e, hx, hn, hh, hc, e2⟩ := h
  subst e e2
  have hdl := (List.getElem?_eq_some_iff.mp hx).1
  refine run_unp [5, 6, 7, 8, 9] (ev_var 3 rfl) (pgs_cons (pg_name nd rfl (.inl rfl)) (pgs_cons (pg_name nd rfl (.inl rfl)) (pgs_cons (pg_name nd rfl (.inl rfl)) (pgs_cons (pg_name nd rfl (.inl rfl)) (pgs_cons (pg_name nd rfl (.inl rfl)) pgs_nil))))) rfl ?_
  cases x with
  | put v =>
    refine ite_always (EvW.t (evw_and (k1 := true) (k2 := true) (evt_cmp (opd_eqSK (i := "put") (by decide)) (ev_ixT (ev_ixT (ev_var 1 rfl) (ev_var 5 rfl) (at_map hx)) ev_int (atI_nat (j := 0) rfl)) ev_str) fun _ => evw_and1 (EvW.t (evw_or (k1 := true) (k2 := true) (evt_cmp (opd_neSK (by decide)) (ev_var 0 rfl) ev_str) fun z => Bool.noConfusion z)))) ?_
    refine run_ret (ev_tup (eva_cons (ev_tup (eva_cons (ev_bin opd_add (ev_ixT (ev_ixT (ev_var 2 rfl) (ev_var 4 rfl) (at_map (get_lt (0, 0) hh))) ev_int (atI_nat (j := 0) rfl)) ev_int) (eva_cons (ev_ixT (ev_ixT (ev_var 1 rfl) (ev_var 5 rfl) (at_map hx)) ev_int (atI_nat (j := 1) rfl)) (eva_cons (ev_var 9 rfl) eva_nil))))
      (eva_cons (ev_call (ok__law_fresh T) (hr.mono (by decide)) (eva_cons (ev_var 1 rfl) (eva_cons (ev_bin opd_add (ev_var 5 rfl) ev_int) eva_nil)) ⟨row, done + 1, rfl, hdl, rfl⟩) (eva_cons ev_non eva_nil)))) ?_
    rw [afterS_put hx]
    rfl
  | see =>
    refine ite_never (EvW.t (evw_and (k1 := false) (k2 := true) (evt_cmp (opd_eqSK (i := "see") (by decide)) (ev_ixT (ev_ixT (ev_var 1 rfl) (ev_var 5 rfl) (at_map hx)) ev_int (atI_nat (j := 0) rfl)) ev_str) fun z => Bool.noConfusion z)) (run_nil ?_)
    have ec := get_lt (0, 0) hn
    refine run_set 8 nd (evq (ev_bin (opd_catT (l := now.map encCell) (l' := [encCell (cs.getD now.length (0, 0))]) (by rw [List.length_map]; show _ + 1 ≤ 10000; omega)) (ev_var 8 rfl) (ev_tup (eva_cons (ev_ixT (ev_var 2 rfl) (evq (ev_callB (calld_lenT (l := now.map encCell)) T.n_len bt_len (eva_cons (ev_var 8 rfl) eva_nil)) (by rw [List.length_map])) (at_map ec)) eva_nil)))
      (show _ = encCells (now ++ [cs.getD now.length (0, 0)]) by
        unfold encCells
        rw [List.map_append] <;> rfl)) ?_
    generalize hN : now ++ [cs.getD now.length (0, 0)] = nw
    have hNl : nw.length = now.length + 1 := by rw [← hN, List.length_append] <;> rfl
    have aS : afterS row cs h done now = if now.length + 1 = cs.length then (none, freshS row (done + 1), some nw) else (none, some (done, nw), none) := by
      unfold afterS
      rw [hx, ← hN]
    rw [aS]
    by_cases hk : now.length + 1 = cs.length
    · rw [if_pos hk]
      refine ite_never (evt_cmp (opd_ltK (k := false) (decide_eq_false (by
        rw [List.length_map, List.length_map]
        omega))) (ev_callB (calld_lenT (l := nw.map encCell)) T.n_len bt_len (eva_cons (ev_var 8 rfl) eva_nil)) (ev_callB (calld_lenT (l := cs.map encCell)) T.n_len bt_len (eva_cons (ev_var 2 rfl) eva_nil))) (run_nil ?_)
      refine run_set 10 nd (ev_callTy calld_tupL T.n_tuple bt_tuple (eva_cons (ev_lcM (own := [("_law_cell", 12)]) (g := gName 12) (is := [12]) (f := fun i => .int (nw.getD i (0, 0)).1) nd (evi_tup (ds := nw.map encCell) (ev_var 8 rfl)) (blkOk_by (N := ["_law_kind", "_law_script", "_law_cells", "_law_state", "_law_me", "_law_done", "_law_first", "_law_last", "_law_now", "_law_ready", "_law_numbers", "_law_picture", "_law_cell", "_law_number"]) (sc := (defScope Hd.z_law_manner)) (by decide +kernel)) (fun _ _ _ _ _ => pg_name nd rfl (.inl rfl)) (by decide)
        (by rw [List.length_map]; omega) (fun D i d nD hd => by
          obtain ⟨x, hx, rfl⟩ := map_get hd
          rw [getD_of hx]
          exact ⟨[encCell x], tgt_name, fun _ _ _ _ _ => ev_ixT (ev_var 12 rfl) ev_int (atI_nat (j := 0) rfl)⟩) rfl) eva_nil)) ?_
      refine run_set 11 nd ev_non ?_
      refine ite_always (EvW.t (evw_or (k1 := true) (k2 := true) (evt_cmp (opd_eqSK (by decide)) (ev_var 0 rfl) ev_str) fun z => Bool.noConfusion z)) ?_
      refine run_set 11 nd (ev_callTy (calld_tupL (l := nw.map encPE)) T.n_tuple bt_tuple (eva_cons (ev_lcM (own := [("_law_cell", 12)]) (g := gName 12) (is := [12]) (f := fun i => encPE (nw.getD i (0, 0))) nd (evi_tup (ds := nw.map encCell) (ev_var 8 rfl)) (blkOk_by (N := ["_law_kind", "_law_script", "_law_cells", "_law_state", "_law_me", "_law_done", "_law_first", "_law_last", "_law_now", "_law_ready", "_law_numbers", "_law_picture", "_law_cell", "_law_number"]) (sc := (defScope Hd.z_law_manner)) (by decide +kernel)) (fun _ _ _ _ _ => pg_name nd rfl (.inl rfl)) (by decide)
        (by rw [List.length_map]; omega) (fun D i d nD hd => by
          obtain ⟨x, hx, rfl⟩ := map_get hd
          refine ⟨[encCell x], tgt_name, fun _ _ _ _ _ => evq (ev_slT (ev_var 12 rfl) evo_none (evo_some ev_int)) ?_⟩
          rw [getD_of hx]
          exact congrArg Dt.tup (cut_to [.int x.1, .int x.2, .non] 2)) (by
          rw [List.length_map]
          exact range_map nw encPE (0, 0))) eva_nil)) (run_nil ?_)
      refine ite_never (evt_cmp (opd_isNK (d := encPic nw) rfl) (ev_var 11 rfl) ev_non) (run_nil ?_)
      exact ite_always (evt_cmp (opd_eqSK (i := "see") (by decide)) (ev_ixT (ev_ixT (ev_var 1 rfl) (ev_var 5 rfl) (at_map hx)) ev_int (atI_nat (j := 0) rfl)) ev_str) (run_ret (ev_tup (eva_cons ev_non (eva_cons (ev_call (ok__law_fresh T) (hr.mono (by decide)) (eva_cons (ev_var 1 rfl) (eva_cons (ev_bin opd_add (ev_var 5 rfl) ev_int) eva_nil)) ⟨row, done + 1, rfl, hdl, rfl⟩) (eva_cons (ev_var 11 rfl) eva_nil)))) rfl)
    · rw [if_neg hk]
      exact ite_always (evt_cmp (opd_ltK (k := true) (decide_eq_true (by
        rw [List.length_map, List.length_map]
        omega))) (ev_callB (calld_lenT (l := nw.map encCell)) T.n_len bt_len (eva_cons (ev_var 8 rfl) eva_nil)) (ev_callB (calld_lenT (l := cs.map encCell)) T.n_len bt_len (eva_cons (ev_var 2 rfl) eva_nil)))
        (run_ret (ev_tup (eva_cons ev_non (eva_cons (ev_tup (eva_cons (ev_var 5 rfl) (eva_cons (ev_var 6 rfl) (eva_cons (ev_var 7 rfl) (eva_cons (ev_var 8 rfl) (eva_cons (ev_var 9 rfl) eva_nil)))))) (eva_cons ev_non eva_nil)))) rfl)

end
end Bs
set_option Elab.async false
set_option linter.all false
set_option maxRecDepth 100000
set_option maxHeartbeats 4000000
namespace Bs
open PySem PySem.Spec PyProof.Rows L2
section
variable {P : Program} {w : World} {K : PySem.W.Frag} {mg : Str → Option Value} {base : Heap}

theorem encAfter_3 (r : Option Cell × Hs × Option (List Cell)) : encAfter r = .tup [cellD r.1, encSt r.2.1, picD r.2.2] := rfl
section
variable {X : Cx} {F : Fr} {E : En} {a a' b b' c : Expr} {l : List Dt} {n : Nat} {d : Dt} {p1 p2 p3 p4 p5 p6 p7 p8 pos : Pos} {k1 : Nat} {z}
/-- x[:n] + (d,) + x[n + 1:] -/
theorem ev_put (ha : Ev X F a E (.tup l) E) (ha' : Ev X F a' E (.tup l) E) (hb : Ev X F b E (.int ((n : Nat) : Int)) E) (hb' : Ev X F b' E (.int ((n : Nat) : Int)) E) (hc : Ev X F c E d E) (hn : n < l.length) (hl : l.length ≤ 1000) (hs : starEach [c] X.env = (false, eval c X.env) :: starEach [] X.env := by rfl) :
    Ev X F (.BinOp (.BinOp (.Subscript a (.Slice none (some b) none p1) p2) .Add (.Tuple [c] k1 p3) p4) .Add (.Subscript a' (.Slice (some (.BinOp b' .Add (.Constant (.int 1) z p5) p6)) none none p7) p8) pos) E (.tup (l.set n d)) E :=
  evq (ev_bin (opd_catT (by
    rw [cut_to, show ((n : Nat) : Int) + 1 = ((n + 1 : Nat) : Int) by omega, cut_from, List.length_append, List.length_take, List.length_drop]
    show _ + 1 + _ ≤ _
    omega)) (ev_bin (opd_catT (by
    rw [cut_to, List.length_take]
    show _ + 1 ≤ _
    omega)) (ev_slT ha evo_none (evo_some hb)) (ev_tup (eva_cons hc eva_nil hs) (by show 1 ≤ 100; omega))) (ev_slT ha' (evo_some (ev_bin opd_add hb' ev_int)) evo_none)) (congrArg Dt.tup (cut_set l n d hn))
end

theorem ok__law_behind (T : Tx K mg) : Pf P w K mg base "_law_behind" 3 (spR K fun ds d => ∃ (rows : List Bs.Row) (z : Sd) (h done : Nat) (now : List Cell), ds = [encPlay rows, encSd z, hD h] ∧ PlayOk rows ∧ SdOk rows z ∧ z.states[h]? = some (some (done, now)) ∧ d = encSd (stepS rows z h)) := by
  obtain ⟨fd, D⟩ := T.d__law_behind
  have nd : (["_law_play", "_law_standing", "_law_me", "_law_cells", "_law_states", "_law_told_here", "_law_state", "_law_kind", "_law_cell", "_law_later", "_law_item"] : List Str).Nodup := by decide +kernel
  refine pf_mk (N := ["_law_play", "_law_standing", "_law_me", "_law_cells", "_law_states", "_law_told_here", "_law_state", "_law_kind", "_law_cell", "_law_later", "_law_item"]) (ps := ["_law_play", "_law_standing", "_law_me"]) D ⟨rfl, rfl, rfl, nd, rfl, by decide +kernel, by decide +kernel⟩ T.g__law_behind (fun _ _ _ _ _ _ us hl => match us, hl with | [_, _, _], _ => rfl)
    (fun ds d h => by
      obtain ⟨rows, z, h, done, now, e, hp, hz, hst, e2⟩ := h
      subst e e2
      rfl) fun cdv A outer s H E hr F ds d h => ?_
  obtain ⟨rows, z, h, done, now, e, hp, hz, hst, e2⟩ := h
  subst e e2
  have h5 := hp.n5
  have hh := hz.lt hst
  obtain ⟨x, hx⟩ := hz.deed hst
  obtain ⟨hd1, hd2, hd3⟩ := hz.st h done now hst
  have hlen : (rows.getD h []).length ≤ 6 := (playOk_row hp (get_lt [] hh)).1
  refine run_unp [3, 4, 5] (ev_var 1 rfl) (pgs_cons (pg_name nd rfl (.inl rfl)) (pgs_cons (pg_name nd rfl (.inl rfl)) (pgs_cons (pg_name nd rfl (.inl rfl)) pgs_nil))) rfl ?_
  refine run_par 6 7 nd (ev_ixT (ev_var 4 rfl) (ev_var 2 rfl) (at_map hst)) (ev_kind T.play (ev_var 0 rfl)) ?_
  refine ite_always (evt_cmp kinds_in (ev_var 7 rfl) (ev_tup (eva_cons ev_str (eva_cons ev_str (eva_cons ev_str eva_nil))))) ?_
  refine run_unp [8, 9, 10] (evq (ev_call (ok__law_manner T) (hr.mono (by decide)) (eva_cons (ev_var 7 rfl) (eva_cons (ev_ixT (ev_inputs T.play (ev_var 0 rfl)) (ev_var 2 rfl) (at_map (get_lt [] hh))) (eva_cons (ev_var 3 rfl) (eva_cons (ev_var 6 rfl) (eva_cons (ev_var 2 rfl) eva_nil)))))
    ⟨rows.getD h [], z.cells, h, done, now, x, rfl, hx, by rw [hz.hc]; exact hd2, by rw [hz.hc]; exact hh, by rw [hz.hc]; omega, rfl⟩) (encAfter_eq _)) (pgs_cons (pg_name nd rfl (.inl rfl)) (pgs_cons (pg_name nd rfl (.inl rfl)) (pgs_cons (pg_name nd rfl (.inl rfl)) pgs_nil))) rfl (run_nil ?_)
  have hss : h < (z.states.map encSt).length := by rw [List.length_map, hz.hs]; exact hh
  have hs5 : (z.states.map encSt).length ≤ 1000 := by rw [List.length_map, hz.hs]; omega
  have hcs : h < (z.cells.map encCell).length := by rw [List.length_map, hz.hc]; exact hh
  have hc5 : (z.cells.map encCell).length ≤ 1000 := by rw [List.length_map, hz.hc]; omega
  have hts : h < (z.told.map encTold).length := by rw [List.length_map, hz.ht]; exact hh
  have ht5 : (z.told.map encTold).length ≤ 1000 := by rw [List.length_map, hz.ht]; omega
  rw [stepS_eq hst]
  generalize afterS (rows.getD h []) z.cells h done now = r
  obtain ⟨r1, r2, r3⟩ := r
  dsimp only
  have fin : ∀ (cs : List Cell) (us : List (List (List Cell))), Dt.tup [.tup (cs.map encCell), .tup ((z.states.map encSt).set h (encSt r2)), .tup (us.map encTold)] = encSd ⟨cs, z.states.set h r2, us⟩ := fun cs us => by
    rw [set_map]
    rfl
  refine run_ifJ (k := !isNon (cellD r1)) ⟨F.M0, [some (encPlay rows), some (encSd z), some (hD h), some (encCells (match r1 with | some c => z.cells.set h c | none => z.cells)), some (.tup (z.states.map encSt)), some (.tup (z.told.map encTold)), some (encSt (some (done, now))), some (.str "sweep"), some (cellD r1), some (encSt r2), some (picD r3)], []⟩
    (evt_cmp opd_notN (ev_var 8 rfl) ev_non) (fun e => ?_) (fun e => run_nil ?_) ?_
  · cases r1 with
    | none => cases e
    | some c => exact run_set 3 nd (evq (ev_put (ev_var 3 rfl) (ev_var 3 rfl) (ev_var 2 rfl) (ev_var 2 rfl) (ev_var 8 rfl) hcs hc5) (congrArg Dt.tup (set_map z.cells encCell h c))) (run_nil rfl)
  · cases r1 with
    | none => rfl
    | some c => cases e
  refine run_ifJ (k := !isNon (picD r3)) ⟨F.M0, [some (encPlay rows), some (encSd z), some (hD h), some (encCells (match r1 with | some c => z.cells.set h c | none => z.cells)), some (.tup (z.states.map encSt)), some (.tup ((match r3 with | some p => z.told.set h (z.told.getD h [] ++ [p]) | none => z.told).map encTold)), some (encSt (some (done, now))), some (.str "sweep"), some (cellD r1), some (encSt r2), some (picD r3)], []⟩
    (evt_cmp opd_notN (ev_var 10 rfl) ev_non) (fun e => ?_) (fun e => run_nil ?_) ?_
  · cases r3 with
    | none => cases e
    | some p =>
      exact run_set 5 nd (evq (ev_put (ev_var 5 rfl) (ev_var 5 rfl) (ev_var 2 rfl) (ev_var 2 rfl) (evq (ev_bin (opd_catT (l := (z.told.getD h []).map encPic) (l' := [encPic p]) (by rw [List.length_map]; show _ + 1 ≤ 10000; omega)) (ev_ixT (ev_var 5 rfl) (ev_var 2 rfl) (at_map (f := encTold) (get_lt [] (by rw [hz.ht]; exact hh)))) (ev_tup (eva_cons (ev_var 10 rfl) eva_nil)))
        (show _ = encTold (z.told.getD h [] ++ [p]) by unfold encTold; rw [List.map_append] <;> rfl)) hts ht5) (congrArg Dt.tup (set_map z.told encTold h _))) (run_nil rfl)
  · cases r3 with
    | none => rfl
    | some c => cases e
  exact run_ret (ev_tup (eva_cons (ev_var 3 rfl) (eva_cons (ev_put (ev_var 4 rfl) (ev_var 4 rfl) (ev_var 2 rfl) (ev_var 2 rfl) (ev_var 9 rfl) hss hs5) (eva_cons (ev_var 5 rfl) eva_nil)))) (fin _ _)

end
end Bs
set_option Elab.async false
set_option linter.all false
set_option maxRecDepth 100000
set_option maxHeartbeats 4000000
namespace Bs
open PySem PySem.Spec PyProof.Rows L2
section
variable {P : Program} {w : World} {K : PySem.W.Frag} {mg : Str → Option Value} {base : Heap}

/-- the hands that can take a step -/
def movS (z : Sd) : List Nat := (List.range z.states.length).filter fun i => (z.states.getD i none).isSome

theorem ok__law_movers (T : Tx K mg) : Pf P w K mg base "_law_movers" 1 (spR K fun ds d => ∃ (z : Sd), ds = [encSd z] ∧ z.states.length ≤ 1000 ∧ d = .lst ((movS z).map hD)) := by
  obtain ⟨fd, D⟩ := T.d__law_movers
  have nd : (["_law_standing", "_law_me", "_law_state"] : List Str).Nodup := by decide +kernel
  refine pf_mk (N := ["_law_standing", "_law_me", "_law_state"]) (ps := ["_law_standing"]) D ⟨rfl, rfl, rfl, nd, rfl, by decide +kernel, by decide +kernel⟩ T.g__law_movers (fun _ _ _ _ _ _ us hl => match us, hl with | [_], _ => rfl)
    (fun ds d h => by
      obtain ⟨z, e, hz, e2⟩ := h
      subst e e2
      rfl) fun cdv A outer s H E hr F ds d h => ?_
  obtain ⟨z, e, hz, e2⟩ := h
  subst e e2
  exact run_ret (ev_lcP (own := [("_law_me", 1), ("_law_state", 2)]) (g := gTup K 2 (gNames [1, 2])) (is := [1, 2]) nd (evi_enumT T.n_enumerate (ev_ixT (l := [encCells z.cells, .tup (z.states.map encSt), .tup (z.told.map encTold)]) (ev_var 0 rfl) ev_int (atI_nat (j := 1) rfl))) (blkOk_by (N := ["_law_standing", "_law_me", "_law_state"]) (sc := (defScope Hd.z_law_movers)) (by decide +kernel))
    (fun _ _ _ _ _ => pg_tup rfl (pgs_cons (pg_name nd rfl (.inl rfl)) (pgs_cons (pg_name nd rfl (.inl rfl)) pgs_nil))) (by decide) (by rw [enumD_length, List.length_map]; omega) (fun i => (z.states.getD i none).isSome) hD (fun D i d nD hd => by
      obtain ⟨a, ha, rfl⟩ := enum_inv hd
      refine ⟨[_, _], tgt_tup rfl rfl, fun _ _ _ _ _ => evts_one (evt_cmp (opd_notNK (d := encSt a) (by
        rw [getD_of ha]
        cases a <;> rfl)) (ev_var 2 rfl) ev_non), fun _ _ _ _ _ _ => ev_var 1 rfl⟩) (by
      rw [enumD_length, List.length_map]
      rfl)) rfl

theorem ok__law_flag (T : Tx K mg) : Pf P w K mg base "_law_flag" 1 (spR K fun ds d => ∃ a b : Bool, ds = [.bl a, .bl b] ∧ d = .bl (decide (a = b))) := by
  obtain ⟨fd, D⟩ := T.d__law_flag
  have nd : (["_law_told_here", "_law_due"] : List Str).Nodup := by decide +kernel
  refine pf_mk (N := ["_law_told_here", "_law_due"]) (ps := ["_law_told_here", "_law_due"]) D ⟨rfl, rfl, rfl, nd, rfl, by decide +kernel, by decide +kernel⟩ T.g__law_flag (fun _ _ _ _ _ _ us hl => match us, hl with | [_, _], _ => rfl)
    (fun ds d h => by
      obtain ⟨a, b, e, e2⟩ := h
      subst e e2
      rfl) fun cdv A outer s H E hr F ds d h => ?_
  obtain ⟨a, b, e, e2⟩ := h
  subst e e2
  exact run_ret (ev_andT (ev_isi (k := true) (ev_var 0 rfl) rfl (by decide +kernel) T.n_isinstance T.n_bool bt_bool) (ev_one (ev_cmp opd_eqB (ev_var 0 rfl) (ev_var 1 rfl)))) rfl

/-- what _law_is compares: numbers, texts, tuples and lists of such -/
def isd : Nat → Dt → Bool
  | _, .int _ => true
  | _, .str _ => true
  | k + 1, .tup l => l.all (isd k) && decide (l.length ≤ 1000)
  | k + 1, .lst l => l.all (isd k) && decide (l.length ≤ 1000)
  | _, _ => false
theorem zip_inv {l : List Dt} {i : Nat} {d : Dt} (h : (zipD l l)[i]? = some d) : ∃ x, l[i]? = some x ∧ d = .tup [x, x] := by
  have hi := (List.getElem?_eq_some_iff.mp h).1
  rw [zipD_length, Nat.min_self] at hi
  have e : l[i]? = some l[i] := List.getElem?_eq_getElem hi
  exact ⟨_, e, Option.some.inj (h.symm.trans (zipD_get e e))⟩
abbrev spIs (K : PySem.W.Frag) (k : Nat) : Sp := spR K fun ds d => ∃ z, ds = [z, z] ∧ isd k z = true ∧ d = .bl true

theorem ok__law_is_step (T : Tx K mg) (k : Nat) (IH : ∀ j, k = j + 1 → Pf P w K mg base "_law_is" (j + 1) (spIs K j)) : Pf P w K mg base "_law_is" (k + 1) (spIs K k) := by
  obtain ⟨fd, D⟩ := T.d__law_is
  have nd : (["_law_told_here", "_law_due", "_law_one", "_law_two"] : List Str).Nodup := by decide +kernel
  refine pf_mk (N := ["_law_told_here", "_law_due", "_law_one", "_law_two"]) (ps := ["_law_told_here", "_law_due"]) D ⟨rfl, rfl, rfl, nd, rfl, by decide +kernel, by decide +kernel⟩ T.g__law_is (fun _ _ _ _ _ _ us hl => match us, hl with | [_, _], _ => rfl)
    (fun ds d h => by
      obtain ⟨z, e, hz, e2⟩ := h
      subst e e2
      rfl) fun cdv A outer s H E hr F ds d h => ?_
  obtain ⟨z, e, hz, e2⟩ := h
  subst e e2
  cases z with
  | non => cases k <;> cases hz
  | bl b => cases k <;> cases hz
  | play r => cases k <;> cases hz
  | box a => cases k <;> cases hz
  | ty n => cases k <;> cases hz
  | int i =>
    refine ite_never (evt_val (ev_isi2 (k1 := false) (k2 := false) (ev_var 1 rfl) rfl (by decide +kernel) (by decide +kernel) T.n_isinstance T.n_tuple bt_tuple T.n_list bt_list)) (run_nil ?_)
    exact run_ret (ev_and (k1 := true) (k2 := true) (ev_cmp (opd_eqB (i := false) (j := false)) (ev_isi (k := false) (ev_var 0 rfl) rfl (by decide +kernel) T.n_isinstance T.n_bool bt_bool) (ev_isi (k := false) (ev_var 1 rfl) rfl (by decide +kernel) T.n_isinstance T.n_bool bt_bool)) fun _ => ev_one (ev_cmp (opd_eqIK (decide_eq_true rfl)) (ev_var 0 rfl) (ev_var 1 rfl))) rfl
  | str i =>
    refine ite_never (evt_val (ev_isi2 (k1 := false) (k2 := false) (ev_var 1 rfl) rfl (by decide +kernel) (by decide +kernel) T.n_isinstance T.n_tuple bt_tuple T.n_list bt_list)) (run_nil ?_)
    exact run_ret (ev_and (k1 := true) (k2 := true) (ev_cmp (opd_eqB (i := false) (j := false)) (ev_isi (k := false) (ev_var 0 rfl) rfl (by decide +kernel) T.n_isinstance T.n_bool bt_bool) (ev_isi (k := false) (ev_var 1 rfl) rfl (by decide +kernel) T.n_isinstance T.n_bool bt_bool)) fun _ => ev_one (ev_cmp (opd_eqSK (decide_eq_true rfl)) (ev_var 0 rfl) (ev_var 1 rfl))) rfl
  | tup l =>
    cases k with
    | zero => cases hz
    | succ j =>
      have hz := Bool.and_eq_true_iff.mp (show (l.all (isd j) && decide (l.length ≤ 1000)) = true from hz)
      have hl := of_decide_eq_true hz.2
      refine ite_always (evt_val (ev_isi2 (k1 := true) (k2 := false) (ev_var 1 rfl) rfl (by decide +kernel) (by decide +kernel) T.n_isinstance T.n_tuple bt_tuple T.n_list bt_list)) ?_
      refine ite_never (EvW.t (evw_or (k1 := false) (k2 := false) (evt_cmp (opd_neB (i := true) (j := true)) (ev_isi (k := true) (ev_var 0 rfl) rfl (by decide +kernel) T.n_isinstance T.n_tuple bt_tuple) (ev_isi (k := true) (ev_var 1 rfl) rfl (by decide +kernel) T.n_isinstance T.n_tuple bt_tuple)) fun _ => evw_or1 (evt_not (k := true) (evt_val
        (ev_isi2 (k1 := true) (k2 := false) (ev_var 0 rfl) rfl (by decide +kernel) (by decide +kernel) T.n_isinstance T.n_tuple bt_tuple T.n_list bt_list))))) (run_nil ?_)
      refine run_ret (ev_and (k1 := true) (k2 := true) (ev_cmp (opd_eqIK (decide_eq_true rfl)) (ev_callB calld_lenT T.n_len bt_len (eva_cons (ev_var 0 rfl) eva_nil)) (ev_callB calld_lenT T.n_len bt_len (eva_cons (ev_var 1 rfl) eva_nil))) fun _ => ev_one (ev_callB (calld_allT (n := l.length) rfl) T.n_all bt_all (eva_cons
        (ev_lcM (own := [("_law_one", 2), ("_law_two", 3)]) (g := gTup K 2 (gNames [2, 3])) (is := [2, 3]) (f := fun _ => .bl true) nd (evi_zipT (ds := l) (ds' := l) T.n_zip (ev_var 0 rfl) (ev_var 1 rfl)) (blkOk_by (N := ["_law_told_here", "_law_due", "_law_one", "_law_two"]) (sc := (defScope Hd.z_law_is)) (by decide +kernel)) (fun _ _ _ _ _ => pg_tup rfl (pgs_cons (pg_name nd rfl (.inl rfl)) (pgs_cons (pg_name nd rfl (.inl rfl)) pgs_nil))) (by decide)
          (by rw [zipD_length, Nat.min_self]; omega) (fun D i d nD hd => by
            obtain ⟨x, hx, rfl⟩ := zip_inv hd
            exact ⟨[x, x], tgt_tup rfl rfl, fun _ _ _ _ _ => ev_call (IH j rfl) (hr.mono (by omega)) (eva_cons (ev_var 2 rfl) (eva_cons (ev_var 3 rfl) eva_nil)) ⟨x, rfl, List.all_eq_true.mp hz.1 x (List.mem_of_getElem? hx), rfl⟩⟩) (by
            rw [zipD_length, Nat.min_self]
            exact all_bl l.length)) eva_nil))) rfl
  | lst l =>
    cases k with
    | zero => cases hz
    | succ j =>
      have hz := Bool.and_eq_true_iff.mp (show (l.all (isd j) && decide (l.length ≤ 1000)) = true from hz)
      have hl := of_decide_eq_true hz.2
      refine ite_always (evt_val (ev_isi2 (k1 := false) (k2 := true) (ev_var 1 rfl) rfl (by decide +kernel) (by decide +kernel) T.n_isinstance T.n_tuple bt_tuple T.n_list bt_list)) ?_
      refine ite_never (EvW.t (evw_or (k1 := false) (k2 := false) (evt_cmp (opd_neB (i := false) (j := false)) (ev_isi (k := false) (ev_var 0 rfl) rfl (by decide +kernel) T.n_isinstance T.n_tuple bt_tuple) (ev_isi (k := false) (ev_var 1 rfl) rfl (by decide +kernel) T.n_isinstance T.n_tuple bt_tuple)) fun _ => evw_or1 (evt_not (k := true) (evt_val
        (ev_isi2 (k1 := false) (k2 := true) (ev_var 0 rfl) rfl (by decide +kernel) (by decide +kernel) T.n_isinstance T.n_tuple bt_tuple T.n_list bt_list))))) (run_nil ?_)
      refine run_ret (ev_and (k1 := true) (k2 := true) (ev_cmp (opd_eqIK (decide_eq_true rfl)) (ev_callB calld_lenL T.n_len bt_len (eva_cons (ev_var 0 rfl) eva_nil)) (ev_callB calld_lenL T.n_len bt_len (eva_cons (ev_var 1 rfl) eva_nil))) fun _ => ev_one (ev_callB (calld_allT (n := l.length) rfl) T.n_all bt_all (eva_cons
        (ev_lcM (own := [("_law_one", 2), ("_law_two", 3)]) (g := gTup K 2 (gNames [2, 3])) (is := [2, 3]) (f := fun _ => .bl true) nd (evi_zipL (ds := l) (ds' := l) T.n_zip (ev_var 0 rfl) (ev_var 1 rfl)) (blkOk_by (N := ["_law_told_here", "_law_due", "_law_one", "_law_two"]) (sc := (defScope Hd.z_law_is)) (by decide +kernel)) (fun _ _ _ _ _ => pg_tup rfl (pgs_cons (pg_name nd rfl (.inl rfl)) (pgs_cons (pg_name nd rfl (.inl rfl)) pgs_nil))) (by decide)
          (by rw [zipD_length, Nat.min_self]; omega) (fun D i d nD hd => by
            obtain ⟨x, hx, rfl⟩ := zip_inv hd
            exact ⟨[x, x], tgt_tup rfl rfl, fun _ _ _ _ _ => ev_call (IH j rfl) (hr.mono (by omega)) (eva_cons (ev_var 2 rfl) (eva_cons (ev_var 3 rfl) eva_nil)) ⟨x, rfl, List.all_eq_true.mp hz.1 x (List.mem_of_getElem? hx), rfl⟩⟩) (by
            rw [zipD_length, Nat.min_self]
            exact all_bl l.length)) eva_nil))) rfl
theorem ok__law_is (T : Tx K mg) : ∀ k : Nat, Pf P w K mg base "_law_is" (k + 1) (spIs K k)
  | 0 => ok__law_is_step T 0 fun j e => by cases e
  | k + 1 => ok__law_is_step T (k + 1) fun j e => by
    have e' : k = j := Nat.succ.inj e
    subst e'
    exact ok__law_is T k

end
end Bs
set_option Elab.async false
set_option linter.all false
set_option maxRecDepth 100000
set_option maxHeartbeats 4000000
namespace Bs
open PySem PySem.Spec PyProof.Rows L2
section
variable {P : Program} {w : World} {K : PySem.W.Frag} {mg : Str → Option Value} {base : Heap}

theorem okW_no {rows : List Bs.Row} {v : List Nat} {i : Nat} (hi : i < v.length) (e : stAt rows v i = none) : okW rows v = false := by
  cases q : okW rows v with
  | false => rfl
  | true =>
    obtain ⟨a, b, e2⟩ := okW_at q hi
    rw [e] at e2
    cases e2
theorem okW_yes {rows : List Bs.Row} {v : List Nat} (h : ∀ k, k < v.length → (stAt rows v k).isSome = true) : okW rows v = true := List.all_eq_true.mpr fun i hi => h i (List.mem_range.mp hi)
def lied (rows : List Bs.Row) (v : List Nat) (i : Nat) : Bool := (List.range i).any (liedAt rows v)
theorem lied_succ (rows : List Bs.Row) (v : List Nat) (i : Nat) : lied rows v (i + 1) = (lied rows v i || liedAt rows v i) := by
  unfold lied
  rw [List.range_succ, List.any_append]
  simp
section
variable {a b : Addr} {x y u : Bx}
theorem setB_a (h : a ≠ b) : setB [(a, x), (b, y)] a u = [(a, u), (b, y)] := by
  unfold setB
  simp [h.symm]
theorem setB_b (h : a ≠ b) : setB [(a, x), (b, y)] b u = [(a, x), (b, u)] := by
  unfold setB
  simp [h]
end
/-- the pictures from b on -/
def seenL (rows : List Bs.Row) (v : List Nat) (b n : Nat) : List Dt := (List.range (n + 1 - b)).map fun j => encPic (sAt rows v (b + j)).cells
theorem stands_drop (rows : List Bs.Row) (v : List Nat) (b n : Nat) : cutD (stands rows v n) (some ((b : Nat) : Int)) none = (List.range (n + 1 - b)).map fun j => encSd (sAt rows v (b + j)) := by
  rw [cut_from]
  unfold stands
  refine List.ext_getElem? fun i => ?_
  rw [List.getElem?_drop, List.getElem?_map, List.getElem?_map]
  by_cases h : i < n + 1 - b
  · rw [List.getElem?_range h, List.getElem?_range (by omega)] <;> rfl
  · rw [List.getElem?_eq_none (by rw [List.length_range]; omega), List.getElem?_eq_none (by rw [List.length_range]; omega)] <;> rfl
theorem seen_any (rows : List Bs.Row) (v : List Nat) (b n : Nat) (p : List Cell) : (!(seenL rows v b n).any fun z => eqv z (encPic p)) = (momAt rows v b n p).isNone := by
  unfold seenL momAt
  rw [List.any_map]
  generalize n + 1 - b = k
  have e : ((fun z => eqv z (encPic p)) ∘ fun j => encPic (sAt rows v (b + j)).cells) = fun j => decide ((sAt rows v (b + j)).cells = p) := by
    funext j
    exact eqv_pic _ _
  rw [e]
  cases q : (List.range k).any fun j => decide ((sAt rows v (b + j)).cells = p) with
  | true =>
    obtain ⟨j, hj, e2⟩ := List.any_eq_true.mp q
    cases q2 : (List.map (fun x => b + x) (List.range k)).find? fun m => decide ((sAt rows v m).cells = p) with
    | some m => rfl
    | none =>
      rw [List.find?_eq_none] at q2
      exact absurd e2 (q2 (b + j) (List.mem_map.mpr ⟨j, hj, rfl⟩))
  | false =>
    have q2 : (List.map (fun x => b + x) (List.range k)).find? (fun m => decide ((sAt rows v m).cells = p)) = none := by
      rw [List.find?_eq_none]
      intro x hx
      obtain ⟨j, hj, rfl⟩ := List.mem_map.mp hx
      have := List.any_eq_false.mp q j hj
      exact this
    rw [q2] <;> rfl
theorem shp_picD {d : Dt} (h : ∃ cs, d = encPic cs) : shp 4 d = true := by
  obtain ⟨cs, rfl⟩ := h
  exact shp_pic cs
theorem shps_all : ∀ (n : Nat) (l : List Dt), (∀ d ∈ l, shp n d = true) → shps n l = true
  | _, [], _ => rfl
  | n, d :: l, h => by
    show (shp n d && shps n l) = true
    rw [h d List.mem_cons_self, shps_all n l fun x hx => h x (List.mem_cons_of_mem _ hx)] <;> rfl
theorem hu65_of {n : Nat} {A : Around} (hr : Room n A) : A.units + 65 < cLine := by
  have := hr.un
  omega
theorem shp_pic5 (cs : List Cell) : shp 5 (encPic cs) = true := shps_all 4 _ fun d hd => by
  obtain ⟨c, _, rfl⟩ := List.mem_map.mp hd
  rfl
theorem seen_shp (rows : List Bs.Row) (v : List Nat) (b n : Nat) : shp 5 (.lst (seenL rows v b n)) = true := shps_all 4 _ fun d hd => by
  obtain ⟨j, _, rfl⟩ := List.mem_map.mp hd
  exact shp_pic _

theorem ok__law_wrong (T : Tx K mg) : Pf P w K mg base "_law_wrong" 4 (spR K fun ds d => ∃ (rows : List Bs.Row) (t : Bool) (v : List Nat), ds = [encPlay rows, seqD t v] ∧ PlayOk rows ∧ InW rows v ∧ v.length ≤ 1000 ∧ d = (if okW rows v then .bl (wrongW rows v) else .non)) := by
  obtain ⟨fd, D⟩ := T.d__law_wrong
  have nd : (["_law_play", "_law_weaving", "_law_stood", "_law_begins", "_law_has_lied", "_law_at", "_law_me", "_law_here", "_law_state", "_law_later", "_law_picture", "_law_seen", "_law_cell", "_law_one"] : List Str).Nodup := by decide +kernel
  refine pf_mk (N := ["_law_play", "_law_weaving", "_law_stood", "_law_begins", "_law_has_lied", "_law_at", "_law_me", "_law_here", "_law_state", "_law_later", "_law_picture", "_law_seen", "_law_cell", "_law_one"]) (ps := ["_law_play", "_law_weaving"]) D ⟨rfl, rfl, rfl, nd, rfl, by decide +kernel, by decide +kernel⟩ T.g__law_wrong (fun _ _ _ _ _ _ us hl => match us, hl with | [_, _], _ => rfl)
    (fun ds d h => by
      obtain ⟨rows, t, v, e, hp, hw, hl, e2⟩ := h
      subst e e2
      rfl) fun cdv A outer s H E hr F ds d h => ?_
  obtain ⟨rows, t, v, e, hp, hw, hl, e2⟩ := h
  subst e e2
  have h2 := hp.n1
  refine run_newL 2 nd (eva_cons (ev_call (ok__law_begun T) (hr.mono (by decide)) (eva_cons (ev_var 0 rfl) eva_nil) ⟨rows, rfl, hp, rfl⟩) eva_nil) fun ls ns => ?_
  refine run_newD 3 nd fun lb nb => ?_
  have ebs : lb ≠ ls := fun z => nb (by rw [z]; exact List.mem_cons_self)
  refine run_set 4 nd ev_bl ?_
  refine run_for (ys := enumD (v.map hD)) (is := [5, 6]) (g := gTup K 2 (gNames [5, 6])) .never (evi_enumS T.n_enumerate (ev_var 1 rfl)) (pg_tup rfl (pgs_cons (pg_name nd rfl (.inl rfl)) (pgs_cons (pg_name nd rfl (.inl rfl)) pgs_nil)))
    (fun i E' => (∀ k, k < i → (stAt rows v k).isSome = true) ∧ ∃ a5 a6 a7 a8 a9 a10 a11, E' = ⟨lb :: ls :: F.M0, [some (encPlay rows), some (seqD t v), some (.box ls), some (.box lb), some (.bl (lied rows v i)), a5, a6, a7, a8, a9, a10, a11, none, none], [(lb, .d (begL rows v i)), (ls, .l (stands rows v i))]⟩)
    ⟨fun k hk => absurd hk (Nat.not_lt_zero k), none, none, none, none, none, none, none, by rw [stands_zero] <;> rfl⟩ (fun i E' ⟨_, a5, a6, a7, a8, a9, a10, a11, e⟩ => by
      subst e
      exact ⟨rfl, rfl⟩) (fun F1 sub i d E' hd ⟨hno, a5, a6, a7, a8, a9, a10, a11, e⟩ => ?_) (fun E' ⟨hno, a5, a6, a7, a8, a9, a10, a11, e⟩ => ?_)
  · subst e
    obtain ⟨h, hx, rfl⟩ := enum_inv hd
    have hh : h < rows.length := hw h (List.mem_of_getElem? hx)
    have hi := (List.getElem?_eq_some_iff.mp hx).1
    have zs := sAt_ok h2 v i
    have zs' := sAt_ok h2 v (i + 1)
    refine ⟨[.int ((i : Nat) : Int), hD h], tgt_tup rfl rfl, ?_⟩
    refine run_set 7 nd (ev_ixB (ev_var 2 rfl) (ev_neg ev_int) (List.mem_cons_of_mem _ List.mem_cons_self) (stands_last rows v i)) ?_
    cases es : stAt rows v i with
    | none =>
      have hst := stAt_get h2 hw hx es
      refine ite_always (evt_cmp (opd_isNK (d := encSt none) rfl) (ev_ixT (ev_ixT (ev_var 7 rfl) ev_int (atI_nat (j := 1) rfl)) (ev_var 6 rfl) (at_map hst)) ev_non) (run_ret ev_non ?_)
      show Dt.non = _
      rw [okW_no hi es] <;> rfl
    | some pr =>
    obtain ⟨done, now⟩ := pr
    have hst := stAt_get h2 hw hx es
    obtain ⟨x, hdx⟩ := zs.deed hst
    have eF : isFresh rows v i = now.isEmpty := by
      unfold isFresh
      rw [es]
    have lb1 := begL_len rows v i
    refine ite_never (evt_cmp (opd_isNK (d := encSt (some (done, now))) rfl) (ev_ixT (ev_ixT (ev_var 7 rfl) ev_int (atI_nat (j := 1) rfl)) (ev_var 6 rfl) (at_map hst)) ev_non) (run_nil ?_)
    refine run_set 8 nd (ev_ixT (ev_ixT (ev_var 7 rfl) ev_int (atI_nat (j := 1) rfl)) (ev_var 6 rfl) (at_map hst)) ?_
    refine run_ifJ (k := (true && (now.isEmpty && true))) ⟨lb :: ls :: F.M0, [some (encPlay rows), some (seqD t v), some (.box ls), some (.box lb), some (.bl (lied rows v i)), some (.int ((i : Nat) : Int)), some (hD h), some (encSd (sAt rows v i)), some (encSt (some (done, now))), a9, a10, a11, none, none], [(lb, .d (begL rows v (i + 1))), (ls, .l (stands rows v i))]⟩
      (EvW.t (evw_and (k1 := true) (evt_cmp (opd_isNK (d := .non) rfl) (ev_ixT (ev_var 8 rfl) ev_int (atI_nat (j := 1) rfl)) ev_non) fun _ => evw_and (k1 := now.isEmpty) (k2 := true) (evt_cmp (opd_eqK hr.units 4 (shp_cells now) rfl (eqv_nil now)) (ev_ixT (ev_var 8 rfl) ev_int (atI_nat (j := 3) rfl)) (ev_tup eva_nil)) fun _ => evw_and1
        (evt_cmp (opd_isNK (d := .non) rfl) (ev_ixT (ev_var 8 rfl) ev_int (atI_nat (j := 4) rfl)) ev_non))) (fun e => ?_) (fun e => run_nil ?_) ?_
    · have e1 : begL rows v (i + 1) = putD (begL rows v i) ((h : Nat) : Int) ((i : Nat) : Int) := by
        show (if isFresh rows v i then _ else _) = _
        rw [eF, if_pos (by simpa using e), getD_of hx]
      rw [e1]
      refine run_setD (hu_of hr) (ev_var 5 rfl) (ev_var 3 rfl) (ev_var 6 rfl) List.mem_cons_self (by omega) (run_nil ?_)
      rw [setB_a ebs] <;> rfl
    · have e1 : begL rows v (i + 1) = begL rows v i := by
        show (if isFresh rows v i then _ else _) = _
        rw [eF, if_neg (by simpa using e)]
      rw [e1] <;> rfl
    refine run_set 9 nd (evq (ev_call (ok__law_behind T) (hr.mono (by decide)) (eva_cons (ev_var 0 rfl) (eva_cons (ev_var 7 rfl) (eva_cons (ev_var 6 rfl) eva_nil))) ⟨rows, _, h, done, now, rfl, hp, zs, hst, rfl⟩) (congrArg encSd (sAt_succ hx).symm)) ?_
    refine run_expr (ev_append (ev_var 2 rfl) (ev_var 9 rfl) (List.mem_cons_of_mem _ List.mem_cons_self) (List.mem_cons_of_mem _ List.mem_cons_self) (by rw [stands_len]; omega)) ?_
    refine run_set 10 nd ev_non ?_
    have ep : picAt rows v i = (afterS (rows.getD h []) (sAt rows v i).cells h done now).2.2 := by
      unfold picAt
      rw [es, getD_of hx]
    have eS : sAt rows v (i + 1) = _ := (sAt_succ hx).trans (stepS_eq hst)
    have ta := get_lt [] (show h < (sAt rows v i).told.length by rw [zs.ht]; exact hh)
    have tb := get_lt [] (show h < (sAt rows v (i + 1)).told.length by rw [zs'.ht]; exact hh)
    have sb := get_lt none (show h < (sAt rows v (i + 1)).states.length by rw [zs'.hs]; exact hh)
    have eM : setB [(lb, Bx.d (begL rows v (i + 1))), (ls, Bx.l (stands rows v i))] ls (Bx.l (stands rows v i ++ [encSd (sAt rows v (i + 1))])) = [(lb, .d (begL rows v (i + 1))), (ls, .l (stands rows v (i + 1)))] := by
      rw [setB_b ebs, sAt_succ hx, stands_succ hx]
    have nxt : ∀ Z : Prop, (∀ k, k < i → (stAt rows v k).isSome = true) → ∀ k, k < i + 1 → (stAt rows v k).isSome = true := fun _ hno k hk => by
      by_cases z : k = i
      · rw [z, es] <;> rfl
      · exact hno k (by omega)
    have GT : ∀ kk, decide ((((((sAt rows v i).told.getD h []).map encPic).length : Nat) : Int) < (((((sAt rows v (i + 1)).told.getD h []).map encPic).length : Nat) : Int)) = kk → OpD (Cb P w K mg base ["_law_play", "_law_weaving", "_law_stood", "_law_begins", "_law_has_lied", "_law_at", "_law_me", "_law_here", "_law_state", "_law_later", "_law_picture", "_law_seen", "_law_cell", "_law_one"] "_law_wrong" (defScope Hd.z_law_wrong) (He.ga K "_law_wrong") cdv A outer s H E) (compareOp .Gt) (.int (((((sAt rows v (i + 1)).told.getD h []).map encPic).length : Nat) : Int)) (.int (((((sAt rows v i).told.getD h []).map encPic).length : Nat) : Int)) (.bl kk) := fun kk hk => opd_gtK hk
    refine run_ifJ (k := (picAt rows v i).isSome) ⟨lb :: ls :: F.M0, [some (encPlay rows), some (seqD t v), some (.box ls), some (.box lb), some (.bl (lied rows v i)), some (.int ((i : Nat) : Int)), some (hD h), some (encSd (sAt rows v i)), some (encSt (some (done, now))), some (encSd (sAt rows v (i + 1))), some (picD (picAt rows v i)), a11, none, none], [(lb, .d (begL rows v (i + 1))), (ls, .l (stands rows v (i + 1)))]⟩
      (evt_cmp (GT _ ?gt) (ev_callB calld_lenT T.n_len bt_len (eva_cons (ev_ixT (ev_ixT (ev_var 9 rfl) ev_int (atI_nat (j := 2) rfl)) (ev_var 6 rfl) (at_map (f := encTold) tb)) eva_nil))
      (ev_callB calld_lenT T.n_len bt_len (eva_cons (ev_ixT (ev_ixT (ev_var 7 rfl) ev_int (atI_nat (j := 2) rfl)) (ev_var 6 rfl) (at_map (f := encTold) ta)) eva_nil))) (fun e => ?_) (fun e => ?_) ?_
    case gt =>
      rw [List.length_map, List.length_map, ep]
      rw [eS]
      generalize afterS (rows.getD h []) (sAt rows v i).cells h done now = r
      obtain ⟨r1, r2, r3⟩ := r
      cases r3 with
      | none => exact decide_eq_false (by dsimp only; omega)
      | some p =>
        dsimp only
        rw [getD_set_self (by rw [zs.ht]; exact hh), List.length_append]
        exact decide_eq_true (by show ((_ : Nat) : Int) < ((_ + 1 : Nat) : Int); omega)
    · cases ep2 : picAt rows v i with
      | none =>
        rw [ep2] at e
        cases e
      | some p =>
        have et : (sAt rows v (i + 1)).told.getD h [] = (sAt rows v i).told.getD h [] ++ [p] := by
          rw [ep] at ep2
          rw [eS]
          dsimp only
          rw [ep2]
          exact getD_set_self (by rw [zs.ht]; exact hh)
        rw [et] at tb
        refine run_set 10 nd (ev_ixT (ev_ixT (ev_ixT (ev_var 9 rfl) ev_int (atI_nat (j := 2) rfl)) (ev_var 6 rfl) (at_map (f := encTold) tb)) (ev_neg ev_int) (by
          rw [List.map_append]
          exact at_neg _ (encPic p))) (run_nil ?_)
        show En.mk _ _ (setB _ _ _) = _
        rw [eM] <;> rfl
    · cases ep2 : picAt rows v i with
      | some p =>
        rw [ep2] at e
        cases e
      | none =>
        have fin : (⟨lb :: ls :: F.M0, [some (encPlay rows), some (seqD t v), some (.box ls), some (.box lb), some (.bl (lied rows v i)), some (.int ((i : Nat) : Int)), some (hD h), some (encSd (sAt rows v i)), some (encSt (some (done, now))), some (encSd (sAt rows v (i + 1))), some .non, a11, none, none], setB [(lb, Bx.d (begL rows v (i + 1))), (ls, Bx.l (stands rows v i))] ls (Bx.l (stands rows v i ++ [encSd (sAt rows v (i + 1))]))⟩ : En) = ⟨lb :: ls :: F.M0, [some (encPlay rows), some (seqD t v), some (.box ls), some (.box lb), some (.bl (lied rows v i)), some (.int ((i : Nat) : Int)), some (hD h), some (encSd (sAt rows v i)), some (encSt (some (done, now))), some (encSd (sAt rows v (i + 1))), some (picD none), a11, none, none], [(lb, .d (begL rows v (i + 1))), (ls, .l (stands rows v (i + 1)))]⟩ := by rw [eM] <;> rfl
        generalize hq : (sAt rows v (i + 1)).states.getD h none = q at sb
        cases q with
        | none => exact ite_never (EvW.t (evw_and (k1 := false) (k2 := false) (evt_cmp (opd_notNK (d := encSt none) rfl) (ev_ixT (ev_ixT (ev_var 9 rfl) ev_int (atI_nat (j := 1) rfl)) (ev_var 6 rfl) (at_map (f := encSt) sb)) ev_non) fun e => Bool.noConfusion e)) (run_nil (run_nil fin))
        | some q =>
          obtain ⟨dn, nw⟩ := q
          exact ite_never (EvW.t (evw_and (k1 := true) (k2 := false) (evt_cmp (opd_notNK (d := encSt (some (dn, nw))) rfl) (ev_ixT (ev_ixT (ev_var 9 rfl) ev_int (atI_nat (j := 1) rfl)) (ev_var 6 rfl) (at_map (f := encSt) sb)) ev_non) fun _ => evw_and (k1 := false) (k2 := false) (evt_cmp (opd_notNK (d := .non) rfl) (ev_ixT (ev_ixT (ev_ixT (ev_var 9 rfl) ev_int (atI_nat (j := 1) rfl)) (ev_var 6 rfl) (at_map (f := encSt) sb)) ev_int (atI_nat (j := 4) rfl)) ev_non) fun e => Bool.noConfusion e)) (run_nil (run_nil fin))
    cases ep2 : picAt rows v i with
    | none =>
      have el : lied rows v (i + 1) = lied rows v i := by
        rw [lied_succ]
        unfold liedAt
        rw [ep2]
        simp
      exact ite_never (evt_cmp (opd_notNK (d := picD none) rfl) (ev_var 10 rfl) ev_non) (run_nil (run_nil ⟨nxt True hno, some (.int ((i : Nat) : Int)), some (hD h), some (encSd (sAt rows v i)), some (encSt (some (done, now))), some (encSd (sAt rows v (i + 1))), some (picD none), a11, by rw [el] <;> rfl⟩))
    | some p =>
      obtain ⟨hb, hbL, hbP⟩ := look_end h2 hw hi ep2
      rw [getD_of hx] at hbL
      have el : lied rows v (i + 1) = (lied rows v i || (!(seenL rows v (bAt rows v i) (i + 1)).any fun z => eqv z (encPic p))) := by
        rw [lied_succ, seen_any]
        unfold liedAt
        rw [ep2]
      refine ite_always (evt_cmp (opd_notNK (d := picD (some p)) rfl) (ev_var 10 rfl) ev_non) ?_
      refine run_setLcM 11 nd (own := [("_law_one", 13)]) (g := gName 13) (is := [13]) (l := seenL rows v (bAt rows v i) (i + 1)) (evi_lst (ev_slB (ev_var 2 rfl) (evo_some (ev_ixD (hu_of hr) (ev_var 3 rfl) (ev_var 6 rfl) List.mem_cons_self hbL)) evo_none (List.mem_cons_of_mem _ List.mem_cons_self))) (blkOk_by (N := ["_law_play", "_law_weaving", "_law_stood", "_law_begins", "_law_has_lied", "_law_at", "_law_me", "_law_here", "_law_state", "_law_later", "_law_picture", "_law_seen", "_law_cell", "_law_one"]) (sc := (defScope Hd.z_law_wrong)) (by decide +kernel)) (fun _ _ _ _ _ => pg_name nd rfl (.inl rfl)) (by decide)
        (by rw [stands_drop, List.length_map, List.length_range]; omega) (fun j => encPic (sAt rows v (bAt rows v i + j)).cells) (fun D j d nD hd => ?_) ?_ ?_
      · rw [stands_drop] at hd
        obtain ⟨m, hm, rfl⟩ := map_get hd
        have hjl := (List.getElem?_eq_some_iff.mp hm).1
        rw [List.length_range] at hjl
        rw [List.getElem?_range hjl] at hm
        obtain rfl := Option.some.inj hm
        generalize hcs : (sAt rows v (bAt rows v i + j)) = zz
        have hcl : zz.cells.length ≤ 1000 := by
          have h5 := hp.n5
          rw [← hcs, (sAt_ok h2 v _).hc]
          omega
        refine ⟨[encSd zz], tgt_name, fun _ _ _ _ _ => ev_callTy (calld_tupL (l := zz.cells.map encPE)) T.n_tuple bt_tuple (eva_cons (ev_lcM (own := [("_law_cell", 12)]) (g := gName 12) (is := [12]) (f := fun i => encPE (zz.cells.getD i (0, 0))) nd (evi_tup (ds := zz.cells.map encCell) (ev_ixT (ev_var 13 rfl) ev_int (atI_nat (j := 0) rfl))) (blkOk_by (by kernel_rfl)) (fun _ _ _ _ _ => pg_name nd rfl (.inl rfl)) (by decide)
          (by rw [List.length_map]; omega) (fun D i d nD hd => by
            obtain ⟨x, hx, rfl⟩ := map_get hd
            refine ⟨[encCell x], tgt_name, fun _ _ _ _ _ => evq (ev_slT (ev_var 12 rfl) evo_none (evo_some ev_int)) ?_⟩
            rw [getD_of hx]
            exact congrArg Dt.tup (cut_to [.int x.1, .int x.2, .non] 2)) (by
            rw [List.length_map]
            exact range_map zz.cells encPE (0, 0))) eva_nil)⟩
      · rw [stands_drop, List.length_map, List.length_range]
        rfl
      · refine run_set 4 nd (evq (ev_or (ev_var 4 rfl) fun _ => ev_one (ev_cmp (opd_notInD (hu65_of hr) 5 (shp_pic5 p) (seen_shp rows v _ _)) (ev_var 10 rfl) (ev_var 11 rfl))) (congrArg Dt.bl el.symm)) (run_nil (run_nil ⟨nxt True hno, some (.int ((i : Nat) : Int)), some (hD h), some (encSd (sAt rows v i)), some (encSt (some (done, now))), some (encSd (sAt rows v (i + 1))), some (picD (some p)), some (.lst (seenL rows v (bAt rows v i) (i + 1))), rfl⟩))
  · subst e
    rw [enumD_length, List.length_map] at hno ⊢
    refine run_ret (ev_var 4 rfl) ?_
    show Dt.bl (lied rows v v.length) = _
    rw [okW_yes hno] <;> rfl

end
end Bs
set_option Elab.async false
set_option linter.all false
set_option maxRecDepth 100000
set_option maxHeartbeats 4000000
namespace Bs
open PySem PySem.Spec PyProof.Rows L2
section
variable {P : Program} {w : World} {K : PySem.W.Frag} {mg : Str → Option Value} {base : Heap}

theorem bt_ValueError : bootBuiltins "ValueError" = some (.type "ValueError") := by decide +kernel
theorem opd_gw {X : Cx} {rows : List Bs.Row} {r : List Nat} : OpD X (compareOp .Is) (if okW rows r then .bl (wrongW rows r) else .non) (.bl true) (.bl (gw rows r)) := by
  unfold gw
  cases okW rows r with
  | false => exact opd_nonB
  | true =>
    cases wrongW rows r with
    | true => exact opd_isB
    | false => exact opd_isB
/-- the steps that can be left out -/
def canL (rows : List Bs.Row) (r : List Nat) : List Nat := (List.range r.length).filter fun j => gw rows (outW r j)
theorem canL_one (rows : List Bs.Row) (r : List Nat) : oneW rows r = (canL rows r).head?.map (outW r) := by
  unfold oneW canL
  rw [List.find?_map, List.head?_filter]
  rfl
theorem canL_len (rows : List Bs.Row) (r : List Nat) : (canL rows r).length ≤ r.length := Nat.le_trans (List.length_filter_le _ _) (by rw [List.length_range]; exact Nat.le_refl _)

theorem ok__law_shrunk (T : Tx K mg) : Pf P w K mg base "_law_shrunk" 5 (spR K fun ds d => ∃ (rows : List Bs.Row) (t : Bool) (v : List Nat), ds = [encPlay rows, seqD t v] ∧ PlayOk rows ∧ InW rows v ∧ v.length ≤ 1000 ∧ d = .tup ((shrW rows v.length v).map hD)) := by
  obtain ⟨fd, D⟩ := T.d__law_shrunk
  have nd : (["_law_play", "_law_weaving", "_law_here", "_law_turn", "_law_some", "_law_at"] : List Str).Nodup := by decide +kernel
  refine pf_mk (N := ["_law_play", "_law_weaving", "_law_here", "_law_turn", "_law_some", "_law_at"]) (ps := ["_law_play", "_law_weaving"]) D ⟨rfl, rfl, rfl, nd, rfl, by decide +kernel, by decide +kernel⟩ T.g__law_shrunk (fun _ _ _ _ _ _ us hl => match us, hl with | [_, _], _ => rfl)
    (fun ds d h => by
      obtain ⟨rows, t, v, e, hp, hw, hl, e2⟩ := h
      subst e e2
      rfl) fun cdv A outer s H E hr F ds d h => ?_
  obtain ⟨rows, t, v, e, hp, hw, hl, e2⟩ := h
  subst e e2
  refine run_set 2 nd (ev_callTy calld_tupS T.n_tuple bt_tuple (eva_cons (ev_var 1 rfl) eva_nil)) ?_
  refine run_for (ys := intsD v.length) (is := [3]) (g := gName 3) .never (evi_range T.n_range (ev_callB calld_lenS T.n_len bt_len (eva_cons (ev_var 1 rfl) eva_nil)) (by omega)) (pg_name nd rfl (.inl rfl))
    (fun i E' => ∃ r a3 a4, r.length + i = v.length ∧ InW rows r ∧ shrW rows r.length r = shrW rows v.length v ∧ E' = ⟨F.M0, [some (encPlay rows), some (seqD t v), some (.tup (r.map hD)), a3, a4, none], []⟩) ⟨v, none, none, rfl, hw, rfl, rfl⟩ (fun i E' ⟨r, a3, a4, _, _, _, e⟩ => by
      subst e
      exact ⟨rfl, rfl⟩) (fun F1 sub i d E' hd ⟨r, a3, a4, hr1, hr2, hs, e⟩ => ?_) (fun E' ⟨r, a3, a4, hr1, hr2, hs, e⟩ => ?_)
  · subst e
    have hi := (List.getElem?_eq_some_iff.mp hd).1
    rw [intsD_length] at hi
    refine ⟨[d], tgt_name, ?_⟩
    refine run_setLcP 4 nd (own := [("_law_at", 5)]) (g := gName 5) (is := [5]) (l := (canL rows r).map hD) (evi_range T.n_range (evq (ev_callB (calld_lenT (l := r.map hD)) T.n_len bt_len (eva_cons (ev_var 2 rfl) eva_nil)) (by rw [List.length_map])) (by omega)) (blkOk_by (N := ["_law_play", "_law_weaving", "_law_here", "_law_turn", "_law_some", "_law_at"]) (sc := (defScope Hd.z_law_shrunk)) (by decide +kernel)) (fun _ _ _ _ _ => pg_name nd rfl (.inl rfl)) (by decide)
      (by rw [intsD_length]; omega) (fun j => gw rows (outW r j)) hD (fun D j d nD hd => ?_) ?_ ?_
    · have hj := (List.getElem?_eq_some_iff.mp hd).1
      rw [intsD_length] at hj
      obtain rfl := Option.some.inj ((intsD_get hj).symm.trans hd)
      have ho := outW_len hj
      refine ⟨[hD j], tgt_name, fun _ _ _ _ _ => evts_one (evt_cmp opd_gw (ev_call (ok__law_wrong T) (hr.mono (by decide)) (eva_cons (ev_var 0 rfl) (eva_cons (evq (ev_bin (opd_catT (by
        rw [cut_to, show ((j : Nat) : Int) + 1 = ((j + 1 : Nat) : Int) by omega, cut_from, List.length_take, List.length_drop, List.length_map]
        omega)) (ev_slT (ev_var 2 rfl) evo_none (evo_some (ev_var 5 rfl))) (ev_slT (ev_var 2 rfl) (evo_some (ev_bin opd_add (ev_var 5 rfl) ev_int)) evo_none)) (congrArg Dt.tup (cut_out r j))) eva_nil)) ⟨rows, true, outW r j, rfl, hp, outW_in hr2 j, by omega, rfl⟩) ev_bl), fun _ _ _ _ _ _ => ev_var 5 rfl⟩
    · rw [intsD_length]
      rfl
    have hcl := canL_len rows r
    have one := canL_one rows r
    cases hc : canL rows r with
    | nil =>
      rw [hc] at one
      refine ite_always (evt_cmp (opd_eqIK (j := 0) rfl) (ev_callB (calld_lenL (l := [])) T.n_len bt_len (eva_cons (ev_var 4 rfl) eva_nil)) ev_int) (run_ret (ev_var 2 rfl) ?_)
      rw [← hs, shrW_none one] <;> rfl
    | cons j rest =>
      rw [hc] at one
      have hj : j < r.length := by
        have : j ∈ canL rows r := by
          rw [hc]
          exact List.mem_cons_self
        exact List.mem_range.mp (List.mem_filter.mp this).1
      have ho := outW_len hj
      refine ite_never (evt_cmp (opd_eqIK (j := 0) (decide_eq_false (by
        rw [List.length_map]
        show ¬ (((rest.length + 1 : Nat) : Int) = 0)
        omega))) (ev_callB (calld_lenL (l := (j :: rest).map hD)) T.n_len bt_len (eva_cons (ev_var 4 rfl) eva_nil)) ev_int) (run_nil ?_)
      refine run_set 2 nd (evq (ev_bin (opd_catT (by
        rw [cut_to, show ((j : Nat) : Int) + 1 = ((j + 1 : Nat) : Int) by omega, cut_from, List.length_take, List.length_drop, List.length_map]
        omega)) (ev_slT (ev_var 2 rfl) evo_none (evo_some (ev_ixL (ev_var 4 rfl) ev_int (atI_nat (j := 0) rfl)))) (ev_slT (ev_var 2 rfl) (evo_some (ev_bin opd_add (ev_ixL (ev_var 4 rfl) ev_int (atI_nat (j := 0) rfl)) ev_int)) evo_none)) (congrArg Dt.tup (cut_out r j))) (run_nil ?_)
      exact ⟨outW r j, some d, some (.lst ((j :: rest).map hD)), by omega, outW_in hr2 j, (shrW_more rfl one).1.symm.trans hs, rfl⟩
  · subst e
    rw [intsD_length] at hr1
    have hr0 : r = [] := List.eq_nil_of_length_eq_zero (by omega)
    subst hr0
    rw [← hs]
    exact run_ret (ev_var 2 rfl) rfl

theorem ok__law_told (T : Tx K mg) : Pf P w K mg base "_law_told" 12 (spR K fun ds d => ∃ (rows : List Bs.Row) (t : Bool) (v : List Nat), ds = [encPlay rows, seqD t v] ∧ PlayOk rows ∧ InW rows v ∧ v.length ≤ 1000 ∧ okW rows v = true ∧ d = (if wrongW rows v then .tup ((shrW rows v.length v).map hD) else .str "notwrong")) := by
  obtain ⟨fd, D⟩ := T.d__law_told
  have nd : (["_law_play", "_law_weaving", "_law_found", "e"] : List Str).Nodup := by decide +kernel
  refine pf_mk (N := ["_law_play", "_law_weaving", "_law_found", "e"]) (ps := ["_law_play", "_law_weaving"]) D ⟨rfl, rfl, rfl, nd, rfl, by decide +kernel, by decide +kernel⟩ T.g__law_told (fun _ _ _ _ _ _ us hl => match us, hl with | [_, _], _ => rfl)
    (fun ds d h => by
      obtain ⟨rows, t, v, e, hp, hw, hl, hok, e2⟩ := h
      subst e e2
      rfl) fun cdv A outer s H E hr F ds d h => ?_
  obtain ⟨rows, t, v, e, hp, hw, hl, hok, e2⟩ := h
  subst e e2
  refine run_set 2 nd ev_str ?_
  cases hwr : wrongW rows v with
  | true =>
    refine run_try_ok (run_set 2 nd (ev_call (ok_shrunk T) (hr.mono (by decide)) (eva_cons (ev_var 0 rfl) (eva_cons (ev_var 1 rfl) eva_nil)) ⟨rows, t, v, rfl, hp, hw, hl, hok, hwr, rfl⟩) (run_nil ?_))
    exact run_ret (ev_var 2 rfl) rfl
  | false =>
    refine run_try_as (i := 3) (j := 2) nd (okX_shrunk T) (hr.mono (by decide)) rfl rfl ⟨rfl, by decide, .inl T.g_PictureError⟩ T.exm_NotWrong rfl rfl (fun pn xe => eva_cons (ev_var 0 rfl) (eva_cons (ev_var 1 rfl) eva_nil)) ⟨rows, t, v, rfl, hp, hw, hl, hok, hwr⟩ (fun a oe d pn hz hf hd => ?_) rfl (.inl rfl) (.inl rfl)
    subst hd
    refine ite_always (EvW.t (evw_and (k1 := true) (k2 := true) (evt_val (ev_isEg (i := 3) T.excC hz hf rfl rfl (.inl rfl) (by decide) (by decide) T.g_NotWrong rfl (by decide) (of_decide_eq_true (all_at T.e (i := 17) rfl)) T.n_isinstance rfl)) fun _ => evw_and1
      (evt_val (ev_isEb (i := 3) T.excC hz hf rfl rfl (.inl rfl) (by decide) (by decide) T.n_ValueError bt_ValueError rfl (by decide) (by decide) (of_decide_eq_true (all_at T.e (i := 18) rfl)) T.n_isinstance rfl)))) (run_set 2 nd ev_str (run_nil (run_nil ?_)))
    exact run_ret (ev_var 2 rfl) rfl

end
end Bs
set_option Elab.async false
set_option linter.all false
set_option maxRecDepth 100000
set_option maxHeartbeats 4000000
namespace Bs
open PySem PySem.Spec PyProof.Rows L2
section
variable {P : Program} {w : World} {K : PySem.W.Frag} {mg : Str → Option Value} {base : Heap}

/-- what the law draws from: the script's numbers, how many are used, what is cut up, the seed, how many were made -/
structure Hs5 where
  cs : List Int
  pos : Nat
  q : Int
  s : Int
  k : Int
def encH (h : Hs5) : List Dt := [.lst (h.cs.map Dt.int), .int ((h.pos : Nat) : Int), .int h.q, .int h.s, .int h.k]
/-- a number of the script is taken up -/
def takeH (h : Hs5) : Hs5 := if h.q = 0 ∧ h.pos < h.cs.length then ⟨h.cs, h.pos + 1, if 10 ^ 18 ≤ h.cs.getD h.pos 0 then h.cs.getD h.pos 0 else h.q, (h.s * 69621 + h.cs.getD h.pos 0 + 11) % 2147483629, h.k⟩ else h
def mk1 (h : Hs5) : Int := ((h.s + 7919 * (h.k + 1)) * 48271) % 2147483647
def mk2 (h : Hs5) : Int := (mk1 h * (mk1 h / 1009 + 69621)) % 2147483647
def mk3 (h : Hs5) : Int := (mk2 h * (mk2 h / 2003 + 40692)) % 2147483399
def drawF (h : Hs5) (m : Int) : Int × Hs5 := if 0 < (takeH h).q then ((takeH h).q % m, ⟨(takeH h).cs, (takeH h).pos, (takeH h).q / m, (takeH h).s, (takeH h).k⟩) else ((mk3 (takeH h) / 16) % m, ⟨(takeH h).cs, (takeH h).pos, (takeH h).q, (takeH h).s, (takeH h).k + 1⟩)
theorem drawF_lt (h : Hs5) {m : Int} (hm : 0 < m) : 0 ≤ (drawF h m).1 ∧ (drawF h m).1 < m := by
  unfold drawF
  split
  · exact ⟨Int.emod_nonneg _ (by omega), Int.emod_lt_of_pos _ hm⟩
  · exact ⟨Int.emod_nonneg _ (by omega), Int.emod_lt_of_pos _ hm⟩
theorem mul_ok {x k : Int} (h0 : 0 ≤ x) (h1 : x < 2147483647) : CMul x k := .inl ⟨by omega, by omega⟩
theorem mk1_ok (h : Hs5) : 0 ≤ mk1 h ∧ mk1 h < 2147483647 := ⟨Int.emod_nonneg _ (by omega), Int.emod_lt_of_pos _ (by omega)⟩
theorem mk2_ok (h : Hs5) : 0 ≤ mk2 h ∧ mk2 h < 2147483647 := ⟨Int.emod_nonneg _ (by omega), Int.emod_lt_of_pos _ (by omega)⟩

theorem ok__law_draw (T : Tx K mg) : Pf P w K mg base "_law_draw" 1 (spB K fun ds c d c' => ∃ (h : Hs5) (m : Int), ds = [.int m] ∧ 0 < m ∧ m < 1073741824 ∧ c = encH h ∧ d = .int (drawF h m).1 ∧ c' = encH (drawF h m).2) := by
  obtain ⟨fd, D⟩ := T.d__law_draw
  have nd : (["_law_hand_here", "_law_many", "_law_cell", "_law_digit", "_law_number"] : List Str).Nodup := by decide +kernel
  refine pfB_mk (N := ["_law_hand_here", "_law_many", "_law_cell", "_law_digit", "_law_number"]) (ps := ["_law_hand_here", "_law_many"]) D ⟨rfl, rfl, rfl, nd, rfl, by decide +kernel, by decide +kernel⟩ T.g__law_draw (fun _ _ _ _ _ _ us hl => match us, hl with | [_, _], _ => rfl)
    (fun ds c d c' h => by
      obtain ⟨h, m, e, hm0, hm1, e2, e3, e4⟩ := h
      subst e e2 e3 e4
      rfl) fun cdv A outer s H E hr F a ds c d c' h hM => ?_
  obtain ⟨h, m, e, hm0, hm1, e2, e3, e4⟩ := h
  subst e e2 e3 e4
  refine run_ifG (fun E' => ∃ a2, E' = ⟨F.M0, [some (.box a), some (.int m), a2, none, none], [(a, .l (encH (takeH h)))]⟩) (EvW.t (evw_and (k1 := decide (h.q = 0)) (k2 := decide (h.pos < h.cs.length)) (evt_cmp opd_eqI (ev_ixB (ev_var 0 rfl) ev_int List.mem_cons_self (atI_nat (j := 2) rfl)) ev_int) fun _ => evw_and1
    (evt_cmp (opd_ltK (by
      rw [List.length_map]
      by_cases z : h.pos < h.cs.length
      · rw [decide_eq_true z, decide_eq_true (by omega)]
      · rw [decide_eq_false z, decide_eq_false (by omega)])) (ev_ixB (ev_var 0 rfl) ev_int List.mem_cons_self (atI_nat (j := 1) rfl)) (ev_callB (calld_lenL (l := h.cs.map Dt.int)) T.n_len bt_len (eva_cons (ev_ixB (ev_var 0 rfl) ev_int List.mem_cons_self (atI_nat (j := 0) rfl)) eva_nil))))) (fun e => ?_) (fun e => run_nil ?_) fun E' ⟨a2, e⟩ => ?_
  · have e := Bool.and_eq_true_iff.mp e
    have e1 := of_decide_eq_true e.1
    have e2 := of_decide_eq_true e.2
    have et : takeH h = ⟨h.cs, h.pos + 1, if 10 ^ 18 ≤ h.cs.getD h.pos 0 then h.cs.getD h.pos 0 else h.q, (h.s * 69621 + h.cs.getD h.pos 0 + 11) % 2147483629, h.k⟩ := by
      unfold takeH
      rw [if_pos ⟨e1, e2⟩]
    refine run_set 2 nd (ev_ixL (ev_ixB (ev_var 0 rfl) ev_int List.mem_cons_self (atI_nat (j := 0) rfl)) (ev_ixB (ev_var 0 rfl) ev_int List.mem_cons_self (atI_nat (j := 1) rfl)) (at_map (f := Dt.int) (get_lt 0 e2))) ?_
    generalize h.cs.getD h.pos 0 = z at et
    refine run_setL (j := 1) (ev_bin opd_add (ev_ixB (ev_var 0 rfl) ev_int List.mem_cons_self (atI_nat (j := 1) rfl)) ev_int) (ev_var 0 rfl) ev_int List.mem_cons_self rfl ?_
    rw [setB_one]
    refine run_setL (j := 3) (ev_bin (opd_mod (by omega)) (ev_callTy calld_int T.n_int bt_int (eva_cons (ev_bin opd_add (ev_bin opd_add (ev_bin (opd_mul (.inr ⟨by decide, by decide⟩)) (ev_ixB (ev_var 0 rfl) ev_int List.mem_cons_self (atI_nat (j := 3) rfl)) ev_int) (ev_var 2 rfl)) ev_int) eva_nil)) ev_int) (ev_var 0 rfl) ev_int List.mem_cons_self rfl ?_
    rw [setB_one]
    refine run_if (k := decide (10 ^ 18 ≤ z)) (evt_cmp opd_ge (ev_var 2 rfl) (ev_bin (opd_pow ⟨by decide, by decide, by decide⟩) ev_int ev_int)) (fun e3 => ?_) (fun e3 => run_nil (run_nil ?_))
    · refine run_setL (j := 2) (ev_var 2 rfl) (ev_var 0 rfl) ev_int List.mem_cons_self rfl (run_nil (run_nil ?_))
      rw [setB_one, et, if_pos (of_decide_eq_true e3)]
      exact ⟨_, rfl⟩
    · rw [et, if_neg (of_decide_eq_false e3)]
      exact ⟨_, rfl⟩
  · have et : takeH h = h := by
      unfold takeH
      rw [if_neg]
      rintro ⟨z1, z2⟩
      rw [decide_eq_true z1, decide_eq_true z2] at e
      cases e
    rw [et]
    exact ⟨none, rfl⟩
  subst e
  unfold drawF
  generalize takeH h = g
  refine run_if (k := decide (0 < g.q)) (evt_cmp opd_gt (ev_ixB (ev_var 0 rfl) ev_int List.mem_cons_self (atI_nat (j := 2) rfl)) ev_int) (fun e => ?_) (fun e => run_nil ?_)
  · rw [if_pos (of_decide_eq_true e)]
    refine run_set 3 nd (ev_bin (opd_mod hm0) (ev_callTy calld_int T.n_int bt_int (eva_cons (ev_ixB (ev_var 0 rfl) ev_int List.mem_cons_self (atI_nat (j := 2) rfl)) eva_nil)) (ev_var 1 rfl)) ?_
    refine run_setL (j := 2) (ev_bin (opd_fdiv ⟨hm0, hm1⟩) (ev_ixB (ev_var 0 rfl) ev_int List.mem_cons_self (atI_nat (j := 2) rfl)) (ev_var 1 rfl)) (ev_var 0 rfl) ev_int List.mem_cons_self rfl ?_
    rw [setB_one]
    exact run_ret (ev_var 3 rfl) ⟨rfl, List.mem_cons_self⟩
  · rw [if_neg (of_decide_eq_false e)]
    refine run_setL (j := 4) (ev_bin opd_add (ev_ixB (ev_var 0 rfl) ev_int List.mem_cons_self (atI_nat (j := 4) rfl)) ev_int) (ev_var 0 rfl) ev_int List.mem_cons_self rfl ?_
    rw [setB_one]
    have b1 := mk1_ok g
    have b2 := mk2_ok g
    refine run_set 4 nd (ev_bin (opd_mod (by omega)) (ev_callTy calld_int T.n_int bt_int (eva_cons (ev_bin (opd_mul (.inr ⟨by decide, by decide⟩)) (ev_callTy calld_int T.n_int bt_int (eva_cons (ev_bin opd_add (ev_ixB (ev_var 0 rfl) ev_int List.mem_cons_self (atI_nat (j := 3) rfl)) (ev_bin (opd_mul (.inl ⟨by decide, by decide⟩)) ev_int (ev_ixB (ev_var 0 rfl) ev_int List.mem_cons_self (atI_nat (j := 4) rfl)))) eva_nil)) ev_int) eva_nil)) ev_int) ?_
    refine run_set 4 nd (ev_bin (opd_mod (by omega)) (ev_callTy calld_int T.n_int bt_int (eva_cons (ev_bin (opd_mul (mul_ok b1.1 b1.2)) (ev_var 4 rfl) (ev_bin opd_add (ev_bin (opd_fdiv ⟨by omega, by omega⟩) (ev_var 4 rfl) ev_int) ev_int)) eva_nil)) ev_int) ?_
    refine run_set 4 nd (ev_bin (opd_mod (by omega)) (ev_callTy calld_int T.n_int bt_int (eva_cons (ev_bin (opd_mul (mul_ok b2.1 b2.2)) (ev_var 4 rfl) (ev_bin opd_add (ev_bin (opd_fdiv ⟨by omega, by omega⟩) (ev_var 4 rfl) ev_int) ev_int)) eva_nil)) ev_int) ?_
    exact run_ret (ev_bin (opd_mod hm0) (ev_callTy calld_int T.n_int bt_int (eva_cons (ev_bin (opd_fdiv ⟨by omega, by omega⟩) (ev_var 4 rfl) ev_int) eva_nil)) (ev_var 1 rfl)) ⟨rfl, List.mem_cons_self⟩

end
end Bs
set_option Elab.async false
set_option linter.all false
set_option maxRecDepth 100000
set_option maxHeartbeats 4000000
namespace Bs
open PySem PySem.Spec PyProof.Rows L2
section
variable {P : Program} {w : World} {K : PySem.W.Frag} {mg : Str → Option Value} {base : Heap}

/-- a def that hands out a new list, to be changed by its caller -/
def spN (K : PySem.W.Frag) (R : List Dt → List Dt → Prop) : Sp := fun vs H Q _ => ∃ M ds c, MOk M H ∧ Reps K M H ds vs ∧ R ds c ∧ ∀ (l : Addr) (H' : Hp) (xs : List V), H l = none → Same H H' → H' l = some (.lst xs) → Reps K (l :: M) H' c xs → Q (.ref l) H'
theorem RepE.mask' {F : Fr} {E : En} {H1 H' : Hp} {σ : L2.St} {l : Addr} {xs : List V} (r : RepE K F H1 E σ) (h0 : H1 l = none) (sm : Same H1 H') (e : H' l = some (.lst xs)) : RepE K F H' ⟨l :: E.M, E.ρ, E.μ⟩ σ := by
  have r' := r.same sm
  refine ⟨r'.st, fun b hb => ?_, fun a ha => List.mem_cons_of_mem _ (r.sub a ha), r.len, fun i d e => (r.at_ i d e).imp fun v h => ⟨h.1, Rep.same sm _ _ (Rep.more h0 h.2)⟩, fun p hp => ?_, r.nd⟩
  · rcases List.mem_cons.mp hb with z | z
    · rw [z]
      exact .inl ⟨xs, e⟩
    · exact r'.mok b z
  · obtain ⟨h1, h2, h3⟩ := r.box p hp
    refine ⟨List.mem_cons_of_mem _ h1, h2, ?_⟩
    cases e : p.2 with
    | l ds =>
      rw [e] at h3
      obtain ⟨xs, e1, e2⟩ := h3
      exact ⟨xs, sm _ _ e1, Reps.same sm _ _ (Reps.more h0 e2)⟩
    | d kvs =>
      rw [e] at h3
      exact sm _ _ h3
theorem RepE.noM {F : Fr} {E : En} {H : Hp} {σ : L2.St} {l : Addr} (r : RepE K F H E σ) (h0 : H l = none) : l ∉ E.M := fun m => by
  rcases r.mok l m with ⟨_, e⟩ | ⟨_, e⟩ <;> (rw [h0] at e; cases e)
section
variable {x : Str} {st : Stmt} {f : Addr} {fd : FuncData} {N ps : List Str} {k : Nat}
theorem pfN_mk {R : List Dt → List Dt → Prop} (D : FunD K x x (defArgs st) (defBody st) (defScope st) [] [] f fd) (S : FnScope N ps (defScope st)) (hm : mg x = some (.ref f))
    (hb : ∀ (kV doc pm : Value) (an : Option Addr) (cdv ct : Value) (us : List Value), us.length = ps.length → bindArgs (PySem.W.fnOf x x (defArgs st) (defBody st) (defScope st) .none kV doc pm an cdv ct) ⟨us, []⟩ = pure (ps.zip us))
    (hlen : ∀ ds c, R ds c → ds.length = ps.length)
    (body : ∀ (cdv : Value) (A : Around) (outer : List Env) (s : Shared) (H : Hp) (E : XK), Room k (A.deeper (envOfC x (defScope st) s.heap.objs.size f cdv)) → ∀ (F : Fr) (ds c : List Dt), R ds c →
      Run (Cb P w K mg base N x (defScope st) f cdv A outer s H E) F (defBody st) (En0 F N ds []) ⟨fun _ => False, fun d' E' => ∃ l, d' = .box l ∧ (l, Bx.l c) ∈ E'.μ ∧ E'.M = l :: F.M0, fun _ => False, fun _ => False⟩) : Pf P w K mg base x (k + 1) (spN K R) := by
  refine ⟨f, fd, ps, D.ok S (fun vs H Q E h => ?_) (fun cdv A outer s H vs Q E hr h => ?_), hm, D.kp, D.bindsN hb⟩
  · obtain ⟨M, ds, c, m, rp, hR, q⟩ := h
    rw [rp.length]
    exact hlen ds c hR
  · obtain ⟨M, ds, c, m, rp, hR, q⟩ := h
    refine ⟨_, PSs.nox (pss_ev (X := Cb P w K mg base N x (defScope st) f cdv A outer s H E)), frame0 M [] H, En0 (frame0 M [] H) N ds [], _, ⟨.refl _ _, m, fun a ha => ha, start_length rp.length, start_get rp, (fun p hp => nomatch hp), List.nodup_nil⟩,
      body cdv A outer s H E hr (frame0 M [] H) ds c hR, fun σ H' E' r e => e.elim, fun v H' d' E' σ r p e => ?_, fun σ H' E' r e => e.elim, fun σ H' E' r e => e.elim⟩
    obtain ⟨l, e1, e2, e3⟩ := e
    subst e1
    obtain ⟨_, al, xs, ex, rx⟩ := r.box _ e2
    rw [e3] at rx
    rw [show v = _ from p]
    rcases al with z | z
    · cases z
    · exact q l H' xs z (Off.same r.st) ex rx
end
section
variable {X : Cx} {F : Fr} {E E1 : En} {P : Pe} {pos p' lp p : Pos} {x y : Str} {e : Expr} {es : List Expr} {ds c : List Dt} {rest : List Stmt}
/-- return [..], a new list -/
theorem run_retN (h : EvA X F es E ds E1) (q : ∀ l, l ∉ E1.M → P.rt (.box l) ⟨l :: E1.M, E1.ρ, (l, .l ds) :: E1.μ⟩) (hl : es.length ≤ 100 := by decide) : Run X F (.Return (some (.List es lp)) pos :: rest) E P :=
  run_of (pss_cons (ps_ret (pe_lst pa_ev)) (pss_ev (sts := rest))) fun σ H D r i => tA_run h r fun vs H1 r1 o1 p1 => ⟨small100 (by rw [p1.length, h.len]; exact hl), fun l hl => by
    have nM := r1.noM hl
    have r2 := RepE.mask (vs := vs) r1 hl
    refine i.rt (.ref l) _ (.box l) ⟨l :: E1.M, E1.ρ, (l, .l ds) :: E1.μ⟩ σ ⟨r2.st, r2.mok, r2.sub, r2.len, r2.at_, fun z hz => ?_, List.nodup_cons.mpr ⟨fun m => nM (r1.aM l m), r2.nd⟩⟩ rfl (q l nM)
    rcases List.mem_cons.mp hz with e | e
    · subst e
      exact ⟨List.mem_cons_self, F.new _ _ r1.st hl, vs, upd_same, Reps.same (same_up hl) _ _ (Reps.more hl (by rw [h.fit.M]; exact p1))⟩
    · exact r2.box z e⟩
/-- x = f(..), a new list -/
theorem run_callN {k : Nat} {R : List Dt → List Dt → Prop} (i : Nat) (hN : X.N.Nodup) (T : Pf X.prog X.w X.K X.mg X.base y k (spN X.K R)) (hr : Room k X.A) (ha : EvA X F (e :: es) E ds E1) (h : R ds c) (q : ∀ l, l ∉ E1.M → Run X F rest ⟨l :: E1.M, E1.ρ.set i (some (.box l)), (l, .l c) :: E1.μ⟩ P)
    (hg : Gl X y := by rfl) (hdb : (y == ("__debug__" : Str)) = false := by decide)
    (he : starEach (e :: es) X.env = (false, eval e X.env) :: starEach es X.env := by rfl) (hpl : (backTo lp (starEach es X.env)).any (·.1) = false := by rfl)
    (hi : X.N[i]? = some x := by rfl) (hx : Loc X.env.scope x := by first | exact Or.inl rfl | exact Or.inr rfl)
    (hs : swapsWith (.Call (.Name y p) (e :: es) [] lp) (some (.Name x p')) pos.line X.env = pure false := by rfl) (hf : X.fn x = true ∨ X.env.scope.names.lookup x = some .local := by first | exact .inl rfl | exact .inr rfl) : Run X F (.Assign [.Name x p'] (.Call (.Name y p) (e :: es) [] lp) pos :: rest) E P :=
  let ⟨f, fd, ps, G, hmg, hk, hb⟩ := T.ex
  run_of (pss_cons (ps_set hN hi hx (pe_call G hr hg hmg hk hb .nil pass0 pa_ev hdb he hpl) hs hf) pss_ev) fun σ H D r im => tA_run ha r fun vs H1 r1 o1 p1 => by
    have m := r1.mok
    rw [ha.fit.M] at m
    refine ⟨E.M, ds, c, m, by rw [List.append_nil]; exact p1, h, fun l H' xs h0 sm ex rx => ?_⟩
    have nM := r1.noM h0
    have r2 := r1.mask' h0 sm ex
    have r3 : RepE X.K F H' ⟨l :: E1.M, E1.ρ, (l, .l c) :: E1.μ⟩ σ := ⟨r2.st, r2.mok, r2.sub, r2.len, r2.at_, fun z hz => by
      rcases List.mem_cons.mp hz with e | e
      · subst e
        exact ⟨List.mem_cons_self, F.new _ _ r1.st h0, xs, ex, by rw [ha.fit.M]; exact rx⟩
      · exact r2.box z e, List.nodup_cons.mpr ⟨fun m => nM (r1.aM l m), r2.nd⟩⟩
    exact ⟨F, _, P, r3.put (d := .box l) rfl, q l nM, im⟩
end
def absI (i : Int) : Int := if i < 0 then -i else i
def hand0 (is : List Int) : Hs5 := ⟨(is.take 63).map absI, 0, 0, 1 + ((is.take 63).length : Nat), 0⟩

theorem ok__law_hand (T : Tx K mg) : Pf P w K mg base "_law_hand" 1 (spN K fun ds c => ∃ (d0 : Dt) (is : List Int), ds = [d0] ∧ ScriptD K d0 is ∧ c = encH (hand0 is)) := by
  obtain ⟨fd, D⟩ := T.d__law_hand
  have nd : (["_law_script", "_law_cells", "_law_cell"] : List Str).Nodup := by decide +kernel
  refine pfN_mk (N := ["_law_script", "_law_cells", "_law_cell"]) (ps := ["_law_script"]) D ⟨rfl, rfl, rfl, nd, rfl, by decide +kernel, by decide +kernel⟩ T.g__law_hand (fun _ _ _ _ _ _ us hl => match us, hl with | [_], _ => rfl)
    (fun ds c h => by
      obtain ⟨d0, is, e, hS, e2⟩ := h
      subst e e2
      rfl) fun cdv A outer s H E hr F ds c h => ?_
  obtain ⟨d0, is, e, hS, e2⟩ := h
  subst e e2
  have hcut : cutD (is.map Dt.int) none (some 63) = (is.take 63).map Dt.int := by
    rw [show (63 : Int) = ((63 : Nat) : Int) from rfl, cut_to, List.map_take]
  have hl : (is.take 63).length ≤ 63 := List.length_take_le 63 is
  refine run_setLcM 1 nd (own := [("_law_cell", 2)]) (g := gName 2) (is := [2]) (l := ((is.take 63).map absI).map Dt.int) (evi_lst (ds := (is.take 63).map Dt.int) (evq (ev_slS hS (ev_var 0 rfl) evo_none (evo_some ev_int)) (congrArg Dt.lst hcut))) (blkOk_by (N := ["_law_script", "_law_cells", "_law_cell"]) (sc := (defScope Hd.z_law_hand)) (by decide +kernel)) (fun _ _ _ _ _ => pg_name nd rfl (.inl rfl)) (by decide)
    (by rw [List.length_map]; omega) (fun j => .int (absI ((is.take 63).getD j 0))) (fun D j d nD hd => ?_) ?_ ?_
  · obtain ⟨z, hz, rfl⟩ := map_get hd
    rw [getD_of hz]
    exact ⟨[.int z], tgt_name, fun _ _ _ _ _ => ev_callB calld_abs T.n_abs bt_abs (eva_cons (ev_callTy calld_int T.n_int bt_int (eva_cons (ev_var 2 rfl) eva_nil)) eva_nil)⟩
  · rw [List.length_map, List.map_map]
    exact range_map (is.take 63) (fun z => Dt.int (absI z)) 0
  · refine run_retN (eva_cons (ev_var 1 rfl) (eva_cons ev_int (eva_cons ev_int (eva_cons (ev_bin opd_add ev_int (ev_callB (calld_lenL (l := ((is.take 63).map absI).map Dt.int)) T.n_len bt_len (eva_cons (ev_var 1 rfl) eva_nil))) (eva_cons ev_int eva_nil))))) fun l nl => ⟨l, rfl, ?_, rfl⟩
    rw [List.length_map, List.length_map]
    exact List.mem_cons_self

end
end Bs
set_option Elab.async false
set_option linter.all false
set_option maxRecDepth 100000
set_option maxHeartbeats 4000000
namespace Bs
open PySem PySem.Spec PyProof.Rows L2
section
variable {P : Program} {w : World} {K : PySem.W.Frag} {mg : Str → Option Value} {base : Heap}

theorem sAt_app {rows : List Bs.Row} {v u : List Nat} {i : Nat} (h : i ≤ v.length) : sAt rows (v ++ u) i = sAt rows v i := by
  unfold sAt
  rw [List.take_append_of_le_length h]
theorem sAt_full {rows : List Bs.Row} {v : List Nat} {h : Nat} : sAt rows (v ++ [h]) (v ++ [h]).length = stepS rows (sAt rows v v.length) h := by
  rw [List.length_append, show v.length + [h].length = v.length + 1 from rfl, sAt_succ (h := h) (by rw [List.getElem?_append_right (Nat.le_refl _), Nat.sub_self] <;> rfl), sAt_app (Nat.le_refl _)]
theorem getD_appL {l u : List Nat} {i : Nat} (h : i < l.length) : (l ++ u).getD i 0 = l.getD i 0 := by
  rw [List.getD_eq_getElem?_getD, List.getElem?_append_left h, ← List.getD_eq_getElem?_getD]
theorem getD_appR {l : List Nat} {x : Nat} : (l ++ [x]).getD l.length 0 = x := by
  rw [List.getD_eq_getElem?_getD, List.getElem?_append_right (Nat.le_refl _), Nat.sub_self] <;> rfl
theorem okW_snoc {rows : List Bs.Row} {v : List Nat} {h : Nat} (ok : okW rows v = true) (hs : ((sAt rows v v.length).states.getD h none).isSome = true) : okW rows (v ++ [h]) = true := by
  refine List.all_eq_true.mpr fun i hi => ?_
  rw [List.length_append] at hi
  have hi := List.mem_range.mp hi
  have hi : i < v.length + 1 := hi
  by_cases z : i < v.length
  · have : stAt rows (v ++ [h]) i = stAt rows v i := by
      unfold stAt
      rw [sAt_app (by omega), getD_appL z]
    rw [this]
    obtain ⟨a, b, e⟩ := okW_at ok z
    rw [e] <;> rfl
  · have z : i = v.length := by omega
    subst z
    have : stAt rows (v ++ [h]) v.length = (sAt rows v v.length).states.getD h none := by
      unfold stAt
      rw [sAt_app (Nat.le_refl _), getD_appR]
    rw [this]
    exact hs
/-- the weaving that is drawn -/
def wvF (rows : List Bs.Row) (h : Hs5) : Nat → Hs5 × List Nat
  | 0 => (h, [])
  | i + 1 => if 0 < (movS (sAt rows (wvF rows h i).2 (wvF rows h i).2.length)).length then
      ((drawF (wvF rows h i).1 (((movS (sAt rows (wvF rows h i).2 (wvF rows h i).2.length)).length : Nat) : Int)).2, (wvF rows h i).2 ++ [(movS (sAt rows (wvF rows h i).2 (wvF rows h i).2.length)).getD (drawF (wvF rows h i).1 (((movS (sAt rows (wvF rows h i).2 (wvF rows h i).2.length)).length : Nat) : Int)).1.toNat 0]) else wvF rows h i
theorem wv_mem {m : List Nat} {g : Hs5} (hm : 0 < m.length) : (drawF g ((m.length : Nat) : Int)).1.toNat < m.length ∧ (((drawF g ((m.length : Nat) : Int)).1.toNat : Nat) : Int) = (drawF g ((m.length : Nat) : Int)).1 := by
  obtain ⟨a, b⟩ := drawF_lt g (m := ((m.length : Nat) : Int)) (by omega)
  exact ⟨by omega, Int.toNat_of_nonneg a⟩
theorem movS_mem {z : Sd} {h : Nat} (e : h ∈ movS z) : h < z.states.length ∧ (z.states.getD h none).isSome = true := by
  obtain ⟨a, b⟩ := List.mem_filter.mp e
  exact ⟨List.mem_range.mp a, b⟩
theorem wv_ok {rows : List Bs.Row} (h2 : 2 ≤ rows.length) (h : Hs5) : ∀ i : Nat, InW rows (wvF rows h i).2 ∧ okW rows (wvF rows h i).2 = true ∧ (wvF rows h i).2.length ≤ i
  | 0 => ⟨fun x hx => (nomatch (show x ∈ ([] : List Nat) from hx)), rfl, Nat.le_refl _⟩
  | i + 1 => by
    obtain ⟨a, b, c⟩ := wv_ok h2 h i
    show InW rows (ite _ _ _ : Hs5 × List Nat).2 ∧ okW rows (ite _ _ _ : Hs5 × List Nat).2 = true ∧ (ite _ _ _ : Hs5 × List Nat).2.length ≤ i + 1
    generalize wvF rows h i = p at a b c ⊢
    obtain ⟨g, v⟩ := p
    dsimp only at a b c ⊢
    generalize hm : movS (sAt rows v v.length) = m
    by_cases z : 0 < m.length
    · rw [if_pos z]
      obtain ⟨w1, w2⟩ := wv_mem (g := g) z
      have hmem : m.getD (drawF g ((m.length : Nat) : Int)).1.toNat 0 ∈ m := List.mem_of_getElem? (get_lt 0 w1)
      generalize m.getD (drawF g ((m.length : Nat) : Int)).1.toNat 0 = x at hmem
      rw [← hm] at hmem
      obtain ⟨q1, q2⟩ := movS_mem hmem
      rw [(sAt_ok h2 v _).hs] at q1
      refine ⟨fun y hy => ?_, okW_snoc b q2, ?_⟩
      · rcases List.mem_append.mp hy with e | e
        · exact a y e
        · rw [List.mem_singleton.mp e]
          exact q1
      · rw [List.length_append]
        exact Nat.succ_le_succ c
    · rw [if_neg z]
      exact ⟨a, b, Nat.le_succ_of_le c⟩

theorem ok__law_some_weaving (T : Tx K mg) : Pf P w K mg base "_law_some_weaving" 4 (spB K fun ds c d c' => ∃ (h : Hs5) (rows : List Bs.Row) (k : Nat), ds = [encPlay rows, .int ((k : Nat) : Int)] ∧ PlayOk rows ∧ k ≤ 1000 ∧ c = encH h ∧ d = .lst ((wvF rows h k).2.map hD) ∧ c' = encH (wvF rows h k).1) := by
  obtain ⟨fd, D⟩ := T.d__law_some_weaving
  have nd : (["_law_hand_here", "_law_play", "_law_most", "_law_here", "_law_found", "_law_turn", "_law_some", "_law_me"] : List Str).Nodup := by decide +kernel
  refine pfB_mk (N := ["_law_hand_here", "_law_play", "_law_most", "_law_here", "_law_found", "_law_turn", "_law_some", "_law_me"]) (ps := ["_law_hand_here", "_law_play", "_law_most"]) D ⟨rfl, rfl, rfl, nd, rfl, by decide +kernel, by decide +kernel⟩ T.g__law_some_weaving (fun _ _ _ _ _ _ us hl => match us, hl with | [_, _, _], _ => rfl)
    (fun ds c d c' h => by
      obtain ⟨h, rows, k, e, hp, hk, e2, e3, e4⟩ := h
      subst e e2 e3 e4
      rfl) fun cdv A outer s H E hr F a ds c d c' h hM => ?_
  obtain ⟨h, rows, k, e, hp, hk, e2, e3, e4⟩ := h
  subst e e2 e3 e4
  have h2 := hp.n1
  have h5 := hp.n5
  refine run_set 3 nd (ev_call (ok__law_begun T) (hr.mono (by decide)) (eva_cons (ev_var 1 rfl) eva_nil) ⟨rows, rfl, hp, rfl⟩) ?_
  refine run_newL 4 nd eva_nil fun lf nf => ?_
  have ne : lf ≠ a := fun z => nf (by rw [z]; exact hM)
  refine run_for (ys := intsD k) (is := [5]) (g := gName 5) .never (evi_range T.n_range (ev_var 2 rfl) (by omega)) (pg_name nd rfl (.inl rfl))
    (fun i E' => ∃ a5 a6 a7, E' = ⟨lf :: F.M0, [some (.box a), some (encPlay rows), some (.int ((k : Nat) : Int)), some (encSd (sAt rows (wvF rows h i).2 (wvF rows h i).2.length)), some (.box lf), a5, a6, a7], [(lf, .l ((wvF rows h i).2.map hD)), (a, .l (encH (wvF rows h i).1))]⟩) ⟨none, none, none, by
      show _ = En.mk _ [_, _, _, some (encSd (sAt rows [] 0)), _, _, _, _] _
      rw [sAt_zero] <;> rfl⟩ (fun i E' ⟨a5, a6, a7, e⟩ => by
      subst e
      exact ⟨rfl, rfl⟩) (fun F1 sub i d E' hd ⟨a5, a6, a7, e⟩ => ?_) (fun E' ⟨a5, a6, a7, e⟩ => ?_)
  · subst e
    have hi := (List.getElem?_eq_some_iff.mp hd).1
    rw [intsD_length] at hi
    refine ⟨[d], tgt_name, ?_⟩
    obtain ⟨w1, w2, w3⟩ := wv_ok h2 h i
    have eW : wvF rows h (i + 1) = (if 0 < (movS (sAt rows (wvF rows h i).2 (wvF rows h i).2.length)).length then
      ((drawF (wvF rows h i).1 (((movS (sAt rows (wvF rows h i).2 (wvF rows h i).2.length)).length : Nat) : Int)).2, (wvF rows h i).2 ++ [(movS (sAt rows (wvF rows h i).2 (wvF rows h i).2.length)).getD (drawF (wvF rows h i).1 (((movS (sAt rows (wvF rows h i).2 (wvF rows h i).2.length)).length : Nat) : Int)).1.toNat 0]) else wvF rows h i) := rfl
    rw [eW]
    generalize wvF rows h i = p at w1 w2 w3 ⊢
    obtain ⟨g, v⟩ := p
    dsimp only at w1 w2 w3 ⊢
    have zs := sAt_ok h2 v v.length
    refine run_set 6 nd (ev_call (ok__law_movers T) (hr.mono (by decide)) (eva_cons (ev_var 3 rfl) eva_nil) ⟨sAt rows v v.length, rfl, by rw [zs.hs]; omega, rfl⟩) ?_
    have hml : (movS (sAt rows v v.length)).length ≤ 5 := by
      unfold movS
      exact Nat.le_trans (List.length_filter_le _ _) (by rw [List.length_range, zs.hs]; exact h5)
    have hmm : ∀ x, x ∈ movS (sAt rows v v.length) → _ := fun x hx => movS_mem hx
    generalize movS (sAt rows v v.length) = m at hml hmm ⊢
    have ln : ∀ {Z : En} {e : Expr} {pos p : Pos}, Ev (Cb P w K mg base ["_law_hand_here", "_law_play", "_law_most", "_law_here", "_law_found", "_law_turn", "_law_some", "_law_me"] "_law_some_weaving" (defScope Hd.z_law_some_weaving) (He.ga K "_law_some_weaving") cdv A outer s H E) F1 e Z (.lst (m.map hD)) Z → starEach (e :: []) ((Cb P w K mg base ["_law_hand_here", "_law_play", "_law_most", "_law_here", "_law_found", "_law_turn", "_law_some", "_law_me"] "_law_some_weaving" (defScope Hd.z_law_some_weaving) (He.ga K "_law_some_weaving") cdv A outer s H E)).env = (false, eval e ((Cb P w K mg base ["_law_hand_here", "_law_play", "_law_most", "_law_here", "_law_found", "_law_turn", "_law_some", "_law_me"] "_law_some_weaving" (defScope Hd.z_law_some_weaving) (He.ga K "_law_some_weaving") cdv A outer s H E)).env) :: starEach [] ((Cb P w K mg base ["_law_hand_here", "_law_play", "_law_most", "_law_here", "_law_found", "_law_turn", "_law_some", "_law_me"] "_law_some_weaving" (defScope Hd.z_law_some_weaving) (He.ga K "_law_some_weaving") cdv A outer s H E)).env → Ev (Cb P w K mg base ["_law_hand_here", "_law_play", "_law_most", "_law_here", "_law_found", "_law_turn", "_law_some", "_law_me"] "_law_some_weaving" (defScope Hd.z_law_some_weaving) (He.ga K "_law_some_weaving") cdv A outer s H E) F1 (.Call (.Name "len" p) [e] [] pos) Z (.int ((m.length : Nat) : Int)) Z := fun h hs => evq (ev_callB calld_lenL T.n_len bt_len (eva_cons h eva_nil hs) rfl (by decide) (by decide) hs rfl) (by rw [List.length_map])
    by_cases z : 0 < m.length
    · rw [if_pos z]
      obtain ⟨d1, d2⟩ := wv_mem (g := g) z
      refine ite_always (evt_cmp (opd_gtK (k := true) (decide_eq_true (by omega))) (ln (ev_var 6 rfl) rfl) ev_int) ?_
      have hx := get_lt 0 d1
      have hmem := List.mem_of_getElem? hx
      generalize m.getD (drawF g ((m.length : Nat) : Int)).1.toNat 0 = x at hx hmem ⊢
      obtain ⟨q1, q2⟩ := hmm x hmem
      refine run_set 7 nd (ev_ixL (l := m.map hD) (k := (drawF g ((m.length : Nat) : Int)).1) (ev_var 6 rfl) (ev_callX (ok__law_draw T) (hr.mono (by decide)) (eva_cons (ev_var 0 rfl) (eva_cons (ln (ev_var 6 rfl) rfl) eva_nil)) (List.mem_cons_of_mem _ List.mem_cons_self) ⟨g, _, rfl, by omega, by omega, rfl, rfl, rfl⟩) (by rw [← d2]; exact at_map hx)) ?_
      rw [setB_b ne]
      obtain ⟨dn, nw, hst⟩ : ∃ dn nw, (sAt rows v v.length).states[x]? = some (some (dn, nw)) := by
        have := get_lt none q1
        cases q : (sAt rows v v.length).states.getD x none with
        | none =>
          rw [q] at q2
          cases q2
        | some pr =>
          rw [q] at this
          exact ⟨pr.1, pr.2, this⟩
      refine run_set 3 nd (evq (ev_call (ok__law_behind T) (hr.mono (by decide)) (eva_cons (ev_var 1 rfl) (eva_cons (ev_var 3 rfl) (eva_cons (ev_var 7 rfl) eva_nil))) ⟨rows, _, x, dn, nw, rfl, hp, zs, hst, rfl⟩) (congrArg encSd sAt_full.symm)) ?_
      refine run_expr (ev_append (ev_var 4 rfl) (ev_var 7 rfl) List.mem_cons_self List.mem_cons_self (by rw [List.length_map]; omega)) (run_nil (run_nil ⟨some d, some (.lst (m.map hD)), some (hD x), ?_⟩))
      rw [setB_a ne, show v.map hD ++ [hD x] = (v ++ [x]).map hD by rw [List.map_append] <;> rfl] <;> rfl
    · rw [if_neg z]
      exact ite_never (evt_cmp (opd_gtK (k := false) (decide_eq_false (by omega))) (ln (ev_var 6 rfl) rfl) ev_int) (run_nil (run_nil ⟨some d, some (.lst (m.map hD)), a7, rfl⟩))
  · subst e
    rw [intsD_length]
    exact run_retB (ev_var 4 rfl) List.mem_cons_self nf ⟨rfl, List.mem_cons_of_mem _ List.mem_cons_self⟩

end
end Bs
set_option Elab.async false
set_option linter.all false
set_option maxRecDepth 100000
set_option maxHeartbeats 4000000
namespace Bs
open PySem PySem.Spec PyProof.Rows L2
section
variable {P : Program} {w : World} {K : PySem.W.Frag} {mg : Str → Option Value} {base : Heap}

/-- the deeds that are drawn -/
def rowF (x : Int) (g : Hs5) : Nat → List Deed × Hs5
  | 0 => ([], g)
  | i + 1 => ((rowF x g i).1 ++ [if (drawF (rowF x g i).2 2).1 = 0 then .see else .put x], (drawF (rowF x g i).2 2).2)
theorem rowF_len (x : Int) (g : Hs5) : ∀ i : Nat, (rowF x g i).1.length = i
  | 0 => rfl
  | i + 1 => by
    show ((rowF x g i).1 ++ [_]).length = _
    rw [List.length_append, rowF_len x g i] <;> rfl
theorem rowF_val (x : Int) (g : Hs5) : ∀ i : Nat, ∀ d ∈ (rowF x g i).1, ∀ v, d = .put v → v = x
  | 0 => fun d hd => (nomatch (show d ∈ ([] : List Deed) from hd))
  | i + 1 => fun d hd v e => by
    rcases List.mem_append.mp (show d ∈ (rowF x g i).1 ++ [_] from hd) with h | h
    · exact rowF_val x g i d h v e
    · have h := List.mem_singleton.mp h
      rw [e] at h
      split at h
      · cases h
      · exact (Deed.put.inj h)
def RowsOk (rs : List Bs.Row) : Prop := ∀ r ∈ rs, r.length ≤ 6 ∧ ∀ d ∈ r, ∀ v, d = .put v → 0 ≤ v ∧ v ≤ 999
theorem nat_of {z : Int} {k : Nat} (h : 0 ≤ z ∧ z < (k : Nat)) : ∃ n : Nat, z = ((n : Nat) : Int) ∧ n < k := ⟨z.toNat, (Int.toNat_of_nonneg h.1).symm, by omega⟩
theorem isd_ints (w : List Nat) (h : w.length ≤ 1000) : isd 1 (.tup (w.map hD)) = true := by
  show ((w.map hD).all (isd 0) && decide ((w.map hD).length ≤ 1000)) = true
  rw [Bool.and_eq_true_iff]
  refine ⟨List.all_eq_true.mpr fun d hd => ?_, decide_eq_true (by rw [List.length_map]; exact h)⟩
  obtain ⟨x, _, rfl⟩ := List.mem_map.mp hd
  rfl
theorem isd_one {d : Dt} (h : isd 1 d = true) : isd 2 (.lst [d]) = true := by
  show ([d].all (isd 1) && decide ([d].length ≤ 1000)) = true
  rw [Bool.and_eq_true_iff]
  exact ⟨List.all_eq_true.mpr fun z hz => by rw [List.mem_singleton.mp hz]; exact h, decide_eq_true (by show 1 ≤ 1000; omega)⟩
/-- what is due -/
def dueD (rows : List Bs.Row) (v : List Nat) : Dt := if wrongW rows v then .tup ((shrW rows v.length v).map hD) else .str "notwrong"
theorem isd_due (rows : List Bs.Row) (v : List Nat) (h : v.length ≤ 1000) : isd 1 (dueD rows v) = true := by
  unfold dueD
  split
  · exact isd_ints _ (Nat.le_trans (shrW_len _ _) h)
  · rfl

theorem fn_law (T : Tx K mg) {fd : FuncData} (D : FunD K "law" "law" (defArgs Hd.s_law) (defBody Hd.s_law) (defScope Hd.s_law) [] [] (He.ga K "law") fd) : FnOk P w K mg base CX0 13 (He.ga K "law") fd ["_law_script"] (spR K fun ds d => ∃ (d0 : Dt) (is : List Int), ds = [d0] ∧ ScriptD K d0 is ∧ d = .bl true) := by
  have nd : (["_law_script", "_law_hand_here", "_law_turn", "_law_many", "_law_scripts", "_law_me", "_law_deeds", "_law_row", "_law_deed", "_law_play", "_law_weaving", "_law_due"] : List Str).Nodup := by decide +kernel
  refine pfF_mk (N := ["_law_script", "_law_hand_here", "_law_turn", "_law_many", "_law_scripts", "_law_me", "_law_deeds", "_law_row", "_law_deed", "_law_play", "_law_weaving", "_law_due"]) (ps := ["_law_script"]) D ⟨rfl, rfl, rfl, nd, rfl, by decide +kernel, by decide +kernel⟩
    (fun ds d h => by
      obtain ⟨d0, is, e, hS, e2⟩ := h
      subst e e2
      rfl) fun cdv A outer s H E hr F ds d h => ?_
  obtain ⟨d0, is, e, hS, e2⟩ := h
  subst e e2
  refine run_callN 1 nd (ok__law_hand T) (hr.mono (by decide)) (eva_cons (ev_var 0 rfl) eva_nil) ⟨d0, is, rfl, hS, rfl⟩ fun lh nh => ?_
  refine run_for (ys := intsD 3) (is := [2]) (g := gName 2) .never (evi_range T.n_range ev_int (by omega)) (pg_name nd rfl (.inl rfl))
    (fun i E' => ∃ g a2 a3 a4 a5 a6 a7 a8 a9 a10 a11, E' = ⟨lh :: F.M0, [some d0, some (.box lh), a2, a3, a4, a5, a6, a7, a8, a9, a10, a11], [(lh, .l (encH g))]⟩) ⟨hand0 is, none, none, none, none, none, none, none, none, none, none, rfl⟩ (fun i E' ⟨g, a2, a3, a4, a5, a6, a7, a8, a9, a10, a11, e⟩ => by
      subst e
      exact ⟨rfl, rfl⟩) (fun F1 sub i d E' hd ⟨g, a2, a3, a4, a5, a6, a7, a8, a9, a10, a11, e⟩ => ?_) (fun E' ⟨g, a2, a3, a4, a5, a6, a7, a8, a9, a10, a11, e⟩ => ?_)
  · subst e
    refine ⟨[d], tgt_name, ?_⟩
    refine run_set 3 nd (ev_bin opd_add ev_int (ev_callTy calld_intB T.n_int bt_int (eva_cons (ev_cmp opd_eqI (ev_callX (ok__law_draw T) (hr.mono (by decide)) (eva_cons (ev_var 1 rfl) (eva_cons ev_int eva_nil)) (List.mem_cons_self) ⟨g, 4, rfl, by omega, by omega, rfl, rfl, rfl⟩) ev_int) eva_nil))) ?_
    rw [setB_one]
    obtain ⟨nm, en, hn1, hn2⟩ : ∃ nm : Nat, (3 + (if decide ((drawF g 4).1 = 0) = true then 1 else 0) : Int) = ((nm : Nat) : Int) ∧ 3 ≤ nm ∧ nm ≤ 4 := by
      split
      · exact ⟨4, rfl, by omega, by omega⟩
      · exact ⟨3, rfl, by omega, by omega⟩
    rw [en]
    generalize (drawF g 4).2 = g1
    refine run_newL 4 nd eva_nil fun ls nls => ?_
    have ne : ls ≠ lh := fun z => nls (by rw [z]; exact List.mem_cons_self)
    refine run_for (ys := intsD nm) (is := [5]) (g := gName 5) .never (evi_range T.n_range (ev_var 3 rfl) (by omega)) (pg_name nd rfl (.inl rfl))
      (fun j E' => ∃ g rs a5 a6 a7, rs.length = j ∧ RowsOk rs ∧ E' = ⟨ls :: lh :: F.M0, [some d0, some (.box lh), some d, some (.int ((nm : Nat) : Int)), some (.box ls), a5, a6, a7, a8, a9, a10, a11], [(ls, .l (rs.map encRow)), (lh, .l (encH g))]⟩) ⟨g1, [], a5, a6, a7, rfl, (fun r hr => (nomatch hr)), rfl⟩ (fun j E' ⟨g, rs, a5, a6, a7, _, _, e⟩ => by
        subst e
        exact ⟨rfl, rfl⟩) (fun F2 sub2 j d2 E' hd2 ⟨g, rs, a5, a6, a7, hj, hok, e⟩ => ?_) (fun E' ⟨g, rs, a5, a6, a7, hj, hok, e⟩ => ?_)
    · subst e
      have hjl := (List.getElem?_eq_some_iff.mp hd2).1
      rw [intsD_length] at hjl
      refine ⟨[d2], tgt_name, ?_⟩
      refine run_set 6 nd (ev_lst (eva_cons (ev_tup (eva_cons ev_str eva_nil)) (eva_cons (ev_tup (eva_cons ev_str (eva_cons (ev_callX (ok__law_draw T) (hr.mono (by decide)) (eva_cons (ev_var 1 rfl) (eva_cons ev_int eva_nil)) (List.mem_cons_of_mem _ List.mem_cons_self) ⟨g, 4, rfl, by omega, by omega, rfl, rfl, rfl⟩) eva_nil))) eva_nil))) ?_
      rw [setB_b ne]
      have hx := drawF_lt g (m := 4) (by omega)
      generalize (drawF g 4).1 = x at hx ⊢
      generalize (drawF g 4).2 = g1
      obtain ⟨k, ek, hk⟩ := nat_of (k := 3) (drawF_lt g1 (m := 3) (by omega))
      refine run_setLc (μ' := [(ls, .l (rs.map encRow)), (lh, .l (encH (rowF x (drawF g1 3).2 (k + 1)).2))]) 7 nd (own := [("_law_deed", 8)]) (g := gName 8) (is := [8]) (ys := intsD (k + 1)) (l := (rowF x (drawF g1 3).2 (k + 1)).1.map encDeed)
        (evi_range T.n_range (evq (ev_bin opd_add ev_int (ev_callX (ok__law_draw T) (hr.mono (by decide)) (eva_cons (ev_var 1 rfl) (eva_cons ev_int eva_nil)) (List.mem_cons_of_mem _ List.mem_cons_self) ⟨g1, 3, rfl, by omega, by omega, rfl, rfl, rfl⟩)) (congrArg Dt.int (by rw [ek]; omega))) (by omega)) (blkOk_by (N := ["_law_script", "_law_hand_here", "_law_turn", "_law_many", "_law_scripts", "_law_me", "_law_deeds", "_law_row", "_law_deed", "_law_play", "_law_weaving", "_law_due"]) (sc := (defScope Hd.s_law)) (by decide +kernel)) (fun _ _ _ _ _ => pg_name nd rfl (.inl rfl)) (by decide) (by rw [intsD_length]; omega) rfl
        (fun n acc μ => acc = (rowF x (drawF g1 3).2 n).1.map encDeed ∧ μ = [(ls, .l (rs.map encRow)), (lh, .l (encH (rowF x (drawF g1 3).2 n).2))]) ⟨rfl, setB_b ne⟩ (fun D m dd acc μ nD hdd hP hA => ?_) (fun acc μ hP => by
          rw [intsD_length] at hP
          exact hP) ?_ rfl
      · obtain ⟨rfl, rfl⟩ := hP
        refine ⟨[dd], tgt_name, true, [(ls, .l (rs.map encRow)), (lh, .l (encH (rowF x (drawF g1 3).2 m).2))], rfl, fun _ _ _ _ _ => evts_nil, fun _ => ⟨encDeed (if (drawF (rowF x (drawF g1 3).2 m).2 2).1 = 0 then .see else .put x), setB [(ls, .l (rs.map encRow)), (lh, .l (encH (rowF x (drawF g1 3).2 m).2))] lh (.l (encH (drawF (rowF x (drawF g1 3).2 m).2 2).2)), setB_A _ _ _, fun _ _ _ _ _ => ?ev, ?p1, ?p2⟩, fun z => Bool.noConfusion z⟩
        case ev =>
          refine ev_ixL (l := [.tup [.str "see"], .tup [.str "put", .int x]]) (k := (drawF (rowF x (drawF g1 3).2 m).2 2).1) (ev_var 6 rfl) (ev_callX (ok__law_draw T) (hr.mono (by decide)) (eva_cons (ev_var 1 rfl) (eva_cons ev_int eva_nil)) (List.mem_cons_of_mem _ List.mem_cons_self) ⟨(rowF x (drawF g1 3).2 m).2, 2, rfl, by omega, by omega, rfl, rfl, rfl⟩) ?_
          obtain ⟨r, er, hr2⟩ := nat_of (k := 2) (drawF_lt (rowF x (drawF g1 3).2 m).2 (m := 2) (by omega))
          rw [er]
          match r, hr2 with
          | 0, _ => rfl
          | 1, _ => rfl
        case p1 =>
          show _ = ((rowF x (drawF g1 3).2 m).1 ++ [_]).map encDeed
          rw [List.map_append] <;> rfl
        case p2 => exact setB_b ne
      · have hlen := rowF_len x (drawF g1 3).2 (k + 1)
        have hval := rowF_val x (drawF g1 3).2 (k + 1)
        generalize rowF x (drawF g1 3).2 (k + 1) = rw_ at hlen hval ⊢
        obtain ⟨row, g3⟩ := rw_
        refine run_expr (ev_append (ev_var 4 rfl) (ev_callTy calld_tupL T.n_tuple bt_tuple (eva_cons (ev_var 7 rfl) eva_nil)) List.mem_cons_self List.mem_cons_self (by rw [List.length_map]; omega)) (run_nil ⟨g3, rs ++ [row], some d2, some (.lst [.tup [.str "see"], .tup [.str "put", .int x]]), some (.lst (row.map encDeed)), by rw [List.length_append, hj] <;> rfl, fun r hr => ?_, ?_⟩)
        · rcases List.mem_append.mp hr with h | h
          · exact hok r h
          · rw [List.mem_singleton.mp h]
            refine ⟨by
              have : row.length = k + 1 := hlen
              omega, fun dd hdd v ev => ?_⟩
            rw [hval dd hdd v ev]
            omega
        · show En.mk _ _ (setB _ _ _) = _
          rw [setB_a ne, List.map_append] <;> rfl
    · subst e
      rw [intsD_length] at hj
      have hp : PlayOk rs := ⟨by omega, by omega, fun r hr => (hok r hr).1, fun r hr => (hok r hr).2⟩
      refine run_set 9 nd (ev_play T (hr.mono (by decide)) (eva_cons ev_str (eva_cons (ev_tupB (ev_var 4 rfl) List.mem_cons_self T.n_tuple) eva_nil)) hp) ?_
      refine run_drop (fun a ha => by
        rw [sub.M0] at ha
        exact List.mem_cons_of_mem _ ha) (fun p hp => by
        rw [List.mem_singleton.mp hp]
        exact List.mem_cons_self) ?_
      obtain ⟨k, ek, hk⟩ := nat_of (k := 16) (drawF_lt g (m := 16) (by omega))
      refine run_set 10 nd (ev_callX (ok__law_some_weaving T) (hr.mono (by decide)) (eva_cons (ev_var 1 rfl) (eva_cons (ev_var 9 rfl) (eva_cons (evq (ev_bin opd_add ev_int (ev_callX (ok__law_draw T) (hr.mono (by decide)) (eva_cons (ev_var 1 rfl) (eva_cons ev_int eva_nil)) (List.mem_cons_self) ⟨g, 16, rfl, by omega, by omega, rfl, rfl, rfl⟩)) (congrArg Dt.int (show _ = ((6 + k : Nat) : Int) by rw [ek]; omega))) eva_nil))) (by rw [setB_one]; exact List.mem_cons_self) ⟨(drawF g 16).2, rs, 6 + k, rfl, hp, by omega, rfl, rfl, rfl⟩) ?_
      rw [setB_one, setB_one]
      obtain ⟨hw, hwo, hwl⟩ := wv_ok hp.n1 (drawF g 16).2 (6 + k)
      generalize wvF rs (drawF g 16).2 (6 + k) = p at hw hwo hwl ⊢
      obtain ⟨g2, v⟩ := p
      dsimp only at hw hwo hwl ⊢
      have hvl : v.length ≤ 1000 := by omega
      have hgw : gw rs v = wrongW rs v := by
        unfold gw
        rw [hwo] <;> rfl
      refine run_set 11 nd ev_str ?_
      refine run_ifJ (k := gw rs v) ⟨lh :: F.M0, [some d0, some (.box lh), some d, some (.int ((nm : Nat) : Int)), some (.box ls), a5, a6, a7, a8, some (encPlay rs), some (.lst (v.map hD)), some (dueD rs v)], [(lh, .l (encH g2))]⟩
        (evt_cmp opd_gw (ev_call (ok__law_wrong T) (hr.mono (by decide)) (eva_cons (ev_var 9 rfl) (eva_cons (ev_var 10 rfl) eva_nil)) ⟨rs, false, v, rfl, hp, hw, hvl, rfl⟩) ev_bl) (fun e => ?_) (fun e => run_nil ?_) ?_
      · have ed : dueD rs v = .tup ((shrW rs v.length v).map hD) := by
          unfold dueD
          rw [← hgw, e, if_pos rfl]
        have hs := Bool.and_eq_true_iff.mp (show (okW rs (shrW rs v.length v) && wrongW rs (shrW rs v.length v)) = true from shrW_gw v.length v e)
        refine run_set 11 nd (ev_call (ok__law_shrunk T) (hr.mono (by decide)) (eva_cons (ev_var 9 rfl) (eva_cons (ev_var 10 rfl) eva_nil)) ⟨rs, false, v, rfl, hp, hw, hvl, rfl⟩) ?_
        refine ite_never (evt_not (k := true) (evt_val (ev_call (ok__law_flag T) (hr.mono (by decide)) (eva_cons (evq (ev_call (ok_is_wrong T) (hr.mono (by decide)) (eva_cons (ev_var 9 rfl) (eva_cons (ev_var 11 rfl) eva_nil)) ⟨rs, true, shrW rs v.length v, rfl, hp, shrW_in _ _ hw, Nat.le_trans (shrW_len _ _) hvl, hs.1, rfl⟩) (congrArg Dt.bl hs.2)) (eva_cons ev_bl eva_nil)) ⟨true, true, rfl, rfl⟩))) (run_nil (run_nil ?_))
        rw [ed] <;> rfl
      · have ed : dueD rs v = .str "notwrong" := by
          unfold dueD
          rw [← hgw, e, if_neg Bool.false_ne_true]
        rw [ed] <;> rfl
      refine ite_never (evt_not (k := true) (evt_val (ev_call (ok__law_is T 2) (hr.mono (by decide)) (eva_cons (ev_lst (eva_cons (ev_call (ok__law_told T) (hr.mono (by decide)) (eva_cons (ev_var 9 rfl) (eva_cons (ev_var 10 rfl) eva_nil)) ⟨rs, false, v, rfl, hp, hw, hvl, hwo, rfl⟩) eva_nil)) (eva_cons (ev_lst (eva_cons (ev_var 11 rfl) eva_nil)) eva_nil))
        ⟨.lst [dueD rs v], rfl, isd_one (isd_due rs v hvl), rfl⟩))) (run_nil (run_nil ⟨g2, some d, some (.int ((nm : Nat) : Int)), some (.box ls), a5, a6, a7, a8, some (encPlay rs), some (.lst (v.map hD)), some (dueD rs v), rfl⟩))
  · subst e
    exact run_ret ev_bl rfl

end
end Bs
set_option Elab.async false
set_option linter.all false
set_option maxRecDepth 100000
set_option maxHeartbeats 0
namespace Hd
open PySem PySem.Spec PyProof.Rows L2
theorem run (w : World) : HandSHeadRun.RunEq R (PySem.W.view R.prog [123]) hk ob 6000 lo w := by
  intro os
  kernel_rfl
end Hd
set_option Elab.async false
set_option linter.all false
set_option maxRecDepth 100000
set_option maxHeartbeats 0
namespace Bs
open PySem PySem.Spec PyProof.Rows L2
abbrev spLaw (K : PySem.W.Frag) : Sp := spR K fun ds d => ∃ (d0 : Dt) (is : List Int), ds = [d0] ∧ ScriptD K d0 is ∧ d = .bl true
theorem law_sp {K : PySem.W.Frag} {H : Hp} {a : Addr} {ns : List Int} (hS : SqL K H a (ns.map V.int)) : spLaw K [.ref a] H (fun v _ => v = .bl true) fun _ _ _ => False := by
  rcases hS with s | k
  · exact ⟨[], [.lst (ns.map Dt.int)], .bl true, fun _ m => (nomatch m), ⟨_, _, rfl, ⟨a, _, rfl, s, fun m => (nomatch m), reps_ints ns⟩, rfl⟩, ⟨_, ns, rfl, .inl rfl, rfl⟩, fun v H' _ e => e⟩
  · exact ⟨[], [.box a], .bl true, fun _ m => (nomatch m), ⟨_, _, rfl, rfl, rfl⟩, ⟨_, ns, rfl, .inr ⟨a, rfl, k⟩, rfl⟩, fun v H' _ e => e⟩
theorem facts {P : Program} {w : World} {K : PySem.W.Frag} {h : Heap} {mg : Str → Option Value} {fa : Addr} (KX : K.In h) (G : h.Ns mainGlobals mg) (hfa : mg "law" = some (.ref fa)) (c : He.SaysD Hd.fa Hd.fn K) (e : Hd.exB K = true) :
    ∃ fd : FuncData, (∀ (s : Shared) (u : Value), BindsTo s fd ⟨[u], []⟩ [("_law_script", u)]) ∧ ∀ base : Heap, FnOk P w K mg base CX0 13 fa fd ["_law_script"] (spLaw K) := by
  have T : Tx K mg := ⟨⟨h, KX, G⟩, c, e⟩
  obtain ⟨fd, D⟩ := T.d_law
  have e1 := hfa.symm.trans T.g_law
  cases e1
  have b := FunD.bindsA (ps := ["_law_script"]) D fun _ _ _ _ _ _ us hl => match us, hl with | [_], _ => rfl
  exact ⟨fd, fun s v => b s [v] rfl, fun base => fn_law T D⟩
end Bs
open PySem PySem.W PySem.Calls PyProof.Rows
theorem PySem.Challenge.cw_onepicture_k22_whole_weavings_shrunk_holds : PySem.Challenge.rw_onepicture_k22_whole_weavings_shrunk.Holds := by
  w_on; o_law
  refine HandSHeadRun.head_any (r := OpenLaw.row PySem.Challenge.rw_onepicture_k22_whole_weavings_shrunk) (q := view (OpenLaw.row PySem.Challenge.rw_onepicture_k22_whole_weavings_shrunk).prog [123]) (H := Hd.hk) (ob := Hd.ob) (M := 6000) (loose := Hd.lo) (d := HandSHeadRun.topDef (OpenLaw.row PySem.Challenge.rw_onepicture_k22_whole_weavings_shrunk).prog 123) (kwd := []) Hd.ob_eq
    (by kernel_rfl) (fun s => by kernel_rfl) Hd.run (by kernel_rfl) (by kernel_rfl) (by kernel_rfl) (by rfl) (by first | assumption | decide +kernel) (by decide +kernel) ⟨rfl, rfl, rfl, rfl, rfl, by decide +kernel⟩ ?hw ?hc
  case hw => w_witness2
  case hc =>
    refine L2.walk_ofE (l := PySem.Challenge.rw_onepicture_k22_whole_weavings_shrunk) (n := 63) (k := 13) (x := "_law_script") (CX := L2.CX0) rfl (by decide) (by kernel_rfl) ⟨rfl, by decide, by decide⟩ ?F (fun _ _ _ _ z => z)
    intro w mg fa h Y G hmg0
    obtain ⟨K, KX, c, ex⟩ := Y
    have hmg : mg ("law" : PySem.Str) = some (.ref fa) := by
      have e : (HandSHeadRun.topDef (OpenLaw.row PySem.Challenge.rw_onepicture_k22_whole_weavings_shrunk).prog 123).name = ("law" : PySem.Str) := by kernel_rfl
      rw [← e]
      exact hmg0
    obtain ⟨fd, hb, hF⟩ := Bs.facts (P := (PySem.Challenge.rw_onepicture_k22_whole_weavings_shrunk).prog) (w := w) KX G hmg c ex
    exact ⟨K, fd, Bs.spLaw K, KX, hb, fun H a ns hl _ hS => Bs.law_sp hS, fun base _ _ => hF base⟩
