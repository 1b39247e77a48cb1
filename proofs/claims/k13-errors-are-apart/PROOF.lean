import PyProof.Rows.All
import Wide.All
import OpenK.AllK
import Wide.FinOn
import HandS.ForMost
import HandS.Exc
import HandS.TryOnly
import HandS.ExcOwn
import HandS.WordsExc
import HandS.Defaults
import HandS.IsInst
import HandS.TupAny
import HandS.TupMul
import HandS.Flow
import HandS.HeadHook1
import HandS.HeadHook2
import HandS.Zip
import KE.GoesEnum
import KE.GoesNew
import HandS.HeadHook3
import HandS.HeadHook4
import HandS.Small
import KE.KStateDown
import HandS.Ends
import HandS.Head0
import HandS.Head1
import HandS.Head2
import HandS.HeadEnd
import HandS.ExcInit
import HandS.ExcField
import HandS.ExcIs
import HandS.TryMany
import HandS.Walk
import HandS.OwnEq
import HandS.Codes
import KE.KExcIs
import HandS.HotCalls
import HandS.Text
import KE.KIsAll
import PySem.Challenge.RW_hearsofit_k13_errors_are_apart
set_option Elab.async false
set_option linter.all false
set_option maxRecDepth 100000
set_option maxHeartbeats 4000000
/-! PL: values as trees, expressions as functions from the slots' trees to a tree. -/
namespace PL
open PySem PySem.Spec PyProof.Rows L2

inductive T where
  | non | bl (b : Bool) | int (i : Int) | str (x : Str) | lst (ts : List T) | tup (ts : List T) | obj (c : Nat) (ts : List T)

def cname : Nat → Str
  | 0 => "Rule"
  | 1 => "Thing"
  | _ => "World"
def flds : Nat → List Str
  | 0 => ["looked", "muting", "joining", "copying", "ways"]
  | 1 => ["here", "secret", "grouped", "followed", "wished", "muted"]
  | _ => ["things", "tracks", "inside", "tellings", "written"]
def cl (K : PySem.W.Frag) (c : Nat) : Addr := He.ga K (cname c)

mutual
/-- the value stands for the tree -/
def Rep (K : PySem.W.Frag) (H : Hp) : T → V → Prop
  | .non, v => v = .non
  | .bl b, v => v = .bl b
  | .int i, v => v = .int i
  | .str x, v => v = .str x
  | .lst ts, v => ∃ a vs, v = .ref a ∧ H a = some (.lst vs) ∧ Reps K H ts vs
  | .tup ts, v => ∃ a vs, v = .ref a ∧ SqT K H a vs ∧ Reps K H ts vs
  | .obj c ts, v => ∃ a dx vs, v = .ref a ∧ H a = some (.ins (cl K c) dx ((flds c).zip vs)) ∧ vs.length = (flds c).length ∧ Reps K H ts vs
def Reps (K : PySem.W.Frag) (H : Hp) : List T → List V → Prop
  | [], vs => vs = []
  | t :: ts, vs => ∃ v r, vs = v :: r ∧ Rep K H t v ∧ Reps K H ts r
end
section
variable {K : PySem.W.Frag} {H H' : Hp}
theorem sameT {a : Addr} {xs : List V} (e : Same H H') (h : SqT K H a xs) : SqT K H' a xs := by
  rcases h with (h | ⟨o, h⟩) | h
  · exact .inl (.inl (e _ _ h))
  · exact .inl (.inr ⟨o, e _ _ h⟩)
  · exact .inr h
mutual
theorem Rep.mono (e : Same H H') : ∀ {t : T} {v : V}, Rep K H t v → Rep K H' t v
  | .non, v, h => by unfold Rep at h ⊢; exact h
  | .bl b, v, h => by unfold Rep at h ⊢; exact h
  | .int i, v, h => by unfold Rep at h ⊢; exact h
  | .str x, v, h => by unfold Rep at h ⊢; exact h
  | .lst ts, v, h => by
    unfold Rep at h ⊢
    obtain ⟨a, vs, h1, h2, h3⟩ := h
    exact ⟨a, vs, h1, e _ _ h2, Reps.mono e h3⟩
  | .tup ts, v, h => by
    unfold Rep at h ⊢
    obtain ⟨a, vs, h1, h2, h3⟩ := h
    exact ⟨a, vs, h1, sameT e h2, Reps.mono e h3⟩
  | .obj c ts, v, h => by
    unfold Rep at h ⊢
    obtain ⟨a, dx, vs, h1, h2, h3, h4⟩ := h
    exact ⟨a, dx, vs, h1, e _ _ h2, h3, Reps.mono e h4⟩
theorem Reps.mono (e : Same H H') : ∀ {ts : List T} {vs : List V}, Reps K H ts vs → Reps K H' ts vs
  | [], vs, h => by unfold Reps at h ⊢; exact h
  | t :: ts, vs, h => by
    unfold Reps at h ⊢
    obtain ⟨v, r, h1, h2, h3⟩ := h
    exact ⟨v, r, h1, Rep.mono e h2, Reps.mono e h3⟩
end
theorem Reps.nil : Reps K H [] [] := by unfold Reps; rfl
theorem Reps.cons {t : T} {ts : List T} {v : V} {vs : List V} (h : Rep K H t v) (r : Reps K H ts vs) : Reps K H (t :: ts) (v :: vs) := by
  unfold Reps
  exact ⟨v, vs, rfl, h, r⟩
theorem Reps.inv {t : T} {ts : List T} {vs : List V} (h : Reps K H (t :: ts) vs) : ∃ v r, vs = v :: r ∧ Rep K H t v ∧ Reps K H ts r := by
  unfold Reps at h
  exact h
theorem Reps.inv0 {vs : List V} (h : Reps K H [] vs) : vs = [] := by
  unfold Reps at h
  exact h
theorem Reps.len : ∀ {ts : List T} {vs : List V}, Reps K H ts vs → vs.length = ts.length
  | [], vs, h => by rw [h.inv0]; rfl
  | t :: ts, vs, h => by
    obtain ⟨v, r, rfl, _, h3⟩ := h.inv
    rw [List.length_cons, List.length_cons, h3.len]
theorem Reps.get : ∀ {ts : List T} {vs : List V} {i : Nat} {t : T}, Reps K H ts vs → ts[i]? = some t → ∃ v, vs[i]? = some v ∧ Rep K H t v
  | [], vs, i, t, h, e => by simp at e
  | t :: ts, vs, 0, t', h, e => by
    obtain ⟨v, r, rfl, h2, _⟩ := h.inv
    have q : t = t' := Option.some.inj e
    subst q
    exact ⟨v, rfl, h2⟩
  | t :: ts, vs, i + 1, t', h, e => by
    obtain ⟨v, r, rfl, _, h3⟩ := h.inv
    exact h3.get (i := i) (t := t') e
theorem Reps.get' : ∀ {ts : List T} {vs : List V} {i : Nat} {v : V}, Reps K H ts vs → vs[i]? = some v → ∃ t, ts[i]? = some t ∧ Rep K H t v
  | [], vs, i, t, h, e => by rw [h.inv0] at e; simp at e
  | t :: ts, vs, 0, v', h, e => by
    obtain ⟨v, r, rfl, h2, _⟩ := h.inv
    have q : v = v' := Option.some.inj e
    subst q
    exact ⟨t, rfl, h2⟩
  | t :: ts, vs, i + 1, v', h, e => by
    obtain ⟨v, r, rfl, _, h3⟩ := h.inv
    exact h3.get' (i := i) (v := v') e
theorem Reps.append : ∀ {ts us : List T} {vs ws : List V}, Reps K H ts vs → Reps K H us ws → Reps K H (ts ++ us) (vs ++ ws)
  | [], us, vs, ws, h, g => by rw [h.inv0]; exact g
  | t :: ts, us, vs, ws, h, g => by
    obtain ⟨v, r, rfl, h2, h3⟩ := h.inv
    exact Reps.cons h2 (h3.append g)
theorem Reps.atI {ts : List T} {vs : List V} {i : Int} {t : T} (h : Reps K H ts vs) (e : atI ts i = some t) : ∃ v, atI vs i = some v ∧ Rep K H t v := by
  unfold L2.atI at e ⊢
  rw [h.len]
  cases q : ixN ts.length i with
  | none => rw [q] at e; cases e
  | some j =>
    rw [q] at e
    exact h.get (i := j) e
theorem zip_lookup : ∀ {ns : List Str} {vs : List V} {j : Nat} {f : Str} {v : V}, ns.Nodup → ns[j]? = some f → vs[j]? = some v → (ns.zip vs).lookup f = some v
  | [], _, _, _, _, _, h, _ => by simp at h
  | _ :: _, [], _, _, _, _, _, h => by simp at h
  | n :: ns, u :: vs, 0, f, v, _, h1, h2 => by
    have e1 : n = f := Option.some.inj h1
    have e2 : u = v := Option.some.inj h2
    subst e1 e2
    simp [List.lookup]
  | n :: ns, u :: vs, j + 1, f, v, nd, h1, h2 => by
    have h1' : ns[j]? = some f := h1
    have ne : f ≠ n := fun e => (List.nodup_cons.mp nd).1 (by rw [← e]; exact List.mem_of_getElem? h1')
    have ih := zip_lookup (j := j) (vs := vs) (v := v) (List.nodup_cons.mp nd).2 h1' h2
    show List.lookup f ((n, u) :: ns.zip vs) = some v
    rw [List.lookup_cons, show (f == n) = false from beq_eq_false_iff_ne.mpr ne]
    exact ih
theorem zip_none : ∀ {ns : List Str} {vs : List V} {f : Str}, f ∉ ns → (ns.zip vs).lookup f = none
  | [], _, _, _ => rfl
  | _ :: _, [], _, _ => rfl
  | n :: ns, u :: vs, f, h => by
    rw [List.mem_cons, not_or] at h
    show List.lookup f ((n, u) :: ns.zip vs) = none
    rw [List.lookup_cons, show (f == n) = false from beq_eq_false_iff_ne.mpr h.1]
    exact zip_none h.2
theorem putF_new : ∀ {fs : List (Str × V)} {f : Str} {v : V}, fs.lookup f = none → putF f v fs = fs ++ [(f, v)]
  | [], f, v, _ => rfl
  | (g, u) :: fs, f, v, h => by
    rw [List.lookup_cons] at h
    cases q : (f == g) with
    | true => rw [q] at h; cases h
    | false =>
      rw [q] at h
      have ne : ¬ g = f := fun e => beq_eq_false_iff_ne.mp q e.symm
      show (if g = f then (g, v) :: fs else (g, u) :: putF f v fs) = _
      rw [if_neg ne, putF_new h]
      rfl
end

/-! ### how the heaps grow: Hi what will never change, H all -/
structure Grow (Hi H Hi' H' : Hp) : Prop where
  a : Same Hi Hi'
  b : Same H H'
  c : Same Hi' H'
  d : ∀ b, Hi b = none → Hi' b ≠ none → H b = none
theorem Grow.refl {Hi H : Hp} (e : Same Hi H) : Grow Hi H Hi H := ⟨Same.refl _, Same.refl _, e, fun b h1 h2 => absurd h1 h2⟩
theorem Grow.trans {Hi H Hi1 H1 Hi2 H2 : Hp} (x : Grow Hi H Hi1 H1) (y : Grow Hi1 H1 Hi2 H2) : Grow Hi H Hi2 H2 :=
  ⟨x.a.trans y.a, x.b.trans y.b, y.c, fun b h1 h2 => by
    cases q : Hi1 b with
    | none => exact x.b.free (y.d b q h2)
    | some o => exact x.d b h1 (by rw [q]; simp)⟩
theorem same_upd {H : Hp} {p : Addr} {o : HO} (h : H p = none) : Same H (upd H p o) := fun b u e => by
  rw [upd_ne (ne_of_none e h)]
  exact e
theorem same_upd2 {Hi H : Hp} {p : Addr} {o : HO} (e : Same Hi H) : Same (upd Hi p o) (upd H p o) := fun b u q => by
  by_cases z : b = p
  · subst z; rw [upd_same] at q ⊢; exact q
  · rw [upd_ne z] at q ⊢; exact e b u q
theorem Grow.new {Hi H : Hp} {p : Addr} {o : HO} (e : Same Hi H) (h : H p = none) : Grow Hi H (upd Hi p o) (upd H p o) :=
  ⟨same_upd (e.free h), same_upd h, same_upd2 e, fun b h1 h2 => by
    by_cases z : b = p
    · subst z; exact h
    · rw [upd_ne z] at h2; exact absurd h1 h2⟩
/-- a cell of one's own is laid to what will never change -/
theorem Grow.freeze {H0 Hi0 Hi H : Hp} {p : Addr} {o : HO} (g : Grow Hi0 H0 Hi H) (h0 : H0 p = none) (h : H p = some o) (hi : Hi p = none) : Grow Hi0 H0 (upd Hi p o) H :=
  ⟨g.a.trans (same_upd hi), g.b, fun b u q => by
    by_cases z : b = p
    · subst z; rw [upd_same] at q; rw [h]; exact q
    · rw [upd_ne z] at q; exact g.c b u q, fun b h1 h2 => by
    by_cases z : b = p
    · subst z; exact h0
    · rw [upd_ne z] at h2; exact g.d b h1 h2⟩
theorem Grow.keepNone {Hi H Hi' H' : Hp} (g : Grow Hi H Hi' H') {a : Addr} (h1 : Hi a = none) (h2 : H a ≠ none) : Hi' a = none := by
  cases q : Hi' a with
  | none => rfl
  | some o => exact absurd (g.d a h1 (by rw [q]; simp)) h2

/-! ### slots -/
abbrev St := L2.St
inductive B where
  | imm (t : T) | own (ts : List T) | raw (v : V)
abbrev En := List (Option B)
structure REnv (K : PySem.W.Frag) (H0 Hi H : Hp) (σ : St) (env : En) : Prop where
  len : σ.length = env.length
  sub : Same Hi H
  imm : ∀ (i : Nat) (t : T), env[i]? = some (some (.imm t)) → ∃ v, σ[i]? = some (some v) ∧ Rep K Hi t v
  own : ∀ (i : Nat) (ts : List T), env[i]? = some (some (.own ts)) → ∃ a vs, σ[i]? = some (some (.ref a)) ∧ H a = some (.lst vs) ∧ Hi a = none ∧ H0 a = none ∧ Reps K Hi ts vs
  raw : ∀ (i : Nat) (v : V), env[i]? = some (some (.raw v)) → σ[i]? = some (some v)
  dis : ∀ (i j : Nat) (ts us : List T) (a : Addr), i ≠ j → env[i]? = some (some (.own ts)) → env[j]? = some (some (.own us)) → σ[i]? = some (some (.ref a)) → σ[j]? ≠ some (some (.ref a))
theorem REnv.grow {K : PySem.W.Frag} {H0 Hi H Hi' H' : Hp} {σ : St} {env : En} (r : REnv K H0 Hi H σ env) (g : Grow Hi H Hi' H') : REnv K H0 Hi' H' σ env :=
  ⟨r.len, g.c, fun i t e => by
    obtain ⟨v, h1, h2⟩ := r.imm i t e
    exact ⟨v, h1, h2.mono g.a⟩, fun i ts e => by
    obtain ⟨a, vs, h1, h2, h3, h4, h5⟩ := r.own i ts e
    exact ⟨a, vs, h1, g.b _ _ h2, g.keepNone h3 (by rw [h2]; simp), h4, h5.mono g.a⟩, r.raw, r.dis⟩
theorem getset {α : Type} {l : List (Option α)} {i j : Nat} {x y : α} (h : (l.set i (some x))[j]? = some (some y)) : (j = i ∧ x = y) ∨ (j ≠ i ∧ l[j]? = some (some y)) := by
  by_cases e : j = i
  · subst e
    by_cases hl : j < l.length
    · rw [List.getElem?_set_self hl] at h
      exact .inl ⟨rfl, Option.some.inj (Option.some.inj h)⟩
    · rw [List.getElem?_eq_none (by rw [List.length_set]; omega)] at h
      cases h
  · rw [List.getElem?_set_ne (fun z => e z.symm)] at h
    exact .inr ⟨e, h⟩
/-- a slot is set -/
theorem REnv.set {K : PySem.W.Frag} {H0 Hi H : Hp} {σ : St} {env : En} {i : Nat} {t : T} {v : V} (r : REnv K H0 Hi H σ env) (h : Rep K Hi t v) : REnv K H0 Hi H (σ.set i (some v)) (env.set i (some (.imm t))) := by
  have lt : ∀ {j : Nat} {b : B}, (env.set i (some (.imm t)))[j]? = some (some b) → j < σ.length := fun {j b} e => by
    have := (List.getElem?_eq_some_iff.mp e).1
    rw [List.length_set] at this
    rw [r.len]; exact this
  refine ⟨by rw [List.length_set, List.length_set]; exact r.len, r.sub, fun j u e => ?_, fun j ts e => ?_, fun j u e => ?_, fun j k ts us a ne e1 e2 s1 s2 => ?_⟩
  · have hl := lt e
    rcases getset e with ⟨rfl, q⟩ | ⟨ne, q⟩
    · injection q with q
      subst q
      exact ⟨v, by rw [List.getElem?_set_self hl], h⟩
    · obtain ⟨u', h1, h2⟩ := r.imm j u q
      exact ⟨u', by rw [List.getElem?_set_ne (fun z => ne z.symm)]; exact h1, h2⟩
  · rcases getset e with ⟨rfl, q⟩ | ⟨ne, q⟩
    · cases q
    · obtain ⟨a, vs, h1, h2⟩ := r.own j ts q
      exact ⟨a, vs, by rw [List.getElem?_set_ne (fun z => ne z.symm)]; exact h1, h2⟩
  · rcases getset e with ⟨rfl, q⟩ | ⟨ne, q⟩
    · cases q
    · rw [List.getElem?_set_ne (fun z => ne z.symm)]; exact r.raw j u q
  · rcases getset e1 with ⟨rfl, q⟩ | ⟨n1, q1⟩
    · cases q
    · rcases getset e2 with ⟨rfl, q⟩ | ⟨n2, q2⟩
      · cases q
      · rw [List.getElem?_set_ne (fun z => n1 z.symm)] at s1
        rw [List.getElem?_set_ne (fun z => n2 z.symm)] at s2
        exact r.dis j k ts us a ne q1 q2 s1 s2
/-- the own slots of a block forgotten -/
def wipeE (env : En) : List Nat → En
  | [] => env
  | v :: vs => (wipeE env vs).set v none
theorem getset0 {α : Type} {l : List (Option α)} {i j : Nat} {y : α} (h : (l.set i none)[j]? = some (some y)) : j ≠ i ∧ l[j]? = some (some y) := by
  by_cases e : j = i
  · subst e
    by_cases hl : j < l.length
    · rw [List.getElem?_set_self hl] at h
      cases h
    · rw [List.getElem?_eq_none (by rw [List.length_set]; omega)] at h
      cases h
  · rw [List.getElem?_set_ne (fun z => e z.symm)] at h
    exact ⟨e, h⟩
theorem REnv.unset {K : PySem.W.Frag} {H0 Hi H : Hp} {σ : St} {env : En} {i : Nat} (r : REnv K H0 Hi H σ env) : REnv K H0 Hi H (σ.set i none) (env.set i none) := by
  refine ⟨by rw [List.length_set, List.length_set]; exact r.len, r.sub, fun j u e => ?_, fun j ts e => ?_, fun j u e => ?_, fun j k ts us a ne e1 e2 s1 s2 => ?_⟩
  · obtain ⟨ne, q⟩ := getset0 e
    obtain ⟨u', h1, h2⟩ := r.imm j u q
    exact ⟨u', by rw [List.getElem?_set_ne (fun z => ne z.symm)]; exact h1, h2⟩
  · obtain ⟨ne, q⟩ := getset0 e
    obtain ⟨a, vs, h1, h2⟩ := r.own j ts q
    exact ⟨a, vs, by rw [List.getElem?_set_ne (fun z => ne z.symm)]; exact h1, h2⟩
  · obtain ⟨ne, q⟩ := getset0 e
    rw [List.getElem?_set_ne (fun z => ne z.symm)]
    exact r.raw j u q
  · obtain ⟨n1, q1⟩ := getset0 e1
    obtain ⟨n2, q2⟩ := getset0 e2
    rw [List.getElem?_set_ne (fun z => n1 z.symm)] at s1
    rw [List.getElem?_set_ne (fun z => n2 z.symm)] at s2
    exact r.dis j k ts us a ne q1 q2 s1 s2
theorem REnv.wipe {K : PySem.W.Frag} {H0 Hi H : Hp} {σ : St} {env : En} (r : REnv K H0 Hi H σ env) : ∀ vs : List Nat, REnv K H0 Hi H (L2.wipe σ vs) (wipeE env vs)
  | [] => r
  | _ :: vs => (r.wipe vs).unset
/-- a new list of one's own -/
theorem REnv.setOwn {K : PySem.W.Frag} {H0 Hi H : Hp} {σ : St} {env : En} {i : Nat} {p : Addr} (r : REnv K H0 Hi H σ env) (h0 : H0 p = none) (hp : H p = none) : REnv K H0 Hi (upd H p (.lst [])) (σ.set i (some (.ref p))) (env.set i (some (.own []))) := by
  have lt : ∀ {j : Nat} {b : B}, (env.set i (some (.own [])))[j]? = some (some b) → j < σ.length := fun {j b} e => by
    have := (List.getElem?_eq_some_iff.mp e).1
    rw [List.length_set] at this
    rw [r.len]; exact this
  have nop : ∀ {j : Nat} {ts : List T}, env[j]? = some (some (.own ts)) → σ[j]? ≠ some (some (.ref p)) := fun {j ts} e z => by
    obtain ⟨a, vs, h1, h2, _⟩ := r.own j ts e
    rw [h1] at z
    injection z with z; injection z with z; injection z with z
    subst z
    rw [h2] at hp; cases hp
  refine ⟨by rw [List.length_set, List.length_set]; exact r.len, r.sub.trans (same_upd hp), fun j u e => ?_, fun j ts e => ?_, fun j u e => ?_, fun j k ts us a ne e1 e2 s1 s2 => ?_⟩
  · rcases getset e with ⟨rfl, q⟩ | ⟨ne, q⟩
    · cases q
    · obtain ⟨u', h1, h2⟩ := r.imm j u q
      exact ⟨u', by rw [List.getElem?_set_ne (fun z => ne z.symm)]; exact h1, h2⟩
  · have hl := lt e
    rcases getset e with ⟨rfl, q⟩ | ⟨ne, q⟩
    · injection q with q
      subst q
      exact ⟨p, [], by rw [List.getElem?_set_self hl], upd_same, r.sub.free hp, h0, Reps.nil⟩
    · obtain ⟨a, vs, h1, h2, h3⟩ := r.own j ts q
      exact ⟨a, vs, by rw [List.getElem?_set_ne (fun z => ne z.symm)]; exact h1, by rw [upd_ne (ne_of_none h2 hp)]; exact h2, h3⟩
  · rcases getset e with ⟨rfl, q⟩ | ⟨ne, q⟩
    · cases q
    · rw [List.getElem?_set_ne (fun z => ne z.symm)]; exact r.raw j u q
  · have l1 := lt e1
    have l2 := lt e2
    rcases getset e1 with ⟨rfl, q⟩ | ⟨n1, q1⟩
    · rcases getset e2 with ⟨rfl, q'⟩ | ⟨n2, q2⟩
      · exact ne rfl
      · rw [List.getElem?_set_self l1] at s1
        injection s1 with s1; injection s1 with s1; injection s1 with s1
        subst s1
        rw [List.getElem?_set_ne (fun z => n2 z.symm)] at s2
        exact nop q2 s2
    · rcases getset e2 with ⟨rfl, q'⟩ | ⟨n2, q2⟩
      · rw [List.getElem?_set_self l2] at s2
        injection s2 with s2; injection s2 with s2; injection s2 with s2
        subst s2
        rw [List.getElem?_set_ne (fun z => n1 z.symm)] at s1
        exact nop q1 s1
      · rw [List.getElem?_set_ne (fun z => n1 z.symm)] at s1
        rw [List.getElem?_set_ne (fun z => n2 z.symm)] at s2
        exact r.dis j k ts us a ne q1 q2 s1 s2
/-- an own list is changed -/
theorem REnv.chg {K : PySem.W.Frag} {H0 Hi H : Hp} {σ : St} {env : En} {i : Nat} {p : Addr} {us ts : List T} {vs : List V} (r : REnv K H0 Hi H σ env) (he : env[i]? = some (some (.own us))) (hs : σ[i]? = some (some (.ref p))) (h : Reps K Hi ts vs) :
    REnv K H0 Hi (upd H p (.lst vs)) σ (env.set i (some (.own ts))) := by
  obtain ⟨a0, vs0, h1, h2, h3, h4, h5⟩ := r.own i us he
  rw [hs] at h1
  injection h1 with h1; injection h1 with h1; injection h1 with h1
  subst h1
  have hil : i < σ.length := (List.getElem?_eq_some_iff.mp hs).1
  refine ⟨by rw [List.length_set]; exact r.len, fun b o q => ?_, fun j u e => ?_, fun j ws e => ?_, fun j u e => ?_, fun j k ts' us' a ne e1 e2 s1 s2 => ?_⟩
  · have z : b ≠ p := ne_of_none q h3
    rw [upd_ne z]; exact r.sub b o q
  · rcases getset e with ⟨rfl, q⟩ | ⟨ne, q⟩
    · cases q
    · exact r.imm j u q
  · rcases getset e with ⟨rfl, q⟩ | ⟨ne, q⟩
    · injection q with q
      subst q
      exact ⟨p, vs, hs, upd_same, h3, h4, h⟩
    · obtain ⟨a, vs', g1, g2, g3, g4, g5⟩ := r.own j ws q
      have z : a ≠ p := fun z => by
        subst z
        exact r.dis j i ws us a ne q he g1 hs
      exact ⟨a, vs', g1, by rw [upd_ne z]; exact g2, g3, g4, g5⟩
  · rcases getset e with ⟨rfl, q⟩ | ⟨ne, q⟩
    · cases q
    · exact r.raw j u q
  · have f : ∀ {j : Nat} {ts : List T}, (env.set i (some (.own ts)))[j]? = (env.set i (some (.own ts)))[j]? := rfl
    rcases getset e1 with ⟨rfl, _⟩ | ⟨n1, q1⟩
    · rcases getset e2 with ⟨rfl, _⟩ | ⟨n2, q2⟩
      · exact ne rfl
      · exact r.dis _ _ us us' a ne he q2 s1 s2
    · rcases getset e2 with ⟨rfl, _⟩ | ⟨n2, q2⟩
      · exact r.dis _ _ ts' us a ne q1 he s1 s2
      · exact r.dis j k ts' us' a ne q1 q2 s1 s2
/-- a slot is set to a value of which no tree is told -/
theorem REnv.setRaw {K : PySem.W.Frag} {H0 Hi H : Hp} {σ : St} {env : En} {i : Nat} {v : V} (r : REnv K H0 Hi H σ env) : REnv K H0 Hi H (σ.set i (some v)) (env.set i (some (.raw v))) := by
  have lt : ∀ {j : Nat} {b : B}, (env.set i (some (.raw v)))[j]? = some (some b) → j < σ.length := fun {j b} e => by
    have := (List.getElem?_eq_some_iff.mp e).1
    rw [List.length_set] at this
    rw [r.len]; exact this
  refine ⟨by rw [List.length_set, List.length_set]; exact r.len, r.sub, fun j u e => ?_, fun j ts e => ?_, fun j u e => ?_, fun j k ts us a ne e1 e2 s1 s2 => ?_⟩
  · rcases getset e with ⟨rfl, q⟩ | ⟨ne, q⟩
    · cases q
    · obtain ⟨u', h1, h2⟩ := r.imm j u q
      exact ⟨u', by rw [List.getElem?_set_ne (fun z => ne z.symm)]; exact h1, h2⟩
  · rcases getset e with ⟨rfl, q⟩ | ⟨ne, q⟩
    · cases q
    · obtain ⟨a, vs, h1, h2⟩ := r.own j ts q
      exact ⟨a, vs, by rw [List.getElem?_set_ne (fun z => ne z.symm)]; exact h1, h2⟩
  · have hl := lt e
    rcases getset e with ⟨rfl, q⟩ | ⟨ne, q⟩
    · injection q with q
      subst q
      rw [List.getElem?_set_self hl]
    · rw [List.getElem?_set_ne (fun z => ne z.symm)]; exact r.raw j u q
  · rcases getset e1 with ⟨rfl, q⟩ | ⟨n1, q1⟩
    · cases q
    · rcases getset e2 with ⟨rfl, q⟩ | ⟨n2, q2⟩
      · cases q
      · rw [List.getElem?_set_ne (fun z => n1 z.symm)] at s1
        rw [List.getElem?_set_ne (fun z => n2 z.symm)] at s2
        exact r.dis j k ts us a ne q1 q2 s1 s2
end PL


set_option Elab.async false
set_option linter.all false
set_option maxRecDepth 100000
set_option maxHeartbeats 4000000
namespace PL
open PySem PySem.Spec PyProof.Rows L2

/-! ### readings that hold -/
def EvE (K : PySem.W.Frag) (te : TE) (f : En → Option T) : Prop := ∀ (H0 Hi H : Hp) (σ : St) (env : En) (t : T) (Q : VK), REnv K H0 Hi H σ env → f env = some t → (∀ v Hi' H', Grow Hi H Hi' H' → Rep K Hi' t v → Q v H') → te σ H Q
def EvA (K : PySem.W.Frag) (ta : TA) (f : En → Option (List T)) : Prop := ∀ (H0 Hi H : Hp) (σ : St) (env : En) (ts : List T) (Q : List V → Hp → Prop), REnv K H0 Hi H σ env → f env = some ts → (∀ vs Hi' H', Grow Hi H Hi' H' → Reps K Hi' ts vs → Q vs H') → ta σ H Q
def EvT (K : PySem.W.Frag) (tt : TT) (f : En → Option Bool) : Prop := ∀ (H0 Hi H : Hp) (σ : St) (env : En) (b : Bool) (Q : Bool → Hp → Prop), REnv K H0 Hi H σ env → f env = some b → (∀ Hi' H', Grow Hi H Hi' H' → Q b H') → tt σ H Q
def EvG (K : PySem.W.Frag) (g : TG) (is : List Nat) (h : T → En → Option En) : Prop := ∀ (H0 Hi H : Hp) (σ : St) (env env' : En) (t : T) (v : V) (Q : St → Hp → Prop), REnv K H0 Hi H σ env → Rep K Hi t v → h t env = some env' →
  (∀ σ', REnv K H0 Hi H σ' env' → σ'.length = σ.length → (∀ j, j ∉ is → σ'[j]? = σ[j]?) → Q σ' H) → g v σ H Q
def EvGs (K : PySem.W.Frag) (g : TGs) (n : Nat) (is : List Nat) (h : List T → En → Option En) : Prop := (∀ ts env env', h ts env = some env' → ts.length = n) ∧ ∀ (H0 Hi H : Hp) (σ : St) (env env' : En) (ts : List T) (vs : List V) (Q : St → Hp → Prop), REnv K H0 Hi H σ env → Reps K Hi ts vs → h ts env = some env' →
  (∀ σ', REnv K H0 Hi H σ' env' → σ'.length = σ.length → (∀ j, j ∉ is → σ'[j]? = σ[j]?) → Q σ' H) → g vs σ H Q
inductive R where
  | nx (env : En) | rt (t : T) | bk (env : En) | ct (env : En)
def Post (K : PySem.W.Frag) (H0i H0 Hs : Hp) (D : Ends) : R → Prop
  | .nx env => ∀ Hi H σ, Same Hs Hi → Grow H0i H0 Hi H → REnv K H0 Hi H σ env → D.nx σ H
  | .rt t => ∀ v Hi H, Grow H0i H0 Hi H → Rep K Hi t v → D.rt v H
  | .bk env => ∀ Hi H σ, Same Hs Hi → Grow H0i H0 Hi H → REnv K H0 Hi H σ env → D.bk σ H
  | .ct env => ∀ Hi H σ, Same Hs Hi → Grow H0i H0 Hi H → REnv K H0 Hi H σ env → D.ct σ H
theorem Post.mono {K : PySem.W.Frag} {H0i H0 Hs Hs' : Hp} {D : Ends} (e : Same Hs Hs') : ∀ {r : R}, Post K H0i H0 Hs D r → Post K H0i H0 Hs' D r
  | .nx env, k => fun Hi H σ s => k Hi H σ (e.trans s)
  | .rt t, k => k
  | .bk env, k => fun Hi H σ s => k Hi H σ (e.trans s)
  | .ct env, k => fun Hi H σ s => k Hi H σ (e.trans s)
def EvS (K : PySem.W.Frag) (ts : TS) (g : En → Option R) : Prop := ∀ (H0i H0 Hi H : Hp) (σ : St) (env : En) (D : Ends) (r : R), Grow H0i H0 Hi H → REnv K H0 Hi H σ env → g env = some r → Post K H0i H0 Hi D r → ts D σ H

structure EF (X : Cx) (e : Expr) (te : TE) (f : En → Option T) : Prop where
  p : PE X e te
  q : EvE X.K te f
structure AF (X : Cx) (es : List Expr) (n : Nat) (ta : TA) (f : En → Option (List T)) : Prop where
  p : PA X es ta
  q : EvA X.K ta f
  len : ∀ env ts, f env = some ts → ts.length = n
structure TF (X : Cx) (e : Expr) (tt : TT) (f : En → Option Bool) : Prop where
  p : PT X e tt
  q : EvT X.K tt f
structure WF (X : Cx) (e : Expr) (tt : TT) (f : En → Option Bool) : Prop where
  p : PW X e tt
  q : EvT X.K tt f
structure GF (X : Cx) (e : Expr) (g : TG) (is : List Nat) (h : T → En → Option En) : Prop where
  p : PG X e g
  q : EvG X.K g is h
structure GsF (X : Cx) (es : List Expr) (g : TGs) (n : Nat) (is : List Nat) (h : List T → En → Option En) : Prop where
  p : PGs X es g
  q : EvGs X.K g n is h
structure SF (X : Cx) (st : Stmt) (ts : TS) (g : En → Option R) : Prop where
  p : PS X st ts
  q : EvS X.K ts g
structure SsF (X : Cx) (st : List Stmt) (ts : TS) (g : En → Option R) : Prop where
  p : PSs X st ts
  q : EvS X.K ts g

/-! ### names and constants -/
def eVar (i : Nat) : En → Option T := fun env => match env[i]? with
  | some (some (.imm t)) => some t
  | _ => none
def eC (t : T) : En → Option T := fun _ => some t
section
variable {X : Cx} {K : PySem.W.Frag}
theorem ev_var (i : Nat) : EvE K (tVar i) (eVar i) := fun H0 Hi H σ env t Q r e k => by
  unfold eVar at e
  split at e
  · rename_i u h
    have q : u = t := Option.some.inj e
    subst q
    obtain ⟨v, h1, h2⟩ := r.imm i u h
    exact ⟨v, h1, k v Hi H (Grow.refl r.sub) h2⟩
  · cases e
theorem ef_var (i : Nat) {x : Str} {pos : Pos} (hN : X.N[i]? = some x := by rfl) (hv : Vis X.env.scope x := by first | exact Or.inl rfl | exact Or.inr (Or.inl rfl) | exact Or.inr (Or.inr rfl)) (hd : (x == ("__debug__" : Str)) = false := by decide)
    (hcd : (x == ("__classdict__" : Str)) = false := by decide) : EF X (.Name x pos) (tVar i) (eVar i) := ⟨pe_var hN hv hd hcd, ev_var i⟩
theorem ev_c {t : T} {v : V} (h : ∀ H, Rep K H t v) : EvE K (tC v) (eC t) := fun H0 Hi H σ env t' Q r e k => by
  have q : t = t' := Option.some.inj e
  subst q
  exact k v Hi H (Grow.refl r.sub) (h Hi)
theorem ef_int {i j pos} : EF X (.Constant (.int i) j pos) (tC (.int i)) (eC (.int i)) := ⟨pe_int, ev_c fun H => by unfold Rep; rfl⟩
theorem ef_bl {b j pos} : EF X (.Constant (.bool b) j pos) (tC (.bl b)) (eC (.bl b)) := ⟨pe_bl, ev_c fun H => by unfold Rep; rfl⟩
theorem ef_non {j pos} : EF X (.Constant .none j pos) (tC .non) (eC .non) := ⟨pe_non, ev_c fun H => by unfold Rep; rfl⟩
theorem ef_str {x j pos} : EF X (.Constant (.str x) j pos) (tC (.str x)) (eC (.str x)) := ⟨pe_str, ev_c fun H => by unfold Rep; rfl⟩
/-- a module's constant -/
structure GlT (K : PySem.W.Frag) (mg : Str → Option Value) (x : Str) (v : V) (t : T) : Prop where
  ex : ∃ u, mg x = some u ∧ RelV v u
  rep : ∀ H, Rep K H t v
theorem ef_glob {x : Str} {v : V} {t : T} {pos : Pos} (G : GlT X.K X.mg x v t) (hg : Gl X x := by rfl) (hd : (x == ("__debug__" : Str)) = false := by decide) : EF X (.Name x pos) (tC v) (eC t) := by
  obtain ⟨u, h1, h2⟩ := G.ex
  exact ⟨pe_glob hg h1 h2 hd, ev_c G.rep⟩

/-! ### arguments, displays -/
def aNil : En → Option (List T) := fun _ => some []
def aCons (f : En → Option T) (g : En → Option (List T)) : En → Option (List T) := fun env => match f env with
  | some t => (match g env with
    | some ts => some (t :: ts)
    | none => none)
  | none => none
theorem aCons_inv {f : En → Option T} {g : En → Option (List T)} {env : En} {us : List T} (h : aCons f g env = some us) : ∃ t ts, f env = some t ∧ g env = some ts ∧ us = t :: ts := by
  unfold aCons at h
  split at h
  · rename_i t e1
    split at h
    · rename_i ts e2
      exact ⟨t, ts, e1, e2, (Option.some.inj h).symm⟩
    · cases h
  · cases h
theorem ev_cons {te : TE} {ta : TA} {f : En → Option T} {g : En → Option (List T)} (h1 : EvE K te f) (h2 : EvA K ta g) : EvA K (tCons te ta) (aCons f g) := fun H0 Hi H σ env us Q r e k => by
  obtain ⟨t, ts, e1, e2, rfl⟩ := aCons_inv e
  exact h1 H0 Hi H σ env t _ r e1 fun v Hi1 H1 g1 rv => h2 H0 Hi1 H1 σ env ts _ (r.grow g1) e2 fun vs Hi2 H2 g2 rvs => k _ _ _ (g1.trans g2) (Reps.cons (rv.mono g2.a) rvs)
theorem af_nil : AF X [] 0 tNil aNil := ⟨pa_nil, fun H0 Hi H σ env ts Q r e k => by
  have q : [] = ts := Option.some.inj e
  subst q
  exact k [] Hi H (Grow.refl r.sub) Reps.nil, fun env ts e => by
  have q : [] = ts := Option.some.inj e
  subst q
  rfl⟩
theorem af_cons {e : Expr} {es : List Expr} {n : Nat} {te : TE} {ta : TA} {f : En → Option T} {g : En → Option (List T)} (h1 : EF X e te f) (h2 : AF X es n ta g) (hs : starEach (e :: es) X.env = (false, eval e X.env) :: starEach es X.env := by rfl) :
    AF X (e :: es) (n + 1) (tCons te ta) (aCons f g) := ⟨pa_cons h1.p h2.p hs, ev_cons h1.q h2.q, fun env us q => by
  obtain ⟨t, ts, e1, e2, rfl⟩ := aCons_inv q
  rw [List.length_cons, h2.len _ _ e2]⟩
def eTup (g : En → Option (List T)) : En → Option T := fun env => match g env with
  | some ts => some (.tup ts)
  | none => none
def eLst (g : En → Option (List T)) : En → Option T := fun env => match g env with
  | some ts => some (.lst ts)
  | none => none
theorem ef_tup {es : List Expr} {n : Nat} {ta : TA} {g : En → Option (List T)} {x1} {pos : Pos} (h : AF X es n ta g) (hn : n ≤ sizeLine := by decide) : EF X (.Tuple es x1 pos) (tTup ta) (eTup g) := ⟨pe_tup h.p, fun H0 Hi H σ env t Q r e k => by
  unfold eTup at e
  split at e
  · rename_i ts e1
    have q := Option.some.inj e
    subst q
    refine h.q H0 Hi H σ env ts _ r e1 fun vs Hi1 H1 g1 rvs => ⟨by rw [rvs.len, h.len _ _ e1]; exact hn, fun p hp => ?_⟩
    refine k _ (upd Hi1 p (.tup vs)) _ (g1.trans (Grow.new g1.c hp)) ?_
    unfold Rep
    exact ⟨p, vs, rfl, .inl (.inl upd_same), rvs.mono (same_upd (g1.c.free hp))⟩
  · cases e⟩
theorem ef_lst {es : List Expr} {n : Nat} {ta : TA} {g : En → Option (List T)} {pos : Pos} (h : AF X es n ta g) (hn : n ≤ sizeLine := by decide) : EF X (.List es pos) (tLst ta) (eLst g) := ⟨pe_lst h.p, fun H0 Hi H σ env t Q r e k => by
  unfold eLst at e
  split at e
  · rename_i ts e1
    have q := Option.some.inj e
    subst q
    refine h.q H0 Hi H σ env ts _ r e1 fun vs Hi1 H1 g1 rvs => ⟨by rw [rvs.len, h.len _ _ e1]; exact hn, fun p hp => ?_⟩
    refine k _ (upd Hi1 p (.lst vs)) _ (g1.trans (Grow.new g1.c hp)) ?_
    unfold Rep
    exact ⟨p, vs, rfl, upd_same, rvs.mono (same_upd (g1.c.free hp))⟩
  · cases e⟩

/-! ### operators by values -/
def R2OK (K : PySem.W.Frag) (r : R2) (o : T → T → Option T) : Prop := ∀ (Hi H : Hp) (x y t : T) (v u : V) (Q : VK), Same Hi H → o x y = some t → Rep K Hi x v → Rep K Hi y u → (∀ z Hi' H', Grow Hi H Hi' H' → Rep K Hi' t z → Q z H') → r v u H Q
def e2 (o : T → T → Option T) (f g : En → Option T) : En → Option T := fun env => match f env with
  | some x => (match g env with
    | some y => o x y
    | none => none)
  | none => none
theorem e2_inv {o : T → T → Option T} {f g : En → Option T} {env : En} {t : T} (h : e2 o f g env = some t) : ∃ x y, f env = some x ∧ g env = some y ∧ o x y = some t := by
  unfold e2 at h
  split at h
  · rename_i x e1
    split at h
    · rename_i y e2
      exact ⟨x, y, e1, e2, h⟩
    · cases h
  · cases h
theorem ev_op {r : R2} {o : T → T → Option T} {ta tb : TE} {f g : En → Option T} (ok : R2OK K r o) (h1 : EvE K ta f) (h2 : EvE K tb g) : EvE K (tOp r ta tb) (e2 o f g) := fun H0 Hi H σ env t Q re e k => by
  obtain ⟨x, y, e1, e2, e3⟩ := e2_inv e
  exact h1 H0 Hi H σ env x _ re e1 fun v Hi1 H1 g1 rv => h2 H0 Hi1 H1 σ env y _ (re.grow g1) e2 fun u Hi2 H2 g2 ru => ok Hi2 H2 x y t v u Q g2.c e3 (rv.mono g2.a) ru fun z Hi' H' g3 rz => k z Hi' H' ((g1.trans g2).trans g3) rz
theorem ef_bin {a b : Expr} {op : Operator} {r : R2} {o : T → T → Option T} {ta tb : TE} {f g : En → Option T} {pos : Pos} (ho : OpR X (binaryOp op) r) (ok : R2OK X.K r o) (h1 : EF X a ta f) (h2 : EF X b tb g) : EF X (.BinOp a op b pos) (tOp r ta tb) (e2 o f g) :=
  ⟨pe_op ho h1.p h2.p, ev_op ok h1.q h2.q⟩
theorem ef_cmp {a b : Expr} {op : CmpOp} {r : R2} {o : T → T → Option T} {ta tb : TE} {f g : En → Option T} {pos : Pos} (ho : OpR X (compareOp op) r) (ok : R2OK X.K r o) (h1 : EF X a ta f) (h2 : EF X b tb g) (hm : behindInMarks op b = false) :
    EF X (.Compare a [op] [b] pos) (tOp r ta tb) (e2 o f g) := ⟨pe_cmpR ho h1.p h2.p hm, ev_op ok h1.q h2.q⟩
theorem ef_ix {a b : Expr} {r : R2} {o : T → T → Option T} {ta tb : TE} {f g : En → Option T} {pos : Pos} (ho : IxR X r) (ok : R2OK X.K r o) (h1 : EF X a ta f) (h2 : EF X b tb g) (hs : PlainIx b := by exact fun _ _ => rfl) :
    EF X (.Subscript a b pos) (tOp r ta tb) (e2 o f g) := ⟨pe_ix ho h1.p h2.p hs, ev_op ok h1.q h2.q⟩
/-- a value's truth, where it is a bool -/
def bOf (f : En → Option T) : En → Option Bool := fun env => match f env with
  | some (.bl b) => some b
  | _ => none
theorem bOf_inv {f : En → Option T} {env : En} {b : Bool} (h : bOf f env = some b) : f env = some (.bl b) := by
  unfold bOf at h
  split at h
  · rename_i c e
    rw [e, Option.some.inj h]
  · cases h
theorem ev_b {te : TE} {f : En → Option T} (h : EvE K te f) : EvT K (tB te) (bOf f) := fun H0 Hi H σ env b Q r e k => by
  refine h H0 Hi H σ env _ _ r (bOf_inv e) fun v Hi1 H1 g1 rv => ?_
  unfold Rep at rv
  exact ⟨b, rv, k _ _ g1⟩
theorem tf_cmp {a b : Expr} {op : CmpOp} {r : R2} {o : T → T → Option T} {ta tb : TE} {f g : En → Option T} {pos : Pos} (ho : OpR X (compareOp op) r) (ok : R2OK X.K r o) (h1 : EF X a ta f) (h2 : EF X b tb g) (hm : behindInMarks op b = false) :
    TF X (.Compare a [op] [b] pos) (tTest (tOp r ta tb)) (bOf (e2 o f g)) := ⟨pt_cmpR ho h1.p h2.p hm, ev_b (ev_op ok h1.q h2.q)⟩
theorem tf_val {e : Expr} {t : TE} {f : En → Option T} (h : EF X e t f) (he : ∀ whole, isTrue e X.env whole = (do let v ← whole; standAt e.pos; holding [v] (truthy v)) := by intro _; rfl) : TF X e (tB t) (bOf f) := ⟨pt_val h.p he, ev_b h.q⟩
/-- the truth of a list or tuple -/
def sOf (f : En → Option T) : En → Option Bool := fun env => match f env with
  | some (.lst ts) => some (!ts.isEmpty)
  | some (.tup ts) => some (!ts.isEmpty)
  | _ => none
def bNot (f : En → Option Bool) : En → Option Bool := fun env => match f env with
  | some b => some (!b)
  | none => none
def bAnd (f g : En → Option Bool) : En → Option Bool := fun env => match f env with
  | some true => g env
  | some false => some false
  | none => none
def bOr (f g : En → Option Bool) : En → Option Bool := fun env => match f env with
  | some false => g env
  | some true => some true
  | none => none
theorem ev_not {tt : TT} {f : En → Option Bool} (h : EvT K tt f) : EvT K (L2.tNot tt) (bNot f) := fun H0 Hi H σ env b Q r e k => by
  unfold bNot at e
  split at e
  · rename_i c e1
    have q := Option.some.inj e
    subst q
    exact h H0 Hi H σ env c _ r e1 fun Hi1 H1 g1 => k _ _ g1
  · cases e
theorem ev_and {tt uu : TT} {f g : En → Option Bool} (h : EvT K tt f) (h' : EvT K uu g) : EvT K (L2.tAnd tt uu) (bAnd f g) := fun H0 Hi H σ env b Q r e k => by
  unfold bAnd at e
  split at e
  · rename_i e1
    exact h H0 Hi H σ env true _ r e1 fun Hi1 H1 g1 => iteT (h' H0 Hi1 H1 σ env b _ (r.grow g1) e fun Hi2 H2 g2 => k _ _ (g1.trans g2))
  · rename_i e1
    have q := Option.some.inj e
    subst q
    exact h H0 Hi H σ env false _ r e1 fun Hi1 H1 g1 => iteF (k _ _ g1)
  · cases e
theorem ev_or {tt uu : TT} {f g : En → Option Bool} (h : EvT K tt f) (h' : EvT K uu g) : EvT K (L2.tOr tt uu) (bOr f g) := fun H0 Hi H σ env b Q r e k => by
  unfold bOr at e
  split at e
  · rename_i e1
    exact h H0 Hi H σ env false _ r e1 fun Hi1 H1 g1 => iteF (h' H0 Hi1 H1 σ env b _ (r.grow g1) e fun Hi2 H2 g2 => k _ _ (g1.trans g2))
  · rename_i e1
    have q := Option.some.inj e
    subst q
    exact h H0 Hi H σ env true _ r e1 fun Hi1 H1 g1 => iteT (k _ _ g1)
  · cases e
theorem tf_not {a : Expr} {tA : TT} {f : En → Option Bool} {pos : Pos} (h : TF X a tA f) : TF X (.UnaryOp .Not a pos) (L2.tNot tA) (bNot f) := ⟨pt_not h.p, ev_not h.q⟩
theorem wf_and1 {a : Expr} {tA : TT} {f : En → Option Bool} {pos : Pos} (h : TF X a tA f) : WF X (.BoolOp .And [a] pos) tA f := ⟨pw_and1 h.p, h.q⟩
theorem wf_or1 {a : Expr} {tA : TT} {f : En → Option Bool} {pos : Pos} (h : TF X a tA f) : WF X (.BoolOp .Or [a] pos) tA f := ⟨pw_or1 h.p, h.q⟩
theorem wf_and {a b : Expr} {rest : List Expr} {tA tB' : TT} {f g : En → Option Bool} {pos : Pos} (h : TF X a tA f) (h' : WF X (.BoolOp .And (b :: rest) pos) tB' g) : WF X (.BoolOp .And (a :: b :: rest) pos) (L2.tAnd tA tB') (bAnd f g) := ⟨pw_and h.p h'.p, ev_and h.q h'.q⟩
theorem wf_or {a b : Expr} {rest : List Expr} {tA tB' : TT} {f g : En → Option Bool} {pos : Pos} (h : TF X a tA f) (h' : WF X (.BoolOp .Or (b :: rest) pos) tB' g) : WF X (.BoolOp .Or (a :: b :: rest) pos) (L2.tOr tA tB') (bOr f g) := ⟨pw_or h.p h'.p, ev_or h.q h'.q⟩
theorem WF.t {e : Expr} {tt : TT} {f : En → Option Bool} (h : WF X e tt f) : TF X e tt f := ⟨h.p.pt, h.q⟩
theorem tf_seq {a : Expr} {ta : TE} {f : En → Option T} (h : EF X a ta f) (he : ∀ whole, isTrue a X.env whole = (do let v ← whole; standAt a.pos; holding [v] (truthy v)) := by intro _; rfl) (hK : X.K = K := by rfl) :
    TF X a (fun σ H Q => ta σ H fun x H' => ∃ k, TruV K x H' k ∧ Q k H') (sOf f) := by
  subst hK
  exact ⟨pt_truth h.p he, fun H0 Hi H σ env b Q r e k => by
  have em : ∀ {ts : List T} {vs : List V} {Hj : Hp}, Reps X.K Hj ts vs → (!vs.isEmpty) = !ts.isEmpty := fun {ts vs Hj} rr => by
    cases ts with
    | nil => rw [rr.inv0]; rfl
    | cons t ts => obtain ⟨v, r, rfl, _⟩ := rr.inv; rfl
  unfold sOf at e
  split at e
  · rename_i ts e1
    refine h.q H0 Hi H σ env _ _ r e1 fun v Hi1 H1 g1 rv => ?_
    unfold Rep at rv
    obtain ⟨a, vs, rfl, h2, h3⟩ := rv
    exact ⟨b, .inl ⟨vs, g1.c.seq (SqL.of h2), by rw [em h3, Option.some.inj e]⟩, k _ _ g1⟩
  · rename_i ts e1
    refine h.q H0 Hi H σ env _ _ r e1 fun v Hi1 H1 g1 rv => ?_
    unfold Rep at rv
    obtain ⟨a, vs, rfl, h2, h3⟩ := rv
    exact ⟨b, .inr (.inl ⟨vs, sameT g1.c h2, by rw [em h3, Option.some.inj e]⟩), k _ _ g1⟩
  · cases e⟩
/-! ### and, or, not, if as values -/
def eAnd (f g : En → Option T) : En → Option T := fun env => match f env with
  | some (.bl true) => g env
  | some (.bl false) => some (.bl false)
  | _ => none
def eOr (f g : En → Option T) : En → Option T := fun env => match f env with
  | some (.bl false) => g env
  | some (.bl true) => some (.bl true)
  | _ => none
def eNot (f : En → Option T) : En → Option T := fun env => match f env with
  | some (.bl b) => some (.bl (!b))
  | _ => none
def eIf (c : En → Option Bool) (f g : En → Option T) : En → Option T := fun env => match c env with
  | some true => f env
  | some false => g env
  | none => none
theorem ef_one {a : Expr} {op} {t : TE} {f : En → Option T} {pos : Pos} (h : EF X a t f) : EF X (.BoolOp op [a] pos) t f := ⟨pe_one h.p, h.q⟩
theorem ef_and {a b : Expr} {rest : List Expr} {ta tb : TE} {f g : En → Option T} {pos : Pos} (h : EF X a ta f) (h' : EF X (.BoolOp .And (b :: rest) pos) tb g) : EF X (.BoolOp .And (a :: b :: rest) pos) (tAndV ta tb) (eAnd f g) := ⟨pe_and h.p h'.p, fun H0 Hi H σ env t Q r e k => by
  unfold eAnd at e
  split at e
  · rename_i e1
    refine h.q H0 Hi H σ env _ _ r e1 fun v Hi1 H1 g1 rv => ?_
    unfold Rep at rv
    exact ⟨true, rv, iteT (h'.q H0 Hi1 H1 σ env t _ (r.grow g1) e fun v Hi2 H2 g2 => k _ _ _ (g1.trans g2))⟩
  · rename_i e1
    have q := Option.some.inj e
    subst q
    refine h.q H0 Hi H σ env _ _ r e1 fun v Hi1 H1 g1 rv => ?_
    unfold Rep at rv
    exact ⟨false, rv, iteF (k _ _ _ g1 (by unfold Rep; rfl))⟩
  · cases e⟩
theorem ef_or {a b : Expr} {rest : List Expr} {ta tb : TE} {f g : En → Option T} {pos : Pos} (h : EF X a ta f) (h' : EF X (.BoolOp .Or (b :: rest) pos) tb g) : EF X (.BoolOp .Or (a :: b :: rest) pos) (tOrV ta tb) (eOr f g) := ⟨pe_or h.p h'.p, fun H0 Hi H σ env t Q r e k => by
  unfold eOr at e
  split at e
  · rename_i e1
    refine h.q H0 Hi H σ env _ _ r e1 fun v Hi1 H1 g1 rv => ?_
    unfold Rep at rv
    exact ⟨false, rv, iteF (h'.q H0 Hi1 H1 σ env t _ (r.grow g1) e fun v Hi2 H2 g2 => k _ _ _ (g1.trans g2))⟩
  · rename_i e1
    have q := Option.some.inj e
    subst q
    refine h.q H0 Hi H σ env _ _ r e1 fun v Hi1 H1 g1 rv => ?_
    unfold Rep at rv
    exact ⟨true, rv, iteT (k _ _ _ g1 (by unfold Rep; rfl))⟩
  · cases e⟩
theorem ef_not {a : Expr} {ta : TE} {f : En → Option T} {pos : Pos} (h : EF X a ta f) : EF X (.UnaryOp .Not a pos) (tNotV ta) (eNot f) := ⟨pe_not h.p, fun H0 Hi H σ env t Q r e k => by
  unfold eNot at e
  split at e
  · rename_i b e1
    have q := Option.some.inj e
    subst q
    refine h.q H0 Hi H σ env _ _ r e1 fun v Hi1 H1 g1 rv => ?_
    unfold Rep at rv
    exact ⟨b, rv, k _ _ _ g1 (by unfold Rep; rfl)⟩
  · cases e⟩
theorem ef_if {c a b : Expr} {tc : TT} {ta tb : TE} {h : En → Option Bool} {f g : En → Option T} {pos : Pos} (hc : TF X c tc h) (ha : EF X a ta f) (hb : EF X b tb g) : EF X (.IfExp c a b pos) (tIf tc ta tb) (eIf h f g) := ⟨pe_ifExp hc.p ha.p hb.p, fun H0 Hi H σ env t Q r e k => by
  unfold eIf at e
  split at e
  · rename_i e1
    exact hc.q H0 Hi H σ env _ _ r e1 fun Hi1 H1 g1 => iteT (ha.q H0 Hi1 H1 σ env t _ (r.grow g1) e fun v Hi2 H2 g2 => k _ _ _ (g1.trans g2))
  · rename_i e1
    exact hc.q H0 Hi H σ env _ _ r e1 fun Hi1 H1 g1 => iteF (hb.q H0 Hi1 H1 σ env t _ (r.grow g1) e fun v Hi2 H2 g2 => k _ _ _ (g1.trans g2))
  · cases e⟩
/-! ### fields -/
def eFld (c j : Nat) (f : En → Option T) : En → Option T := fun env => match f env with
  | some (.obj d ts) => if d = c then ts[j]? else none
  | _ => none
theorem ef_fld {e : Expr} {x : Str} {c j : Nat} {ta : TE} {f : En → Option T} {pos : Pos} (hC : Cls K (cl K c)) (hn : NoAttr K (cl K c) x) (hj : (flds c)[j]? = some x) (nd : (flds c).Nodup) (h : EF X e ta f)
    (hb : attributeBase e x X.env (eval e X.env) = eval e X.env := by rfl) (hK : X.K = K := by rfl) : EF X (.Attribute e x pos) (tFld K ta x) (eFld c j f) := by
  subst hK
  exact ⟨pe_fld h.p hb, fun H0 Hi H σ env t Q r e k => by
  unfold eFld at e
  split at e
  · rename_i d ts e1
    by_cases hd : d = c
    · subst hd
      rw [if_pos rfl] at e
      refine h.q H0 Hi H σ env _ _ r e1 fun v Hi1 H1 g1 rv => ?_
      unfold Rep at rv
      obtain ⟨a, dx, vs, rfl, h2, h3, h4⟩ := rv
      obtain ⟨u, hu, ru⟩ := h4.get e
      exact ⟨a, _, dx, _, u, rfl, g1.c _ _ h2, hC, hn, zip_lookup nd hj hu, k _ _ _ g1 ru⟩
    · rw [if_neg hd] at e; cases e
  · cases e⟩
/-! ### flat values -/
def vT : T → Option V
  | .non => some .non
  | .bl b => some (.bl b)
  | .int i => some (.int i)
  | .str x => some (.str x)
  | _ => none
theorem vT_rep {H : Hp} {t : T} {u v : V} (e : vT t = some u) (r : Rep K H t v) : v = u ∧ flatV u = true := by
  cases t with
  | non => unfold Rep at r; cases Option.some.inj e; exact ⟨r, rfl⟩
  | bl b => unfold Rep at r; cases Option.some.inj e; exact ⟨r, rfl⟩
  | int b => unfold Rep at r; cases Option.some.inj e; exact ⟨r, rfl⟩
  | str b => unfold Rep at r; cases Option.some.inj e; exact ⟨r, rfl⟩
  | _ => cases e
def vTs : List T → Option (List V)
  | [] => some []
  | t :: ts => match vT t, vTs ts with
    | some v, some vs => some (v :: vs)
    | _, _ => none
theorem vTs_rep {H : Hp} : ∀ {ts : List T} {us vs : List V}, vTs ts = some us → Reps K H ts vs → vs = us ∧ us.all flatV = true
  | [], us, vs, e, r => by
    have z : [] = us := Option.some.inj e
    subst z
    exact ⟨r.inv0, rfl⟩
  | t :: ts, us, vs, e, r => by
    have e' : (match vT t, vTs ts with
      | some v, some vs => some (v :: vs)
      | _, _ => none) = some us := e
    split at e'
    · rename_i v1 vs1 e1 e2
      have z := Option.some.inj e'
      subst z
      obtain ⟨v, r', rfl, h2, h3⟩ := r.inv
      obtain ⟨rfl, f1⟩ := vT_rep e1 h2
      obtain ⟨rfl, f2⟩ := vTs_rep e2 h3
      exact ⟨rfl, by rw [List.all_cons, f1, f2]; rfl⟩
    · cases e'
/-- what a class asks of its values -/
def choices : List (List Str) := [["told", "read", "both"], ["all", "follows"], ["carry", "drop"], ["carry", "drop"], ["once", "each"]]
def okVs : List (List Str) → List V → Bool
  | [], [] => true
  | c :: cs, .str x :: vs => decide (x ∈ c) && okVs cs vs
  | _, _ => false
def okV : Nat → List V → Bool
  | 0, vs => okVs choices vs
  | _ + 1, _ => true
def okT : Nat → List T → Bool
  | 0, ts => (match vTs ts with
    | some vs => okVs choices vs
    | none => false)
  | _ + 1, _ => true
theorem okT_rep {H : Hp} {c : Nat} {ts : List T} {vs : List V} (h : okT c ts = true) (r : Reps K H ts vs) : okV c vs = true := by
  cases c with
  | succ c => rfl
  | zero =>
    have h' : (match vTs ts with
      | some vs => okVs choices vs
      | none => false) = true := h
    split at h'
    · rename_i us e
      obtain ⟨rfl, _⟩ := vTs_rep e r
      exact h'
    · cases h'
/-! ### calls -/
def spP (K : PySem.W.Frag) (n : Nat) (F : List T → Option T) : Sp := fun vs H Q _ => ∃ Hi ts t, Same Hi H ∧ vs.length = n ∧ Reps K Hi ts vs ∧ F ts = some t ∧ ∀ v Hi' H', Grow Hi H Hi' H' → Rep K Hi' t v → Q v H'
structure FnAt (P : Program) (w : World) (K : PySem.W.Frag) (mg : Str → Option Value) (base : Heap) (k : Nat) (x : Str) (ps : List Str) (sp : Sp) : Prop where
  ex : ∃ f fd, mg x = some (.ref f) ∧ PySem.W.keepIn K (.ref f) = true ∧ Binds K fd ps [] ∧ FnOk P w K mg base CX0 k f fd ps sp
structure MtAt (P : Program) (w : World) (K : PySem.W.Frag) (mg : Str → Option Value) (base : Heap) (k : Nat) (c : Nat) (m : Str) (ps : List Str) (sp : Sp) : Prop where
  ex : ∃ f fd, Meth K (cl K c) m f ∧ Binds K fd ps [] ∧ FnOk P w K mg base CX0 k f fd ps sp
def spI (K : PySem.W.Frag) (c : Nat) : Sp := fun vs H Q _ => ∃ x dx us, vs = .ref x :: us ∧ us.length = (flds c).length ∧ okV c us = true ∧ H x = some (.ins (cl K c) dx []) ∧ ∀ H' : Hp, H' x = some (.ins (cl K c) dx ((flds c).zip us)) → (∀ (b : Addr) (o : HO), b ≠ x → H b = some o → H' b = some o) → Q .non H'
structure MkAt (P : Program) (w : World) (K : PySem.W.Frag) (mg : Str → Option Value) (base : Heap) (k : Nat) (c : Nat) (ps : List Str) : Prop where
  ex : ∃ f fd, mg (cname c) = some (.ref (cl K c)) ∧ Mk K (cl K c) f ∧ Binds K fd ps [] ∧ FnOk P w K mg base CX0 k f fd ps (spI K c)
def eCall (F : List T → Option T) (g : En → Option (List T)) : En → Option T := fun env => match g env with
  | some ts => F ts
  | none => none
theorem ev_call {F : List T → Option T} {n : Nat} {E : XK} {ta : TA} {g : En → Option (List T)} (h : EvA K ta g) (hl : ∀ env ts, g env = some ts → ts.length = n) : EvE K (tCall (spP K n F) [] E ta) (eCall F g) := fun H0 Hi H σ env t Q r e k => by
  unfold eCall at e
  split at e
  · rename_i ts e1
    refine h H0 Hi H σ env _ _ r e1 fun vs Hi1 H1 g1 rvs => ?_
    rw [List.append_nil]
    exact ⟨Hi1, ts, t, g1.c, by rw [rvs.len, hl _ _ e1], rvs, e, fun v Hi2 H2 g2 => k _ _ _ (g1.trans g2)⟩
  · cases e
theorem ef_call {x : Str} {e : Expr} {es : List Expr} {n k : Nat} {ps : List Str} {F : List T → Option T} {ta : TA} {g : En → Option (List T)} {p pos : Pos} (G : FnAt X.prog X.w K X.mg X.base k x ps (spP K n F)) (hr : Room k X.A) (h : AF X (e :: es) n ta g)
    (hg : Gl X x := by rfl) (hdb : (x == ("__debug__" : Str)) = false := by decide) (he : starEach (e :: es) X.env = (false, eval e X.env) :: starEach es X.env := by rfl) (hpl : (backTo pos (starEach es X.env)).any (·.1) = false := by rfl) (hK : X.K = K := by rfl) :
    EF X (.Call (.Name x p) (e :: es) [] pos) (tCall (spP K n F) [] E0 ta) (eCall F g) := by
  subst hK
  obtain ⟨f, fd, h1, h2, h3, h4⟩ := G.ex
  exact ⟨pe_call h4 hr hg h1 h2 h3 .nil pass0 h.p hdb he hpl, ev_call h.q h.len⟩
theorem ef_call0 {x : Str} {k : Nat} {ps : List Str} {F : List T → Option T} {p pos : Pos} (G : FnAt X.prog X.w K X.mg X.base k x ps (spP K 0 F)) (hr : Room k X.A)
    (hg : Gl X x := by rfl) (hdb : (x == ("__debug__" : Str)) = false := by decide) (hK : X.K = K := by rfl) : EF X (.Call (.Name x p) [] [] pos) (tCall (spP K 0 F) [] E0 tNil) (eCall F aNil) := by
  subst hK
  obtain ⟨f, fd, h1, h2, h3, h4⟩ := G.ex
  exact ⟨pe_call0 h4 hr hg h1 h2 h3 .nil pass0 hdb, ev_call (af_nil (X := X)).q (af_nil (X := X)).len⟩
def eMk (c : Nat) (g : En → Option (List T)) : En → Option T := fun env => match g env with
  | some ts => if okT c ts = true then some (.obj c ts) else none
  | none => none
theorem Grow.made {Hi H H2 : Hp} {x dx C : Addr} {fs : List (Str × V)} (e : Same Hi H) (nx : H x = none) (nd : H dx = none) (ne : dx ≠ x) (hx : H2 x = some (.ins C dx fs)) (k : ∀ (b : Addr) (o : HO), b ≠ x → (upd (upd H dx (.own x)) x (.ins C dx [])) b = some o → H2 b = some o) :
    Grow Hi H (upd (upd Hi dx (.own x)) x (.ins C dx fs)) H2 := by
  have hd2 : H2 dx = some (.own x) := k dx _ ne (by rw [upd_ne ne, upd_same])
  refine ⟨fun b o q => ?_, fun b o q => ?_, fun b o q => ?_, fun b h1 h2 => ?_⟩
  · rw [upd_ne (ne_of_none q (e.free nx)), upd_ne (ne_of_none q (e.free nd))]; exact q
  · have z := ne_of_none q nx
    exact k b o z (by rw [upd_ne z, upd_ne (ne_of_none q nd)]; exact q)
  · by_cases z : b = x
    · subst z; rw [upd_same] at q; rw [hx]; exact q
    · rw [upd_ne z] at q
      by_cases y : b = dx
      · subst y; rw [upd_same] at q; rw [hd2]; exact q
      · rw [upd_ne y] at q
        exact k b o z (by rw [upd_ne z, upd_ne y]; exact e b o q)
  · by_cases z : b = x
    · subst z; exact nx
    · by_cases y : b = dx
      · subst y; exact nd
      · rw [upd_ne z, upd_ne y] at h2; exact absurd h1 h2
theorem ef_mk {c : Nat} {x : Str} {e : Expr} {es : List Expr} {n k : Nat} {ps : List Str} {ta : TA} {g : En → Option (List T)} {p pos : Pos} (G : MkAt X.prog X.w K X.mg X.base k c ps) (hr : Room (k + 1) X.A) (h : AF X (e :: es) n ta g) (hx : cname c = x := by rfl) (hn : (flds c).length = n := by rfl)
    (hg : Gl X x := by rfl) (hdb : (x == ("__debug__" : Str)) = false := by decide) (he : starEach (e :: es) X.env = (false, eval e X.env) :: starEach es X.env := by rfl) (hpl : (backTo pos (starEach es X.env)).any (·.1) = false := by rfl) (hK : X.K = K := by rfl) :
    EF X (.Call (.Name x p) (e :: es) [] pos) (tMake (cl K c) (spI K c) [] E0 ta) (eMk c g) := by
  subst hx
  subst hK
  obtain ⟨f, fd, h1, h2, h3, h4⟩ := G.ex
  refine ⟨pe_make h2 h4 hr hg h1 h3 .nil pass0 h.p hdb he hpl, fun H0 Hi H σ env t Q r q k => ?_⟩
  unfold eMk at q
  split at q
  · rename_i ts e1
    by_cases hok : okT c ts = true
    case neg => rw [if_neg hok] at q; cases q
    rw [if_pos hok] at q
    have z := Option.some.inj q
    subst z
    refine h.q H0 Hi H σ env _ _ r e1 fun vs Hi1 H1 g1 rvs => ?_
    intro x dx nx nd ne
    rw [List.append_nil]
    have hl : vs.length = (flds c).length := by rw [rvs.len, h.len _ _ e1, hn]
    refine ⟨x, dx, vs, rfl, hl, okT_rep hok rvs, upd_same, fun H2 hx hb => ⟨rfl, ?_⟩⟩
    have gg := Grow.made g1.c nx nd ne hx hb
    refine k _ _ _ (g1.trans gg) ?_
    unfold Rep
    exact ⟨x, dx, vs, rfl, upd_same, hl, rvs.mono gg.a⟩
  · cases q
theorem ef_meth0 {c : Nat} {m : Str} {o : Expr} {k : Nat} {ps : List Str} {F : List T → Option T} {ta : TE} {f : En → Option T} {apos pos : Pos} {pl : Sem Bool} (hC : Cls K (cl K c)) (G : MtAt X.prog X.w K X.mg X.base k c m ps (spP K 1 F)) (hr : Room k X.A) (h : EF X o ta f) (hm : m ∉ flds c) (hK : X.K = K)
    (ht : eval (.Call (.Attribute o m apos) [] [] pos) X.env = (do
      let ov ← eval o X.env
      standAt apos.atName
      let (f, first) ← holding [ov] (getMethod ov m pl)
      callWith pos f first (backTo pos (starEach [] X.env)) (backToKw pos (keywordEach [] X.env))) := by rfl) :
    EF X (.Call (.Attribute o m apos) [] [] pos) (tMeth (cl K c) m (spP K 1 F) [] E0 ta tNil) (fun env => match f env with
      | some (.obj d ts) => if d = c then F [.obj d ts] else none
      | _ => none) := by
  subst hK
  obtain ⟨f', fd, h1, h3, h4⟩ := G.ex
  refine ⟨pe_meth0 h.p hC h1 h4 hr h3 .nil pass0 ht, fun H0 Hi H σ env t Q r q k => ?_⟩
  split at q
  · rename_i d ts e1
    by_cases hd : d = c
    · subst hd
      rw [if_pos rfl] at q
      refine h.q H0 Hi H σ env _ _ r e1 fun v Hi1 H1 g1 rv => ?_
      have rv' := rv
      unfold Rep at rv
      obtain ⟨a, dx, vs, rfl, h5, h6, h7⟩ := rv
      refine ⟨a, dx, _, rfl, g1.c _ _ h5, zip_none hm, Hi1, [.obj d ts], t, g1.c, rfl, Reps.cons rv' Reps.nil, q, fun v Hi2 H2 g2 => k _ _ _ (g1.trans g2)⟩
    · rw [if_neg hd] at q; cases q
  · cases q
/-! ### built-in functions -/
def C1OK (K : PySem.W.Frag) (r : List V → Hp → VK → Prop) (o : List T → Option T) : Prop := ∀ (Hi H : Hp) (ts : List T) (t : T) (vs : List V) (Q : VK), Same Hi H → o ts = some t → Reps K Hi ts vs → (∀ z Hi' H', Grow Hi H Hi' H' → Rep K Hi' t z → Q z H') → r vs H Q
theorem ev_cb {r : List V → Hp → VK → Prop} {o : List T → Option T} {ta : TA} {g : En → Option (List T)} (ok : C1OK K r o) (h : EvA K ta g) : EvE K (tCB r ta) (eCall o g) := fun H0 Hi H σ env t Q re e k => by
  unfold eCall at e
  split at e
  · rename_i ts e1
    exact h H0 Hi H σ env _ _ re e1 fun vs Hi1 H1 g1 rvs => ok Hi1 H1 ts t vs Q g1.c e rvs fun z Hi2 H2 g2 => k _ _ _ (g1.trans g2)
  · cases e
theorem ef_cb {x : Str} {id : String} {e : Expr} {es : List Expr} {n : Nat} {r : List V → Hp → VK → Prop} {o : List T → Option T} {ta : TA} {g : En → Option (List T)} {p pos : Pos} (hc : CallR X (.builtin id) r) (ok : C1OK X.K r o) (hm : X.mg x = none) (hv : bootBuiltins x = some (.builtin id)) (h : AF X (e :: es) n ta g)
    (hg : Gl X x := by rfl) (hn : x ≠ "__name__" := by decide) (hdb : (x == ("__debug__" : Str)) = false := by decide)
    (he : starEach (e :: es) X.env = (false, eval e X.env) :: starEach es X.env := by rfl) (hpl : (backTo pos (starEach es X.env)).any (·.1) = false := by rfl) : EF X (.Call (.Name x p) (e :: es) [] pos) (tCB r ta) (eCall o g) :=
  ⟨pe_callB hc hg hm hv h.p hn hdb he hpl, ev_cb ok h.q⟩
theorem ef_ct {x : Str} {id : String} {e : Expr} {es : List Expr} {n : Nat} {r : List V → Hp → VK → Prop} {o : List T → Option T} {ta : TA} {g : En → Option (List T)} {p pos : Pos} (hc : CallR X (.type id) r) (ok : C1OK X.K r o) (hm : X.mg x = none) (hv : bootBuiltins x = some (.type id)) (h : AF X (e :: es) n ta g)
    (hg : Gl X x := by rfl) (hn : x ≠ "__name__" := by decide) (hdb : (x == ("__debug__" : Str)) = false := by decide)
    (he : starEach (e :: es) X.env = (false, eval e X.env) :: starEach es X.env := by rfl) (hpl : (backTo pos (starEach es X.env)).any (·.1) = false := by rfl) : EF X (.Call (.Name x p) (e :: es) [] pos) (tCB r ta) (eCall o g) :=
  ⟨pe_callTy hc hg hm hv h.p hn hdb he hpl, ev_cb ok h.q⟩
end
end PL


set_option Elab.async false
set_option linter.all false
set_option maxRecDepth 100000
set_option maxHeartbeats 4000000
namespace PL
open PySem PySem.Spec PyProof.Rows L2
section
variable {X : Cx} {K : PySem.W.Frag}
/-! ### targets -/
theorem ev_name (i : Nat) : EvG K (gName i) [i] (fun t env => some (env.set i (some (.imm t)))) := fun H0 Hi H σ env env' t v Q r rv e k => by
  have q := Option.some.inj e
  subst q
  exact k _ (r.set rv) (by rw [List.length_set]) fun j hj => List.getElem?_set_ne (fun z => hj (by rw [z]; simp))
theorem gf_name (i : Nat) {x : Str} {pos : Pos} (hN : X.N.Nodup) (hi : X.N[i]? = some x := by rfl) (hx : Loc X.env.scope x := by first | exact Or.inl rfl | exact Or.inr rfl) (hf : X.fn x = true ∨ X.env.scope.names.lookup x = some .local := by first | exact .inl rfl | exact .inr rfl) :
    GF X (.Name x pos) (gName i) [i] (fun t env => some (env.set i (some (.imm t)))) := ⟨pg_name hN hi hx hf, ev_name i⟩
def hNil : List T → En → Option En := fun ts env => match ts with
  | [] => some env
  | _ => none
def hCons (h : T → En → Option En) (hs : List T → En → Option En) : List T → En → Option En := fun ts env => match ts with
  | [] => none
  | t :: r => (match h t env with
    | some env1 => hs r env1
    | none => none)
def hTup (hs : List T → En → Option En) : T → En → Option En := fun t env => match t with
  | .tup ts => hs ts env
  | _ => none
theorem gsf_nil : GsF X [] gNil 0 [] hNil := ⟨pgs_nil, ⟨fun ts env env' e => (by
  cases ts with
  | nil => rfl
  | cons t r => cases e), fun H0 Hi H σ env env' ts vs Q r rvs e k => by
  cases ts with
  | nil =>
    have q := Option.some.inj e
    subst q
    exact ⟨rvs.inv0, k σ r rfl fun _ _ => rfl⟩
  | cons t r => cases e⟩⟩
theorem gsf_cons {e : Expr} {es : List Expr} {g : TG} {gs : TGs} {n : Nat} {is js : List Nat} {h : T → En → Option En} {hs : List T → En → Option En} (h1 : GF X e g is h) (h2 : GsF X es gs n js hs)
    (hst : (assignEach (e :: es) X.env).map (·.2) = assign e X.env :: (assignEach es X.env).map (·.2) := by rfl) : GsF X (e :: es) (gCons g gs) (n + 1) (is ++ js) (hCons h hs) := ⟨pgs_cons h1.p h2.p hst, ⟨fun ts env env' q => (by
  cases ts with
  | nil => cases q
  | cons t r =>
    have q' : (match h t env with
      | some env1 => hs r env1
      | none => none) = some env' := q
    split at q'
    · rw [List.length_cons, h2.q.1 _ _ _ q']
    · cases q'), fun H0 Hi H σ env env' ts vs Q r rvs q k => by
  cases ts with
  | nil => cases q
  | cons t ts =>
    have q' : (match h t env with
      | some env1 => hs ts env1
      | none => none) = some env' := q
    split at q'
    · rename_i env1 e1
      obtain ⟨v, vr, rfl, rv, rr⟩ := rvs.inv
      refine ⟨v, vr, rfl, h1.q H0 Hi H σ env env1 t v _ r rv e1 fun σ1 r1 l1 s1 => ?_⟩
      exact h2.q.2 H0 Hi H σ1 env1 env' ts vr Q r1 rr q' fun σ2 r2 l2 s2 => k σ2 r2 (l2.trans l1) fun j hj => by
        rw [List.mem_append, not_or] at hj
        rw [s2 j hj.2, s1 j hj.1]
    · cases q'⟩⟩
theorem gf_tup {es : List Expr} {kk : Nat} {gs : TGs} {n : Nat} {is : List Nat} {hs : List T → En → Option En} {pos : Pos} (hc : X.calm = true) (h : GsF X es gs n is hs)
    (hn : (assignEach es X.env).length = n := by rfl) (hst : (assignEach es X.env).findIdx? (·.1) = none := by rfl) (hK : X.K = K := by rfl) : GF X (.Tuple es kk pos) (gTup K n gs) is (hTup hs) := by
  subst hK
  exact ⟨pg_tup hc h.p hn hst, fun H0 Hi H σ env env' t v Q r rv e k => by
  cases t with
  | tup ts =>
    have e' : hs ts env = some env' := e
    unfold Rep at rv
    obtain ⟨a, vs, rfl, h2, h3⟩ := rv
    exact ⟨a, vs, rfl, sameT r.sub h2, by rw [h3.len, h.q.1 _ _ _ e'], h.q.2 H0 Hi H σ env env' ts vs Q r h3 e' k⟩
  | _ => cases e⟩
/-! ### statements -/
def sNil : En → Option R := fun env => some (.nx env)
def sCons (g h : En → Option R) : En → Option R := fun env => match g env with
  | some (.nx env1) => h env1
  | r => r
def sAsg (f : En → Option T) (h : T → En → Option En) : En → Option R := fun env => match f env with
  | some t => (match h t env with
    | some env1 => some (.nx env1)
    | none => none)
  | none => none
def sRet (f : En → Option T) : En → Option R := fun env => match f env with
  | some t => some (.rt t)
  | none => none
def sIf (c : En → Option Bool) (g h : En → Option R) : En → Option R := fun env => match c env with
  | some true => g env
  | some false => h env
  | none => none
def sDrop (f : En → Option T) : En → Option R := fun env => match f env with
  | some _ => some (.nx env)
  | none => none
theorem ev_snil : EvS K tNext sNil := fun H0i H0 Hi H σ env D r g re e k => by
  have q := Option.some.inj e
  subst q
  exact k Hi H σ (Same.refl _) g re
theorem ev_scons {t u : TS} {g h : En → Option R} (h1 : EvS K t g) (h2 : EvS K u h) : EvS K (tSeq t u) (sCons g h) := fun H0i H0 Hi H σ env D r gr re e k => by
  unfold sCons at e
  split at e
  · rename_i env1 e1
    exact h1 H0i H0 Hi H σ env _ (.nx env1) gr re e1 fun Hi1 H1 σ1 s1 g1 r1 => h2 H0i H0 Hi1 H1 σ1 env1 D r g1 r1 e (k.mono s1)
  · rename_i hn
    refine h1 H0i H0 Hi H σ env _ r gr re e ?_
    cases r with
    | nx env1 => exact absurd e (hn env1)
    | rt t => exact k
    | bk env => exact k
    | ct env => exact k
theorem ssf_nil : SsF X [] tNext sNil := ⟨pss_nil, ev_snil⟩
theorem ssf_cons {st : Stmt} {rest : List Stmt} {t u : TS} {g h : En → Option R} (h1 : SF X st t g) (h2 : SsF X rest u h) : SsF X (st :: rest) (tSeq t u) (sCons g h) := ⟨pss_cons h1.p h2.p, ev_scons h1.q h2.q⟩
theorem ssf_one {st : Stmt} {t : TS} {g : En → Option R} (h1 : SF X st t g) : SsF X [st] t g := ⟨pss_one h1.p, h1.q⟩
theorem ev_asg {te : TE} {g : TG} {is : List Nat} {f : En → Option T} {h : T → En → Option En} (h1 : EvE K te f) (h2 : EvG K g is h) : EvS K (tAsg te g) (sAsg f h) := fun H0i H0 Hi H σ env D r gr re e k => by
  unfold sAsg at e
  split at e
  · rename_i t e1
    split at e
    · rename_i env1 e2
      have q := Option.some.inj e
      subst q
      exact h1 H0 Hi H σ env t _ re e1 fun v Hi1 H1 g1 rv => h2 H0 Hi1 H1 σ env env1 t v _ (re.grow g1) rv e2 fun σ1 r1 _ _ => k Hi1 H1 σ1 g1.a (gr.trans g1) r1
    · cases e
  · cases e
theorem sf_set (i : Nat) {x : Str} {e : Expr} {te : TE} {f : En → Option T} {pos' pos : Pos} (hN : X.N.Nodup) (h : EF X e te f) (hi : X.N[i]? = some x := by rfl) (hx : Loc X.env.scope x := by first | exact Or.inl rfl | exact Or.inr rfl)
    (hs : swapsWith e (some (.Name x pos')) pos.line X.env = pure false := by rfl) (hf : X.fn x = true ∨ X.env.scope.names.lookup x = some .local := by first | exact .inl rfl | exact .inr rfl) :
    SF X (.Assign [.Name x pos'] e pos) (tAsg te (gName i)) (sAsg f fun t env => some (env.set i (some (.imm t)))) := ⟨ps_set hN hi hx h.p hs hf, ev_asg h.q (ev_name i)⟩
theorem sf_asg {tg e : Expr} {te : TE} {g : TG} {is : List Nat} {f : En → Option T} {h : T → En → Option En} {pos : Pos} (h1 : EF X e te f) (h2 : GF X tg g is h) (hs : swapsWithSole [tg] e pos.line X.env = pure false := by rfl) (hw : swappedStores [tg] e X.env = pure none := by rfl)
    (h3 : (assignEach [tg] X.env).map (·.2) = [assign tg X.env] := by rfl) : SF X (.Assign [tg] e pos) (tAsg te g) (sAsg f h) := ⟨ps_asg h1.p h2.p hs hw h3, ev_asg h1.q h2.q⟩
theorem sf_ret {e : Expr} {te : TE} {f : En → Option T} {pos : Pos} (h : EF X e te f) : SF X (.Return (some e) pos) (tRet te) (sRet f) := ⟨ps_ret h.p, fun H0i H0 Hi H σ env D r gr re q k => by
  unfold sRet at q
  split at q
  · rename_i t e1
    have z := Option.some.inj q
    subst z
    exact h.q H0 Hi H σ env t _ re e1 fun v Hi1 H1 g1 rv => k v Hi1 H1 (gr.trans g1) rv
  · cases q⟩
theorem sf_expr {e : Expr} {te : TE} {f : En → Option T} {pos : Pos} (h : EF X e te f) (hs : swapsWith e none pos.line X.env = pure false := by rfl) : SF X (.Expr e pos) (tDrop te) (sDrop f) := ⟨ps_expr h.p hs, fun H0i H0 Hi H σ env D r gr re q k => by
  unfold sDrop at q
  split at q
  · rename_i t e1
    have z := Option.some.inj q
    subst z
    exact h.q H0 Hi H σ env t _ re e1 fun v Hi1 H1 g1 rv => k Hi1 H1 σ g1.a (gr.trans g1) (re.grow g1)
  · cases q⟩
theorem sf_if {c : Expr} {a b : List Stmt} {tc : TT} {t u : TS} {f : En → Option Bool} {g h : En → Option R} {pos : Pos} (hc : TF X c tc f) (ha : SsF X a t g) (hb : SsF X b u h) : SF X (.If c a b pos) (tIfS tc t u) (sIf f g h) := ⟨ps_if hc.p ha.p hb.p, fun H0i H0 Hi H σ env D r gr re q k => by
  unfold sIf at q
  split at q
  · rename_i e1
    exact hc.q H0 Hi H σ env _ _ re e1 fun Hi1 H1 g1 => iteT (ha.q H0i H0 Hi1 H1 σ env D r (gr.trans g1) (re.grow g1) q (k.mono g1.a))
  · rename_i e1
    exact hc.q H0 Hi H σ env _ _ re e1 fun Hi1 H1 g1 => iteF (hb.q H0i H0 Hi1 H1 σ env D r (gr.trans g1) (re.grow g1) q (k.mono g1.a))
  · cases q⟩
/-! ### lists of one's own -/
def sNewL (i : Nat) : En → Option R := fun env => some (.nx (env.set i (some (.own []))))
theorem sf_newL (i : Nat) {x : Str} {pos' pos'' pos : Pos} (hN : X.N.Nodup) (hi : X.N[i]? = some x := by rfl) (hx : Loc X.env.scope x := by first | exact Or.inl rfl | exact Or.inr rfl)
    (hs : swapsWith (.List [] pos'') (some (.Name x pos')) pos.line X.env = pure false := by rfl) (hf : X.fn x = true ∨ X.env.scope.names.lookup x = some .local := by first | exact .inl rfl | exact .inr rfl) :
    SF X (.Assign [.Name x pos'] (.List [] pos'') pos) (tAsg (tLst tNil) (gName i)) (sNewL i) := ⟨ps_set hN hi hx (pe_lst pa_nil) hs hf, fun H0i H0 Hi H σ env D r gr re q k => by
  have z := Option.some.inj q
  subst z
  refine ⟨Nat.zero_le _, fun p hp => ?_⟩
  have g2 : Grow H0i H0 Hi (upd H p (.lst [])) := ⟨gr.a, gr.b.trans (same_upd hp), gr.c.trans (same_upd hp), gr.d⟩
  exact k Hi _ _ (Same.refl _) g2 (re.setOwn (gr.b.free hp) hp)⟩
def sApp (i : Nat) (f : En → Option T) : En → Option R := fun env => match env[i]? with
  | some (some (.own ts)) => (match f env with
    | some t => if ts.length < sizeLine then some (.nx (env.set i (some (.own (ts ++ [t]))))) else none
    | none => none)
  | _ => none
theorem sf_app (i : Nat) {x : Str} {e : Expr} {te : TE} {f : En → Option T} {p apos cpos pos : Pos} (h : EF X e te f) (hN : X.N[i]? = some x := by rfl) (hv : Vis X.env.scope x := by first | exact Or.inl rfl | exact Or.inr (Or.inl rfl) | exact Or.inr (Or.inr rfl)) (hd : (x == ("__debug__" : Str)) = false := by decide)
    (hcd : (x == ("__classdict__" : Str)) = false := by decide) (hbase : attributeBase (.Name x p) "append" X.env (eval (.Name x p) X.env) = eval (.Name x p) X.env := by rfl)
    (hfew : ((backTo cpos (starEach (e :: []) X.env)).all (fun x => !x.1) && (backToKw cpos (keywordEach [] X.env)).all (fun x => x.1.isSome)
      && decide ((e :: []).length + ([] : List Keyword).length + (if ([] : List Keyword).isEmpty then 0 else 1) < 30)) = true := by rfl)
    (hline : (apos.endLine == cpos.line) = true := by rfl) (hs : starEach (e :: []) X.env = (false, eval e X.env) :: starEach [] X.env := by rfl) (hplain : (backTo cpos (starEach [] X.env)).any (·.1) = false := by rfl)
    (hsw : swapsWith (.Call (.Attribute (.Name x p) "append" apos) [e] [] cpos) none pos.line X.env = pure false := by rfl) :
    SF X (.Expr (.Call (.Attribute (.Name x p) "append" apos) [e] [] cpos) pos) (tDrop (tBM X.K "list" rAppend (tVar i) (tCons te tNil))) (sApp i f) :=
  ⟨ps_expr (pe_bm PySem.F.plainAttrs_list PySem.F.slot_list_append PySem.F.type_list_append mt_append (pe_var hN hv hd hcd) (pa_cons h.p pa_nil hs) hbase hfew hline hs hplain) hsw, fun H0i H0 Hi H σ env D r gr re q k => by
  unfold sApp at q
  split at q
  · rename_i ts e1
    split at q
    · rename_i t e2
      by_cases hz : ts.length < sizeLine
      · rw [if_pos hz] at q
        have z := Option.some.inj q
        subst z
        obtain ⟨a, vs, h1, h2, h3, h4, h5⟩ := re.own i ts e1
        refine ⟨_, h1, .inl ⟨rfl, vs, SqL.of h2⟩, h.q H0 Hi H σ env t _ re e2 fun v Hi1 H1 g1 rv => ?_⟩
        have re1 := re.grow g1
        have h2' := g1.b _ _ h2
        have h3' := g1.keepNone h3 (by rw [h2]; simp)
        refine ⟨a, vs, v, rfl, rfl, h2', by rw [h5.len]; exact hz, ?_⟩
        have g2 : Grow H0i H0 Hi1 (upd H1 a (.lst (vs ++ [v]))) := by
          have gg := gr.trans g1
          refine ⟨gg.a, fun b o w => ?_, fun b o w => ?_, gg.d⟩
          · rw [upd_ne (ne_of_none w h4)]; exact gg.b b o w
          · rw [upd_ne (ne_of_none w h3')]; exact gg.c b o w
        exact k Hi1 _ σ g1.a g2 (re1.chg e1 h1 ((h5.mono g1.a).append (Reps.cons rv Reps.nil)))
      · rw [if_neg hz] at q; cases q
    · cases q
  · cases q⟩
def sRetL (i : Nat) : En → Option R := fun env => match env[i]? with
  | some (some (.own ts)) => some (.rt (.lst ts))
  | _ => none
theorem sf_retL (i : Nat) {x : Str} {pos' pos : Pos} (hN : X.N[i]? = some x := by rfl) (hv : Vis X.env.scope x := by first | exact Or.inl rfl | exact Or.inr (Or.inl rfl) | exact Or.inr (Or.inr rfl)) (hd : (x == ("__debug__" : Str)) = false := by decide)
    (hcd : (x == ("__classdict__" : Str)) = false := by decide) : SF X (.Return (some (.Name x pos')) pos) (tRet (tVar i)) (sRetL i) := ⟨ps_ret (pe_var hN hv hd hcd), fun H0i H0 Hi H σ env D r gr re q k => by
  unfold sRetL at q
  split at q
  · rename_i ts e1
    have z := Option.some.inj q
    subst z
    obtain ⟨a, vs, h1, h2, h3, h4, h5⟩ := re.own i ts e1
    refine ⟨_, h1, k _ _ _ (gr.freeze h4 h2 h3) ?_⟩
    unfold Rep
    exact ⟨a, vs, rfl, upd_same, h5.mono (same_upd h3)⟩
  · cases q⟩
/-! ### a for over a list or tuple of trees -/
def fGo (h : T → En → Option En) (b : En → Option R) : List T → En → Option R
  | [], env => some (.nx env)
  | t :: ts, env => match h t env with
    | some env1 => (match b env1 with
      | some (.nx env2) => fGo h b ts env2
      | some (.ct env2) => fGo h b ts env2
      | some (.bk env2) => some (.nx env2)
      | some (.rt u) => some (.rt u)
      | none => none)
    | none => none
def sForL (f : En → Option T) (h : T → En → Option En) (b : En → Option R) : En → Option R := fun env => match f env with
  | some (.lst ts) => fGo h b ts env
  | _ => none
def sForT (f : En → Option T) (h : T → En → Option En) (b : En → Option R) : En → Option R := fun env => match f env with
  | some (.tup ts) => fGo h b ts env
  | _ => none
theorem fGo_turn {g : TG} {is : List Nat} {tb : TS} {h : T → En → Option En} {b : En → Option R} (h1 : EvG K g is h) (h2 : EvS K tb b) {H0i H0 Hi H : Hp} {σ : St} {env : En} {D : Ends} {t : T} {ts : List T} {v : V} {r : R} {Pn : St → Hp → Prop}
    (gr : Grow H0i H0 Hi H) (re : REnv K H0 Hi H σ env) (rv : Rep K Hi t v) (e : fGo h b (t :: ts) env = some r) (k : Post K H0i H0 Hi D r)
    (hn : ∀ Hi1 H1 σ1 env1, Same Hi Hi1 → Grow H0i H0 Hi1 H1 → REnv K H0 Hi1 H1 σ1 env1 → fGo h b ts env1 = some r → Pn σ1 H1) : g v σ H fun σ2 H2 => tb { D with nx := Pn, ct := Pn, bk := D.nx } σ2 H2 := by
  have e' : (match h t env with
    | some env1 => (match b env1 with
      | some (.nx env2) => fGo h b ts env2
      | some (.ct env2) => fGo h b ts env2
      | some (.bk env2) => some (.nx env2)
      | some (.rt u) => some (.rt u)
      | none => none)
    | none => none) = some r := e
  split at e'
  · rename_i env1 e1
    refine h1 H0 Hi H σ env env1 t v _ re rv e1 fun σ1 r1 _ _ => ?_
    split at e'
    · rename_i env2 e2
      exact h2 H0i H0 Hi H σ1 env1 _ (.nx env2) gr r1 e2 fun Hi2 H2 σ2 s2 g2 r2 => hn Hi2 H2 σ2 env2 s2 g2 r2 e'
    · rename_i env2 e2
      exact h2 H0i H0 Hi H σ1 env1 _ (.ct env2) gr r1 e2 fun Hi2 H2 σ2 s2 g2 r2 => hn Hi2 H2 σ2 env2 s2 g2 r2 e'
    · rename_i env2 e2
      have z := Option.some.inj e'
      subst z
      exact h2 H0i H0 Hi H σ1 env1 _ (.bk env2) gr r1 e2 fun Hi2 H2 σ2 s2 g2 r2 => k Hi2 H2 σ2 s2 g2 r2
    · rename_i u e2
      have z := Option.some.inj e'
      subst z
      exact h2 H0i H0 Hi H σ1 env1 _ (.rt u) gr r1 e2 k
    · cases e'
  · cases e'
theorem drop_more {α : Type} {l : List α} {i : Nat} {x : α} (h : l[i]? = some x) : l.drop i = x :: l.drop (i + 1) := by
  obtain ⟨hi, e⟩ := List.getElem?_eq_some_iff.mp h
  rw [List.drop_eq_getElem_cons hi, e]
theorem ev_forL {tl : TE} {g : TG} {is : List Nat} {tb : TS} {f : En → Option T} {h : T → En → Option En} {b : En → Option R} (h0 : EvE K tl f) (h1 : EvG K g is h) (h2 : EvS K tb b) : EvS K (tFor (iList K tl) g tb) (sForL f h b) := fun H0i H0 Hi H σ env D r gr re e k => by
  unfold sForL at e
  split at e
  · rename_i ts e1
    refine h0 H0 Hi H σ env _ _ re e1 fun v Hi1 H1 g1 rv => ?_
    unfold Rep at rv
    obtain ⟨a, vs, rfl, hq, rvs⟩ := rv
    refine ⟨a, rfl, ⟨vs, g1.c.seq (SqL.of hq)⟩, for_list (K := K) (a := a) (xs := vs) (fun i σ' H' => ∃ Hi' env', Same Hi1 Hi' ∧ Grow H0i H0 Hi' H' ∧ REnv K H0 Hi' H' σ' env' ∧ fGo h b (ts.drop i) env' = some r)
      ⟨Hi1, env, Same.refl _, gr.trans g1, re.grow g1, e⟩ (fun i σ' H' _ ⟨Hi', env', s', g', r', _⟩ => (s'.trans g'.c).seq (SqL.of hq)) ?_ ?_⟩
    · rintro i x σ' H' hx ⟨Hi', env', s', g', r', e'⟩
      obtain ⟨t, ht, rt⟩ := rvs.get' hx
      rw [drop_more ht] at e'
      exact fGo_turn h1 h2 g' r' (rt.mono s') e' (k.mono (g1.a.trans s')) fun Hi2 H2 σ2 env2 s2 g2 r2 e2 => ⟨Hi2, env2, s'.trans s2, g2, r2, e2⟩
    · rintro σ' H' ⟨Hi', env', s', g', r', e'⟩
      rw [rvs.len, List.drop_length] at e'
      have z : R.nx env' = r := Option.some.inj e'
      subst z
      exact k Hi' H' σ' (g1.a.trans s') g' r'
  · cases e
theorem ev_forT {tl : TE} {g : TG} {is : List Nat} {tb : TS} {f : En → Option T} {h : T → En → Option En} {b : En → Option R} (h0 : EvE K tl f) (h1 : EvG K g is h) (h2 : EvS K tb b) : EvS K (tFor (iTup K tl) g tb) (sForT f h b) := fun H0i H0 Hi H σ env D r gr re e k => by
  unfold sForT at e
  split at e
  · rename_i ts e1
    refine h0 H0 Hi H σ env _ _ re e1 fun v Hi1 H1 g1 rv => ?_
    unfold Rep at rv
    obtain ⟨a, vs, rfl, hq, rvs⟩ := rv
    refine ⟨a, rfl, ⟨vs, sameT g1.c hq⟩, for_tup (K := K) (a := a) (xs := vs) (fun i σ' H' => ∃ Hi' env', Same Hi1 Hi' ∧ Grow H0i H0 Hi' H' ∧ REnv K H0 Hi' H' σ' env' ∧ fGo h b (ts.drop i) env' = some r)
      ⟨Hi1, env, Same.refl _, gr.trans g1, re.grow g1, e⟩ (fun i σ' H' _ ⟨Hi', env', s', g', r', _⟩ => sameT (s'.trans g'.c) hq) ?_ ?_⟩
    · rintro i x σ' H' hx ⟨Hi', env', s', g', r', e'⟩
      obtain ⟨t, ht, rt⟩ := rvs.get' hx
      rw [drop_more ht] at e'
      exact fGo_turn h1 h2 g' r' (rt.mono s') e' (k.mono (g1.a.trans s')) fun Hi2 H2 σ2 env2 s2 g2 r2 e2 => ⟨Hi2, env2, s'.trans s2, g2, r2, e2⟩
    · rintro σ' H' ⟨Hi', env', s', g', r', e'⟩
      rw [rvs.len, List.drop_length] at e'
      have z : R.nx env' = r := Option.some.inj e'
      subst z
      exact k Hi' H' σ' (g1.a.trans s') g' r'
  · cases e
theorem sf_forL {tg iter : Expr} {body : List Stmt} {tl : TE} {g : TG} {is : List Nat} {tb : TS} {f : En → Option T} {h : T → En → Option En} {b : En → Option R} {pos : Pos} (hp : PassesOwn (model X.prog X.w) X.A X.env X.xe) (hc : X.calm = true) (h0 : EF X iter tl f) (h1 : GF X tg g is h) (h2 : SsF X body tb b)
    (hs : ∀ x, foldedSetIterable iter X.env x = pure x := by intro _; rfl) : SF X (.For tg iter body [] pos) (tFor (iList X.K tl) g tb) (sForL f h b) := ⟨ps_for hp hc (pi_list h0.p) h1.p h2.p hs, ev_forL h0.q h1.q h2.q⟩
theorem sf_forT {tg iter : Expr} {body : List Stmt} {tl : TE} {g : TG} {is : List Nat} {tb : TS} {f : En → Option T} {h : T → En → Option En} {b : En → Option R} {pos : Pos} (hp : PassesOwn (model X.prog X.w) X.A X.env X.xe) (hc : X.calm = true) (h0 : EF X iter tl f) (h1 : GF X tg g is h) (h2 : SsF X body tb b)
    (hs : ∀ x, foldedSetIterable iter X.env x = pure x := by intro _; rfl) : SF X (.For tg iter body [] pos) (tFor (iTup X.K tl) g tb) (sForT f h b) := ⟨ps_for hp hc (pi_tup h0.p) h1.p h2.p hs, ev_forT h0.q h1.q h2.q⟩
/-! ### comprehensions -/
theorem wipe_get (σ : St) : ∀ (vs : List Nat) (j : Nat), (L2.wipe σ vs)[j]? = if j ∈ vs ∧ j < σ.length then some none else σ[j]?
  | [], j => by simp [L2.wipe]
  | v :: vs, j => by
    show ((L2.wipe σ vs).set v none)[j]? = _
    by_cases e : v = j
    · subst e
      by_cases hl : v < σ.length
      · rw [List.getElem?_set_self (by rw [wipe_length]; exact hl), if_pos ⟨by simp, hl⟩]
      · rw [List.getElem?_eq_none (by rw [List.length_set, wipe_length]; omega), if_neg (fun z => hl z.2), List.getElem?_eq_none (by omega)]
    · rw [List.getElem?_set_ne e, wipe_get σ vs j]
      have q : (j ∈ v :: vs ∧ j < σ.length) ↔ (j ∈ vs ∧ j < σ.length) := by
        rw [List.mem_cons]
        exact ⟨fun ⟨a, b⟩ => ⟨a.resolve_left fun z => e z.symm, b⟩, fun ⟨a, b⟩ => ⟨.inr a, b⟩⟩
      by_cases c : j ∈ vs ∧ j < σ.length
      · rw [if_pos c, if_pos (q.mpr c)]
      · rw [if_neg c, if_neg (fun z => c (q.mp z))]
theorem wipe_eq {σ σ2 : St} {is vs : List Nat} (hs : ∀ i ∈ is, i ∈ vs) (hl : σ2.length = (L2.wipe σ vs).length) (h : ∀ j, j ∉ is → σ2[j]? = (L2.wipe σ vs)[j]?) : L2.wipe σ2 vs = L2.wipe σ vs := by
  apply List.ext_getElem?
  intro j
  rw [wipe_get σ2 vs j]
  rw [wipe_length] at hl
  by_cases c : j ∈ vs ∧ j < σ.length
  · rw [if_pos ⟨c.1, by omega⟩, wipe_get σ vs j, if_pos c]
  · rw [if_neg (fun z => c ⟨z.1, by omega⟩)]
    by_cases hj : j ∈ is
    · have hv := hs j hj
      have : ¬ j < σ.length := fun z => c ⟨hv, z⟩
      rw [List.getElem?_eq_none (by omega), List.getElem?_eq_none (by rw [wipe_length]; omega)]
    · exact h j hj
def lcGo (h : T → En → Option En) (tt : En → Option Bool) (fe : En → Option T) (env : En) : List T → Option (List T)
  | [] => some []
  | t :: ts => match h t env with
    | some env1 => (match tt env1 with
      | some true => (match fe env1 with
        | some u => (match lcGo h tt fe env ts with
          | some us => some (u :: us)
          | none => none)
        | none => none)
      | some false => lcGo h tt fe env ts
      | none => none)
    | none => none
def eLcL (f : En → Option T) (h : T → En → Option En) (tt : En → Option Bool) (fe : En → Option T) (vs : List Nat) : En → Option T := fun env => match f env with
  | some (.lst ts) => if ts.length ≤ sizeLine then (match lcGo h tt fe (wipeE env vs) ts with
    | some us => some (.lst us)
    | none => none) else none
  | _ => none
def eLcT (f : En → Option T) (h : T → En → Option En) (tt : En → Option Bool) (fe : En → Option T) (vs : List Nat) : En → Option T := fun env => match f env with
  | some (.tup ts) => if ts.length ≤ sizeLine then (match lcGo h tt fe (wipeE env vs) ts with
    | some us => some (.lst us)
    | none => none) else none
  | _ => none
/-- between the turns: the list so far at D -/
def LcAt (K : PySem.W.Frag) (Hi1 H1 : Hp) (D : Addr) (lc : List T → Option (List T)) (ts out : List T) (i : Nat) (H' : Hp) : Prop :=
  ∃ Hi' acc us rest, Grow Hi1 H1 Hi' H' ∧ Hi' D = none ∧ H' D = some (.lst acc) ∧ Reps K Hi' us acc ∧ lc (ts.drop i) = some rest ∧ us ++ rest = out ∧ acc.length ≤ i
theorem lc_turn {g : TG} {is vs : List Nat} {tt : TT} {te : TE} {h : T → En → Option En} {ft : En → Option Bool} {fe : En → Option T} (h1 : EvG K g is h) (h2 : EvT K tt ft) (h3 : EvE K te fe) (hs : ∀ i ∈ is, i ∈ vs) {H0 Hi0 H00 Hi1 H1 : Hp} {σ : St} {env : En}
    (re : REnv K H0 Hi1 H1 σ env) {D : Addr} (hD : H1 D = none) {ts out : List T} {xs : List V} (rvs : Reps K Hi1 ts xs) (hz : ts.length ≤ sizeLine) {i : Nat} {x : V} {H' : Hp} (hx : xs[i]? = some x) (p : LcAt K Hi1 H1 D (lcGo h ft fe (wipeE env vs)) ts out i H') :
    g x (L2.wipe σ vs) H' fun σ2 H2 => L2.wipe σ2 vs = L2.wipe σ vs ∧ tt σ2 H2 fun b H3 =>
      if b = true then te σ2 H3 fun y H4 => ∃ acc, H4 D = some (.lst acc) ∧ acc.length < sizeLine ∧ LcAt K Hi1 H1 D (lcGo h ft fe (wipeE env vs)) ts out (i + 1) (upd H4 D (.lst (acc ++ [y]))) else LcAt K Hi1 H1 D (lcGo h ft fe (wipeE env vs)) ts out (i + 1) H3 := by
  obtain ⟨Hi', acc, us, rest, gg, dn, da, ru, er, eo, hl⟩ := p
  obtain ⟨t, ht, rt⟩ := rvs.get' hx
  have hil : i < ts.length := (List.getElem?_eq_some_iff.mp ht).1
  rw [drop_more ht] at er
  have e' : (match h t (wipeE env vs) with
    | some env1 => (match ft env1 with
      | some true => (match fe env1 with
        | some u => (match lcGo h ft fe (wipeE env vs) (ts.drop (i + 1)) with
          | some us => some (u :: us)
          | none => none)
        | none => none)
      | some false => lcGo h ft fe (wipeE env vs) (ts.drop (i + 1))
      | none => none)
    | none => none) = some rest := er
  split at e'
  · rename_i env1 e1
    have rw1 := (re.grow gg).wipe vs
    refine h1 H0 Hi' H' _ _ env1 t x _ rw1 (rt.mono gg.a) e1 fun σ1 r1 l1 s1 => ⟨wipe_eq hs l1 s1, ?_⟩
    split at e'
    · rename_i e2
      refine h2 H0 Hi' H' σ1 env1 true _ r1 e2 fun Hi3 H3 g3 => iteT ?_
      split at e'
      · rename_i u e3
        split at e'
        · rename_i us' e4
          have z := Option.some.inj e'
          refine h3 H0 Hi3 H3 σ1 env1 u _ (r1.grow g3) e3 fun y Hi4 H4 g4 ry => ?_
          have g34 := g3.trans g4
          have da4 := g34.b _ _ da
          have dn4 := g34.keepNone dn (by rw [da]; simp)
          have ga := gg.trans g34
          refine ⟨acc, da4, by omega, Hi4, acc ++ [y], us ++ [u], us', ⟨ga.a, fun b o w => ?_, fun b o w => ?_, ga.d⟩, dn4, upd_same, (ru.mono g34.a).append (Reps.cons ry Reps.nil), e4, ?_, ?_⟩
          · rw [upd_ne (ne_of_none w hD)]; exact ga.b b o w
          · rw [upd_ne (ne_of_none w dn4)]; exact ga.c b o w
          · rw [← eo, ← z]; simp
          · rw [List.length_append]; simp; omega
        · cases e'
      · cases e'
    · rename_i e2
      refine h2 H0 Hi' H' σ1 env1 false _ r1 e2 fun Hi3 H3 g3 => iteF ?_
      exact ⟨Hi3, acc, us, rest, gg.trans g3, g3.keepNone dn (by rw [da]; simp), g3.b _ _ da, ru.mono g3.a, e', eo, by omega⟩
    · cases e'
  · cases e'
theorem ev_lcL {tl : TE} {g : TG} {is vs : List Nat} {tt : TT} {te : TE} {f : En → Option T} {h : T → En → Option En} {ft : En → Option Bool} {fe : En → Option T} (h0 : EvE K tl f) (h1 : EvG K g is h) (h2 : EvT K tt ft) (h3 : EvE K te fe) (hs : ∀ i ∈ is, i ∈ vs) :
    EvE K (tLc (iList K tl) g tt te vs) (eLcL f h ft fe vs) := fun H0 Hi H σ env t Q re e k => by
  unfold eLcL at e
  split at e
  · rename_i ts e1
    by_cases hz : ts.length ≤ sizeLine
    · rw [if_pos hz] at e
      split at e
      · rename_i out e2
        have z := Option.some.inj e
        subst z
        refine h0 H0 Hi H σ env _ _ re e1 fun v Hi1 H1 g1 rv => ?_
        unfold Rep at rv
        obtain ⟨a, xs, rfl, hq, rvs⟩ := rv
        refine ⟨a, rfl, ⟨xs, g1.c.seq (SqL.of hq)⟩, fun D hD => ?_⟩
        have re1 := re.grow g1
        refine lc_list (K := K) (a := a) (xs := xs) (LcAt K Hi1 H1 D (lcGo h ft fe (wipeE env vs)) ts out)
          ⟨Hi1, [], [], out, ⟨Same.refl _, same_upd hD, g1.c.trans (same_upd hD), fun b q1 q2 => absurd q1 q2⟩, g1.c.free hD, upd_same, Reps.nil, e2, rfl, Nat.le_refl _⟩
          (fun i H' _ ⟨Hi', _, _, _, gg, _⟩ => (gg.a.trans gg.c).seq (SqL.of hq)) (fun i x H' hx p => lc_turn (Hi0 := Hi) (H00 := H) h1 h2 h3 hs re1 hD rvs hz hx p) ?_
        rintro H' ⟨Hi', acc, us, rest, gg, dn, da, ru, er, eo, hl⟩
        rw [rvs.len, List.drop_length] at er
        have zr : [] = rest := Option.some.inj er
        subst zr
        rw [List.append_nil] at eo
        subst eo
        refine k (.ref D) (upd Hi' D (.lst acc)) H' (g1.trans (gg.freeze hD da dn)) ?_
        unfold Rep
        exact ⟨D, acc, rfl, upd_same, ru.mono (same_upd dn)⟩
      · cases e
    · rw [if_neg hz] at e; cases e
  · cases e
end
end PL


set_option Elab.async false
set_option linter.all false
set_option maxRecDepth 100000
set_option maxHeartbeats 4000000
namespace PL
open PySem PySem.Spec PyProof.Rows L2
section
variable {X : Cx} {K : PySem.W.Frag}
theorem ev_lcT {tl : TE} {g : TG} {is vs : List Nat} {tt : TT} {te : TE} {f : En → Option T} {h : T → En → Option En} {ft : En → Option Bool} {fe : En → Option T} (h0 : EvE K tl f) (h1 : EvG K g is h) (h2 : EvT K tt ft) (h3 : EvE K te fe) (hs : ∀ i ∈ is, i ∈ vs) :
    EvE K (tLc (iTup K tl) g tt te vs) (eLcT f h ft fe vs) := fun H0 Hi H σ env t Q re e k => by
  unfold eLcT at e
  split at e
  · rename_i ts e1
    by_cases hz : ts.length ≤ sizeLine
    · rw [if_pos hz] at e
      split at e
      · rename_i out e2
        have z := Option.some.inj e
        subst z
        refine h0 H0 Hi H σ env _ _ re e1 fun v Hi1 H1 g1 rv => ?_
        unfold Rep at rv
        obtain ⟨a, xs, rfl, hq, rvs⟩ := rv
        refine ⟨a, rfl, ⟨xs, sameT g1.c hq⟩, fun D hD => ?_⟩
        have re1 := re.grow g1
        refine lc_tup (K := K) (a := a) (xs := xs) (LcAt K Hi1 H1 D (lcGo h ft fe (wipeE env vs)) ts out)
          ⟨Hi1, [], [], out, ⟨Same.refl _, same_upd hD, g1.c.trans (same_upd hD), fun b q1 q2 => absurd q1 q2⟩, g1.c.free hD, upd_same, Reps.nil, e2, rfl, Nat.le_refl _⟩
          (fun i H' _ ⟨Hi', _, _, _, gg, _⟩ => sameT (gg.a.trans gg.c) hq) (fun i x H' hx p => lc_turn (Hi0 := Hi) (H00 := H) h1 h2 h3 hs re1 hD rvs hz hx p) ?_
        rintro H' ⟨Hi', acc, us, rest, gg, dn, da, ru, er, eo, hl⟩
        rw [rvs.len, List.drop_length] at er
        have zr : [] = rest := Option.some.inj er
        subst zr
        rw [List.append_nil] at eo
        subst eo
        refine k (.ref D) (upd Hi' D (.lst acc)) H' (g1.trans (gg.freeze hD da dn)) ?_
        unfold Rep
        exact ⟨D, acc, rfl, upd_same, ru.mono (same_upd dn)⟩
      · cases e
    · rw [if_neg hz] at e; cases e
  · cases e
/-- the turns of range(n) -/
def rngT (n : Nat) : List T := (List.range n).map fun i : Nat => T.int (0 + (i : Int))
def rngV (n : Nat) : List V := (List.range n).map fun i : Nat => V.int (0 + (i : Int))
theorem rng_reps {H : Hp} (n : Nat) : Reps K H (rngT n) (rngV n) := by
  have : ∀ l : List Nat, Reps K H (l.map fun i : Nat => T.int (0 + (i : Int))) (l.map fun i : Nat => V.int (0 + (i : Int))) := fun l => by
    induction l with
    | nil => exact Reps.nil
    | cons a l ih => exact Reps.cons (by unfold Rep; rfl) ih
  exact this _
theorem rng_get {n i : Nat} (h : i < n) : (rngV n)[i]? = some (.int (0 + (i : Int))) := by
  unfold rngV
  rw [List.getElem?_map, List.getElem?_range h]
  rfl
theorem rng_len (n : Nat) : (rngT n).length = n := by
  unfold rngT
  rw [List.length_map, List.length_range]
def eLcR (f : En → Option T) (h : T → En → Option En) (tt : En → Option Bool) (fe : En → Option T) (vs : List Nat) : En → Option T := fun env => match f env with
  | some (.int n) => if -(2 ^ 62) ≤ n ∧ n ≤ sizeLine then (match lcGo h tt fe (wipeE env vs) (rngT n.toNat) with
    | some us => some (.lst us)
    | none => none) else none
  | _ => none
theorem ev_lcR {tl : TE} {g : TG} {is vs : List Nat} {tt : TT} {te : TE} {f : En → Option T} {h : T → En → Option En} {ft : En → Option Bool} {fe : En → Option T} (h0 : EvE K tl f) (h1 : EvG K g is h) (h2 : EvT K tt ft) (h3 : EvE K te fe) (hs : ∀ i ∈ is, i ∈ vs) :
    EvE K (tLc (iRng1 (tCons tl tNil)) g tt te vs) (eLcR f h ft fe vs) := fun H0 Hi H σ env t Q re e k => by
  unfold eLcR at e
  split at e
  · rename_i n e1
    by_cases hz : -(2 ^ 62) ≤ n ∧ n ≤ sizeLine
    · rw [if_pos hz] at e
      split at e
      · rename_i out e2
        have z := Option.some.inj e
        subst z
        have sz : (sizeLine : Int) = 16777216 := by rw [sizeLine_eq]; rfl
        refine h0 H0 Hi H σ env _ _ re e1 fun v Hi1 H1 g1 rv => ?_
        unfold Rep at rv
        subst rv
        refine ⟨n, rfl, hz.1, by omega, fun D hD => ?_⟩
        have re1 := re.grow g1
        have hz2 : (rngT n.toNat).length ≤ sizeLine := by rw [rng_len]; omega
        refine lc_range (lo := 0) (n := n.toNat) (LcAt K Hi1 H1 D (lcGo h ft fe (wipeE env vs)) (rngT n.toNat) out)
          ⟨Hi1, [], [], out, ⟨Same.refl _, same_upd hD, g1.c.trans (same_upd hD), fun b q1 q2 => absurd q1 q2⟩, g1.c.free hD, upd_same, Reps.nil, e2, rfl, Nat.le_refl _⟩
          (fun i H' hi p => lc_turn (Hi0 := Hi) (H00 := H) h1 h2 h3 hs re1 hD (rng_reps _) hz2 (rng_get hi) p) ?_
        rintro H' ⟨Hi', acc, us, rest, gg, dn, da, ru, er, eo, hl⟩
        have dl : (rngT n.toNat).drop n.toNat = [] := List.drop_eq_nil_of_le (by rw [rng_len]; exact Nat.le_refl _)
        rw [dl] at er
        have zr : [] = rest := Option.some.inj er
        subst zr
        rw [List.append_nil] at eo
        subst eo
        refine k (.ref D) (upd Hi' D (.lst acc)) H' (g1.trans (gg.freeze hD da dn)) ?_
        unfold Rep
        exact ⟨D, acc, rfl, upd_same, ru.mono (same_upd dn)⟩
      · cases e
    · rw [if_neg hz] at e; cases e
  · cases e
def sForR (f : En → Option T) (h : T → En → Option En) (b : En → Option R) : En → Option R := fun env => match f env with
  | some (.int n) => if -(2 ^ 62) ≤ n ∧ n < 2 ^ 62 then fGo h b (rngT n.toNat) env else none
  | _ => none
theorem ev_forR {tl : TE} {g : TG} {is : List Nat} {tb : TS} {f : En → Option T} {h : T → En → Option En} {b : En → Option R} (h0 : EvE K tl f) (h1 : EvG K g is h) (h2 : EvS K tb b) : EvS K (tFor (iRng1 (tCons tl tNil)) g tb) (sForR f h b) := fun H0i H0 Hi H σ env D r gr re e k => by
  unfold sForR at e
  split at e
  · rename_i n e1
    by_cases hz : -(2 ^ 62) ≤ n ∧ n < 2 ^ 62
    · rw [if_pos hz] at e
      refine h0 H0 Hi H σ env _ _ re e1 fun v Hi1 H1 g1 rv => ?_
      unfold Rep at rv
      subst rv
      refine ⟨n, rfl, hz.1, hz.2, for_range (lo := 0) (n := n.toNat) (fun i σ' H' => ∃ Hi' env', Same Hi1 Hi' ∧ Grow H0i H0 Hi' H' ∧ REnv K H0 Hi' H' σ' env' ∧ fGo h b ((rngT n.toNat).drop i) env' = some r)
        ⟨Hi1, env, Same.refl _, gr.trans g1, re.grow g1, e⟩ ?_ ?_⟩
      · rintro i σ' H' hi ⟨Hi', env', s', g', r', e'⟩
        obtain ⟨t, ht, rt⟩ := (rng_reps (K := K) (H := Hi') n.toNat).get' (rng_get hi)
        rw [drop_more ht] at e'
        exact fGo_turn h1 h2 g' r' rt e' (k.mono (g1.a.trans s')) fun Hi2 H2 σ2 env2 s2 g2 r2 e2 => ⟨Hi2, env2, s'.trans s2, g2, r2, e2⟩
      · rintro σ' H' ⟨Hi', env', s', g', r', e'⟩
        have dl : (rngT n.toNat).drop n.toNat = [] := List.drop_eq_nil_of_le (by rw [rng_len]; exact Nat.le_refl _)
        rw [dl] at e'
        have z : R.nx env' = r := Option.some.inj e'
        subst z
        exact k Hi' H' σ' (g1.a.trans s') g' r'
    · rw [if_neg hz] at e; cases e
  · cases e
theorem sf_forR {tg a : Expr} {body : List Stmt} {tl : TE} {g : TG} {is : List Nat} {tb : TS} {f : En → Option T} {h : T → En → Option En} {b : En → Option R} {p cpos pos : Pos} (hp : PassesOwn (model X.prog X.w) X.A X.env X.xe) (hc : X.calm = true) (hm : X.mg "range" = none) (h0 : EF X a tl f) (h1 : GF X tg g is h) (h2 : SsF X body tb b)
    (hg : Gl X "range" := by rfl) (hsa : starEach [a] X.env = [(false, eval a X.env)] := by rfl) (hs : ∀ x, foldedSetIterable (.Call (.Name "range" p) [a] [] cpos) X.env x = pure x := by intro _; rfl) :
    SF X (.For tg (.Call (.Name "range" p) [a] [] cpos) body [] pos) (tFor (iRng1 (tCons tl tNil)) g tb) (sForR f h b) := ⟨ps_for hp hc (pi_range1 hg hm (pa_cons h0.p pa_nil hsa) (hs := hsa)) h1.p h2.p hs, ev_forR h0.q h1.q h2.q⟩
/-! ### comprehensions, as rules -/
structure TsF (X : Cx) (ifs : List Expr) (tt : TT) (f : En → Option Bool) : Prop where
  p : PTs X ifs tt
  q : EvT X.K tt f
theorem tsf_nil : TsF X [] tYes (fun _ => some true) := ⟨pts_nil, fun H0 Hi H σ env b Q r e k => by
  have z := Option.some.inj e
  subst z
  exact k Hi H (Grow.refl r.sub)⟩
theorem tsf_one {c : Expr} {tt : TT} {f : En → Option Bool} (h : TF X c tt f) : TsF X [c] tt f := ⟨pts_one h.p, h.q⟩
abbrev Blks (X : Cx) (scope : Scope) (Pr : Cx → Prop) : Prop := ∀ (s : Shared) (H : Hp) (C : Addr) (cl : List (Str × Addr)) (fp : List Addr), Pr (X.blk s H scope (compEnvC scope cl C X.env) fp)
section
variable {elt tg iter : Expr} {ifs : List Expr} {scope : Scope} {own : List (Str × Nat)} {pos : Pos} {tl : TE} {g : TG} {is : List Nat} {tt : TT} {te : TE} {f : En → Option T} {h : T → En → Option En} {ft : En → Option Bool} {fe : En → Option T}
theorem ef_lcL (own : List (Str × Nat)) (hc : X.calm = true) (hN : X.N.Nodup) (h0 : EF X iter tl f) (ok : BlkOk X.N X.env.scope scope own) (h1 : Blks X scope fun Y => GF Y tg g is h) (h2 : Blks X scope fun Y => TsF Y ifs tt ft) (h3 : Blks X scope fun Y => EF Y elt te fe)
    (hsub : ∀ i ∈ is, i ∈ own.map (·.2) := by decide) (hs : ∀ x, foldedSetIterable iter X.env x = pure x := by intro _; rfl) : EF X (.ListComp elt [⟨tg, iter, ifs, 0⟩] scope pos) (tLc (iList X.K tl) g tt te (own.map (·.2))) (eLcL f h ft fe (own.map (·.2))) :=
  ⟨pe_lc hc hN (pi_list h0.p) ok (fun s H C cl fp => (h1 s H C cl fp).p) (fun s H C cl fp => (h2 s H C cl fp).p) (fun s H C cl fp => (h3 s H C cl fp).p) hs, ev_lcL h0.q (h1 X.s_0 X.H_0 0 [] []).q (h2 X.s_0 X.H_0 0 [] []).q (h3 X.s_0 X.H_0 0 [] []).q hsub⟩
theorem ef_lcT (own : List (Str × Nat)) (hc : X.calm = true) (hN : X.N.Nodup) (h0 : EF X iter tl f) (ok : BlkOk X.N X.env.scope scope own) (h1 : Blks X scope fun Y => GF Y tg g is h) (h2 : Blks X scope fun Y => TsF Y ifs tt ft) (h3 : Blks X scope fun Y => EF Y elt te fe)
    (hsub : ∀ i ∈ is, i ∈ own.map (·.2) := by decide) (hs : ∀ x, foldedSetIterable iter X.env x = pure x := by intro _; rfl) : EF X (.ListComp elt [⟨tg, iter, ifs, 0⟩] scope pos) (tLc (iTup X.K tl) g tt te (own.map (·.2))) (eLcT f h ft fe (own.map (·.2))) :=
  ⟨pe_lc hc hN (pi_tup h0.p) ok (fun s H C cl fp => (h1 s H C cl fp).p) (fun s H C cl fp => (h2 s H C cl fp).p) (fun s H C cl fp => (h3 s H C cl fp).p) hs, ev_lcT h0.q (h1 X.s_0 X.H_0 0 [] []).q (h2 X.s_0 X.H_0 0 [] []).q (h3 X.s_0 X.H_0 0 [] []).q hsub⟩
theorem ef_lcR {a : Expr} {p cpos : Pos} (own : List (Str × Nat)) (hc : X.calm = true) (hN : X.N.Nodup) (hm : X.mg "range" = none) (h0 : EF X a tl f) (ok : BlkOk X.N X.env.scope scope own) (h1 : Blks X scope fun Y => GF Y tg g is h) (h2 : Blks X scope fun Y => TsF Y ifs tt ft) (h3 : Blks X scope fun Y => EF Y elt te fe)
    (hsub : ∀ i ∈ is, i ∈ own.map (·.2) := by decide) (hg : Gl X "range" := by rfl) (hsa : starEach [a] X.env = [(false, eval a X.env)] := by rfl) (hs : ∀ x, foldedSetIterable (.Call (.Name "range" p) [a] [] cpos) X.env x = pure x := by intro _; rfl) :
    EF X (.ListComp elt [⟨tg, .Call (.Name "range" p) [a] [] cpos, ifs, 0⟩] scope pos) (tLc (iRng1 (tCons tl tNil)) g tt te (own.map (·.2))) (eLcR f h ft fe (own.map (·.2))) :=
  ⟨pe_lc hc hN (pi_range1 hg hm (pa_cons h0.p pa_nil hsa) (hs := hsa)) ok (fun s H C cl fp => (h1 s H C cl fp).p) (fun s H C cl fp => (h2 s H C cl fp).p) (fun s H C cl fp => (h3 s H C cl fp).p) hs, ev_lcR h0.q (h1 X.s_0 X.H_0 0 [] []).q (h2 X.s_0 X.H_0 0 [] []).q (h3 X.s_0 X.H_0 0 [] []).q hsub⟩
/-- y = [..] on one line -/
theorem sf_setLc {wi : TI} {fl : En → Option T} (i : Nat) {y : Str} {py spos : Pos} (own : List (Str × Nat)) (hc : X.calm = true) (hN : X.N.Nodup) (hi : PI X tg iter wi) (ok : BlkOk X.N X.env.scope scope own) (hg : Blks X scope fun Y => PG Y tg g) (ht : Blks X scope fun Y => PTs Y ifs tt) (he : Blks X scope fun Y => PE Y elt te)
    (q : EvE X.K (tLc wi g tt te (own.map (·.2))) fl) (hy : X.N[i]? = some y := by rfl) (hyl : X.env.scope.names.lookup y = some .local := by rfl)
    (hsw : swapsWith (.ListComp elt [⟨tg, iter, ifs, 0⟩] scope pos) (some (.Name y py)) spos.line X.env = pure true := by exact sw_true rfl rfl rfl (by decide +kernel)) (hs : ∀ x, foldedSetIterable iter X.env x = pure x := by intro _; rfl) :
    SF X (.Assign [.Name y py] (.ListComp elt [⟨tg, iter, ifs, 0⟩] scope pos) spos) (tAsg (tLc wi g tt te (own.map (·.2))) (gName i)) (sAsg fl fun t env => some (env.set i (some (.imm t)))) :=
  ⟨ps_setLc hc hN hy hyl hsw hi ok hg ht he hs, ev_asg q (ev_name i)⟩
theorem sf_setLcL (i : Nat) {y : Str} {py spos : Pos} (own : List (Str × Nat)) (hc : X.calm = true) (hN : X.N.Nodup) (h0 : EF X iter tl f) (ok : BlkOk X.N X.env.scope scope own) (h1 : Blks X scope fun Y => GF Y tg g is h) (h2 : Blks X scope fun Y => TsF Y ifs tt ft) (h3 : Blks X scope fun Y => EF Y elt te fe)
    (hsub : ∀ i ∈ is, i ∈ own.map (·.2) := by decide) (hy : X.N[i]? = some y := by rfl) (hyl : X.env.scope.names.lookup y = some .local := by rfl)
    (hsw : swapsWith (.ListComp elt [⟨tg, iter, ifs, 0⟩] scope pos) (some (.Name y py)) spos.line X.env = pure true := by exact sw_true rfl rfl rfl (by decide +kernel)) (hs : ∀ x, foldedSetIterable iter X.env x = pure x := by intro _; rfl) :
    SF X (.Assign [.Name y py] (.ListComp elt [⟨tg, iter, ifs, 0⟩] scope pos) spos) (tAsg (tLc (iList X.K tl) g tt te (own.map (·.2))) (gName i)) (sAsg (eLcL f h ft fe (own.map (·.2))) fun t env => some (env.set i (some (.imm t)))) :=
  sf_setLc i own hc hN (pi_list h0.p) ok (fun s H C cl fp => (h1 s H C cl fp).p) (fun s H C cl fp => (h2 s H C cl fp).p) (fun s H C cl fp => (h3 s H C cl fp).p) (ev_lcL h0.q (h1 X.s_0 X.H_0 0 [] []).q (h2 X.s_0 X.H_0 0 [] []).q (h3 X.s_0 X.H_0 0 [] []).q hsub) hy hyl hsw hs
theorem sf_setLcT (i : Nat) {y : Str} {py spos : Pos} (own : List (Str × Nat)) (hc : X.calm = true) (hN : X.N.Nodup) (h0 : EF X iter tl f) (ok : BlkOk X.N X.env.scope scope own) (h1 : Blks X scope fun Y => GF Y tg g is h) (h2 : Blks X scope fun Y => TsF Y ifs tt ft) (h3 : Blks X scope fun Y => EF Y elt te fe)
    (hsub : ∀ i ∈ is, i ∈ own.map (·.2) := by decide) (hy : X.N[i]? = some y := by rfl) (hyl : X.env.scope.names.lookup y = some .local := by rfl)
    (hsw : swapsWith (.ListComp elt [⟨tg, iter, ifs, 0⟩] scope pos) (some (.Name y py)) spos.line X.env = pure true := by exact sw_true rfl rfl rfl (by decide +kernel)) (hs : ∀ x, foldedSetIterable iter X.env x = pure x := by intro _; rfl) :
    SF X (.Assign [.Name y py] (.ListComp elt [⟨tg, iter, ifs, 0⟩] scope pos) spos) (tAsg (tLc (iTup X.K tl) g tt te (own.map (·.2))) (gName i)) (sAsg (eLcT f h ft fe (own.map (·.2))) fun t env => some (env.set i (some (.imm t)))) :=
  sf_setLc i own hc hN (pi_tup h0.p) ok (fun s H C cl fp => (h1 s H C cl fp).p) (fun s H C cl fp => (h2 s H C cl fp).p) (fun s H C cl fp => (h3 s H C cl fp).p) (ev_lcT h0.q (h1 X.s_0 X.H_0 0 [] []).q (h2 X.s_0 X.H_0 0 [] []).q (h3 X.s_0 X.H_0 0 [] []).q hsub) hy hyl hsw hs
end
/-! ### operators and built-ins -/
def oEq (neg : Bool) (x y : T) : Option T := match vT x, vT y with
  | some u, some v => if scal u v = true then some (.bl (if neg then !decide (u = v) else decide (u = v))) else none
  | _, _ => none
theorem oEq_inv {neg : Bool} {x y t : T} (h : oEq neg x y = some t) : ∃ u v, vT x = some u ∧ vT y = some v ∧ scal u v = true ∧ t = .bl (if neg then !decide (u = v) else decide (u = v)) := by
  unfold oEq at h
  split at h
  · rename_i u v e1 e2
    by_cases c : scal u v = true
    · rw [if_pos c] at h
      exact ⟨u, v, e1, e2, c, (Option.some.inj h).symm⟩
    · rw [if_neg c] at h; cases h
  · cases h
theorem ok_eq : R2OK K rEq (oEq false) := fun Hi H x y t v u Q s e rx ry k => by
  obtain ⟨a, b, e1, e2, c, rfl⟩ := oEq_inv e
  obtain ⟨rfl, _⟩ := vT_rep e1 rx
  obtain ⟨rfl, _⟩ := vT_rep e2 ry
  exact ⟨c, k _ Hi H (Grow.refl s) (by unfold Rep; rfl)⟩
theorem ok_ne : R2OK K rNe (oEq true) := fun Hi H x y t v u Q s e rx ry k => by
  obtain ⟨a, b, e1, e2, c, rfl⟩ := oEq_inv e
  obtain ⟨rfl, _⟩ := vT_rep e1 rx
  obtain ⟨rfl, _⟩ := vT_rep e2 ry
  exact ⟨c, k _ Hi H (Grow.refl s) (by unfold Rep; rfl)⟩
/-- is None -/
def isN : T → Bool
  | .non => true
  | _ => false
theorem isN_rep {H : Hp} {t : T} {v : V} (r : Rep K H t v) : decide (v = .non) = isN t := by
  cases t with
  | non => unfold Rep at r; subst r; rfl
  | bl b => unfold Rep at r; subst r; rfl
  | int b => unfold Rep at r; subst r; rfl
  | str b => unfold Rep at r; subst r; rfl
  | lst ts => unfold Rep at r; obtain ⟨a, vs, rfl, _⟩ := r; rfl
  | tup ts => unfold Rep at r; obtain ⟨a, vs, rfl, _⟩ := r; rfl
  | obj c ts => unfold Rep at r; obtain ⟨a, dx, vs, rfl, _⟩ := r; rfl
def eIsN (neg : Bool) (f : En → Option T) : En → Option T := fun env => match f env with
  | some t => some (.bl (if neg then !isN t else isN t))
  | none => none
theorem ev_isN {ta : TE} {f : En → Option T} (h : EvE K ta f) : EvE K (tIsN ta) (eIsN false f) := fun H0 Hi H σ env t Q r e k => by
  unfold eIsN at e
  split at e
  · rename_i u e1
    have z := Option.some.inj e
    subst z
    exact h H0 Hi H σ env u _ r e1 fun v Hi1 H1 g1 rv => by
      rw [isN_rep rv]
      exact k _ _ _ g1 (by unfold Rep; rfl)
  · cases e
theorem ev_notN {ta : TE} {f : En → Option T} (h : EvE K ta f) : EvE K (tNotN ta) (eIsN true f) := fun H0 Hi H σ env t Q r e k => by
  unfold eIsN at e
  split at e
  · rename_i u e1
    have z := Option.some.inj e
    subst z
    exact h H0 Hi H σ env u _ r e1 fun v Hi1 H1 g1 rv => by
      rw [isN_rep rv]
      exact k _ _ _ g1 (by unfold Rep; rfl)
  · cases e
theorem ef_isN {a : Expr} {ta : TE} {f : En → Option T} {pos npos : Pos} {j} (h : EF X a ta f) : EF X (.Compare a [.Is] [.Constant .none j npos] pos) (tIsN ta) (eIsN false f) := ⟨pe_cmp (pc_isN h.p) rfl, ev_isN h.q⟩
theorem ef_notN {a : Expr} {ta : TE} {f : En → Option T} {pos npos : Pos} {j} (h : EF X a ta f) : EF X (.Compare a [.IsNot] [.Constant .none j npos] pos) (tNotN ta) (eIsN true f) := ⟨pe_cmp (pc_notN h.p) rfl, ev_notN h.q⟩
def oInt (g : Int → Int → T) (x y : T) : Option T := match x, y with
  | .int i, .int j => some (g i j)
  | _, _ => none
theorem oInt_inv {g : Int → Int → T} {x y t : T} (h : oInt g x y = some t) : ∃ i j, x = .int i ∧ y = .int j ∧ t = g i j := by
  unfold oInt at h
  split at h
  · exact ⟨_, _, rfl, rfl, (Option.some.inj h).symm⟩
  · cases h
theorem ok_int {g : Int → Int → T} {gv : Int → Int → V} (hg : ∀ H i j, Rep K H (g i j) (gv i j)) : R2OK K (rI0 gv) (oInt g) := fun Hi H x y t v u Q s e rx ry k => by
  obtain ⟨i, j, rfl, rfl, rfl⟩ := oInt_inv e
  unfold Rep at rx ry
  subst rx ry
  exact ⟨i, j, rfl, rfl, k _ Hi H (Grow.refl s) (hg _ _ _)⟩
theorem ok_add : R2OK K (rI0 fun i j => .int (i + j)) (oInt fun i j => .int (i + j)) := ok_int fun H i j => by unfold Rep; rfl
theorem ok_sub : R2OK K (rI0 fun i j => .int (i - j)) (oInt fun i j => .int (i - j)) := ok_int fun H i j => by unfold Rep; rfl
theorem ok_lt : R2OK K (rI0 fun i j => .bl (decide (i < j))) (oInt fun i j => .bl (decide (i < j))) := ok_int fun H i j => by unfold Rep; rfl
theorem ok_gt : R2OK K (rI0 fun i j => .bl (decide (j < i))) (oInt fun i j => .bl (decide (j < i))) := ok_int fun H i j => by unfold Rep; rfl
theorem ok_le : R2OK K (rI0 fun i j => .bl (decide (i ≤ j))) (oInt fun i j => .bl (decide (i ≤ j))) := ok_int fun H i j => by unfold Rep; rfl
theorem ok_ge : R2OK K (rI0 fun i j => .bl (decide (j ≤ i))) (oInt fun i j => .bl (decide (j ≤ i))) := ok_int fun H i j => by unfold Rep; rfl
def oIxT (x y : T) : Option T := match x, y with
  | .tup ts, .int i => atI ts i
  | _, _ => none
def oIxL (x y : T) : Option T := match x, y with
  | .lst ts, .int i => atI ts i
  | _, _ => none
theorem ok_ixT : R2OK K (rIxT K) oIxT := fun Hi H x y t v u Q s e rx ry k => by
  unfold oIxT at e
  split at e
  · rename_i ts i
    unfold Rep at rx ry
    obtain ⟨a, vs, rfl, h2, h3⟩ := rx
    subst ry
    obtain ⟨z, h4, rz⟩ := h3.atI e
    exact ⟨a, vs, i, z, rfl, rfl, sameT s h2, h4, k z Hi H (Grow.refl s) rz⟩
  · cases e
theorem ok_ixL : R2OK K (rIxL K) oIxL := fun Hi H x y t v u Q s e rx ry k => by
  unfold oIxL at e
  split at e
  · rename_i ts i
    unfold Rep at rx ry
    obtain ⟨a, vs, rfl, h2, h3⟩ := rx
    subst ry
    obtain ⟨z, h4, rz⟩ := h3.atI e
    exact ⟨a, vs, i, z, rfl, rfl, s.seq (SqL.of h2), h4, k z Hi H (Grow.refl s) rz⟩
  · cases e
def oIn (neg : Bool) (x y : T) : Option T := match vT x, y with
  | some u, .tup ts => (match vTs ts with
    | some vs => some (.bl (if neg then !inV u vs else inV u vs))
    | none => none)
  | some u, .lst ts => (match vTs ts with
    | some vs => some (.bl (if neg then !inV u vs else inV u vs))
    | none => none)
  | _, _ => none
theorem ok_in (neg : Bool) : R2OK K (rIn K neg) (oIn neg) := fun Hi H x y t v u Q s e rx ry k => by
  unfold oIn at e
  split at e
  · rename_i w ts e1
    split at e
    · rename_i us e2
      have z := Option.some.inj e
      subst z
      unfold Rep at ry
      obtain ⟨a, vs, rfl, h2, h3⟩ := ry
      obtain ⟨rfl, f1⟩ := vT_rep e1 rx
      obtain ⟨rfl, f2⟩ := vTs_rep e2 h3
      exact ⟨a, _, rfl, .inr (sameT s h2), f1, f2, k _ Hi H (Grow.refl s) (by unfold Rep; cases neg <;> rfl)⟩
    · cases e
  · rename_i w ts e1
    split at e
    · rename_i us e2
      have z := Option.some.inj e
      subst z
      unfold Rep at ry
      obtain ⟨a, vs, rfl, h2, h3⟩ := ry
      obtain ⟨rfl, f1⟩ := vT_rep e1 rx
      obtain ⟨rfl, f2⟩ := vTs_rep e2 h3
      exact ⟨a, _, rfl, .inl (s.seq (SqL.of h2)), f1, f2, k _ Hi H (Grow.refl s) (by unfold Rep; cases neg <;> rfl)⟩
    · cases e
  · cases e
/-- len of a list or tuple -/
def oLen : List T → Option T
  | [.lst ts] => some (.int ts.length)
  | [.tup ts] => some (.int ts.length)
  | _ => none
abbrev rLenQ (K : PySem.W.Frag) : List V → Hp → VK → Prop := fun xs H Q => ∃ p ys, xs = [.ref p] ∧ (SqL K H p ys ∨ SqT K H p ys) ∧ Q (.int ys.length) H
theorem ok_len : C1OK K (rLenQ K) oLen := fun Hi H ts t vs Q s e r k => by
  unfold oLen at e
  split at e
  · rename_i us
    have z := Option.some.inj e
    subst z
    obtain ⟨v, r0, rfl, h2, h3⟩ := r.inv
    rw [h3.inv0]
    unfold Rep at h2
    obtain ⟨a, ws, rfl, h4, h5⟩ := h2
    exact ⟨a, ws, rfl, .inl (s.seq (SqL.of h4)), k _ Hi H (Grow.refl s) (by unfold Rep; rw [h5.len])⟩
  · rename_i us
    have z := Option.some.inj e
    subst z
    obtain ⟨v, r0, rfl, h2, h3⟩ := r.inv
    rw [h3.inv0]
    unfold Rep at h2
    obtain ⟨a, ws, rfl, h4, h5⟩ := h2
    exact ⟨a, ws, rfl, .inr (sameT s h4), k _ Hi H (Grow.refl s) (by unfold Rep; rw [h5.len])⟩
  · cases e
def bTs : List T → Option (List Bool)
  | [] => some []
  | .bl b :: ts => (match bTs ts with
    | some bs => some (b :: bs)
    | none => none)
  | _ => none
theorem bTs_rep {H : Hp} : ∀ {ts : List T} {bs : List Bool} {vs : List V}, bTs ts = some bs → Reps K H ts vs → vs = bs.map V.bl
  | [], bs, vs, e, r => by
    have z : [] = bs := Option.some.inj e
    subst z
    exact r.inv0
  | .bl b :: ts, bs, vs, e, r => by
    have e' : (match bTs ts with
      | some bs => some (b :: bs)
      | none => none) = some bs := e
    split at e'
    · rename_i bs1 e1
      have z := Option.some.inj e'
      subst z
      obtain ⟨v, r', rfl, h2, h3⟩ := r.inv
      unfold Rep at h2
      rw [h2, bTs_rep e1 h3]; rfl
    · cases e'
  | .non :: ts, bs, vs, e, r => by cases e
  | .int _ :: ts, bs, vs, e, r => by cases e
  | .str _ :: ts, bs, vs, e, r => by cases e
  | .lst _ :: ts, bs, vs, e, r => by cases e
  | .tup _ :: ts, bs, vs, e, r => by cases e
  | .obj _ _ :: ts, bs, vs, e, r => by cases e
def oAny : List T → Option T
  | [.lst ts] => (match bTs ts with
    | some bs => some (.bl (bs.any id))
    | none => none)
  | _ => none
theorem ok_any : C1OK K (rAny K) oAny := fun Hi H ts t vs Q s e r k => by
  unfold oAny at e
  split at e
  · rename_i us
    split at e
    · rename_i bs e1
      have z := Option.some.inj e
      subst z
      obtain ⟨v, r0, rfl, h2, h3⟩ := r.inv
      rw [h3.inv0]
      unfold Rep at h2
      obtain ⟨a, ws, rfl, h4, h5⟩ := h2
      rw [bTs_rep e1 h5] at h4
      exact ⟨a, bs, rfl, s.seq (SqL.of h4), k _ Hi H (Grow.refl s) (by unfold Rep; rfl)⟩
    · cases e
  · cases e
def oAll : List T → Option T
  | [.lst ts] => (match bTs ts with
    | some bs => some (.bl (bs.all id))
    | none => none)
  | _ => none
theorem ok_all : C1OK K (rAll K) oAll := fun Hi H ts t vs Q s e r k => by
  unfold oAll at e
  split at e
  · rename_i us
    split at e
    · rename_i bs e1
      have z := Option.some.inj e
      subst z
      obtain ⟨v, r0, rfl, h2, h3⟩ := r.inv
      rw [h3.inv0]
      unfold Rep at h2
      obtain ⟨a, ws, rfl, h4, h5⟩ := h2
      rw [bTs_rep e1 h5] at h4
      exact ⟨a, bs, rfl, s.seq (SqL.of h4), k _ Hi H (Grow.refl s) (by unfold Rep; rfl)⟩
    · cases e
  · cases e
def iTs : List T → Option (List Int)
  | [] => some []
  | .int b :: ts => (match iTs ts with
    | some bs => some (b :: bs)
    | none => none)
  | _ => none
theorem iTs_rep {H : Hp} : ∀ {ts : List T} {bs : List Int} {vs : List V}, iTs ts = some bs → Reps K H ts vs → vs = bs.map V.int
  | [], bs, vs, e, r => by
    have z : [] = bs := Option.some.inj e
    subst z
    exact r.inv0
  | .int b :: ts, bs, vs, e, r => by
    have e' : (match iTs ts with
      | some bs => some (b :: bs)
      | none => none) = some bs := e
    split at e'
    · rename_i bs1 e1
      have z := Option.some.inj e'
      subst z
      obtain ⟨v, r', rfl, h2, h3⟩ := r.inv
      unfold Rep at h2
      rw [h2, iTs_rep e1 h3]; rfl
    · cases e'
  | .non :: ts, bs, vs, e, r => by cases e
  | .bl _ :: ts, bs, vs, e, r => by cases e
  | .str _ :: ts, bs, vs, e, r => by cases e
  | .lst _ :: ts, bs, vs, e, r => by cases e
  | .tup _ :: ts, bs, vs, e, r => by cases e
  | .obj _ _ :: ts, bs, vs, e, r => by cases e
def oSum : List T → Option T
  | [.lst ts] => (match iTs ts with
    | some bs => some (.int bs.sum)
    | none => none)
  | _ => none
theorem ok_sum : C1OK K (rSum K) oSum := fun Hi H ts t vs Q s e r k => by
  unfold oSum at e
  split at e
  · rename_i us
    split at e
    · rename_i bs e1
      have z := Option.some.inj e
      subst z
      obtain ⟨v, r0, rfl, h2, h3⟩ := r.inv
      rw [h3.inv0]
      unfold Rep at h2
      obtain ⟨a, ws, rfl, h4, h5⟩ := h2
      rw [iTs_rep e1 h5] at h4
      exact ⟨a, bs, rfl, s.seq (SqL.of h4), k _ Hi H (Grow.refl s) (by unfold Rep; rfl)⟩
    · cases e
  · cases e
def oMin2 : List T → Option T
  | [.int i, .int j] => some (.int (if j < i then j else i))
  | _ => none
theorem ok_min2 : C1OK K (fun xs H Q => ∃ i j, xs = [.int i, .int j] ∧ Q (.int (if j < i then j else i)) H) oMin2 := fun Hi H ts t vs Q s e r k => by
  unfold oMin2 at e
  split at e
  · rename_i i j
    have z := Option.some.inj e
    subst z
    obtain ⟨v, r0, rfl, h2, h3⟩ := r.inv
    obtain ⟨v', r1, rfl, h4, h5⟩ := h3.inv
    rw [h5.inv0]
    unfold Rep at h2 h4
    subst h2 h4
    exact ⟨i, j, rfl, k _ Hi H (Grow.refl s) (by unfold Rep; rfl)⟩
  · cases e
def oTupOf : List T → Option T
  | [.lst ts] => some (.tup ts)
  | [.tup ts] => some (.tup ts)
  | _ => none
abbrev rTupOf (K : PySem.W.Frag) : List V → Hp → VK → Prop := fun xs H Q => ∃ p ys, xs = [.ref p] ∧ ((SqL K H p ys ∧ ∀ l, H l = none → Q (.ref l) (upd H l (.tup ys))) ∨ (SqT K H p ys ∧ Q (.ref p) H))
theorem ok_tupOf : C1OK K (rTupOf K) oTupOf := fun Hi H ts t vs Q s e r k => by
  unfold oTupOf at e
  split at e
  · rename_i us
    have z := Option.some.inj e
    subst z
    obtain ⟨v, r0, rfl, h2, h3⟩ := r.inv
    rw [h3.inv0]
    unfold Rep at h2
    obtain ⟨a, ws, rfl, h4, h5⟩ := h2
    refine ⟨a, ws, rfl, .inl ⟨s.seq (SqL.of h4), fun p hp => k _ _ _ (Grow.new s hp) ?_⟩⟩
    unfold Rep
    exact ⟨p, ws, rfl, .inl (.inl upd_same), h5.mono (same_upd (s.free hp))⟩
  · rename_i us
    have z := Option.some.inj e
    subst z
    obtain ⟨v, r0, rfl, h2, h3⟩ := r.inv
    rw [h3.inv0]
    have h2' := h2
    unfold Rep at h2
    obtain ⟨a, ws, rfl, h4, h5⟩ := h2
    exact ⟨a, ws, rfl, .inr ⟨sameT s h4, k _ Hi H (Grow.refl s) h2'⟩⟩
  · cases e
def oLstOf : List T → Option T
  | [.lst ts] => some (.lst ts)
  | [.tup ts] => some (.lst ts)
  | _ => none
abbrev rLstOf (K : PySem.W.Frag) : List V → Hp → VK → Prop := fun xs H Q => ∃ p ys, xs = [.ref p] ∧ (SqL K H p ys ∨ SqT K H p ys) ∧ ∀ l, H l = none → Q (.ref l) (upd H l (.lst ys))
theorem ok_lstOf : C1OK K (rLstOf K) oLstOf := fun Hi H ts t vs Q s e r k => by
  unfold oLstOf at e
  split at e
  · rename_i us
    have z := Option.some.inj e
    subst z
    obtain ⟨v, r0, rfl, h2, h3⟩ := r.inv
    rw [h3.inv0]
    unfold Rep at h2
    obtain ⟨a, ws, rfl, h4, h5⟩ := h2
    refine ⟨a, ws, rfl, .inl (s.seq (SqL.of h4)), fun p hp => k _ _ _ (Grow.new s hp) ?_⟩
    unfold Rep
    exact ⟨p, ws, rfl, upd_same, h5.mono (same_upd (s.free hp))⟩
  · rename_i us
    have z := Option.some.inj e
    subst z
    obtain ⟨v, r0, rfl, h2, h3⟩ := r.inv
    rw [h3.inv0]
    unfold Rep at h2
    obtain ⟨a, ws, rfl, h4, h5⟩ := h2
    refine ⟨a, ws, rfl, .inr (sameT s h4), fun p hp => k _ _ _ (Grow.new s hp) ?_⟩
    unfold Rep
    exact ⟨p, ws, rfl, upd_same, h5.mono (same_upd (s.free hp))⟩
  · cases e
/-- tuple + tuple -/
def oCatT (x y : T) : Option T := match x, y with
  | .tup ts, .tup us => if ts.length + us.length ≤ sizeLine then some (.tup (ts ++ us)) else none
  | _, _ => none
end
/-! ### a def -/
abbrev FnP (K : PySem.W.Frag) (x q : Str) (st : Stmt) (f : Addr) (fd : FuncData) : Prop := FunD K x q (defArgs st) (defBody st) (defScope st) [] [] f fd
/-- the end of a body as a function of the arguments -/
def endF (g : En → Option R) (m : Nat) (ts : List T) : Option T := match g (ts.map (fun t => some (.imm t)) ++ List.replicate (m - ts.length) none) with
  | some (.nx _) => some .non
  | some (.rt t) => some t
  | _ => none
theorem REnv.start {K : PySem.W.Frag} {Hi H : Hp} {ts : List T} {vs : List V} {N : List Str} (s : Same Hi H) (r : Reps K Hi ts vs) : REnv K H Hi H (L2.start N vs) (ts.map (fun t => some (B.imm t)) ++ List.replicate (N.length - ts.length) none) := by
  have hl := r.len
  have key : ∀ (i : Nat) (b : B), (ts.map (fun t => some (B.imm t)) ++ List.replicate (N.length - ts.length) none)[i]? = some (some b) → ∃ t, ts[i]? = some t ∧ b = .imm t := fun i b e => by
    by_cases hi : i < ts.length
    · rw [List.getElem?_append_left (by rw [List.length_map]; exact hi), List.getElem?_map] at e
      cases q : ts[i]? with
      | none => rw [q] at e; cases e
      | some t =>
        rw [q] at e
        exact ⟨t, rfl, (Option.some.inj (Option.some.inj e)).symm⟩
    · rw [List.getElem?_append_right (by rw [List.length_map]; omega), List.getElem?_replicate] at e
      split at e <;> cases e
  refine ⟨?_, s, fun i t e => ?_, fun i ts' e => ?_, fun i u e => ?_, fun i j ts' us a _ e _ _ => ?_⟩
  · unfold L2.start
    rw [List.length_append, List.length_append, List.length_map, List.length_map, List.length_replicate, List.length_replicate, hl]
  · obtain ⟨u, h1, h2⟩ := key i _ e
    injection h2 with h2
    subst h2
    obtain ⟨v, h3, h4⟩ := r.get h1
    refine ⟨v, ?_, h4⟩
    unfold L2.start
    rw [List.getElem?_append_left (by rw [List.length_map]; exact (List.getElem?_eq_some_iff.mp h3).1), List.getElem?_map, h3]
    rfl
  · obtain ⟨u, h1, h2⟩ := key i _ e
    cases h2
  · obtain ⟨u, h1, h2⟩ := key i _ e
    cases h2
  · obtain ⟨u, h1, h2⟩ := key i _ e
    cases h2
section
variable {P : Program} {w : World} {K : PySem.W.Frag} {mg : Str → Option Value} {base : Heap}
/-- THE RULE: a def whose body is a function of the trees -/
theorem fn_pure {x q : Str} {st : Stmt} {f : Addr} {fd : FuncData} {N ps : List Str} {k n : Nat} {g : En → Option R} (F : FnP K x q st f fd) (S : FnScope N ps (defScope st)) (hn : ps.length = n)
    (hb : ∀ (cdv : Value) (A : Around) (outer : List Env) (s : Shared) (H : Hp) (E : XK), Room k (A.deeper (envOfC q (defScope st) s.heap.objs.size f cdv)) → ∃ ts, SsF (cxOf CX0 P w K mg base N q (defScope st) f cdv A outer s H E).nox (defBody st) ts g) :
    FnOk P w K mg base CX0 (k + 1) f fd ps (spP K n (endF g N.length)) := by
  refine F.ok S (fun vs H Q E h => ?_) (fun cdv A outer s H vs Q E hr h => ?_)
  · obtain ⟨Hi, ts, t, _, h2, _⟩ := h
    rw [h2, hn]
  · obtain ⟨Hi, us, t, h1, h2, h3, h4, k⟩ := h
    obtain ⟨ts, hs⟩ := hb cdv A outer s H E hr
    refine ⟨ts, hs.p.nox, ?_⟩
    unfold endF at h4
    split at h4
    · rename_i env e
      have z := Option.some.inj h4
      subst z
      exact hs.q Hi H Hi H _ _ _ (.nx env) (Grow.refl h1) (REnv.start h1 h3) e fun Hi' H' σ' _ gg _ => k .non Hi' H' gg (by unfold Rep; rfl)
    · rename_i u e
      have z := Option.some.inj h4
      subst z
      exact hs.q Hi H Hi H _ _ _ (.rt u) (Grow.refl h1) (REnv.start h1 h3) e fun v Hi' H' gg rv => k v Hi' H' gg rv
    · cases h4
/-- the same function in other words -/
theorem FnAt.eqF {k n : Nat} {x : Str} {ps : List Str} {F G : List T → Option T} (h : FnAt P w K mg base k x ps (spP K n F)) (e : ∀ ts t, ts.length = n → G ts = some t → F ts = some t) : FnAt P w K mg base k x ps (spP K n G) := by
  obtain ⟨f, fd, h1, h2, h3, h4⟩ := h.ex
  refine ⟨f, fd, h1, h2, h3, h4.imp fun vs H Q E q => ?_⟩
  obtain ⟨Hi, ts, t, q1, q2, q3, q4, q5⟩ := q
  exact ⟨Hi, ts, t, q1, q2, q3, e ts t (by rw [← q3.len, q2]) q4, q5⟩
end
end PL


set_option Elab.async false
set_option linter.all false
set_option maxRecDepth 100000
set_option maxHeartbeats 4000000
/-! zip of three tuples. -/
namespace PL
open PySem PySem.Spec PyProof.Rows L2
def Itz3 (K : PySem.W.Frag) (a b c : Addr) : It :=
  ⟨fun i H => ∃ (xs ys zs : List V) (x y z : V), SqT K H a xs ∧ SqT K H b ys ∧ SqT K H c zs ∧ xs[i]? = some x ∧ ys[i]? = some y ∧ zs[i]? = some z,
    fun i H v H' => ∃ T x y z, v = .ref T ∧ H T = none ∧ H' = upd H T (.tup [x, y, z]) ∧ (∀ xs, SqT K H a xs → xs[i]? = some x) ∧ (∀ ys, SqT K H b ys → ys[i]? = some y) ∧ ∀ zs, SqT K H c zs → zs[i]? = some z,
    fun i H => ∃ xs ys zs : List V, SqT K H a xs ∧ SqT K H b ys ∧ SqT K H c zs ∧ i ≤ xs.length ∧ i ≤ ys.length ∧ i ≤ zs.length ∧ (xs.length = i ∨ ys.length = i ∨ zs.length = i)⟩
theorem turn_zip3 {P : Program} {w : World} {K : PySem.W.Frag} {elts : List Expr} {kk : Nat} {tpos : Pos} {a b c z TI TO i1 i2 i3 : Addr} (D : ZipSep3 z TI TO i1 i2 i3 [i1, a] [i2, b] [i3, c]) :
    Turn P w K (.Tuple elts kk tpos) (Itz3 K a b c) [z, TI, TO, i1, i2, i3] z (fun i h => IsZip h z TI TO .none ∧ IsTupOf3 h TI (.ref i1) (.ref i2) (.ref i3) ∧ (∃ x y w, IsTupOf3 h TO x y w) ∧ h.IsTupleIter i1 a i ∧ h.IsTupleIter i2 b i ∧ h.IsTupleIter i3 c i) where
  mem := by simp
  obj := fun i h st q hq => by
    obtain ⟨hz, hTI, ⟨x, y, w', hTO⟩, ⟨o1, e1, _, d1⟩, ⟨o2, e2, _, d2⟩, ⟨o3, e3, _, d3⟩⟩ := st
    have e' : q = z ∨ q = TI ∨ q = TO ∨ q = i1 ∨ q = i2 ∨ q = i3 := by simpa using hq
    rcases e' with q | q | q | q | q | q
    · rw [q]; exact ⟨_, hz, fun v q => nomatch q⟩
    · rw [q]; exact ⟨_, hTI, fun v q => nomatch q⟩
    · rw [q]; exact ⟨_, hTO, fun v q => nomatch q⟩
    · rw [q]; exact ⟨o1, e1, fun v q => by rw [d1] at q; cases q⟩
    · rw [q]; exact ⟨o2, e2, fun v q => by rw [d2] at q; cases q⟩
    · rw [q]; exact ⟨o3, e3, fun v q => by rw [d3] at q; cases q⟩
  keep := fun i h h' st k => by
    obtain ⟨hz, hTI, ⟨x, y, w', hTO⟩, h1, h2, h3⟩ := st
    exact ⟨k z (by simp) _ hz, k TI (by simp) _ hTI, ⟨x, y, w', k TO (by simp) _ hTO⟩, h1.at fun o q => k i1 (by simp) o q, h2.at fun o q => k i2 (by simp) o q, h3.at fun o q => k i3 (by simp) o q⟩
  item := by
    intro X hP hw hK hc i pins s σ H E I hf st hg
    subst hP hw hK
    obtain ⟨hz, hTI, ⟨x0, y0, w0, hTO⟩, h1, h2, h3⟩ := st
    obtain ⟨xs, ys, zs, x, y, u, hqx, hqy, hqz, hx, hy, hu⟩ := hg
    obtain ⟨its, rv, p, _⟩ := I.tuple hqx
    obtain ⟨its2, rv2, p2, _⟩ := I.tuple hqy
    obtain ⟨its3, rv3, p3, _⟩ := I.tuple hqz
    obtain ⟨v1, hv1, r1⟩ := rv.get hx
    obtain ⟨v2, hv2, r2⟩ := rv2.get hy
    obtain ⟨v3, hv3, r3⟩ := rv3.get hu
    have hh : X.A.in1.handled = Option.none := I.ok.hd hc
    have ne1 : a ≠ i1 := fun e => by
      obtain ⟨o, ho, _, hd⟩ := h1
      obtain ⟨o', ho', _, _, hd'⟩ := id p
      rw [e, ho] at ho'
      cases ho'
      rw [hd] at hd'; cases hd'
    have ne2 : b ≠ i2 := fun e => by
      obtain ⟨o, ho, _, hd⟩ := h2
      obtain ⟨o', ho', _, _, hd'⟩ := id p2
      rw [e, ho] at ho'
      cases ho'
      rw [hd] at hd'; cases hd'
    have ne3 : c ≠ i3 := fun e => by
      obtain ⟨o, ho, _, hd⟩ := h3
      obtain ⟨o', ho', _, _, hd'⟩ := id p3
      rw [e, ho] at ho'
      cases ho'
      rw [hd] at hd'; cases hd'
    have hzl : z < s.heap.objs.size := Heap.lt_size hz
    have l1 : i < its.toArray.size := by rw [List.size_toArray]; exact (List.getElem?_eq_some_iff.mp hv1).1
    have l2 : i < its2.toArray.size := by rw [List.size_toArray]; exact (List.getElem?_eq_some_iff.mp hv2).1
    have l3 : i < its3.toArray.size := by rw [List.size_toArray]; exact (List.getElem?_eq_some_iff.mp hv3).1
    refine wpAny_pyNext_zipD3_item D (Draws.tuple hh i1 a ne1 its.toArray) (Draws.tuple hh i2 b ne2 its2.toArray) (Draws.tuple hh i3 c ne3 its3.toArray) hz hTI hTO ⟨h1, p⟩ ⟨h2, p2⟩ ⟨h3, p3⟩ l1 l2 l3
      fun w1 w2 w3 h' tk e1 e2 e3 z' TO' g1 g2 g3 hT hsz hk => ?_
    have q1 : w1 = v1 := by
      have : its[i]? = some w1 := by simpa using e1
      rw [hv1] at this; exact (Option.some.inj this).symm
    have q2 : w2 = v2 := by
      have : its2[i]? = some w2 := by simpa using e2
      rw [hv2] at this; exact (Option.some.inj this).symm
    have q3 : w3 = v3 := by
      have : its3[i]? = some w3 := by simpa using e3
      rw [hv3] at this; exact (Option.some.inj this).symm
    subst q1 q2 q3
    refine ⟨_, rfl, wpAny_letOwnedTupleGo_zip (s := { s with heap := h', toks := tk }) z' fun h'' z'' sb => ?_⟩
    have hT2 : h''.get? s.heap.objs.size = some { cls := .type "tuple", data := .seq #[w1, w2, w3] } := (sb.2 _ (Nat.ne_of_gt hzl)).trans hT
    have new : ObjOk X.prog X.w (upd H s.heap.objs.size (.tup [x, y, u])) h'' s.heap.objs.size (.tup [x, y, u]) :=
      ⟨by show 3 ≤ sizeLine; decide, [w1, w2, w3], .cons r1 (.cons r2 (.cons r3 .nil)), ⟨_, hT2, rfl, _, rfl⟩⟩
    have I1 : Inv X pins σ (upd H s.heap.objs.size (.tup [x, y, u])) { s with heap := h'', toks := tk } :=
      I.turnedNew (t' := tk) (ch := [z, TI, TO, i1, i2, i3]) (fun q o hb w => (sb.2 q (fun q' => hb (by simp [q']))).trans (hk q o (fun q' => hb (by simp [q'])) (fun q' => hb (by simp [q'])) (fun q' => hb (by simp [q'])) (fun q' => hb (by simp [q'])) (fun q' => hb (by simp [q'])) w)) hf (Nat.le_refl _) new
    refine ⟨.ref s.heap.objs.size, _, I1, rfl, ⟨_, x, y, u, rfl, I.hok.fresh (Nat.le_refl _), rfl, fun l hl => by rw [I.tuple_inj hl hqx]; exact hx, fun l hl => by rw [I.tuple_inj hl hqy]; exact hy, fun l hl => by rw [I.tuple_inj hl hqz]; exact hu⟩, ⟨z'', ?_, ⟨w1, w2, w3, ?_⟩, ?_, ?_, ?_⟩, fun q hqm => ?_⟩
    · exact (sb.2 _ D.TIz).trans (hk _ _ D.TIz D.TITO D.TIi1 D.TIi2 D.TIi3 hTI)
    · exact (sb.2 _ D.TOz).trans TO'
    · exact g1.1.at fun o q => (sb.2 _ D.zi1.symm).trans q
    · exact g2.1.at fun o q => (sb.2 _ D.zi2.symm).trans q
    · exact g3.1.at fun o q => (sb.2 _ D.zi3.symm).trans q
    · have hlt : q < s.heap.objs.size := by
        have e' : q = z ∨ q = TI ∨ q = TO ∨ q = i1 ∨ q = i2 ∨ q = i3 := by simpa using hqm
        rcases e' with q | q | q | q | q | q
        · rw [q]; exact hzl
        · rw [q]; exact Heap.lt_size hTI
        · rw [q]; exact Heap.lt_size hTO
        · rw [q]; obtain ⟨_, e1, _⟩ := h1; exact Heap.lt_size e1
        · rw [q]; obtain ⟨_, e2, _⟩ := h2; exact Heap.lt_size e2
        · rw [q]; obtain ⟨_, e3, _⟩ := h3; exact Heap.lt_size e3
      rw [upd_ne (Nat.ne_of_lt hlt)]
      exact (hf q hqm).1
  done := by
    intro X hP hw hK hc i pins s σ H E I hf st hg
    subst hP hw hK
    obtain ⟨hz, hTI, ⟨x0, y0, w0, hTO⟩, h1, h2, h3⟩ := st
    obtain ⟨xs, ys, zs, hqx, hqy, hqz, n1, n2, n3, hend⟩ := hg
    obtain ⟨its, rv, p, _⟩ := I.tuple hqx
    obtain ⟨its2, rv2, p2, _⟩ := I.tuple hqy
    obtain ⟨its3, rv3, p3, _⟩ := I.tuple hqz
    have l1 := rv.length
    have l2 := rv2.length
    have l3 := rv3.length
    have hh : X.A.in1.handled = Option.none := I.ok.hd hc
    have ne1 : a ≠ i1 := fun e => by
      obtain ⟨o, ho, _, hd⟩ := h1
      obtain ⟨o', ho', _, _, hd'⟩ := id p
      rw [e, ho] at ho'
      cases ho'
      rw [hd] at hd'; cases hd'
    have ne2 : b ≠ i2 := fun e => by
      obtain ⟨o, ho, _, hd⟩ := h2
      obtain ⟨o', ho', _, _, hd'⟩ := id p2
      rw [e, ho] at ho'
      cases ho'
      rw [hd] at hd'; cases hd'
    have ne3 : c ≠ i3 := fun e => by
      obtain ⟨o, ho, _, hd⟩ := h3
      obtain ⟨o', ho', _, _, hd'⟩ := id p3
      rw [e, ho] at ho'
      cases ho'
      rw [hd] at hd'; cases hd'
    refine wpAny_pyNext_zipD3_end D (Draws.tuple hh i1 a ne1 its.toArray) (Draws.tuple hh i2 b ne2 its2.toArray) (Draws.tuple hh i3 c ne3 its3.toArray) hz hTI hTO ⟨h1, p⟩ ⟨h2, p2⟩ ⟨h3, p3⟩ (by rw [List.size_toArray]; omega) (by rw [List.size_toArray]; omega) (by rw [List.size_toArray]; omega)
      (by rw [List.size_toArray, List.size_toArray, List.size_toArray]; omega) fun h' tk hk => ⟨rfl, I.turnedL (t' := tk) (ch := [z, TI, TO, i1, i2, i3]) (fun q o hb w =>
      hk q o (fun q' => hb (by simp [q'])) (fun q' => hb (by simp [q'])) (fun q' => hb (by simp [q'])) (fun q' => hb (by simp [q'])) (fun q' => hb (by simp [q'])) w) hf⟩
  self := fun A i s Q E st h => wpAny_pyIter_zip st.1 h
def iZip3 (K : PySem.W.Frag) (ta : TA) : TI := fun σ H R => ta σ H fun vs H1 => ∃ a b c xs ys zs, vs = [.ref a, .ref b, .ref c] ∧ SqT K H1 a xs ∧ SqT K H1 b ys ∧ SqT K H1 c zs ∧ R (Itz3 K a b c) H1
theorem pi_zip3 {X : Cx} {e e2 e3 : Expr} {ta : TA} {p pos tpos : Pos} {elts : List Expr} {kk : Nat} (hm : X.mg "zip" = none) (ha : PA X [e, e2, e3] ta) (hg : Gl X "zip" := by rfl)
    (hs : starEach [e, e2, e3] X.env = (false, eval e X.env) :: starEach [e2, e3] X.env := by rfl) (hpl : (backTo pos (starEach [e2, e3] X.env)).any (·.1) = false := by rfl) :
    PI X (.Tuple elts kk tpos) (.Call (.Name "zip" p) [e, e2, e3] [] pos) (iZip3 X.K ta) := by
  refine ⟨fun pins s σ H R I h => ?_⟩
  refine Call_ (ld_blt I hg hm PyProof.Rows.boot_zip (PyProof.Rows.callWith_type1 (thn (ha.run pos pins s σ H _ I h) fun us s1 ⟨vs, H1, I1, r1, q1⟩ => ?_) hs hpl))
  obtain ⟨a, b, c, xs, ys, zs, ex, hqx, hqy, hqz, q⟩ := q1
  subst ex
  cases r1 with
  | cons r rr =>
    cases rr with
    | cons r' rr =>
      cases rr with
      | cons r'' rr =>
        cases rr
        cases r
        cases r'
        cases r''
        obtain ⟨its, rv, p1, _⟩ := I1.tuple hqx
        obtain ⟨its2, rv2, p2, _⟩ := I1.tuple hqy
        obtain ⟨its3, rv3, p3, _⟩ := I1.tuple hqz
        have la : a < s1.heap.objs.size := by obtain ⟨o, ho, _⟩ := id p1; exact Heap.lt_size ho
        have lb : b < s1.heap.objs.size := by obtain ⟨o, ho, _⟩ := id p2; exact Heap.lt_size ho
        have lc : c < s1.heap.objs.size := by obtain ⟨o, ho, _⟩ := id p3; exact Heap.lt_size ho
        have fresh6 : ∀ q, q ∈ [s1.heap.objs.size + 5, s1.heap.objs.size + 3, s1.heap.objs.size + 4, s1.heap.objs.size, s1.heap.objs.size + 1, s1.heap.objs.size + 2] → FpOk X pins H1 q := fun q hqm => by
          have hle : s1.heap.objs.size ≤ q := by
            have e' : q = s1.heap.objs.size + 5 ∨ q = s1.heap.objs.size + 3 ∨ q = s1.heap.objs.size + 4 ∨ q = s1.heap.objs.size ∨ q = s1.heap.objs.size + 1 ∨ q = s1.heap.objs.size + 2 := by simpa using hqm
            rcases e' with z | z | z | z | z | z
            · rw [z]; exact Nat.le_add_right _ _
            · rw [z]; exact Nat.le_add_right _ _
            · rw [z]; exact Nat.le_add_right _ _
            · rw [z]; exact Nat.le_refl _
            · rw [z]; exact Nat.le_add_right _ _
            · rw [z]; exact Nat.le_add_right _ _
          exact I1.fpOk hle (I1.hok.fresh hle)
        refine zip_begins3 (begins_tuple a its.toArray) (begins_tuple b its2.toArray) (begins_tuple c its3.toArray) p1 p2 p3 fun h' hz hTI hTO h1 h2 h3 hsz hk => wpAny_pyIter_zip hz ?_
        have I2 : Inv X pins σ H1 { s1 with heap := h' } := I1.kept (t' := s1.toks) hk
        have S : ZipSep3 (s1.heap.objs.size + 5) (s1.heap.objs.size + 3) (s1.heap.objs.size + 4) s1.heap.objs.size (s1.heap.objs.size + 1) (s1.heap.objs.size + 2) [s1.heap.objs.size, a] [s1.heap.objs.size + 1, b] [s1.heap.objs.size + 2, c] :=
          zip_sep3 (fun x hx => by rw [List.mem_singleton.mp hx]; exact la) (fun x hx => by rw [List.mem_singleton.mp hx]; exact lb) (fun x hx => by rw [List.mem_singleton.mp hx]; exact lc)
        exact ⟨s1.heap.objs.size + 5, [s1.heap.objs.size + 5, s1.heap.objs.size + 3, s1.heap.objs.size + 4, s1.heap.objs.size, s1.heap.objs.size + 1, s1.heap.objs.size + 2], _, _, H1, rfl, I2, turn_zip3 S, ⟨hz, hTI, ⟨_, _, _, hTO⟩, ⟨_, h1, rfl, rfl⟩, ⟨_, h2, rfl, rfl⟩, ⟨_, h3, rfl, rfl⟩⟩, fresh6, q⟩
end PL


set_option Elab.async false
set_option linter.all false
set_option maxRecDepth 100000
set_option maxHeartbeats 4000000
namespace PL
open PySem PySem.Spec PyProof.Rows L2
section
variable {X : Cx} {K : PySem.W.Frag}
/-! ### == of data -/
mutual
def dT : T → Option PyData
  | .non => some .none
  | .bl b => some (.bool b)
  | .int i => some (.int i)
  | .str x => some (.str x)
  | .lst ts => (match dTs ts with
    | some ds => some (.list ds)
    | none => none)
  | .tup ts => (match dTs ts with
    | some ds => some (.tuple ds)
    | none => none)
  | .obj _ _ => none
def dTs : List T → Option (List PyData)
  | [] => some []
  | t :: ts => (match dT t with
    | some d => (match dTs ts with
      | some ds => some (d :: ds)
      | none => none)
    | none => none)
end
mutual
theorem dT_rep {H : Hp} : ∀ {t : T} {d : PyData} {v : V}, dT t = some d → Rep K H t v → Dp K H v d
  | .non, d, v, e, r => by
    unfold dT at e; unfold Rep at r
    cases Option.some.inj e; subst r; exact .non
  | .bl b, d, v, e, r => by
    unfold dT at e; unfold Rep at r
    cases Option.some.inj e; subst r; exact .bl b
  | .int b, d, v, e, r => by
    unfold dT at e; unfold Rep at r
    cases Option.some.inj e; subst r; exact .int b
  | .str b, d, v, e, r => by
    unfold dT at e; unfold Rep at r
    cases Option.some.inj e; subst r; exact .str b
  | .lst ts, d, v, e, r => by
    unfold dT at e; unfold Rep at r
    obtain ⟨a, vs, rfl, h2, h3⟩ := r
    split at e
    · rename_i ds e1
      cases Option.some.inj e
      exact .lst (SqL.of h2) (dTs_rep e1 h3)
    · cases e
  | .tup ts, d, v, e, r => by
    unfold dT at e; unfold Rep at r
    obtain ⟨a, vs, rfl, h2, h3⟩ := r
    split at e
    · rename_i ds e1
      cases Option.some.inj e
      exact .tup h2 (dTs_rep e1 h3)
    · cases e
  | .obj _ _, d, v, e, r => by unfold dT at e; cases e
theorem dTs_rep {H : Hp} : ∀ {ts : List T} {ds : List PyData} {vs : List V}, dTs ts = some ds → Reps K H ts vs → DpAll K H vs ds
  | [], ds, vs, e, r => by
    unfold dTs at e
    cases Option.some.inj e
    rw [r.inv0]; exact .nil
  | t :: ts, ds, vs, e, r => by
    unfold dTs at e
    obtain ⟨v, r', rfl, h2, h3⟩ := r.inv
    split at e
    · rename_i d e1
      split at e
      · rename_i ds' e2
        cases Option.some.inj e
        exact .cons (dT_rep e1 h2) (dTs_rep e2 h3)
      · cases e
    · cases e
end
def oEqD (neg : Bool) (x y : T) : Option T := match dT x, dT y with
  | some d, some e => if (SeqAt.shaped d && SeqAt.shaped e) = true then some (.bl (if neg then !PyData.eqv d e else PyData.eqv d e)) else none
  | _, _ => none
theorem oEqD_inv {neg : Bool} {x y t : T} (h : oEqD neg x y = some t) : ∃ d e, dT x = some d ∧ dT y = some e ∧ SeqAt.shaped d = true ∧ SeqAt.shaped e = true ∧ t = .bl (if neg then !PyData.eqv d e else PyData.eqv d e) := by
  unfold oEqD at h
  split at h
  · rename_i d e e1 e2
    by_cases c : (SeqAt.shaped d && SeqAt.shaped e) = true
    · rw [if_pos c] at h
      obtain ⟨c1, c2⟩ := Bool.and_eq_true_iff.mp c
      exact ⟨d, e, e1, e2, c1, c2, (Option.some.inj h).symm⟩
    · rw [if_neg c] at h; cases h
  · cases h
theorem ok_eqD : R2OK K (rEqD K) (oEqD false) := fun Hi H x y t v u Q s e rx ry k => by
  obtain ⟨a, b, e1, e2, c1, c2, rfl⟩ := oEqD_inv e
  exact ⟨a, b, dT_rep e1 (rx.mono s), dT_rep e2 (ry.mono s), c1, c2, k _ Hi H (Grow.refl s) (by unfold Rep; rfl)⟩
theorem ok_neD : R2OK K (rNeD K) (oEqD true) := fun Hi H x y t v u Q s e rx ry k => by
  obtain ⟨a, b, e1, e2, c1, c2, rfl⟩ := oEqD_inv e
  exact ⟨a, b, dT_rep e1 (rx.mono s), dT_rep e2 (ry.mono s), c1, c2, k _ Hi H (Grow.refl s) (by unfold Rep; rfl)⟩
/-! ### + of tuples, lists, texts -/
theorem ok_catT : R2OK K (rCatA K) oCatT := fun Hi H x y t v u Q s e rx ry k => by
  unfold oCatT at e
  split at e
  · rename_i ts us
    by_cases c : ts.length + us.length ≤ sizeLine
    · rw [if_pos c] at e
      cases Option.some.inj e
      have rx0 := rx
      have ry0 := ry
      unfold Rep at rx ry
      obtain ⟨a, xs, rfl, h2, h3⟩ := rx
      obtain ⟨b, ys, rfl, h4, h5⟩ := ry
      refine ⟨a, b, xs, ys, rfl, rfl, sameT s h2, sameT s h4, by rw [h3.len, h5.len]; exact c, fun ex => ?_, fun ex ey => ?_, fun ex ey p hp => ?_⟩
      · cases ts with
        | nil => exact k _ Hi H (Grow.refl s) ry0
        | cons t ts => obtain ⟨_, _, q, _⟩ := h3.inv; rw [ex] at q; cases q
      · cases us with
        | nil => exact k _ Hi H (Grow.refl s) (by rw [List.append_nil]; exact rx0)
        | cons t ts => obtain ⟨_, _, q, _⟩ := h5.inv; rw [ey] at q; cases q
      · refine k _ _ _ (Grow.new s hp) ?_
        unfold Rep
        exact ⟨p, xs ++ ys, rfl, .inl (.inl upd_same), (h3.append h5).mono (same_upd (s.free hp))⟩
    · rw [if_neg c] at e; cases e
  · cases e
def oCatL (x y : T) : Option T := match x, y with
  | .lst ts, .lst us => if ts.length + us.length ≤ sizeLine then some (.lst (ts ++ us)) else none
  | _, _ => none
theorem ok_catL : R2OK K rCat oCatL := fun Hi H x y t v u Q s e rx ry k => by
  unfold oCatL at e
  split at e
  · rename_i ts us
    by_cases c : ts.length + us.length ≤ sizeLine
    · rw [if_pos c] at e
      cases Option.some.inj e
      unfold Rep at rx ry
      obtain ⟨a, xs, rfl, h2, h3⟩ := rx
      obtain ⟨b, ys, rfl, h4, h5⟩ := ry
      refine ⟨a, b, xs, ys, rfl, rfl, s _ _ h2, s _ _ h4, by rw [h3.len, h5.len]; exact c, fun p hp => ?_⟩
      refine k _ _ _ (Grow.new s hp) ?_
      unfold Rep
      exact ⟨p, xs ++ ys, rfl, upd_same, (h3.append h5).mono (same_upd (s.free hp))⟩
    · rw [if_neg c] at e; cases e
  · cases e
def oCatS (x y : T) : Option T := match x, y with
  | .str a, .str b => if a.length + b.length ≤ sizeLine then some (.str (a ++ b)) else none
  | _, _ => none
end
/-! ### isinstance -/
def isT (n : String) : T → Option Bool
  | .non => L2.kitB "NoneType" n
  | .bl _ => L2.kitB "bool" n
  | .int _ => L2.kitB "int" n
  | .str _ => L2.kitB "str" n
  | .lst _ => L2.kitB "list" n
  | .tup _ => L2.kitB "tuple" n
  | .obj _ _ => none
theorem tyT_of {K : PySem.W.Frag} {H : Hp} {t : T} {v : V} {n : String} {b : Bool} (r : Rep K H t v) (e : isT n t = some b) : ∃ u, TyX K H v u ∧ PySem.W.kitOne K u (.type n) = some b := by
  cases t with
  | non => unfold Rep at r; subst r; exact ⟨_, .base .non, kit_ty e⟩
  | bl x => unfold Rep at r; subst r; exact ⟨_, .base (.bl _), kit_ty e⟩
  | int x => unfold Rep at r; subst r; exact ⟨_, .base (.int _), kit_ty e⟩
  | str x => unfold Rep at r; subst r; exact ⟨_, .base (.str _), kit_ty e⟩
  | lst ts => unfold Rep at r; obtain ⟨a, vs, rfl, h2, _⟩ := r; exact ⟨_, .base (.lst h2), kit_ty e⟩
  | tup ts =>
    unfold Rep at r
    obtain ⟨a, vs, rfl, h2, _⟩ := r
    rcases h2 with (h2 | ⟨o, h2⟩) | ⟨o, its, m, h2, h3, _⟩
    · exact ⟨_, .base (.tup h2), kit_ty e⟩
    · exact ⟨_, .fTuple h2, kit_ty e⟩
    · exact ⟨_, .kTuple h2 h3, kit_ty e⟩
  | obj c ts => cases e
section
variable {X : Cx} {K : PySem.W.Frag}
def eIsi (n : String) (f : En → Option T) : En → Option T := fun env => match f env with
  | some t => (match isT n t with
    | some b => some (.bl b)
    | none => none)
  | none => none
theorem ef_isi {e : Expr} {y : Str} {n : String} {te : TE} {f : En → Option T} {p p2 pos : Pos} (hm : X.mg "isinstance" = none) (hy : X.mg y = none) (hv : bootBuiltins y = some (.type n)) (h : EF X e te f) (hg : Gl X "isinstance" := by rfl) (hgy : Gl X y := by rfl)
    (hny : y ≠ "__name__" := by decide) (hdy : (y == ("__debug__" : Str)) = false := by decide)
    (he : starEach [e, .Name y p2] X.env = (false, eval e X.env) :: starEach [.Name y p2] X.env := by rfl) (he2 : starEach [.Name y p2] X.env = (false, eval (.Name y p2) X.env) :: starEach [] X.env := by rfl) (hpl : (backTo pos (starEach [.Name y p2] X.env)).any (·.1) = false := by rfl) (hK : X.K = K := by rfl) :
    EF X (.Call (.Name "isinstance" p) [e, .Name y p2] [] pos) (tCB (rIsi K) (tCons te (tCons (tC (.ty n)) tNil))) (eIsi n f) := by
  subst hK
  exact ⟨pe_callB call_isi hg hm (by decide +kernel) (pa_cons h.p (pa_cons (pe_bltn hgy hy hv (v := .ty n) rfl hny hdy) pa_nil he2) he) (by decide) (by decide) he hpl, fun H0 Hi H σ env t Q r e1 k => by
  unfold eIsi at e1
  split at e1
  · rename_i u e2
    split at e1
    · rename_i b e3
      cases Option.some.inj e1
      refine h.q H0 Hi H σ env u _ r e2 fun v Hi1 H1 g1 rv => ?_
      obtain ⟨w, h1, h2⟩ := tyT_of (rv.mono g1.c) e3
      exact ⟨v, .ty n, w, .type n, b, rfl, .ty n, h1, h2, k _ _ _ g1 (by unfold Rep; rfl)⟩
    · cases e1
  · cases e1⟩
end
section
variable {X : Cx} {K : PySem.W.Frag}
end
end PL


set_option Elab.async false
set_option linter.all false
set_option maxRecDepth 100000
set_option maxHeartbeats 4000000
namespace PL
open PySem PySem.Spec PyProof.Rows L2
/-! ### a module's constants -/
mutual
def treeB (K : PySem.W.Frag) : T → Value → Bool
  | .non, .none => true
  | .bl b, .bool c => b == c
  | .int i, .int j _ => decide (i = j)
  | .str x, .str y _ => decide (x = y)
  | .tup ts, .ref a => (match K.lookup a with
    | some ⟨.type c, _, .seq its _, _⟩ => decide (c = "tuple") && (decide (its.size ≤ sizeLine) && treesB K ts its.toList)
    | _ => false)
  | _, _ => false
def treesB (K : PySem.W.Frag) : List T → List Value → Bool
  | [], [] => true
  | t :: ts, u :: us => treeB K t u && treesB K ts us
  | _, _ => false
end
def vOf : Value → V
  | .none => .non
  | .bool b => .bl b
  | .int i _ => .int i
  | .str x _ => .str x
  | .ref a => .ref a
  | _ => .non
mutual
theorem treeB_ok {K : PySem.W.Frag} : ∀ {t : T} {u : Value}, treeB K t u = true → RelV (vOf u) u ∧ ∀ H, Rep K H t (vOf u)
  | .non, u, h => by
    cases u with
    | none => exact ⟨rfl, fun H => by unfold Rep; rfl⟩
    | _ => unfold treeB at h; cases h
  | .bl b, u, h => by
    cases u with
    | bool c =>
      unfold treeB at h
      have e : b = c := eq_of_beq h
      subst e
      exact ⟨rfl, fun H => by unfold Rep; rfl⟩
    | _ => unfold treeB at h; cases h
  | .int b, u, h => by
    cases u with
    | int c t =>
      unfold treeB at h
      have e : b = c := of_decide_eq_true h
      subst e
      exact ⟨⟨t, rfl⟩, fun H => by unfold Rep; rfl⟩
    | _ => unfold treeB at h; cases h
  | .str b, u, h => by
    cases u with
    | str c t =>
      unfold treeB at h
      have e : b = c := of_decide_eq_true h
      subst e
      exact ⟨⟨t, rfl⟩, fun H => by unfold Rep; rfl⟩
    | _ => unfold treeB at h; cases h
  | .tup ts, u, h => by
    cases u with
    | ref a =>
      unfold treeB at h
      split at h
      · rename_i c dd its n sl q
        obtain ⟨h1, h2⟩ := He.ba h
        obtain ⟨h3, h4⟩ := He.ba h2
        obtain ⟨h5, h6⟩ := treesB_ok h4
        refine ⟨rfl, fun H => ?_⟩
        unfold Rep
        exact ⟨a, _, rfl, .inr ⟨_, its, n, q, congrArg Value.type (of_decide_eq_true h1), rfl, of_decide_eq_true h3, h5⟩, h6 H⟩
      · cases h
    | _ => unfold treeB at h; cases h
  | .lst ts, u, h => by cases u <;> (unfold treeB at h; cases h)
  | .obj c ts, u, h => by cases u <;> (unfold treeB at h; cases h)
theorem treesB_ok {K : PySem.W.Frag} : ∀ {ts : List T} {us : List Value}, treesB K ts us = true → Vals (us.map vOf) us ∧ ∀ H, Reps K H ts (us.map vOf)
  | [], us, h => by
    cases us with
    | nil => exact ⟨.nil, fun H => Reps.nil⟩
    | cons u us => unfold treesB at h; cases h
  | t :: ts, us, h => by
    cases us with
    | nil => unfold treesB at h; cases h
    | cons u us =>
      unfold treesB at h
      obtain ⟨h1, h2⟩ := He.ba h
      obtain ⟨a1, a2⟩ := treeB_ok h1
      obtain ⟨b1, b2⟩ := treesB_ok h2
      exact ⟨.cons a1 b1, fun H => Reps.cons (a2 H) (b2 H)⟩
end
def gv (K : PySem.W.Frag) (x : Str) : V := match PySem.W.nsIn K mainGlobals x with
  | some (some u) => vOf u
  | _ => .non
def constB (K : PySem.W.Frag) (x : Str) (t : T) : Bool := match PySem.W.nsIn K mainGlobals x with
  | some (some u) => treeB K t u
  | _ => false
/-! ### what the head has said -/
structure Tops (fa : List He.Fa) (fn : List He.DefD) (ts : List He.Tab) (ex : PySem.W.Frag → Bool) (w : World) (K : PySem.W.Frag) (mg : Str → Option Value) : Prop where
  hp : ∃ h : Heap, K.In h ∧ h.Ns mainGlobals mg
  says : He.SaysT fa fn ts w K
  more : ex K = true
section
variable {fa : List He.Fa} {fn : List He.DefD} {ts : List He.Tab} {ex : PySem.W.Frag → Bool} {w : World} {K : PySem.W.Frag} {mg : Str → Option Value}
theorem Tops.d (Z : Tops fa fn ts ex w K mg) : He.SaysD fa fn K := congrArg (fun z : He.AlT => z.1) Z.says
theorem Tops.glo (Z : Tops fa fn ts ex w K mg) (i : Nat) {x : Str} (h : fa[i]? = some (.glo x)) : mg x = some (.ref (He.ga K x)) := by
  obtain ⟨h0, X, G⟩ := Z.hp
  exact He.glo_ok X G (Z.d.fact i h)
theorem Tops.free (Z : Tops fa fn ts ex w K mg) (i : Nat) {x : Str} (h : fa[i]? = some (.free x)) : mg x = none := by
  obtain ⟨h0, X, G⟩ := Z.hp
  exact He.free_ok X G (Z.d.fact i h)
theorem Tops.cls (Z : Tops fa fn ts ex w K mg) (i : Nat) {x : Str} (h : fa[i]? = some (.cls x)) : Cls K (He.ga K x) := He.cls_ok (Z.d.fact i h)
theorem Tops.noat (Z : Tops fa fn ts ex w K mg) (i : Nat) {x f : Str} (h : fa[i]? = some (.noat x f)) : NoAttr K (He.ga K x) f := He.noat_ok (Z.d.fact i h)
theorem Tops.const (Z : Tops fa fn ts ex w K mg) {x : Str} {t : T} (h : ex K = true → constB K x t = true) : GlT K mg x (gv K x) t := by
  have q := h Z.more
  obtain ⟨h0, X, G⟩ := Z.hp
  unfold constB at q
  split at q
  · rename_i u e
    obtain ⟨a1, a2⟩ := treeB_ok q
    have eg : gv K x = vOf u := by unfold gv; rw [e]
    rw [eg]
    exact ⟨⟨u, PySem.W.mg_of X G e, a1⟩, a2⟩
  · cases q
variable {P : Program} {base : Heap}
/-- a def of the module -/
theorem Tops.fat (Z : Tops fa fn ts ex w K mg) (i j : Nat) {x : Str} {st : Stmt} {ps : List Str} {sp : Sp} {k : Nat} (hd : fn[i]? = some ⟨(x, none), x, x, defArgs st, defBody st, defScope st, [], []⟩) (hf : fa[j]? = some (.glo x))
    (hb : ∀ (kV doc pm : Value) (an : Option Addr) (cdv ct : Value) (us : List Value), us.length = ps.length → bindArgs (PySem.W.fnOf x x (defArgs st) (defBody st) (defScope st) .none kV doc pm an cdv ct) ⟨us, []⟩ = pure (ps.zip us))
    (ok : ∀ (f : Addr) (fd : FuncData), FnP K x x st f fd → FnOk P w K mg base CX0 k f fd ps sp) : FnAt P w K mg base k x ps sp := by
  obtain ⟨fd, F⟩ := Z.d.def_ i hd
  exact ⟨_, fd, Z.glo j hf, F.kp, FunD.bindsN (ps := ps) F hb, ok _ fd F⟩
/-- a method -/
theorem Tops.mat (Z : Tops fa fn ts ex w K mg) (i j : Nat) {c : Nat} {m q : Str} {st : Stmt} {ps : List Str} {sp : Sp} {k : Nat} (hd : fn[i]? = some ⟨(cname c, some m), m, q, defArgs st, defBody st, defScope st, [], []⟩) (hf : fa[j]? = some (.meth (cname c) m))
    (hb : ∀ (kV doc pm : Value) (an : Option Addr) (cdv ct : Value) (us : List Value), us.length = ps.length → bindArgs (PySem.W.fnOf m q (defArgs st) (defBody st) (defScope st) .none kV doc pm an cdv ct) ⟨us, []⟩ = pure (ps.zip us))
    (ok : ∀ (f : Addr) (fd : FuncData), FnP K m q st f fd → FnOk P w K mg base CX0 k f fd ps sp) : MtAt P w K mg base k c m ps sp := by
  obtain ⟨fd, F⟩ := Z.d.def_ i hd
  exact ⟨_, fd, He.meth_ok (Z.d.fact j hf), FunD.bindsN (ps := ps) F hb, ok _ fd F⟩
/-- a class that is made -/
theorem Tops.kat (Z : Tops fa fn ts ex w K mg) (i j l : Nat) {c : Nat} {q : Str} {st : Stmt} {ps : List Str} {k : Nat} (hd : fn[i]? = some ⟨(cname c, some "__init__"), "__init__", q, defArgs st, defBody st, defScope st, [], []⟩) (hf : fa[j]? = some (.mkr (cname c))) (hg : fa[l]? = some (.glo (cname c)))
    (hb : ∀ (kV doc pm : Value) (an : Option Addr) (cdv ct : Value) (us : List Value), us.length = ps.length → bindArgs (PySem.W.fnOf "__init__" q (defArgs st) (defBody st) (defScope st) .none kV doc pm an cdv ct) ⟨us, []⟩ = pure (ps.zip us))
    (ok : ∀ (f : Addr) (fd : FuncData), FnP K "__init__" q st f fd → FnOk P w K mg base CX0 k f fd ps (spI K c)) : MkAt P w K mg base k c ps := by
  obtain ⟨fd, F⟩ := Z.d.def_ i hd
  exact ⟨_, fd, Z.glo l hg, He.mkr_ok (Z.d.fact j hf), FunD.bindsN (ps := ps) F hb, ok _ fd F⟩
end
/-! ### the hook -/
abbrev AlP : Type := He.AlT × Bool
def obsP (n : Nat) (fa : List He.Fa) (fn : List He.DefD) (ts : List He.Tab) (ex : PySem.W.Frag → Bool) (g : Addr → Option Obj) : AlP := (He.obsT fa fn ts (He.frG g (He.asD g n)), ex (He.frG g (He.asD g n)))
def hookP (n : Nat) (fa : List He.Fa) (fn : List He.DefD) (ts : List He.Tab) (ex : PySem.W.Frag → Bool) : PySem.W.Hook where
  α := AlP
  obs := fun s => obsP n fa fn ts ex s.heap.get?
  val := fun w => (He.valT fn ts w, true)
  says := fun w h => ∃ K : PySem.W.Frag, K.In h ∧ He.SaysT fa fn ts w K ∧ ex K = true
  of := fun _ _ e => ⟨_, He.frG_in, congrArg (fun z : AlP => z.1) e, congrArg (fun z : AlP => z.2) e⟩
  keeps := fun _ _ _ ⟨K, hK, c⟩ k => ⟨K, PySem.W.Frag.In.keeps hK k, c⟩
theorem obsP_eq {n : Nat} {fa : List He.Fa} {fn : List He.DefD} {ts : List He.Tab} {ex : PySem.W.Frag → Bool} {g : Addr → Option Obj} {s : Shared} (h : ∀ a, g a = s.heap.get? a) : obsP n fa fn ts ex g = (hookP n fa fn ts ex).obs s := by
  have e : g = s.heap.get? := funext h
  rw [e] <;> rfl
theorem flds_nd : ∀ c, (flds c).Nodup
  | 0 => by decide +kernel
  | 1 => by decide +kernel
  | _ + 2 => by show (["things", "tracks", "inside", "tellings", "written"] : List Str).Nodup; decide +kernel
end PL


set_option Elab.async false
set_option linter.all false
set_option maxRecDepth 100000
set_option maxHeartbeats 4000000
/-! comprehensions of two fors; a, b = x, y; return; pass -/
namespace PL
open PySem PySem.Spec PyProof.Rows L2
def dropB : Option B → Option B
  | some (.own _) => none
  | x => x
def dropO (env : En) : En := env.map dropB
section
variable {X : Cx} {K : PySem.W.Frag}
theorem dropO_get {env : En} {i : Nat} {b : B} (h : (dropO env)[i]? = some (some b)) : (∀ ts, b ≠ .own ts) ∧ env[i]? = some (some b) := by
  unfold dropO at h
  rw [List.getElem?_map] at h
  cases q : env[i]? with
  | none => rw [q] at h; cases h
  | some o =>
    rw [q] at h
    cases o with
    | none => cases h
    | some c =>
      cases c with
      | imm t =>
        have e : B.imm t = b := Option.some.inj (Option.some.inj h)
        subst e
        exact ⟨fun ts z => (by cases z), rfl⟩
      | raw t =>
        have e : B.raw t = b := Option.some.inj (Option.some.inj h)
        subst e
        exact ⟨fun ts z => (by cases z), rfl⟩
      | own ts => cases h
theorem REnv.dropO {H0 Hi H Hi' H' : Hp} {σ : St} {env : En} (r : REnv K H0 Hi H σ env) (a : Same Hi Hi') (c : Same Hi' H') : REnv K H0 Hi' H' σ (dropO env) := by
  refine ⟨by unfold PL.dropO; rw [List.length_map]; exact r.len, c, fun i t e => ?_, fun i ts e => ?_, fun i t e => ?_, fun i j ts us x _ e _ _ => ?_⟩
  · obtain ⟨_, h2⟩ := dropO_get e
    obtain ⟨v, h3, h4⟩ := r.imm i _ h2
    exact ⟨v, h3, h4.mono a⟩
  · exact absurd rfl ((dropO_get e).1 ts)
  · exact r.raw i t (dropO_get e).2
  · exact absurd rfl ((dropO_get e).1 ts)
/-- the list so far -/
def StD (K : PySem.W.Frag) (Hib Hi1 H1 : Hp) (D : Addr) (dn : List T) (H' : Hp) : Prop := ∃ Hi' acc, Same Hib Hi' ∧ Grow Hi1 H1 Hi' H' ∧ Hi' D = none ∧ H' D = some (.lst acc) ∧ Reps K Hi' dn acc
theorem lcD_turn {g : TG} {is vs : List Nat} {tt : TT} {te : TE} {h : T → En → Option En} {ft : En → Option Bool} {fe : En → Option T} (h1 : EvG K g is h) (h2 : EvT K tt ft) (h3 : EvE K te fe) (hs : ∀ i ∈ is, i ∈ vs) {H0 Hib Hi1 H1 Hi' H' : Hp} {σ : St} {env : En}
    (re : REnv K H0 Hi' H' σ (wipeE env vs)) {σ0 : St} (e0 : σ = L2.wipe σ0 vs) {D : Addr} (hD : H1 D = none) {ts out dn rest tl : List T} {i : Nat} {t : T} {x : V} {acc : List V} (ht : ts[i]? = some t) (rt : Rep K Hi' t x) (sb : Same Hib Hi') (gg : Grow Hi1 H1 Hi' H') (dn0 : Hi' D = none) (da : H' D = some (.lst acc)) (ru : Reps K Hi' dn acc)
    (er : lcGo h ft fe (wipeE env vs) (ts.drop i) = some rest) (eo : dn ++ (rest ++ tl) = out) (hz : out.length ≤ sizeLine) {Pn : Hp → Prop} (hn : ∀ H2 dn2 rest2, StD K Hib Hi1 H1 D dn2 H2 → lcGo h ft fe (wipeE env vs) (ts.drop (i + 1)) = some rest2 → dn2 ++ (rest2 ++ tl) = out → Pn H2) :
    g x σ H' fun σ2 H2 => L2.wipe σ2 vs = L2.wipe σ0 vs ∧ tt σ2 H2 fun b H3 => if b = true then te σ2 H3 fun y H4 => ∃ acc, H4 D = some (.lst acc) ∧ acc.length < sizeLine ∧ Pn (upd H4 D (.lst (acc ++ [y]))) else Pn H3 := by
  rw [drop_more ht] at er
  have e' : (match h t (wipeE env vs) with
    | some env1 => (match ft env1 with
      | some true => (match fe env1 with
        | some u => (match lcGo h ft fe (wipeE env vs) (ts.drop (i + 1)) with
          | some us => some (u :: us)
          | none => none)
        | none => none)
      | some false => lcGo h ft fe (wipeE env vs) (ts.drop (i + 1))
      | none => none)
    | none => none) = some rest := er
  split at e'
  · rename_i env1 e1
    refine h1 H0 Hi' H' _ _ env1 t x _ re rt e1 fun σ1 r1 l1 s1 => ⟨?_, ?_⟩
    · rw [e0] at l1 s1
      exact wipe_eq hs l1 s1
    split at e'
    · rename_i e2
      refine h2 H0 Hi' H' σ1 env1 true _ r1 e2 fun Hi3 H3 g3 => iteT ?_
      split at e'
      · rename_i u e3
        split at e'
        · rename_i us' e4
          have z := Option.some.inj e'
          refine h3 H0 Hi3 H3 σ1 env1 u _ (r1.grow g3) e3 fun y Hi4 H4 g4 ry => ?_
          have g34 := g3.trans g4
          have da4 := g34.b _ _ da
          have dn4 := g34.keepNone dn0 (by rw [da]; simp)
          have ga := gg.trans g34
          have hl : dn.length < out.length := by rw [← eo, ← z]; simp
          refine ⟨acc, da4, by rw [ru.len]; omega, hn _ (dn ++ [u]) us' ⟨Hi4, acc ++ [y], sb.trans g34.a, ⟨ga.a, fun b o w => ?_, fun b o w => ?_, ga.d⟩, dn4, upd_same, (ru.mono g34.a).append (Reps.cons ry Reps.nil)⟩ e4 ?_⟩
          · rw [upd_ne (ne_of_none w hD)]; exact ga.b b o w
          · rw [upd_ne (ne_of_none w dn4)]; exact ga.c b o w
          · rw [← eo, ← z]; simp
        · cases e'
      · cases e'
    · rename_i e2
      refine h2 H0 Hi' H' σ1 env1 false _ r1 e2 fun Hi3 H3 g3 => iteF ?_
      exact hn H3 dn rest ⟨Hi3, acc, sb.trans g3.a, gg.trans g3, g3.keepNone dn0 (by rw [da]; simp), g3.b _ _ da, ru.mono g3.a⟩ e' eo
    · cases e'
  · cases e'
def seqOf : T → Option (List T)
  | .lst ts => some ts
  | .tup ts => some ts
  | _ => none
def lc2Go (h : T → En → Option En) (tt : En → Option Bool) (f1 : En → Option T) (h1 : T → En → Option En) (tt1 : En → Option Bool) (fe : En → Option T) (vs1 : List Nat) (env : En) : List T → Option (List T)
  | [] => some []
  | t :: ts => match h t env with
    | some env1 => (match tt env1 with
      | some true => (match f1 env1 with
        | some (.tup ts1) => (match lcGo h1 tt1 fe (wipeE (dropO env1) vs1) ts1 with
          | some us => (match lc2Go h tt f1 h1 tt1 fe vs1 env ts with
            | some ws => some (us ++ ws)
            | none => none)
          | none => none)
        | _ => none)
      | some false => lc2Go h tt f1 h1 tt1 fe vs1 env ts
      | none => none)
    | none => none
theorem lc2_turn {g g1 : TG} {is is1 vs vs1 : List Nat} {tt tt1 : TT} {te tl1 : TE} {h h1 : T → En → Option En} {ft ft1 : En → Option Bool} {f1 fe : En → Option T} (q1 : EvG K g is h) (q2 : EvT K tt ft) (q3 : EvE K tl1 f1) (q4 : EvG K g1 is1 h1) (q5 : EvT K tt1 ft1) (q6 : EvE K te fe)
    (hs : ∀ i ∈ is, i ∈ vs) (hs1 : ∀ i ∈ is1, i ∈ vs1) {H0 Hi1 H1 : Hp} {σ : St} {env : En} (re : REnv K H0 Hi1 H1 σ env) {D : Addr} (hD : H1 D = none) {ts out : List T} {xs : List V} (rvs : Reps K Hi1 ts xs) (hz : out.length ≤ sizeLine) {i : Nat} {x : V} {H' : Hp} (hx : xs[i]? = some x)
    (p : ∃ dn rest, StD K Hi1 Hi1 H1 D dn H' ∧ lc2Go h ft f1 h1 ft1 fe vs1 (wipeE env vs) (ts.drop i) = some rest ∧ dn ++ rest = out) {Pn : Hp → Prop}
    (hn : ∀ H2, (∃ dn rest, StD K Hi1 Hi1 H1 D dn H2 ∧ lc2Go h ft f1 h1 ft1 fe vs1 (wipeE env vs) (ts.drop (i + 1)) = some rest ∧ dn ++ rest = out) → Pn H2) :
    g x (L2.wipe σ vs) H' fun σ2 H2 => L2.wipe σ2 vs = L2.wipe σ vs ∧ tt σ2 H2 fun b H3 =>
      if b = true then iTup K tl1 σ2 H3 fun J1 H4 => ∃ W1 : Nat → Nat → Hp → Prop, (∃ m, W1 0 m H4) ∧ ∀ j k H, W1 j k H →
        (J1.stop j H ∧ Pn H) ∨ (J1.go j H ∧ ∃ Nx1 : Hp → Prop, (∀ H', Nx1 H' → ∃ k', k' < k ∧ W1 (j + 1) k' H') ∧ ∀ x H', J1.yld j H x H' → g1 x (L2.wipe σ2 vs1) H' fun σ3 H5 => L2.wipe σ3 vs1 = L2.wipe σ2 vs1 ∧ tt1 σ3 H5 fun b H6 =>
          if b = true then te σ3 H6 fun y H7 => ∃ acc, H7 D = some (.lst acc) ∧ acc.length < sizeLine ∧ Nx1 (upd H7 D (.lst (acc ++ [y]))) else Nx1 H6)
      else Pn H3 := by
  obtain ⟨dn, rest, ⟨Hi', acc, sb, gg, dn0, da, ru⟩, er, eo⟩ := p
  obtain ⟨t, ht, rt⟩ := rvs.get' hx
  rw [drop_more ht] at er
  have e' : (match h t (wipeE env vs) with
    | some env1 => (match ft env1 with
      | some true => (match f1 env1 with
        | some (.tup ts1) => (match lcGo h1 ft1 fe (wipeE (dropO env1) vs1) ts1 with
          | some us => (match lc2Go h ft f1 h1 ft1 fe vs1 (wipeE env vs) (ts.drop (i + 1)) with
            | some ws => some (us ++ ws)
            | none => none)
          | none => none)
        | _ => none)
      | some false => lc2Go h ft f1 h1 ft1 fe vs1 (wipeE env vs) (ts.drop (i + 1))
      | none => none)
    | none => none) = some rest := er
  split at e'
  · rename_i env1 e1
    have rw1 := (re.grow gg).wipe vs
    refine q1 H0 Hi' H' _ _ env1 t x _ rw1 (rt.mono gg.a) e1 fun σ1 r1 l1 s1 => ⟨wipe_eq hs l1 s1, ?_⟩
    split at e'
    · rename_i e2
      refine q2 H0 Hi' H' σ1 env1 true _ r1 e2 fun Hi3 H3 g3 => iteT ?_
      split at e'
      · rename_i ts1 e3
        split at e'
        · rename_i us e4
          split at e'
          · rename_i ws e5
            have z := Option.some.inj e'
            refine q3 H0 Hi3 H3 σ1 env1 _ _ (r1.grow g3) e3 fun v Hi4 H4 g4 rv => ?_
            unfold Rep at rv
            obtain ⟨a, ys, rfl, hq, rys⟩ := rv
            have g34 := g3.trans g4
            have r4 := r1.grow g34
            refine ⟨a, rfl, ⟨ys, sameT g4.c hq⟩, fun j k H => k = ys.length - j ∧ j ≤ ys.length ∧ ∃ dn1 rest1, StD K Hi4 Hi1 H1 D dn1 H ∧ lcGo h1 ft1 fe (wipeE (dropO env1) vs1) (ts1.drop j) = some rest1 ∧ dn1 ++ (rest1 ++ ws) = out,
              ⟨ys.length, by simp, Nat.zero_le _, dn, us, ⟨Hi4, acc, Same.refl _, gg.trans g34, g34.keepNone dn0 (by rw [da]; simp), g34.b _ _ da, ru.mono g34.a⟩, e4, by rw [← eo, ← z]⟩, ?_⟩
            rintro j k H5 ⟨rfl, hj, dn1, rest1, ⟨Hi5, acc5, sb5, gg5, dn05, da5, ru5⟩, er5, eo5⟩
            by_cases hlt : j < ys.length
            · have hy : ys[j]? = some ys[j] := List.getElem?_eq_getElem hlt
              refine .inr ⟨⟨ys, ys[j], sameT (sb5.trans gg5.c) hq, hy⟩, fun H6 => ∃ dn1 rest1, StD K Hi4 Hi1 H1 D dn1 H6 ∧ lcGo h1 ft1 fe (wipeE (dropO env1) vs1) (ts1.drop (j + 1)) = some rest1 ∧ dn1 ++ (rest1 ++ ws) = out, fun H6 p6 => ⟨ys.length - (j + 1), by omega, rfl, hlt, p6⟩, ?_⟩
              rintro y H6 ⟨rfl, yx⟩
              have hyv := yx ys (sameT (sb5.trans gg5.c) hq)
              obtain ⟨t1, ht1, rt1⟩ := rys.get' hyv
              exact lcD_turn q4 q5 q6 hs1 ((r4.dropO sb5 gg5.c).wipe vs1) rfl hD ht1 (rt1.mono sb5) sb5 gg5 dn05 da5 ru5 er5 eo5 hz fun H2 dn2 rest2 s2 e2 o2 => ⟨dn2, rest2, s2, e2, o2⟩
            · have ej : j = ys.length := by omega
              subst ej
              refine .inl ⟨⟨ys, sameT (sb5.trans gg5.c) hq, Nat.le_refl _⟩, hn H5 ⟨dn1, ws, ⟨Hi5, acc5, gg5.a, gg5, dn05, da5, ru5⟩, e5, ?_⟩⟩
              rw [rys.len, List.drop_length] at er5
              have zr : [] = rest1 := Option.some.inj er5
              subst zr
              exact eo5
          · cases e'
        · cases e'
      · cases e'
    · rename_i e2
      refine q2 H0 Hi' H' σ1 env1 false _ r1 e2 fun Hi3 H3 g3 => iteF ?_
      exact hn H3 ⟨dn, rest, ⟨Hi3, acc, sb.trans g3.a, gg.trans g3, g3.keepNone dn0 (by rw [da]; simp), g3.b _ _ da, ru.mono g3.a⟩, e', eo⟩
    · cases e'
  · cases e'
def eLc2 (f : En → Option T) (h : T → En → Option En) (tt : En → Option Bool) (f1 : En → Option T) (h1 : T → En → Option En) (tt1 : En → Option Bool) (fe : En → Option T) (vs vs1 : List Nat) (isT : Bool) : En → Option T := fun env => match f env with
  | some t => (match (match t with
      | .lst ts => if isT then none else some ts
      | .tup ts => if isT then some ts else none
      | _ => none) with
    | some ts => (match lc2Go h tt f1 h1 tt1 fe vs1 (wipeE env vs) ts with
      | some us => if us.length ≤ sizeLine then some (.lst us) else none
      | none => none)
    | none => none)
  | none => none
theorem ev_lc2 {g g1 : TG} {is is1 vs vs1 : List Nat} {tt tt1 : TT} {te tl tl1 : TE} {h h1 : T → En → Option En} {ft ft1 : En → Option Bool} {f f1 fe : En → Option T} (isT : Bool) (q0 : EvE K tl f) (q1 : EvG K g is h) (q2 : EvT K tt ft) (q3 : EvE K tl1 f1) (q4 : EvG K g1 is1 h1) (q5 : EvT K tt1 ft1) (q6 : EvE K te fe)
    (hs : ∀ i ∈ is, i ∈ vs) (hs1 : ∀ i ∈ is1, i ∈ vs1) : EvE K (tLc2 (if isT then iTup K tl else iList K tl) g tt (iTup K tl1) g1 tt1 te vs vs1) (eLc2 f h ft f1 h1 ft1 fe vs vs1 isT) := fun H0 Hi H σ env t Q re e k => by
  unfold eLc2 at e
  split at e
  · rename_i u e1
    split at e
    · rename_i ts e2
      split at e
      · rename_i out e3
        by_cases hz : out.length ≤ sizeLine
        · rw [if_pos hz] at e
          have z := Option.some.inj e
          subst z
          have fin : ∀ {Hi1 H1 : Hp} {D : Addr} {xs : List V}, Grow Hi H Hi1 H1 → H1 D = none → xs.length = ts.length → ∀ H', (∃ dn rest, StD K Hi1 Hi1 H1 D dn H' ∧ lc2Go h ft f1 h1 ft1 fe vs1 (wipeE env vs) (ts.drop xs.length) = some rest ∧ dn ++ rest = out) → Q (.ref D) H' := fun {Hi1 H1 D xs} g1 hD hl H' p => by
            obtain ⟨dn, rest, ⟨Hi', acc, sb, gg, dn0, da, ru⟩, er, eo⟩ := p
            rw [hl, List.drop_length] at er
            have zr : [] = rest := Option.some.inj er
            subst zr
            rw [List.append_nil] at eo
            subst eo
            refine k (.ref D) (upd Hi' D (.lst acc)) H' (g1.trans (gg.freeze hD da dn0)) ?_
            unfold Rep
            exact ⟨D, acc, rfl, upd_same, ru.mono (same_upd dn0)⟩
          cases isT with
          | true =>
            cases u with
            | tup us =>
              have q : us = ts := Option.some.inj e2
              subst q
              refine q0 H0 Hi H σ env _ _ re e1 fun v Hi1 H1 g1 rv => ?_
              unfold Rep at rv
              obtain ⟨a, xs, rfl, hq, rvs⟩ := rv
              refine ⟨a, rfl, ⟨xs, sameT g1.c hq⟩, fun D hD => ?_⟩
              have re1 := re.grow g1
              refine ⟨fun i m H' => m = xs.length - i ∧ i ≤ xs.length ∧ ∃ dn rest, StD K Hi1 Hi1 H1 D dn H' ∧ lc2Go h ft f1 h1 ft1 fe vs1 (wipeE env vs) (us.drop i) = some rest ∧ dn ++ rest = out,
                ⟨xs.length, by simp, Nat.zero_le _, [], out, ⟨Hi1, [], Same.refl _, ⟨Same.refl _, same_upd hD, g1.c.trans (same_upd hD), fun b p1 p2 => absurd p1 p2⟩, g1.c.free hD, upd_same, Reps.nil⟩, e3, rfl⟩, ?_⟩
              rintro i m H' ⟨rfl, hi, p⟩
              have hqn : SqT K H' a xs := by
                obtain ⟨_, _, ⟨Hi', _, _, gg, _⟩, _⟩ := p
                exact sameT (gg.a.trans gg.c) hq
              by_cases hlt : i < xs.length
              · refine .inr ⟨⟨xs, xs[i], hqn, by simp [hlt]⟩, fun H2 => ∃ dn rest, StD K Hi1 Hi1 H1 D dn H2 ∧ lc2Go h ft f1 h1 ft1 fe vs1 (wipeE env vs) (us.drop (i + 1)) = some rest ∧ dn ++ rest = out, fun H2 p2 => ⟨xs.length - (i + 1), by omega, rfl, hlt, p2⟩, ?_⟩
                rintro x H2 ⟨rfl, yx⟩
                exact lc2_turn q1 q2 q3 q4 q5 q6 hs hs1 re1 hD rvs hz (yx xs hqn) p fun H2 p2 => p2
              · have ej : i = xs.length := by omega
                subst ej
                exact .inl ⟨⟨xs, hqn, Nat.le_refl _⟩, fin g1 hD rvs.len H' p⟩
            | _ => cases e2
          | false =>
            cases u with
            | lst us =>
              have q : us = ts := Option.some.inj e2
              subst q
              refine q0 H0 Hi H σ env _ _ re e1 fun v Hi1 H1 g1 rv => ?_
              unfold Rep at rv
              obtain ⟨a, xs, rfl, hq, rvs⟩ := rv
              refine ⟨a, rfl, ⟨xs, g1.c.seq (SqL.of hq)⟩, fun D hD => ?_⟩
              have re1 := re.grow g1
              refine ⟨fun i m H' => m = xs.length - i ∧ i ≤ xs.length ∧ ∃ dn rest, StD K Hi1 Hi1 H1 D dn H' ∧ lc2Go h ft f1 h1 ft1 fe vs1 (wipeE env vs) (us.drop i) = some rest ∧ dn ++ rest = out,
                ⟨xs.length, by simp, Nat.zero_le _, [], out, ⟨Hi1, [], Same.refl _, ⟨Same.refl _, same_upd hD, g1.c.trans (same_upd hD), fun b p1 p2 => absurd p1 p2⟩, g1.c.free hD, upd_same, Reps.nil⟩, e3, rfl⟩, ?_⟩
              rintro i m H' ⟨rfl, hi, p⟩
              have hqn : SqL K H' a xs := by
                obtain ⟨_, _, ⟨Hi', _, _, gg, _⟩, _⟩ := p
                exact (gg.a.trans gg.c).seq (SqL.of hq)
              by_cases hlt : i < xs.length
              · refine .inr ⟨⟨xs, xs[i], hqn, by simp [hlt]⟩, fun H2 => ∃ dn rest, StD K Hi1 Hi1 H1 D dn H2 ∧ lc2Go h ft f1 h1 ft1 fe vs1 (wipeE env vs) (us.drop (i + 1)) = some rest ∧ dn ++ rest = out, fun H2 p2 => ⟨xs.length - (i + 1), by omega, rfl, hlt, p2⟩, ?_⟩
                rintro x H2 ⟨rfl, yx⟩
                exact lc2_turn q1 q2 q3 q4 q5 q6 hs hs1 re1 hD rvs hz (yx xs hqn) p fun H2 p2 => p2
              · have ej : i = xs.length := by omega
                subst ej
                exact .inl ⟨⟨xs, hqn, Nat.le_refl _⟩, fin g1 hD rvs.len H' p⟩
            | _ => cases e2
        · rw [if_neg hz] at e; cases e
      · cases e
    · cases e
  · cases e
section
variable {elt tg iter tg1 iter1 : Expr} {ifs ifs1 : List Expr} {scope : Scope} {own : List (Str × Nat)} {pos : Pos} {tl tl1 : TE} {g g1 : TG} {is is1 : List Nat} {tt tt1 : TT} {te : TE} {f f1 : En → Option T} {h h1 : T → En → Option En} {ft ft1 : En → Option Bool} {fe : En → Option T}
theorem ef_lc2L (own : List (Str × Nat)) (vs1 : List Nat) (hc : X.calm = true) (hN : X.N.Nodup) (q0 : EF X iter tl f) (ok : BlkOk X.N X.env.scope scope own) (q1 : Blks X scope fun Y => GF Y tg g is h) (q2 : Blks X scope fun Y => TsF Y ifs tt ft)
    (q3 : Blks X scope fun Y => EF Y iter1 tl1 f1) (q4 : Blks X scope fun Y => GF Y tg1 g1 is1 h1) (q5 : Blks X scope fun Y => TsF Y ifs1 tt1 ft1) (q6 : Blks X scope fun Y => EF Y elt te fe)
    (hsub : ∀ i ∈ is, i ∈ own.map (·.2) := by decide) (hsub1 : ∀ i ∈ is1, i ∈ vs1 := by decide) (hv : ∀ i ∈ vs1, i ∈ own.map (·.2) := by decide) (hs : ∀ x, foldedSetIterable iter X.env x = pure x := by intro _; rfl) (hs1 : ∀ env x, foldedSetIterable iter1 env x = pure x := by intro _ _; rfl) :
    EF X (.ListComp elt [⟨tg, iter, ifs, 0⟩, ⟨tg1, iter1, ifs1, 0⟩] scope pos) (tLc2 (iList X.K tl) g tt (iTup X.K tl1) g1 tt1 te (own.map (·.2)) vs1) (eLc2 f h ft f1 h1 ft1 fe (own.map (·.2)) vs1 false) :=
  ⟨pe_lc2 hc hN (pi_list q0.p) ok hv (fun s H C cl fp => (q1 s H C cl fp).p) (fun s H C cl fp => (q2 s H C cl fp).p) (fun s H C cl fp => pi_tup (q3 s H C cl fp).p) (fun s H C cl fp => (q4 s H C cl fp).p) (fun s H C cl fp => (q5 s H C cl fp).p) (fun s H C cl fp => (q6 s H C cl fp).p) hs hs1,
    ev_lc2 false q0.q (q1 X.s_0 X.H_0 0 [] []).q (q2 X.s_0 X.H_0 0 [] []).q (q3 X.s_0 X.H_0 0 [] []).q (q4 X.s_0 X.H_0 0 [] []).q (q5 X.s_0 X.H_0 0 [] []).q (q6 X.s_0 X.H_0 0 [] []).q hsub hsub1⟩
theorem ef_lc2T (own : List (Str × Nat)) (vs1 : List Nat) (hc : X.calm = true) (hN : X.N.Nodup) (q0 : EF X iter tl f) (ok : BlkOk X.N X.env.scope scope own) (q1 : Blks X scope fun Y => GF Y tg g is h) (q2 : Blks X scope fun Y => TsF Y ifs tt ft)
    (q3 : Blks X scope fun Y => EF Y iter1 tl1 f1) (q4 : Blks X scope fun Y => GF Y tg1 g1 is1 h1) (q5 : Blks X scope fun Y => TsF Y ifs1 tt1 ft1) (q6 : Blks X scope fun Y => EF Y elt te fe)
    (hsub : ∀ i ∈ is, i ∈ own.map (·.2) := by decide) (hsub1 : ∀ i ∈ is1, i ∈ vs1 := by decide) (hv : ∀ i ∈ vs1, i ∈ own.map (·.2) := by decide) (hs : ∀ x, foldedSetIterable iter X.env x = pure x := by intro _; rfl) (hs1 : ∀ env x, foldedSetIterable iter1 env x = pure x := by intro _ _; rfl) :
    EF X (.ListComp elt [⟨tg, iter, ifs, 0⟩, ⟨tg1, iter1, ifs1, 0⟩] scope pos) (tLc2 (iTup X.K tl) g tt (iTup X.K tl1) g1 tt1 te (own.map (·.2)) vs1) (eLc2 f h ft f1 h1 ft1 fe (own.map (·.2)) vs1 true) :=
  ⟨pe_lc2 hc hN (pi_tup q0.p) ok hv (fun s H C cl fp => (q1 s H C cl fp).p) (fun s H C cl fp => (q2 s H C cl fp).p) (fun s H C cl fp => pi_tup (q3 s H C cl fp).p) (fun s H C cl fp => (q4 s H C cl fp).p) (fun s H C cl fp => (q5 s H C cl fp).p) (fun s H C cl fp => (q6 s H C cl fp).p) hs hs1,
    ev_lc2 true q0.q (q1 X.s_0 X.H_0 0 [] []).q (q2 X.s_0 X.H_0 0 [] []).q (q3 X.s_0 X.H_0 0 [] []).q (q4 X.s_0 X.H_0 0 [] []).q (q5 X.s_0 X.H_0 0 [] []).q (q6 X.s_0 X.H_0 0 [] []).q hsub hsub1⟩
theorem sf_setLc2L (i : Nat) {y : Str} {py spos : Pos} (own : List (Str × Nat)) (vs1 : List Nat) (hc : X.calm = true) (hN : X.N.Nodup) (q0 : EF X iter tl f) (ok : BlkOk X.N X.env.scope scope own) (q1 : Blks X scope fun Y => GF Y tg g is h) (q2 : Blks X scope fun Y => TsF Y ifs tt ft)
    (q3 : Blks X scope fun Y => EF Y iter1 tl1 f1) (q4 : Blks X scope fun Y => GF Y tg1 g1 is1 h1) (q5 : Blks X scope fun Y => TsF Y ifs1 tt1 ft1) (q6 : Blks X scope fun Y => EF Y elt te fe)
    (hsub : ∀ i ∈ is, i ∈ own.map (·.2) := by decide) (hsub1 : ∀ i ∈ is1, i ∈ vs1 := by decide) (hv : ∀ i ∈ vs1, i ∈ own.map (·.2) := by decide) (hy : X.N[i]? = some y := by rfl) (hyl : X.env.scope.names.lookup y = some .local := by rfl)
    (hsw : swapsWith (.ListComp elt [⟨tg, iter, ifs, 0⟩, ⟨tg1, iter1, ifs1, 0⟩] scope pos) (some (.Name y py)) spos.line X.env = pure true := by exact sw_true rfl rfl rfl (by decide +kernel)) (hs : ∀ x, foldedSetIterable iter X.env x = pure x := by intro _; rfl) (hs1 : ∀ env x, foldedSetIterable iter1 env x = pure x := by intro _ _; rfl) :
    SF X (.Assign [.Name y py] (.ListComp elt [⟨tg, iter, ifs, 0⟩, ⟨tg1, iter1, ifs1, 0⟩] scope pos) spos) (tAsg (tLc2 (iList X.K tl) g tt (iTup X.K tl1) g1 tt1 te (own.map (·.2)) vs1) (gName i)) (sAsg (eLc2 f h ft f1 h1 ft1 fe (own.map (·.2)) vs1 false) fun t env => some (env.set i (some (.imm t)))) :=
  ⟨ps_setLc2 hc hN hy hyl hsw (pi_list q0.p) ok hv (fun s H C cl fp => (q1 s H C cl fp).p) (fun s H C cl fp => (q2 s H C cl fp).p) (fun s H C cl fp => pi_tup (q3 s H C cl fp).p) (fun s H C cl fp => (q4 s H C cl fp).p) (fun s H C cl fp => (q5 s H C cl fp).p) (fun s H C cl fp => (q6 s H C cl fp).p) hs hs1,
    ev_asg (ev_lc2 false q0.q (q1 X.s_0 X.H_0 0 [] []).q (q2 X.s_0 X.H_0 0 [] []).q (q3 X.s_0 X.H_0 0 [] []).q (q4 X.s_0 X.H_0 0 [] []).q (q5 X.s_0 X.H_0 0 [] []).q (q6 X.s_0 X.H_0 0 [] []).q hsub hsub1) (ev_name i)⟩
end
/-! ### a, b = x, y -/
def sPar (i j : Nat) (f g : En → Option T) : En → Option R := fun env => match f env with
  | some t => (match g env with
    | some u => some (.nx ((env.set i (some (.imm t))).set j (some (.imm u))))
    | none => none)
  | none => none
theorem sf_par {x y : Str} {a b : Expr} {ta tb : TE} {f g : En → Option T} {px py pt pos : Pos} {kt k2 pt2} (i j : Nat) (hc : X.calm = true) (hN : X.N.Nodup) (h1 : EF X a ta f) (h2 : EF X b tb g) (hi : X.N[i]? = some x := by rfl) (hj : X.N[j]? = some y := by rfl) (hij : i ≠ j := by decide)
    (hx : X.env.scope.names.lookup x = some .local := by rfl) (hy : X.env.scope.names.lookup y = some .local := by rfl) (hsa : starEach (a :: [b]) X.env = (false, eval a X.env) :: starEach [b] X.env := by rfl) (hsb : starEach (b :: []) X.env = (false, eval b X.env) :: starEach [] X.env := by rfl)
    (hw : swappedStores [.Tuple [.Name x px, .Name y py] kt pt] (.Tuple [a, b] k2 pt2) X.env = pure (some [x, y]) := by rfl)
    (hs : swapsWithSole [.Tuple [.Name x px, .Name y py] kt pt] (.Tuple [a, b] k2 pt2) pos.line X.env = pure false := by rfl) :
    SF X (.Assign [.Tuple [.Name x px, .Name y py] kt pt] (.Tuple [a, b] k2 pt2) pos) (tPar i j (tCons ta (tCons tb tNil))) (sPar i j f g) := ⟨ps_par hc hN hi hj hij hx hy (pa_cons h1.p (pa_cons h2.p pa_nil hsb) hsa) hw hs, fun H0i H0 Hi H σ env D r gr re q k => by
  unfold sPar at q
  split at q
  · rename_i t e1
    split at q
    · rename_i u e2
      have z := Option.some.inj q
      subst z
      refine h1.q H0 Hi H σ env t _ re e1 fun v Hi1 H1 g1 rv => h2.q H0 Hi1 H1 σ env u _ (re.grow g1) e2 fun v2 Hi2 H2 g2 rv2 => ?_
      exact ⟨v, v2, rfl, k Hi2 H2 _ (g1.a.trans g2.a) (gr.trans (g1.trans g2)) ((((re.grow g1).grow g2).set (rv.mono g2.a)).set rv2)⟩
    · cases q
  · cases q⟩
/-! ### fields stored one after another -/
theorem putF_len {f : Str} {v : V} : ∀ {fs : List (Str × V)} {n : Nat}, fs.length ≤ n → (putF f v fs).length ≤ n + 1
  | [], n, h => by show 1 ≤ n + 1; omega
  | (g, u) :: fs, n, h => by
    show (if g = f then (g, v) :: fs else (g, u) :: putF f v fs).length ≤ n + 1
    by_cases e : g = f
    · rw [if_pos e]; rw [List.length_cons] at h ⊢; omega
    · rw [if_neg e, List.length_cons]
      rw [List.length_cons] at h
      have := putF_len (f := f) (v := v) (fs := fs) (n := n - 1) (by omega)
      omega
theorem put_chain : ∀ (ns : List Str) (vs : List V) (fs : List (Str × V)), ns.Nodup → (∀ x ∈ ns, fs.lookup x = none) → (ns.zip vs).foldl (fun fs p => putF p.1 p.2 fs) fs = fs ++ ns.zip vs
  | [], vs, fs, _, _ => by simp
  | n :: ns, [], fs, _, _ => by simp
  | n :: ns, v :: vs, fs, nd, h => by
    show (ns.zip vs).foldl (fun fs p => putF p.1 p.2 fs) (putF n v fs) = fs ++ (n, v) :: ns.zip vs
    have e := putF_new (v := v) (h n (List.mem_cons_self ..))
    rw [e, put_chain ns vs (fs ++ [(n, v)]) (List.nodup_cons.mp nd).2 fun x hx => ?_]
    · simp
    · have ne : x ≠ n := fun z => (List.nodup_cons.mp nd).1 (by rw [← z]; exact hx)
      rw [← e, lookup_putF, if_neg ne]
      exact h x (List.mem_cons_of_mem _ hx)
/-! ### slots that are written out -/
def SlotsOK (K : PySem.W.Frag) (Hi : Hp) : En → St → Prop
  | [], [] => True
  | none :: e, _ :: s => SlotsOK K Hi e s
  | some (.imm t) :: e, o :: s => (∃ v, o = some v ∧ Rep K Hi t v) ∧ SlotsOK K Hi e s
  | some (.raw v) :: e, o :: s => o = some v ∧ SlotsOK K Hi e s
  | _, _ => False
theorem SlotsOK.inv {Hi : Hp} : ∀ {env : En} {σ : St}, SlotsOK K Hi env σ → σ.length = env.length ∧ ∀ (i : Nat) (b : B), env[i]? = some (some b) → (∃ t v, b = .imm t ∧ σ[i]? = some (some v) ∧ Rep K Hi t v) ∨ (∃ v, b = .raw v ∧ σ[i]? = some (some v))
  | [], [], _ => ⟨rfl, fun i b e => by simp at e⟩
  | [], _ :: _, h => h.elim
  | none :: e, [], h => h.elim
  | some (.imm t) :: e, [], h => h.elim
  | some (.raw t) :: e, [], h => h.elim
  | some (.own t) :: e, [], h => h.elim
  | some (.own t) :: e, _ :: _, h => h.elim
  | none :: e, o :: s, h => by
    obtain ⟨h1, h2⟩ := SlotsOK.inv (show SlotsOK K Hi e s from h)
    refine ⟨by rw [List.length_cons, List.length_cons, h1], fun i b q => ?_⟩
    cases i with
    | zero => cases q
    | succ i => exact h2 i b q
  | some (.imm t) :: e, o :: s, h => by
    obtain ⟨⟨v, rfl, rv⟩, h0⟩ := (show (∃ v, o = some v ∧ Rep K Hi t v) ∧ SlotsOK K Hi e s from h)
    obtain ⟨h1, h2⟩ := SlotsOK.inv h0
    refine ⟨by rw [List.length_cons, List.length_cons, h1], fun i b q => ?_⟩
    cases i with
    | zero =>
      have z : B.imm t = b := Option.some.inj (Option.some.inj q)
      subst z
      exact .inl ⟨t, v, rfl, rfl, rv⟩
    | succ i => exact h2 i b q
  | some (.raw v) :: e, o :: s, h => by
    obtain ⟨rfl, h0⟩ := (show o = some v ∧ SlotsOK K Hi e s from h)
    obtain ⟨h1, h2⟩ := SlotsOK.inv h0
    refine ⟨by rw [List.length_cons, List.length_cons, h1], fun i b q => ?_⟩
    cases i with
    | zero =>
      have z : B.raw v = b := Option.some.inj (Option.some.inj q)
      subst z
      exact .inr ⟨v, rfl, rfl⟩
    | succ i => exact h2 i b q
theorem REnv.of {H0 Hi H : Hp} {env : En} {σ : St} (h : SlotsOK K Hi env σ) (sub : Same Hi H) : REnv K H0 Hi H σ env := by
  obtain ⟨h1, h2⟩ := h.inv
  refine ⟨h1, sub, fun i t e => ?_, fun i ts e => ?_, fun i v e => ?_, fun i j ts us a _ e _ _ => ?_⟩
  · rcases h2 i _ e with ⟨u, v, q, h3, h4⟩ | ⟨v, q, _⟩
    · cases q; exact ⟨v, h3, h4⟩
    · cases q
  · rcases h2 i _ e with ⟨u, v, q, _⟩ | ⟨v, q, _⟩ <;> cases q
  · rcases h2 i _ e with ⟨u, v, q, _⟩ | ⟨v, q, h3⟩
    · cases q
    · cases q; exact h3
  · rcases h2 i _ e with ⟨u, v, q, _⟩ | ⟨v, q, _⟩ <;> cases q
end
end PL


set_option Elab.async false
set_option linter.all false
set_option maxRecDepth 100000
set_option maxHeartbeats 4000000
/-! a for over zip of three tuples; what is never reached -/
namespace PL
open PySem PySem.Spec PyProof.Rows L2
section
variable {X : Cx} {K : PySem.W.Frag}
theorem walk_zip3 {a b c : Addr} {xs ys zs : List V} {n : Nat} (hx : xs.length = n) (hy : ys.length = n) (hz : zs.length = n) : Walk (Itz3 K a b c) n (fun H => SqT K H a xs ∧ SqT K H b ys ∧ SqT K H c zs)
    (fun i H v H' => ∃ T x y z, v = .ref T ∧ H T = none ∧ H' = upd H T (.tup [x, y, z]) ∧ xs[i]? = some x ∧ ys[i]? = some y ∧ zs[i]? = some z) := by
  refine ⟨fun i _ hi q => ⟨xs, ys, zs, xs[i], ys[i], zs[i], q.1, q.2.1, q.2.2, by simp [hx, hi], by simp [hy, hi], by simp [hz, hi]⟩, fun _ q => ⟨xs, ys, zs, q.1, q.2.1, q.2.2, by omega, by omega, by omega, .inl hx⟩, fun i H v H' _ q y => ?_⟩
  obtain ⟨T, x, y, z, h1, h2, h3, h4, h5, h6⟩ := y
  exact ⟨T, x, y, z, h1, h2, h3, h4 xs q.1, h5 ys q.2.1, h6 zs q.2.2⟩
/-- the tuples of the turns -/
def zip3T : List T → List T → List T → List T
  | x :: xs, y :: ys, z :: zs => .tup [x, y, z] :: zip3T xs ys zs
  | _, _, _ => []
theorem zip3T_get : ∀ {xs ys zs : List T} {i : Nat} {x y z : T}, xs[i]? = some x → ys[i]? = some y → zs[i]? = some z → (zip3T xs ys zs).drop i = .tup [x, y, z] :: (zip3T xs ys zs).drop (i + 1)
  | [], _, _, i, x, y, z, h, _, _ => by simp at h
  | _ :: _, [], _, i, x, y, z, _, h, _ => by simp at h
  | _ :: _, _ :: _, [], i, x, y, z, _, _, h => by simp at h
  | x0 :: xs, y0 :: ys, z0 :: zs, 0, x, y, z, h1, h2, h3 => by
    cases Option.some.inj h1
    cases Option.some.inj h2
    cases Option.some.inj h3
    rfl
  | x0 :: xs, y0 :: ys, z0 :: zs, i + 1, x, y, z, h1, h2, h3 => by
    show (zip3T xs ys zs).drop i = _ :: (zip3T xs ys zs).drop (i + 1)
    exact zip3T_get (i := i) h1 h2 h3
theorem zip3T_len : ∀ {xs ys zs : List T} {n : Nat}, xs.length = n → ys.length = n → zs.length = n → (zip3T xs ys zs).length = n
  | [], _, _, n, h, _, _ => by rw [← h]; rfl
  | x :: xs, [], _, n, h1, h2, _ => by rw [List.length_cons] at h1; rw [List.length_nil] at h2; omega
  | x :: xs, y :: ys, [], n, h1, _, h2 => by rw [List.length_cons] at h1; rw [List.length_nil] at h2; omega
  | x :: xs, y :: ys, z :: zs, n, h1, h2, h3 => by
    rw [List.length_cons] at h1 h2 h3
    show (zip3T xs ys zs).length + 1 = n
    have := zip3T_len (n := n - 1) (xs := xs) (ys := ys) (zs := zs) (by omega) (by omega) (by omega)
    omega
def sForZ3 (f : En → Option (List T)) (h : T → En → Option En) (b : En → Option R) : En → Option R := fun env => match f env with
  | some [.tup xs, .tup ys, .tup zs] => if xs.length = ys.length ∧ ys.length = zs.length then fGo h b (zip3T xs ys zs) env else none
  | _ => none
theorem ev_forZ3 {ta : TA} {g : TG} {is : List Nat} {tb : TS} {f : En → Option (List T)} {h : T → En → Option En} {b : En → Option R} (h0 : EvA K ta f) (h1 : EvG K g is h) (h2 : EvS K tb b) : EvS K (tFor (iZip3 K ta) g tb) (sForZ3 f h b) := fun H0i H0 Hi H σ env D r gr re e k => by
  unfold sForZ3 at e
  split at e
  · rename_i xs ys zs e1
    by_cases hl : xs.length = ys.length ∧ ys.length = zs.length
    · rw [if_pos hl] at e
      refine h0 H0 Hi H σ env _ _ re e1 fun vs Hi1 H1 g1 rvs => ?_
      obtain ⟨v1, r1, rfl, rv1, rr1⟩ := rvs.inv
      obtain ⟨v2, r2, rfl, rv2, rr2⟩ := rr1.inv
      obtain ⟨v3, r3, rfl, rv3, rr3⟩ := rr2.inv
      rw [rr3.inv0]
      unfold Rep at rv1 rv2 rv3
      obtain ⟨a, us, rfl, q1, p1⟩ := rv1
      obtain ⟨b', ws, rfl, q2, p2⟩ := rv2
      obtain ⟨c, zz, rfl, q3, p3⟩ := rv3
      have l1 := p1.len
      have l2 := p2.len
      have l3 := p3.len
      refine ⟨a, b', c, us, ws, zz, rfl, sameT g1.c q1, sameT g1.c q2, sameT g1.c q3, ?_⟩
      refine for_it (walk_zip3 (n := us.length) rfl (by omega) (by omega)) (fun i σ' H' => ∃ Hi' env', Same Hi1 Hi' ∧ Grow H0i H0 Hi' H' ∧ REnv K H0 Hi' H' σ' env' ∧ fGo h b ((zip3T xs ys zs).drop i) env' = some r)
        ⟨Hi1, env, Same.refl _, gr.trans g1, re.grow g1, e⟩ (fun i σ' H' _ ⟨Hi', env', s', g', r', _⟩ => ⟨sameT (s'.trans g'.c) q1, sameT (s'.trans g'.c) q2, sameT (s'.trans g'.c) q3⟩) ?_ ?_
      · rintro i v σ' H' H2 hi ⟨Hi', env', s', g', r', e'⟩ ⟨TT, x, y, z, rfl, hT, rfl, hx, hy, hz⟩
        obtain ⟨tx, ex, rx⟩ := p1.get' hx
        obtain ⟨ty, ey, ry⟩ := p2.get' hy
        obtain ⟨tz, ez, rz⟩ := p3.get' hz
        rw [zip3T_get ex ey ez] at e'
        have gN := Grow.new (o := .tup [x, y, z]) g'.c hT
        refine fGo_turn h1 h2 (g'.trans gN) (r'.grow gN) ?_ e' (k.mono (g1.a.trans (s'.trans gN.a))) fun Hi2 H2 σ2 env2 s2 g2 r2 e2 => ⟨Hi2, env2, s'.trans (gN.a.trans s2), g2, r2, e2⟩
        unfold Rep
        have m := s'.trans gN.a
        exact ⟨TT, [x, y, z], rfl, .inl (.inl upd_same), Reps.cons (rx.mono m) (Reps.cons (ry.mono m) (Reps.cons (rz.mono m) Reps.nil))⟩
      · rintro σ' H' ⟨Hi', env', s', g', r', e'⟩
        have dl : (zip3T xs ys zs).drop us.length = [] := List.drop_eq_nil_of_le (by rw [zip3T_len (n := us.length) (by omega) (by omega) (by omega)]; exact Nat.le_refl _)
        rw [dl] at e'
        have z : R.nx env' = r := Option.some.inj e'
        subst z
        exact k Hi' H' σ' (g1.a.trans s') g' r'
    · rw [if_neg hl] at e; cases e
  · cases e
theorem sf_forZ3 {e1 e2 e3 : Expr} {elts : List Expr} {kk : Nat} {tpos p cpos pos : Pos} {body : List Stmt} {ta : TA} {g : TG} {is : List Nat} {tb : TS} {f : En → Option (List T)} {h : T → En → Option En} {b : En → Option R} (hp : PassesOwn (model X.prog X.w) X.A X.env X.xe) (hc : X.calm = true) (hm : X.mg "zip" = none)
    (h0 : AF X [e1, e2, e3] 3 ta f) (h1 : GF X (.Tuple elts kk tpos) g is h) (h2 : SsF X body tb b) (hg : Gl X "zip" := by rfl)
    (hsa : starEach [e1, e2, e3] X.env = (false, eval e1 X.env) :: starEach [e2, e3] X.env := by rfl) (hpl : (backTo cpos (starEach [e2, e3] X.env)).any (·.1) = false := by rfl) (hs : ∀ x, foldedSetIterable (.Call (.Name "zip" p) [e1, e2, e3] [] cpos) X.env x = pure x := by intro _; rfl) :
    SF X (.For (.Tuple elts kk tpos) (.Call (.Name "zip" p) [e1, e2, e3] [] cpos) body [] pos) (tFor (iZip3 X.K ta) g tb) (sForZ3 f h b) := ⟨ps_for hp hc (pi_zip3 hm h0.p hg hsa hpl) h1.p h2.p hs, ev_forZ3 h0.q h1.q h2.q⟩
/-- what is never reached -/
def sNever : En → Option R := fun _ => none
theorem ssf_never {sts : List Stmt} : SsF X sts tNever sNever := ⟨pss_never, fun _ _ _ _ _ _ _ _ _ _ e _ => by cases e⟩
end
end PL


set_option Elab.async false
set_option linter.all false
set_option maxRecDepth 100000
set_option maxHeartbeats 4000000
/-! == by an own __eq__; isinstance of an own class -/
namespace PL
open PySem PySem.Spec PyProof.Rows L2
section
variable {X : Cx} {K : PySem.W.Frag}
def rEqI (C : Addr) (sp : Sp) : R2 := fun x y H Q => ∃ a b dx dy fs gs, x = .ref a ∧ y = .ref b ∧ H a = some (.ins C dx fs) ∧ H b = some (.ins C dy gs) ∧ sp [x, y] H (fun v H' => (∃ k, v = .bl k) ∧ Q v H') E0
theorem op_eqI {f C : Addr} {fd : FuncData} {n : Nat} {ps : List Str} {sp : Sp} (F : FnOk X.prog X.w X.K X.mg X.base CX0 n f fd ps sp) (hm : Meth X.K C "__eq__" f) (hb : Binds X.K fd ps []) (hr : Room n X.A) : OpR X (compareOp .Eq) (rEqI C sp) := by
  intro pins s σ H x y u v Q I rx ry d
  obtain ⟨a, b, dx, dy, fs, gs, rfl, rfl, ha, hb', hsp⟩ := d
  cases rx
  cases ry
  obtain ⟨mA, J, _⟩ := ins_get I.hok ha
  obtain ⟨mB, J', _⟩ := ins_get I.hok hb'
  obtain ⟨od, J, _⟩ := J.look
  obtain ⟨od', J', _⟩ := J'.look
  obtain ⟨m, hF⟩ := I.fr
  refine PySem.W.cmp_K (op := .Eq) (tb := .ref C) hr.units0 hF I.ok.mod.kin J J'.type (by simp [PySem.W.notFirst]) hm.at_ hm.fn ?_
  have e0 := I.env0
  have hl := F.len _ _ _ _ hsp
  have r2 : Vals [V.ref a, V.ref b] [Value.ref a, Value.ref b] := .cons rfl (.cons rfl .nil)
  refine wpAny_call (codeAny_mono (F.run X.A X.stack s H ⟨[.ref a, .ref b], []⟩ [.ref a, .ref b] [.ref a, .ref b] _ E0 hr e0 (by
    have := hb s [.ref a, .ref b] I.kIn (by simpa using hl)
    simpa using this) r2 hsp) fun r s' hq => ?_)
  cases r with
  | error e => exact hq.elim
  | ok fl =>
    cases fl with
    | ret w =>
      obtain ⟨z, H', I', rz, ⟨k, ez⟩, ex⟩ := I.after hq
      subst ez
      cases rz
      exact ⟨.bl k, H', I', rfl, ex⟩
    | next => exact False.elim hq
    | brk => exact False.elim hq
    | cont => exact False.elim hq
def oEqI (c : Nat) (F : List T → Option T) (x y : T) : Option T := match x, y with
  | .obj d ts, .obj e us => if d = c ∧ e = c then (match F [.obj d ts, .obj e us] with
    | some (.bl k) => some (.bl k)
    | _ => none) else none
  | _, _ => none
theorem ok_eqI {c : Nat} {F : List T → Option T} : R2OK K (rEqI (cl K c) (spP K 2 F)) (oEqI c F) := fun Hi H x y t v u Q s e rx ry k => by
  unfold oEqI at e
  split at e
  · rename_i d ts e' us
    by_cases hc : d = c ∧ e' = c
    · rw [if_pos hc] at e
      obtain ⟨rfl, rfl⟩ := hc
      split at e
      · rename_i b eb
        cases Option.some.inj e
        have rx0 := rx
        have ry0 := ry
        unfold Rep at rx ry
        obtain ⟨a, dx, xs, rfl, h1, _, _⟩ := rx
        obtain ⟨b', dy, ys, rfl, h2, _, _⟩ := ry
        refine ⟨a, b', dx, dy, _, _, rfl, rfl, s _ _ h1, s _ _ h2, Hi, _, _, s, rfl, Reps.cons rx0 (Reps.cons ry0 Reps.nil), eb, fun w Hi' H' g rw' => ⟨⟨b, ?_⟩, k _ _ _ g rw'⟩⟩
        unfold Rep at rw'
        exact rw'
      · cases e
    · rw [if_neg hc] at e; cases e
  · cases e
theorem ef_eqI {c n : Nat} {ps : List Str} {F : List T → Option T} {a b : Expr} {ta tb : TE} {f g : En → Option T} {pos : Pos} (G : MtAt X.prog X.w K X.mg X.base n c "__eq__" ps (spP K 2 F)) (hr : Room n X.A) (h1 : EF X a ta f) (h2 : EF X b tb g) (hK : X.K = K := by rfl) :
    EF X (.Compare a [.Eq] [b] pos) (tOp (rEqI (cl K c) (spP K 2 F)) ta tb) (e2 (oEqI c F) f g) := by
  subst hK
  obtain ⟨f', fd, q1, q2, q3⟩ := G.ex
  exact ef_cmp (op_eqI q3 q1 q2 hr) ok_eqI h1 h2 (nomark _)
/-- isinstance(x, C) of an instance of C -/
def insB (K : PySem.W.Frag) (x : Str) : Bool := decide (PySem.W.findIn K (.ref (He.ga K x)) "__class__" = some (some (.builtin "object.__class__"))) && (decide (PySem.W.specialIn K (.builtin "object.__class__") "__get__" = some (some (.builtin "getset_descriptor.__get__"))) &&
  (decide (PySem.W.takesIn K (.builtin "object.__class__") = some true) && (decide (PySem.W.mroIn K (He.ga K x) (.type "object") = some true) && decide (PySem.W.kitOne K (.ref (He.ga K x)) (.ref (He.ga K x)) = some true))))
theorem insB_ok {x : Str} (h : insB K x = true) (hc : Cls K (He.ga K x)) : C8.InsC K (He.ga K x) := by
  obtain ⟨h1, h2⟩ := He.ba h
  obtain ⟨h3, h4⟩ := He.ba h2
  obtain ⟨h5, h6⟩ := He.ba h4
  obtain ⟨h7, h8⟩ := He.ba h6
  exact ⟨hc, of_decide_eq_true h1, of_decide_eq_true h3, of_decide_eq_true h5, of_decide_eq_true h7, of_decide_eq_true h8⟩
def eIsiC (c : Nat) (f : En → Option T) : En → Option T := fun env => match f env with
  | some (.obj d _) => if d = c then some (.bl true) else none
  | _ => none
theorem ef_isiC {c : Nat} {y : Str} {e : Expr} {te : TE} {f : En → Option T} {p p2 pos : Pos} (I : C8.InsC K (cl K c)) (hm : X.mg "isinstance" = none) (hy : X.mg y = some (.ref (cl K c))) (h : EF X e te f) (hg : Gl X "isinstance" := by rfl) (hgy : Gl X y := by rfl)
    (hdy : (y == ("__debug__" : Str)) = false := by decide)
    (he : starEach [e, .Name y p2] X.env = (false, eval e X.env) :: starEach [.Name y p2] X.env := by rfl) (he2 : starEach [.Name y p2] X.env = (false, eval (.Name y p2) X.env) :: starEach [] X.env := by rfl) (hpl : (backTo pos (starEach [.Name y p2] X.env)).any (·.1) = false := by rfl) (hK : X.K = K := by rfl) :
    EF X (.Call (.Name "isinstance" p) [e, .Name y p2] [] pos) (tCB (fun xs H Q => ∃ a dx fs, xs = [.ref a, .ref (cl K c)] ∧ H a = some (.ins (cl K c) dx fs) ∧ Q (.bl true) H) (tCons te (tCons (tC (.ref (cl K c))) tNil))) (eIsiC c f) := by
  subst hK
  exact ⟨pe_callB (C8.call_isC I) hg hm (by decide +kernel) (pa_cons h.p (pa_cons (pe_glob hgy hy (v := .ref (cl X.K c)) rfl hdy) pa_nil he2) he) (by decide) (by decide) he hpl, fun H0 Hi H σ env t Q r e1 k => by
  unfold eIsiC at e1
  split at e1
  · rename_i d ts e2
    by_cases hd : d = c
    · rw [if_pos hd] at e1
      subst hd
      cases Option.some.inj e1
      refine h.q H0 Hi H σ env _ _ r e2 fun v Hi1 H1 g1 rv => ?_
      unfold Rep at rv
      obtain ⟨a, dx, vs, rfl, h2, _⟩ := rv
      exact ⟨a, dx, _, rfl, g1.c _ _ h2, k _ _ _ g1 (by unfold Rep; rfl)⟩
    · rw [if_neg hd] at e1; cases e1
  · cases e1⟩
/-! ### Rule's __init__, where it raises nothing -/
theorem okVs_inv {us : List V} (h : okV 0 us = true) : ∃ a b c d e : Str, us = [.str a, .str b, .str c, .str d, .str e] ∧ a ∈ (["told", "read", "both"] : List Str) ∧ b ∈ (["all", "follows"] : List Str) ∧ c ∈ (["carry", "drop"] : List Str) ∧ d ∈ (["carry", "drop"] : List Str) ∧ e ∈ (["once", "each"] : List Str) := by
  have one : ∀ {c : List Str} {cs : List (List Str)} {vs : List V}, okVs (c :: cs) vs = true → ∃ x r, vs = .str x :: r ∧ x ∈ c ∧ okVs cs r = true := fun {c cs vs} h => by
    cases vs with
    | nil => cases h
    | cons v r =>
      cases v with
      | str x =>
        obtain ⟨h1, h2⟩ := He.ba (show (decide (x ∈ c) && okVs cs r) = true from h)
        exact ⟨x, r, rfl, of_decide_eq_true h1, h2⟩
      | _ => cases h
  obtain ⟨a, r1, rfl, ha, h1⟩ := one (show okVs choices us = true from h)
  obtain ⟨b, r2, rfl, hb, h2⟩ := one h1
  obtain ⟨c, r3, rfl, hc, h3⟩ := one h2
  obtain ⟨d, r4, rfl, hd, h4⟩ := one h3
  obtain ⟨e, r5, rfl, he, h5⟩ := one h4
  cases r5 with
  | nil => exact ⟨a, b, c, d, e, rfl, ha, hb, hc, hd, he⟩
  | cons _ _ => cases h5
end
end PL


set_option Elab.async false
set_option linter.all false
set_option maxRecDepth 100000
set_option maxHeartbeats 4000000
/-! calls of what stands; the draws -/
namespace PL
open PySem PySem.Spec PyProof.Rows L2
section
variable {X : Cx} {K : PySem.W.Frag}
theorem pe_at {x : Str} {e : Expr} {es : List Expr} {k : Nat} {ps : List Str} {sp : Sp} {ta : TA} {p pos : Pos} (G : FnAt X.prog X.w X.K X.mg X.base k x ps sp) (hr : Room k X.A) (h : PA X (e :: es) ta)
    (hg : Gl X x := by rfl) (hdb : (x == ("__debug__" : Str)) = false := by decide) (he : starEach (e :: es) X.env = (false, eval e X.env) :: starEach es X.env := by rfl) (hpl : (backTo pos (starEach es X.env)).any (·.1) = false := by rfl) :
    PE X (.Call (.Name x p) (e :: es) [] pos) (tCall sp [] E0 ta) := by
  obtain ⟨f, fd, h1, h2, h3, h4⟩ := G.ex
  exact pe_call h4 hr hg h1 h2 h3 .nil pass0 h hdb he hpl
theorem pe_at0 {x : Str} {k : Nat} {ps : List Str} {sp : Sp} {p pos : Pos} (G : FnAt X.prog X.w X.K X.mg X.base k x ps sp) (hr : Room k X.A)
    (hg : Gl X x := by rfl) (hdb : (x == ("__debug__" : Str)) = false := by decide) : PE X (.Call (.Name x p) [] [] pos) (tCall sp [] E0 tNil) := by
  obtain ⟨f, fd, h1, h2, h3, h4⟩ := G.ex
  exact pe_call0 h4 hr hg h1 h2 h3 .nil pass0 hdb
end
/-- what holds between two statements -/
theorem seqI {t u : TS} {D : Ends} {σ : L2.St} {H : Hp} (M : L2.St → Hp → Prop) (hu : ∀ σ' H', M σ' H' → u D σ' H') (ht : ∀ g : L2.St → Hp → Prop, (∀ σ' H', M σ' H' → g σ' H') → t { D with nx := g } σ H) : tSeq t u D σ H := ht _ hu
/-- the draws: the script's copy (at l), the place in it, what is left of a large number, the seed -/
structure Dr (H : Hp) (a l : Addr) : Prop where
  ex : ∃ (ns : List Int) (p : Nat) (b s : Int), H a = some (.lst [.ref l, .int p, .int b, .int s]) ∧ H l = some (.lst (ns.map V.int)) ∧ l ≠ a ∧ 0 ≤ b
theorem Dr.keep {H H' : Hp} {a l : Addr} (d : Dr H a l) (k : Same H H') : Dr H' a l := by
  obtain ⟨ns, p, b, s, h1, h2, h3⟩ := d.ex
  exact ⟨ns, p, b, s, k _ _ h1, k _ _ h2, h3⟩
theorem Dr.keep2 {H H' : Hp} {a l : Addr} (d : Dr H a l) (ka : H' a = H a) (kl : H' l = H l) : Dr H' a l := by
  obtain ⟨ns, p, b, s, h1, h2, h3⟩ := d.ex
  exact ⟨ns, p, b, s, ka.trans h1, kl.trans h2, h3⟩
theorem Dr.ne {H : Hp} {a l : Addr} (d : Dr H a l) : l ≠ a := by
  obtain ⟨ns, p, b, s, h1, h2, h3, _⟩ := d.ex
  exact h3
theorem Dr.at {H : Hp} {a l : Addr} (d : Dr H a l) : ∃ xs, H a = some (.lst xs) := by
  obtain ⟨ns, p, b, s, h1, _⟩ := d.ex
  exact ⟨_, h1⟩
theorem Dr.inn {H : Hp} {a l : Addr} (d : Dr H a l) : ∃ xs, H l = some (.lst xs) := by
  obtain ⟨ns, p, b, s, _, h1, _⟩ := d.ex
  exact ⟨_, h1⟩
/-- a draw below k -/
def spDraw : Sp := fun vs H Q _ => ∃ a l k, vs = [.ref a, .int k] ∧ Dr H a l ∧ 0 < k ∧ k < 536870912 ∧ ∀ (n : Int) (H' : Hp), 0 ≤ n → n < k → Dr H' a l → (∀ b, b ≠ a → H' b = H b) → Q (.int n) H'
/-- the draws begin -/
def spBegin (K : PySem.W.Frag) : Sp := fun vs H Q _ => ∃ (a : Addr) (ns : List Int), vs = [.ref a] ∧ SqL K H a (ns.map V.int) ∧ ns.length ≤ 63 ∧ ∀ (d l : Addr) (H' : Hp), Dr H' d l → H d = none → H l = none → Same H H' → Q (.ref d) H'
/-- five drawn parts -/
def okParts (us : List V) : Prop := ∃ a b c d e : Str, us = [.str a, .str b, .str c, .str d, .str e] ∧ a ∈ (["told", "read", "both"] : List Str) ∧ b ∈ (["all", "follows"] : List Str) ∧ c ∈ (["carry", "drop"] : List Str) ∧ d ∈ (["carry", "drop"] : List Str) ∧ e ∈ (["once", "each"] : List Str)
def spParts : Sp := fun vs H Q _ => ∃ a l, vs = [.ref a] ∧ Dr H a l ∧ ∀ (r : Addr) (us : List V) (H' : Hp), okParts us → Dr H' a l → H r = none → H' r = some (.lst us) → (∀ b o, b ≠ a → H b = some o → H' b = some o) → Q (.ref r) H'
section
variable {X : Cx} {K : PySem.W.Frag}
/-- a def that may raise -/
structure FnAtX (P : Program) (w : World) (K : PySem.W.Frag) (mg : Str → Option Value) (base : Heap) (k : Nat) (x : Str) (ps : List Str) (sp : Sp) : Prop where
  ex : ∃ f fd, mg x = some (.ref f) ∧ PySem.W.keepIn K (.ref f) = true ∧ Binds K fd ps [] ∧ FnOk P w K mg base (L2.CX P w) k f fd ps sp
theorem pe_atX {x : Str} {e : Expr} {es : List Expr} {k : Nat} {ps : List Str} {sp : Sp} {ta : TA} {E : XK} {p pos : Pos} (G : FnAtX X.prog X.w X.K X.mg X.base k x ps sp) (hr : Room k X.A) (hx : Passes (L2.CX X.prog X.w) X E) (h : PA X (e :: es) ta)
    (hg : Gl X x := by rfl) (hdb : (x == ("__debug__" : Str)) = false := by decide) (he : starEach (e :: es) X.env = (false, eval e X.env) :: starEach es X.env := by rfl) (hpl : (backTo pos (starEach es X.env)).any (·.1) = false := by rfl) :
    PE X (.Call (.Name x p) (e :: es) [] pos) (tCall sp [] E ta) := by
  obtain ⟨f, fd, h1, h2, h3, h4⟩ := G.ex
  exact pe_call h4 hr hg h1 h2 h3 .nil hx h hdb he hpl
end
end PL


set_option Elab.async false
set_option linter.all false
set_option maxRecDepth 100000
set_option maxHeartbeats 4000000
/-! own errors: with a field, without anything -/
namespace PL
open PySem PySem.Spec PyProof.Rows L2
section
variable {X : Cx} {K : PySem.W.Frag}
def oexB (K : PySem.W.Frag) (C : Addr) : Bool := (match K.lookup C with
  | some ⟨.type "type", _, .cls cd, sl⟩ => (match cd.mro, sl.toList with
    | .ref C' :: bm, [_, _, _, _, some (.builtin n), _] => C' == C && n == "ValueError.__new__" && !cd.hasDel && cd.hasDict && PySem.HandSPX.refsVE bm
    | _, _ => false)
  | _ => false) && (decide (PySem.W.findIn K (.ref C) "__setattr__" = some (some (.builtin "object.__setattr__"))) && (decide (PySem.W.subIn K (.ref C) (.type "BaseException") = some true) && (decide (PySem.W.typeIn K (.ref C) = some (.type "type")) && PySem.W.keepIn K (.ref C))))
theorem oexB_ok {C : Addr} (h : oexB K C = true) : OexC K C := by
  obtain ⟨h1, h2⟩ := He.ba h
  obtain ⟨h3, h4⟩ := He.ba h2
  obtain ⟨h5, h6⟩ := He.ba h4
  obtain ⟨h7, h8⟩ := He.ba h6
  refine ⟨?_, of_decide_eq_true h3, of_decide_eq_true h5, of_decide_eq_true h7, h8⟩
  split at h1
  · rename_i dd cd sl ho
    split at h1
    · rename_i C' bm k0 k1 k2 k3 n k5 hm hs
      simp only [Bool.and_eq_true, beq_iff_eq, Bool.not_eq_true'] at h1
      obtain ⟨⟨⟨⟨rfl, rfl⟩, hdel⟩, hdi⟩, hre⟩ := h1
      obtain ⟨nm, bs, mro, ns, qn, hd, sn, sub, ab, col, del⟩ := cd
      dsimp only at hm hdel hdi
      subst hm hdel hdi
      have hsl : sl = #[k0, k1, k2, k3, some (.builtin "ValueError.__new__"), k5] := by
        obtain ⟨l⟩ := sl
        simp only at hs
        rw [hs]
      subst hsl
      exact ⟨nm, qn, ns, bs, bm, sn, sub, ab, col, dd, k0, k1, k2, k3, k5, ho, hre⟩
    · cases h1
  · cases h1
/-- what an own error with one field asks of the head -/
def oexF (K : PySem.W.Frag) (x f : Str) : Bool := oexB K (He.ga K x) && (decide (PySem.W.findIn K (.ref (He.ga K x)) f = some none) && (decide (PySem.W.findIn K (.ref (He.ga K x)) "__init__" = some (some (.ref (He.ma K (He.ga K x) "__init__")))) &&
  (decide (PySem.W.typeIn K (.ref (He.ma K (He.ga K x) "__init__")) = some (.type "function")) && (xfB K (He.ga K x) && decide (PySem.W.exmOne K (.ref (He.ga K x)) (.ref (He.ga K x)) = some true)))))
structure OexF (K : PySem.W.Frag) (x f : Str) : Prop where
  c : OexC K (He.ga K x)
  no : PySem.W.findIn K (.ref (He.ga K x)) f = some none
  i : PySem.W.findIn K (.ref (He.ga K x)) "__init__" = some (some (.ref (He.ma K (He.ga K x) "__init__")))
  t : PySem.W.typeIn K (.ref (He.ma K (He.ga K x) "__init__")) = some (.type "function")
  xf : XfC K (He.ga K x)
  me : PySem.W.exmOne K (.ref (He.ga K x)) (.ref (He.ga K x)) = some true
theorem oexF_ok {x f : Str} (h : oexF K x f = true) : OexF K x f := by
  obtain ⟨h1, h2⟩ := He.ba h
  obtain ⟨h3, h4⟩ := He.ba h2
  obtain ⟨h5, h6⟩ := He.ba h4
  obtain ⟨h7, h8⟩ := He.ba h6
  obtain ⟨h9, h10⟩ := He.ba h8
  exact ⟨oexB_ok h1, of_decide_eq_true h3, of_decide_eq_true h5, of_decide_eq_true h7, xfB_ok h9, of_decide_eq_true h10⟩
/-- the promise of such an __init__ -/
def spOex (C : Addr) (f : Str) : Sp := fun vs H Q _ => ∃ a v, vs = [.ref a, v] ∧ H a = some (exo a C none) ∧ ∀ dx, H dx = none → dx ≠ a → Q .non (upd (upd H dx (exd dx [(f, v)])) a (exo a C (some dx)))
/-- raise X(e) -/
theorem ps_raiseF {k : Nat} {fd : FuncData} {ps : List Str} {x f : Str} {e : Expr} {ta : TE} {W : WX} {p pos pos2 : Pos} (hc : X.calm = true) (tk : Takes X W) (O : OexF X.K x f) (F1 : FnOk X.prog X.w X.K X.mg X.base CX0 k (He.ma X.K (He.ga X.K x) "__init__") fd ps (spOex (He.ga X.K x) f)) (hr : Room (k + 1) X.A)
    (hb : Binds X.K fd ps []) (hm : X.mg x = some (.ref (He.ga X.K x))) (ha : PE X e ta) (hg : Gl X x := by rfl) (hdb : (x == ("__debug__" : Str)) = false := by decide) (he : starEach [e] X.env = (false, eval e X.env) :: starEach [] X.env := by rfl) (hpl : (backTo pos (starEach [] X.env)).any (·.1) = false := by rfl) :
    PS X (.Raise (some (.Call (.Name x p) [e] [] pos)) none pos2) (fun _ σ H => tMkO (He.ga X.K x) (spOex (He.ga X.K x) f) [] (tCons ta tNil) σ H fun cls d H' => W cls d σ H') :=
  ps_raise hc tk (pmk_oex O.c O.i O.t F1 hr hb .nil pass0 hg hm (pa_cons ha pa_nil he) hdb he hpl)
/-- what its reading comes to -/
theorem raiseF_of {C : Addr} {f : Str} {te : TE} {σ : L2.St} {H : Hp} {v : V} {Q : XK} (h : te σ H fun y H1 => y = v ∧ H1 = H) (k : ∀ d, H d = none → Q (.ref C) (some d) (upd H d (.xd [(f, v)]))) (mono : ∀ (R R' : VK), te σ H R → (∀ y H1, R y H1 → R' y H1) → te σ H R') :
    tMkO C (spOex C f) [] (tCons te tNil) σ H Q := by
  refine mono _ _ h fun y H1 e => ?_
  obtain ⟨rfl, rfl⟩ := e
  show ([y] : List V).length ≤ 1000 ∧ _
  refine ⟨by show 1 ≤ 1000; decide, fun a ha => ⟨a, y, rfl, upd_same, fun dx hdx ne => ⟨rfl, dx, [(f, y)], upd_same, ?_, ?_, ?_⟩⟩⟩
  · rw [upd_ne ne, upd_same]
  · rw [upd_ne ne] at hdx; exact hdx
  · have hd : H1 dx = none := by rw [upd_ne ne] at hdx; exact hdx
    have e2 : upd (del (upd (upd (upd H1 a (exo a C none)) dx (exd dx [(f, y)])) a (exo a C (some dx))) a) dx (.xd [(f, y)]) = upd H1 dx (.xd [(f, y)]) := by
      funext b
      by_cases hb : b = dx
      · subst hb; rw [upd_same, upd_same]
      · rw [upd_ne hb, upd_ne hb]
        by_cases hba : b = a
        · subst hba; rw [del_same]; exact ha.symm
        · rw [del_ne hba, upd_ne hba, upd_ne hb, upd_ne hba]
    rw [e2]
    exact k dx hd
/-- X() of an own class -/
theorem pmk_ownE {C : Addr} {bmB : List Value} {B newId initId : String} {x : Str} {p pos : Pos} (F : ExcBaseFacts B newId initId bmB) (q : PySem.W.excIn X.K C bmB newId = true) (gC : X.mg x = some (.ref C))
    (kC : PySem.W.keepIn X.K (.ref C) = true) (r : Raises X (.ref C)) (hg : Gl X x) (hdb : (x == ("__debug__" : Str)) = false := by decide) :
    PMk X (.Call (.Name x p) [] [] pos) (fun _ H Q => Q (.ref C) none H) := by
  intro pins s σ H Q I h
  refine wpAny_Call_Name_kw (ld_glob I hg gC ?_ hdb)
  refine PySem.W.callWith_K0 I.kIn kC ?_
  show wpAny _ _ (call (.ref C) []) _ _ _
  obtain ⟨bm, N, nm, qn, bs, hdct, sn, sub, ab, col, dd, k0, k1, k2, k3, k5, mN, hC, hN, hni, T⟩ := exc_obj I.kIn q
  refine wpAny_call_exc_subT F T hC hN hni (fun h' e hm => ?_) (Nat.zero_le _)
  exact mk_of I hm r h (I.hok.gone hm.new)
/-! ### which part of a rule is wrong -/
def goodT (c : List Str) : T → Bool
  | .str x => decide (x ∈ c)
  | _ => false
def firstBad : List Str → List T → List (List Str) → Option Str
  | n :: ns, t :: ts, c :: cs => if goodT c t = true then firstBad ns ts cs else some n
  | _, _, _ => none
def partNames : List Str := ["looked", "muting", "joining", "copying", "ways"]
def strT (c : List Str) : T := .tup (c.map T.str)
theorem vTs_strs : ∀ c : List Str, vTs (c.map T.str) = some (c.map V.str)
  | [] => rfl
  | x :: c => by
    show (match vT (.str x), vTs (c.map T.str) with
      | some v, some vs => some (v :: vs)
      | _, _ => none) = _
    rw [vTs_strs c]
    rfl
theorem inV_strs (x : Str) : ∀ c : List Str, inV (.str x) (c.map V.str) = decide (x ∈ c)
  | [] => by simp [inV]
  | y :: c => by
    have ih := inV_strs x c
    unfold inV at ih ⊢
    rw [List.map_cons, List.any_cons, ih]
    show ((y == x) || decide (x ∈ c)) = _
    by_cases e : y = x
    · subst e; simp
    · have e1 : (y == x) = false := beq_eq_false_iff_ne.mpr e
      rw [e1, Bool.false_or]
      by_cases hc : x ∈ c
      · rw [decide_eq_true hc, decide_eq_true (List.mem_cons_of_mem _ hc)]
      · rw [decide_eq_false hc, decide_eq_false (fun z => (List.mem_cons.mp z).elim (fun q => e q.symm) hc)]
/-- the values that may be given to a rule here -/
def plainT : T → Bool
  | .obj _ _ => false
  | _ => true
def isStrB : T → Bool
  | .str _ => true
  | _ => false
theorem isStr (t : T) (h : plainT t = true) : isT "str" t = some (isStrB t) := by
  cases t with
  | obj c ts => cases h
  | non => exact (by decide +kernel : L2.kitB "NoneType" "str" = some false)
  | bl b => exact (by decide +kernel : L2.kitB "bool" "str" = some false)
  | int b => exact (by decide +kernel : L2.kitB "int" "str" = some false)
  | str b => exact (by decide +kernel : L2.kitB "str" "str" = some true)
  | lst b => exact (by decide +kernel : L2.kitB "list" "str" = some false)
  | tup b => exact (by decide +kernel : L2.kitB "tuple" "str" = some false)
/-- the test of a part -/
def tstR : En → Option Bool := bOr (bNot (bOf (eIsi "str" (eVar 7)))) (bOf (e2 (oIn true) (eVar 7) (eVar 8)))
theorem tstR_is {env : En} {t : T} {c : List Str} (h7 : env[7]? = some (some (.imm t))) (h8 : env[8]? = some (some (.imm (strT c)))) (hp : plainT t = true) : tstR env = some (!goodT c t) := by
  have v7 : eVar 7 env = some t := by unfold eVar; rw [h7]
  have v8 : eVar 8 env = some (strT c) := by unfold eVar; rw [h8]
  have i7 : eIsi "str" (eVar 7) env = some (.bl (isStrB t)) := by unfold eIsi; rw [v7]; simp only [isStr t hp]
  unfold tstR bOr bNot bOf
  rw [i7]
  cases t with
  | str x =>
    have e : e2 (oIn true) (eVar 7) (eVar 8) env = some (.bl (!decide (x ∈ c))) := by
      unfold e2
      rw [v7, v8]
      show (match vTs (c.map T.str) with
        | some vs => some (T.bl (if true = true then !inV (.str x) vs else inV (.str x) vs))
        | none => none) = _
      rw [vTs_strs c]
      show some (T.bl (!inV (.str x) (c.map V.str))) = _
      rw [inV_strs]
    show (match e2 (oIn true) (eVar 7) (eVar 8) env with
      | some (.bl b) => some b
      | _ => none) = _
    rw [e]
    rfl
  | _ => rfl
end
end PL
namespace PL
open PySem PySem.Spec PyProof.Rows L2
/-- Rule's __init__, of any plain values -/
def spRuleX (K : PySem.W.Frag) : Sp := fun vs H Q E => ∃ x dx us Hi ts, vs = .ref x :: us ∧ us.length = 5 ∧ Same Hi H ∧ Reps K Hi ts us ∧ ts.all plainT = true ∧ H x = some (.ins (cl K 0) dx []) ∧
  (firstBad partNames ts choices = none → ∀ H' : Hp, H' x = some (.ins (cl K 0) dx ((flds 0).zip us)) → (∀ b o, b ≠ x → H b = some o → H' b = some o) → Q .non H') ∧
  (∀ n, firstBad partNames ts choices = some n → ∀ (d : Addr) (H' : Hp), H d = none → H' d = some (.xd [("part", .str n)]) → (∀ b o, H b = some o → H' b = some o) → E (.ref (He.ga K "BadRule")) (some d) H')
theorem firstBad_drop {i : Nat} {ns : List Str} {ts : List T} {cs : List (List Str)} {n : Str} {t : T} {c : List Str} (h1 : ns[i]? = some n) (h2 : ts[i]? = some t) (h3 : cs[i]? = some c) :
    firstBad (ns.drop i) (ts.drop i) (cs.drop i) = if goodT c t = true then firstBad (ns.drop (i + 1)) (ts.drop (i + 1)) (cs.drop (i + 1)) else some n := by
  rw [drop_more h1, drop_more h2, drop_more h3]
  rfl
theorem firstBad_none {n : Str} {ns : List Str} {t : T} {ts : List T} {c : List Str} {cs : List (List Str)} (h : firstBad (n :: ns) (t :: ts) (c :: cs) = none) : (∃ x, t = .str x ∧ x ∈ c) ∧ firstBad ns ts cs = none := by
  have h' : (if goodT c t = true then firstBad ns ts cs else some n) = none := h
  by_cases g : goodT c t = true
  · rw [if_pos g] at h'
    refine ⟨?_, h'⟩
    cases t with
    | str x => exact ⟨x, rfl, of_decide_eq_true g⟩
    | _ => cases g
  · rw [if_neg g] at h'; cases h'
theorem map_get {α β : Type} {f : α → β} {l : List α} {i : Nat} {y : β} (h : (l.map f)[i]? = some y) : ∃ x, l[i]? = some x ∧ f x = y := by
  rw [List.getElem?_map] at h
  cases q : l[i]? with
  | none => rw [q] at h; cases h
  | some x => rw [q] at h; exact ⟨x, rfl, Option.some.inj h⟩
end PL


set_option Elab.async false
set_option linter.all false
set_option maxRecDepth 100000
set_option maxHeartbeats 4000000
/-! drawn choices -/
namespace PL
open PySem PySem.Spec PyProof.Rows L2
theorem PE.imp {X : Cx} {e : Expr} {t t' : TE} (h : PE X e t) (k : ∀ σ H Q, t' σ H Q → t σ H Q) : PE X e t' := ⟨fun pins s σ H Q I q => h.run pins s σ H Q I (k _ _ _ q)⟩
theorem PS.imp {X : Cx} {e : Stmt} {t t' : TS} (h : PS X e t) (k : ∀ D σ H, t' D σ H → t D σ H) : PS X e t' := ⟨fun pins s σ H D I q => h.run pins s σ H D I (k _ _ _ q)⟩
def tStrs : List Str → TA
  | [] => tNil
  | x :: c => tCons (tC (.str x)) (tStrs c)
theorem tStrs_is : ∀ (c : List Str) (σ : L2.St) (H : Hp) (Q : List V → Hp → Prop), Q (c.map V.str) H → tStrs c σ H Q
  | [], σ, H, Q, h => h
  | x :: c, σ, H, Q, h => by
    show tStrs c σ H fun xs H2 => Q (.str x :: xs) H2
    exact tStrs_is c σ H _ h
theorem atI_at {xs : List V} {n : Int} (h0 : 0 ≤ n) (h1 : n < xs.length) : ∃ (j : Nat) (v : V), n = j ∧ xs[j]? = some v ∧ atI xs n = some v := by
  obtain ⟨j, rfl⟩ := Int.eq_ofNat_of_zero_le h0
  have hj : j < xs.length := by omega
  exact ⟨j, xs[j], rfl, List.getElem?_eq_getElem hj, atI_nat (List.getElem?_eq_getElem hj)⟩
/-- a text out of a list of texts, by a draw by the draws in slot i -/
def tPick (c : List Str) (i : Nat) : TE := fun σ H Q => ∃ a l, σ[i]? = some (some (.ref a)) ∧ Dr H a l ∧ ∀ x, x ∈ c → ∀ H', Dr H' a l → (∀ b o, b ≠ a → H b = some o → H' b = some o) → Q (.str x) H'
theorem pick_of {K : PySem.W.Frag} (c : List Str) (i : Nat) (k : Int) (hk : k = c.length) (h0 : 0 < k) (h1 : c.length < 100) (σ : L2.St) (H : Hp) (Q : VK) (h : tPick c i σ H Q) :
    tOp (rIxL K) (tLst (tStrs c)) (tCall spDraw [] E0 (tCons (tVar i) (tCons (tC (.int k)) tNil))) σ H Q := by
  obtain ⟨a, l, e, D, q⟩ := h
  obtain ⟨xs, hxs⟩ := D.at
  obtain ⟨ys, hys⟩ := D.inn
  refine tStrs_is c σ H _ ⟨by rw [List.length_map]; exact Nat.le_trans (Nat.le_of_lt h1) (by decide), fun p hp => ⟨_, e, a, l, k, rfl, ?_, h0, by omega, ?_⟩⟩
  · exact D.keep fun b o hb => by
      rw [upd_ne (fun z => by rw [z, hp] at hb; cases hb)]; exact hb
  · intro n H' n0 n1 D' kp
    have hpa : p ≠ a := fun z => by rw [z, hxs] at hp; cases hp
    have hl : (c.map V.str).length = c.length := List.length_map _
    obtain ⟨j, v, rfl, hj, ha⟩ := atI_at (xs := c.map V.str) n0 (by rw [hl]; omega)
    have hp' : H' p = some (.lst (c.map V.str)) := by rw [kp p hpa]; exact upd_same
    refine ⟨p, _, _, v, rfl, rfl, SqL.of hp', ha, ?_⟩
    rw [List.getElem?_map] at hj
    cases hx : c[j]? with
    | none => rw [hx] at hj; cases hj
    | some x =>
      rw [hx] at hj
      cases hj
      refine q x (List.mem_of_getElem? hx) H' D' fun b o hb ho => ?_
      rw [kp b hb, upd_ne (fun z => by rw [z, hp] at ho; cases ho)]
      exact ho
section
variable {fa : List He.Fa} {fn : List He.DefD} {ts : List He.Tab} {ex : PySem.W.Frag → Bool} {w : World} {K : PySem.W.Frag} {mg : Str → Option Value} {P : Program} {base : Heap}
/-- a def of the module that may raise -/
theorem Tops.fatX (Z : Tops fa fn ts ex w K mg) (i j : Nat) {x : Str} {st : Stmt} {ps : List Str} {sp : Sp} {k : Nat} (hd : fn[i]? = some ⟨(x, none), x, x, defArgs st, defBody st, defScope st, [], []⟩) (hf : fa[j]? = some (.glo x))
    (hb : ∀ (kV doc pm : Value) (an : Option Addr) (cdv ct : Value) (us : List Value), us.length = ps.length → bindArgs (PySem.W.fnOf x x (defArgs st) (defBody st) (defScope st) .none kV doc pm an cdv ct) ⟨us, []⟩ = pure (ps.zip us))
    (ok : ∀ (f : Addr) (fd : FuncData), FnP K x x st f fd → FnOk P w K mg base (L2.CX P w) k f fd ps sp) : FnAtX P w K mg base k x ps sp := by
  obtain ⟨fd, F⟩ := Z.d.def_ i hd
  exact ⟨_, fd, Z.glo j hf, F.kp, FunD.bindsN (ps := ps) F hb, ok _ fd F⟩
end
/-- a rule of a list's five -/
def spMkX (K : PySem.W.Frag) : Sp := fun vs H Q E => ∃ l us ts Hi, vs = [.ref l] ∧ SqL K H l us ∧ us.length = 5 ∧ Same Hi H ∧ Reps K Hi ts us ∧ ts.all plainT = true ∧
  (firstBad partNames ts choices = none → ∀ (x dx : Addr) (H' : Hp), H x = none → H' x = some (.ins (cl K 0) dx ((flds 0).zip us)) → Same H H' → Q (.ref x) H') ∧
  (∀ n, firstBad partNames ts choices = some n → ∀ (d : Addr) (H' : Hp), H d = none → H' d = some (.xd [("part", .str n)]) → Same H H' → E (.ref (He.ga K "BadRule")) (some d) H')
end PL


set_option Elab.async false
set_option linter.all false
set_option maxRecDepth 100000
set_option maxHeartbeats 4000000
/-! a rule out of a list, within trees -/
namespace PL
open PySem PySem.Spec PyProof.Rows L2
theorem Reps.set {K : PySem.W.Frag} {H : Hp} : ∀ {ts : List T} {vs : List V} {i : Nat} {t : T} {v : V}, Reps K H ts vs → Rep K H t v → Reps K H (ts.set i t) (vs.set i v)
  | [], vs, i, t, v, h, hr => by rw [h.inv0]; exact Reps.nil
  | t :: ts, vs, 0, t', v', h, hr => by
    obtain ⟨v, r, rfl, h2, h3⟩ := h.inv
    exact Reps.cons hr h3
  | t :: ts, vs, i + 1, t', v', h, hr => by
    obtain ⟨v, r, rfl, h2, h3⟩ := h.inv
    exact Reps.cons h2 (h3.set hr)
theorem Reps.strs {K : PySem.W.Frag} {H : Hp} : ∀ (c : List Str), Reps K H (c.map T.str) (c.map V.str)
  | [] => Reps.nil
  | x :: c => Reps.cons (by unfold Rep; rfl) (Reps.strs c)
def eMkX (f : En → Option T) : En → Option T := fun env => match f env with
  | some (.lst ts) => if ts.length = 5 ∧ ts.all plainT = true ∧ firstBad partNames ts choices = none then some (.obj 0 ts) else none
  | _ => none
theorem Grow.ins {Hi H H2 : Hp} {x : Addr} {o : HO} (e : Same Hi H) (nx : H x = none) (hx : H2 x = some o) (k : Same H H2) : Grow Hi H (upd Hi x o) H2 := by
  refine ⟨fun b o q => ?_, k, fun b o q => ?_, fun b h1 h2 => ?_⟩
  · rw [upd_ne (ne_of_none q (e.free nx))]; exact q
  · by_cases z : b = x
    · subst z; rw [upd_same] at q; rw [hx]; exact q
    · rw [upd_ne z] at q
      exact k b o (e b o q)
  · by_cases z : b = x
    · subst z; exact nx
    · rw [upd_ne z] at h2; exact absurd h1 h2
section
variable {X : Cx} {K : PySem.W.Frag}
theorem tf_isN {a : Expr} {ta : TE} {f : En → Option T} {pos npos : Pos} {j} (h : EF X a ta f) : TF X (.Compare a [.Is] [.Constant .none j npos] pos) (tB (tIsN ta)) (bOf (eIsN false f)) :=
  ⟨pt_cmp (pc_isN h.p), ev_b (ef_isN (pos := pos) (npos := npos) (j := j) h).q⟩
theorem tf_notN {a : Expr} {ta : TE} {f : En → Option T} {pos npos : Pos} {j} (h : EF X a ta f) : TF X (.Compare a [.IsNot] [.Constant .none j npos] pos) (tB (tNotN ta)) (bOf (eIsN true f)) :=
  ⟨pt_cmp (pc_notN h.p), ev_b (ef_notN (pos := pos) (npos := npos) (j := j) h).q⟩
theorem tf_eqI {c n : Nat} {ps : List Str} {F : List T → Option T} {a b : Expr} {ta tb : TE} {f g : En → Option T} {pos : Pos} (G : MtAt X.prog X.w K X.mg X.base n c "__eq__" ps (spP K 2 F)) (hr : Room n X.A) (h1 : EF X a ta f) (h2 : EF X b tb g) (hK : X.K = K := by rfl) :
    TF X (.Compare a [.Eq] [b] pos) (tTest (tOp (rEqI (cl K c) (spP K 2 F)) ta tb)) (bOf (e2 (oEqI c F) f g)) := by
  subst hK
  obtain ⟨f', fd, q1, q2, q3⟩ := G.ex
  exact tf_cmp (op_eqI q3 q1 q2 hr) ok_eqI h1 h2 (nomark _)
theorem pe_atXS {x : Str} {e : Expr} {es : List Expr} {k : Nat} {ps : List Str} {sp : Sp} {ta : TA} {W : WX} {p pos : Pos} (G : FnAtX X.prog X.w X.K X.mg X.base k x ps sp) (hr : Room k X.A) (tk : Takes X W) (h : PA X (e :: es) ta)
    (hg : Gl X x := by rfl) (hdb : (x == ("__debug__" : Str)) = false := by decide) (he : starEach (e :: es) X.env = (false, eval e X.env) :: starEach es X.env := by rfl) (hpl : (backTo pos (starEach es X.env)).any (·.1) = false := by rfl) :
    PE X (.Call (.Name x p) (e :: es) [] pos) (tCallS sp (WE W) ta) := by
  obtain ⟨f, fd, h1, h2, h3, h4⟩ := G.ex
  exact pe_callS h4 hr hg h1 h2 h3 (fun σ => passAt tk σ) h hdb he hpl
theorem ef_mkX {x : Str} {e : Expr} {k : Nat} {ps : List Str} {te : TE} {f : En → Option T} {E : XK} {p pos : Pos} (G : FnAtX X.prog X.w X.K X.mg X.base k x ps (spMkX K)) (hr : Room k X.A) (hx : Passes (L2.CX X.prog X.w) X E) (h : EF X e te f)
    (hg : Gl X x := by rfl) (hdb : (x == ("__debug__" : Str)) = false := by decide) (he : starEach [e] X.env = (false, eval e X.env) :: starEach [] X.env := by rfl) (hpl : (backTo pos (starEach [] X.env)).any (·.1) = false := by rfl) (hK : X.K = K := by rfl) :
    EF X (.Call (.Name x p) [e] [] pos) (tCall (spMkX K) [] E (tCons te tNil)) (eMkX f) := by
  subst hK
  refine ⟨pe_atX G hr hx (pa_cons h.p pa_nil he) hg hdb he hpl, fun H0 Hi H σ env t Q r q k => ?_⟩
  unfold eMkX at q
  split at q
  · rename_i ts e1
    by_cases hc : ts.length = 5 ∧ ts.all plainT = true ∧ firstBad partNames ts choices = none
    case neg => rw [if_neg hc] at q; cases q
    rw [if_pos hc] at q
    cases Option.some.inj q
    obtain ⟨h5, hp, hb⟩ := hc
    refine h.q H0 Hi H σ env _ _ r e1 fun v Hi1 H1 g1 rv => ?_
    unfold Rep at rv
    obtain ⟨a, vs, rfl, ha, rvs⟩ := rv
    refine ⟨a, vs, ts, Hi1, rfl, SqL.of (g1.c _ _ ha), by rw [rvs.len, h5], g1.c, rvs, hp, fun _ x dx H2 nx hx2 k2 => ?_, fun n hn => by rw [hb] at hn; cases hn⟩
    refine k _ (upd Hi1 x (.ins (cl X.K 0) dx ((flds 0).zip vs))) H2 (g1.trans (Grow.ins g1.c nx hx2 k2)) ?_
    unfold Rep
    exact ⟨x, dx, vs, rfl, upd_same, by rw [rvs.len, h5]; rfl, rvs.mono fun b o q => by rw [upd_ne (ne_of_none q (g1.c.free nx))]; exact q⟩
  · cases q
end
end PL


set_option Elab.async false
set_option linter.all false
set_option maxRecDepth 100000
set_option maxHeartbeats 4000000
/-! a caught error given to a def; own errors by their classes -/
namespace PL
open PySem PySem.Spec PyProof.Rows L2
open L2H (PinOk RoomH cxH inv_startH roomH_of)
/-- what an own error class without anything of its own says -/
def oex0B (K : PySem.W.Frag) (x : Str) : Bool := PySem.W.excIn K (He.ga K x) [.type "ValueError", .type "Exception", .type "BaseException", .type "object"] "ValueError.__new__" && (PySem.W.keepIn K (.ref (He.ga K x)) &&
  (decide (PySem.W.subIn K (.ref (He.ga K x)) (.type "BaseException") = some true) && decide (PySem.W.typeIn K (.ref (He.ga K x)) = some (.type "type"))))
structure Oex0 (K : PySem.W.Frag) (x : Str) : Prop where
  q : PySem.W.excIn K (He.ga K x) [.type "ValueError", .type "Exception", .type "BaseException", .type "object"] "ValueError.__new__" = true
  kp : PySem.W.keepIn K (.ref (He.ga K x)) = true
  s : PySem.W.subIn K (.ref (He.ga K x)) (.type "BaseException") = some true
  t : PySem.W.typeIn K (.ref (He.ga K x)) = some (.type "type")
theorem oex0_ok {K : PySem.W.Frag} {x : Str} (h : oex0B K x = true) : Oex0 K x := by
  obtain ⟨h1, h2⟩ := He.ba h
  obtain ⟨h3, h4⟩ := He.ba h2
  obtain ⟨h5, h6⟩ := He.ba h4
  exact ⟨h1, h3, of_decide_eq_true h5, of_decide_eq_true h6⟩
/-- raise X() -/
theorem ps_raise0 {X : Cx} {W : WX} {x : Str} {p pos pos2 : Pos} (hc : X.calm = true) (tk : Takes X W) (O : Oex0 X.K x) (hm : X.mg x = some (.ref (He.ga X.K x))) (hg : Gl X x := by rfl) (hdb : (x == ("__debug__" : Str)) = false := by decide) :
    PS X (.Raise (some (.Call (.Name x p) [] [] pos)) none pos2) (fun _ σ H => W (.ref (He.ga X.K x)) none σ H) :=
  ps_raise hc tk (pmk_ownE PySem.F.excBase_ValueError O.q hm O.kp (raises_own O.s O.t) hg hdb)
/-- what an own error class must say, that isinstance asks its instances rightly -/
def exkB (K : PySem.W.Frag) (D : Addr) : Bool := (PySem.W.clsIn K D).isSome && (decide (PySem.W.findIn K (.ref D) "__getattribute__" = some (some (.builtin "BaseException.__getattribute__"))) && (decide (PySem.W.findIn K (.ref D) "__getattr__" = some none) &&
  (decide (PySem.W.subIn K (.ref D) (.type "BaseException") = some true) && (decide (PySem.W.findIn K (.ref D) "__class__" = some (some (.builtin "object.__class__"))) && (decide (PySem.W.specialIn K (.builtin "object.__class__") "__get__" = some (some (.builtin "getset_descriptor.__get__"))) &&
  (decide (PySem.W.takesIn K (.builtin "object.__class__") = some true) && decide (PySem.W.mroIn K D (.type "object") = some true)))))))
theorem exk_kit {K : PySem.W.Frag} {x D : Addr} {ox : Obj} {od : Option Obj} (h : exkB K D = true) : PySem.W.KitX K (.ref x) (.ref D) (fun h => PySem.W.InstAt h x ox D od) := by
  obtain ⟨h1, h⟩ := He.ba h
  obtain ⟨h2, h⟩ := He.ba h
  obtain ⟨h3, h⟩ := He.ba h
  obtain ⟨h4, h⟩ := He.ba h
  obtain ⟨h5, h⟩ := He.ba h
  obtain ⟨h6, h⟩ := He.ba h
  obtain ⟨h7, h8⟩ := He.ba h
  exact PySem.W.kitx_exc h1 (of_decide_eq_true h2) (of_decide_eq_true h3) (of_decide_eq_true h4) (of_decide_eq_true h5) (of_decide_eq_true h6) (of_decide_eq_true h7) (of_decide_eq_true h8)
def DictOk (d : Option Addr) (H : Hp) : Prop := match d with
  | none => True
  | some dd => ∃ fs, H dd = some (.xd fs)
theorem DictOk.keep {d : Option Addr} {H H' : Hp} (h : DictOk d H) (k : Same H H') : DictOk d H' := by
  unfold DictOk at h ⊢
  cases d with
  | none => trivial
  | some dd =>
    obtain ⟨fs, h⟩ := h
    exact ⟨fs, k _ _ h⟩
def rIsB (K : PySem.W.Frag) (D a : Addr) (d : Option Addr) : List V → Hp → VK → Prop := fun xs H Q => ∃ (c : V) (cv : Value) (b : Bool), xs = [.ref a, c] ∧ (∀ u, RelV c u → u = cv) ∧ PySem.W.kitOne K (.ref D) cv = some b ∧ DictOk d H ∧ Q (.bl b) H
theorem call_isB {X : Cx} {a D : Addr} {oe : Obj} {d : Option Addr} (C : exkB X.K D = true) (hp : (a, oe) ∈ X.pn) (hz : Zc (.ref D) d oe) (hf : ∃ vs, oe.data = .fields vs) : CallR X (.builtin "isinstance") (rIsB X.K D a d) := by
  intro pins s σ H xs us Q I r h
  obtain ⟨c, cv, b, rfl, hcv, e, hd, q⟩ := h
  cases r with
  | cons rx rr =>
    cases rr with
    | cons rt rr =>
      cases rr
      cases rx
      have ec := hcv _ rt
      subst ec
      have hget' : s.heap.get? a = some oe := (I.pin (a, oe) (List.mem_append_left _ hp)).1
      obtain ⟨vs, hv⟩ := hf
      obtain ⟨oc, od, oda, osl⟩ := oe
      obtain ⟨h1, h2⟩ := hz
      dsimp only at h1 h2 hv
      subst h1 h2 hv
      have fin : ∀ od', PySem.W.InstAt s.heap a ⟨.ref D, od, .fields vs, osl⟩ D od' → wpAny (model X.prog X.w) X.A (call (.builtin "isinstance") [.ref a, _]) (EP X pins σ Q) X.xe s := fun od' J =>
        PySem.W.kia_one (exk_kit C) I.kIn J e (fun z => nomatch z) fun tk => ⟨.bl b, H, I.kept (t' := tk) fun _ _ z => z, rfl, q⟩
      cases od with
      | none => exact fin none ⟨hget', rfl, rfl, trivial⟩
      | some dd =>
        obtain ⟨fs, hdd⟩ := hd
        obtain ⟨mA, ⟨o, es, ep, ho, _⟩, _⟩ := (show ObjOk X.prog X.w H s.heap dd (.xd fs) from I.hok dd _ hdd)
        exact fin (some o) ⟨hget', rfl, rfl, ho⟩
/-- a def that is entered with such an error at a -/
structure FnOkE (P : Program) (w : World) (K : PySem.W.Frag) (mg : Str → Option Value) (base : Heap) (k : Nat) (f : Addr) (fd : FuncData) (ps : List Str) (a : Addr) (oe : Obj) (sp : Sp) : Prop where
  len : ∀ vs H Q E, sp vs H Q E → vs.length = ps.length
  run : ∀ (A : Around) (outer : List Env) (s : Shared) (H : Hp) (us : List Value) (vs : List V) (Q : VK), RoomH k A → Env0 P w K mg base A outer s H → PinOk outer H s (a, oe) → BindsTo s fd ⟨us, []⟩ (ps.zip us) → Vals vs us → sp vs H Q E0 →
    codeAny (model P w) A (.call (.ref f) ⟨us, []⟩) (CR CX0 outer P w H s Q E0) s
theorem fn_okE {P : Program} {w : World} {K : PySem.W.Frag} {mg : Str → Option Value} {base : Heap} {x q : Str} {st : Stmt} {f : Addr} {fd : FuncData} {N ps : List Str} {k : Nat} {a : Addr} {oe : Obj} {sp : Sp} (F : FnP K x q st f fd) (S : FnScope N ps (defScope st)) (len : ∀ vs H Q E, sp vs H Q E → vs.length = ps.length)
    (body : ∀ (cdv : Value) (A : Around) (outer : List Env) (s : Shared) (H : Hp) (vs : List V) (Q : VK), RoomH k (A.deeper (envOfC q (defScope st) s.heap.objs.size f cdv)) → sp vs H Q E0 →
      ∃ t, PSs (cxH CX0 P w K mg base N q (defScope st) f cdv A outer s H E0 (a, oe)) (defBody st) t ∧ t { nx := fun _ H' => Q .non H', rt := Q } (L2.start N vs) H) : FnOkE P w K mg base (k + 1) f fd ps a oe sp := by
  obtain ⟨oc, od, dV, kV, doc, pm, an, cdv, ct, osl, rfl, lk, hcd, _, _⟩ := F.ex
  refine ⟨len, fun A outer s0 H us vs Q room en pin bi vals prom => ?_⟩
  have inK : K.In s0.heap := en.mod.kin.keeps fun b o z => (en.bs b o z).1
  have noLim : s0.heap.NoLimit := en.mod.nolimit.keeps fun b o z => (en.bs b o z).1
  have kinds : ∀ y ∈ ps.zip us, (defScope st).names.lookup y.1 = some .local ∨ ((defScope st).names.lookup y.1 = some .cell ∧ ((cellsFrom (s0.heap.objs.size + 1) (defScope st).names []).lookup y.1).isSome = true) := by
    rintro ⟨n, v⟩ hy
    exact (S.par n (List.of_mem_zip hy).1).imp id fun z => ⟨z, PySem.W.cellsFrom_some _ _ _ (.inl z)⟩
  refine codeAny_call_function room.depth (inK _ _ lk) rfl S.co S.gen rfl (PySem.W.codeRec_of inK hcd) (bi _ _ _ _ (wpAny_newFunctionEnv_cells S.kind kinds fun env he s1 y => ?_))
  subst he
  refine ⟨noLim.keeps y.toInCall.keep, codeAny_func ?_⟩
  obtain ⟨t, pt, pq⟩ := body cdv A outer s0 H vs Q (room.deeper _) prom
  have J0 : Inv (cxH CX0 P w K mg base N q (defScope st) f cdv A outer s0 H E0 (a, oe)) [] (L2.start N vs) H s1 := inv_startH S pin en (len _ _ _ _ prom) vals y
  refine wpAny_mono (pt.run [] s1 (L2.start N vs) H _ J0 pq) (fun r s2 hr => ?_) fun _ _ z => z
  have done : ∀ {σ' : L2.St} {H' : Hp} {v : V} {u : Value}, Inv (cxH CX0 P w K mg base N q (defScope st) f cdv A outer s0 H E0 (a, oe)) [] σ' H' s2 → RelV v u → Q v H' → CE outer P w H s0 Q u s2 := fun J rv z => ⟨_, _, J.os, J.bare, J.base, J.hok, rv, z⟩
  cases r with
  | ret u =>
    obtain ⟨v, σ2, H2, J, rv, z⟩ := hr
    exact done J rv z
  | next =>
    obtain ⟨σ2, H2, J, z⟩ := hr
    exact done (v := V.non) (u := Value.none) J rfl z
  | brk =>
    obtain ⟨_, _, _, z⟩ := hr
    exact z.elim
  | cont =>
    obtain ⟨_, _, _, z⟩ := hr
    exact z.elim
/-- f(e) in the suite that holds it -/
theorem pe_callErr {X : Cx} {a : Addr} {oe : Obj} {pn : List (Addr × Obj)} {k : Nat} {f : Addr} {fd : FuncData} {ps : List Str} {sp : Sp} {x : Str} {e : Expr} {ta : TA} {p pos : Pos} 
    (F : FnOkE X.prog X.w X.K X.mg X.base k f fd ps a oe sp) (hr : RoomH k (X.suite a ((a, oe) :: pn)).A) (hm : X.mg x = some (.ref f)) (hk : PySem.W.keepIn X.K (.ref f) = true) (hb : Binds X.K fd ps []) (ha : PA (X.suite a ((a, oe) :: pn)) [e] ta) (hg : Gl X x := by rfl) (hdb : (x == ("__debug__" : Str)) = false := by decide)
    (he : starEach [e] X.env = (false, eval e X.env) :: starEach [] X.env := by rfl) (hpl : (backTo pos (starEach [] X.env)).any (·.1) = false := by rfl) :
    PE (X.suite a ((a, oe) :: pn)) (.Call (.Name x p) [e] [] pos) (tCall sp [] E0 ta) := by
  refine ⟨fun pins s σ H Q I h => ?_⟩
  refine wpAny_Call_Name_kw (ld_glob (X := X.suite a ((a, oe) :: pn)) I hg hm ?_ hdb)
  refine PySem.W.callWith_K (h₀ := X.base) I.ok.mod.kin hk (thn (ha.run pos pins s σ H _ I h) fun us s1 ⟨vs, H1, I1, r, q⟩ => ⟨I1.kIn, ?_⟩) he hpl
  replace q : sp (vs ++ []) H1 Q E0 := q
  rw [List.append_nil] at q
  have hl : us.length = ps.length := by rw [← r.length]; exact F.len _ _ _ _ q
  have bb := hb s1 us I1.kIn (by rw [List.append_nil]; exact hl)
  rw [List.append_nil] at bb
  obtain ⟨p1, p2, p3, p4, p5⟩ := I1.pin (a, oe) (List.mem_append.mpr (.inl List.mem_cons_self))
  have er : PinOk X.stack H1 s1 (a, oe) := ⟨p1, p2, fun z => (List.mem_cons.mp (I1.stkSub a z)).elim p3 p4, p5⟩
  refine wpAny_call (codeAny_mono (F.run _ X.stack s1 H1 us vs Q hr I1.env0 er bb r q) fun r s' hq => ?_)
  cases r with
  | error e => exact hq.elim
  | ok fl =>
    cases fl with
    | ret u => exact I1.after hq
    | next => exact hq.elim
    | brk => exact hq.elim
    | cont => exact hq.elim
end PL


set_option Elab.async false
set_option linter.all false
set_option maxRecDepth 100000
set_option maxHeartbeats 4000000
/-! isinstance by two built-in classes -/
namespace PL
open PySem PySem.Spec PyProof.Rows L2
theorem Grow.lay {Hi H : Hp} {p : Addr} {o : HO} (e : Same Hi H) (h : H p = none) : Grow Hi H Hi (upd H p o) :=
  ⟨Same.refl _, fun b u q => by rw [upd_ne (ne_of_none q h)]; exact q, fun b u q => by rw [upd_ne (ne_of_none (e b u q) h)]; exact e b u q, fun b h1 h2 => absurd h1 h2⟩
def isT2 (m n : String) (t : T) : Option Bool := match isT m t with
  | some true => some true
  | some false => isT n t
  | none => none
def eIsi2 (m n : String) (f : En → Option T) : En → Option T := fun env => match f env with
  | some t => (match isT2 m n t with
    | some b => some (.bl b)
    | none => none)
  | none => none
theorem tyT_of2 {K : PySem.W.Frag} {H : Hp} {t : T} {v : V} {m n : String} {b : Bool} (r : Rep K H t v) (e : isT2 m n t = some b) : ∃ u, TyX K H v u ∧ PySem.W.kitAny K u [.type m, .type n] = some b := by
  have key : ∀ {u : Value} {s : String}, TyX K H v u → (∀ n b, isT n t = some b → PySem.W.kitOne K u (.type n) = some b) → ∃ u, TyX K H v u ∧ PySem.W.kitAny K u [.type m, .type n] = some b := fun {u s} h k => by
    refine ⟨u, h, ?_⟩
    unfold isT2 at e
    unfold PySem.W.kitAny
    cases q : isT m t with
    | none => rw [q] at e; cases e
    | some c =>
      rw [q] at e
      rw [k m c q]
      cases c with
      | true => exact e
      | false =>
        show PySem.W.kitAny K u [.type n] = some b
        have e' : isT n t = some b := e
        unfold PySem.W.kitAny
        rw [k n b e']
        cases b <;> rfl
  cases t with
  | non => unfold Rep at r; subst r; exact key (s := "") (.base .non) fun n b z => kit_ty z
  | bl x => unfold Rep at r; subst r; exact key (s := "") (.base (.bl _)) fun n b z => kit_ty z
  | int x => unfold Rep at r; subst r; exact key (s := "") (.base (.int _)) fun n b z => kit_ty z
  | str x => unfold Rep at r; subst r; exact key (s := "") (.base (.str _)) fun n b z => kit_ty z
  | lst ts => unfold Rep at r; obtain ⟨a, vs, rfl, h2, _⟩ := r; exact key (s := "") (.base (.lst h2)) fun n b z => kit_ty z
  | tup ts =>
    unfold Rep at r
    obtain ⟨a, vs, rfl, h2, _⟩ := r
    rcases h2 with (h2 | ⟨o, h2⟩) | ⟨o, its, m', h2, h3, _⟩
    · exact key (s := "") (.base (.tup h2)) fun n b z => kit_ty z
    · exact key (s := "") (.fTuple h2) fun n b z => kit_ty z
    · exact key (s := "") (.kTuple h2 h3) fun n b z => kit_ty z
  | obj c ts => cases e
section
variable {X : Cx} {K : PySem.W.Frag}
theorem ef_isi2 {e : Expr} {y z : Str} {m n : String} {te : TE} {f : En → Option T} {p p2 p3 tp pos : Pos} {cx} (hm : X.mg "isinstance" = none) (hy : X.mg y = none) (hz : X.mg z = none) (hv : bootBuiltins y = some (.type m)) (hw : bootBuiltins z = some (.type n)) (h : EF X e te f) (hg : Gl X "isinstance" := by rfl) (hgy : Gl X y := by rfl) (hgz : Gl X z := by rfl)
    (hny : y ≠ "__name__" := by decide) (hdy : (y == ("__debug__" : Str)) = false := by decide) (hnz : z ≠ "__name__" := by decide) (hdz : (z == ("__debug__" : Str)) = false := by decide)
    (h1 : starEach [.Name y p2, .Name z p3] X.env = (false, eval (.Name y p2) X.env) :: starEach [.Name z p3] X.env := by rfl) (h2 : starEach [.Name z p3] X.env = (false, eval (.Name z p3) X.env) :: starEach [] X.env := by rfl)
    (he : starEach [e, .Tuple [.Name y p2, .Name z p3] cx tp] X.env = (false, eval e X.env) :: starEach [.Tuple [.Name y p2, .Name z p3] cx tp] X.env := by rfl) (he2 : starEach [.Tuple [.Name y p2, .Name z p3] cx tp] X.env = (false, eval (.Tuple [.Name y p2, .Name z p3] cx tp) X.env) :: starEach [] X.env := by rfl) (hpl : (backTo pos (starEach [.Tuple [.Name y p2, .Name z p3] cx tp] X.env)).any (·.1) = false := by rfl) (hK : X.K = K := by rfl) :
    EF X (.Call (.Name "isinstance" p) [e, .Tuple [.Name y p2, .Name z p3] cx tp] [] pos) (tCB (rIsiT K) (tCons te (tCons (tTup (tCons (tC (.ty m)) (tCons (tC (.ty n)) tNil))) tNil))) (eIsi2 m n f) := by
  subst hK
  exact ⟨pe_callB call_isiT hg hm (by decide +kernel) (pa_cons h.p (pa_cons (pe_tup (pa_cons (pe_bltn hgy hy hv (v := .ty m) rfl hny hdy) (pa_cons (pe_bltn hgz hz hw (v := .ty n) rfl hnz hdz) pa_nil h2) h1)) pa_nil he2) he) (by decide) (by decide) he hpl, fun H0 Hi H σ env t Q r e1 k => by
  unfold eIsi2 at e1
  split at e1
  · rename_i u e2
    split at e1
    · rename_i b e3
      cases Option.some.inj e1
      refine h.q H0 Hi H σ env u _ r e2 fun v Hi1 H1 g1 rv => ⟨(show 2 ≤ sizeLine by decide), fun tp htp => ?_⟩
      have gg : Grow Hi1 H1 Hi1 (upd H1 tp (.tup [.ty m, .ty n])) := Grow.lay g1.c htp
      obtain ⟨w, h1, h2⟩ := tyT_of2 (rv.mono (g1.c.trans gg.b)) e3
      exact ⟨v, tp, [.ty m, .ty n], w, [.type m, .type n], b, rfl, upd_same, .cons (.ty m) (.cons (.ty n) .nil), h1, h2, k _ _ _ (g1.trans gg) (by unfold Rep; rfl)⟩
    · cases e1
  · cases e1⟩
end
end PL


set_option Elab.async false
set_option linter.all false
set_option maxRecDepth 100000
set_option maxHeartbeats 8000000
namespace My
open PySem PySem.Spec PyProof.Rows L2 PL
open L2H (cxH roomH_of)
def tabs : List He.Tab := []
def nmE : List Str := ["BadDeed", "BadWords", "BadFault", "NothingToUndo", "BadRule", "BadLine"]
def kindsB (K : PySem.W.Frag) : Bool := nmE.all fun D => exkB K (He.ga K D) && (decide (PySem.W.exmOne K (.ref (He.ga K D)) (.ref (He.ga K "HearError")) = some true) && (decide (PySem.W.kitOne K (.ref (He.ga K D)) (.type "ValueError") = some true) && nmE.all fun C => decide (PySem.W.kitOne K (.ref (He.ga K D)) (.ref (He.ga K C)) = some (D == C))))
def top (i : Nat) : Stmt := PySem.Challenge.pw_hearsofit_k13_errors_are_apart.main.body.getD i (.Pass ⟨0, 0, 0, 0⟩)
def k_PARTS : T := (.tup [(.str "looked"), (.str "muting"), (.str "joining"), (.str "copying"), (.str "ways")])
def k_CHOICES : T := (.tup [(.tup [(.str "told"), (.str "read"), (.str "both")]), (.tup [(.str "all"), (.str "follows")]), (.tup [(.str "carry"), (.str "drop")]), (.tup [(.str "carry"), (.str "drop")]), (.tup [(.str "once"), (.str "each")])])
def k_WORDS : T := (.tup [(.str "write"), (.str "name"), (.str "follow"), (.str "leave"), (.str "mute"), (.str "unmute"), (.str "hide"), (.str "show"), (.str "let"), (.str "shut"), (.str "put"), (.str "take"), (.str "merge"), (.str "copy"), (.str "drop"), (.str "make"), (.str "read")])
def k_FAULTS : T := (.tup [(.str "missed"), (.str "again"), (.str "unasked"), (.str "leak"), (.str "ghost"), (.str "behind")])
def k_SINGLE : T := (.tup [(.str "let"), (.str "shut"), (.str "read")])
def k_TRIPLE : T := (.tup [(.str "follow"), (.str "leave")])
def k_GONE : T := (.int 2)
def k_FIGURES : T := (.tup [(.str "0"), (.str "1"), (.str "2")])
def fa0 : List He.Fa := [.mkr "Rule", .glo "Rule", .cls "Rule", .free "isinstance", .free "str", .free "zip", .noat "Rule" "looked", .noat "Rule" "muting", .noat "Rule" "joining", .noat "Rule" "copying", .noat "Rule" "ways", .glo "BadRule", .mkr "Thing", .glo "Thing", .cls "Thing", .noat "Thing" "here", .noat "Thing" "secret", .noat "Thing" "grouped", .noat "Thing" "followed", .noat "Thing" "wished", .noat "Thing" "muted", .mkr "World", .glo "World", .cls "World", .noat "World" "things", .noat "World" "tracks", .noat "World" "inside", .noat "World" "tellings", .noat "World" "written", .glo "nothing", .glo "plain", .glo "first_world", .glo "numbers_for", .free "tuple", .free "len", .free "int", .free "bool", .glo "is_deed", .free "list", .glo "_law_begin"]
def fa1 : List He.Fa := [.glo "_law_draw", .glo "check_words", .glo "check_fault", .glo "faults_of", .glo "least", .glo "rule_of", .glo "read", .glo "_law_raise", .glo "_law_kinds", .glo "law", .glo "Ear", .glo "BadLine", .glo "HearError", .glo "BadDeed", .glo "BadWords", .glo "BadFault", .glo "NothingToUndo", .free "all", .free "range", .free "ValueError", .free "enumerate", .mkr "Ear", .cls "Ear", .meth "Ear" "do", .meth "Ear" "undo", .noat "Ear" "rule", .noat "Ear" "rows", .noat "Ear" "worlds"]
def fa : List He.Fa := fa0 ++ fa1
def fn0 : List He.DefD := [⟨("Rule", some "__init__"), "__init__", "Rule.__init__", defArgs (inClass (top 16) 0), defBody (inClass (top 16) 0), defScope (inClass (top 16) 0), [], []⟩,
  ⟨("BadRule", some "__init__"), "__init__", "BadRule.__init__", defArgs (inClass (top 7) 0), defBody (inClass (top 7) 0), defScope (inClass (top 7) 0), [], []⟩,
  ⟨("BadLine", some "__init__"), "__init__", "BadLine.__init__", defArgs (inClass (top 8) 0), defBody (inClass (top 8) 0), defScope (inClass (top 8) 0), [], []⟩,
  ⟨("Thing", some "__init__"), "__init__", "Thing.__init__", defArgs (inClass (top 21) 0), defBody (inClass (top 21) 0), defScope (inClass (top 21) 0), [], []⟩,
  ⟨("World", some "__init__"), "__init__", "World.__init__", defArgs (inClass (top 22) 0), defBody (inClass (top 22) 0), defScope (inClass (top 22) 0), [], []⟩,
  ⟨("nothing", none), "nothing", "nothing", defArgs (top 23), defBody (top 23), defScope (top 23), [], []⟩,
  ⟨("plain", none), "plain", "plain", defArgs (top 24), defBody (top 24), defScope (top 24), [], []⟩,
  ⟨("first_world", none), "first_world", "first_world", defArgs (top 25), defBody (top 25), defScope (top 25), [], []⟩,
  ⟨("numbers_for", none), "numbers_for", "numbers_for", defArgs (top 17), defBody (top 17), defScope (top 17), [], []⟩,
  ⟨("is_deed", none), "is_deed", "is_deed", defArgs (top 18), defBody (top 18), defScope (top 18), [], []⟩,
  ⟨("_law_begin", none), "_law_begin", "_law_begin", defArgs (top 65), defBody (top 65), defScope (top 65), [], []⟩,
  ⟨("_law_draw", none), "_law_draw", "_law_draw", defArgs (top 66), defBody (top 66), defScope (top 66), [], []⟩,
  ⟨("check_words", none), "check_words", "check_words", defArgs (top 49), defBody (top 49), defScope (top 49), [], []⟩,
  ⟨("check_fault", none), "check_fault", "check_fault", defArgs (top 50), defBody (top 50), defScope (top 50), [], []⟩,
  ⟨("faults_of", none), "faults_of", "faults_of", defArgs (top 55), defBody (top 55), defScope (top 55), [], []⟩,
  ⟨("least", none), "least", "least", defArgs (top 53), defBody (top 53), defScope (top 53), [], []⟩,
  ⟨("rule_of", none), "rule_of", "rule_of", defArgs (top 61), defBody (top 61), defScope (top 61), [], []⟩,
  ⟨("read", none), "read", "read", defArgs (top 63), defBody (top 63), defScope (top 63), [], []⟩,
  ⟨("Ear", some "__init__"), "__init__", "Ear.__init__", defArgs (inClass (top 58) 0), defBody (inClass (top 58) 0), defScope (inClass (top 58) 0), [], []⟩,
  ⟨("Ear", some "do"), "do", "Ear.do", defArgs (inClass (top 58) 1), defBody (inClass (top 58) 1), defScope (inClass (top 58) 1), [], []⟩,
  ⟨("Ear", some "undo"), "undo", "Ear.undo", defArgs (inClass (top 58) 10), defBody (inClass (top 58) 10), defScope (inClass (top 58) 10), [], []⟩,
  ⟨("_law_raise", none), "_law_raise", "_law_raise", defArgs (top 67), defBody (top 67), defScope (top 67), [], []⟩,
  ⟨("_law_kinds", none), "_law_kinds", "_law_kinds", defArgs (top 68), defBody (top 68), defScope (top 68), [], []⟩,
  ⟨("law", none), "law", "law", defArgs (top 69), defBody (top 69), defScope (top 69), [], []⟩]
def fn : List He.DefD := fn0
def ex (K : PySem.W.Frag) : Bool := (constB K "PARTS" k_PARTS && (constB K "CHOICES" k_CHOICES && (constB K "WORDS" k_WORDS && (constB K "FAULTS" k_FAULTS && (constB K "SINGLE" k_SINGLE && (constB K "TRIPLE" k_TRIPLE && (constB K "GONE" k_GONE && (constB K "FIGURES" k_FIGURES && (oexF K "BadRule" "part" && (oexF K "BadLine" "line" && (oex0B K "BadDeed" && (oex0B K "BadWords" && (oex0B K "BadFault" && (oex0B K "NothingToUndo" && (kindsB K && true)))))))))))))))
abbrev Tp (w : World) (K : PySem.W.Frag) (mg : Str → Option Value) : Prop := Tops fa fn tabs ex w K mg
theorem c_PARTS {w : World} {K : PySem.W.Frag} {mg : Str → Option Value} (Z : Tp w K mg) : GlT K mg "PARTS" (gv K "PARTS") k_PARTS := Z.const fun h => (He.ba h).1
theorem c_CHOICES {w : World} {K : PySem.W.Frag} {mg : Str → Option Value} (Z : Tp w K mg) : GlT K mg "CHOICES" (gv K "CHOICES") k_CHOICES := Z.const fun h => (He.ba (He.ba h).2).1
theorem c_WORDS {w : World} {K : PySem.W.Frag} {mg : Str → Option Value} (Z : Tp w K mg) : GlT K mg "WORDS" (gv K "WORDS") k_WORDS := Z.const fun h => (He.ba (He.ba (He.ba h).2).2).1
theorem c_FAULTS {w : World} {K : PySem.W.Frag} {mg : Str → Option Value} (Z : Tp w K mg) : GlT K mg "FAULTS" (gv K "FAULTS") k_FAULTS := Z.const fun h => (He.ba (He.ba (He.ba (He.ba h).2).2).2).1
theorem c_SINGLE {w : World} {K : PySem.W.Frag} {mg : Str → Option Value} (Z : Tp w K mg) : GlT K mg "SINGLE" (gv K "SINGLE") k_SINGLE := Z.const fun h => (He.ba (He.ba (He.ba (He.ba (He.ba h).2).2).2).2).1
theorem c_TRIPLE {w : World} {K : PySem.W.Frag} {mg : Str → Option Value} (Z : Tp w K mg) : GlT K mg "TRIPLE" (gv K "TRIPLE") k_TRIPLE := Z.const fun h => (He.ba (He.ba (He.ba (He.ba (He.ba (He.ba h).2).2).2).2).2).1
theorem c_GONE {w : World} {K : PySem.W.Frag} {mg : Str → Option Value} (Z : Tp w K mg) : GlT K mg "GONE" (gv K "GONE") k_GONE := Z.const fun h => (He.ba (He.ba (He.ba (He.ba (He.ba (He.ba (He.ba h).2).2).2).2).2).2).1
theorem c_FIGURES {w : World} {K : PySem.W.Frag} {mg : Str → Option Value} (Z : Tp w K mg) : GlT K mg "FIGURES" (gv K "FIGURES") k_FIGURES := Z.const fun h => (He.ba (He.ba (He.ba (He.ba (He.ba (He.ba (He.ba (He.ba h).2).2).2).2).2).2).2).1
theorem y_0 {w : World} {K : PySem.W.Frag} {mg : Str → Option Value} (Z : Tp w K mg) : oexF K "BadRule" "part" = true := by
  have h := Z.more
  exact (He.ba (He.ba (He.ba (He.ba (He.ba (He.ba (He.ba (He.ba (He.ba h).2).2).2).2).2).2).2).2).1
theorem y_1 {w : World} {K : PySem.W.Frag} {mg : Str → Option Value} (Z : Tp w K mg) : oexF K "BadLine" "line" = true := by
  have h := Z.more
  exact (He.ba (He.ba (He.ba (He.ba (He.ba (He.ba (He.ba (He.ba (He.ba (He.ba h).2).2).2).2).2).2).2).2).2).1
theorem y_2 {w : World} {K : PySem.W.Frag} {mg : Str → Option Value} (Z : Tp w K mg) : oex0B K "BadDeed" = true := by
  have h := Z.more
  exact (He.ba (He.ba (He.ba (He.ba (He.ba (He.ba (He.ba (He.ba (He.ba (He.ba (He.ba h).2).2).2).2).2).2).2).2).2).2).1
theorem y_3 {w : World} {K : PySem.W.Frag} {mg : Str → Option Value} (Z : Tp w K mg) : oex0B K "BadWords" = true := by
  have h := Z.more
  exact (He.ba (He.ba (He.ba (He.ba (He.ba (He.ba (He.ba (He.ba (He.ba (He.ba (He.ba (He.ba h).2).2).2).2).2).2).2).2).2).2).2).1
theorem y_4 {w : World} {K : PySem.W.Frag} {mg : Str → Option Value} (Z : Tp w K mg) : oex0B K "BadFault" = true := by
  have h := Z.more
  exact (He.ba (He.ba (He.ba (He.ba (He.ba (He.ba (He.ba (He.ba (He.ba (He.ba (He.ba (He.ba (He.ba h).2).2).2).2).2).2).2).2).2).2).2).2).1
theorem y_5 {w : World} {K : PySem.W.Frag} {mg : Str → Option Value} (Z : Tp w K mg) : oex0B K "NothingToUndo" = true := by
  have h := Z.more
  exact (He.ba (He.ba (He.ba (He.ba (He.ba (He.ba (He.ba (He.ba (He.ba (He.ba (He.ba (He.ba (He.ba (He.ba h).2).2).2).2).2).2).2).2).2).2).2).2).2).1
theorem y_6 {w : World} {K : PySem.W.Frag} {mg : Str → Option Value} (Z : Tp w K mg) : kindsB K = true := by
  have h := Z.more
  exact (He.ba (He.ba (He.ba (He.ba (He.ba (He.ba (He.ba (He.ba (He.ba (He.ba (He.ba (He.ba (He.ba (He.ba (He.ba h).2).2).2).2).2).2).2).2).2).2).2).2).2).2).1
section
variable {P : Program} {w : World} {K : PySem.W.Frag} {mg : Str → Option Value} {base : Heap}
abbrev s_RuleI : Stmt := (inClass (top 16) 0)
theorem sc_RuleI : FnScope ["self", "looked", "muting", "joining", "copying", "ways", "part", "value", "some"] ["self", "looked", "muting", "joining", "copying", "ways"] (defScope s_RuleI) := ⟨rfl, rfl, rfl, by decide +kernel, rfl, by decide +kernel, by decide +kernel⟩
abbrev g_RuleI : En → Option R := sForZ3 (aCons (eC k_PARTS) (aCons (eTup (aCons (eVar 1) (aCons (eVar 2) (aCons (eVar 3) (aCons (eVar 4) (aCons (eVar 5) aNil)))))) (aCons (eC k_CHOICES) aNil)))
  (hTup (hCons (fun t env => some (env.set 6 (some (.imm t)))) (hCons (fun t env => some (env.set 7 (some (.imm t)))) (hCons (fun t env => some (env.set 8 (some (.imm t)))) hNil))))
  (sIf (bOr (bNot (bOf (eIsi "str" (eVar 7)))) (bOf (e2 (oIn true) (eVar 7) (eVar 8)))) sNever sNil)
theorem RuleI_runs (x : Addr) {a b c d e : Str} (ha : a ∈ (["told", "read", "both"] : List Str)) (hb : b ∈ (["all", "follows"] : List Str)) (hc : c ∈ (["carry", "drop"] : List Str)) (hd : d ∈ (["carry", "drop"] : List Str)) (he : e ∈ (["once", "each"] : List Str)) :
    ∃ p q r, g_RuleI [some (.raw (.ref x)), some (.imm (.str a)), some (.imm (.str b)), some (.imm (.str c)), some (.imm (.str d)), some (.imm (.str e)), none, none, none] =
      some (.nx [some (.raw (.ref x)), some (.imm (.str a)), some (.imm (.str b)), some (.imm (.str c)), some (.imm (.str d)), some (.imm (.str e)), p, q, r]) := by
  refine ⟨some (.imm (.str "ways")), some (.imm (.str e)), some (.imm (.tup [.str "once", .str "each"])), ?_⟩
  simp only [List.mem_cons, List.not_mem_nil, or_false] at ha hb hc hd he
  rcases ha with rfl | rfl | rfl <;> rcases hb with rfl | rfl <;> rcases hc with rfl | rfl <;> rcases hd with rfl | rfl <;> rcases he with rfl | rfl <;> kernel_rfl
theorem m_Rule (Z : Tp w K mg) : MkAt P w K mg base 1 0 ["self", "looked", "muting", "joining", "copying", "ways"] := Z.kat (q := "Rule.__init__") 0 0 1 rfl rfl rfl (fun _ _ _ _ _ _ us hl => match us, hl with | [_, _, _, _, _, _], _ => rfl) fun f fd F => by
  refine F.ok sc_RuleI (fun vs H Q E h => ?_) (fun cdv A outer s H vs Q E hr h => ?_)
  · obtain ⟨x, dx, us, rfl, hl, _⟩ := h
    show us.length + 1 = 6
    rw [hl] <;> rfl
  · obtain ⟨x, dx, us, rfl, hl, ho, hx, k⟩ := h
    obtain ⟨a, b, c, d, e, rfl, ha, hb, hc, hd, he⟩ := okVs_inv ho
    have hfor : SF (cxOf CX0 P w K mg base ["self", "looked", "muting", "joining", "copying", "ways", "part", "value", "some"] "Rule.__init__" (defScope s_RuleI) f cdv A outer s H E).nox ((defBody s_RuleI).getD 0 (.Pass ⟨0, 0, 0, 0⟩)) _ g_RuleI := sf_forZ3
      PassesOwn.never rfl (Z.free 5 rfl) (af_cons (ef_glob (c_PARTS Z)) (af_cons (ef_tup (af_cons (ef_var 1) (af_cons (ef_var 2) (af_cons (ef_var 3) (af_cons (ef_var 4) (af_cons (ef_var 5) af_nil)))))) (af_cons (ef_glob (c_CHOICES Z)) af_nil)))
      (gf_tup rfl (gsf_cons (gf_name 6 sc_RuleI.nd) (gsf_cons (gf_name 7 sc_RuleI.nd) (gsf_cons (gf_name 8 sc_RuleI.nd) gsf_nil))))
      (ssf_one (sf_if (WF.t (wf_or (tf_not (tf_val (ef_isi (n := "str") (Z.free 3 rfl) (Z.free 4 rfl) (by decide +kernel) (ef_var 7)))) (wf_or1 (tf_cmp op_notIn_seq (ok_in true) (ef_var 7) (ef_var 8) (by rfl))))) ssf_never ssf_nil))
    refine ⟨_, PSs.nox (pss_cons hfor.p (pss_cons (ps_fld (pv 0) (pv 1) rfl) (pss_cons (ps_fld (pv 0) (pv 2) rfl) (pss_cons (ps_fld (pv 0) (pv 3) rfl) (pss_cons (ps_fld (pv 0) (pv 4) rfl) (pss_one (ps_fld (pv 0) (pv 5) rfl))))))), ?_⟩
    obtain ⟨p, q, r, hrun⟩ := RuleI_runs x ha hb hc hd he
    have re : REnv K H (fun _ => none) H (L2.start ["self", "looked", "muting", "joining", "copying", "ways", "part", "value", "some"] [.ref x, .str a, .str b, .str c, .str d, .str e])
        [some (.raw (.ref x)), some (.imm (.str a)), some (.imm (.str b)), some (.imm (.str c)), some (.imm (.str d)), some (.imm (.str e)), none, none, none] := by
      refine REnv.of ⟨rfl, ⟨_, rfl, by unfold Rep; rfl⟩, ⟨_, rfl, by unfold Rep; rfl⟩, ⟨_, rfl, by unfold Rep; rfl⟩, ⟨_, rfl, by unfold Rep; rfl⟩, ⟨_, rfl, by unfold Rep; rfl⟩, trivial⟩ fun _ _ z => by cases z
    refine hfor.q (fun _ => none) H (fun _ => none) H _ _ _ _ (Grow.refl fun _ _ z => by cases z) re hrun ?_
    intro Hi' H' σ' _ gg re'
    have z0 := re'.raw 0 _ rfl
    obtain ⟨_, z1, w1⟩ := re'.imm 1 _ rfl
    obtain ⟨_, z2, w2⟩ := re'.imm 2 _ rfl
    obtain ⟨_, z3, w3⟩ := re'.imm 3 _ rfl
    obtain ⟨_, z4, w4⟩ := re'.imm 4 _ rfl
    obtain ⟨_, z5, w5⟩ := re'.imm 5 _ rfl
    unfold Rep at w1 w2 w3 w4 w5
    subst w1 w2 w3 w4 w5
    have hx' := gg.b _ _ hx
    refine ⟨_, z1, _, z0, x, cl K 0, dx, _, rfl, hx', Z.cls 2 rfl, Z.noat 6 rfl, Nat.lt_of_le_of_lt (Nat.le_refl 0) (by decide), ?_⟩
    refine ⟨_, z2, _, z0, x, cl K 0, dx, _, rfl, upd_same, Z.cls 2 rfl, Z.noat 7 rfl, Nat.lt_of_le_of_lt (putF_len (Nat.le_refl 0)) (by decide), ?_⟩
    refine ⟨_, z3, _, z0, x, cl K 0, dx, _, rfl, upd_same, Z.cls 2 rfl, Z.noat 8 rfl, Nat.lt_of_le_of_lt (putF_len (putF_len (Nat.le_refl 0))) (by decide), ?_⟩
    refine ⟨_, z4, _, z0, x, cl K 0, dx, _, rfl, upd_same, Z.cls 2 rfl, Z.noat 9 rfl, Nat.lt_of_le_of_lt (putF_len (putF_len (putF_len (Nat.le_refl 0)))) (by decide), ?_⟩
    refine ⟨_, z5, _, z0, x, cl K 0, dx, _, rfl, upd_same, Z.cls 2 rfl, Z.noat 10 rfl, Nat.lt_of_le_of_lt (putF_len (putF_len (putF_len (putF_len (Nat.le_refl 0))))) (by decide), ?_⟩
    refine k _ (upd_same.trans (congrArg (fun q => some (HO.ins (cl K 0) dx q)) (put_chain (flds 0) [.str a, .str b, .str c, .str d, .str e] [] (flds_nd 0) fun _ _ => rfl))) fun b o hb ho => ?_
    rw [upd_ne hb, upd_ne hb, upd_ne hb, upd_ne hb, upd_ne hb]
    exact gg.b _ _ ho

theorem x_BadRule (Z : Tp w K mg) : ∃ fd, Binds K fd ["self", "part"] [] ∧ FnOk P w K mg base CX0 1 (He.ma K (He.ga K "BadRule") "__init__") fd ["self", "part"] (spOex (He.ga K "BadRule") "part") := by
  have O : OexF K "BadRule" "part" := oexF_ok (y_0 Z)
  obtain ⟨fd, F⟩ := Z.d.def_ 1 (d := ⟨("BadRule", some "__init__"), "__init__", "BadRule.__init__", defArgs (inClass (top 7) 0), defBody (inClass (top 7) 0), defScope (inClass (top 7) 0), [], []⟩) rfl
  have sc : FnScope ["self", "part"] ["self", "part"] (defScope (inClass (top 7) 0)) := ⟨rfl, rfl, rfl, by decide +kernel, rfl, by decide +kernel, by decide +kernel⟩
  refine ⟨fd, FunD.bindsN (ps := ["self", "part"]) F (fun _ _ _ _ _ _ us hl => match us, hl with | [_, _], _ => rfl), ?_⟩
  have F' : FnP K "__init__" "BadRule.__init__" (inClass (top 7) 0) (He.ma K (He.ga K "BadRule") "__init__") fd := F
  refine F'.ok sc (fun vs H Q E h => ?_) (fun cdv A outer s H vs Q E hr h => ?_)
  · obtain ⟨a, v, rfl, _⟩ := h
    rfl
  · obtain ⟨a, v, rfl, ha, k⟩ := h
    refine ⟨_, PSs.nox (pss_one (ps_ost (pv 0) (pv 1))), ?_⟩
    exact ⟨_, rfl, _, rfl, a, _, rfl, O.c, O.no, .inl ⟨ha, fun dx hdx ne => k dx hdx ne⟩⟩
theorem x_Rule (Z : Tp w K mg) : ∃ f fd, mg "Rule" = some (.ref (cl K 0)) ∧ Mk K (cl K 0) f ∧ Binds K fd ["self", "looked", "muting", "joining", "copying", "ways"] [] ∧ FnOk P w K mg base (L2.CX P w) 4 f fd ["self", "looked", "muting", "joining", "copying", "ways"] (spRuleX K) := by
  have O : OexF K "BadRule" "part" := oexF_ok (y_0 Z)
  obtain ⟨fdB, bB, GB⟩ := x_BadRule (P := P) (w := w) (base := base) Z
  obtain ⟨fd, F⟩ := Z.d.def_ 0 (d := ⟨(cname 0, some "__init__"), "__init__", "Rule.__init__", defArgs s_RuleI, defBody s_RuleI, defScope s_RuleI, [], []⟩) rfl
  have F' : FnP K "__init__" "Rule.__init__" s_RuleI (He.ma K (cl K 0) "__init__") fd := F
  refine ⟨_, fd, Z.glo 1 rfl, He.mkr_ok (Z.d.fact 0 rfl), FunD.bindsN (ps := ["self", "looked", "muting", "joining", "copying", "ways"]) F (fun _ _ _ _ _ _ us hl => match us, hl with | [_, _, _, _, _, _], _ => rfl), ?_⟩
  refine F'.ok sc_RuleI (fun vs H Q E h => ?_) (fun cdv A outer s H vs Q E hr h => ?_)
  · obtain ⟨x, dx, us, Hi, ts, rfl, hl, _⟩ := h
    show us.length + 1 = 6
    rw [hl]
  · obtain ⟨x, dx, us, Hi, ts, rfl, hl, sub, rr, hp, hx, kg, kb⟩ := h
    obtain ⟨t0, t1, t2, t3, t4, rfl⟩ : ∃ t0 t1 t2 t3 t4, ts = [t0, t1, t2, t3, t4] := by
      have h5 : ts.length = 5 := by rw [← rr.len]; exact hl
      match ts, h5 with
      | [a, b, c, d, e], _ => exact ⟨a, b, c, d, e, rfl⟩
    obtain ⟨u0, w0, rfl, r0, rr⟩ := rr.inv
    obtain ⟨u1, w1, rfl, r1, rr⟩ := rr.inv
    obtain ⟨u2, w2, rfl, r2, rr⟩ := rr.inv
    obtain ⟨u3, w3, rfl, r3, rr⟩ := rr.inv
    obtain ⟨u4, w4, rfl, r4, rr⟩ := rr.inv
    cases rr.inv0
    let X : Cx := cxOf (L2.CX P w) P w K mg base ["self", "looked", "muting", "joining", "copying", "ways", "part", "value", "some"] "Rule.__init__" (defScope s_RuleI) (He.ma K (cl K 0) "__init__") cdv A outer s H E
    have tk : Takes X (fun cls d _ H => E cls d H) := takes_of rfl rfl rfl rfl
    have hst : ∃ e1 e2 e3 elts kk tpos p cpos body pos, (defBody s_RuleI).getD 0 (.Pass ⟨0, 0, 0, 0⟩) = .For (.Tuple elts kk tpos) (.Call (.Name "zip" p) [e1, e2, e3] [] cpos) body [] pos := ⟨_, _, _, _, _, _, _, _, _, _, rfl⟩
    obtain ⟨tA, hA⟩ : ∃ ta, AF X (match (defBody s_RuleI).getD 0 (.Pass ⟨0, 0, 0, 0⟩) with | .For _ (.Call _ es _ _) _ _ _ => es | _ => []) 3 ta (aCons (eC k_PARTS) (aCons (eTup (aCons (eVar 1) (aCons (eVar 2) (aCons (eVar 3) (aCons (eVar 4) (aCons (eVar 5) aNil)))))) (aCons (eC k_CHOICES) aNil))) := ⟨_, (af_cons (ef_glob (c_PARTS Z)) (af_cons (ef_tup (af_cons (ef_var 1) (af_cons (ef_var 2) (af_cons (ef_var 3) (af_cons (ef_var 4) (af_cons (ef_var 5) af_nil)))))) (af_cons (ef_glob (c_CHOICES Z)) af_nil)))⟩
    obtain ⟨gA, hG⟩ : ∃ g, GF X (match (defBody s_RuleI).getD 0 (.Pass ⟨0, 0, 0, 0⟩) with | .For t _ _ _ _ => t | _ => default) g [6, 7, 8] (hTup (hCons (fun t env => some (env.set 6 (some (.imm t)))) (hCons (fun t env => some (env.set 7 (some (.imm t)))) (hCons (fun t env => some (env.set 8 (some (.imm t)))) hNil)))) := ⟨_, (gf_tup rfl (gsf_cons (gf_name 6 sc_RuleI.nd) (gsf_cons (gf_name 7 sc_RuleI.nd) (gsf_cons (gf_name 8 sc_RuleI.nd) gsf_nil))))⟩
    obtain ⟨tT, hT⟩ : ∃ tt, TF X (match (defBody s_RuleI).getD 0 (.Pass ⟨0, 0, 0, 0⟩) with | .For _ _ [.If t _ _ _] _ _ => t | _ => default) tt tstR := ⟨_, (WF.t (wf_or (tf_not (tf_val (ef_isi (n := "str") (Z.free 3 rfl) (Z.free 4 rfl) (by decide +kernel) (ef_var 7)))) (wf_or1 (tf_cmp (r := rIn K true) op_notIn_seq (ok_in true) (ef_var 7) (ef_var 8) (by rfl)))))⟩
    refine ⟨_, pss_cons (ps_for (passes_of rfl) rfl (pi_zip3 (Z.free 5 rfl) hA.p) hG.p (pss_one (ps_if hT.p (pss_one (ps_raiseF rfl tk O GB (hr.mono (show 2 ≤ 3 by decide)) bB (Z.glo 11 rfl) (pv 6))) pss_nil)))
      (pss_cons (ps_fld (pv 0) (pv 1) rfl) (pss_cons (ps_fld (pv 0) (pv 2) rfl) (pss_cons (ps_fld (pv 0) (pv 3) rfl) (pss_cons (ps_fld (pv 0) (pv 4) rfl) (pss_one (ps_fld (pv 0) (pv 5) rfl)))))), ?_⟩
    have re : REnv K H Hi H (L2.start ["self", "looked", "muting", "joining", "copying", "ways", "part", "value", "some"] [.ref x, u0, u1, u2, u3, u4])
        [some (.raw (.ref x)), some (.imm t0), some (.imm t1), some (.imm t2), some (.imm t3), some (.imm t4), none, none, none] :=
      REnv.of ⟨rfl, ⟨_, rfl, r0⟩, ⟨_, rfl, r1⟩, ⟨_, rfl, r2⟩, ⟨_, rfl, r3⟩, ⟨_, rfl, r4⟩, trivial⟩ sub
    refine hA.q H Hi H _ _ [.tup (partNames.map T.str), .tup [t0, t1, t2, t3, t4], .tup (choices.map strT)] _ re rfl fun vs Hi1 H1 g1 rvs => ?_
    obtain ⟨v1, s1, rfl, rv1, rr1⟩ := rvs.inv
    obtain ⟨v2, s2, rfl, rv2, rr2⟩ := rr1.inv
    obtain ⟨v3, s3, rfl, rv3, rr3⟩ := rr2.inv
    cases rr3.inv0
    unfold Rep at rv1 rv2 rv3
    obtain ⟨a1, xs1, rfl, q1, p1⟩ := rv1
    obtain ⟨a2, xs2, rfl, q2, p2⟩ := rv2
    obtain ⟨a3, xs3, rfl, q3, p3⟩ := rv3
    have l1 : xs1.length = 5 := p1.len
    have l2 : xs2.length = 5 := p2.len
    have l3 : xs3.length = 5 := p3.len
    refine ⟨a1, a2, a3, xs1, xs2, xs3, rfl, sameT g1.c q1, sameT g1.c q2, sameT g1.c q3, ?_⟩
    refine for_it (walk_zip3 (n := 5) l1 l2 l3) (fun i σ' H' => ∃ Hi' p q r, Same Hi1 Hi' ∧ Grow Hi H Hi' H' ∧ REnv K H Hi' H' σ' [some (.raw (.ref x)), some (.imm t0), some (.imm t1), some (.imm t2), some (.imm t3), some (.imm t4), p, q, r] ∧
      firstBad (partNames.drop i) ([t0, t1, t2, t3, t4].drop i) (choices.drop i) = firstBad partNames [t0, t1, t2, t3, t4] choices)
      ⟨Hi1, none, none, none, Same.refl _, g1, re.grow g1, rfl⟩ (fun i σ' H' _ ⟨Hi', _, _, _, s', g', _, _⟩ => ⟨sameT (s'.trans g'.c) q1, sameT (s'.trans g'.c) q2, sameT (s'.trans g'.c) q3⟩) ?_ ?_
    · rintro i v σ' H' H2 hi ⟨Hi', p, q, r, s', g', r', fb⟩ ⟨TT, x1, x2, x3, rfl, hTT, rfl, hx1, hx2, hx3⟩
      obtain ⟨tx, ex, rx⟩ := p1.get' hx1
      obtain ⟨ty, ey, ry⟩ := p2.get' hx2
      obtain ⟨tz, ez, rz⟩ := p3.get' hx3
      obtain ⟨nm, en, rfl⟩ := map_get ex
      obtain ⟨cc, ec, rfl⟩ := map_get ez
      have gN := Grow.new (o := .tup [x1, x2, x3]) g'.c hTT
      have pt : plainT ty = true := List.all_eq_true.mp hp ty (List.mem_of_getElem? ey)
      rw [firstBad_drop en ey ec] at fb
      have m := s'.trans gN.a
      have rt : Rep K (upd Hi' TT (.tup [x1, x2, x3])) (.tup [.str nm, ty, strT cc]) (.ref TT) := by
        unfold Rep
        exact ⟨TT, [x1, x2, x3], rfl, .inl (.inl upd_same), Reps.cons (rx.mono m) (Reps.cons (ry.mono m) (Reps.cons (rz.mono m) Reps.nil))⟩
      refine hG.q H _ _ σ' _ [some (.raw (.ref x)), some (.imm t0), some (.imm t1), some (.imm t2), some (.imm t3), some (.imm t4), some (.imm (.str nm)), some (.imm ty), some (.imm (strT cc))] _ _ _ (r'.grow gN) rt rfl fun σ1 re1 _ _ => ?_
      refine hT.q H _ _ σ1 _ _ _ re1 (tstR_is rfl rfl pt) fun Hi3 H3 g3 => ?_
      cases hgd : goodT cc ty with
      | true =>
        rw [hgd] at fb
        rw [if_pos rfl] at fb
        refine iteF ?_
        exact ⟨Hi3, _, _, _, m.trans g3.a, (g'.trans gN).trans g3, re1.grow g3, fb⟩
      | false =>
        rw [hgd, if_neg Bool.false_ne_true] at fb
        refine iteT ?_
        obtain ⟨v6, z6, w6⟩ := re1.imm 6 _ rfl
        unfold Rep at w6
        subst w6
        have gA := (g'.trans gN).trans g3
        refine raiseF_of (v := .str nm) ⟨_, z6, rfl, rfl⟩ (fun dd hd => ?_) fun R R' ⟨v, h1, h2⟩ k => ⟨v, h1, k _ _ h2⟩
        exact kb nm fb.symm dd _ (gA.b.free hd) upd_same fun b o hb => by rw [upd_ne (ne_of_none (gA.b _ _ hb) hd)]; exact gA.b _ _ hb
    · rintro σ' H' ⟨Hi', p, q, r, s', gg, re', fb⟩
      have z0 := re'.raw 0 _ rfl
      obtain ⟨y1, z1, w1⟩ := re'.imm 1 _ rfl
      obtain ⟨y2, z2, w2⟩ := re'.imm 2 _ rfl
      obtain ⟨y3, z3, w3⟩ := re'.imm 3 _ rfl
      obtain ⟨y4, z4, w4⟩ := re'.imm 4 _ rfl
      obtain ⟨y5, z5, w5⟩ := re'.imm 5 _ rfl
      have fb' : firstBad partNames [t0, t1, t2, t3, t4] choices = none := fb.symm
      obtain ⟨⟨b0, rfl, _⟩, fb1⟩ := firstBad_none fb'
      obtain ⟨⟨b1, rfl, _⟩, fb2⟩ := firstBad_none fb1
      obtain ⟨⟨b2, rfl, _⟩, fb3⟩ := firstBad_none fb2
      obtain ⟨⟨b3, rfl, _⟩, fb4⟩ := firstBad_none fb3
      obtain ⟨⟨b4, rfl, _⟩, _⟩ := firstBad_none fb4
      unfold Rep at w1 w2 w3 w4 w5 r0 r1 r2 r3 r4
      subst w1 w2 w3 w4 w5 r0 r1 r2 r3 r4
      have hx' := gg.b _ _ hx
      refine ⟨_, z1, _, z0, x, cl K 0, dx, _, rfl, hx', Z.cls 2 rfl, Z.noat 6 rfl, Nat.lt_of_le_of_lt (Nat.le_refl 0) (by decide), ?_⟩
      refine ⟨_, z2, _, z0, x, cl K 0, dx, _, rfl, upd_same, Z.cls 2 rfl, Z.noat 7 rfl, Nat.lt_of_le_of_lt (putF_len (Nat.le_refl 0)) (by decide), ?_⟩
      refine ⟨_, z3, _, z0, x, cl K 0, dx, _, rfl, upd_same, Z.cls 2 rfl, Z.noat 8 rfl, Nat.lt_of_le_of_lt (putF_len (putF_len (Nat.le_refl 0))) (by decide), ?_⟩
      refine ⟨_, z4, _, z0, x, cl K 0, dx, _, rfl, upd_same, Z.cls 2 rfl, Z.noat 9 rfl, Nat.lt_of_le_of_lt (putF_len (putF_len (putF_len (Nat.le_refl 0)))) (by decide), ?_⟩
      refine ⟨_, z5, _, z0, x, cl K 0, dx, _, rfl, upd_same, Z.cls 2 rfl, Z.noat 10 rfl, Nat.lt_of_le_of_lt (putF_len (putF_len (putF_len (putF_len (Nat.le_refl 0))))) (by decide), ?_⟩
      refine kg fb' _ (upd_same.trans (congrArg (fun q => some (HO.ins (cl K 0) dx q)) (put_chain (flds 0) [.str b0, .str b1, .str b2, .str b3, .str b4] [] (flds_nd 0) fun _ _ => rfl))) fun b o hb ho => ?_
      rw [upd_ne hb, upd_ne hb, upd_ne hb, upd_ne hb, upd_ne hb]
      exact gg.b _ _ ho

theorem x_BadLine (Z : Tp w K mg) : ∃ fd, Binds K fd ["self", "line"] [] ∧ FnOk P w K mg base CX0 1 (He.ma K (He.ga K "BadLine") "__init__") fd ["self", "line"] (spOex (He.ga K "BadLine") "line") := by
  have O : OexF K "BadLine" "line" := oexF_ok (y_1 Z)
  obtain ⟨fd, F⟩ := Z.d.def_ 2 (d := ⟨("BadLine", some "__init__"), "__init__", "BadLine.__init__", defArgs (inClass (top 8) 0), defBody (inClass (top 8) 0), defScope (inClass (top 8) 0), [], []⟩) rfl
  have sc : FnScope ["self", "line"] ["self", "line"] (defScope (inClass (top 8) 0)) := ⟨rfl, rfl, rfl, by decide +kernel, rfl, by decide +kernel, by decide +kernel⟩
  refine ⟨fd, FunD.bindsN (ps := ["self", "line"]) F (fun _ _ _ _ _ _ us hl => match us, hl with | [_, _], _ => rfl), ?_⟩
  have F' : FnP K "__init__" "BadLine.__init__" (inClass (top 8) 0) (He.ma K (He.ga K "BadLine") "__init__") fd := F
  refine F'.ok sc (fun vs H Q E h => ?_) (fun cdv A outer s H vs Q E hr h => ?_)
  · obtain ⟨a, v, rfl, _⟩ := h
    rfl
  · obtain ⟨a, v, rfl, ha, k⟩ := h
    refine ⟨_, PSs.nox (pss_one (ps_ost (pv 0) (pv 1))), ?_⟩
    exact ⟨_, rfl, _, rfl, a, _, rfl, O.c, O.no, .inl ⟨ha, fun dx hdx ne => k dx hdx ne⟩⟩

abbrev s_Thing_d__init_d_ : Stmt := (inClass (top 21) 0)
theorem sc_Thing_d__init_d_ : FnScope ["self", "here", "secret", "grouped", "followed", "wished", "muted"] ["self", "here", "secret", "grouped", "followed", "wished", "muted"] (defScope s_Thing_d__init_d_) := ⟨rfl, rfl, rfl, by decide +kernel, rfl, by decide +kernel, by decide +kernel⟩
theorem m_Thing (Z : Tp w K mg) : MkAt P w K mg base 1 1 ["self", "here", "secret", "grouped", "followed", "wished", "muted"] := Z.kat (q := "Thing.__init__") 3 12 13 rfl rfl rfl (fun _ _ _ _ _ _ us hl => match us, hl with | [_, _, _, _, _, _, _], _ => rfl) fun f fd F => by
  refine F.ok sc_Thing_d__init_d_ (fun vs H Q E h => ?_) (fun cdv A outer s H vs Q E hr h => ?_)
  · obtain ⟨x, dx, us, rfl, hl, _⟩ := h
    show us.length + 1 = 7
    rw [hl] <;> rfl
  · obtain ⟨x, dx, us, rfl, hl, _, hx, k⟩ := h
    match us, hl with
    | [u0, u1, u2, u3, u4, u5], _ =>
      refine ⟨_, PSs.nox (pss_cons (ps_fld (pv 0) (pv 1) rfl) (pss_cons (ps_fld (pv 0) (pv 2) rfl) (pss_cons (ps_fld (pv 0) (pv 3) rfl) (pss_cons (ps_fld (pv 0) (pv 4) rfl) (pss_cons (ps_fld (pv 0) (pv 5) rfl) (pss_one (ps_fld (pv 0) (pv 6) rfl))))))), ?_⟩
      refine ⟨_, rfl, _, rfl, x, cl K 1, dx, _, rfl, hx, Z.cls 14 rfl, Z.noat 15 rfl, Nat.lt_of_le_of_lt (Nat.le_refl 0) (by decide), ?_⟩
      refine ⟨_, rfl, _, rfl, x, cl K 1, dx, _, rfl, upd_same, Z.cls 14 rfl, Z.noat 16 rfl, Nat.lt_of_le_of_lt (putF_len (Nat.le_refl 0)) (by decide), ?_⟩
      refine ⟨_, rfl, _, rfl, x, cl K 1, dx, _, rfl, upd_same, Z.cls 14 rfl, Z.noat 17 rfl, Nat.lt_of_le_of_lt (putF_len (putF_len (Nat.le_refl 0))) (by decide), ?_⟩
      refine ⟨_, rfl, _, rfl, x, cl K 1, dx, _, rfl, upd_same, Z.cls 14 rfl, Z.noat 18 rfl, Nat.lt_of_le_of_lt (putF_len (putF_len (putF_len (Nat.le_refl 0)))) (by decide), ?_⟩
      refine ⟨_, rfl, _, rfl, x, cl K 1, dx, _, rfl, upd_same, Z.cls 14 rfl, Z.noat 19 rfl, Nat.lt_of_le_of_lt (putF_len (putF_len (putF_len (putF_len (Nat.le_refl 0))))) (by decide), ?_⟩
      refine ⟨_, rfl, _, rfl, x, cl K 1, dx, _, rfl, upd_same, Z.cls 14 rfl, Z.noat 20 rfl, Nat.lt_of_le_of_lt (putF_len (putF_len (putF_len (putF_len (putF_len (Nat.le_refl 0)))))) (by decide), ?_⟩
      refine k _ (upd_same.trans (congrArg (fun q => some (HO.ins (cl K 1) dx q)) (put_chain (flds 1) [u0, u1, u2, u3, u4, u5] [] (flds_nd 1) fun _ _ => rfl))) fun b o hb ho => ?_
      rw [upd_ne hb, upd_ne hb, upd_ne hb, upd_ne hb, upd_ne hb, upd_ne hb]
      exact ho
abbrev s_World_d__init_d_ : Stmt := (inClass (top 22) 0)
theorem sc_World_d__init_d_ : FnScope ["self", "things", "tracks", "inside", "tellings", "written"] ["self", "things", "tracks", "inside", "tellings", "written"] (defScope s_World_d__init_d_) := ⟨rfl, rfl, rfl, by decide +kernel, rfl, by decide +kernel, by decide +kernel⟩
theorem m_World (Z : Tp w K mg) : MkAt P w K mg base 1 2 ["self", "things", "tracks", "inside", "tellings", "written"] := Z.kat (q := "World.__init__") 4 21 22 rfl rfl rfl (fun _ _ _ _ _ _ us hl => match us, hl with | [_, _, _, _, _, _], _ => rfl) fun f fd F => by
  refine F.ok sc_World_d__init_d_ (fun vs H Q E h => ?_) (fun cdv A outer s H vs Q E hr h => ?_)
  · obtain ⟨x, dx, us, rfl, hl, _⟩ := h
    show us.length + 1 = 6
    rw [hl] <;> rfl
  · obtain ⟨x, dx, us, rfl, hl, _, hx, k⟩ := h
    match us, hl with
    | [u0, u1, u2, u3, u4], _ =>
      refine ⟨_, PSs.nox (pss_cons (ps_fld (pv 0) (pv 1) rfl) (pss_cons (ps_fld (pv 0) (pv 2) rfl) (pss_cons (ps_fld (pv 0) (pv 3) rfl) (pss_cons (ps_fld (pv 0) (pv 4) rfl) (pss_one (ps_fld (pv 0) (pv 5) rfl)))))), ?_⟩
      refine ⟨_, rfl, _, rfl, x, cl K 2, dx, _, rfl, hx, Z.cls 23 rfl, Z.noat 24 rfl, Nat.lt_of_le_of_lt (Nat.le_refl 0) (by decide), ?_⟩
      refine ⟨_, rfl, _, rfl, x, cl K 2, dx, _, rfl, upd_same, Z.cls 23 rfl, Z.noat 25 rfl, Nat.lt_of_le_of_lt (putF_len (Nat.le_refl 0)) (by decide), ?_⟩
      refine ⟨_, rfl, _, rfl, x, cl K 2, dx, _, rfl, upd_same, Z.cls 23 rfl, Z.noat 26 rfl, Nat.lt_of_le_of_lt (putF_len (putF_len (Nat.le_refl 0))) (by decide), ?_⟩
      refine ⟨_, rfl, _, rfl, x, cl K 2, dx, _, rfl, upd_same, Z.cls 23 rfl, Z.noat 27 rfl, Nat.lt_of_le_of_lt (putF_len (putF_len (putF_len (Nat.le_refl 0)))) (by decide), ?_⟩
      refine ⟨_, rfl, _, rfl, x, cl K 2, dx, _, rfl, upd_same, Z.cls 23 rfl, Z.noat 28 rfl, Nat.lt_of_le_of_lt (putF_len (putF_len (putF_len (putF_len (Nat.le_refl 0))))) (by decide), ?_⟩
      refine k _ (upd_same.trans (congrArg (fun q => some (HO.ins (cl K 2) dx q)) (put_chain (flds 2) [u0, u1, u2, u3, u4] [] (flds_nd 2) fun _ _ => rfl))) fun b o hb ho => ?_
      rw [upd_ne hb, upd_ne hb, upd_ne hb, upd_ne hb, upd_ne hb]
      exact ho
abbrev s_nothing : Stmt := (top 23)
abbrev N_nothing : List Str := []
theorem sc_nothing : FnScope N_nothing [] (defScope s_nothing) := ⟨rfl, rfl, rfl, by decide +kernel, rfl, by decide +kernel, by decide +kernel⟩
abbrev g_nothing : En → Option R := (sRet (eMk 1 (aCons (eC (.bl false)) (aCons (eC (.bl false)) (aCons (eC (.bl false)) (aCons (eC (.bl false)) (aCons (eC (.bl false)) (aCons (eC (.bl false)) aNil))))))))
def F_nothing : List T → Option T := endF g_nothing 0
theorem t_nothing (Z : Tp w K mg) : FnAt P w K mg base 3 "nothing" [] (spP K 0 F_nothing) := Z.fat 5 29 rfl rfl (fun _ _ _ _ _ _ us hl => match us, hl with | [], _ => rfl) fun f fd F => fn_pure (k := 2) F sc_nothing rfl fun cdv A outer s H E hr => ⟨_, (ssf_one (sf_ret (ef_mk (c := 1) (m_Thing Z) (hr.mono (show 2 ≤ 2 by decide)) (af_cons ef_bl (af_cons ef_bl (af_cons ef_bl (af_cons ef_bl (af_cons ef_bl (af_cons ef_bl af_nil)))))))))⟩
abbrev s_plain : Stmt := (top 24)
abbrev N_plain : List Str := []
theorem sc_plain : FnScope N_plain [] (defScope s_plain) := ⟨rfl, rfl, rfl, by decide +kernel, rfl, by decide +kernel, by decide +kernel⟩
abbrev g_plain : En → Option R := (sRet (eMk 1 (aCons (eC (.bl true)) (aCons (eC (.bl false)) (aCons (eC (.bl false)) (aCons (eC (.bl false)) (aCons (eC (.bl false)) (aCons (eC (.bl false)) aNil))))))))
def F_plain : List T → Option T := endF g_plain 0
theorem t_plain (Z : Tp w K mg) : FnAt P w K mg base 3 "plain" [] (spP K 0 F_plain) := Z.fat 6 30 rfl rfl (fun _ _ _ _ _ _ us hl => match us, hl with | [], _ => rfl) fun f fd F => fn_pure (k := 2) F sc_plain rfl fun cdv A outer s H E hr => ⟨_, (ssf_one (sf_ret (ef_mk (c := 1) (m_Thing Z) (hr.mono (show 2 ≤ 2 by decide)) (af_cons ef_bl (af_cons ef_bl (af_cons ef_bl (af_cons ef_bl (af_cons ef_bl (af_cons ef_bl af_nil)))))))))⟩
abbrev s_first_world : Stmt := (top 25)
abbrev N_first_world : List Str := []
theorem sc_first_world : FnScope N_first_world [] (defScope s_first_world) := ⟨rfl, rfl, rfl, by decide +kernel, rfl, by decide +kernel, by decide +kernel⟩
abbrev g_first_world : En → Option R := (sRet (eMk 2 (aCons (eTup (aCons (eCall F_plain aNil) (aCons (eCall F_nothing aNil) aNil))) (aCons (eC (.bl false)) (aCons (eC (.bl true)) (aCons (eTup aNil) (aCons (eC (.int 0)) aNil)))))))
def F_first_world : List T → Option T := endF g_first_world 0
theorem t_first_world (Z : Tp w K mg) : FnAt P w K mg base 4 "first_world" [] (spP K 0 F_first_world) := Z.fat 7 31 rfl rfl (fun _ _ _ _ _ _ us hl => match us, hl with | [], _ => rfl) fun f fd F => fn_pure (k := 3) F sc_first_world rfl fun cdv A outer s H E hr => ⟨_, (ssf_one (sf_ret (ef_mk (c := 2) (m_World Z) (hr.mono (show 2 ≤ 3 by decide)) (af_cons (ef_tup (af_cons (ef_call0 (t_plain Z) (hr.mono (show 3 ≤ 3 by decide))) (af_cons (ef_call0 (t_nothing Z) (hr.mono (show 3 ≤ 3 by decide))) af_nil))) (af_cons ef_bl (af_cons ef_bl (af_cons (ef_tup af_nil) (af_cons ef_int af_nil))))))))⟩
abbrev s_numbers_for : Stmt := (top 17)
abbrev N_numbers_for : List Str := ["word"]
theorem sc_numbers_for : FnScope N_numbers_for ["word"] (defScope s_numbers_for) := ⟨rfl, rfl, rfl, by decide +kernel, rfl, by decide +kernel, by decide +kernel⟩
abbrev g_numbers_for : En → Option R := (sCons (sIf (bOf (e2 (oIn false) (eVar 0) (eC k_SINGLE))) (sRet (eTup (aCons (eC (.int 0)) aNil))) sNil)
    (sRet (eIf (bOf (e2 (oIn false) (eVar 0) (eC k_TRIPLE))) (eTup (aCons (eC (.int 0)) (aCons (eC (.int 1)) (aCons (eC (.int 2)) aNil)))) (eTup (aCons (eC (.int 0)) (aCons (eC (.int 1)) aNil))))))
def F_numbers_for : List T → Option T := endF g_numbers_for 1
theorem t_numbers_for (Z : Tp w K mg) : FnAt P w K mg base 1 "numbers_for" ["word"] (spP K 1 F_numbers_for) := Z.fat 8 32 rfl rfl (fun _ _ _ _ _ _ us hl => match us, hl with | [_], _ => rfl) fun f fd F => fn_pure (k := 0) F sc_numbers_for rfl fun cdv A outer s H E hr => ⟨_, (ssf_cons (sf_if (tf_cmp (r := rIn K false) op_in_seq (ok_in false) (ef_var 0) (ef_glob (c_SINGLE Z)) (by rfl)) (ssf_one (sf_ret (ef_tup (af_cons ef_int af_nil)))) ssf_nil)
    (ssf_one (sf_ret (ef_if (tf_cmp (r := rIn K false) op_in_seq (ok_in false) (ef_var 0) (ef_glob (c_TRIPLE Z)) (by rfl)) (ef_tup (af_cons ef_int (af_cons ef_int (af_cons ef_int af_nil)))) (ef_tup (af_cons ef_int (af_cons ef_int af_nil)))))))⟩
abbrev s_is_deed : Stmt := (top 18)
abbrev N_is_deed : List Str := ["value"]
theorem sc_is_deed : FnScope N_is_deed ["value"] (defScope s_is_deed) := ⟨rfl, rfl, rfl, by decide +kernel, rfl, by decide +kernel, by decide +kernel⟩
abbrev g_is_deed : En → Option R := (sCons (sIf (bOr (bNot (bOf (eIsi "tuple" (eVar 0)))) (bOr (bOf (e2 (oEq true) (eCall oLen (aCons (eVar 0) aNil)) (eC (.int 2)))) (bOr (bNot (bOf (eIsi "str" (e2 oIxT (eVar 0) (eC (.int 0)))))) (bOf (e2 (oIn true) (e2 oIxT (eVar 0) (eC (.int 0))) (eC k_WORDS)))))) (sRet (eC (.bl false))) sNil)
    (sRet (eAnd (eIsi "int" (e2 oIxT (eVar 0) (eC (.int 1)))) (eAnd (eNot (eIsi "bool" (e2 oIxT (eVar 0) (eC (.int 1))))) (e2 (oIn false) (e2 oIxT (eVar 0) (eC (.int 1))) (eCall F_numbers_for (aCons (e2 oIxT (eVar 0) (eC (.int 0))) aNil)))))))
def F_is_deed : List T → Option T := endF g_is_deed 1
theorem t_is_deed (Z : Tp w K mg) : FnAt P w K mg base 2 "is_deed" ["value"] (spP K 1 F_is_deed) := Z.fat 9 37 rfl rfl (fun _ _ _ _ _ _ us hl => match us, hl with | [_], _ => rfl) fun f fd F => fn_pure (k := 1) F sc_is_deed rfl fun cdv A outer s H E hr => ⟨_, (ssf_cons (sf_if (WF.t (wf_or (tf_not (tf_val (ef_isi (n := "tuple") (Z.free 3 rfl) (Z.free 33 rfl) (by decide +kernel) (ef_var 0)))) (wf_or (tf_cmp op_ne ok_ne (ef_cb (r := rLenQ K) call_len_seq ok_len (Z.free 34 rfl) PySem.boot_len (af_cons (ef_var 0) af_nil)) ef_int (nomark _)) (wf_or (tf_not (tf_val (ef_isi (n := "str") (Z.free 3 rfl) (Z.free 4 rfl) (by decide +kernel) (ef_ix (r := rIxT K) ix_tup ok_ixT (ef_var 0) ef_int)))) (wf_or1 (tf_cmp (r := rIn K true) op_notIn_seq (ok_in true) (ef_ix (r := rIxT K) ix_tup ok_ixT (ef_var 0) ef_int) (ef_glob (c_WORDS Z)) (by rfl))))))) (ssf_one (sf_ret ef_bl)) ssf_nil)
    (ssf_one (sf_ret (ef_and (ef_isi (n := "int") (Z.free 3 rfl) (Z.free 35 rfl) (by decide +kernel) (ef_ix (r := rIxT K) ix_tup ok_ixT (ef_var 0) ef_int)) (ef_and (ef_not (ef_isi (n := "bool") (Z.free 3 rfl) (Z.free 36 rfl) (by decide +kernel) (ef_ix (r := rIxT K) ix_tup ok_ixT (ef_var 0) ef_int))) (ef_one (ef_cmp (r := rIn K false) op_in_seq (ok_in false) (ef_ix (r := rIxT K) ix_tup ok_ixT (ef_var 0) ef_int) (ef_call (t_numbers_for Z) (hr.mono (show 1 ≤ 1 by decide)) (af_cons (ef_ix (r := rIxT K) ix_tup ok_ixT (ef_var 0) ef_int) af_nil)) (by rfl))))))))⟩
abbrev s__law_begin : Stmt := (top 65)
abbrev N__law_begin : List Str := ["_law_script"]
theorem sc__law_begin : FnScope N__law_begin ["_law_script"] (defScope s__law_begin) := ⟨rfl, rfl, rfl, by decide +kernel, rfl, by decide +kernel, by decide +kernel⟩
theorem t__law_begin (Z : Tp w K mg) : FnAt P w K mg base 1 "_law_begin" ["_law_script"] (spBegin K) := Z.fat 10 39 rfl rfl (fun _ _ _ _ _ _ us hl => match us, hl with | [_], _ => rfl) fun f fd F => by
  refine F.ok sc__law_begin (fun vs H Q E h => ?_) (fun cdv A outer s H vs Q E hr h => ?_)
  · obtain ⟨a, ns, rfl, _⟩ := h
    rfl
  · obtain ⟨a, ns, rfl, hs, hn, kk⟩ := h
    refine ⟨_, (PSs.nox (pss_one (ps_ret (pe_lst (pa_cons (pe_callTy call_list_of (by rfl) (Z.free 38 rfl) (by decide +kernel) (pa_cons (pv 0) pa_nil)) (pa_cons pe_int (pa_cons pe_int (pa_cons pe_int pa_nil)))))))), ?_⟩
    refine ⟨_, rfl, a, _, rfl, .inl hs, fun l hl => ⟨(show 4 ≤ sizeLine by decide), fun d hd => ?_⟩⟩
    have hla : l ≠ d := fun z => by rw [← z, upd_same] at hd; cases hd
    have hd' : H d = none := by rw [upd_ne hla.symm] at hd; exact hd
    refine kk d l _ ⟨ns, 0, 0, 7, upd_same, (by rw [upd_ne hla]; exact upd_same), hla, by decide⟩ hd' hl fun b o hb => ?_
    rw [upd_ne (fun z => by rw [z, hd'] at hb; cases hb), upd_ne (fun z => by rw [z, hl] at hb; cases hb)]
    exact hb

abbrev s__law_draw : Stmt := (top 66)
abbrev N__law_draw : List Str := ["_law_draws", "_law_many", "_law_found", "_law_cell"]
theorem sc__law_draw : FnScope N__law_draw ["_law_draws", "_law_many"] (defScope s__law_draw) := ⟨rfl, rfl, rfl, by decide +kernel, rfl, by decide +kernel, by decide +kernel⟩
theorem t__law_draw (Z : Tp w K mg) : FnAt P w K mg base 1 "_law_draw" ["_law_draws", "_law_many"] spDraw := Z.fat 11 40 rfl rfl (fun _ _ _ _ _ _ us hl => match us, hl with | [_, _], _ => rfl) fun f fd F => by
  refine F.ok sc__law_draw (fun vs H Q E h => ?_) (fun cdv A outer s H vs Q E hr h => ?_)
  · obtain ⟨a, l, k, rfl, _⟩ := h
    rfl
  · obtain ⟨a, l, k, rfl, D, k0, k1, kk⟩ := h
    obtain ⟨ns, p, b, sd, ha, hl, la, hb⟩ := D.ex
    refine ⟨_, (PSs.nox (pss_cons (ps_if (pt_cmpR op_eq (pe_ix ix_list (pv 0) pe_int (fun _ _ => rfl)) pe_int (nomark _)) (pss_one (ps_if (pt_cmpR op_lt (pe_ix ix_list (pv 0) pe_int (fun _ _ => rfl)) (pe_callB call_len_seq (by rfl) (Z.free 34 rfl) PySem.boot_len (pa_cons (pe_ix ix_list (pv 0) pe_int (fun _ _ => rfl)) pa_nil)) (nomark _)) (pss_cons (ps_set (i := 3) sc__law_draw.nd rfl (Or.inl rfl) (pe_ix ix_list (pe_ix ix_list (pv 0) pe_int (fun _ _ => rfl)) (pe_ix ix_list (pv 0) pe_int (fun _ _ => rfl)) (fun _ _ => rfl)))
      (pss_cons (ps_asg (pe_op op_add (pe_ix ix_list (pv 0) pe_int (fun _ _ => rfl)) pe_int) (pg_sub (pv 0) pe_int set_list))
      (pss_one (ps_if (pt_cmpR op_ge (pv 3) (pe_op op_pow pe_int pe_int) (nomark _)) (pss_one (ps_asg (pv 3) (pg_sub (pv 0) pe_int set_list))) (pss_one (ps_asg (pe_op op_modN (pe_callTy call_int1 (by rfl) (Z.free 35 rfl) (by decide +kernel) (pa_cons (pe_op op_add (pe_op op_add (pe_op op_mul (pe_ix ix_list (pv 0) pe_int (fun _ _ => rfl)) pe_int) (pe_op op_mul (pv 3) pe_int)) pe_int) pa_nil)) pe_int) (pg_sub (pv 0) pe_int set_list))))))) (pss_one (ps_asg (pe_op op_modN (pe_callTy call_int1 (by rfl) (Z.free 35 rfl) (by decide +kernel) (pa_cons (pe_op op_add (pe_op op_mul (pe_ix ix_list (pv 0) pe_int (fun _ _ => rfl)) pe_int) pe_int) pa_nil)) pe_int) (pg_sub (pv 0) pe_int set_list))))) pss_nil)
      (pss_cons (ps_if (pt_cmpR op_gt (pe_ix ix_list (pv 0) pe_int (fun _ _ => rfl)) pe_int (nomark _)) (pss_cons (ps_set (i := 2) sc__law_draw.nd rfl (Or.inl rfl) (pe_op op_modN (pe_callTy call_int1 (by rfl) (Z.free 35 rfl) (by decide +kernel) (pa_cons (pe_ix ix_list (pv 0) pe_int (fun _ _ => rfl)) pa_nil)) (pv 1)))
      (pss_cons (ps_asg (pe_op op_fdivN (pe_ix ix_list (pv 0) pe_int (fun _ _ => rfl)) (pv 1)) (pg_sub (pv 0) pe_int set_list))
      (pss_one (ps_ret (pv 2))))) pss_nil)
      (pss_one (ps_ret (pe_op op_modN (pe_op op_modN (pe_callTy call_int1 (by rfl) (Z.free 35 rfl) (by decide +kernel) (pa_cons (pe_op op_mul (pe_ix ix_list (pv 0) pe_int (fun _ _ => rfl)) pe_int) pa_nil)) pe_int) (pv 1))))))), ?_⟩
    refine seqI (fun σ' H' => ∃ (p' : Nat) (b' s' : Int) (x3 : Option V), σ' = [some (.ref a), some (.int k), none, x3] ∧ H' a = some (.lst [.ref l, .int p', .int b', .int s']) ∧ 0 ≤ b' ∧ ∀ c, c ≠ a → H' c = H c) ?_ (fun g hg => ?_)
    · rintro σ' H' ⟨p', b', s', x3, rfl, ha', hb', hk⟩
      have hl' : H' l = some (.lst (ns.map V.int)) := by rw [hk l la]; exact hl
      refine seqI (fun σ' H' => ∃ (b' s' : Int) (x2 x3 : Option V), σ' = [some (.ref a), some (.int k), x2, x3] ∧ H' a = some (.lst [.ref l, .int p', .int b', .int s']) ∧ 0 ≤ b' ∧ ∀ c, c ≠ a → H' c = H c) ?_ (fun g hg => ?_)
      · rintro σ2 H2 ⟨b2, s2, x2, x3', rfl, ha2, hb2, hk2⟩
        refine ⟨_, rfl, a, _, 3, .int s2, rfl, rfl, SqL.of ha2, rfl, _, _, rfl, rfl, .inr ⟨by decide, by decide⟩, .inl ⟨_, rfl, _, _, rfl, rfl, (show (2147483629 : Int) ≠ 0 by decide), _, rfl, _, _, rfl, rfl, (by omega), ?_⟩⟩
        refine kk _ H2 (Int.fmod_nonneg_of_pos _ k0) (Int.fmod_lt_of_pos _ k0) ⟨ns, p', b2, s2, ha2, (by rw [hk2 l la]; exact hl), la, hb2⟩ hk2
      · refine ⟨_, rfl, a, _, 2, .int b', rfl, rfl, SqL.of ha', rfl, _, _, rfl, rfl, _, rfl, ?_⟩
        refine ite2 (fun hc => ?_) (fun hc => hg _ _ ⟨b', s', none, x3, rfl, ha', hb', hk⟩)
        refine ⟨_, rfl, a, _, 2, .int b', rfl, rfl, SqL.of ha', rfl, .inl ⟨_, rfl, _, rfl, _, _, rfl, rfl, (by omega), ?_⟩⟩
        refine ⟨_, rfl, a, _, 2, .int b', rfl, rfl, SqL.of ha', rfl, _, rfl, _, _, rfl, rfl, ⟨by omega, by omega⟩, _, rfl, a, _, 2, 2, rfl, rfl, ha', rfl, ?_⟩
        refine ⟨_, rfl, kk _ _ (Int.fmod_nonneg_of_pos _ k0) (Int.fmod_lt_of_pos _ k0) ⟨ns, p', _, s', upd_same, (by rw [upd_ne la]; exact hl'), la, ?_⟩ fun c hc' => by rw [upd_ne hc']; exact hk c hc'⟩
        exact Int.fdiv_nonneg hb' (by omega)
    · refine ⟨_, rfl, a, _, 2, .int b, rfl, rfl, SqL.of ha, rfl, rfl, _, rfl, ?_⟩
      refine ite2 (fun hc => ?_) (fun hc => hg _ _ ⟨p, b, sd, none, rfl, ha, hb, fun _ _ => rfl⟩)
      refine ⟨_, rfl, a, _, 1, .int p, rfl, rfl, SqL.of ha, rfl, _, rfl, a, _, 0, .ref l, rfl, rfl, SqL.of ha, rfl, l, _, rfl, .inl (SqL.of hl), _, _, rfl, rfl, _, rfl, ?_⟩
      refine ite2 (fun hc2 => ?_) (fun hc2 => ?_)
      · have hp : p < ns.length := by
          have := of_decide_eq_true hc2
          rw [List.length_map] at this
          omega
        have hz : (ns.map V.int)[p]? = some (V.int ns[p]) := by rw [List.getElem?_map, List.getElem?_eq_getElem hp]; rfl
        refine ⟨_, rfl, a, _, 0, .ref l, rfl, rfl, SqL.of ha, rfl, _, rfl, a, _, 1, .int p, rfl, rfl, SqL.of ha, rfl, l, _, _, _, rfl, rfl, SqL.of hl, atI_nat hz, ?_⟩
        refine ⟨_, rfl, a, _, 1, .int p, rfl, rfl, SqL.of ha, rfl, _, _, rfl, rfl, _, rfl, a, _, 1, 1, rfl, rfl, ha, rfl, ?_⟩
        refine ⟨_, rfl, _, _, rfl, rfl, ⟨by decide, by decide, by decide⟩, _, _, rfl, rfl, _, rfl, ?_⟩
        refine ite2 (fun hc3 => ?_) (fun hc3 => ?_)
        · refine ⟨_, rfl, _, rfl, a, _, 2, 2, rfl, rfl, upd_same, rfl, ?_⟩
          refine hg _ _ ⟨p + 1, ns[p], sd, _, rfl, ?_, ?_, fun c hc' => by rw [upd_ne hc', upd_ne hc']⟩
          · exact upd_same
          · have := of_decide_eq_true hc3
            exact Int.le_trans (by decide) this
        · refine ⟨_, rfl, a, _, 3, .int sd, rfl, rfl, SqL.of upd_same, rfl, _, _, rfl, rfl, .inr ⟨by decide, by decide⟩, _, rfl, _, _, rfl, rfl, .inr ⟨by decide, by decide⟩, _, _, rfl, rfl, _, _, rfl, rfl, .inl ⟨_, rfl, _, _, rfl, rfl, (show (2147483647 : Int) ≠ 0 by decide), _, rfl, a, _, 3, 3, rfl, rfl, upd_same, rfl, ?_⟩⟩
          exact hg _ _ ⟨p + 1, b, _, _, rfl, upd_same, hb, fun c hc' => by rw [upd_ne hc', upd_ne hc']⟩
      · refine ⟨_, rfl, a, _, 3, .int sd, rfl, rfl, SqL.of ha, rfl, _, _, rfl, rfl, .inr ⟨by decide, by decide⟩, _, _, rfl, rfl, .inl ⟨_, rfl, _, _, rfl, rfl, (show (2147483647 : Int) ≠ 0 by decide), _, rfl, a, _, 3, 3, rfl, rfl, ha, rfl, ?_⟩⟩
        exact hg _ _ ⟨p, b, _, _, rfl, upd_same, hb, fun c hc' => by rw [upd_ne hc']⟩

def spBad (K : PySem.W.Frag) (x : Str) (ok : List V → Hp → Prop) : Sp := fun vs H _ E => ok vs H ∧ ∀ H', Same H H' → E (.ref (He.ga K x)) none H'
theorem t_check_fault (Z : Tp w K mg) : FnAtX P w K mg base 1 "check_fault" ["fault"] (spBad K "BadFault" fun vs _ => vs = [.str "loop"]) := Z.fatX 13 42 rfl rfl (fun _ _ _ _ _ _ us hl => match us, hl with | [_], _ => rfl) fun f fd F => by
  have O : Oex0 K "BadFault" := oex0_ok (y_4 Z)
  have sc : FnScope ["fault"] ["fault"] (defScope (top 50)) := ⟨rfl, rfl, rfl, by decide +kernel, rfl, by decide +kernel, by decide +kernel⟩
  refine F.ok sc (fun vs H Q E h => ?_) (fun cdv A outer s H vs Q E hr h => ?_)
  · obtain ⟨rfl, _⟩ := h
    rfl
  · obtain ⟨rfl, kb⟩ := h
    let X : Cx := cxOf (L2.CX P w) P w K mg base ["fault"] "check_fault" (defScope (top 50)) f cdv A outer s H E
    have tk : Takes X (fun cls d _ H => E cls d H) := takes_of rfl rfl rfl rfl
    have hT : TF X (match (defBody (top 50)).getD 0 (.Pass ⟨0, 0, 0, 0⟩) with | .If t _ _ _ => t | _ => default) _ (bOr (bNot (bOf (eIsi "str" (eVar 0)))) (bOf (e2 (oIn true) (eVar 0) (eC k_FAULTS)))) := (WF.t (wf_or (tf_not (tf_val (ef_isi (n := "str") (Z.free 3 rfl) (Z.free 4 rfl) (by decide +kernel) (ef_var 0)))) (wf_or1 (tf_cmp (r := rIn K true) op_notIn_seq (ok_in true) (ef_var 0) (ef_glob (c_FAULTS Z)) (by rfl)))))
    refine ⟨_, pss_one (ps_if hT.p (pss_one (ps_raise0 rfl tk O (Z.glo 55 rfl))) pss_nil), ?_⟩
    refine hT.q H H H [some (.str "loop")] [some (.imm (.str "loop"))] true _ (REnv.of ⟨⟨_, rfl, by unfold Rep; rfl⟩, trivial⟩ (Same.refl _)) (by kernel_rfl) fun Hi' H' g => ?_
    exact kb H' g.b
abbrev s_check_words : Stmt := (top 49)
abbrev N_check_words : List Str := ["words", "word"]
theorem t_check_words (Z : Tp w K mg) : FnAtX P w K mg base 1 "check_words" ["words"] (spBad K "BadWords" fun vs H => ∃ l, vs = [.ref l] ∧ H l = some (.lst [.str "loop"])) := Z.fatX 12 41 rfl rfl (fun _ _ _ _ _ _ us hl => match us, hl with | [_], _ => rfl) fun f fd F => by
  have O : Oex0 K "BadWords" := oex0_ok (y_3 Z)
  have sc_check_words : FnScope ["words", "word"] ["words"] (defScope (top 49)) := ⟨rfl, rfl, rfl, by decide +kernel, rfl, by decide +kernel, by decide +kernel⟩
  refine F.ok sc_check_words (fun vs H Q E h => ?_) (fun cdv A outer s H vs Q E hr h => ?_)
  · obtain ⟨⟨l, rfl, _⟩, _⟩ := h
    rfl
  · obtain ⟨⟨l, rfl, hl⟩, kb⟩ := h
    let X : Cx := cxOf (L2.CX P w) P w K mg base ["words", "word"] "check_words" (defScope (top 49)) f cdv A outer s H E
    have tk : Takes X (fun cls d _ H => E cls d H) := takes_of rfl rfl rfl rfl
    have hT : TF X (match (defBody (top 49)).getD 0 (.Pass ⟨0, 0, 0, 0⟩) with | .If t _ _ _ => t | _ => default) _ (bOr (bNot (bOf (eIsi2 "list" "tuple" (eVar 0)))) (bNot (bOf (eCall oAll (aCons (eLcL (eVar 0) (fun t env => some (env.set 1 (some (.imm t)))) (fun _ => some true) (eAnd (eIsi "str" (eVar 1)) (e2 (oIn false) (eVar 1) (eC k_WORDS))) [1]) aNil))))) := (WF.t (wf_or (tf_not (tf_val (ef_isi2 (m := "list") (n := "tuple") (Z.free 3 rfl) (Z.free 38 rfl) (Z.free 33 rfl) (by decide +kernel) (by decide +kernel) (ef_var 0)))) (wf_or1 (tf_not (tf_val (ef_cb (r := rAll K) (cr_all rfl) ok_all (Z.free 57 rfl) (by decide +kernel) (af_cons (ef_lcL [("word", 1)] rfl sc_check_words.nd (ef_var 0) (blkOk_by (N := N_check_words) (sc := defScope s_check_words) (by decide +kernel)) (fun _ _ _ _ _ => (gf_name 1 sc_check_words.nd)) (fun _ _ _ _ _ => tsf_nil) (fun _ _ _ _ _ => (ef_and (ef_isi (n := "str") (Z.free 3 rfl) (Z.free 4 rfl) (by decide +kernel) (ef_var 1)) (ef_one (ef_cmp (r := rIn K false) op_in_seq (ok_in false) (ef_var 1) (ef_glob (c_WORDS Z)) (by rfl)))))) af_nil)))))))
    refine ⟨_, pss_cons (ps_if hT.p (pss_one (ps_raise0 rfl tk O (Z.glo 54 rfl))) pss_nil) pss_never, ?_⟩
    refine hT.q H H H [some (.ref l), none] [some (.imm (.lst [.str "loop"])), none] true _ (REnv.of ⟨⟨_, rfl, by unfold Rep; exact ⟨l, _, rfl, hl, Reps.strs ["loop"]⟩⟩, trivial⟩ (Same.refl _)) (by kernel_rfl) fun Hi' H' g => ?_
    exact kb H' g.b
theorem t_faults_of (Z : Tp w K mg) : FnAtX P w K mg base 2 "faults_of" ["rule", "words"] (spBad K "BadWords" fun vs H => ∃ r l, vs = [r, .ref l] ∧ H l = some (.lst [.str "loop"])) := Z.fatX 14 43 rfl rfl (fun _ _ _ _ _ _ us hl => match us, hl with | [_, _], _ => rfl) fun f fd F => by
  have sc : FnScope ["rule", "words"] ["rule", "words"] (defScope (top 55)) := ⟨rfl, rfl, rfl, by decide +kernel, rfl, by decide +kernel, by decide +kernel⟩
  refine F.ok sc (fun vs H Q E h => ?_) (fun cdv A outer s H vs Q E hr h => ?_)
  · obtain ⟨⟨r, l, rfl, _⟩, _⟩ := h
    rfl
  · obtain ⟨⟨r, l, rfl, hl⟩, kb⟩ := h
    let X : Cx := cxOf (L2.CX P w) P w K mg base ["rule", "words"] "faults_of" (defScope (top 55)) f cdv A outer s H E
    have tk : Takes X (fun cls d _ H => E cls d H) := takes_of rfl rfl rfl rfl
    refine ⟨_, pss_cons (ps_expr (pe_atX (t_check_words Z) hr (passes_call tk fun _ _ _ _ z => z) (pa_cons (pv 1) pa_nil))) pss_never, ?_⟩
    exact ⟨_, rfl, ⟨l, rfl, hl⟩, kb⟩
theorem t_least (Z : Tp w K mg) : FnAtX P w K mg base 2 "least" ["rule", "fault", "words"] (spBad K "BadFault" fun vs H => ∃ r l, vs = [r, .str "loop", l]) := Z.fatX 15 44 rfl rfl (fun _ _ _ _ _ _ us hl => match us, hl with | [_, _, _], _ => rfl) fun f fd F => by
  have sc : FnScope ["rule", "fault", "words"] ["rule", "fault", "words"] (defScope (top 53)) := ⟨rfl, rfl, rfl, by decide +kernel, rfl, by decide +kernel, by decide +kernel⟩
  refine F.ok sc (fun vs H Q E h => ?_) (fun cdv A outer s H vs Q E hr h => ?_)
  · obtain ⟨⟨r, l, rfl⟩, _⟩ := h
    rfl
  · obtain ⟨⟨r, l, rfl⟩, kb⟩ := h
    let X : Cx := cxOf (L2.CX P w) P w K mg base ["rule", "fault", "words"] "least" (defScope (top 53)) f cdv A outer s H E
    have tk : Takes X (fun cls d _ H => E cls d H) := takes_of rfl rfl rfl rfl
    refine ⟨_, pss_cons (ps_expr (pe_atX (t_check_fault Z) hr (passes_call tk fun _ _ _ _ z => z) (pa_cons (pv 1) pa_nil))) pss_never, ?_⟩
    exact ⟨_, rfl, rfl, kb⟩
theorem t_rule_of (Z : Tp w K mg) : FnAt P w K mg base 1 "rule_of" ["line"] (fun vs H Q _ => vs = [.str ""] ∧ ∀ H', Same H H' → Q .non H') := Z.fat 16 45 rfl rfl (fun _ _ _ _ _ _ us hl => match us, hl with | [_], _ => rfl) fun f fd F => by
  have sc : FnScope ["line", "words", "made"] ["line"] (defScope (top 61)) := ⟨rfl, rfl, rfl, by decide +kernel, rfl, by decide +kernel, by decide +kernel⟩
  refine F.ok sc (fun vs H Q E h => ?_) (fun cdv A outer s H vs Q E hr h => ?_)
  · obtain ⟨rfl, _⟩ := h
    rfl
  · obtain ⟨rfl, kb⟩ := h
    refine ⟨_, PSs.nox (pss_cons (ps_set (i := 1) sc.nd rfl (Or.inl rfl) (pe_split (pv 0) pe_str)) (pss_cons (ps_set (i := 2) sc.nd rfl (Or.inl rfl) pe_non) (pss_cons (ps_if (PW.pt (pw_and (pt_cmpR op_eq (pe_callB call_len_seq (by rfl) (Z.free 34 rfl) PySem.boot_len (pa_cons (pv 1) pa_nil)) pe_int (nomark _)) (pw_and1 (pt_cmpR op_eq (pe_ix ix_list (pv 1) pe_int (fun _ _ => rfl)) pe_str (nomark _))))) pss_never pss_nil) (pss_one (ps_ret (pv 2)))))), ?_⟩
    refine ⟨_, rfl, ⟨_, rfl⟩, "", " ", rfl, rfl, rfl, by decide, fun l hl => ?_⟩
    refine ⟨_, rfl, l, _, rfl, .inl (SqL.of upd_same), rfl, _, rfl, ?_⟩
    refine ite2 (fun hc => ?_) (fun hc => ?_)
    · exact absurd hc (by decide +kernel)
    · exact ite2 (fun h => by cases h) (fun _ => ⟨_, rfl, kb _ fun b o hb => by rw [upd_ne (ne_of_none hb hl)]; exact hb⟩)
/-- an error with a field -/
def spBadF (K : PySem.W.Frag) (x : Str) (ok : List V → Hp → Prop) : Sp := fun vs H _ E => ok vs H ∧ ∀ H' d fs, Same H H' → H' d = some (.xd fs) → E (.ref (He.ga K x)) (some d) H'
theorem t_read (Z : Tp w K mg) : FnAtX P w K mg base 4 "read" ["text"] (spBadF K "BadLine" fun vs _ => vs = [.str ""]) := Z.fatX 17 46 rfl rfl (fun _ _ _ _ _ _ us hl => match us, hl with | [_], _ => rfl) fun f fd F => by
  have O : OexF K "BadLine" "line" := oexF_ok (y_1 Z)
  obtain ⟨fdB, bB, GB⟩ := x_BadLine (P := P) (w := w) (base := base) Z
  have sc : FnScope ["text", "lines", "rule", "ear", "at", "line", "deed"] ["text"] (defScope (top 63)) := ⟨rfl, rfl, rfl, by decide +kernel, rfl, by decide +kernel, by decide +kernel⟩
  refine F.ok sc (fun vs H Q E h => ?_) (fun cdv A outer s H vs Q E hr h => ?_)
  · obtain ⟨rfl, _⟩ := h
    rfl
  · obtain ⟨rfl, kb⟩ := h
    let X : Cx := cxOf (L2.CX P w) P w K mg base ["text", "lines", "rule", "ear", "at", "line", "deed"] "read" (defScope (top 63)) f cdv A outer s H E
    have tk : Takes X (fun cls d _ H => E cls d H) := takes_of rfl rfl rfl rfl
    refine ⟨_, pss_cons (ps_set (i := 1) sc.nd rfl (Or.inl rfl) (pe_split (pv 0) pe_str)) (pss_cons (ps_set (i := 2) sc.nd rfl (Or.inl rfl) (pe_at (t_rule_of Z) (hr.mono (show 1 ≤ 3 by decide)) (pa_cons (pe_ix ix_list (pv 1) pe_int (fun _ _ => rfl)) pa_nil)))
      (pss_cons (ps_if (pt_cmp (pc_isN (pv 2))) (pss_one (ps_raiseF rfl tk O GB (hr.mono (show 2 ≤ 3 by decide)) bB (Z.glo 51 rfl) pe_int)) pss_nil) pss_never)), ?_⟩
    refine ⟨_, rfl, ⟨_, rfl⟩, "", "\n", rfl, rfl, rfl, by decide, fun l hl => ⟨_, rfl, l, _, 0, .str "", rfl, rfl, SqL.of upd_same, rfl, rfl, fun H' k => ⟨_, rfl, true, rfl, ?_⟩⟩⟩
    refine ite2 (fun _ => ?_) (fun h => absurd rfl h)
    refine raiseF_of (v := .int 1) ⟨rfl, rfl⟩ (fun dd hd => ?_) fun R R' h1 k => k _ _ h1
    exact kb _ dd _ (fun b o hb => by
      have h1 := k b o (by rw [upd_ne (ne_of_none hb hl)]; exact hb)
      rw [upd_ne (ne_of_none h1 hd)]; exact h1) upd_same
def firstW : T := .obj 2 [.tup [.obj 1 [.bl true, .bl false, .bl false, .bl false, .bl false, .bl false], .obj 1 [.bl false, .bl false, .bl false, .bl false, .bl false, .bl false]], .bl false, .bl true, .tup [], .int 0]
theorem first_is : F_first_world [] = some firstW := by kernel_rfl
/-- a new ear -/
def spEar (K : PySem.W.Frag) : Sp := fun vs H Q _ => ∃ x dx r, vs = [.ref x, r] ∧ H x = some (.ins (He.ga K "Ear") dx []) ∧ ∀ (H' : Hp) (p q : Addr), H' x = some (.ins (He.ga K "Ear") dx [("rule", r), ("rows", .ref p), ("worlds", .ref q)]) → H' p = some (.lst []) → (∀ b o, b ≠ x → H b = some o → H' b = some o) → Q .non H'
theorem x_Ear (Z : Tp w K mg) : ∃ f fd, mg "Ear" = some (.ref (He.ga K "Ear")) ∧ Mk K (He.ga K "Ear") f ∧ Binds K fd ["self", "rule"] [] ∧ FnOk P w K mg base CX0 5 f fd ["self", "rule"] (spEar K) := by
  obtain ⟨fd, F⟩ := Z.d.def_ 18 (d := ⟨("Ear", some "__init__"), "__init__", "Ear.__init__", defArgs (inClass (top 58) 0), defBody (inClass (top 58) 0), defScope (inClass (top 58) 0), [], []⟩) rfl
  have F' : FnP K "__init__" "Ear.__init__" (inClass (top 58) 0) (He.ma K (He.ga K "Ear") "__init__") fd := F
  have sc : FnScope ["self", "rule"] ["self", "rule"] (defScope (inClass (top 58) 0)) := ⟨rfl, rfl, rfl, by decide +kernel, rfl, by decide +kernel, by decide +kernel⟩
  refine ⟨_, fd, Z.glo 50 rfl, He.mkr_ok (Z.d.fact 61 rfl), FunD.bindsN (ps := ["self", "rule"]) F (fun _ _ _ _ _ _ us hl => match us, hl with | [_, _], _ => rfl), ?_⟩
  refine F'.ok sc (fun vs H Q E h => ?_) (fun cdv A outer s H vs Q E hr h => ?_)
  · obtain ⟨x, dx, r, rfl, _⟩ := h
    rfl
  · obtain ⟨x, dx, r, rfl, hx, k⟩ := h
    refine ⟨_, PSs.nox (pss_cons (ps_fld (pv 0) (pv 1) rfl) (pss_cons (ps_fld (pv 0) (pe_lst pa_nil) rfl) (pss_one (ps_fld (pv 0) (pe_lst (pa_cons (pe_at0 (t_first_world Z) hr) pa_nil)) rfl)))), ?_⟩
    refine ⟨_, rfl, _, rfl, x, _, dx, _, rfl, hx, Z.cls 62 rfl, Z.noat 65 rfl, by decide, ?_⟩
    refine ⟨(show 0 ≤ sizeLine by decide), fun p hp => ?_⟩
    have hxp : x ≠ p := fun z => by rw [← z, upd_same] at hp; cases hp
    have hp0 : H p = none := by rw [upd_ne hxp.symm] at hp; exact hp
    refine ⟨_, rfl, x, _, dx, _, rfl, (upd_ne hxp).trans upd_same, Z.cls 62 rfl, Z.noat 66 rfl, Nat.lt_of_le_of_lt (putF_len (Nat.le_refl 0)) (by decide), ?_⟩
    refine ⟨fun _ => none, [], firstW, (fun _ _ z => by cases z), rfl, Reps.nil, first_is, fun v Hi' H' g rv => ⟨(show 1 ≤ sizeLine by decide), fun q hq => ?_⟩⟩
    have hx3 := g.b x _ upd_same
    have hp3 : H' p = some (.lst []) := g.b p _ (by rw [upd_ne hxp.symm]; exact upd_same)
    have hxq : x ≠ q := fun z => by rw [z, hq] at hx3; cases hx3
    have hpq : p ≠ q := fun z => by rw [z, hq] at hp3; cases hp3
    refine ⟨_, rfl, x, _, dx, _, rfl, (upd_ne hxq).trans hx3, Z.cls 62 rfl, Z.noat 67 rfl, Nat.lt_of_le_of_lt (putF_len (putF_len (Nat.le_refl 0))) (by decide), ?_⟩
    refine k _ p q (upd_same.trans (by kernel_rfl)) (by rw [upd_ne hxp.symm, upd_ne hpq]; exact hp3) fun b o hb ho => ?_
    have h3 := g.b b o (by rw [upd_ne hb, upd_ne (ne_of_none ho hp0), upd_ne hb]; exact ho)
    rw [upd_ne hb, upd_ne (ne_of_none h3 hq)]
    exact h3
theorem x_do (Z : Tp w K mg) : ∃ f fd, Meth K (He.ga K "Ear") "do" f ∧ Binds K fd ["self", "deed"] [] ∧ FnOk P w K mg base (L2.CX P w) 3 f fd ["self", "deed"] (spBad K "BadDeed" fun vs H => ∃ x t, vs = [x, .ref t] ∧ H t = some (.tup [.str "write", .int 2])) := by
  have O : Oex0 K "BadDeed" := oex0_ok (y_2 Z)
  obtain ⟨fd, F⟩ := Z.d.def_ 19 (d := ⟨("Ear", some "do"), "do", "Ear.do", defArgs (inClass (top 58) 1), defBody (inClass (top 58) 1), defScope (inClass (top 58) 1), [], []⟩) rfl
  have F' : FnP K "do" "Ear.do" (inClass (top 58) 1) (He.ma K (He.ga K "Ear") "do") fd := F
  have sc : FnScope ["self", "deed", "told", "faults", "world"] ["self", "deed"] (defScope (inClass (top 58) 1)) := ⟨rfl, rfl, rfl, by decide +kernel, rfl, by decide +kernel, by decide +kernel⟩
  refine ⟨_, fd, He.meth_ok (Z.d.fact 63 rfl), FunD.bindsN (ps := ["self", "deed"]) F (fun _ _ _ _ _ _ us hl => match us, hl with | [_, _], _ => rfl), ?_⟩
  refine F'.ok sc (fun vs H Q E h => ?_) (fun cdv A outer s H vs Q E hr h => ?_)
  · obtain ⟨⟨x, t, rfl, _⟩, _⟩ := h
    rfl
  · obtain ⟨⟨x, t, rfl, ht⟩, kb⟩ := h
    let X : Cx := cxOf (L2.CX P w) P w K mg base ["self", "deed", "told", "faults", "world"] "Ear.do" (defScope (inClass (top 58) 1)) (He.ma K (He.ga K "Ear") "do") cdv A outer s H E
    have tk : Takes X (fun cls d _ H => E cls d H) := takes_of rfl rfl rfl rfl
    refine ⟨_, pss_cons (ps_if (pt_not (pt_val (pe_at (t_is_deed Z) hr (pa_cons (pv 1) pa_nil)))) (pss_one (ps_raise0 rfl tk O (Z.glo 53 rfl))) pss_nil) pss_never, ?_⟩
    refine ⟨_, rfl, H, [.tup [.str "write", .int 2]], .bl false, Same.refl _, rfl, Reps.cons (by unfold Rep; exact ⟨t, _, rfl, .inl (.inl ht), Reps.cons (by unfold Rep; rfl) (Reps.cons (by unfold Rep; rfl) Reps.nil)⟩) Reps.nil, by kernel_rfl, fun v Hi' H' g rv => ?_⟩
    unfold Rep at rv
    subst rv
    exact ⟨false, rfl, ite2 (fun _ => kb H' g.b) (fun h => absurd rfl h)⟩
theorem x_undo (Z : Tp w K mg) : ∃ f fd, Meth K (He.ga K "Ear") "undo" f ∧ Binds K fd ["self"] [] ∧ FnOk P w K mg base (L2.CX P w) 1 f fd ["self"] (spBad K "NothingToUndo" fun vs H => ∃ x dx r p q, vs = [.ref x] ∧ H x = some (.ins (He.ga K "Ear") dx [("rule", r), ("rows", .ref p), ("worlds", q)]) ∧ H p = some (.lst [])) := by
  have O : Oex0 K "NothingToUndo" := oex0_ok (y_5 Z)
  obtain ⟨fd, F⟩ := Z.d.def_ 20 (d := ⟨("Ear", some "undo"), "undo", "Ear.undo", defArgs (inClass (top 58) 10), defBody (inClass (top 58) 10), defScope (inClass (top 58) 10), [], []⟩) rfl
  have F' : FnP K "undo" "Ear.undo" (inClass (top 58) 10) (He.ma K (He.ga K "Ear") "undo") fd := F
  have sc : FnScope ["self"] ["self"] (defScope (inClass (top 58) 10)) := ⟨rfl, rfl, rfl, by decide +kernel, rfl, by decide +kernel, by decide +kernel⟩
  refine ⟨_, fd, He.meth_ok (Z.d.fact 64 rfl), FunD.bindsN (ps := ["self"]) F (fun _ _ _ _ _ _ us hl => match us, hl with | [_], _ => rfl), ?_⟩
  refine F'.ok sc (fun vs H Q E h => ?_) (fun cdv A outer s H vs Q E hr h => ?_)
  · obtain ⟨⟨x, dx, r, p, q, rfl, _⟩, _⟩ := h
    rfl
  · obtain ⟨⟨x, dx, r, p, q, rfl, hx, hp⟩, kb⟩ := h
    let X : Cx := cxOf (L2.CX P w) P w K mg base ["self"] "Ear.undo" (defScope (inClass (top 58) 10)) (He.ma K (He.ga K "Ear") "undo") cdv A outer s H E
    have tk : Takes X (fun cls d _ H => E cls d H) := takes_of rfl rfl rfl rfl
    refine ⟨_, pss_cons (ps_if (pt_not (pt_truth (pe_fld (pv 0) rfl) (by intro _; rfl))) (pss_one (ps_raise0 rfl tk O (Z.glo 56 rfl))) pss_nil) pss_never, ?_⟩
    refine ⟨_, rfl, x, _, dx, _, .ref p, rfl, hx, Z.cls 62 rfl, Z.noat 66 rfl, rfl, false, .inl ⟨[], SqL.of hp, rfl⟩, ?_⟩
    exact ite2 (fun _ => kb H (Same.refl _)) (fun h => absurd rfl h)
/-- the six, each by its number -/
def clsN (n : Int) : Str := (nmE[n.toNat]?).getD "BadLine"
def spRaise (K : PySem.W.Frag) : Sp := fun vs H _ E => ∃ n : Int, vs = [.int n] ∧ 0 ≤ n ∧ n < 6 ∧ ∀ (d : Option Addr) (H' : Hp), Same H H' → DictOk d H' → E (.ref (He.ga K (clsN n))) d H'
theorem upS {H : Hp} {x dx C : Addr} (hx : H x = none) (hdx : H dx = none) : Same H (upd (upd H dx (.own x)) x (.ins C dx [])) := fun b o hb => by
  rw [upd_ne (ne_of_none hb hx), upd_ne (ne_of_none hb hdx)]; exact hb
theorem lay1 {H : Hp} {p : Addr} {o : HO} (h : H p = none) : Same H (upd H p o) := fun b u hb => by rw [upd_ne (ne_of_none hb h)]; exact hb
theorem t__law_raise (Z : Tp w K mg) : FnAtX P w K mg base 7 "_law_raise" ["_law_at"] (spRaise K) := Z.fatX 21 47 rfl rfl (fun _ _ _ _ _ _ us hl => match us, hl with | [_], _ => rfl) fun f fd F => by
  obtain ⟨fM, fdM, hG, hM, hB, hF⟩ := x_Rule (P := P) (w := w) (base := base) Z
  obtain ⟨fE, fdE, eG, eM, eB, eF⟩ := x_Ear (P := P) (w := w) (base := base) Z
  obtain ⟨fD, fdD, dM, dB, dF⟩ := x_do (P := P) (w := w) (base := base) Z
  obtain ⟨fU, fdU, uM, uB, uF⟩ := x_undo (P := P) (w := w) (base := base) Z
  have sc : FnScope ["_law_at", "_law_rule"] ["_law_at"] (defScope (top 67)) := ⟨rfl, rfl, rfl, by decide +kernel, rfl, by decide +kernel, by decide +kernel⟩
  refine F.ok sc (fun vs H Q E h => ?_) (fun cdv A outer s H vs Q E hr h => ?_)
  · obtain ⟨n, rfl, _⟩ := h
    rfl
  · obtain ⟨n, rfl, n0, n6, kE⟩ := h
    let X : Cx := cxOf (L2.CX P w) P w K mg base ["_law_at", "_law_rule"] "_law_raise" (defScope (top 67)) f cdv A outer s H E
    have tk : Takes X (fun cls d _ H => E cls d H) := takes_of rfl rfl rfl rfl
    refine ⟨_, pss_cons (ps_set (i := 1) sc.nd rfl (Or.inl rfl) (pe_make hM hF (hr.mono (show 5 ≤ 6 by decide)) rfl hG hB .nil (passes_call tk fun _ _ _ _ z => z) (pa_cons pe_str (pa_cons pe_str (pa_cons pe_str (pa_cons pe_str (pa_cons pe_str pa_nil)))))))
      (pss_cons (ps_if (pt_cmpR op_eq (pv 0) pe_int (nomark _)) (pss_one (ps_expr (pe_meth (pe_make eM eF hr rfl eG eB .nil pass0 (pa_cons (pv 1) pa_nil)) (Z.cls 62 rfl) dM dF (hr.mono (show 3 ≤ 6 by decide)) dB .nil (passes_call tk fun _ _ _ _ z => z) (pa_cons (pe_tup (pa_cons pe_str (pa_cons pe_int pa_nil))) pa_nil)))) pss_nil)
      (pss_cons (ps_if (pt_cmpR op_eq (pv 0) pe_int (nomark _)) (pss_one (ps_expr (pe_atX (t_faults_of Z) (hr.mono (show 2 ≤ 6 by decide)) (passes_call tk fun _ _ _ _ z => z) (pa_cons (pv 1) (pa_cons (pe_lst (pa_cons pe_str pa_nil)) pa_nil))))) pss_nil)
      (pss_cons (ps_if (pt_cmpR op_eq (pv 0) pe_int (nomark _)) (pss_one (ps_expr (pe_atX (t_least Z) (hr.mono (show 2 ≤ 6 by decide)) (passes_call tk fun _ _ _ _ z => z) (pa_cons (pv 1) (pa_cons pe_str (pa_cons (pe_lst (pa_cons pe_str pa_nil)) pa_nil)))))) pss_nil)
      (pss_cons (ps_if (pt_cmpR op_eq (pv 0) pe_int (nomark _)) (pss_one (ps_expr (pe_meth0 (pe_make eM eF hr rfl eG eB .nil pass0 (pa_cons (pv 1) pa_nil)) (Z.cls 62 rfl) uM uF (hr.mono (show 1 ≤ 6 by decide)) uB .nil (passes_call tk fun _ _ _ _ z => z)))) pss_nil)
      (pss_cons (ps_if (pt_cmpR op_eq (pv 0) pe_int (nomark _)) (pss_one (ps_expr (pe_make hM hF (hr.mono (show 5 ≤ 6 by decide)) rfl hG hB .nil (passes_call tk fun _ _ _ _ z => z) (pa_cons pe_str (pa_cons pe_str (pa_cons pe_str (pa_cons pe_str (pa_cons pe_str pa_nil)))))))) pss_nil)
      (pss_one (ps_if (pt_cmpR op_eq (pv 0) pe_int (nomark _)) (pss_one (ps_expr (pe_atX (t_read Z) (hr.mono (show 4 ≤ 6 by decide)) (passes_call tk fun _ _ _ _ z => z) (pa_cons pe_str pa_nil)))) pss_nil))))))), ?_⟩
    intro x dx hx hdx hne
    refine ⟨x, dx, _, fun _ => none, [.str "told", .str "all", .str "drop", .str "drop", .str "once"], rfl, rfl, (fun _ _ z => by cases z), Reps.strs ["told", "all", "drop", "drop", "once"], rfl, upd_same, fun _ H1 hx1 k1 => ⟨rfl, ?_⟩, fun n hn => by cases (show (none : Option Str) = some n from hn)⟩
    have s1 : Same H H1 := fun b o hb => k1 b o (ne_of_none hb hx) (upS hx hdx b o hb)
    have hn : n = 0 ∨ n = 1 ∨ n = 2 ∨ n = 3 ∨ n = 4 ∨ n = 5 := by omega
    rcases hn with rfl | rfl | rfl | rfl | rfl | rfl
    · refine ⟨_, rfl, rfl, _, rfl, ite2 (fun _ => ?_) (fun h => absurd (by decide +kernel) h)⟩
      refine ⟨_, rfl, fun y dy hy hdy hny => ⟨y, dy, _, rfl, upd_same, fun H2 p q hy2 hp2 k2 => ⟨rfl, y, dy, _, rfl, hy2, rfl, (show 2 ≤ sizeLine by decide), fun t ht => ⟨⟨_, t, rfl, upd_same⟩, fun H' k => ?_⟩⟩⟩⟩
      exact kE none H' (s1.trans (Same.trans (fun b o hb => k2 b o (ne_of_none hb hy) (upS hy hdy b o hb)) ((lay1 ht).trans k))) trivial
    · refine ⟨_, rfl, rfl, _, rfl, ite2 (fun h => absurd h (by decide +kernel)) (fun _ => ?_)⟩
      refine ⟨_, rfl, rfl, _, rfl, ite2 (fun _ => ?_) (fun h => absurd (by decide +kernel) h)⟩
      refine ⟨_, rfl, (show 1 ≤ sizeLine by decide), fun l hl => ⟨⟨_, l, rfl, upd_same⟩, fun H' k => ?_⟩⟩
      exact kE none H' (s1.trans ((lay1 hl).trans k)) trivial
    · refine ⟨_, rfl, rfl, _, rfl, ite2 (fun h => absurd h (by decide +kernel)) (fun _ => ?_)⟩
      refine ⟨_, rfl, rfl, _, rfl, ite2 (fun h => absurd h (by decide +kernel)) (fun _ => ?_)⟩
      refine ⟨_, rfl, rfl, _, rfl, ite2 (fun _ => ?_) (fun h => absurd (by decide +kernel) h)⟩
      refine ⟨_, rfl, (show 1 ≤ sizeLine by decide), fun l hl => ⟨⟨_, _, rfl⟩, fun H' k => ?_⟩⟩
      exact kE none H' (s1.trans ((lay1 hl).trans k)) trivial
    · refine ⟨_, rfl, rfl, _, rfl, ite2 (fun h => absurd h (by decide +kernel)) (fun _ => ?_)⟩
      refine ⟨_, rfl, rfl, _, rfl, ite2 (fun h => absurd h (by decide +kernel)) (fun _ => ?_)⟩
      refine ⟨_, rfl, rfl, _, rfl, ite2 (fun h => absurd h (by decide +kernel)) (fun _ => ?_)⟩
      refine ⟨_, rfl, rfl, _, rfl, ite2 (fun _ => ?_) (fun h => absurd (by decide +kernel) h)⟩
      refine ⟨_, rfl, fun y dy hy hdy hny => ⟨y, dy, _, rfl, upd_same, fun H2 p q hy2 hp2 k2 => ⟨rfl, y, dy, _, rfl, hy2, rfl, ⟨y, dy, _, p, _, rfl, hy2, hp2⟩, fun H' k => ?_⟩⟩⟩
      exact kE none H' (s1.trans (Same.trans (fun b o hb => k2 b o (ne_of_none hb hy) (upS hy hdy b o hb)) k)) trivial
    · refine ⟨_, rfl, rfl, _, rfl, ite2 (fun h => absurd h (by decide +kernel)) (fun _ => ?_)⟩
      refine ⟨_, rfl, rfl, _, rfl, ite2 (fun h => absurd h (by decide +kernel)) (fun _ => ?_)⟩
      refine ⟨_, rfl, rfl, _, rfl, ite2 (fun h => absurd h (by decide +kernel)) (fun _ => ?_)⟩
      refine ⟨_, rfl, rfl, _, rfl, ite2 (fun h => absurd h (by decide +kernel)) (fun _ => ?_)⟩
      refine ⟨_, rfl, rfl, _, rfl, ite2 (fun _ => ?_) (fun h => absurd (by decide +kernel) h)⟩
      intro y dy hy hdy hny
      refine ⟨y, dy, _, fun _ => none, [.str "told", .str "all", .str "drop", .str "drop", .str "twice"], rfl, rfl, (fun _ _ z => by cases z), Reps.strs ["told", "all", "drop", "drop", "twice"], rfl, upd_same, fun hn => (by cases (show some ("ways" : Str) = none from hn)), fun n hn d H' h1 h2 h3 => ?_⟩
      exact kE (some d) H' (s1.trans ((upS hy hdy).trans h3)) ⟨_, h2⟩
    · refine ⟨_, rfl, rfl, _, rfl, ite2 (fun h => absurd h (by decide +kernel)) (fun _ => ?_)⟩
      refine ⟨_, rfl, rfl, _, rfl, ite2 (fun h => absurd h (by decide +kernel)) (fun _ => ?_)⟩
      refine ⟨_, rfl, rfl, _, rfl, ite2 (fun h => absurd h (by decide +kernel)) (fun _ => ?_)⟩
      refine ⟨_, rfl, rfl, _, rfl, ite2 (fun h => absurd h (by decide +kernel)) (fun _ => ?_)⟩
      refine ⟨_, rfl, rfl, _, rfl, ite2 (fun h => absurd h (by decide +kernel)) (fun _ => ?_)⟩
      refine ⟨_, rfl, rfl, _, rfl, ite2 (fun _ => ?_) (fun h => absurd (by decide +kernel) h)⟩
      refine ⟨rfl, fun H' d fs k hd => ?_⟩
      exact kE (some d) H' (s1.trans k) ⟨_, hd⟩
structure Kinds (K : PySem.W.Frag) (D : Str) : Prop where
  k : exkB K (He.ga K D) = true
  x : PySem.W.exmOne K (.ref (He.ga K D)) (.ref (He.ga K "HearError")) = some true
  v : PySem.W.kitOne K (.ref (He.ga K D)) (.type "ValueError") = some true
  c : ∀ C, C ∈ nmE → PySem.W.kitOne K (.ref (He.ga K D)) (.ref (He.ga K C)) = some (D == C)
theorem kinds_of (h : kindsB K = true) {D : Str} (hd : D ∈ nmE) : Kinds K D := by
  have h1 := List.all_eq_true.mp h D hd
  obtain ⟨h2, h3⟩ := He.ba h1
  obtain ⟨h4, h5⟩ := He.ba h3
  obtain ⟨h6, h7⟩ := He.ba h5
  exact ⟨h2, of_decide_eq_true h4, of_decide_eq_true h6, fun C hC => of_decide_eq_true (List.all_eq_true.mp h7 C hC)⟩
def boolsV (D : Str) : List Bool := [D == "BadDeed", D == "BadWords", D == "BadFault", D == "NothingToUndo", D == "BadRule", D == "BadLine", true]
def spKinds (a : Addr) (d : Option Addr) (D : Str) : Sp := fun vs H Q _ => vs = [.ref a] ∧ DictOk d H ∧ ∀ (r : Addr) (H' : Hp), Same H H' → H' r = some (.lst ((boolsV D).map V.bl)) → Q (.ref r) H'
theorem x_kinds (Z : Tp w K mg) {D : Str} (hD : D ∈ nmE) : ∃ f fd, mg "_law_kinds" = some (.ref f) ∧ PySem.W.keepIn K (.ref f) = true ∧ Binds K fd ["_law_e"] [] ∧ ∀ a oe d, Zc (.ref (He.ga K D)) d oe → (∃ vs, oe.data = .fields vs) → FnOkE P w K mg base 1 f fd ["_law_e"] a oe (spKinds a d D) := by
  have W := kinds_of (y_6 Z) hD
  obtain ⟨fd, F⟩ := Z.d.def_ 22 (d := ⟨("_law_kinds", none), "_law_kinds", "_law_kinds", defArgs (top 68), defBody (top 68), defScope (top 68), [], []⟩) rfl
  have F' : FnP K "_law_kinds" "_law_kinds" (top 68) (He.ga K "_law_kinds") fd := F
  have sc : FnScope ["_law_e", "_law_told"] ["_law_e"] (defScope (top 68)) := ⟨rfl, rfl, rfl, by decide +kernel, rfl, by decide +kernel, by decide +kernel⟩
  refine ⟨_, fd, Z.glo 48 rfl, F'.kp, FunD.bindsN (ps := ["_law_e"]) F (fun _ _ _ _ _ _ us hl => match us, hl with | [_], _ => rfl), fun a oe d hz hf => ?_⟩
  refine fn_okE F' sc (fun vs H Q E h => ?_) (fun cdv A outer s H vs Q hr h => ?_)
  · obtain ⟨rfl, _⟩ := h
    rfl
  · obtain ⟨rfl, hd, k⟩ := h
    let X : Cx := cxH CX0 P w K mg base ["_law_e", "_law_told"] "_law_kinds" (defScope (top 68)) (He.ga K "_law_kinds") cdv A outer s H E0 (a, oe)
    have hC : CallR X (.builtin "isinstance") (rIsB X.K (He.ga K D) a d) := call_isB W.k List.mem_cons_self hz hf
    refine ⟨_, pss_cons (ps_set (i := 1) sc.nd rfl (Or.inl rfl) (pe_lst (pa_cons (pe_callB hC (by rfl) (Z.free 3 rfl) (by decide +kernel) (pa_cons (pv 0) (pa_cons (pe_glob (by rfl) (Z.glo 53 rfl) (v := .ref (He.ga K "BadDeed")) rfl) pa_nil)))
      (pa_cons (pe_callB hC (by rfl) (Z.free 3 rfl) (by decide +kernel) (pa_cons (pv 0) (pa_cons (pe_glob (by rfl) (Z.glo 54 rfl) (v := .ref (He.ga K "BadWords")) rfl) pa_nil)))
      (pa_cons (pe_callB hC (by rfl) (Z.free 3 rfl) (by decide +kernel) (pa_cons (pv 0) (pa_cons (pe_glob (by rfl) (Z.glo 55 rfl) (v := .ref (He.ga K "BadFault")) rfl) pa_nil)))
      (pa_cons (pe_callB hC (by rfl) (Z.free 3 rfl) (by decide +kernel) (pa_cons (pv 0) (pa_cons (pe_glob (by rfl) (Z.glo 56 rfl) (v := .ref (He.ga K "NothingToUndo")) rfl) pa_nil))) pa_nil))))))
      (pss_one (ps_ret (pe_op op_cat (pv 1) (pe_lst (pa_cons (pe_callB hC (by rfl) (Z.free 3 rfl) (by decide +kernel) (pa_cons (pv 0) (pa_cons (pe_glob (by rfl) (Z.glo 11 rfl) (v := .ref (He.ga K "BadRule")) rfl) pa_nil)))
      (pa_cons (pe_callB hC (by rfl) (Z.free 3 rfl) (by decide +kernel) (pa_cons (pv 0) (pa_cons (pe_glob (by rfl) (Z.glo 51 rfl) (v := .ref (He.ga K "BadLine")) rfl) pa_nil)))
      (pa_cons (pe_callB hC (by rfl) (Z.free 3 rfl) (by decide +kernel) (pa_cons (pv 0) (pa_cons (pe_bltn (by rfl) (Z.free 59 rfl) (u := .type "ValueError") (by decide +kernel) (v := .ty "ValueError") rfl) pa_nil))) pa_nil))))))), ?_⟩
    refine ⟨_, rfl, _, _, _, rfl, fun _ h => h, W.c "BadDeed" (by decide), hd, _, rfl, _, _, _, rfl, fun _ h => h, W.c "BadWords" (by decide), hd, _, rfl, _, _, _, rfl, fun _ h => h, W.c "BadFault" (by decide), hd, _, rfl, _, _, _, rfl, fun _ h => h, W.c "NothingToUndo" (by decide), hd, (show 4 ≤ sizeLine by decide), fun l hl => ?_⟩
    have hd2 := hd.keep (lay1 (o := .lst [V.bl (D == "BadDeed"), .bl (D == "BadWords"), .bl (D == "BadFault"), .bl (D == "NothingToUndo")]) hl)
    refine ⟨_, rfl, _, rfl, _, _, _, rfl, fun _ h => h, W.c "BadRule" (by decide), hd2, _, rfl, _, _, _, rfl, fun _ h => h, W.c "BadLine" (by decide), hd2, _, rfl, _, _, _, rfl, fun _ h => h, W.v, hd2, (show 3 ≤ sizeLine by decide), fun m hm => ?_⟩
    have hlm : l ≠ m := fun z => by rw [← z, upd_same] at hm; cases hm
    refine ⟨l, m, _, _, rfl, rfl, (upd_ne hlm).trans upd_same, upd_same, (show 7 ≤ sizeLine by decide), fun r hr2 => ?_⟩
    exact k r _ ((lay1 hl).trans ((lay1 hm).trans (lay1 hr2))) upd_same
theorem ps_ex {X : Cx} {st : List Stmt} {ι : Type} {p : ι → Prop} {t : ι → TS} (h : ∀ i, p i → PSs X st (t i)) : PSs X st (fun D σ H => ∃ i, p i ∧ t i D σ H) := ⟨fun pins s σ H D I ⟨i, hp, q⟩ => (h i hp).run pins s σ H D I q⟩
abbrev gRet : En → Option R := (sRet (e2 (oEqD false) (eVar 3) (e2 oCatL (eLcR (eC (.int 6)) (fun t env => some (env.set 5 (some (.imm t)))) (fun _ => some true) (e2 (oEq false) (eVar 5) (eVar 2)) [5]) (eLst (aCons (eC (.bl true)) aNil)))))
theorem ret_is {D : Str} {n : Int} (h0 : 0 ≤ n) (h6 : n < 6) (hD : D = clsN n) : gRet [none, none, some (.imm (.int n)), some (.imm (.lst ((boolsV D).map T.bl))), none, none] = some (.rt (.bl true)) := by
  subst hD
  have hn : n = 0 ∨ n = 1 ∨ n = 2 ∨ n = 3 ∨ n = 4 ∨ n = 5 := by omega
  rcases hn with rfl | rfl | rfl | rfl | rfl | rfl <;> kernel_rfl
theorem clsN_mem {n : Int} (h0 : 0 ≤ n) (h6 : n < 6) : clsN n ∈ nmE := by
  have hn : n = 0 ∨ n = 1 ∨ n = 2 ∨ n = 3 ∨ n = 4 ∨ n = 5 := by omega
  rcases hn with rfl | rfl | rfl | rfl | rfl | rfl <;> decide +kernel
theorem Reps.bls {H : Hp} : ∀ (c : List Bool), Reps K H (c.map T.bl) (c.map V.bl)
  | [] => Reps.nil
  | x :: c => Reps.cons (by unfold Rep; rfl) (Reps.bls c)
def spLaw (K : PySem.W.Frag) : Sp := fun vs H Q _ => ∃ (a : Addr) (ns : List Int), vs = [.ref a] ∧ SqL K H a (ns.map V.int) ∧ ns.length ≤ 63 ∧ ∀ H', Q (.bl true) H'
abbrev s_law : Stmt := (top 69)
abbrev N_law : List Str := ["_law_script", "_law_draws", "_law_at", "_law_told", "_law_e", "_law_k"]
theorem sc_law : FnScope N_law ["_law_script"] (defScope s_law) := ⟨rfl, rfl, rfl, by decide +kernel, rfl, by decide +kernel, by decide +kernel⟩
theorem ok_law (Z : Tp w K mg) {f : Addr} {fd : FuncData} (F : FnP K "law" "law" s_law f fd) : FnOk P w K mg base CX0 8 f fd ["_law_script"] (spLaw K) := by
  refine F.ok sc_law (fun vs H Q E h => ?_) (fun cdv A outer s H vs Q E hr h => ?_)
  · obtain ⟨a, ns, rfl, _⟩ := h
    rfl
  · obtain ⟨a, ns, rfl, hs, hn, kk⟩ := h
    let X : Cx := (cxOf CX0 P w K mg base N_law "law" (defScope s_law) f cdv A outer s H E).nox
    have tk : Takes X (fun _ _ _ _ => False) := fun u s' ⟨_, _, _, _, _, _, _, _, _, _, _, _, _, _, _, _, w⟩ => w.elim
    have hret : SF X ((defBody s_law).getD 4 (.Pass ⟨0, 0, 0, 0⟩)) _ gRet := (sf_ret (ef_cmp (r := rEqD K) (op_eqD hr.units) ok_eqD (ef_var 3) (ef_bin op_cat ok_catL (ef_lcR [("_law_k", 5)] rfl sc_law.nd (Z.free 58 rfl) ef_int (blkOk_by (N := N_law) (sc := defScope s_law) (by decide +kernel)) (fun _ _ _ _ _ => (gf_name 5 sc_law.nd)) (fun _ _ _ _ _ => tsf_nil) (fun _ _ _ _ _ => (ef_cmp op_eq ok_eq (ef_var 5) (ef_var 2) (nomark _)))) (ef_lst (af_cons ef_bl af_nil))) (nomark _)))
    refine ⟨_, PSs.nox (X := cxOf CX0 P w K mg base N_law "law" (defScope s_law) f cdv A outer s H E) (pss_cons (ps_set (i := 1) sc_law.nd rfl (Or.inl rfl) (pe_at (t__law_begin Z) (hr.mono (show 1 ≤ 7 by decide)) (pa_cons (pv 0) pa_nil)))
      (pss_cons (ps_set (i := 2) sc_law.nd rfl (Or.inr rfl) (pe_at (t__law_draw Z) (hr.mono (show 1 ≤ 7 by decide)) (pa_cons (pv 1) (pa_cons pe_int pa_nil)))) (pss_cons (ps_set (i := 3) sc_law.nd rfl (Or.inl rfl) (pe_lst pa_nil))
      (pss_cons (ps_try_as (X := X) (i := 4) (c := .ref (He.ga K "HearError")) (tb := fun W => tDrop (tCallS (spRaise K) (WE W) (tCons (tVar 2) tNil))) (ts := fun a cls d => fun D σ H => ∃ n : Int, (0 ≤ n ∧ n < 6 ∧ cls = .ref (He.ga K (clsN n))) ∧ tAsg (tCall (spKinds a d (clsN n)) [] E0 (tCons (tVar 4) tNil)) (gName 3) D σ H) (Wout := fun _ _ _ _ => False) rfl rfl sc_law.nd rfl rfl ⟨rfl, by decide, Or.inl (Z.glo 52 rfl)⟩ tk
        (fun W pn xe tk' _ => pss_one (ps_expr (pe_atXS (t__law_raise Z) hr tk' (pa_cons (pv 2) pa_nil))))
        (fun a oe cls d pn hz hf => ps_ex fun n hn => by
          obtain ⟨h0, h6, rfl⟩ := hn
          obtain ⟨fK, fdK, kG, kK, kB, kF⟩ := x_kinds (P := P) (w := w) (base := base) Z (clsN_mem h0 h6)
          exact pss_one (ps_set (i := 3) sc_law.nd rfl (Or.inl rfl) (pe_callErr (kF a oe d hz hf) ⟨(hr.mono (show 1 ≤ 7 by decide)).dp, (hr.mono (show 1 ≤ 7 by decide)).un⟩ kG kK kB (pa_cons (pv 4) pa_nil))))) (pss_one hret.p))))), ?_⟩
    refine ⟨_, rfl, a, ns, rfl, hs, hn, fun d l H1 D1 n1 n2 k1 => ?_⟩
    refine ⟨_, rfl, d, l, 6, rfl, D1, by decide, by decide, fun n H2 m0 m1 D2 k2 => ⟨(show 0 ≤ sizeLine by decide), fun e he => ?_⟩⟩
    refine ⟨_, rfl, n, rfl, m0, m1, fun dd H3 k3 dk => ⟨true, (kinds_of (y_6 Z) (clsN_mem m0 m1)).x, fun _ a' ha' => ⟨n, ⟨m0, m1, rfl⟩, _, rfl, rfl, dk, fun r H4 k4 hr4 => ?_⟩, fun z => by cases z⟩⟩
    refine hret.q H4 H4 H4 H4 [some (.ref a), some (.ref d), some (.int n), some (.ref r), none, none] [none, none, some (.imm (.int n)), some (.imm (.lst ((boolsV (clsN n)).map T.bl))), none, none] _ _ (Grow.refl (Same.refl _)) (REnv.of ⟨⟨_, rfl, by unfold Rep; rfl⟩, ⟨_, rfl, by unfold Rep; exact ⟨r, _, rfl, hr4, Reps.bls _⟩⟩, trivial⟩ (Same.refl _)) (ret_is m0 m1 rfl) ?_
    intro v Hi12 H12 g12 rv
    unfold Rep at rv
    subst rv
    exact kk H12

end
end My


set_option Elab.async false
set_option linter.all false
set_option maxRecDepth 100000
set_option maxHeartbeats 8000000
namespace My
open PySem PySem.Spec PyProof.Rows L2 PL
abbrev Rw : PySem.W.OpenRow := PySem.W.OpenLaw.row PySem.Challenge.rw_hearsofit_k13_errors_are_apart
def hk : PySem.W.Hook := PL.hookP 5 fa fn tabs ex
def ob (s : PySem.W.SharedT) : He.AlT × Bool := PL.obsP 5 fa fn tabs ex (HandSHeadRun.getT s)
theorem ob_eq (s : PySem.W.SharedT) : ob s = hk.obs s.abs := PL.obsP_eq (HandSHeadRun.getT_eq s)
def nm0 : List Str := ["_wall", "HearError", "BadDeed", "BadWords", "BadFault", "NothingToUndo", "BadRule", "BadLine", "PARTS", "CHOICES", "WORDS", "FAULTS", "SINGLE", "TRIPLE", "Rule", "numbers_for", "is_deed", "GONE", "Thing", "World", "nothing", "plain", "first_world", "is_seen", "with_thing", "without_thing", "turned", "TURNS", "after_turn", "after_follow"]
def nm1 : List Str := ["after_leave", "after_side", "after_merge", "after_copy", "after", "ways_to_hear", "write_faults", "written", "is_shown", "read_faults", "done", "shortened", "flags", "world_text", "check_words", "check_fault", "deeds_of", "walk", "least", "possible", "faults_of", "told_of", "Ear", "FIGURES", "rule_of", "deed_of", "read", "_law_begin", "_law_draw", "_law_raise"]
def nm2 : List Str := ["_law_kinds"]
def nms : List Str := nm0 ++ nm1 ++ nm2
theorem tri {α β γ δ : Type} {x : Option α} {a : α → β} {b : α → γ} {c : α → δ} {u : β} {v : γ} {t : δ} (h1 : x.map a = some u) (h2 : x.map b = some v) (h3 : x.map c = some t) : x.map (fun s => (a s, b s, c s)) = some (u, v, t) := by
  cases x with
  | none => cases h1
  | some s =>
    cases Option.some.inj h1
    cases Option.some.inj h2
    cases Option.some.inj h3
    rfl
theorem run_f1 (w : World) (os : OsState) : (HandSHeadRun.endF (HandSHeadRun.stepQ (HandSHeadRun.denQ HandSHeadRun.tabQ) Rw.prog (w.withFollow "special-get-raises" false)) 20000 Rw.prog (w.withFollow "special-get-raises" false) os).map (fun s => HandSHeadRun.looksF Rw.prog (PySem.W.boot_heap (w.withFollow "special-get-raises" false).params) s.abs) = some true := by
  kernel_rfl
theorem run_f2 (w : World) (os : OsState) : (HandSHeadRun.endF (HandSHeadRun.stepQ (HandSHeadRun.denQ HandSHeadRun.tabQ) Rw.prog (w.withFollow "special-get-raises" false)) 20000 Rw.prog (w.withFollow "special-get-raises" false) os).map (fun s => HandSHeadRun.seenQ (PySem.W.view Rw.prog [69]) nms (importedModules Rw.prog.main.body) (fun s => PySem.W.xlAt (PySem.W.view Rw.prog [69]) [] s && PySem.W.recOk Rw.records s) s.abs) = some (PySem.W.openGood (PySem.W.view Rw.prog [69]) nms) := by
  kernel_rfl
theorem run_f3 (w : World) (os : OsState) : (HandSHeadRun.endF (HandSHeadRun.stepQ (HandSHeadRun.denQ HandSHeadRun.tabQ) Rw.prog (w.withFollow "special-get-raises" false)) 20000 Rw.prog (w.withFollow "special-get-raises" false) os).map (fun s => ob s) = some (hk.val (w.withFollow "special-get-raises" false)) := by
  kernel_rfl
theorem run_t1 (w : World) (os : OsState) : (HandSHeadRun.endF (HandSHeadRun.stepQ (HandSHeadRun.denQ HandSHeadRun.tabQ) Rw.prog (w.withFollow "special-get-raises" true)) 20000 Rw.prog (w.withFollow "special-get-raises" true) os).map (fun s => HandSHeadRun.looksF Rw.prog (PySem.W.boot_heap (w.withFollow "special-get-raises" true).params) s.abs) = some true := by
  kernel_rfl
theorem run_t2 (w : World) (os : OsState) : (HandSHeadRun.endF (HandSHeadRun.stepQ (HandSHeadRun.denQ HandSHeadRun.tabQ) Rw.prog (w.withFollow "special-get-raises" true)) 20000 Rw.prog (w.withFollow "special-get-raises" true) os).map (fun s => HandSHeadRun.seenQ (PySem.W.view Rw.prog [69]) nms (importedModules Rw.prog.main.body) (fun s => PySem.W.xlAt (PySem.W.view Rw.prog [69]) [] s && PySem.W.recOk Rw.records s) s.abs) = some (PySem.W.openGood (PySem.W.view Rw.prog [69]) nms) := by
  kernel_rfl
theorem run_t3 (w : World) (os : OsState) : (HandSHeadRun.endF (HandSHeadRun.stepQ (HandSHeadRun.denQ HandSHeadRun.tabQ) Rw.prog (w.withFollow "special-get-raises" true)) 20000 Rw.prog (w.withFollow "special-get-raises" true) os).map (fun s => ob s) = some (hk.val (w.withFollow "special-get-raises" true)) := by
  kernel_rfl
theorem run (w : World) : HandSHeadRun.RunEq Rw (PySem.W.view Rw.prog [69]) hk ob 20000 nms w := by
  refine PySem.W.byRow2 "special-get-raises" (P := fun w => HandSHeadRun.RunEq Rw (PySem.W.view Rw.prog [69]) hk ob 20000 nms w) ?_ ?_ w
  · intro w os
    exact tri (run_f1 w os) (run_f2 w os) (run_f3 w os)
  · intro w os
    exact tri (run_t1 w os) (run_t2 w os) (run_t3 w os)
end My
open PySem PySem.Spec PyProof.Rows L2 PL
namespace My
theorem facts {P : Program} {w : World} {K : PySem.W.Frag} {h : Heap} {mg : Str → Option Value} {f : Addr} (X : K.In h) (G : h.Ns mainGlobals mg) (hfa : mg ("law" : Str) = some (.ref f)) (c : He.SaysT fa fn tabs w K) (e : ex K = true) :
    ∃ fd : FuncData, (∀ (s : Shared) (v : Value), BindsTo s fd ⟨[v], []⟩ [("_law_script", v)]) ∧ ∀ base : Heap, K.In base → base.Ns mainGlobals mg → FnOk P w K mg base CX0 8 f fd ["_law_script"] (My.spLaw K) := by
  have Z : Tp w K mg := ⟨⟨h, X, G⟩, c, e⟩
  obtain ⟨fd, F⟩ := Z.d.def_ 23 (d := ⟨("law", none), "law", "law", defArgs (top 69), defBody (top 69), defScope (top 69), [], []⟩) rfl
  have e1 := hfa.symm.trans (Z.glo 49 (x := "law") rfl)
  cases e1
  have b := FunD.bindsA (ps := ["_law_script"]) F fun _ _ _ _ _ _ us hl => match us, hl with | [_], _ => rfl
  exact ⟨fd, fun s v => b s [v] rfl, fun base _ _ => ok_law Z F⟩
end My
open PySem PySem.W PySem.Calls PyProof.Rows
theorem PySem.Challenge.cw_hearsofit_k13_errors_are_apart_holds : PySem.Challenge.rw_hearsofit_k13_errors_are_apart.Holds := by
  w_on; o_law
  refine HandSHeadRun.head_any (r := OpenLaw.row PySem.Challenge.rw_hearsofit_k13_errors_are_apart) (q := view (OpenLaw.row PySem.Challenge.rw_hearsofit_k13_errors_are_apart).prog [69]) (H := My.hk) (ob := My.ob) (M := 20000) (loose := My.nms) (d := HandSHeadRun.topDef (OpenLaw.row PySem.Challenge.rw_hearsofit_k13_errors_are_apart).prog 69) (kwd := []) My.ob_eq
    (by kernel_rfl) (fun s => by kernel_rfl) My.run (by kernel_rfl) (by kernel_rfl) (by kernel_rfl) (by rfl) (by first | assumption | decide +kernel) (by decide +kernel) ⟨rfl, rfl, rfl, rfl, rfl, by decide +kernel⟩ ?hw ?hc
  case hw => w_witness2
  case hc =>
    refine L2.walk_ofE (l := PySem.Challenge.rw_hearsofit_k13_errors_are_apart) (n := 63) (k := 8) (x := "_law_script") (CX := L2.CX0) rfl (by decide) (by kernel_rfl) ⟨rfl, by decide, by decide⟩ ?F (fun _ _ _ _ z => z)
    intro w mg fa h Y G hmg0
    obtain ⟨K, KX, c, e⟩ := Y
    have hmg : mg ("law" : PySem.Str) = some (.ref fa) := by
      have e : (HandSHeadRun.topDef (OpenLaw.row PySem.Challenge.rw_hearsofit_k13_errors_are_apart).prog 69).name = ("law" : PySem.Str) := by kernel_rfl
      rw [← e]
      exact hmg0
    obtain ⟨fd, hb, hF⟩ := My.facts (P := (PySem.Challenge.rw_hearsofit_k13_errors_are_apart).prog) (w := w) KX G hmg c e
    exact ⟨K, fd, My.spLaw K, KX, hb, fun H a ns hl _ hS => ⟨a, ns, rfl, hS, hl, fun _ => rfl⟩, hF⟩

